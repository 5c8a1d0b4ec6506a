import Derived.Test.YtepaolcgegdpoaaGreatK6
/- Texts LW27 to LW39. -/
set_option linter.all false
namespace Go.Eng
open Go Go.Proofs
noncomputable section
theorem yg{α:Type}{p:α->Bool}{l:List α}{i:Nat}(h:i<l.length):(l.take (i+1)).all p=((l.take i).all p&&p l[i]):=by
 rw[List.take_add_one,List.getElem?_eq_getElem h,List.all_append]
 simp
theorem NF{x:Vw}{d:Ds}{l:List Sig}{i:Nat}(h:i<l.length):dI x d (l.take (i+1))=fZ x (dI x d (l.take i)) l[i]:=by
 unfold dI
 rw[List.take_add_one,List.getElem?_eq_getElem h,List.foldl_append]
 rfl
theorem BQ(x:Vw)(d:Ds)(s:Sig):bp ⟨x.l,x.rs,x.ts,x.bk,d⟩ s=bp x s:=rfl
theorem nW.ds{x:Vw}(h:nW x)(d:Ds):nW ⟨x.l,x.rs,x.ts,x.bk,d⟩:=⟨h.ok,h.bk,h.rs,h.rn,h.tn,h.ts⟩
theorem T9(x:Vw)(d:Ds)(i:Int)(r:Rg):C7 ⟨x.l,x.rs,x.ts,x.bk,d⟩ i r=jW d i r:=rfl
theorem acs{H H':Name->Option O}{NZ:List (V×V)}(gv:upd H [2,1] (some (.map 0 NZ))=H')(ae:∀ hs es,ck [0] (b8 [0] hs) (fun nm=>if nm=[2,1]then some (.map 0 es)else H nm)=True):
 (∀ hs,ck [0] (b8 [0] hs) H'=True)/\∀ hs es,ck [0] (b8 [0] hs) (fun nm=>if nm=[2,1]then some (.map 0 es)else H' nm)=True:=by
 refine⟨fun hs=>by rw[<-gv];exact ae hs NZ,fun hs es=>?_⟩
 have e:(fun nm=>if nm=[2,1]then some (.map 0 es)else H' nm)=fun nm=>if nm=[2,1]then some (.map 0 es)else H nm:=by
  funext nm
  rw[<-gv]
  by_cases e:nm=[2,1]
  ·simp[e]
  ·simp[bc _ _ _ e,e]
 rw[e];exact ae hs es
theorem QG{α β:Type}[DecidableEq α]{f:α->β}{a:α}{b:β}(h:f a=b):upd f a b=f:=by
 funext x
 by_cases e:x=a
 ·subst e;rw[aT,h]
 ·rw[bc _ _ _ e]
def yQ(d:Ds)(i:Int):Bool:=decide ((aV d i).1<=(aV d i).2)
def K27:List (Nat×Spec):=[(187,S187),(165,S165)]
theorem adh:KS K27:=tc WB<|tc DH<|tn
attribute [go_sem] K27
def PO:VSpec:=v1 (fW iS) (fun x l=>((nW x/\x.rs.Nodup)/\l.length<=60)/\∀ s∈l,B8 s) (fun x l=>.v (.bool (fa x l))) (some fun x l=>dI x x.ds l)
def S128:Spec:=PO.toSpec
attribute [go_sem] PO S128
set_option maxHeartbeats 8000000 in
theorem WH:aN Tryz.prog 128 S128:=by
 refine yy (rs:=[.tmp 4]) Tryz.func128 Tryz.ntmps128 (by rfl) (by kernel_rfl) (by decide) (fun _ _=>by first | rfl | simp[D.clos,D.closL,lU]) ⟨_,rfl,lb rfl,fun x l hp H h0 h1 h2 hO ae=>?_⟩
 simp only[iS,fW,encS,bC,dm,List.map_cons,List.map_nil,Nat.zero_add,Option.map_some,Option.map_none]at h0 |-
 have hΓ:=adh
 obtain⟨⟨⟨hv,cM⟩,hln⟩,zV⟩:=hp
 have u2:l.length<=maxLen:=by unfold maxLen;omega
 have w9:x.ts.length<=maxLen:=by have:=hv.tn;unfold maxLen;omega
 have bq:∀ hs es,ck [0] (b8 [0] hs) (upd H [2,1] (some (.map 0 es)))=True:=ae
 repeat refine sq ?_
 refine rx hΓ [0,1] [] (fun K' hK=>by simp only[go_sem,hO,ae,bq,h0,h1,h2];(repeat (refine⟨ak,?_⟩));exact hK _ (by simp only[go_sem,hO,ae,bq,h0,h1,h2]) (by simp only[go_sem,hO,ae,bq,h0,h1,h2]<;>rfl)) ?_
 repeat refine sq ?_
 refine rx hΓ [0,1,5] [] (fun K' hK=>by simp only[go_sem,hO,ae,bq,h0,h1,h2];(repeat (refine⟨ak,?_⟩));exact hK _ (by simp only[go_sem,hO,ae,bq,h0,h1,h2]) (by simp only[go_sem,hO,ae,bq,h0,h1,h2]<;>rfl)) ?_
 repeat refine sq ?_
 refine rx hΓ [0,1,5,6] [] (fun K' hK=>by simp only[go_sem,hO,ae,bq,h0,h1,h2];(repeat (refine⟨ak,?_⟩));exact hK _ (by simp only[go_sem,hO,ae,bq,h0,h1,h2]) (by simp only[go_sem,hO,ae,bq,h0,h1,h2]<;>rfl)) ?_
 repeat refine sq ?_
 refine rx hΓ [0,5,6,16,17,18] [] (fun K' hK=>by simp only[go_sem,hO,ae,bq,h0,h1,h2];(repeat (refine⟨ak,?_⟩));exact hK _ (by simp only[go_sem,hO,ae,bq,h0,h1,h2]) (by simp only[go_sem,hO,ae,bq,h0,h1,h2]<;>rfl)) ?_
 repeat refine sq ?_
 refine aR ?_
 repeat refine sq ?_
 refine ON (fun s:Nat=>upd H [2,1] (some (.map 0 (bL (dI x x.ds (l.take s)))))) (fun s:Nat=>[(18,⟨true,.v (vInt s)⟩),(5,⟨true,.v (.bool ((l.take s).all (eO x)))⟩)]) (fun s=>[]) (fun s=>s<=l.length) (fun s=>l.length-s) 0 ?_ ?_ ?_ ?_ ?_
 ·exact Nat.zero_le _
 ·congr 1;exact QG h2
 ·rfl
 ·rfl
 rintro i hi
 generalize gv:upd H [2,1] (some (.map 0 (bL (dI x x.ds (l.take i)))))=H'
 have h0:=(show H' [0,1]=H [0,1]by rw[<-gv,bc _ _ _ (by decide)]).trans h0
 have h1:=(show H' [1,1]=H [1,1]by rw[<-gv,bc _ _ _ (by decide)]).trans h1
 have h2:H' [2,1]=some (.map 0 (bL (dI x x.ds (l.take i)))):=by rw[<-gv,aT]
 obtain⟨hO,ae⟩:=acs gv ae
 have bq:∀ hs es,ck [0] (b8 [0] hs) (upd H' [2,1] (some (.map 0 es)))=True:=ae
 simp only[go_sem]
 repeat refine sq ?_
 refine rx hΓ [0,5,6,16,17,18,19] [] (fun K' hK=>by simp only[go_sem,hO,ae,bq,h0,h1,h2];(repeat (refine⟨ak,?_⟩));exact hK _ (by simp only[go_sem,hO,ae,bq,h0,h1,h2]) (by simp only[go_sem,hO,ae,bq,h0,h1,h2]<;>rfl)) ?_
 repeat refine sq ?_
 refine aB (fun hb=>?_) fun hb=>?_
 ·have ab:i<l.length:=by simpa using hb
  have ao:(i:Int)<l.length:=by omega
  clear hb
  have px:=zV l[i] (List.getElem_mem ab)
  repeat refine sq ?_
  refine aJ ?_
  repeat refine sq ?_
  refine aR ?_
  repeat refine sq ?_
  refine rx hΓ [0,5,6,8,16,17,18] [[8,0]] (fun K' hK=>by simp only[go_sem,hO,ae,bq,h0,h1,h2,ah ab,ai,aj,ao];(repeat (refine⟨ak,?_⟩));exact hK _ (by simp only[go_sem,hO,ae,bq,h0,h1,h2,ah ab,ai,aj,ao]) (by simp only[go_sem,hO,ae,bq,h0,h1,h2,ah ab,ai,aj,ao]<;>rfl)) ?_
  repeat refine sq ?_
  refine rx hΓ [0,5,6,9,10,16,17,18] [[10,0]] (fun K' hK=>by simp only[go_sem,hO,ae,bq,h0,h1,h2,ah ab,ai,aj,ao,BQ];(repeat (refine⟨by first | exact ak | exact⟨⟨hv.ds _,cM⟩,px⟩,?_⟩));exact hK _ (by simp only[go_sem,hO,ae,bq,h0,h1,h2,ah ab,ai,aj,ao,BQ]) (by simp only[go_sem,hO,ae,bq,h0,h1,h2,ah ab,ai,aj,ao,BQ]<;>rfl)) ?_
  repeat refine sq ?_
  refine rx hΓ [0,5,6,9,10,16,17,18,29] [[10,0]] (fun K' hK=>by simp only[go_sem,hO,ae,bq,h0,h1,h2,ah ab,ai,aj,ao];(repeat (refine⟨ak,?_⟩));exact hK _ (by simp only[go_sem,hO,ae,bq,h0,h1,h2,ah ab,ai,aj,ao]) (by simp only[go_sem,hO,ae,bq,h0,h1,h2,ah ab,ai,aj,ao]<;>rfl)) ?_
  repeat refine sq ?_
  refine aB (fun hb=>?_) fun hb=>?_
  ·repeat refine sq ?_
   have lx:(bp x l[i]).1>=0:=by simpa using hb
   have hA:(l.take (i+1)).all (eO x)=(l.take i).all (eO x):=by rw[yg ab];simp[eO,lx]
   have hF:dI x x.ds (l.take (i+1))=jW (dI x x.ds (l.take i)) (bp x l[i]).1 (bp x l[i]).2:=by rw[NF ab,fZ,if_pos lx]
   repeat refine sq ?_
   refine aS hΓ fun K' hK=>?_
   simp only[go_sem,hO,ae,bq,h0,h1,h2,ah ab,ai,aj,ao,T9]
   repeat (refine⟨ak,?_⟩)
   refine hK _ ?_
   clear K' hK
   simp only[go_sem]
   refine eR [0,5,6,16,17,18] [] ?_ ?_
   ·simp only[go_sem,hO,ae,bq,h0,h1,h2]
   simp only[go_sem,hO,ae,bq,h0,h1,h2]
   repeat refine sq ?_
   refine aS hΓ fun K' hK=>?_
   simp only[go_sem,hO,ae,bq,h0,h1,h2,ah ab,ai,aj,ao]
   repeat (refine⟨ak,?_⟩)
   refine hK _ ?_
   clear K' hK
   simp only[go_sem]
   refine⟨i+1,ab,by(show l.length-(i+1)<l.length-i;omega),?_⟩
   refine bg [0,5,6,16,17,18] [] ?_ ?_
   ·simp only[go_sem,a7 ab u2,bb,hA,hF,hO,ae,bq,h0,h1,h2]
   ·simp only[go_sem,a7 ab u2,bb,hA,hF,hO,ae,bq,h0,h1,h2]
    all_goals first | (rw[<-gv];done) | (congr 1;funext nm;rw[<-gv];by_cases e:nm=[2,1]<;>simp[e,aT,bc])
  ·repeat refine sq ?_
   have lx:¬ (bp x l[i]).1>=0:=by simpa using hb
   have hF:dI x x.ds (l.take (i+1))=dI x x.ds (l.take i):=by rw[NF ab,fZ,if_neg lx]
   repeat refine sq ?_
   refine rx hΓ [0,5,6,16,17,18,38] [] (fun K' hK=>by simp only[go_sem,hO,ae,bq,h0,h1,h2,ah ab,ai,aj,ao];(repeat (refine⟨ak,?_⟩));exact hK _ (by simp only[go_sem,hO,ae,bq,h0,h1,h2,ah ab,ai,aj,ao]) (by simp only[go_sem,hO,ae,bq,h0,h1,h2,ah ab,ai,aj,ao]<;>rfl)) ?_
   repeat refine sq ?_
   refine aB (fun hb=>?_) fun hb=>?_
   ·repeat refine sq ?_
    have hA:(l.take (i+1)).all (eO x)=false:=by rw[yg ab];simp[eO,lx];intro _;simpa using hb
    repeat refine sq ?_
    refine aS hΓ fun K' hK=>?_
    simp only[go_sem,hO,ae,bq,h0,h1,h2,ah ab,ai,aj,ao]
    repeat (refine⟨ak,?_⟩)
    refine hK _ ?_
    clear K' hK
    simp only[go_sem]
    refine eR [0,5,6,16,17,18] [] ?_ ?_
    ·simp only[go_sem,hO,ae,bq,h0,h1,h2]
    simp only[go_sem,hO,ae,bq,h0,h1,h2]
    repeat refine sq ?_
    refine aS hΓ fun K' hK=>?_
    simp only[go_sem,hO,ae,bq,h0,h1,h2,ah ab,ai,aj,ao]
    repeat (refine⟨ak,?_⟩)
    refine hK _ ?_
    clear K' hK
    simp only[go_sem]
    refine⟨i+1,ab,by(show l.length-(i+1)<l.length-i;omega),?_⟩
    refine bg [0,5,6,16,17,18] [] ?_ ?_
    ·simp only[go_sem,a7 ab u2,bb,hA,hF,hO,ae,bq,h0,h1,h2]
    ·simp only[go_sem,a7 ab u2,bb,hA,hF,hO,ae,bq,h0,h1,h2]
     all_goals first | (rw[<-gv];done) | (congr 1;funext nm;rw[<-gv];by_cases e:nm=[2,1]<;>simp[e,aT,bc])
   ·repeat refine sq ?_
    have hA:(l.take (i+1)).all (eO x)=(l.take i).all (eO x):=by rw[yg ab];simp[eO,lx];intro _;simpa using hb
    refine aJ ?_
    refine bV ?_
    simp only[go_sem]
    refine eR [0,5,6,16,17,18] [] ?_ ?_
    ·simp only[go_sem,hO,ae,bq,h0,h1,h2]
    simp only[go_sem,hO,ae,bq,h0,h1,h2]
    repeat refine sq ?_
    refine aS hΓ fun K' hK=>?_
    simp only[go_sem,hO,ae,bq,h0,h1,h2,ah ab,ai,aj,ao]
    repeat (refine⟨ak,?_⟩)
    refine hK _ ?_
    clear K' hK
    simp only[go_sem]
    refine⟨i+1,ab,by(show l.length-(i+1)<l.length-i;omega),?_⟩
    refine bg [0,5,6,16,17,18] [] ?_ ?_
    ·simp only[go_sem,a7 ab u2,bb,hA,hF,hO,ae,bq,h0,h1,h2]
    ·simp only[go_sem,a7 ab u2,bb,hA,hF,hO,ae,bq,h0,h1,h2]
     all_goals first | (rw[<-gv];done) | (congr 1;funext nm;rw[<-gv];by_cases e:nm=[2,1]<;>simp[e,aT,bc])
 ·have bF:i=l.length:=by
   have :¬ (i:Int)<l.length:=by simpa using hb
   omega
  clear hb
  subst bF
  repeat refine sq ?_
  refine bR ?_
  simp only[go_sem]
  refine eR [0,5] [] ?_ ?_
  ·simp only[go_sem,hO,ae,bq,h0,h1,h2]
  simp only[go_sem,hO,ae,bq,h0,h1,h2]
  repeat refine sq ?_
  refine rx hΓ [0,5,43,44,45] [] (fun K' hK=>by simp only[go_sem,hO,ae,bq,h0,h1,h2];(repeat (refine⟨ak,?_⟩));exact hK _ (by simp only[go_sem,hO,ae,bq,h0,h1,h2]) (by simp only[go_sem,hO,ae,bq,h0,h1,h2]<;>rfl)) ?_
  repeat refine sq ?_
  refine aR ?_
  repeat refine sq ?_
  refine cr (fun s:Nat=>[(45,⟨true,.v (vInt s)⟩),(5,⟨true,.v (.bool ((x.ts.take s).all (yQ (dI x x.ds (l.take l.length)))&&(l.take l.length).all (eO x)))⟩)]) (fun s=>[]) (fun s=>s<=x.ts.length) (fun s=>x.ts.length-s) 0 ?_ ?_ ?_ ?_
  ·exact Nat.zero_le _
  ·rfl
  ·rfl
  rintro i1 hi
  generalize hB:((x.ts.take i1).all (yQ (dI x x.ds (l.take l.length)))&&(l.take l.length).all (eO x))=B
  simp only[go_sem]
  repeat refine sq ?_
  refine rx hΓ [0,5,43,44,45,46] [] (fun K' hK=>by simp only[go_sem,hO,ae,bq,h0,h1,h2];(repeat (refine⟨ak,?_⟩));exact hK _ (by simp only[go_sem,hO,ae,bq,h0,h1,h2]) (by simp only[go_sem,hO,ae,bq,h0,h1,h2]<;>rfl)) ?_
  repeat refine sq ?_
  refine aB (fun hb=>?_) fun hb=>?_
  ·have aK:i1<x.ts.length:=by simpa using hb
   have ba:(i1:Int)<x.ts.length:=by omega
   clear hb
   have hA:((x.ts.take (i1+1)).all (yQ (dI x x.ds (l.take l.length)))&&(l.take l.length).all (eO x))=(B&&decide ((aV (dI x x.ds (l.take l.length)) x.ts[i1]).1<=(aV (dI x x.ds (l.take l.length)) x.ts[i1]).2)):=by
    rw[<-hB,yg aK,Bool.and_assoc,Bool.and_assoc,Bool.and_comm (yQ _ _)];rfl
   repeat refine sq ?_
   refine aJ ?_
   repeat refine sq ?_
   refine aR ?_
   repeat refine sq ?_
   refine rx hΓ [0,5,12,43,44,45] [] (fun K' hK=>by simp only[go_sem,hO,ae,bq,h0,h1,h2,ah aK,ai,aj,ba];(repeat (refine⟨ak,?_⟩));exact hK _ (by simp only[go_sem,hO,ae,bq,h0,h1,h2,ah aK,ai,aj,ba]) (by simp only[go_sem,hO,ae,bq,h0,h1,h2,ah aK,ai,aj,ba]<;>rfl)) ?_
   repeat refine sq ?_
   refine rx hΓ [0,5,13,43,44,45] [[13,0]] (fun K' hK=>by simp only[go_sem,hO,ae,bq,h0,h1,h2,ah aK,ai,aj,ba,fV];(repeat (refine⟨ak,?_⟩));exact hK _ (by simp only[go_sem,hO,ae,bq,h0,h1,h2,ah aK,ai,aj,ba,fV]) (by simp only[go_sem,hO,ae,bq,h0,h1,h2,ah aK,ai,aj,ba,fV]<;>rfl)) ?_
   repeat refine sq ?_
   refine aS hΓ fun K' hK=>?_
   simp only[go_sem,hO,ae,bq,h0,h1,h2,ah aK,ai,aj,ba]
   repeat (refine⟨ak,?_⟩)
   refine hK _ ?_
   clear K' hK
   simp only[go_sem]
   refine eR [0,5,43,44,45] [] ?_ ?_
   ·simp only[go_sem,hO,ae,bq,h0,h1,h2]
   simp only[go_sem,hO,ae,bq,h0,h1,h2]
   repeat refine sq ?_
   refine aS hΓ fun K' hK=>?_
   simp only[go_sem,hO,ae,bq,h0,h1,h2,ah aK,ai,aj,ba]
   repeat (refine⟨ak,?_⟩)
   refine hK _ ?_
   clear K' hK
   simp only[go_sem]
   refine⟨i1+1,aK,by(show x.ts.length-(i1+1)<x.ts.length-i1;omega),?_⟩
   refine bg [0,5,43,44,45] [] ?_ ?_<;>simp only[go_sem,a7 aK w9,bb,hA,hO,ae,bq,h0,h1,h2]
  ·have ke:i1=x.ts.length:=by
    have :¬ (i1:Int)<x.ts.length:=by simpa using hb
    omega
   clear hb
   subst ke
   repeat refine sq ?_
   refine bR ?_
   simp only[go_sem]
   refine eR [5] [] ?_ ?_
   ·simp only[go_sem,hO,ae,bq,h0,h1,h2]
   simp only[go_sem,hO,ae,bq,h0,h1,h2]
   repeat refine sq ?_
   refine rx hΓ [4] [] (fun K' hK=>by simp only[go_sem,hO,ae,bq,h0,h1,h2];(repeat (refine⟨ak,?_⟩));exact hK _ (by simp only[go_sem,hO,ae,bq,h0,h1,h2]) (by simp only[go_sem,hO,ae,bq,h0,h1,h2]<;>rfl)) ?_
   refine aC ?_
   simp only[go_sem,hO,ae,bq,h0,h1,h2]
   rw[<-hB];simp only[List.take_length];exact⟨by unfold fa vl;rw[Bool.and_comm];rfl,trivial⟩
end
open Go
structure Ro (α:Type) where
 m:Nat
 fam:α->List Name->List O
 args:α->List Name->List D
 ok:α->Prop
 val:α->D
structure Ro.Ok {α:Type} (r:Ro α):Prop where
 len:∀ a Ls,Ls.length=r.m->(r.fam a Ls).length=r.m
 renF:∀ a f Ls,Ls.length=r.m->(r.fam a Ls).map (O.ren f)=r.fam a (Ls.map f)
 renA:∀ a f Ls,Ls.length=r.m->D.renL f (r.args a Ls)=r.args a (Ls.map f)
 reach:∀ a Ls obj,Ls.length=r.m->Ls.Nodup->cW obj Ls (r.fam a Ls)->reach obj (r.args a Ls)=Ls
 closF:∀ a dom Ls,Ls.length=r.m->(∀ x∈Ls,dom x=true)->∀ o∈r.fam a Ls,O.clos dom o=true
 closA:∀ a dom Ls,Ls.length=r.m->(∀ x∈Ls,dom x=true)->D.closL dom (r.args a Ls)=true
 det:∀ a b,r.ok a->r.ok b->r.fam a (LR r.m)=r.fam b (LR r.m)->r.args a (LR r.m)=r.args b (LR r.m)->r.val a=r.val b
 vcl:∀ a dom,D.clos dom (r.val a)=true
 vren:∀ a f,(r.val a).ren f=r.val a
variable {α:Type}
noncomputable def Ro.c(r:Ro α):CSpec where
 pre:=fun os ds=>∃ a,r.ok a/\os=r.fam a (LR r.m)/\ds=r.args a (LR r.m)
 out:=fun os ds=>⟨[],[],by classical exact if h:∃ a,r.ok a/\os=r.fam a (LR r.m)/\ds=r.args a (LR r.m)then r.val h.choose else .any⟩
theorem Ro.c_out{r:Ro α}(hr:r.Ok){a:α}(ha:r.ok a):r.c.out (r.fam a (LR r.m)) (r.args a (LR r.m))=⟨[],[],r.val a⟩:=by
 have h:∃ b,r.ok b/\r.fam a (LR r.m)=r.fam b (LR r.m)/\r.args a (LR r.m)=r.args b (LR r.m):=⟨a,ha,rfl,rfl⟩
 have e:r.val h.choose=r.val a:=(hr.det _ _ ha h.choose_spec.1 h.choose_spec.2.1 h.choose_spec.2.2).symm
 simp only[Ro.c]
 rw[dif_pos h,e]
theorem Ro.c_app{r:Ro α}(hr:r.Ok){a:α}(ha:r.ok a){obj:Name->Option O}{t:Name}{Ls:List Name}(hl:Ls.length=r.m)(hn:Ls.Nodup)(hF:cW obj Ls (r.fam a Ls)):
 r.c.toSpec.app obj t (r.args a Ls)=⟨True,r.val a,obj⟩:=by
 have j8:=hr.reach a Ls obj hl hn hF
 have sQ:Ls.map (cin Ls)=LR r.m:=by rw[A4 hn,hl]
 have e1:cD obj (r.args a Ls)=r.fam a (LR r.m):=by
  unfold cD
  rw[j8]
  have nK:=hF
  rw[lk]at nK
  have :Ls.map (cH Ls obj)=(r.fam a Ls).map (O.ren (cin Ls)):=by
   refine List.ext_getElem (by simp[hr.len _ _ hl,hl]) fun i h1 h2=>?_
   have h3:i<Ls.length:=by simpa using h1
   have h4:i<(r.fam a Ls).length:=by rw[hr.len _ _ hl,<-hl];exact h3
   have h5:=congrArg (fun l=>l[i]?) nK
   have h6:obj Ls[i]=some (r.fam a Ls)[i]:=by simpa[h3,h4]using h5
   simp only[List.getElem_map,cH,h6]
  rw[this,hr.renF _ _ _ hl,sQ]
 have e2:dd obj (r.args a Ls)=r.args a (LR r.m):=by
  unfold dd
  rw[j8,hr.renA _ _ _ hl,sQ]
 have iU:∀ x∈Ls,cX Ls x=true:=fun x hx=>gD.2 hx
 have j6:shut obj Ls=true:=by
  unfold shut
  rw[List.all_eq_true]
  intro x hx
  obtain⟨i,hi,rfl⟩:=List.getElem_of_mem hx
  have nK:=hF
  rw[lk]at nK
  have h4:i<(r.fam a Ls).length:=by rw[hr.len _ _ hl,<-hl];exact hi
  have h5:=congrArg (fun l=>l[i]?) nK
  have h6:obj Ls[i]=some (r.fam a Ls)[i]:=by simpa[hi,h4]using h5
  rw[h6]
  exact hr.closF _ _ _ hl iU _ (List.getElem_mem h4)
 have dT:r.c.pre (r.fam a (LR r.m)) (r.args a (LR r.m)):=⟨a,ha,rfl,rfl⟩
 simp only[CSpec.toSpec,e1,e2,j8,Ro.c_out hr ha,j6,hr.closA _ _ _ hl iU,fresh,List.all_nil,Bool.and_self,dT,and_self,dz,cF,hr.vren]
def Ii(P:Program)(rs:List ResultVar)(v:D)(H:Name->Option O)(e:Exit)(σ:S):Prop:=
 (e=.normal\/e=.ret)/\(bU P σ rs).ok/\(bU P σ rs).d=v/\∀ i,σ.obj [i,1]=H [i,1]
theorem CV{σ:S}:∀ {os:List O} {k:Nat},(∀ i (h:i<os.length),σ.obj [k+i,1]=some os[i])->rR σ [] k os
 |[],_,_=>trivial
 |o::r,k,h=>by
  refine⟨by have:=h 0 (by simp);simp only[Nat.add_zero,List.getElem_cons_zero]at this;exact this,CV fun i hi=>?_⟩
  have :=h (i+1) (by simpa using hi)
  rw[show k+1+i=k+(i+1)by omega]
  simpa using this
theorem Ro.sound{P:Program}{r:Ro α}(hr:r.Ok){f:FuncId}{fn:Func}{nt:Nat}{rs:List ResultVar}(hf:P.funcs[f]?=some fn)(cZ:fn.ntmps=nt)(cf:fn.results.toList=rs)(hn:(fn.name== "runtime.NumGoroutine")=false)(hy:f<1000000000)
 (hw:∃ c,fn.body=some c/\∀ a,r.ok a->(r.args a (LR r.m)).length<=nt/\CL P [c] (bt nt [0] (aX (r.fam a (LR r.m))) (dm 0 (r.args a (LR r.m))) []) (Ii P rs (r.val a) (aX (r.fam a (LR r.m))))):aN P f r.c.toSpec:=by
 obtain⟨c,hc,hw⟩:=hw
 refine oK hf hc cZ cf (i6 hf hc hn) (Nat.ne_of_lt (show f<yid from hy)) ?_
 rintro os ds ⟨a,ha,rfl,rfl⟩
 obtain⟨hl,h⟩:=hw a ha
 refine⟨hl,?_⟩
 rw[Ro.c_out hr ha]
 refine CW.mono (jE h) ?_
 rintro e σ ⟨he,h1,h2,h3⟩
 have fin:(bU P σ rs).ok/\(bU P σ rs).d=r.val a/\gw (r.fam a (LR r.m)) ⟨[],[],r.val a⟩ σ:=by
  refine⟨h1,h2,CV fun i hi=>?_,trivial,?_⟩
  ·rw[Nat.zero_add,h3]
   show (r.fam a (LR r.m))[i]?=_
   rw[List.getElem?_eq_getElem hi]
  ·simp[hr.vcl,distinct]
 rcases he with rfl | rfl
 ·exact fin
 ·exact fin
theorem Ro.outC{r:Ro α}(hr:r.Ok)(a:α):∀ hs,ck [0] (b8 [0] hs) (aX (r.fam a (LR r.m)))=True:=fun hs=>eq_true (o8 (fun o ho dom hd=>hr.closF a dom _ (oU _) (fun x hx=>by
 obtain⟨i,_,rfl⟩:=List.mem_map.1 hx
 exact hd i) o ho) hs)
set_option maxHeartbeats 8000000
set_option maxRecDepth 10000
noncomputable section
attribute [go_sem] Ii
theorem wD{Ls:List Name}(h:Ls.length=4):∃ a b c d,Ls=[a,b,c,d]:=by
 match Ls,h with
 |[a,b,c,d],_=>exact⟨a,b,c,d,rfl⟩
def kR(x:Vw)(nr nb nd:Name):O:=.box [.v (kj x.l),.v (.sl (x.rs.map encR)),.msl nr x.ts.length,.map nb,.map nd]
def qL(x:Vw)(Ls:List Name):List O:=[kR x (Ls.getD 1 []) (Ls.getD 2 []) (Ls.getD 3 []),.arr 1 (x.ts.map vInt),.map 2 (bY x.bk),.map 0 (bL x.ds)]
theorem ZQ{x y:Vw}{a b c:Name}(h:kR x a b c=kR y a b c):x.rs=y.rs:=by
 simp only[kR,O.box.injEq,List.cons.injEq,D.v.injEq,V.sl.injEq]at h
 have :=congrArg (List.map kU) h.2.1
 rwa [AS,AS]at this
def jS:Ro (Vw×Int) where
 m:=4
 fam:=fun a Ls=>qL a.1 Ls
 args:=fun a Ls=>[.ref (Ls.getD 0 []) 0,.v (vInt a.2)]
 ok:=fun _=>True
 val:=fun a=>.tup [mX (cO a.1.rs a.2),.v (.bool (cO a.1.rs a.2).isSome)]
theorem S4(o:Option Rec)(f:Name->Name):(mX o).ren f=mX o:=by cases o<;>rfl
theorem Cz:jS.Ok where
 len:=fun _ _ _=>rfl
 renF:=fun a f Ls h=>by obtain⟨a,b,c,d,rfl⟩:=wD h;rfl
 renA:=fun a f Ls h=>by obtain⟨a,b,c,d,rfl⟩:=wD h;rfl
 reach:=fun x Ls obj h cM hF=>by
  obtain⟨a,b,c,d,rfl⟩:=wD h
  obtain⟨h1,h2,h3,h4,_⟩:=hF
  have en:de (jS.args x [a,b,c,d])=[a]:=rfl
  unfold Go.Eng.reach
  rw[en]
  show dC obj (2993+1+1+1+1+1+1+1) _ []=_
  simp only[List.nodup_cons,List.mem_cons,List.not_mem_nil,or_false,not_or,not_false_eq_true,List.nodup_nil,and_true]at cM
  obtain⟨⟨a1,a2,a3⟩,⟨b1,b2⟩,c1⟩:=cM
  simp[dC,gD,h1,h2,h3,h4,lY,de,lZ,kR,Ne.symm a1,Ne.symm a2,Ne.symm a3,Ne.symm b1,Ne.symm b2,Ne.symm c1]
 closF:=fun x dom Ls h hd o ho=>by
  obtain⟨a,b,c,d,rfl⟩:=wD h
  have h1:=hd b (by simp)
  have h2:=hd c (by simp)
  have h3:=hd d (by simp)
  simp only[jS,qL,List.mem_cons,List.not_mem_nil,or_false]at ho
  rcases ho with rfl | rfl | rfl | rfl<;>simp[O.clos,D.closL,D.clos,kR,h1,h2,h3]
 closA:=fun x dom Ls h hd=>by
  obtain⟨a,b,c,d,rfl⟩:=wD h
  have h1:=hd a (by simp)
  simp[jS,D.closL,D.clos,h1]
 det:=fun a b _ _ h1 h2=>by
  have e1:a.1.rs=b.1.rs:=ZQ (List.cons.inj h1).1
  have e2:a.2=b.2:=by
   have :=(List.cons.inj (List.cons.inj h2).2).1
   simpa[vInt]using this
  simp only[jS,e1,e2]
 vcl:=fun a dom=>by simp[jS,D.clos,D.closL,lU]
 vren:=fun a f=>by simp[jS,D.ren,D.renL,S4]
def S77m:Spec:=jS.c.toSpec
theorem Wx:aN Tryz.prog 77 S77m:=by
 refine Ro.sound Cz (rs:=[.cell 4 36,.tmp 5]) Tryz.func77 Tryz.ntmps77 (by rfl) (by kernel_rfl) (by decide) ⟨_,rfl,?_⟩
 rintro⟨x,s⟩ _
 refine⟨lb rfl,?_⟩
 have hΓ:=Qc
 have hO:=Ro.outC Cz (x,s)
 have h0:aX (jS.fam (x,s) (LR jS.m)) [0,1]=some (kR x [1,1] [2,1] [3,1]):=rfl
 generalize aX (jS.fam (x,s) (LR jS.m))=H at *
 have ha:jS.args (x,s) (LR jS.m)=[.ref [0,1] 0,.v (vInt s)]:=rfl
 have hv:jS.val (x,s)=.tup [mX (cO x.rs s),.v (.bool (cO x.rs s).isSome)]:=rfl
 rw[ha,hv]
 simp only[kR,dm,Nat.zero_add]at h0 |-
 repeat refine sq ?_
 refine rx hΓ [0,3,4] [[3,0],[4,0]] (fun K' hK=>by simp only[go_sem,hO,h0];(repeat (refine⟨ak,?_⟩));exact hK _ (by simp only[go_sem,hO,h0]) (by simp only[go_sem,hO,h0]<;>rfl)) ?_
 repeat refine sq ?_
 refine rx hΓ [0,4,6] [[4,0]] (fun K' hK=>by simp only[go_sem,hO,h0,true_or,or_true];(repeat (refine⟨ak,?_⟩));exact hK _ (by simp only[go_sem,hO,h0,true_or,or_true]) (by simp only[go_sem,hO,h0,true_or,or_true]<;>rfl)) ?_
 repeat refine sq ?_
 refine rx hΓ [0,4,6,14] [[4,0]] (fun K' hK=>by simp only[go_sem,hO,h0];(repeat (refine⟨ak,?_⟩));exact hK _ (by simp only[go_sem,hO,h0]) (by simp only[go_sem,hO,h0]<;>rfl)) ?_
 repeat refine sq ?_
 refine aB (fun hb=>?_) fun hb=>?_
 ·repeat refine sq ?_
  have e:cO x.rs s=none:=IG (by simpa using hb)
  repeat refine sq ?_
  refine rx hΓ [4,5] [[4,0]] (fun K' hK=>by simp only[go_sem,hO,h0];(repeat (refine⟨ak,?_⟩));exact hK _ (by simp only[go_sem,hO,h0]) (by simp only[go_sem,hO,h0]<;>rfl)) ?_
  refine aC ?_
  simp only[go_sem,hO,h0]
  rw[e];exact⟨.inr trivial,rfl⟩
 ·repeat refine sq ?_
  obtain⟨i,hi,e1,e⟩:=IF (by simpa using hb)
  have bK:(i:Int)<x.rs.length:=by omega
  rw[e1]
  refine aJ ?_
  repeat refine sq ?_
  refine rx hΓ [4,5] [[4,0]] (fun K' hK=>by simp only[go_sem,hO,h0,ah hi,ai,aj,bK];(repeat (refine⟨ak,?_⟩));exact hK _ (by simp only[go_sem,hO,h0,ah hi,ai,aj,bK]) (by simp only[go_sem,hO,h0,ah hi,ai,aj,bK]<;>rfl)) ?_
  refine aC ?_
  simp only[go_sem,hO,h0]
  rw[e];exact⟨.inr trivial,rfl⟩
def mZ(r:Rec):V:=.ptr [vInt r.so,vInt r.bo,vInt r.pa,.sl (r.lv.map vInt),vInt r.da,vInt r.kn,vInt r.un]
theorem IP{a b:Rec}(h:mZ a=mZ b):a=b:=by
 refine IE ?_
 obtain⟨a1,a2,a3,al,a4,a5,a6⟩:=a
 obtain⟨b1,b2,b3,bl,b4,b5,b6⟩:=b
 simp only[mZ,V.ptr.injEq,List.cons.injEq,and_true]at h
 simp only[gA,D.agg.injEq,List.cons.injEq,D.v.injEq,and_true]
 exact h
def iD(bk:Bk)(r:Rec)(f:Int):Bool:=(be bk (r.so,f)).isSome||!r.lv.contains f
def tT{β:Type}(ar:β->Rec->Name->List D)(ok:β->Prop)(val:Bk->Rec->β->V):Ro (Vw×Rec×β) where
 m:=5
 fam:=fun a Ls=>.box [.ref (Ls.getD 1 []) 0]::qL a.1 (Ls.drop 1)
 args:=fun a Ls=>ar a.2.2 a.2.1 (Ls.getD 0 [])
 ok:=fun a=>ok a.2.2
 val:=fun a=>.v (val a.1.bk a.2.1 a.2.2)
theorem G7{β:Type}{ar:β->Rec->Name->List D}{ok:β->Prop}{val:Bk->Rec->β->V}(h1:∀ b r n,de (ar b r n)=[n])(h2:∀ f b r n,D.renL f (ar b r n)=ar b r (f n))(h3:∀ dom b r n,dom n=true->D.closL dom (ar b r n)=true)
 (h4:∀ b r b' r' n,ar b r n=ar b' r' n->b=b'/\r=r'):(tT ar ok val).Ok where
 len:=fun _ _ _=>rfl
 renF:=fun a f Ls h=>by obtain⟨a,b,c,d,e,rfl⟩:=ln h;rfl
 renA:=fun a f Ls h=>by obtain⟨a,b,c,d,e,rfl⟩:=ln h;exact h2 _ _ _ _
 reach:=fun x Ls obj h cM hF=>by
  obtain⟨a,b,c,d,e,rfl⟩:=ln h
  obtain⟨k1,k2,k3,k4,k5,_⟩:=hF
  have en:de ((tT ar ok val).args x [a,b,c,d,e])=[a]:=h1 _ _ _
  unfold Go.Eng.reach
  rw[en]
  show dC obj (2993+1+1+1+1+1+1+1) _ []=_
  simp only[List.nodup_cons,List.mem_cons,List.not_mem_nil,or_false,not_or,not_false_eq_true,List.nodup_nil,and_true]at cM
  obtain⟨⟨a1,a2,a3,a4⟩,⟨b1,b2,b3⟩,⟨c1,c2⟩,d1⟩:=cM
  simp[dC,gD,k1,k2,k3,k4,k5,lY,de,lZ,kR,Ne.symm a1,Ne.symm a2,Ne.symm a3,Ne.symm a4,Ne.symm b1,Ne.symm b2,Ne.symm b3,Ne.symm c1,Ne.symm c2,Ne.symm d1]
 closF:=fun x dom Ls h hd o ho=>by
  obtain⟨a,b,c,d,e,rfl⟩:=ln h
  have h1:=hd b (by simp)
  have h2:=hd c (by simp)
  have h3:=hd d (by simp)
  have h4:=hd e (by simp)
  simp only[tT,qL,List.drop_succ_cons,List.drop_zero,List.mem_cons,List.not_mem_nil,or_false]at ho
  rcases ho with rfl | rfl | rfl | rfl | rfl<;>simp[O.clos,D.closL,D.clos,kR,h1,h2,h3,h4]
 closA:=fun x dom Ls h hd=>by
  obtain⟨a,b,c,d,e,rfl⟩:=ln h
  exact h3 _ _ _ _ (hd a (by simp))
 det:=fun a b _ _ k1 k2=>by
  have e1:a.1.bk=b.1.bk:=by
   have :=(List.cons.inj (List.cons.inj (List.cons.inj (List.cons.inj k1).2).2).2).1
   simp only[O.map.injEq,true_and]at this
   have :=congrArg AV this
   rwa [FQ,FQ]at this
  obtain⟨e2,e3⟩:=h4 _ _ _ _ _ k2
  simp only[tT,e1,e2,e3]
 vcl:=fun _ _=>rfl
 vren:=fun _ _=>rfl
def tkRo:Ro (Vw×Rec×Int):=tT (fun f r n=>[.v (vInt f),.ref n 0,.v (mZ r)]) (fun _=>True) (fun bk r f=>.bool (iD bk r f))
theorem BT:tkRo.Ok:=G7 (fun _ _ _=>rfl) (fun _ _ _ _=>rfl) (fun dom b r n h=>by simp[D.closL,D.clos,h]) (fun b r b' r' n h=>by
 simp only[List.cons.injEq,D.v.injEq,and_true,true_and]at h
 exact⟨by simpa[vInt]using h.1,IP h.2⟩)
def S163m:Spec:=tkRo.c.toSpec
def K28a:List (Nat×Spec):=[(108,yn)]
theorem adg:KS K28a:=tc Ce.sound<|tn
attribute [go_sem] K28a
theorem WC:aN Tryz.prog 163 S163m:=by
 refine Ro.sound BT (rs:=[.tmp 4]) Tryz.func163 Tryz.ntmps163 (by rfl) (by kernel_rfl) (by decide) ⟨_,rfl,?_⟩
 rintro⟨x,r,f⟩ _
 refine⟨lb rfl,?_⟩
 have hΓ:=adg
 have hP:=fU
 have hO:=Ro.outC BT (x,r,f)
 have h0:aX (tkRo.fam (x,r,f) (LR tkRo.m)) [0,1]=some (.box [.ref [1,1] 0]):=rfl
 have h1:aX (tkRo.fam (x,r,f) (LR tkRo.m)) [1,1]=some (kR x [2,1] [3,1] [4,1]):=rfl
 have h3:aX (tkRo.fam (x,r,f) (LR tkRo.m)) [3,1]=some (.map 2 (bY x.bk)):=rfl
 generalize aX (tkRo.fam (x,r,f) (LR tkRo.m))=H at *
 have ha:tkRo.args (x,r,f) (LR tkRo.m)=[.v (vInt f),.ref [0,1] 0,.v (mZ r)]:=rfl
 have hv:tkRo.val (x,r,f)=.v (.bool (iD x.bk r f)):=rfl
 rw[ha,hv]
 simp only[kR,dm,Nat.zero_add,mZ]at h1 |-
 repeat refine sq ?_
 refine rx hΓ [0,1,2] [] (fun K' hK=>by simp only[go_sem,hO,h0,h1,h3];(repeat (refine⟨ak,?_⟩));exact hK _ (by simp only[go_sem,hO,h0,h1,h3]) (by simp only[go_sem,hO,h0,h1,h3]<;>rfl)) ?_
 repeat refine sq ?_
 refine dx hΓ hP [[],[0],[0,1],[0,1,2],[],[4],[],[4,5,6],u8,u9,cB,cB,fm,kx] [0,2,6] [] (by kernel_rfl) (fun K' hK=>by simp only[go_sem,hO,h0,h1,h3,ax];(repeat (refine⟨ak,?_⟩));(first | refine⟨by rfl,?_⟩ | skip);exact hK _ (by simp only[go_sem,hO,h0,h1,h3,ax]) (by simp only[go_sem,hO,h0,h1,h3,ax]<;>rfl)) ?_
 repeat refine sq ?_
 refine rx hΓ [4] [] (fun K' hK=>by simp only[go_sem,hO,h0,h1,h3];(repeat (refine⟨ak,?_⟩));exact hK _ (by simp only[go_sem,hO,h0,h1,h3]) (by simp only[go_sem,hO,h0,h1,h3]<;>rfl)) ?_
 refine aC ?_
 simp only[go_sem,hO,h0,h1,h3]
 exact⟨.inr trivial,by unfold iD;cases be x.bk (r.so,f)<;>rfl⟩
def hM(v:Bk->Rec->List Int->V):Ro (Vw×Rec×List Int):=tT (fun l r n=>[.v (.sl (l.map vInt)),.clo (.func 163) [] [.ref n 0,.v (mZ r)]]) (fun l=>l.length<=maxLen) v
theorem vD(v:Bk->Rec->List Int->V):(hM v).Ok:=G7 (fun _ _ _=>rfl) (fun _ _ _ _=>rfl) (fun dom b r n h=>by simp[D.closL,D.clos,h]) (fun b r b' r' n h=>by
 simp only[List.cons.injEq,D.v.injEq,D.clo.injEq,V.sl.injEq,and_true,true_and]at h
 refine⟨?_,IP h.2⟩
 have :=congrArg (List.map km) h.1
 rwa [qU,qU]at this)
def l6(bk:Bk)(r:Rec)(l:List Int):V:=vInt (dE (iD bk r) l)
def mw(bk:Bk)(r:Rec)(l:List Int):V:=.bool (l.any (iD bk r))
def S192m:Spec:=(hM l6).c.toSpec
def S160m:Spec:=(hM mw).c.toSpec
def GX:FuncId->Option Spec:=fun f=>if f=163 then some S163m else none
theorem adf:∀ f s,GX f=some s->aN Tryz.prog f s:=fun f s h=>by
 unfold GX at h
 split at h
 ·rename_i e;cases h;subst e;exact WC
 ·cases h
theorem GW:GX 163=some S163m:=rfl
theorem WA:aN Tryz.prog 192 S192m:=by
 refine Ro.sound (vD l6) (rs:=[.tmp 4]) Tryz.func192 Tryz.ntmps192 (by rfl) (by kernel_rfl) (by decide) ⟨_,rfl,?_⟩
 rintro⟨x,r,l⟩ hl
 replace hl:l.length<=maxLen:=hl
 refine⟨lb rfl,?_⟩
 have hΓ:=adf
 have hO:=Ro.outC (vD l6) (x,r,l)
 have eG:cW (aX ((hM l6).fam (x,r,l) (LR (hM l6).m))) (LR 5) ((hM l6).fam (x,r,l) (LR 5)):=⟨rfl,rfl,rfl,rfl,rfl,trivial⟩
 generalize aX ((hM l6).fam (x,r,l) (LR (hM l6).m))=H at *
 have pB:∀ (F:Name->Option O) (t:Name) (f:Int),S163m.app (fun nm=>if own [0] nm=true then F nm else H nm) t [.v (vInt f),.ref [0,1] 0,.v (mZ r)]=⟨True,.v (.bool (iD x.bk r f)),fun nm=>if own [0] nm=true then F nm else H nm⟩:=fun F t f=>Ro.c_app BT (a:=(x,r,f)) trivial (t:=t) (obj:=fun nm=>if own [0] nm=true then F nm else H nm) (Ls:=LR 5) rfl (P' 5) (CZ eG fun y hy=>by
  obtain⟨i,_,rfl⟩:=List.mem_map.1 hy
  simp[uz])
 have ha:(hM l6).args (x,r,l) (LR (hM l6).m)=[.v (.sl (l.map vInt)),.clo (.func 163) [] [.ref [0,1] 0,.v (mZ r)]]:=rfl
 have hv:(hM l6).val (x,r,l)=.v (vInt (dE (iD x.bk r) l)):=rfl
 rw[ha,hv]
 simp only[dm,Nat.zero_add]
 repeat refine sq ?_
 refine rx hΓ [0,1] [] (fun K' hK=>by simp only[go_sem,hO];(repeat (refine⟨ak,?_⟩));exact hK _ (by simp only[go_sem,hO]) (by simp only[go_sem,hO]<;>rfl)) ?_
 repeat refine sq ?_
 refine rx hΓ [0,1,7,8] [] (fun K' hK=>by simp only[go_sem,hO];(repeat (refine⟨ak,?_⟩));exact hK _ (by simp only[go_sem,hO]) (by simp only[go_sem,hO]<;>rfl)) ?_
 repeat refine sq ?_
 refine aR ?_
 repeat refine sq ?_
 refine cr (fun s:Nat=>[(8,⟨true,.v (vInt s)⟩)]) (fun s=>[]) (fun s=>s<=l.length/\∀ k (h:k<l.length),k<s->iD x.bk r l[k]=false) (fun s=>l.length-s) 0 ?_ ?_ ?_ ?_
 ·exact⟨Nat.zero_le _,by simp⟩
 ·rfl
 ·rfl
 rintro i ⟨hi,hR⟩
 simp only[go_sem]
 repeat refine sq ?_
 refine rx hΓ [0,1,7,8,9] [] (fun K' hK=>by simp only[go_sem,hO];(repeat (refine⟨ak,?_⟩));exact hK _ (by simp only[go_sem,hO]) (by simp only[go_sem,hO]<;>rfl)) ?_
 repeat refine sq ?_
 refine aB (fun hb=>?_) fun hb=>?_
 ·have ab:i<l.length:=by simpa using hb
  have ao:(i:Int)<l.length:=by omega
  clear hb
  repeat refine sq ?_
  refine aJ ?_
  repeat refine sq ?_
  refine aR ?_
  repeat refine sq ?_
  refine rx hΓ [0,1,5,7,8] [] (fun K' hK=>by simp only[go_sem,hO,ah ab,ai,aj,ao];(repeat (refine⟨ak,?_⟩));exact hK _ (by simp only[go_sem,hO,ah ab,ai,aj,ao]) (by simp only[go_sem,hO,ah ab,ai,aj,ao]<;>rfl)) ?_
  repeat refine sq ?_
  refine rx hΓ [0,1,5,7,8,16] [] (fun K' hK=>by simp only[go_sem,hO,ah ab,ai,aj,ao,GW,pB];(repeat (refine⟨ak,?_⟩));exact hK _ (by simp only[go_sem,hO,ah ab,ai,aj,ao,GW,pB]) (by simp only[go_sem,hO,ah ab,ai,aj,ao,GW,pB]<;>rfl)) ?_
  repeat refine sq ?_
  refine aB (fun hb=>?_) fun hb=>?_
  ·repeat refine sq ?_
   refine rx hΓ [4] [] (fun K' hK=>by simp only[go_sem,hO,ah ab,ai,aj,ao];(repeat (refine⟨ak,?_⟩));exact hK _ (by simp only[go_sem,hO,ah ab,ai,aj,ao]) (by simp only[go_sem,hO,ah ab,ai,aj,ao]<;>rfl)) ?_
   refine aC ?_
   simp only[go_sem,hO]
   rw[sc (p:=iD x.bk r) ab (by simpa using hb) hR];exact⟨.inr trivial,rfl⟩
  ·repeat refine sq ?_
   refine aJ ?_
   refine bV ?_
   simp only[go_sem]
   refine eR [0,1,7,8] [] ?_ ?_
   ·simp only[go_sem,hO]
   simp only[go_sem,hO]
   repeat refine sq ?_
   refine aS hΓ fun K' hK=>?_
   simp only[go_sem,hO,ah ab,ai,aj,ao]
   repeat (refine⟨ak,?_⟩)
   refine hK _ ?_
   clear K' hK
   simp only[go_sem]
   refine⟨i+1,⟨ab,?_⟩,by(show l.length-(i+1)<l.length-i;omega),?_⟩
   ·intro k hk dH
    rcases Nat.lt_succ_iff_lt_or_eq.1 dH with h5 | rfl
    ·exact hR k hk h5
    ·simpa using hb
   refine bg [0,1,7,8] [] ?_ ?_<;>simp only[go_sem,a7 ab hl,bb,hO]
 ·have bF:i=l.length:=by
   have :¬ (i:Int)<l.length:=by simpa using hb
   omega
  clear hb
  subst bF
  repeat refine sq ?_
  refine bR ?_
  simp only[go_sem]
  refine eR [] [] ?_ ?_
  ·simp only[go_sem,hO]
  simp only[go_sem,hO]
  repeat refine sq ?_
  refine rx hΓ [4] [] (fun K' hK=>by simp only[go_sem,hO];(repeat (refine⟨ak,?_⟩));exact hK _ (by simp only[go_sem,hO]) (by simp only[go_sem,hO]<;>rfl)) ?_
  refine aC ?_
  simp only[go_sem,hO]
  rw[wS (p:=iD x.bk r) fun k hk=>hR k hk hk];exact⟨.inr trivial,rfl⟩
def GV:FuncId->Option Spec:=fun f=>if f=192 then some S192m else none
theorem ade:∀ f s,GV f=some s->aN Tryz.prog f s:=fun f s h=>by
 unfold GV at h
 split at h
 ·rename_i e;cases h;subst e;exact WA
 ·cases h
theorem GU:GV 192=some S192m:=rfl
theorem WD:aN Tryz.prog 160 S160m:=by
 refine Ro.sound (vD mw) (rs:=[.tmp 4]) Tryz.func160 Tryz.ntmps160 (by rfl) (by kernel_rfl) (by decide) ⟨_,rfl,?_⟩
 rintro⟨x,r,l⟩ hl
 replace hl:l.length<=maxLen:=hl
 refine⟨lb rfl,?_⟩
 have hΓ:=ade
 have hO:=Ro.outC (vD mw) (x,r,l)
 have eG:cW (aX ((hM mw).fam (x,r,l) (LR (hM mw).m))) (LR 5) ((hM mw).fam (x,r,l) (LR 5)):=⟨rfl,rfl,rfl,rfl,rfl,trivial⟩
 generalize aX ((hM mw).fam (x,r,l) (LR (hM mw).m))=H at *
 have pB:∀ (F:Name->Option O) (t:Name),S192m.app (fun nm=>if own [0] nm=true then F nm else H nm) t [.v (.sl (l.map vInt)),.clo (.func 163) [] [.ref [0,1] 0,.v (mZ r)]]=⟨True,.v (vInt (dE (iD x.bk r) l)),fun nm=>if own [0] nm=true then F nm else H nm⟩:=fun F t=>Ro.c_app (vD l6) (a:=(x,r,l)) hl (t:=t) (obj:=fun nm=>if own [0] nm=true then F nm else H nm) (Ls:=LR 5) rfl (P' 5) (CZ eG fun y hy=>by
  obtain⟨i,_,rfl⟩:=List.mem_map.1 hy
  simp[uz])
 have ha:(hM mw).args (x,r,l) (LR (hM mw).m)=[.v (.sl (l.map vInt)),.clo (.func 163) [] [.ref [0,1] 0,.v (mZ r)]]:=rfl
 have hv:(hM mw).val (x,r,l)=.v (.bool (l.any (iD x.bk r))):=rfl
 rw[ha,hv]
 simp only[dm,Nat.zero_add]
 repeat refine sq ?_
 refine rx hΓ [0,1] [] (fun K' hK=>by simp only[go_sem,hO];(repeat (refine⟨ak,?_⟩));exact hK _ (by simp only[go_sem,hO]) (by simp only[go_sem,hO]<;>rfl)) ?_
 repeat refine sq ?_
 refine rx hΓ [4] [] (fun K' hK=>by simp only[go_sem,hO,GU,pB,wT];(repeat (refine⟨ak,?_⟩));exact hK _ (by simp only[go_sem,hO,GU,pB,wT]) (by simp only[go_sem,hO,GU,pB,wT]<;>rfl)) ?_
 refine aC ?_
 simp only[go_sem,hO]
 first | exact .inr trivial | exact⟨.inr trivial,rfl⟩
end
theorem abg(b:Bk)(q p:Int×Int)(i:Int):be (rh b q i) p=if q=p then some i else be b p:=by
 induction b with
 |nil=>rfl
 |cons e r ih=>
  obtain⟨k,j⟩:=e
  simp only[rh]
  by_cases h:k=q
  ·rw[if_pos h]
   subst h
   simp only[be]
   split<;>rfl
  ·rw[if_neg h]
   simp only[be,ih]
   by_cases h2:k=p
   ·subst h2
    rw[if_pos rfl,if_pos rfl,if_neg (fun e=>h e.symm)]
   ·rw[if_neg h2,if_neg h2]
theorem A'(so i:Int)(lv:List Int)(b:Bk)(s f:Int):be (pN b so i lv) (s,f)=if s=so/\f∈lv then some i else be b (s,f):=by
 induction lv generalizing b with
 |nil=>simp[pN]
 |cons a r ih=>
  show be (pN (rh b (so,a) i) so i r) (s,f)=_
  rw[ih,abg]
  by_cases h1:s=so
  ·subst h1
   by_cases h2:f∈r
   ·simp[h2]
   ·by_cases h3:a=f
    ·subst h3;simp[h2]
    ·have h4:¬ f=a:=fun e=>h3 e.symm
     simp[h2,h3,h4]
  ·have h4:¬ (so,a)=(s,f):=fun e=>h1 (by cases e;rfl)
   simp[h1,h4]
theorem Ju{k:Int}{rs:List Rec}{bk:Bk}{x:Ret}{r:Rec}(h:fT k rs bk x=some r):cO rs x.re=some r/\bG x.kn x.un k=true/\¬ bH x.lo (r.da+1)>x.hi/\x.lv.any (iD bk r)=false:=by
 unfold fT at h
 split at h
 ·cases h
 ·rename_i q hq
  split at h
  ·rename_i hc
   cases h
   simp only[Bool.and_eq_true,Bool.not_eq_true',Bool.or_eq_false_iff,decide_eq_false_iff_not]at hc
   exact⟨hq,hc.1,hc.2.1,hc.2.2⟩
  ·cases h
theorem T7{k:Int}{rs:List Rec}{bk:Bk}{x:Ret}(h:cO rs x.re=none):fT k rs bk x=none:=by
 unfold fT;rw[h]
theorem T6{k:Int}{rs:List Rec}{bk:Bk}{x:Ret}{r:Rec}(h:cO rs x.re=some r)(hc:bG x.kn x.un k=false):fT k rs bk x=none:=by
 unfold fT;rw[h];simp[hc]
theorem T5{k:Int}{rs:List Rec}{bk:Bk}{x:Ret}{r:Rec}(h:cO rs x.re=some r)(hc:(decide (bH x.lo (r.da+1)>x.hi)||x.lv.any (iD bk r))=true):fT k rs bk x=none:=by
 unfold fT;rw[h]
 have gW:(decide (bH x.lo (r.da+1)>x.hi)||x.lv.any fun f=>(be bk (r.so,f)).isSome||!r.lv.contains f)=true:=hc
 simp only[gW,Bool.not_true,Bool.and_false,Bool.false_eq_true,if_false]
theorem T4{k:Int}{rs:List Rec}{bk:Bk}{x:Ret}{r:Rec}(h:cO rs x.re=some r)(h1:bG x.kn x.un k=true)(hc:(decide (bH x.lo (r.da+1)>x.hi)||x.lv.any (iD bk r))=false):fT k rs bk x=some r:=by
 unfold fT;rw[h]
 have gW:(decide (bH x.lo (r.da+1)>x.hi)||x.lv.any fun f=>(be bk (r.so,f)).isSome||!r.lv.contains f)=false:=hc
 simp only[gW,h1,Bool.not_false,Bool.and_true,if_true]
theorem uN{l:Led}{k:Int}{i:Nat}(h:fT k (bd l k) (ay l k i).bk (aD l i)=none):ay l k (i+1)=ay l k i:=by
 show l4 l k (ay l k i) i=_
 unfold l4
 rw[(pn l k i).2,h]
theorem zt{l:Led}{k:Int}{i:Nat}{r:Rec}(h:fT k (bd l k) (ay l k i).bk (aD l i)=some r):ay l k (i+1)=
 { ay l k i with bk:=pN (ay l k i).bk r.so i (aD l i).lv,ts:=(ay l k i).ts++[(i:Int)],ds:=nL (ay l k i).ds i (bH (aD l i).lo (r.da+1),(aD l i).hi) }:=by
 show l4 l k (ay l k i) i=_
 have h':fT k (ay l k i).rs (ay l k i).bk (aD l i)=some r:=by rw[(pn l k i).2];exact h
 unfold l4
 rw[h']
structure acv (l:Led) (k:Int) (i:Nat):Prop where
 bk:∀ q j,be (ay l k i).bk q=some j->0<=j/\j<l.ts.length
 tn:(ay l k i).ts.length<=i
 ts:∀ j∈(ay l k i).ts,(0<=j/\j<l.ts.length)/\∃ r,cO (bd l k) (aD l j.toNat).re=some r
theorem zu(l:Led)(k:Int):∀ i,i<=l.ts.length->acv l k i
 | 0,_=>⟨fun q j (h:none=some j)=>(by cases h),Nat.le_refl 0,fun j (h:j∈([]:List Int))=>(by cases h)⟩
 |i+1,hi=>by
  have ih:=zu l k i (by omega)
  cases hn:fT k (bd l k) (ay l k i).bk (aD l i)with
  |none=>
   have e:=uN hn
   exact⟨by rw[e];exact ih.bk,by rw[e];exact Nat.le_succ_of_le ih.tn,by rw[e];exact ih.ts⟩
  |some r=>
   have e:=zt hn
   refine⟨?_,?_,?_⟩
   ·rintro⟨s,f⟩ j h
    rw[e]at h
    simp only[A']at h
    split at h
    ·cases h;omega
    ·exact ih.bk _ _ h
   ·rw[e]
    have :=ih.tn
    simp;omega
   ·intro j hj
    rw[e]at hj
    rcases List.mem_append.1 hj with hj | hj
    ·exact ih.ts j hj
    ·simp only[List.mem_singleton]at hj
     subst hj
     exact⟨by omega,r,by rw[Int.toNat_natCast];exact(Ju hn).1⟩
theorem p8{rs:List Rec}{s:Int}{r:Rec}(h:cO rs s=some r):r∈rs/\r.so=s:=by
 unfold cO at h
 exact⟨List.mem_of_find?_eq_some h,by simpa using List.find?_some h⟩
theorem Cs{l:Led}(h:bE l)(k:Int):∀ r∈bd l k,dJ r=true:=fun r hr=>h.recs r ((List.mem_filter.1 hr).1)
theorem Iy{l:Led}(h:bE l)(k:Int):(bd l k).length<=60:=Nat.le_trans (List.length_filter_le _ _) h.rsn
theorem Ix{l:Led}(h:bE l)(k:Int):(bd l k).Nodup:=by
 refine List.Nodup.sublist List.filter_sublist ?_
 have hs:srt Rec.so l.rs:=wy (kq.1 h.rs)
 rw[List.nodup_iff_pairwise_ne,List.pairwise_iff_getElem]
 intro i j hi hj bD e
 have :=hs i j hi hj bD
 rw[e]at this
 omega
theorem uL{l:Led}(h:bE l)(k:Int):nW (aw l k)/\(aw l k).rs.Nodup:=by
 have hk:=zu l k l.ts.length (Nat.le_refl _)
 obtain⟨e1,e2⟩:=pn l k l.ts.length
 refine⟨⟨?_,?_,?_,?_,?_,?_⟩,?_⟩
 ·show bE (ay l k l.ts.length).l;rw[e1];exact h
 ·show ∀ q i,be (ay l k l.ts.length).bk q=some i->0<=i/\i<(ay l k l.ts.length).l.ts.length
  rw[e1];exact hk.bk
 ·show ∀ r∈(ay l k l.ts.length).rs,_;rw[e2];exact Cs h k
 ·show (ay l k l.ts.length).rs.length<=60;rw[e2];exact Iy h k
 ·exact Nat.le_trans hk.tn h.tsn
 ·show ∀ i∈(ay l k l.ts.length).ts,0<=i/\i<(ay l k l.ts.length).l.ts.length
  rw[e1];exact fun i hi=>(hk.ts i hi).1
 ·show (ay l k l.ts.length).rs.Nodup;rw[e2];exact Ix h k
noncomputable section
theorem NK{α:Type}{p:α->Bool}{l:List α}{i:Nat}(h:i<l.length):((l.take (i+1)).filter p)=(l.take i).filter p++(if p l[i]=true then[l[i]]else[]):=rF h
def vM:FuncId->Option Spec:=fun f=>if f=77 then some S77m else if f=160 then some S160m else if f=162 then some S162 else if f=164 then some S164 else none
theorem adb:∀ f s,vM f=some s->aN Tryz.prog f s:=fun f s h=>by
 unfold vM at h
 split at h
 ·rename_i e;cases h;subst e;exact Wx
 ·split at h
  ·rename_i e;cases h;subst e;exact WD
  ·split at h
   ·rename_i e;cases h;subst e;exact LV
   ·split at h
    ·rename_i e;cases h;subst e;exact DI
    ·cases h
@[go_sem] theorem ag8:vM 77=some S77m:=rfl
@[go_sem] theorem aha:vM 160=some S160m:=rfl
@[go_sem] theorem ag':vM 162=some S162:=rfl
@[go_sem] theorem ag9:vM 164=some S164:=rfl
def mU(l:Led)(k:Int)(s:Nat):List Rec:=(l.rs.take s).filter fun r=>bG r.kn r.un k
theorem SK(l:Led)(k:Int):mU l k l.rs.length=bd l k:=by unfold mU bd;rw[List.take_length]
theorem SH{l:Led}{k:Int}{i:Nat}(h:i<l.rs.length)(hc:bG l.rs[i].kn l.rs[i].un k=true):mU l k (i+1)=mU l k i++[l.rs[i]]:=by
 unfold mU;rw[NK h,if_pos hc]
theorem SI{l:Led}{k:Int}{i:Nat}(h:i<l.rs.length)(hc:bG l.rs[i].kn l.rs[i].un k=false):mU l k (i+1)=mU l k i:=by
 unfold mU;rw[NK h,if_neg (by rw[hc];decide)];simp
theorem SJ(l:Led)(k:Int)(i:Nat):(mU l k i).length<=l.rs.length:=Nat.le_trans (List.length_filter_le _ _) (by simp;omega)
attribute [go_sem] cW
def K29b:List (Nat×Spec):=[(77,S77),(164,S164),(165,S165)]
theorem ada:KS K29b:=tc LS<|tc DI<|tc DH<|tn
attribute [go_sem] K29b
theorem Uz(l:Led)(k i j:Int)(n:Nat)(x:Vw)(r:Rec)(lv:List Int):BL (iG l k i j n x r lv) (ko 4 r.pa lv) where
 ren:=fun f Ls h=>by obtain⟨a,b,c,d,e,rfl⟩:=ln h;rfl
 clo:=fun dom Ls h hd=>by
  obtain⟨a,b,c,d,e,rfl⟩:=ln h
  have h4:=hd e (by simp)
  simp[D.closL,D.clos,h4,ko]
 reach:=fun Ls s obj R q h cM hF h0=>by
  obtain⟨a,b,c,d,e,rfl⟩:=ln h
  obtain⟨h1,h2,h3,h4,h5,_⟩:=hF
  have en:de (((iG l k i j n x r lv).env [a,b,c,d,e]).map (·.d))=[a,e]:=rfl
  have ec:de (ko 4 r.pa lv [a,b,c,d,e])=[e]:=rfl
  rw[ec]
  show dC obj (q+90+1+1+1+1+1+1+1+1+1+1+1) _ []=_
  simp only[List.nodup_cons,List.mem_cons,List.not_mem_nil,or_false,not_or,not_false_eq_true,List.nodup_nil,and_true]at cM
  obtain⟨⟨r1,r2,r3,r4,r5⟩,⟨a1,a2,a3,a4⟩,⟨b1,b2,b3⟩,⟨c1,c2⟩,e1⟩:=cM
  simp[dC,gD,h0,h1,h2,h3,h4,h5,Lp.rc,lY,en,de,lZ,bC,Ne.symm r1,Ne.symm r2,Ne.symm r3,Ne.symm r4,Ne.symm r5,Ne.symm a1,Ne.symm a2,Ne.symm a3,Ne.symm a4,Ne.symm b1,Ne.symm b2,Ne.symm b3,Ne.symm c1,Ne.symm c2,Ne.symm e1]
theorem abh(b:Bk)(so i:Int){lv:List Int}{s:Nat}(h:s<lv.length):pN b so i (lv.take (s+1))=rh (pN b so i (lv.take s)) (so,lv[s]) i:=by
 unfold pN
 rw[List.take_add_one,List.getElem?_eq_getElem h,List.foldl_append]
 rfl
def BG:NSpec:=n2 pv iI (fun l _=>bE l) (fun l k=>[([26,0],bC (aw l k) [23,0] [24,0]),([23,0],.map 2 (bY (aw l k).bk)),([24,0],.map 0 (bL (aw l k).ds))]) (fun _ _=>.ref [26,0] 0)
def S76:Spec:=BG.toSpec
attribute [go_sem] BG S76
set_option maxHeartbeats 16000000 in
theorem LU:aN Tryz.prog 76 S76:=by
 refine C3 (nt:=181) (rs:=[.tmp 4]) Tryz.func76 rfl (by rfl) (by kernel_rfl) (by kernel_rfl) (by decide) ?_
 intro xs hp
 obtain⟨l,k,rfl,hp,eZ,eY⟩:=C' hp
 replace eZ:BG.new _=_:=eZ
 replace eY:BG.d _=_:=eY
 rw[eZ,eY]
 clear eZ eY
 refine⟨lb rfl,?_⟩
 have hP:=fU
 simp only[iI,iB,fw,iP,iR,iT,iS,iL,pv,fW,iC,iF,c9,encR,cT,encS,gM,kj,List.map_cons,List.map_nil,dm,Nat.zero_add]
 have hΓ:=adb
 have Ad:l.rs.length<=maxLen:=by have:=hp.rsn;unfold maxLen;omega
 have kb:l.ts.length<=maxLen:=by have:=hp.tsn;unfold maxLen;omega
 repeat refine sq ?_
 refine rx hΓ [0,1] [] (fun K' hK=>by simp only[go_sem];exact aq) ?_
 repeat refine sq ?_
 refine rx hΓ [0,1,5] [[5,0],[23,0],[24,0],[26,0],[49,0],[124,0]] (fun K' hK=>by simp only[go_sem];exact aq) ?_
 refine bP (mP [26,0] [49,0] 1 7 _ rfl rfl rfl [0,1,5] [[5,0],[23,0],[24,0],[26,0],[49,0],[124,0]] ?_ rfl) ?_
 ·simp only[go_sem,List.set_cons_succ,List.set_cons_zero]
 simp only[go_sem,List.set_cons_succ,List.set_cons_zero]
 refine bP (mP [26,0] [124,0] 2 1 _ rfl rfl rfl [0,1,5] [[5,0],[23,0],[24,0],[26,0],[49,0],[124,0]] ?_ rfl) ?_
 ·simp only[go_sem,List.set_cons_succ,List.set_cons_zero]
 simp only[go_sem,List.set_cons_succ,List.set_cons_zero]
 repeat refine sq ?_
 refine rx hΓ [0,1,5,30,31,32] [[5,0],[23,0],[24,0],[26,0],[49,0],[124,0]] (fun K' hK=>by simp only[go_sem];exact aq) ?_
 repeat refine sq ?_
 refine aR ?_
 repeat refine sq ?_
 refine cr (fun s:Nat=>[(32,⟨true,.v (vInt s)⟩)]) (fun s=>[([26,0],.box [.v (kj l),.msl [49,0] (mU l k s).length,.msl [124,0] 0,.map [23,0],.map [24,0]]),([49,0],.arr 7 ((mU l k s).map encR))]) (fun s=>s<=l.rs.length) (fun s=>l.rs.length-s) 0 ?_ ?_ ?_ ?_
 ·exact Nat.zero_le _
 ·rfl
 ·rfl
 rintro i hi
 simp only[go_sem]
 repeat refine sq ?_
 refine rx hΓ [0,1,5,30,31,32,33] [[5,0],[23,0],[24,0],[26,0],[49,0],[124,0]] (fun K' hK=>by simp only[go_sem];exact aq) ?_
 repeat refine sq ?_
 refine aB (fun hb=>?_) fun hb=>?_
 ·have ab:i<l.rs.length:=by simpa using hb
  have ao:(i:Int)<l.rs.length:=by omega
  clear hb
  have l8:=SJ l k i
  have nx:=hp.rsn
  repeat refine sq ?_
  refine aJ ?_
  repeat refine sq ?_
  refine aR ?_
  repeat refine sq ?_
  refine rx hΓ [0,1,5,7,30,31,32] [[5,0],[7,0],[23,0],[24,0],[26,0],[49,0],[124,0]] (fun K' hK=>by simp only[go_sem,ah ab,ai,aj,ao];exact aq) ?_
  repeat refine sq ?_
  refine rx hΓ [0,1,5,7,30,31,32,41] [[5,0],[7,0],[23,0],[24,0],[26,0],[49,0],[124,0]] (fun K' hK=>by simp only[go_sem,ah ab,ai,aj,ao];exact aq) ?_
  repeat refine sq ?_
  refine aB (fun hb=>?_) fun hb=>?_
  ·repeat refine sq ?_
   have hT:=SH ab hb
   repeat refine sq ?_
   refine oM hΓ hP [[],[],[1],[1,2],[1,2,3],[],[5],[1,2,3,4,5,6],u8,u9,cB] (by kernel_rfl) fun K' hK=>?_
   simp only[go_sem,ah ab,ai,aj,ao]
   repeat (refine⟨ak,?_⟩)
   first | refine⟨by rfl,?_⟩ | skip
   refine hK _ ?_
   clear K' hK
   simp only[go_sem]
   refine kp [0,1,5,30,31,32] [[5,0],[23,0],[24,0],[26,0],[49,0],[124,0]] ?_
   repeat refine sq ?_
   refine aS hΓ fun K' hK=>?_
   simp only[go_sem,ah ab,ai,aj,ao]
   repeat (refine⟨ak,?_⟩)
   refine hK _ ?_
   clear K' hK
   simp only[go_sem]
   refine⟨i+1,ab,by(show l.rs.length-(i+1)<l.rs.length-i;omega),?_⟩
   refine bg [0,1,5,30,31,32] [[5,0],[23,0],[24,0],[26,0],[49,0],[124,0]] ?_ ?_<;>simp only[go_sem,a7 ab Ad,bb,hT,List.map_append,List.map_cons,List.map_nil,List.length_append,List.length_cons,List.length_nil]
  ·repeat refine sq ?_
   have hT:=SI ab hb
   refine aJ ?_
   refine bV ?_
   simp only[go_sem]
   refine kp [0,1,5,30,31,32] [[5,0],[23,0],[24,0],[26,0],[49,0],[124,0]] ?_
   repeat refine sq ?_
   refine aS hΓ fun K' hK=>?_
   simp only[go_sem,ah ab,ai,aj,ao]
   repeat (refine⟨ak,?_⟩)
   refine hK _ ?_
   clear K' hK
   simp only[go_sem]
   refine⟨i+1,ab,by(show l.rs.length-(i+1)<l.rs.length-i;omega),?_⟩
   refine bg [0,1,5,30,31,32] [[5,0],[23,0],[24,0],[26,0],[49,0],[124,0]] ?_ ?_<;>simp only[go_sem,a7 ab Ad,bb,hT,List.map_append,List.map_cons,List.map_nil,List.length_append,List.length_cons,List.length_nil]
 ·have bF:i=l.rs.length:=by
   have :¬ (i:Int)<l.rs.length:=by simpa using hb
   omega
  clear hb
  subst bF
  repeat refine sq ?_
  refine bR ?_
  simp only[go_sem]
  refine kp [0,1,5] [[5,0],[23,0],[24,0],[26,0],[49,0],[124,0]] ?_
  simp only[SK]
  repeat refine sq ?_
  refine rx hΓ [0,1,5,56,57,58] [[5,0],[23,0],[24,0],[26,0],[49,0],[124,0]] (fun K' hK=>by simp only[go_sem];exact aq) ?_
  refine bP (oY [26,0] [49,0] 1 _ _ _ _ rfl rfl rfl (by first | rfl | (simp only[List.length_map];done)) [0,1,5,56,57,58] [[5,0],[23,0],[24,0],[26,0],[49,0],[124,0]] ?_ rfl) ?_
  ·simp only[go_sem,List.set_cons_succ,List.set_cons_zero]
  simp only[go_sem,List.set_cons_succ,List.set_cons_zero]
  repeat refine sq ?_
  refine aR ?_
  repeat refine sq ?_
  refine cr (fun s:Nat=>[(58,⟨true,.v (vInt s)⟩)]) (fun s=>[([26,0],.box [.v (kj l),.v (.sl ((bd l k).map encR)),.msl [124,0] (ay l k s).ts.length,.map [23,0],.map [24,0]]),([124,0],.arr 1 ((ay l k s).ts.map vInt)),([23,0],.map 2 (bY (ay l k s).bk)),([24,0],.map 0 (bL (ay l k s).ds))]) (fun s=>s<=l.ts.length) (fun s=>l.ts.length-s) 0 ?_ ?_ ?_ ?_
  ·exact Nat.zero_le _
  ·rfl
  ·rfl
  rintro i1 hi
  simp only[go_sem]
  repeat refine sq ?_
  refine rx hΓ [0,1,5,56,57,58,59] [[5,0],[23,0],[24,0],[26,0],[49,0],[124,0]] (fun K' hK=>by simp only[go_sem];exact aq) ?_
  repeat refine sq ?_
  refine aB (fun hb=>?_) fun hb=>?_
  ·have aK:i1<l.ts.length:=by simpa using hb
   have ba:(i1:Int)<l.ts.length:=by omega
   clear hb
   have hx:aD l i1=l.ts[i1]:=jL aK
   obtain⟨e1,e2⟩:=pn l k i1
   have hk:=zu l k i1 (Nat.le_of_lt aK)
   have j5:=hp.rets aK
   rw[hx]at j5
   have ka:=(SS j5).2
   have sH:l.ts[i1].lv.length<=maxLen:=by unfold maxLen;omega
   have DX:=hk.tn
   have agE:=hp.tsn
   have su:∀ (obj:Name->Option O) (t:Name),obj [26,0]=some (.box [.v (kj l),.v (.sl ((bd l k).map encR)),.msl [124,0] (ay l k i1).ts.length,.map [23,0],.map [24,0]])->obj [124,0]=some (.arr 1 ((ay l k i1).ts.map vInt))->obj [23,0]=some (.map 2 (bY (ay l k i1).bk))->obj [24,0]=some (.map 0 (bL (ay l k i1).ds))->
       S77m.app obj t [.ref [26,0] 0,.v (vInt l.ts[i1].re)]=⟨True,.tup [mX (cO (bd l k) l.ts[i1].re),.v (.bool (cO (bd l k) l.ts[i1].re).isSome)],obj⟩:=fun obj t h1 h2 h3 h4=>by
    have :=Ro.c_app Cz (a:=(ay l k i1,l.ts[i1].re)) trivial (t:=t) (obj:=obj) (Ls:=[[26,0],[124,0],[23,0],[24,0]]) rfl (by decide) (by show cW obj _ (qL (ay l k i1) _);simp only[qL,kR,e1,e2];exact⟨h1,h2,h3,h4,trivial⟩)
    refine this.trans ?_
    show (⟨True,.tup [mX (cO (ay l k i1).rs l.ts[i1].re),.v (.bool (cO (ay l k i1).rs l.ts[i1].re).isSome)],obj⟩:R)=_
    rw[e2]
   have YU:∀ (r:Rec) (obj:Name->Option O) (t:Name),obj [5,0]=some (.box [.ref [26,0] 0])->obj [26,0]=some (.box [.v (kj l),.v (.sl ((bd l k).map encR)),.msl [124,0] (ay l k i1).ts.length,.map [23,0],.map [24,0]])->obj [124,0]=some (.arr 1 ((ay l k i1).ts.map vInt))->obj [23,0]=some (.map 2 (bY (ay l k i1).bk))->obj [24,0]=some (.map 0 (bL (ay l k i1).ds))->
       S160m.app obj t [.v (.sl (l.ts[i1].lv.map vInt)),.clo (.func 163) [] [.ref [5,0] 0,.v (.ptr [vInt r.so,vInt r.bo,vInt r.pa,.sl (r.lv.map vInt),vInt r.da,vInt r.kn,vInt r.un])]]=⟨True,.v (.bool (l.ts[i1].lv.any (iD (ay l k i1).bk r))),obj⟩:=fun r obj t h0 h1 h2 h3 h4=>by
    have :=Ro.c_app (vD mw) (a:=(ay l k i1,r,l.ts[i1].lv)) sH (t:=t) (obj:=obj) (Ls:=[[5,0],[26,0],[124,0],[23,0],[24,0]]) rfl (by decide) (by
     show cW obj _ (.box [.ref [26,0] 0]::qL (ay l k i1) [[26,0],[124,0],[23,0],[24,0]])
     simp only[qL,kR,e1,e2];exact⟨h0,h1,h2,h3,h4,trivial⟩)
    exact this
   repeat refine sq ?_
   refine aJ ?_
   repeat refine sq ?_
   refine aR ?_
   repeat refine sq ?_
   refine rx hΓ [0,1,5,8,9,56,57,58] [[5,0],[9,0],[23,0],[24,0],[26,0],[49,0],[124,0]] (fun K' hK=>by simp only[go_sem,ah aK,ai,aj,ba];exact aq) ?_
   rcases ey:cO (bd l k) l.ts[i1].re with _ | r
   ·have qA:ay l k (i1+1)=ay l k i1:=uN (T7 (by rw[hx];exact ey))
    repeat refine sq ?_
    refine rx hΓ [0,1,5,8,9,10,11,56,57,58] [[5,0],[9,0],[10,0],[23,0],[24,0],[26,0],[49,0],[124,0]] (fun K' hK=>by simp only[go_sem,ah aK,ai,aj,ba,ey,bz,Option.isSome_none];rw[su _ _ rfl rfl rfl rfl];simp only[go_sem,ah aK,ai,aj,ba,ey,bz,Option.isSome_none];exact aq) ?_
    refine bP (el 10 (.ref [10,0] 0) (by simp only[go_sem]) (by simp only[go_sem]) [0,1,5,8,9,10,11,56,57,58] [[5,0],[9,0],[10,0],[23,0],[24,0],[26,0],[49,0],[124,0]] ?_ rfl) ?_
    ·simp only[go_sem]
    simp only[go_sem]
    repeat refine sq ?_
    refine rx hΓ [0,1,5,8,9,10,56,57,58,80] [[5,0],[9,0],[10,0],[23,0],[24,0],[26,0],[49,0],[124,0]] (fun K' hK=>by simp only[go_sem,ah aK,ai,aj,ba,ey,bz,Option.isSome_none];exact aq) ?_
    repeat refine sq ?_
    refine aB (fun hb=>?_) fun hb=>?_
    ·repeat refine sq ?_
     refine bR ?_
     simp only[go_sem]
     refine kp [0,1,5,56,57,58] [[5,0],[23,0],[24,0],[26,0],[49,0],[124,0]] ?_
     repeat refine sq ?_
     refine aS hΓ fun K' hK=>?_
     simp only[go_sem,ah aK,ai,aj,ba,ey,bz,Option.isSome_none]
     repeat (refine⟨ak,?_⟩)
     refine hK _ ?_
     clear K' hK
     simp only[go_sem]
     refine⟨i1+1,aK,by(show l.ts.length-(i1+1)<l.ts.length-i1;omega),?_⟩
     refine bg [0,1,5,56,57,58] [[5,0],[23,0],[24,0],[26,0],[49,0],[124,0]] ?_ ?_<;>simp only[go_sem,a7 aK kb,bb,qA]
    ·cases hb
   ·obtain⟨Mj,cf⟩:=p8 ey
    have sv:=Cs hp k r Mj
    have gV:=yv (IA sv)
    repeat refine sq ?_
    refine rx hΓ [0,1,5,8,9,10,11,56,57,58] [[5,0],[9,0],[10,0],[23,0],[24,0],[26,0],[49,0],[124,0]] (fun K' hK=>by simp only[go_sem,ah aK,ai,aj,ba,ey,aE,Option.isSome_some];rw[su _ _ rfl rfl rfl rfl];simp only[go_sem,ah aK,ai,aj,ba,ey,aE,Option.isSome_some];exact aq) ?_
    refine bP (el 10 (.ref [10,0] 0) (by simp only[go_sem]) (by simp only[go_sem]) [0,1,5,8,9,10,11,56,57,58] [[5,0],[9,0],[10,0],[23,0],[24,0],[26,0],[49,0],[124,0]] ?_ rfl) ?_
    ·simp only[go_sem]
    simp only[go_sem]
    repeat refine sq ?_
    refine rx hΓ [0,1,5,8,9,10,56,57,58,80] [[5,0],[9,0],[10,0],[23,0],[24,0],[26,0],[49,0],[124,0]] (fun K' hK=>by simp only[go_sem,ah aK,ai,aj,ba,ey,aE,Option.isSome_some];exact aq) ?_
    repeat refine sq ?_
    refine aB (fun hb=>?_) fun hb=>?_
    ·repeat refine sq ?_
     have qA:ay l k (i1+1)=ay l k i1:=uN (T6 (by rw[hx];exact ey) (by rw[hx];simpa using hb))
     refine bR ?_
     simp only[go_sem]
     refine kp [0,1,5,56,57,58] [[5,0],[23,0],[24,0],[26,0],[49,0],[124,0]] ?_
     repeat refine sq ?_
     refine aS hΓ fun K' hK=>?_
     simp only[go_sem,ah aK,ai,aj,ba,ey,aE,Option.isSome_some]
     repeat (refine⟨ak,?_⟩)
     refine hK _ ?_
     clear K' hK
     simp only[go_sem]
     refine⟨i1+1,aK,by(show l.ts.length-(i1+1)<l.ts.length-i1;omega),?_⟩
     refine bg [0,1,5,56,57,58] [[5,0],[23,0],[24,0],[26,0],[49,0],[124,0]] ?_ ?_<;>simp only[go_sem,a7 aK kb,bb,qA]
    ·repeat refine sq ?_
     have xv:bG l.ts[i1].kn l.ts[i1].un k=true:=by simpa using hb
     refine aJ ?_
     repeat refine sq ?_
     refine rx hΓ [0,1,5,8,9,10,12,56,57,58] [[5,0],[9,0],[10,0],[23,0],[24,0],[26,0],[49,0],[124,0]] (fun K' hK=>by simp only[go_sem,ah aK,ai,aj,ba,ey,aE,Option.isSome_some,gV];exact aq) ?_
     obtain⟨fs,lB⟩:∃ fs,bH l.ts[i1].lo (r.da+1)=fs:=⟨_,rfl⟩
     have M1:=lB
     unfold bH at M1
     rw[M1]
     repeat refine sq ?_
     refine rx hΓ [0,1,5,8,9,10,12,13,56,57,58] [[5,0],[9,0],[10,0],[23,0],[24,0],[26,0],[49,0],[124,0]] (fun K' hK=>by simp only[go_sem,ah aK,ai,aj,ba,ey,aE,Option.isSome_some];exact aq) ?_
     repeat refine sq ?_
     refine rx hΓ [0,1,5,8,9,10,12,56,57,58,99] [[5,0],[9,0],[10,0],[23,0],[24,0],[26,0],[49,0],[124,0]] (fun K' hK=>by simp only[go_sem,ah aK,ai,aj,ba,ey,aE,Option.isSome_some];rw[YU r _ _ rfl rfl rfl rfl rfl];simp only[go_sem,ah aK,ai,aj,ba,ey,aE,Option.isSome_some];exact aq) ?_
     repeat refine sq ?_
     refine aB (fun hb=>?_) fun hb=>?_
     ·repeat refine sq ?_
      have qA:ay l k (i1+1)=ay l k i1:=uN (T5 (by rw[hx];exact ey) (by rw[hx,lB];exact hb))
      refine bR ?_
      simp only[go_sem]
      refine kp [0,1,5,56,57,58] [[5,0],[23,0],[24,0],[26,0],[49,0],[124,0]] ?_
      repeat refine sq ?_
      refine aS hΓ fun K' hK=>?_
      simp only[go_sem,ah aK,ai,aj,ba,ey,aE,Option.isSome_some]
      repeat (refine⟨ak,?_⟩)
      refine hK _ ?_
      clear K' hK
      simp only[go_sem]
      refine⟨i1+1,aK,by(show l.ts.length-(i1+1)<l.ts.length-i1;omega),?_⟩
      refine bg [0,1,5,56,57,58] [[5,0],[23,0],[24,0],[26,0],[49,0],[124,0]] ?_ ?_<;>simp only[go_sem,a7 aK kb,bb,qA]
     ·repeat refine sq ?_
      have qA:=zt (T4 (k:=k) (rs:=bd l k) (bk:=(ay l k i1).bk) (x:=aD l i1) (r:=r) (by rw[hx];exact ey) (by rw[hx];exact xv) (by rw[hx,lB];exact hb))
      rw[hx,lB]at qA
      refine aJ ?_
      repeat refine sq ?_
      refine rx hΓ [0,1,5,8,9,10,12,56,57,58,101,102,103] [[5,0],[9,0],[10,0],[23,0],[24,0],[26,0],[49,0],[124,0]] (fun K' hK=>by simp only[go_sem,ah aK,ai,aj,ba,ey,aE,Option.isSome_some];exact aq) ?_
      repeat refine sq ?_
      refine aR ?_
      repeat refine sq ?_
      refine cr (fun s:Nat=>[(103,⟨true,.v (vInt s)⟩)]) (fun s=>[([23,0],.map 2 (bY (pN (ay l k i1).bk r.so i1 (l.ts[i1].lv.take s))))]) (fun s=>s<=l.ts[i1].lv.length) (fun s=>l.ts[i1].lv.length-s) 0 ?_ ?_ ?_ ?_
      ·exact Nat.zero_le _
      ·rfl
      ·rfl
      rintro i2 hi
      simp only[go_sem]
      repeat refine sq ?_
      refine rx hΓ [0,1,5,8,9,10,12,56,57,58,101,102,103,104] [[5,0],[9,0],[10,0],[23,0],[24,0],[26,0],[49,0],[124,0]] (fun K' hK=>by simp only[go_sem,ah aK,ai,aj,ba,ey,aE,Option.isSome_some];exact aq) ?_
      repeat refine sq ?_
      refine aB (fun hb=>?_) fun hb=>?_
      ·have bN:i2<l.ts[i1].lv.length:=by simpa using hb
       have dZ:(i2:Int)<l.ts[i1].lv.length:=by omega
       clear hb
       have ZD:=abh (ay l k i1).bk r.so i1 bN
       repeat refine sq ?_
       refine aJ ?_
       repeat refine sq ?_
       refine aR ?_
       repeat refine sq ?_
       refine rx hΓ [0,1,5,8,9,10,12,15,56,57,58,101,102,103] [[5,0],[9,0],[10,0],[23,0],[24,0],[26,0],[49,0],[124,0]] (fun K' hK=>by simp only[go_sem,ah aK,ai,aj,ba,ey,aE,Option.isSome_some,ah bN,ai,aj,dZ];exact aq) ?_
       repeat refine sq ?_
       refine oM hΓ hP [[],[0],[0,1],[0,1,2],[],[4],[],[4,5,6],[],u9] (by kernel_rfl) fun K' hK=>?_
       simp only[go_sem,ah aK,ai,aj,ba,ey,aE,Option.isSome_some,ah bN,ai,aj,dZ,Uc]
       repeat (refine⟨ak,?_⟩)
       first | refine⟨by rfl,?_⟩ | skip
       refine hK _ ?_
       clear K' hK
       simp only[go_sem]
       refine kp [0,1,5,8,9,10,12,56,57,58,101,102,103] [[5,0],[9,0],[10,0],[23,0],[24,0],[26,0],[49,0],[124,0]] ?_
       repeat refine sq ?_
       refine aS hΓ fun K' hK=>?_
       simp only[go_sem,ah aK,ai,aj,ba,ey,aE,Option.isSome_some,ah bN,ai,aj,dZ]
       repeat (refine⟨ak,?_⟩)
       refine hK _ ?_
       clear K' hK
       simp only[go_sem]
       refine⟨i2+1,bN,by(show l.ts[i1].lv.length-(i2+1)<l.ts[i1].lv.length-i2;omega),?_⟩
       refine bg [0,1,5,8,9,10,12,56,57,58,101,102,103] [[5,0],[9,0],[10,0],[23,0],[24,0],[26,0],[49,0],[124,0]] ?_ ?_<;>simp only[go_sem,a7 bN sH,bb,ZD]
      ·have nD:i2=l.ts[i1].lv.length:=by
        have :¬ (i2:Int)<l.ts[i1].lv.length:=by simpa using hb
        omega
       clear hb
       subst nD
       repeat refine sq ?_
       refine bR ?_
       simp only[go_sem]
       refine kp [0,1,5,8,9,12,56,57,58] [[5,0],[9,0],[23,0],[24,0],[26,0],[49,0],[124,0]] ?_
       repeat refine sq ?_
       refine dx hΓ hP [[],[],[1],[1,2],[1,2,3],[],[5],[1,2,3,4,5,6],u8,u9,cB] [0,1,5,8,9,12,56,57,58] [[5,0],[9,0],[23,0],[24,0],[26,0],[49,0],[124,0]] (by kernel_rfl) (fun K' hK=>by simp only[go_sem,ah aK,ai,aj,ba,ey,aE,Option.isSome_some];exact jC) ?_
       repeat refine sq ?_
       refine oM hΓ hP [[],[0],[0,1],[0,1,2],[],[],[],[6],[6,7],[5,6,7,8],cB] (by kernel_rfl) fun K' hK=>?_
       simp only[go_sem,ah aK,ai,aj,ba,ey,aE,Option.isSome_some,Jx]
       repeat (refine⟨ak,?_⟩)
       first | refine⟨by rfl,?_⟩ | skip
       refine hK _ ?_
       clear K' hK
       simp only[go_sem]
       refine kp [0,1,5,56,57,58] [[5,0],[23,0],[24,0],[26,0],[49,0],[124,0]] ?_
       repeat refine sq ?_
       refine aS hΓ fun K' hK=>?_
       simp only[go_sem,ah aK,ai,aj,ba,ey,aE,Option.isSome_some]
       repeat (refine⟨ak,?_⟩)
       refine hK _ ?_
       clear K' hK
       simp only[go_sem]
       refine⟨i1+1,aK,by(show l.ts.length-(i1+1)<l.ts.length-i1;omega),?_⟩
       refine bg [0,1,5,56,57,58] [[5,0],[23,0],[24,0],[26,0],[49,0],[124,0]] ?_ ?_<;>simp only[go_sem,a7 aK kb,bb,qA,List.take_length,List.map_append,List.map_cons,List.map_nil,List.length_append,List.length_cons,List.length_nil]
  ·have ke:i1=l.ts.length:=by
    have :¬ (i1:Int)<l.ts.length:=by simpa using hb
    omega
   clear hb
   subst ke
   repeat refine sq ?_
   refine bR ?_
   simp only[go_sem]
   refine kp [0,5] [[5,0],[23,0],[24,0],[26,0],[49,0],[124,0]] ?_
   have hk:=zu l k l.ts.length (Nat.le_refl _)
   obtain⟨e1,e2⟩:=pn l k l.ts.length
   have hΓ:=ada
   have Xn:(ay l k l.ts.length).ts.length<=maxLen:=Nat.le_trans hk.tn kb
   refine bP (oY [26,0] [124,0] 2 _ _ _ _ rfl rfl rfl (by first | rfl | (simp only[List.length_map];done)) [0,5] [[5,0],[23,0],[24,0],[26,0],[49,0],[124,0]] ?_ rfl) ?_
   ·simp only[go_sem,List.set_cons_succ,List.set_cons_zero]
   simp only[go_sem,List.set_cons_succ,List.set_cons_zero]
   repeat refine sq ?_
   refine rx hΓ [0,5,141,142,143] [[5,0],[23,0],[24,0],[26,0],[49,0],[124,0]] (fun K' hK=>by simp only[go_sem];exact aq) ?_
   repeat refine sq ?_
   refine aR ?_
   repeat refine sq ?_
   refine cr (fun s:Nat=>[(143,⟨true,.v (vInt s)⟩)]) (fun s=>[([24,0],.map 0 (bL (gj l (bd l k) (ay l k l.ts.length).ts (ay l k l.ts.length).ds s)))]) (fun s=>s<=(ay l k l.ts.length).ts.length) (fun s=>(ay l k l.ts.length).ts.length-s) 0 ?_ ?_ ?_ ?_
   ·exact Nat.zero_le _
   ·rfl
   ·rfl
   rintro i3 hi
   simp only[go_sem]
   repeat refine sq ?_
   refine rx hΓ [0,5,141,142,143,144] [[5,0],[23,0],[24,0],[26,0],[49,0],[124,0]] (fun K' hK=>by simp only[go_sem];exact aq) ?_
   repeat refine sq ?_
   refine aB (fun hb=>?_) fun hb=>?_
   ·have fX:i3<(ay l k l.ts.length).ts.length:=by simpa using hb
    have qD:(i3:Int)<(ay l k l.ts.length).ts.length:=by omega
    clear hb
    obtain⟨⟨cG,iQ⟩,r,nw⟩:=hk.ts (ay l k l.ts.length).ts[i3] (List.getElem_mem fX)
    have l7:=Hf cG iQ
    have hD:gj l (bd l k) (ay l k l.ts.length).ts (ay l k l.ts.length).ds (i3+1)=jV (gj l (bd l k) (ay l k l.ts.length).ts (ay l k l.ts.length).ds i3) (ay l k l.ts.length).ts[i3] r.da (cU (bd l k) r.pa (aD l (ay l k l.ts.length).ts[i3].toNat).lv):=by
     show jV _ ((ay l k l.ts.length).ts.getD i3 0) (lW (bd l k) (aD l ((ay l k l.ts.length).ts.getD i3 0).toNat).re).da (cU _ (lW (bd l k) (aD l ((ay l k l.ts.length).ts.getD i3 0).toNat).re).pa _)=_
     rw[cz fX];unfold lW;rw[nw];rfl
    repeat refine sq ?_
    refine aJ ?_
    repeat refine sq ?_
    refine aR ?_
    repeat refine sq ?_
    refine rx hΓ [0,5,17,141,142,143] [[5,0],[17,0],[23,0],[24,0],[26,0],[49,0],[124,0]] (fun K' hK=>by simp only[go_sem,ah fX,ai,aj,qD];exact aq) ?_
    refine bP (el 17 (.ref [17,0] 0) (by simp only[go_sem]) (by simp only[go_sem]) [0,5,17,141,142,143] [[5,0],[17,0],[23,0],[24,0],[26,0],[49,0],[124,0]] ?_ rfl) ?_
    ·simp only[go_sem]
    simp only[go_sem]
    repeat refine sq ?_
    refine dx hΓ hP [[],[0],[0,1],[0,1,2],[],u5,u6,[],u8] [0,5,17,18,141,142,143] [[5,0],[17,0],[18,0],[23,0],[24,0],[26,0],[49,0],[124,0]] (by kernel_rfl) (fun K' hK=>by simp only[go_sem,ah fX,ai,aj,qD,l7,cG,iQ];exact jC) ?_
    refine bP (el 18 (.ref [18,0] 0) (by simp only[go_sem]) (by simp only[go_sem]) [0,5,17,18,141,142,143] [[5,0],[17,0],[18,0],[23,0],[24,0],[26,0],[49,0],[124,0]] ?_ rfl) ?_
    ·simp only[go_sem]
    simp only[go_sem]
    repeat refine sq ?_
    refine rx hΓ [0,5,17,18,19,141,142,143] [[5,0],[17,0],[18,0],[19,0],[23,0],[24,0],[26,0],[49,0],[124,0]] (fun K' hK=>by simp only[go_sem,ah fX,ai,aj,qD,nw,aE,Option.isSome_some];exact aq) ?_
    refine bP (el 19 (.ref [19,0] 0) (by simp only[go_sem]) (by simp only[go_sem]) [0,5,17,18,19,141,142,143] [[5,0],[17,0],[18,0],[19,0],[23,0],[24,0],[26,0],[49,0],[124,0]] ?_ rfl) ?_
    ·simp only[go_sem]
    simp only[go_sem]
    repeat refine sq ?_
    refine rx hΓ [0,5,17,19,141,142,143,166] [[5,0],[17,0],[19,0],[23,0],[24,0],[26,0],[49,0],[124,0],[3,0,166,0]] (fun K' hK=>by simp only[go_sem,ah fX,ai,aj,qD];exact aq) ?_
    repeat refine sq ?_
    refine aR ?_
    repeat refine sq ?_
    have cM:=Ix hp k
    have aa:=JL l k (ay l k l.ts.length).ts[i3] (i3:Nat) (ay l k l.ts.length).ts.length ⟨l,bd l k,(ay l k l.ts.length).ts,(ay l k l.ts.length).bk,gj l (bd l k) (ay l k l.ts.length).ts (ay l k l.ts.length).ds i3⟩ r (aD l (ay l k l.ts.length).ts[i3].toNat).lv cM
    have gK:aN Tryz.prog 193 ((iG l k (ay l k l.ts.length).ts[i3] (i3:Nat) (ay l k l.ts.length).ts.length ⟨l,bd l k,(ay l k l.ts.length).ts,(ay l k l.ts.length).bk,gj l (bd l k) (ay l k l.ts.length).ts (ay l k l.ts.length).ds i3⟩ r (aD l (ay l k l.ts.length).ts[i3].toNat).lv).itC (ko 4 r.pa (aD l (ay l k l.ts.length).ts[i3].toNat).lv)).toSpec:=H6 aa (fun _=>rfl) (Uy l k (ay l k l.ts.length).ts[i3] (i3:Nat) (ay l k l.ts.length).ts.length ⟨l,bd l k,(ay l k l.ts.length).ts,(ay l k l.ts.length).bk,gj l (bd l k) (ay l k l.ts.length).ts (ay l k l.ts.length).ds i3⟩ r (aD l (ay l k l.ts.length).ts[i3].toNat).lv cM) (Cs hp k) (Iy hp k) rfl (fun _=>rfl) (j:=4) (jc:=1) (show 4<5 by decide) rfl rfl
    refine OO aa (Uz l k (ay l k l.ts.length).ts[i3] (i3:Nat) (ay l k l.ts.length).ts.length ⟨l,bd l k,(ay l k l.ts.length).ts,(ay l k l.ts.length).bk,gj l (bd l k) (ay l k l.ts.length).ts (ay l k l.ts.length).ds i3⟩ r (aD l (ay l k l.ts.length).ts[i3].toNat).lv) (f:=193) 200 201 (Ls:=[[5,0],[26,0],[23,0],[24,0],[3,0,166,0]]) rfl rfl (by decide) gK rfl rfl rfl rfl rfl rfl (by decide) (show ([200,0]:Name)∉[[5,0],[26,0],[23,0],[24,0],[3,0,166,0]]by decide) ⟨rfl,rfl,rfl,rfl,rfl,trivial⟩ fun o=>?_
    obtain⟨g1,g2⟩:=Lp.go_e (r:=(iG l k (ay l k l.ts.length).ts[i3] (i3:Nat) (ay l k l.ts.length).ts.length ⟨l,bd l k,(ay l k l.ts.length).ts,(ay l k l.ts.length).bk,gj l (bd l k) (ay l k l.ts.length).ts (ay l k l.ts.length).ds i3⟩ r (aD l (ay l k l.ts.length).ts[i3].toNat).lv)) (fun _=>rfl)
    have g3:(iG l k (ay l k l.ts.length).ts[i3] (i3:Nat) (ay l k l.ts.length).ts.length ⟨l,bd l k,(ay l k l.ts.length).ts,(ay l k l.ts.length).bk,gj l (bd l k) (ay l k l.ts.length).ts (ay l k l.ts.length).ds i3⟩ r (aD l (ay l k l.ts.length).ts[i3].toNat).lv).fam [[5,0],[26,0],[23,0],[24,0],[3,0,166,0]] (iG l k (ay l k l.ts.length).ts[i3] (i3:Nat) (ay l k l.ts.length).ts.length ⟨l,bd l k,(ay l k l.ts.length).ts,(ay l k l.ts.length).bk,gj l (bd l k) (ay l k l.ts.length).ts (ay l k l.ts.length).ds i3⟩ r (aD l (ay l k l.ts.length).ts[i3].toNat).lv).e=[.box [.ref [26,0] 0],bC ⟨l,bd l k,(ay l k l.ts.length).ts,(ay l k l.ts.length).bk,gj l (bd l k) (ay l k l.ts.length).ts (ay l k l.ts.length).ds i3⟩ [23,0] [24,0],.map 2 (bY (ay l k l.ts.length).bk),.map 0 (bL (gj l (bd l k) (ay l k l.ts.length).ts (ay l k l.ts.length).ds (i3+1))),.box [.ref [26,0] 0]]:=by
     rw[g1,hD,<-List.take_length (l:=cU (bd l k) r.pa (aD l (ay l k l.ts.length).ts[i3].toNat).lv)]
     rfl
    rw[g2,g3]
    simp only[y9,jM]
    refine bV ?_
    show CL Tryz.prog (_::_) _ _
    refine eR [0,5,141,142,143] [[5,0],[23,0],[24,0],[26,0],[49,0],[124,0]] ?_ ?_
    ·simp only[go_sem,eo]
    simp only[go_sem,eo]
    repeat refine sq ?_
    refine aS hΓ fun K' hK=>?_
    simp only[go_sem]
    repeat (refine⟨ak,?_⟩)
    refine hK _ ?_
    clear K' hK
    simp only[go_sem]
    refine⟨i3+1,fX,by(show (ay l k l.ts.length).ts.length-(i3+1)<(ay l k l.ts.length).ts.length-i3;omega),?_⟩
    refine bg [0,5,141,142,143] [[5,0],[23,0],[24,0],[26,0],[49,0],[124,0]] ?_ ?_<;>simp only[go_sem,a7 fX Xn,bb]
   ·have xt:i3=(ay l k l.ts.length).ts.length:=by
     have :¬ (i3:Int)<(ay l k l.ts.length).ts.length:=by simpa using hb
     omega
    clear hb
    subst xt
    repeat refine sq ?_
    refine bR ?_
    simp only[go_sem]
    refine kp [5] [[5,0],[23,0],[24,0],[26,0],[49,0],[124,0]] ?_
    repeat refine sq ?_
    refine rx hΓ [4] [[23,0],[24,0],[26,0],[49,0],[124,0]] (fun K' hK=>by simp only[go_sem];exact aq) ?_
    refine aC ?_
    simp only[go_sem]
    rw[show (aw l k).l=l from e1,show (aw l k).rs=bd l k from e2];first | exact⟨rfl,rfl,rfl⟩ | exact⟨rfl,rfl,rfl,trivial⟩ | exact⟨⟨rfl,rfl,rfl⟩,rfl⟩ | trace_state
end
set_option maxHeartbeats 8000000
noncomputable section
def gN(l:Led)(ds:List Int):Int:=if oN l=0 then gY (!ds.any fun d=>!dayB d) 6 else oN l
theorem To:pG (161,[])=fun n=>!dayB n:=rfl
theorem TJ:zi (161,[]):=.inl rfl
def K30a:List (Nat×Spec):=[(37,GF),(160,S160)]
theorem ac9:KS K30a:=tc RW.sound<|tc LW<|tn
attribute [go_sem] K30a
@[go_sem] def P75:PSpec:=p2 iL fw (fun _ _=>True) (fun l ds=>vInt (gN l ds)) true
@[go_sem] def nX:Spec:=P75.toSpec
theorem HY:aZ Tryz.prog 75 P75:=by
 refine fD (rs:=[.tmp 4]) Tryz.func75 Tryz.ntmps75 fun l ds hp hw=>?_
 simp only[fw,iL,gM]at hw |-
 have hΓ:=ac9
 repeat refine sq ?_
 refine rx hΓ [1,2] [[2,0]] (fun K' hK=>by simp only[go_sem];exact aq) ?_
 refine bP (el 2 (.ref [2,0] 0) (by simp only[go_sem]) (by simp only[go_sem]) [1,2] [[2,0]] ?_ rfl) ?_
 ·simp only[go_sem]
 simp only[go_sem]
 repeat refine sq ?_
 refine rx hΓ [1,5] [] (fun K' hK=>by simp only[go_sem];exact aq) ?_
 repeat refine sq ?_
 refine rx hΓ [1,5,9] [] (fun K' hK=>by simp only[go_sem];exact aq) ?_
 repeat refine sq ?_
 refine aB (fun hb=>?_) fun hb=>?_
 ·repeat refine sq ?_
  have hc:¬ oN l=0:=by simpa using hb
  unfold gN;rw[if_neg hc]
  repeat refine sq ?_
  refine rx hΓ [4] [] (fun K' hK=>by simp only[go_sem];exact aq) ?_
  refine aC ?_
  simp only[go_sem]
  all_goals exact e8
 ·repeat refine sq ?_
  have hc:oN l=0:=by simpa using hb
  unfold gN;rw[if_pos hc]
  refine aJ ?_
  repeat refine sq ?_
  refine rx hΓ [12] [] (fun K' hK=>by simp only[go_sem,TJ,To];exact aq) ?_
  repeat refine sq ?_
  refine aB (fun hb=>?_) fun hb=>?_
  ·repeat refine sq ?_
   rw[show (ds.any fun d=>!dayB d)=true from hb]
   repeat refine sq ?_
   refine rx hΓ [4] [] (fun K' hK=>by simp only[go_sem];exact aq) ?_
   refine aC ?_
   simp only[go_sem]
   all_goals exact e8
  ·repeat refine sq ?_
   rw[show (ds.any fun d=>!dayB d)=false from hb]
   refine aJ ?_
   repeat refine sq ?_
   refine rx hΓ [4] [] (fun K' hK=>by simp only[go_sem];exact aq) ?_
   refine aC ?_
   simp only[go_sem]
   all_goals exact e8
def ac8:List (Nat×Spec):=[(76,S76),(128,S128)]
attribute [go_sem] ac8
def tU(x:Vw)(t:Name):List (Name×O):=[(26::0::t,bC x (23::0::t) (24::0::t)),(23::0::t,.map 2 (bY x.bk)),(24::0::t,.map 0 (bL x.ds))]
def GB:Option (Int×Int)->Vw->List (Name×O)
 |none,x=>tU x [11,0]
 |some _,_=>[]
def GA:Option (Int×Int)->D
 |none=>.tup [.ref [26,0,11,0] 0,.v (vInt 0)]
 |some _=>.tup [.v .nilp,.v (vInt 25)]
attribute [go_sem] tU
theorem tC(x:Vw):GB none x=tU x [11,0]:=rfl
theorem yi(p:Int×Int)(x:Vw):GB (some p) x=[]:=rfl
theorem tz:GA none=.tup [.ref [26,0,11,0] 0,.v (vInt 0)]:=rfl
theorem yh(p:Int×Int):GA (some p)=.tup [.v .nilp,.v (vInt 25)]:=rfl
theorem Cw(p:Int×Int):yX (some p)=.tup [.v (.sl [vInt p.1,vInt p.2]),.v (.bool true)]:=rfl
theorem Cx:yX none=.tup [.nilsl,.v (.bool false)]:=rfl
def K30c:List (Nat×Spec):=[(76,S76),(120,S120)]
theorem ac7:KS K30c:=tc LU<|tc WK<|tn
attribute [go_sem] K30c
def BH:NSpec:=n2 pv iI (fun l _=>bE l) (fun l k=>GB (eC (aw l k)) (aw l k)) (fun l k=>GA (eC (aw l k)))
def S121:Spec:=BH.toSpec
attribute [go_sem] BH S121
theorem WJ:aN Tryz.prog 121 S121:=by
 refine C3 (nt:=19) (rs:=[.tmp 4,.tmp 5]) Tryz.func121 rfl (by rfl) (by kernel_rfl) (by kernel_rfl) (by decide) ?_
 intro xs hp
 obtain⟨l,k,rfl,hp,eZ,eY⟩:=C' hp
 replace eZ:BH.new _=_:=eZ
 replace eY:BH.d _=_:=eY
 rw[eZ,eY]
 clear eZ eY
 refine⟨lb rfl,?_⟩
 simp only[iI,iB,fw,iP,iR,iT,iS,iL,pv,fW,iC,iF,c9,encR,cT,encS,gM,kj,List.map_cons,List.map_nil,dm,Nat.zero_add]
 have hΓ:=ac7
 repeat refine sq ?_
 refine rx hΓ [0,1] [] (fun K' hK=>by simp only[go_sem];exact aq) ?_
 repeat refine sq ?_
 refine rx hΓ [6] [[26,0,11,0],[23,0,11,0],[24,0,11,0]] (fun K' hK=>by simp only[go_sem];exact aq) ?_
 rcases j9:eC (aw l k)with _ | p
 ·repeat refine sq ?_
  refine rx hΓ [6,8] [[26,0,11,0],[23,0,11,0],[24,0,11,0]] (fun K' hK=>by simp only[go_sem,j9,Cx];(repeat (refine⟨by first | exact ak | exact(uL hp k).1,?_⟩));exact ki) ?_
  repeat refine sq ?_
  refine rx hΓ [6,17] [[26,0,11,0],[23,0,11,0],[24,0,11,0]] (fun K' hK=>by simp only[go_sem,j9,Cx];exact aq) ?_
  repeat refine sq ?_
  refine aB (fun hb=>?_) fun hb=>?_
  ·cases hb
  ·repeat refine sq ?_
   refine aJ ?_
   repeat refine sq ?_
   refine rx hΓ [4,5] [[26,0,11,0],[23,0,11,0],[24,0,11,0]] (fun K' hK=>by simp only[go_sem,j9,Cx];exact aq) ?_
   refine aC ?_
   simp only[go_sem,tC,tz,yi,yh]
   all_goals first | done | rfl | trace_state
 ·repeat refine sq ?_
  refine rx hΓ [6,8] [[26,0,11,0],[23,0,11,0],[24,0,11,0]] (fun K' hK=>by simp only[go_sem,j9,Cw];(repeat (refine⟨by first | exact ak | exact(uL hp k).1,?_⟩));exact ki) ?_
  repeat refine sq ?_
  refine rx hΓ [6,17] [[26,0,11,0],[23,0,11,0],[24,0,11,0]] (fun K' hK=>by simp only[go_sem,j9,Cw];exact aq) ?_
  repeat refine sq ?_
  refine aB (fun hb=>?_) fun hb=>?_
  ·repeat refine sq ?_
   refine rx hΓ [4,5] [[26,0,11,0],[23,0,11,0],[24,0,11,0]] (fun K' hK=>by simp only[go_sem,j9,Cw];exact aq) ?_
   refine aC ?_
   simp only[go_sem,tC,tz,yi,yh]
   all_goals first | done | rfl | trace_state
  ·cases hb
theorem Q9{l:Led}(h:bE l)(k:Int):(fb l k).length<=60/\∀ s∈fb l k,B8 s:=by
 refine⟨Nat.le_trans (List.length_filter_le _ _) h.ssn,fun s hs=>?_⟩
 obtain⟨j,hj,rfl⟩:=List.getElem_of_mem (List.mem_filter.1 hs).1
 have :=mA h.ss hj
 unfold kC at this
 simp only[Bool.and_eq_true]at this
 have hd:=this.1.2
 unfold dayB cb at hd
 simp at hd
 exact hd
def bu(x:Vw)(k:Int):Vw:={ x with ds:=dI x x.ds (fb x.l k) }
def uf:Option (Int×Int)->Bool->Vw->Int->List (Name×O)
 |none,true,x,k=>tU (bu x k) [11,0,11,0]
 |_,_,_,_=>[]
def Q1:Option (Int×Int)->Bool->Int
 |some _,_=>25
 |none,false=>27
 |none,true=>0
def ua:Option (Int×Int)->Bool->D
 |some _,_=>.tup [.v .nilp,.v (vInt 25)]
 |none,false=>.tup [.v .nilp,.v (vInt 27)]
 |none,true=>.tup [.ref [26,0,11,0,11,0] 0,.v (vInt 0)]
theorem ub(x:Vw)(k:Int):uf none true x k=tU (bu x k) [11,0,11,0]:=rfl
theorem ue(x:Vw)(k:Int):uf none false x k=[]:=rfl
theorem B4(p:Int×Int)(b:Bool)(x:Vw)(k:Int):uf (some p) b x k=[]:=by cases b<;>rfl
theorem tY:ua none true=.tup [.ref [26,0,11,0,11,0] 0,.v (vInt 0)]:=rfl
theorem t':ua none false=.tup [.v .nilp,.v (vInt 27)]:=rfl
theorem B3(p:Int×Int)(b:Bool):ua (some p) b=.tup [.v .nilp,.v (vInt 25)]:=by cases b<;>rfl
def K30d:List (Nat×Spec):=[(121,S121),(122,S122),(128,S128)]
theorem ac6:KS K30d:=tc WJ<|tc WI<|tc WH<|tn
attribute [go_sem] K30d
def BF:NSpec:=n2 pv iI (fun l _=>bE l) (fun l k=>uf (eC (aw l k)) (fa (aw l k) (fb (aw l k).l k)) (aw l k) k) (fun l k=>ua (eC (aw l k)) (fa (aw l k) (fb (aw l k).l k)))
def S78:Spec:=BF.toSpec
attribute [go_sem] BF S78
theorem LQ:aN Tryz.prog 78 S78:=by
 refine C3 (nt:=24) (rs:=[.tmp 4,.tmp 5]) Tryz.func78 rfl (by rfl) (by kernel_rfl) (by kernel_rfl) (by decide) ?_
 intro xs hp
 obtain⟨l,k,rfl,hp,eZ,eY⟩:=C' hp
 replace eZ:BF.new _=_:=eZ
 replace eY:BF.d _=_:=eY
 rw[eZ,eY]
 clear eZ eY
 refine⟨lb rfl,?_⟩
 simp only[iI,iB,fw,iP,iR,iT,iS,iL,pv,fW,iC,iF,c9,encR,cT,encS,gM,kj,List.map_cons,List.map_nil,dm,Nat.zero_add]
 have hΓ:=ac6
 obtain⟨hv,cM⟩:=uL hp k
 obtain⟨px,Xr⟩:=Q9 hv.ok k
 repeat refine sq ?_
 refine rx hΓ [0,1] [] (fun K' hK=>by simp only[go_sem];exact aq) ?_
 rcases j9:eC (aw l k)with _ | p
 ·repeat refine sq ?_
  refine rx hΓ [1,6,7] [[26,0,11,0,11,0],[23,0,11,0,11,0],[24,0,11,0,11,0]] (fun K' hK=>by simp only[go_sem,j9,tC,tz];exact aq) ?_
  repeat refine sq ?_
  refine rx hΓ [1,6,7,15] [[26,0,11,0,11,0],[23,0,11,0,11,0],[24,0,11,0,11,0]] (fun K' hK=>by simp only[go_sem,j9,tC,tz];exact aq) ?_
  repeat refine sq ?_
  refine aB (fun hb=>?_) fun hb=>?_
  ·cases hb
  ·repeat refine sq ?_
   refine aJ ?_
   repeat refine sq ?_
   refine rx hΓ [6,22] [[26,0,11,0,11,0],[23,0,11,0,11,0],[24,0,11,0,11,0]] (fun K' hK=>by simp only[go_sem,j9,tC,tz];(repeat (refine⟨by first | exact ak | exact hv.ok.ssn | exact⟨⟨⟨hv,cM⟩,px⟩,Xr⟩,?_⟩));exact ki) ?_
   repeat refine sq ?_
   refine aB (fun hb=>?_) fun hb=>?_
   ·repeat refine sq ?_
    have hf:fa (aw l k) (fb (aw l k).l k)=false:=by simpa using hb
    repeat refine sq ?_
    refine rx hΓ [4,5] [[26,0,11,0,11,0],[23,0,11,0,11,0],[24,0,11,0,11,0]] (fun K' hK=>by simp only[go_sem,j9,tC,tz];exact aq) ?_
    refine aC ?_
    simp only[go_sem,ub,ue,B4,tY,t',B3]
    all_goals first | done | rfl | (rw[hf];simp only[go_sem,ub,ue,tY,t',bu];done) | trace_state
   ·repeat refine sq ?_
    have hf:fa (aw l k) (fb (aw l k).l k)=true:=by simpa using hb
    refine aJ ?_
    repeat refine sq ?_
    refine rx hΓ [4,5] [[26,0,11,0,11,0],[23,0,11,0,11,0],[24,0,11,0,11,0]] (fun K' hK=>by simp only[go_sem,j9,tC,tz];exact aq) ?_
    refine aC ?_
    simp only[go_sem,ub,ue,B4,tY,t',B3]
    all_goals first | done | rfl | (rw[hf];simp only[go_sem,ub,ue,tY,t',bu];done) | trace_state
 ·repeat refine sq ?_
  refine rx hΓ [1,6,7] [[26,0,11,0,11,0],[23,0,11,0,11,0],[24,0,11,0,11,0]] (fun K' hK=>by simp only[go_sem,j9,yi,yh];exact aq) ?_
  repeat refine sq ?_
  refine rx hΓ [1,6,7,15] [[26,0,11,0,11,0],[23,0,11,0,11,0],[24,0,11,0,11,0]] (fun K' hK=>by simp only[go_sem,j9,yi,yh];exact aq) ?_
  repeat refine sq ?_
  refine aB (fun hb=>?_) fun hb=>?_
  ·repeat refine sq ?_
   refine rx hΓ [4,5] [[26,0,11,0,11,0],[23,0,11,0,11,0],[24,0,11,0,11,0]] (fun K' hK=>by simp only[go_sem,j9,yi,yh];exact aq) ?_
   refine aC ?_
   simp only[go_sem,ub,ue,B4,tY,t',B3]
   all_goals first | done | rfl | (rw[hf];simp only[go_sem,ub,ue,tY,t',bu];done) | trace_state
  ·cases hb
end
noncomputable section
theorem r8(l:Led)(k:Int):(aw l k).l=l:=(pn l k l.ts.length).1
theorem Ow{l:Led}{ds:List Int}(h:gN l ds=0):bE l/\∀ d∈ds,dayB d=true:=by
 unfold gN at h
 split at h
 ·rename_i hc
  refine⟨?_,?_⟩
  ·refine Classical.byContradiction fun hn=>?_
   rw[xU hn]at hc;cases hc
  ·unfold gY at h
   split at h
   ·rename_i hd
    intro d YO
    have :(ds.any fun d=>!dayB d)=false:=by simpa using hd
    rw[List.any_eq_false]at this
    have :=this d YO
    simpa using this
   ·cases h
 ·rename_i hc;exact(hc h).elim
def kz(l:Led)(k:Int):Bool:=(eC (aw l k)).isNone&&fa (aw l k) (fb (aw l k).l k)
def K31:List (Nat×Spec):=[(75,nX),(76,S76),(120,S120),(121,S121),(122,S122),(128,S128),(77,S77),(129,S129)]
attribute [go_sem] K31
end
noncomputable section
def ac5:List (Nat×Spec):=[(75,nX),(76,S76)]
attribute [go_sem] ac5
def rA(x:Vw)(pa le day:Int):List Int:=match eJ x.rs pa le day with
 |none=>[0]
 |some r=>match be x.bk (r.so,le)with
  |none=>[r.bo]
  |some i=>(if (aV x.ds i).1<=day then[0]else[])++(if (aV x.ds i).2>day then[r.bo]else[])
def K32b:List (Nat×Spec):=[(119,S119)]
theorem ac4:KS K32b:=tc LX<|tn
attribute [go_sem] K32b
def PJ:VSpec:=v2 np iI (fun x _ _=>nW x/\x.rs.Nodup) (fun x f day=>.v (.sl ((rA x f.pa f.le day).map vInt))) none
def S80:Spec:=PJ.toSpec
attribute [go_sem] PJ S80
set_option maxHeartbeats 8000000 in
theorem Ww:aN Tryz.prog 80 S80:=by
 refine yx (rs:=[.tmp 6]) Tryz.func80 Tryz.ntmps80 (by rfl) (by kernel_rfl) (by decide) (fun _ _ _=>by first | rfl | simp[D.clos,D.closL,lU]) ⟨_,rfl,lb rfl,fun x f day hp H h0 h1 h2 hO ae=>?_⟩
 have hP:=fU
 simp only[np,iI,qQ,bC,dm,List.map_cons,List.map_nil,Nat.zero_add,Option.map_some,Option.map_none]at h0 |-
 have hΓ:=ac4
 obtain⟨pa,le⟩:=f
 have lx:rA x pa le day=match eJ x.rs pa le day with
  |none=>[0]
  |some r=>match be x.bk (r.so,le)with
   |none=>[r.bo]
   |some i=>(if (aV x.ds i).1<=day then[0]else[])++(if (aV x.ds i).2>day then[r.bo]else[]):=rfl
 rw[lx]
 clear lx
 repeat refine sq ?_
 refine rx hΓ [0,2,4] [[4,0]] (fun K' hK=>by simp only[go_sem,hO,ae,h0,h1,h2];(repeat (refine⟨ak,?_⟩));exact hK _ (by simp only[go_sem,hO,ae,h0,h1,h2]) (by simp only[go_sem,hO,ae,h0,h1,h2]<;>rfl)) ?_
 rcases av:eJ x.rs pa le day with _ | r
 ·repeat refine sq ?_
  refine rx hΓ [0,2,4,7,8] [[4,0],[7,0]] (fun K' hK=>by simp only[go_sem,hO,ae,h0,h1,h2,av,bz,Option.isSome_none];(repeat (refine⟨ak,?_⟩));exact hK _ (by simp only[go_sem,hO,ae,h0,h1,h2,av,bz,Option.isSome_none]) (by simp only[go_sem,hO,ae,h0,h1,h2,av,bz,Option.isSome_none]<;>rfl)) ?_
  repeat refine sq ?_
  refine rx hΓ [0,2,4,7,20] [[4,0],[7,0]] (fun K' hK=>by simp only[go_sem,hO,ae,h0,h1,h2,av,bz,Option.isSome_none];(repeat (refine⟨ak,?_⟩));exact hK _ (by simp only[go_sem,hO,ae,h0,h1,h2,av,bz,Option.isSome_none]) (by simp only[go_sem,hO,ae,h0,h1,h2,av,bz,Option.isSome_none]<;>rfl)) ?_
  repeat refine sq ?_
  refine aB (fun hb=>?_) fun hb=>?_
  ·repeat refine sq ?_
   refine rx hΓ [6] [[51,0],[65,0]] (fun K' hK=>by simp only[go_sem,hO,ae,h0,h1,h2,av,bz,Option.isSome_none];(repeat (refine⟨ak,?_⟩));exact hK _ (by simp only[go_sem,hO,ae,h0,h1,h2,av,bz,Option.isSome_none]) (by simp only[go_sem,hO,ae,h0,h1,h2,av,bz,Option.isSome_none]<;>rfl)) ?_
   refine aC ?_
   simp only[go_sem,hO,ae,h0,h1,h2]
   all_goals first | rfl | (simp only[aI];rfl) | (simp_all;done) | trace_state
  ·cases hb
 ·repeat refine sq ?_
  refine rx hΓ [0,2,4,7,8] [[4,0],[7,0]] (fun K' hK=>by simp only[go_sem,hO,ae,h0,h1,h2,av,aE,Option.isSome_some];(repeat (refine⟨ak,?_⟩));exact hK _ (by simp only[go_sem,hO,ae,h0,h1,h2,av,aE,Option.isSome_some]) (by simp only[go_sem,hO,ae,h0,h1,h2,av,aE,Option.isSome_some]<;>rfl)) ?_
  repeat refine sq ?_
  refine rx hΓ [0,2,4,7,20] [[4,0],[7,0]] (fun K' hK=>by simp only[go_sem,hO,ae,h0,h1,h2,av,aE,Option.isSome_some];(repeat (refine⟨ak,?_⟩));exact hK _ (by simp only[go_sem,hO,ae,h0,h1,h2,av,aE,Option.isSome_some]) (by simp only[go_sem,hO,ae,h0,h1,h2,av,aE,Option.isSome_some]<;>rfl)) ?_
  repeat refine sq ?_
  refine aB (fun hb=>?_) fun hb=>?_
  ·cases hb
  ·repeat refine sq ?_
   refine aJ ?_
   rcases aI:be x.bk (r.so,le)with _ | j
   ·repeat refine sq ?_
    refine dx hΓ hP [[],[0],[0,1],[0,1,2],[],[4],[],[6],[4,5,6,7],u9,cB,fm,fm,dO,jK] [0,2,7,9,10] [[7,0]] (by kernel_rfl) (fun K' hK=>by simp only[go_sem,hO,ae,h0,h1,h2,av,aE,Option.isSome_some,ax,aI,Option.map_none,Option.isSome_none,Option.getD_none];(repeat (refine⟨ak,?_⟩));(first | refine⟨by rfl,?_⟩ | skip);exact hK _ (by simp only[go_sem,hO,ae,h0,h1,h2,av,aE,Option.isSome_some,ax,aI,Option.map_none,Option.isSome_none,Option.getD_none]) (by simp only[go_sem,hO,ae,h0,h1,h2,av,aE,Option.isSome_some,ax,aI,Option.map_none,Option.isSome_none,Option.getD_none]<;>rfl)) ?_
    repeat refine sq ?_
    refine rx hΓ [0,2,7,9,36] [[7,0]] (fun K' hK=>by simp only[go_sem,hO,ae,h0,h1,h2,av,aE,Option.isSome_some,ax,aI,Option.map_none,Option.isSome_none,Option.getD_none];(repeat (refine⟨ak,?_⟩));exact hK _ (by simp only[go_sem,hO,ae,h0,h1,h2,av,aE,Option.isSome_some,ax,aI,Option.map_none,Option.isSome_none,Option.getD_none]) (by simp only[go_sem,hO,ae,h0,h1,h2,av,aE,Option.isSome_some,ax,aI,Option.map_none,Option.isSome_none,Option.getD_none]<;>rfl)) ?_
    repeat refine sq ?_
    refine aB (fun hb=>?_) fun hb=>?_
    ·repeat refine sq ?_
     refine rx hΓ [6] [[51,0],[65,0]] (fun K' hK=>by simp only[go_sem,hO,ae,h0,h1,h2,av,aE,Option.isSome_some,ax,aI,Option.map_none,Option.isSome_none,Option.getD_none];(repeat (refine⟨ak,?_⟩));exact hK _ (by simp only[go_sem,hO,ae,h0,h1,h2,av,aE,Option.isSome_some,ax,aI,Option.map_none,Option.isSome_none,Option.getD_none]) (by simp only[go_sem,hO,ae,h0,h1,h2,av,aE,Option.isSome_some,ax,aI,Option.map_none,Option.isSome_none,Option.getD_none]<;>rfl)) ?_
     refine aC ?_
     simp only[go_sem,hO,ae,h0,h1,h2]
     all_goals first | rfl | (simp only[aI];rfl) | (simp_all;done) | trace_state
    ·cases hb
   ·repeat refine sq ?_
    refine dx hΓ hP [[],[0],[0,1],[0,1,2],[],[4],[],[6],[4,5,6,7],u9,cB,fm,fm,dO,jK] [0,2,7,9,10] [[7,0]] (by kernel_rfl) (fun K' hK=>by simp only[go_sem,hO,ae,h0,h1,h2,av,aE,Option.isSome_some,ax,aI,Option.map_some,Option.isSome_some,Option.getD_some];(repeat (refine⟨ak,?_⟩));(first | refine⟨by rfl,?_⟩ | skip);exact hK _ (by simp only[go_sem,hO,ae,h0,h1,h2,av,aE,Option.isSome_some,ax,aI,Option.map_some,Option.isSome_some,Option.getD_some]) (by simp only[go_sem,hO,ae,h0,h1,h2,av,aE,Option.isSome_some,ax,aI,Option.map_some,Option.isSome_some,Option.getD_some]<;>rfl)) ?_
    repeat refine sq ?_
    refine rx hΓ [0,2,7,9,36] [[7,0]] (fun K' hK=>by simp only[go_sem,hO,ae,h0,h1,h2,av,aE,Option.isSome_some,ax,aI,Option.map_some,Option.isSome_some,Option.getD_some];(repeat (refine⟨ak,?_⟩));exact hK _ (by simp only[go_sem,hO,ae,h0,h1,h2,av,aE,Option.isSome_some,ax,aI,Option.map_some,Option.isSome_some,Option.getD_some]) (by simp only[go_sem,hO,ae,h0,h1,h2,av,aE,Option.isSome_some,ax,aI,Option.map_some,Option.isSome_some,Option.getD_some]<;>rfl)) ?_
    repeat refine sq ?_
    refine aB (fun hb=>?_) fun hb=>?_
    ·cases hb
    ·repeat refine sq ?_
     refine aJ ?_
     repeat refine sq ?_
     refine rx hΓ [0,2,7,9,11] [[7,0],[51,0],[65,0]] (fun K' hK=>by simp only[go_sem,hO,ae,h0,h1,h2,av,aE,Option.isSome_some,ax,aI,Option.map_some,Option.isSome_some,Option.getD_some];(repeat (refine⟨ak,?_⟩));exact hK _ (by simp only[go_sem,hO,ae,h0,h1,h2,av,aE,Option.isSome_some,ax,aI,Option.map_some,Option.isSome_some,Option.getD_some]) (by simp only[go_sem,hO,ae,h0,h1,h2,av,aE,Option.isSome_some,ax,aI,Option.map_some,Option.isSome_some,Option.getD_some]<;>rfl)) ?_
     refine bP (tS 11 [51,0] 1 (by simp only[go_sem]) (by simp only[go_sem]) [0,2,7,9,11] [[7,0],[51,0],[65,0]] ?_ rfl) ?_
     ·simp only[go_sem,hO,ae,h0,h1,h2]
     simp only[go_sem,hO,ae,h0,h1,h2]
     repeat refine sq ?_
     refine rx hΓ [0,2,7,9,11,48] [[7,0],[51,0],[65,0]] (fun K' hK=>by simp only[go_sem,hO,ae,h0,h1,h2,av,aE,Option.isSome_some,ax,aI,Option.map_some,Option.isSome_some,Option.getD_some,fV];(repeat (refine⟨ak,?_⟩));exact hK _ (by simp only[go_sem,hO,ae,h0,h1,h2,av,aE,Option.isSome_some,ax,aI,Option.map_some,Option.isSome_some,Option.getD_some,fV]) (by simp only[go_sem,hO,ae,h0,h1,h2,av,aE,Option.isSome_some,ax,aI,Option.map_some,Option.isSome_some,Option.getD_some,fV]<;>rfl)) ?_
     repeat refine sq ?_
     refine aB (fun hb=>?_) fun hb=>?_
     ·repeat refine sq ?_
      refine rx hΓ [0,2,7,9,11] [[7,0],[51,0],[65,0]] (fun K' hK=>by simp only[go_sem,hO,ae,h0,h1,h2,av,aE,Option.isSome_some,ax,aI,Option.map_some,Option.isSome_some,Option.getD_some];(repeat (refine⟨ak,?_⟩));exact hK _ (by simp only[go_sem,hO,ae,h0,h1,h2,av,aE,Option.isSome_some,ax,aI,Option.map_some,Option.isSome_some,Option.getD_some]) (by simp only[go_sem,hO,ae,h0,h1,h2,av,aE,Option.isSome_some,ax,aI,Option.map_some,Option.isSome_some,Option.getD_some]<;>rfl)) ?_
      repeat refine sq ?_
      refine rx hΓ [7,11,60] [[7,0],[51,0],[65,0]] (fun K' hK=>by simp only[go_sem,hO,ae,h0,h1,h2,av,aE,Option.isSome_some,ax,aI,Option.map_some,Option.isSome_some,Option.getD_some,fV];(repeat (refine⟨ak,?_⟩));exact hK _ (by simp only[go_sem,hO,ae,h0,h1,h2,av,aE,Option.isSome_some,ax,aI,Option.map_some,Option.isSome_some,Option.getD_some,fV]) (by simp only[go_sem,hO,ae,h0,h1,h2,av,aE,Option.isSome_some,ax,aI,Option.map_some,Option.isSome_some,Option.getD_some,fV]<;>rfl)) ?_
      repeat refine sq ?_
      refine aB (fun hb=>?_) fun hb=>?_
      ·repeat refine sq ?_
       refine rx hΓ [11] [[51,0],[65,0]] (fun K' hK=>by simp only[go_sem,hO,ae,h0,h1,h2,av,aE,Option.isSome_some,ax,aI,Option.map_some,Option.isSome_some,Option.getD_some];(repeat (refine⟨ak,?_⟩));exact hK _ (by simp only[go_sem,hO,ae,h0,h1,h2,av,aE,Option.isSome_some,ax,aI,Option.map_some,Option.isSome_some,Option.getD_some]) (by simp only[go_sem,hO,ae,h0,h1,h2,av,aE,Option.isSome_some,ax,aI,Option.map_some,Option.isSome_some,Option.getD_some]<;>rfl)) ?_
       repeat refine sq ?_
       refine rx hΓ [6] [[51,0],[65,0]] (fun K' hK=>by simp only[go_sem,hO,ae,h0,h1,h2,av,aE,Option.isSome_some,ax,aI,Option.map_some,Option.isSome_some,Option.getD_some];(repeat (refine⟨ak,?_⟩));exact hK _ (by simp only[go_sem,hO,ae,h0,h1,h2,av,aE,Option.isSome_some,ax,aI,Option.map_some,Option.isSome_some,Option.getD_some]) (by simp only[go_sem,hO,ae,h0,h1,h2,av,aE,Option.isSome_some,ax,aI,Option.map_some,Option.isSome_some,Option.getD_some]<;>rfl)) ?_
       first | refine bP (el 6 (.msl [51,0] 2) rfl (by simp only[go_sem]) [6] [] ?_ rfl) ?_ | refine bP (el 6 (.msl [51,0] 1) rfl (by simp only[go_sem]) [6] [] ?_ rfl) ?_ | refine bP (el 6 (.msl [51,0] 0) rfl (by simp only[go_sem]) [6] [] ?_ rfl) ?_
       ·simp only[go_sem,hO,h0,h1,h2]
       simp only[go_sem,hO,h0,h1,h2]
       refine aC ?_
       simp only[go_sem,hO,ae,h0,h1,h2]
       all_goals first | rfl | (simp only[aI];rfl) | (simp_all;done) | trace_state
      ·repeat refine sq ?_
       refine aJ ?_
       repeat refine sq ?_
       refine rx hΓ [6] [[51,0],[65,0]] (fun K' hK=>by simp only[go_sem,hO,ae,h0,h1,h2,av,aE,Option.isSome_some,ax,aI,Option.map_some,Option.isSome_some,Option.getD_some];(repeat (refine⟨ak,?_⟩));exact hK _ (by simp only[go_sem,hO,ae,h0,h1,h2,av,aE,Option.isSome_some,ax,aI,Option.map_some,Option.isSome_some,Option.getD_some]) (by simp only[go_sem,hO,ae,h0,h1,h2,av,aE,Option.isSome_some,ax,aI,Option.map_some,Option.isSome_some,Option.getD_some]<;>rfl)) ?_
       first | refine bP (el 6 (.msl [51,0] 2) rfl (by simp only[go_sem]) [6] [] ?_ rfl) ?_ | refine bP (el 6 (.msl [51,0] 1) rfl (by simp only[go_sem]) [6] [] ?_ rfl) ?_ | refine bP (el 6 (.msl [51,0] 0) rfl (by simp only[go_sem]) [6] [] ?_ rfl) ?_
       ·simp only[go_sem,hO,h0,h1,h2]
       simp only[go_sem,hO,h0,h1,h2]
       refine aC ?_
       simp only[go_sem,hO,ae,h0,h1,h2]
       all_goals first | rfl | (simp only[aI];rfl) | (simp_all;done) | trace_state
     ·repeat refine sq ?_
      refine aJ ?_
      repeat refine sq ?_
      refine rx hΓ [7,11,60] [[7,0],[51,0],[65,0]] (fun K' hK=>by simp only[go_sem,hO,ae,h0,h1,h2,av,aE,Option.isSome_some,ax,aI,Option.map_some,Option.isSome_some,Option.getD_some,fV];(repeat (refine⟨ak,?_⟩));exact hK _ (by simp only[go_sem,hO,ae,h0,h1,h2,av,aE,Option.isSome_some,ax,aI,Option.map_some,Option.isSome_some,Option.getD_some,fV]) (by simp only[go_sem,hO,ae,h0,h1,h2,av,aE,Option.isSome_some,ax,aI,Option.map_some,Option.isSome_some,Option.getD_some,fV]<;>rfl)) ?_
      repeat refine sq ?_
      refine aB (fun hb=>?_) fun hb=>?_
      ·repeat refine sq ?_
       refine rx hΓ [11] [[51,0],[65,0]] (fun K' hK=>by simp only[go_sem,hO,ae,h0,h1,h2,av,aE,Option.isSome_some,ax,aI,Option.map_some,Option.isSome_some,Option.getD_some];(repeat (refine⟨ak,?_⟩));exact hK _ (by simp only[go_sem,hO,ae,h0,h1,h2,av,aE,Option.isSome_some,ax,aI,Option.map_some,Option.isSome_some,Option.getD_some]) (by simp only[go_sem,hO,ae,h0,h1,h2,av,aE,Option.isSome_some,ax,aI,Option.map_some,Option.isSome_some,Option.getD_some]<;>rfl)) ?_
       repeat refine sq ?_
       refine rx hΓ [6] [[51,0],[65,0]] (fun K' hK=>by simp only[go_sem,hO,ae,h0,h1,h2,av,aE,Option.isSome_some,ax,aI,Option.map_some,Option.isSome_some,Option.getD_some];(repeat (refine⟨ak,?_⟩));exact hK _ (by simp only[go_sem,hO,ae,h0,h1,h2,av,aE,Option.isSome_some,ax,aI,Option.map_some,Option.isSome_some,Option.getD_some]) (by simp only[go_sem,hO,ae,h0,h1,h2,av,aE,Option.isSome_some,ax,aI,Option.map_some,Option.isSome_some,Option.getD_some]<;>rfl)) ?_
       first | refine bP (el 6 (.msl [51,0] 2) rfl (by simp only[go_sem]) [6] [] ?_ rfl) ?_ | refine bP (el 6 (.msl [51,0] 1) rfl (by simp only[go_sem]) [6] [] ?_ rfl) ?_ | refine bP (el 6 (.msl [51,0] 0) rfl (by simp only[go_sem]) [6] [] ?_ rfl) ?_
       ·simp only[go_sem,hO,h0,h1,h2]
       simp only[go_sem,hO,h0,h1,h2]
       refine aC ?_
       simp only[go_sem,hO,ae,h0,h1,h2]
       all_goals first | rfl | (simp only[aI];rfl) | (simp_all;done) | trace_state
      ·repeat refine sq ?_
       refine aJ ?_
       repeat refine sq ?_
       refine rx hΓ [6] [[51,0],[65,0]] (fun K' hK=>by simp only[go_sem,hO,ae,h0,h1,h2,av,aE,Option.isSome_some,ax,aI,Option.map_some,Option.isSome_some,Option.getD_some];(repeat (refine⟨ak,?_⟩));exact hK _ (by simp only[go_sem,hO,ae,h0,h1,h2,av,aE,Option.isSome_some,ax,aI,Option.map_some,Option.isSome_some,Option.getD_some]) (by simp only[go_sem,hO,ae,h0,h1,h2,av,aE,Option.isSome_some,ax,aI,Option.map_some,Option.isSome_some,Option.getD_some]<;>rfl)) ?_
       first | refine bP (el 6 (.msl [51,0] 2) rfl (by simp only[go_sem]) [6] [] ?_ rfl) ?_ | refine bP (el 6 (.msl [51,0] 1) rfl (by simp only[go_sem]) [6] [] ?_ rfl) ?_ | refine bP (el 6 (.msl [51,0] 0) rfl (by simp only[go_sem]) [6] [] ?_ rfl) ?_
       ·simp only[go_sem,hO,h0,h1,h2]
       simp only[go_sem,hO,h0,h1,h2]
       refine aC ?_
       simp only[go_sem,hO,ae,h0,h1,h2]
       all_goals first | rfl | (simp only[aI];rfl) | (simp_all;done) | trace_state
end
noncomputable section
def eS(l:Led)(k:Int):Int:=Q1 (eC (aw l k)) (fa (aw l k) (fb (aw l k).l k))
theorem B2{l:Led}{k:Int}(h:kz l k=false):uf (eC (aw l k)) (fa (aw l k) (fb (aw l k).l k)) (aw l k) k=[]/\ua (eC (aw l k)) (fa (aw l k) (fb (aw l k).l k))=.tup [.v .nilp,.v (vInt (eS l k))]/\(eS l k != 0)=true:=by
 unfold kz at h
 unfold eS
 cases hp:eC (aw l k)with
 |some p=>
  cases fa (aw l k) (fb (aw l k).l k)<;>exact⟨rfl,rfl,rfl⟩
 |none=>
  rw[hp]at h
  have h2:fa (aw l k) (fb (aw l k).l k)=false:=by simpa using h
  rw[h2]
  exact⟨rfl,rfl,rfl⟩
theorem B1{l:Led}{k:Int}(h:kz l k=true):uf (eC (aw l k)) (fa (aw l k) (fb (aw l k).l k)) (aw l k) k=tU (bu (aw l k) k) [11,0,11,0]/\ua (eC (aw l k)) (fa (aw l k) (fb (aw l k).l k))=.tup [.ref [26,0,11,0,11,0] 0,.v (vInt 0)]/\eS l k=0:=by
 unfold kz at h
 simp only[Bool.and_eq_true,Option.isNone_iff_eq_none]at h
 unfold eS
 rw[h.1,h.2]
 exact⟨rfl,rfl,rfl⟩
theorem Hz{l:Led}(h:bE l)(k:Int):nW (bu (aw l k) k)/\(bu (aw l k) k).rs.Nodup:=⟨(uL h k).1.ds _,(uL h k).2⟩
def tw(a b c:Int):Int:=if a=c then 1 else if b<c then 0 else 2
@[go_sem] def P81:PSpec:=p3 iI iI iI (fun _ _ _=>True) (fun a b c=>vInt (tw a b c)) true
@[go_sem] def S81:Spec:=P81.toSpec
theorem RM:aZ Tryz.prog 81 P81:=by
 refine n7 (rs:=[.tmp 6]) Tryz.func81 Tryz.ntmps81 fun a b c hp hw=>?_
 simp only[iI]at hw |-
 have hΓ:=@fE Tryz.prog
 repeat refine sq ?_
 refine rx hΓ [0,1,2] [] (fun K' hK=>by simp only[go_sem];exact aq) ?_
 repeat refine sq ?_
 refine aR ?_
 repeat refine sq ?_
 refine rx hΓ [1,2,7] [] (fun K' hK=>by simp only[go_sem];exact aq) ?_
 repeat refine sq ?_
 refine aB (fun hb=>?_) fun hb=>?_
 ·repeat refine sq ?_
  refine rx hΓ [6] [] (fun K' hK=>by simp only[go_sem];exact aq) ?_
  refine aC ?_
  simp only[go_sem]
  (unfold tw;simp_all;done)
 ·repeat refine sq ?_
  refine rx hΓ [11] [] (fun K' hK=>by simp only[go_sem];exact aq) ?_
  repeat refine sq ?_
  refine aB (fun hb=>?_) fun hb=>?_
  ·repeat refine sq ?_
   refine rx hΓ [6] [] (fun K' hK=>by simp only[go_sem];exact aq) ?_
   refine aC ?_
   simp only[go_sem]
   (unfold tw;simp_all;done)
  ·repeat refine sq ?_
   refine aJ ?_
   refine bV ?_
   simp only[go_sem]
   refine kp [] [] ?_
   repeat refine sq ?_
   refine rx hΓ [6] [] (fun K' hK=>by simp only[go_sem];exact aq) ?_
   refine aC ?_
   simp only[go_sem]
   (unfold tw;simp_all;done)
def ac3:List (Nat×Spec):=[(78,S78)]
attribute [go_sem] ac3
theorem bE.srt{l:Led}(h:bE l):Go.Eng.srt Pap.id l.ps:=wy (kq.1 h.ps)
def ac2:List (Nat×Spec):=[(75,nX),(79,yl),(96,tG),(78,S78),(80,S80)]
attribute [go_sem] ac2
end
noncomputable section
def qd(x:Vw)(r:Rec)(day f:Int):Bool:=match be x.bk (r.so,f)with
 |none=>true
 |some i=>decide ((aV x.ds i).1>day)
def rX(x:Vw)(r:Rec)(day f:Int):Bool:=match be x.bk (r.so,f)with
 |none=>false
 |some i=>decide ((aV x.ds i).2>day)
def two(b:Bool):Int:=if b then 2 else 0
def dD(x:Vw)(r:Rec)(day:Int):Int:=if r.da>day then 0 else if r.lv.any (qd x r day)=true then 1 else two (r.lv.any (rX x r day))
def nh(l:Led)(s day k:Int):Int:=if gN l [day,k]=0 then(match cO (aw l k).rs s with | none=>3 | some _=>eS l k)else gN l [day,k]
def ni(l:Led)(s day k:Int):Int:=if nh l s day k=0 then(match cO (aw l k).rs s with | none=>0 | some r=>dD (bu (aw l k) k) r day)else 0
theorem abH{α:Type}{p:α->Bool}{l:List α}{i:Nat}(h:i<l.length):(l.take (i+1)).any p=((l.take i).any p||p l[i]):=by
 rw[List.take_add_one,List.getElem?_eq_getElem h,List.any_append]
 simp
theorem QL{a b:Bool}:two (a||b)=if b then 2 else two a:=by cases a<;>cases b<;>rfl
def K34a:List (Nat×Spec):=[(75,nX),(76,S76),(77,S77),(78,S78)]
theorem ac1:KS K34a:=tc HY.sound<|tc LU<|tc LS<|tc LQ<|tn
attribute [go_sem] K34a
@[go_sem] def P16:PSpec:=p4 iL iI iI iI (fun _ _ _ _=>True) (fun l s day k=>.tup [vInt (ni l s day k),vInt (nh l s day k)]) true
@[go_sem] def S16:Spec:=P16.toSpec
set_option maxHeartbeats 8000000 in
theorem Sg:aZ Tryz.prog 16 P16:=by
 refine rC (rs:=[.tmp 8,.tmp 9]) Tryz.func16 Tryz.ntmps16 fun l so day k hp hw=>?_
 have hP:=fU
 simp only[iI,iL,gM]at hw |-
 have hΓ:=ac1
 repeat refine sq ?_
 refine rx hΓ [1,2,3,4] [[4,0]] (fun K' hK=>by simp only[go_sem];exact aq) ?_
 refine bP (el 4 (.ref [4,0] 0) (by simp only[go_sem]) (by simp only[go_sem]) [1,2,3,4] [[4,0]] ?_ rfl) ?_
 ·simp only[go_sem]
 simp only[go_sem]
 repeat refine sq ?_
 refine rx hΓ [1,2,3,4,10] [[4,0]] (fun K' hK=>by simp only[go_sem];exact aq) ?_
 repeat refine sq ?_
 refine rx hΓ [1,2,3,4,10,26] [[4,0]] (fun K' hK=>by simp only[go_sem];exact aq) ?_
 repeat refine sq ?_
 refine aB (fun hb=>?_) fun hb=>?_
 ·repeat refine sq ?_
  have hc:¬ gN l [day,k]=0:=by simpa using hb
  have he:nh l so day k=gN l [day,k]:=by unfold nh;rw[if_neg hc]
  have ha:ni l so day k=0:=by unfold ni;rw[he,if_neg hc]
  rw[he,ha]
  repeat refine sq ?_
  refine rx hΓ [8,9] [] (fun K' hK=>by simp only[go_sem];exact aq) ?_
  refine aC ?_
  simp only[go_sem]
  all_goals first | rfl | (have e:dD (bu (aw l k) k) r day=1:=(by unfold dD;rw[if_neg kL,if_pos (pP ab (by first | exact ho | (rw[ho];assumption)))]);rw[e];done) | (have e:dD (bu (aw l k) k) r day=B:=(by unfold dD;rw[if_neg kL,if_neg (by rw[ri fun j hj=>hR j hj hj];decide),<-hB,List.take_length]);rw[e];done) | trace_state
 ·repeat refine sq ?_
  have hc:gN l [day,k]=0:=by simpa using hb
  obtain⟨aa,_⟩:=Ow hc
  refine aJ ?_
  rcases dA:cO (aw l k).rs so with _ | r
  ·have he:nh l so day k=3:=by unfold nh;rw[if_pos hc,dA]
   have ha:ni l so day k=0:=by unfold ni;rw[he,if_neg (by decide)]
   rw[he,ha]
   repeat refine sq ?_
   refine rx hΓ [2,3,4,11,12] [[4,0],[11,0]] (fun K' hK=>by simp only[go_sem,dA,bz,Option.isSome_none];exact aq) ?_
   repeat refine sq ?_
   refine rx hΓ [2,3,4,11,36] [[4,0],[11,0]] (fun K' hK=>by simp only[go_sem,dA,bz,Option.isSome_none];exact aq) ?_
   repeat refine sq ?_
   refine aB (fun hb=>?_) fun hb=>?_
   ·repeat refine sq ?_
    refine rx hΓ [8,9] [] (fun K' hK=>by simp only[go_sem,dA,bz,Option.isSome_none];exact aq) ?_
    refine aC ?_
    simp only[go_sem]
    all_goals first | rfl | (have e:dD (bu (aw l k) k) r day=1:=(by unfold dD;rw[if_neg kL,if_pos (pP ab (by first | exact ho | (rw[ho];assumption)))]);rw[e];done) | (have e:dD (bu (aw l k) k) r day=B:=(by unfold dD;rw[if_neg kL,if_neg (by rw[ri fun j hj=>hR j hj hj];decide),<-hB,List.take_length]);rw[e];done) | trace_state
   ·cases hb
  ·have he:nh l so day k=eS l k:=by unfold nh;rw[if_pos hc,dA]
   have sv:=(uL aa k).1.rs r (p8 dA).1
   have sH:r.lv.length<=maxLen:=by have:=(Ct sv).2;unfold maxLen;omega
   repeat refine sq ?_
   refine rx hΓ [2,3,4,11,12] [[4,0],[11,0]] (fun K' hK=>by simp only[go_sem,dA,aE,Option.isSome_some];exact aq) ?_
   repeat refine sq ?_
   refine rx hΓ [2,3,4,11,36] [[4,0],[11,0]] (fun K' hK=>by simp only[go_sem,dA,aE,Option.isSome_some];exact aq) ?_
   repeat refine sq ?_
   refine aB (fun hb=>?_) fun hb=>?_
   ·cases hb
   ·repeat refine sq ?_
    refine aJ ?_
    rcases uV:kz l k with _ | _
    ·obtain⟨q1,q2,q3⟩:=B2 uV
     have q4:¬ eS l k=0:=by simpa using q3
     have ha:ni l so day k=0:=by unfold ni;rw[he,if_neg q4]
     rw[he,ha]
     repeat refine sq ?_
     refine rx hΓ [2,11,13,14] [[11,0],[26,0,11,0,11,0,39,0],[23,0,11,0,11,0,39,0],[24,0,11,0,11,0,39,0]] (fun K' hK=>by simp only[go_sem,dA,aE,Option.isSome_some,q1,q2,q3];exact aq) ?_
     repeat refine sq ?_
     refine rx hΓ [2,11,13,14,43] [[11,0],[26,0,11,0,11,0,39,0],[23,0,11,0,11,0,39,0],[24,0,11,0,11,0,39,0]] (fun K' hK=>by simp only[go_sem,dA,aE,Option.isSome_some,q1,q2,q3];exact aq) ?_
     repeat refine sq ?_
     refine aB (fun hb=>?_) fun hb=>?_
     ·repeat refine sq ?_
      refine rx hΓ [8,9] [] (fun K' hK=>by simp only[go_sem,dA,aE,Option.isSome_some,q1,q2,q3];exact aq) ?_
      refine aC ?_
      simp only[go_sem]
      all_goals first | rfl | (have e:dD (bu (aw l k) k) r day=1:=(by unfold dD;rw[if_neg kL,if_pos (pP ab (by first | exact ho | (rw[ho];assumption)))]);rw[e];done) | (have e:dD (bu (aw l k) k) r day=B:=(by unfold dD;rw[if_neg kL,if_neg (by rw[ri fun j hj=>hR j hj hj];decide),<-hB,List.take_length]);rw[e];done) | trace_state
     ·cases hb
    ·obtain⟨q1,q2,q3⟩:=B1 uV
     obtain⟨hv,cM⟩:=Hz aa k
     have ha:ni l so day k=dD (bu (aw l k) k) r day:=by unfold ni;rw[he,if_pos q3,dA]
     rw[he,ha,q3]
     repeat refine sq ?_
     refine rx hΓ [2,11,13,14] [[11,0],[26,0,11,0,11,0,39,0],[23,0,11,0,11,0,39,0],[24,0,11,0,11,0,39,0]] (fun K' hK=>by simp only[go_sem,dA,aE,Option.isSome_some,q1,q2];exact aq) ?_
     repeat refine sq ?_
     refine rx hΓ [2,11,13,14,43] [[11,0],[26,0,11,0,11,0,39,0],[23,0,11,0,11,0,39,0],[24,0,11,0,11,0,39,0]] (fun K' hK=>by simp only[go_sem,dA,aE,Option.isSome_some,q1,q2];exact aq) ?_
     repeat refine sq ?_
     refine aB (fun hb=>?_) fun hb=>?_
     ·cases hb
     ·repeat refine sq ?_
      refine aJ ?_
      repeat refine sq ?_
      refine rx hΓ [2,11,13,48] [[11,0],[26,0,11,0,11,0,39,0],[23,0,11,0,11,0,39,0],[24,0,11,0,11,0,39,0]] (fun K' hK=>by simp only[go_sem,dA,aE,Option.isSome_some,q1,q2];exact aq) ?_
      repeat refine sq ?_
      refine aB (fun hb=>?_) fun hb=>?_
      ·repeat refine sq ?_
       have hk:dD (bu (aw l k) k) r day=0:=by unfold dD;rw[if_pos (by simpa using hb)]
       rw[hk]
       repeat refine sq ?_
       refine rx hΓ [8,9] [] (fun K' hK=>by simp only[go_sem,dA,aE,Option.isSome_some,q1,q2];exact aq) ?_
       refine aC ?_
       simp only[go_sem]
       all_goals first | rfl | (have e:dD (bu (aw l k) k) r day=1:=(by unfold dD;rw[if_neg kL,if_pos (pP ab (by first | exact ho | (rw[ho];assumption)))]);rw[e];done) | (have e:dD (bu (aw l k) k) r day=B:=(by unfold dD;rw[if_neg kL,if_neg (by rw[ri fun j hj=>hR j hj hj];decide),<-hB,List.take_length]);rw[e];done) | trace_state
      ·repeat refine sq ?_
       have kL:¬ r.da>day:=by simpa using hb
       refine aJ ?_
       repeat refine sq ?_
       refine rx hΓ [2,11,13,15] [[11,0],[26,0,11,0,11,0,39,0],[23,0,11,0,11,0,39,0],[24,0,11,0,11,0,39,0]] (fun K' hK=>by simp only[go_sem,dA,aE,Option.isSome_some,q1,q2];exact aq) ?_
       repeat refine sq ?_
       refine rx hΓ [2,11,13,15,50,51,52] [[11,0],[26,0,11,0,11,0,39,0],[23,0,11,0,11,0,39,0],[24,0,11,0,11,0,39,0]] (fun K' hK=>by simp only[go_sem,dA,aE,Option.isSome_some,q1,q2];exact aq) ?_
       repeat refine sq ?_
       refine aR ?_
       repeat refine sq ?_
       refine cr (fun s:Nat=>[(52,⟨true,.v (vInt s)⟩),(15,⟨true,.v (vInt (two ((r.lv.take s).any (rX (bu (aw l k) k) r day))))⟩)]) (fun s=>[]) (fun s=>s<=r.lv.length/\∀ j (h:j<r.lv.length),j<s->qd (bu (aw l k) k) r day r.lv[j]=false) (fun s=>r.lv.length-s) 0 ?_ ?_ ?_ ?_
       ·exact⟨Nat.zero_le _,by simp⟩
       ·rfl
       ·rfl
       rintro i ⟨hi,hR⟩
       generalize hB:two ((r.lv.take i).any (rX (bu (aw l k) k) r day))=B
       simp only[go_sem]
       repeat refine sq ?_
       refine rx hΓ [2,11,13,15,50,51,52,53] [[11,0],[26,0,11,0,11,0,39,0],[23,0,11,0,11,0,39,0],[24,0,11,0,11,0,39,0]] (fun K' hK=>by simp only[go_sem,dA,aE,Option.isSome_some,q1,q2];exact aq) ?_
       repeat refine sq ?_
       refine aB (fun hb=>?_) fun hb=>?_
       ·have ab:i<r.lv.length:=by simpa using hb
        have ao:(i:Int)<r.lv.length:=by omega
        clear hb
        repeat refine sq ?_
        refine aJ ?_
        repeat refine sq ?_
        refine aR ?_
        repeat refine sq ?_
        refine rx hΓ [2,11,13,15,17,50,51,52] [[11,0],[26,0,11,0,11,0,39,0],[23,0,11,0,11,0,39,0],[24,0,11,0,11,0,39,0]] (fun K' hK=>by simp only[go_sem,dA,aE,Option.isSome_some,q1,q2,ah ab,ai,aj,ao];exact aq) ?_
        rcases aI:be (bu (aw l k) k).bk (r.so,r.lv[i])with _ | j
        ·have ho:qd (bu (aw l k) k) r day r.lv[i]=true:=by unfold qd;rw[aI]
         repeat refine sq ?_
         refine dx hΓ hP [[],[0],[0,1],[0,1,2],[],[4],[],[4,5,6],u8,u9,cB,cB,fm,kx] [2,11,13,15,18,19,50,51,52] [[11,0],[26,0,11,0,11,0,39,0],[23,0,11,0,11,0,39,0],[24,0,11,0,11,0,39,0]] (by kernel_rfl) (fun K' hK=>by simp only[go_sem,dA,aE,Option.isSome_some,q1,q2,ah ab,ai,aj,ao,ax,aI,Option.map_none,Option.isSome_none,Option.getD_none];exact jC) ?_
         repeat refine sq ?_
         refine aR ?_
         repeat refine sq ?_
         refine rx hΓ [2,11,13,15,18,50,51,52,68] [[11,0],[26,0,11,0,11,0,39,0],[23,0,11,0,11,0,39,0],[24,0,11,0,11,0,39,0]] (fun K' hK=>by simp only[go_sem,dA,aE,Option.isSome_some,q1,q2,ah ab,ai,aj,ao,ax,aI,Option.map_none,Option.isSome_none,Option.getD_none];exact aq) ?_
         repeat refine sq ?_
         refine aB (fun hb=>?_) fun hb=>?_
         ·repeat refine sq ?_
          refine rx hΓ [8,9] [] (fun K' hK=>by simp only[go_sem,dA,aE,Option.isSome_some,q1,q2,ah ab,ai,aj,ao,ax,aI,Option.map_none,Option.isSome_none,Option.getD_none];exact aq) ?_
          refine aC ?_
          simp only[go_sem]
          all_goals first | rfl | (have e:dD (bu (aw l k) k) r day=1:=(by unfold dD;rw[if_neg kL,if_pos (pP ab (by first | exact ho | (rw[ho];assumption)))]);rw[e];done) | (have e:dD (bu (aw l k) k) r day=B:=(by unfold dD;rw[if_neg kL,if_neg (by rw[ri fun j hj=>hR j hj hj];decide),<-hB,List.take_length]);rw[e];done) | trace_state
         ·cases hb
        ·have ho:qd (bu (aw l k) k) r day r.lv[i]=decide ((aV (bu (aw l k) k).ds j).1>day):=by unfold qd;rw[aI]
         have hm:two ((r.lv.take (i+1)).any (rX (bu (aw l k) k) r day))=if decide ((aV (bu (aw l k) k).ds j).2>day)=true then 2 else B:=by
          rw[abH ab,QL,hB];unfold rX;rw[aI]
         repeat refine sq ?_
         refine dx hΓ hP [[],[0],[0,1],[0,1,2],[],[4],[],[4,5,6],u8,u9,cB,cB,fm,kx] [2,11,13,15,18,19,50,51,52] [[11,0],[26,0,11,0,11,0,39,0],[23,0,11,0,11,0,39,0],[24,0,11,0,11,0,39,0]] (by kernel_rfl) (fun K' hK=>by simp only[go_sem,dA,aE,Option.isSome_some,q1,q2,ah ab,ai,aj,ao,ax,fV,aI,Option.map_some,Option.isSome_some,Option.getD_some];exact jC) ?_
         repeat refine sq ?_
         refine aR ?_
         repeat refine sq ?_
         refine rx hΓ [2,11,13,15,18,50,51,52,68] [[11,0],[26,0,11,0,11,0,39,0],[23,0,11,0,11,0,39,0],[24,0,11,0,11,0,39,0]] (fun K' hK=>by simp only[go_sem,dA,aE,Option.isSome_some,q1,q2,ah ab,ai,aj,ao,ax,fV,aI,Option.map_some,Option.isSome_some,Option.getD_some];exact aq) ?_
         repeat refine sq ?_
         refine aB (fun hb=>?_) fun hb=>?_
         ·repeat refine sq ?_
          refine rx hΓ [8,9] [] (fun K' hK=>by simp only[go_sem,dA,aE,Option.isSome_some,q1,q2,ah ab,ai,aj,ao,ax,fV,aI,Option.map_some,Option.isSome_some,Option.getD_some];exact aq) ?_
          refine aC ?_
          simp only[go_sem]
          all_goals first | rfl | (have e:dD (bu (aw l k) k) r day=1:=(by unfold dD;rw[if_neg kL,if_pos (pP ab (by first | exact ho | (rw[ho];assumption)))]);rw[e];done) | (have e:dD (bu (aw l k) k) r day=B:=(by unfold dD;rw[if_neg kL,if_neg (by rw[ri fun j hj=>hR j hj hj];decide),<-hB,List.take_length]);rw[e];done) | trace_state
         ·repeat refine sq ?_
          refine rx hΓ [2,11,13,15,50,51,52,82] [[11,0],[26,0,11,0,11,0,39,0],[23,0,11,0,11,0,39,0],[24,0,11,0,11,0,39,0]] (fun K' hK=>by simp only[go_sem,dA,aE,Option.isSome_some,q1,q2,ah ab,ai,aj,ao,ax,fV,aI,Option.map_some,Option.isSome_some,Option.getD_some];exact aq) ?_
          repeat refine sq ?_
          refine aB (fun hb=>?_) fun hb=>?_
          ·repeat refine sq ?_
           rw[if_pos hb]at hm
           repeat refine sq ?_
           refine aS hΓ fun K' hK=>?_
           simp only[go_sem,dA,aE,Option.isSome_some,q1,q2,ah ab,ai,aj,ao,ax,fV,aI,Option.map_some,Option.isSome_some,Option.getD_some]
           repeat (refine⟨ak,?_⟩)
           refine hK _ ?_
           clear K' hK
           simp only[go_sem]
           refine kp [2,11,13,15,50,51,52] [[11,0],[26,0,11,0,11,0,39,0],[23,0,11,0,11,0,39,0],[24,0,11,0,11,0,39,0]] ?_
           repeat refine sq ?_
           refine aS hΓ fun K' hK=>?_
           simp only[go_sem,dA,aE,Option.isSome_some,q1,q2,ah ab,ai,aj,ao,ax,fV,aI,Option.map_some,Option.isSome_some,Option.getD_some]
           repeat (refine⟨ak,?_⟩)
           refine hK _ ?_
           clear K' hK
           simp only[go_sem]
           refine⟨i+1,⟨ab,?_⟩,by(show r.lv.length-(i+1)<r.lv.length-i;omega),?_⟩
           ·intro q hq sx
            rcases Nat.lt_succ_iff_lt_or_eq.1 sx with h5 | rfl
            ·exact hR q hq h5
            ·rw[ho];assumption
           refine bg [2,11,13,15,50,51,52] [[11,0],[26,0,11,0,11,0,39,0],[23,0,11,0,11,0,39,0],[24,0,11,0,11,0,39,0]] ?_ ?_<;>simp only[go_sem,a7 ab sH,bb,hm]
          ·repeat refine sq ?_
           rw[if_neg (by rw[hb];decide)]at hm
           refine aJ ?_
           refine bV ?_
           simp only[go_sem]
           refine kp [2,11,13,15,50,51,52] [[11,0],[26,0,11,0,11,0,39,0],[23,0,11,0,11,0,39,0],[24,0,11,0,11,0,39,0]] ?_
           repeat refine sq ?_
           refine aS hΓ fun K' hK=>?_
           simp only[go_sem,dA,aE,Option.isSome_some,q1,q2,ah ab,ai,aj,ao,ax,fV,aI,Option.map_some,Option.isSome_some,Option.getD_some]
           repeat (refine⟨ak,?_⟩)
           refine hK _ ?_
           clear K' hK
           simp only[go_sem]
           refine⟨i+1,⟨ab,?_⟩,by(show r.lv.length-(i+1)<r.lv.length-i;omega),?_⟩
           ·intro q hq sx
            rcases Nat.lt_succ_iff_lt_or_eq.1 sx with h5 | rfl
            ·exact hR q hq h5
            ·rw[ho];assumption
           refine bg [2,11,13,15,50,51,52] [[11,0],[26,0,11,0,11,0,39,0],[23,0,11,0,11,0,39,0],[24,0,11,0,11,0,39,0]] ?_ ?_<;>simp only[go_sem,a7 ab sH,bb,hm]
       ·have bF:i=r.lv.length:=by
         have :¬ (i:Int)<r.lv.length:=by simpa using hb
         omega
        clear hb
        subst bF
        repeat refine sq ?_
        refine bR ?_
        simp only[go_sem]
        refine kp [15] [] ?_
        repeat refine sq ?_
        refine rx hΓ [8,9] [] (fun K' hK=>by simp only[go_sem,dA,aE,Option.isSome_some,q1,q2];exact aq) ?_
        refine aC ?_
        simp only[go_sem]
        all_goals first | rfl | (have e:dD (bu (aw l k) k) r day=1:=(by unfold dD;rw[if_neg kL,if_pos (pP ab (by first | exact ho | (rw[ho];assumption)))]);rw[e];done) | (have e:dD (bu (aw l k) k) r day=B:=(by unfold dD;rw[if_neg kL,if_neg (by rw[ri fun j hj=>hR j hj hj];decide),<-hB,List.take_length]);rw[e];done) | trace_state
end
noncomputable section
theorem O5(l:Led)(k:Int):∀ i,∀ q j,be (ay l k i).bk q=some j->j∈(ay l k i).ts
 | 0,q,j,(h:none=some j)=>by cases h
 |i+1,(s,f),j,h=>by
  have ih:=O5 l k i
  cases hn:fT k (bd l k) (ay l k i).bk (aD l i)with
  |none=>rw[uN hn]at h |-;exact ih _ _ h
  |some r=>
   rw[zt hn]at h |-
   simp only[A']at h
   split at h
   ·cases h;simp
   ·exact List.mem_append_left _ (ih _ _ h)
theorem QV{l:Led}{k:Int}(h:kz l k=true){q:Int×Int}{j:Int}(hj:be (bu (aw l k) k).bk q=some j):(aV (bu (aw l k) k).ds j).1<=(aV (bu (aw l k) k).ds j).2:=by
 unfold kz fa at h
 simp only[Bool.and_eq_true]at h
 have hm:j∈(aw l k).ts:=O5 l k l.ts.length q j hj
 have :=List.all_eq_true.1 h.2.2 j hm
 exact of_decide_eq_true this
theorem Qt{l:Led}{k:Int}(h:kz l k=true)(pa le day:Int):∃ w0 wr,rA (bu (aw l k) k) pa le day=w0::wr:=by
 unfold rA
 split
 ·exact⟨_,_,rfl⟩
 ·split
  ·exact⟨_,_,rfl⟩
  ·rename_i r _ i hi
   have :=QV h hi
   by_cases h1:(aV (bu (aw l k) k).ds i).1<=day
   ·rw[if_pos h1];exact⟨_,_,rfl⟩
   ·rw[if_neg h1,if_pos (show (aV (bu (aw l k) k).ds i).2>day by omega)];exact⟨_,_,rfl⟩
def hG(p:Int->Bool):Nat->Int
 | 0=>0
 |s+1=>hG p s+(if p ((s+1:Nat):Int)=true then 1 else 0)
theorem xR(p:Int->Bool):∀ s,0<=hG p s/\hG p s<=s
 | 0=>⟨Int.le_refl _,Int.le_refl _⟩
 |s+1=>by
  have :=xR p s
  simp only[hG]
  split<;>omega
theorem OJ{p:Int->Bool}{i:Nat}(h:1<=i):hG p (i+1-1)=hG p (i-1)+(if p i=true then 1 else 0):=by
 obtain⟨j,rfl⟩:∃ j,i=j+1:=⟨i-1,by omega⟩
 rfl
def jX(x:Vw)(pa day f:Int):Bool:=(rA x pa f day).getD 0 0==0
def jh(x:Vw)(pa day f:Int):Bool:=jX x pa day f&&((rA x pa f day).length:Int)==1
theorem JE{l:Led}(h:bE l)(x:Int):0<=bW l.ps x/\bW l.ps x<=30:=by
 unfold bW
 split
 ·rename_i p hp
  have hm:=List.mem_of_find?_eq_some hp
  obtain⟨j,hj,rfl⟩:=List.getElem_of_mem hm
  have :=mA h.ps hj
  unfold oe cb at this
  simp at this
  omega
 ·omega
def mN(l:Led)(pa day k:Int):Int:=if gN l [day,k]=0 then(if bW l.ps pa=0 then 26 else eS l k)else gN l [day,k]
def mO(l:Led)(pa day k:Int):Int:=if mN l pa day k=0 then tw (hG (jh (bu (aw l k) k) pa day) (bW l.ps pa).toNat) (hG (jX (bu (aw l k) k) pa day) (bW l.ps pa).toNat) (bW l.ps pa)else 0
def K35:List (Nat×Spec):=[(75,nX),(79,yl),(78,S78),(80,S80),(81,S81)]
theorem ac0:KS K35:=tc HY.sound<|tc HX.sound<|tc LQ<|tc Ww<|tc RM.sound<|tn
attribute [go_sem] K35
@[go_sem] def P17:PSpec:=p4 iL iI iI iI (fun _ _ _ _=>True) (fun l pa day k=>.tup [vInt (mO l pa day k),vInt (mN l pa day k)]) true
@[go_sem] def S17:Spec:=P17.toSpec
set_option maxHeartbeats 8000000 in
theorem R9:aZ Tryz.prog 17 P17:=by
 refine rC (rs:=[.tmp 8,.tmp 9]) Tryz.func17 Tryz.ntmps17 fun l pa day k hp hw=>?_
 simp only[iI,iL,gM]at hw |-
 have hΓ:=ac0
 repeat refine sq ?_
 refine rx hΓ [1,2,3,4] [[4,0]] (fun K' hK=>by simp only[go_sem];exact aq) ?_
 refine bP (el 4 (.ref [4,0] 0) (by simp only[go_sem]) (by simp only[go_sem]) [1,2,3,4] [[4,0]] ?_ rfl) ?_
 ·simp only[go_sem]
 simp only[go_sem]
 repeat refine sq ?_
 refine rx hΓ [1,2,3,4,10] [[4,0]] (fun K' hK=>by simp only[go_sem];exact aq) ?_
 repeat refine sq ?_
 refine rx hΓ [1,2,3,4,10,24] [[4,0]] (fun K' hK=>by simp only[go_sem];exact aq) ?_
 repeat refine sq ?_
 refine aB (fun hb=>?_) fun hb=>?_
 ·repeat refine sq ?_
  have hc:¬ gN l [day,k]=0:=by simpa using hb
  have he:mN l pa day k=gN l [day,k]:=by unfold mN;rw[if_neg hc]
  have ha:mO l pa day k=0:=by unfold mO;rw[he,if_neg hc]
  rw[he,ha]
  repeat refine sq ?_
  refine rx hΓ [8,9] [] (fun K' hK=>by simp only[go_sem];exact aq) ?_
  refine aC ?_
  simp only[go_sem]
  all_goals first | rfl | trace_state
 ·repeat refine sq ?_
  have hc:gN l [day,k]=0:=by simpa using hb
  obtain⟨aa,_⟩:=Ow hc
  have zR:=aa.srt
  refine aJ ?_
  repeat refine sq ?_
  refine rx hΓ [1,2,3,4,11] [[4,0]] (fun K' hK=>by simp only[go_sem,zR];exact aq) ?_
  repeat refine sq ?_
  refine rx hΓ [1,2,3,4,11,29] [[4,0]] (fun K' hK=>by simp only[go_sem];exact aq) ?_
  repeat refine sq ?_
  refine aB (fun hb=>?_) fun hb=>?_
  ·repeat refine sq ?_
   have he:mN l pa day k=26:=by unfold mN;rw[if_pos hc,if_pos (by simpa using hb)]
   have ha:mO l pa day k=0:=by unfold mO;rw[he,if_neg (by decide)]
   rw[he,ha]
   repeat refine sq ?_
   refine rx hΓ [8,9] [] (fun K' hK=>by simp only[go_sem];exact aq) ?_
   refine aC ?_
   simp only[go_sem]
   all_goals first | rfl | trace_state
  ·repeat refine sq ?_
   have he:mN l pa day k=eS l k:=by unfold mN;rw[if_pos hc,if_neg (by simpa using hb)]
   refine aJ ?_
   rcases uV:kz l k with _ | _
   ·obtain⟨q1,q2,q3⟩:=B2 uV
    have q4:¬ eS l k=0:=by simpa using q3
    have ha:mO l pa day k=0:=by unfold mO;rw[he,if_neg q4]
    rw[he,ha]
    repeat refine sq ?_
    refine rx hΓ [1,2,11,12,13] [[26,0,11,0,11,0,32,0],[23,0,11,0,11,0,32,0],[24,0,11,0,11,0,32,0]] (fun K' hK=>by simp only[go_sem,q1,q2,q3];exact aq) ?_
    repeat refine sq ?_
    refine rx hΓ [1,2,11,12,13,36] [[26,0,11,0,11,0,32,0],[23,0,11,0,11,0,32,0],[24,0,11,0,11,0,32,0]] (fun K' hK=>by simp only[go_sem,q1,q2,q3];exact aq) ?_
    repeat refine sq ?_
    refine aB (fun hb=>?_) fun hb=>?_
    ·repeat refine sq ?_
     refine rx hΓ [8,9] [] (fun K' hK=>by simp only[go_sem,q1,q2,q3];exact aq) ?_
     refine aC ?_
     simp only[go_sem]
     all_goals first | rfl | trace_state
    ·cases hb
   ·obtain⟨q1,q2,q3⟩:=B1 uV
    obtain⟨hv,cM⟩:=Hz aa k
    have ha:mO l pa day k=tw (hG (jh (bu (aw l k) k) pa day) (bW l.ps pa).toNat) (hG (jX (bu (aw l k) k) pa day) (bW l.ps pa).toNat) (bW l.ps pa):=by unfold mO;rw[he,if_pos q3]
    rw[he,ha,q3]
    obtain⟨ED,qE⟩:=JE aa pa
    obtain⟨nn,uZ⟩:∃ nn:Nat,bW l.ps pa=nn:=⟨(bW l.ps pa).toNat,by omega⟩
    rw[uZ]at ED qE |-
    have aA:nn+1<=maxLen:=by unfold maxLen;omega
    rw[ai]
    repeat refine sq ?_
    refine rx hΓ [1,2,11,12,13] [[26,0,11,0,11,0,32,0],[23,0,11,0,11,0,32,0],[24,0,11,0,11,0,32,0]] (fun K' hK=>by simp only[go_sem,q1,q2];exact aq) ?_
    repeat refine sq ?_
    refine rx hΓ [1,2,11,12,13,36] [[26,0,11,0,11,0,32,0],[23,0,11,0,11,0,32,0],[24,0,11,0,11,0,32,0]] (fun K' hK=>by simp only[go_sem,q1,q2];exact aq) ?_
    repeat refine sq ?_
    refine aB (fun hb=>?_) fun hb=>?_
    ·cases hb
    ·repeat refine sq ?_
     refine aJ ?_
     repeat refine sq ?_
     refine rx hΓ [1,2,11,12,14,15] [[26,0,11,0,11,0,32,0],[23,0,11,0,11,0,32,0],[24,0,11,0,11,0,32,0]] (fun K' hK=>by simp only[go_sem,q1,q2];exact aq) ?_
     repeat refine sq ?_
     refine rx hΓ [1,2,11,12,14,15,16] [[26,0,11,0,11,0,32,0],[23,0,11,0,11,0,32,0],[24,0,11,0,11,0,32,0]] (fun K' hK=>by simp only[go_sem,q1,q2];exact aq) ?_
     repeat refine sq ?_
     refine aR ?_
     repeat refine sq ?_
     refine cr (fun s:Nat=>[(16,⟨true,.v (vInt s)⟩),(14,⟨true,.v (vInt (hG (jh (bu (aw l k) k) pa day) (s-1)))⟩),(15,⟨true,.v (vInt (hG (jX (bu (aw l k) k) pa day) (s-1)))⟩)]) (fun s=>[]) (fun s=>s<=(nn+1)/\1<=s) (fun s=>(nn+1)-s) 1 ?_ ?_ ?_ ?_
     ·exact⟨by omega,Nat.le_refl 1⟩
     ·rfl
     ·rfl
     rintro i ⟨hi,hR⟩
     obtain⟨hS0,hS1⟩:=xR (jh (bu (aw l k) k) pa day) (i-1)
     obtain⟨hM0,hM1⟩:=xR (jX (bu (aw l k) k) pa day) (i-1)
     have vk:=OJ (p:=jh (bu (aw l k) k) pa day) hR
     have xC:=OJ (p:=jX (bu (aw l k) k) pa day) hR
     simp only[go_sem]
     repeat refine sq ?_
     refine rx hΓ [1,2,11,12,14,15,16,40] [[26,0,11,0,11,0,32,0],[23,0,11,0,11,0,32,0],[24,0,11,0,11,0,32,0]] (fun K' hK=>by simp only[go_sem,q1,q2];exact aq) ?_
     repeat refine sq ?_
     refine aB (fun hb=>?_) fun hb=>?_
     ·repeat refine sq ?_
      have ab:i<nn+1:=by
       have :(i:Int)<=nn:=by simpa using hb
       omega
      obtain⟨w0,wr,w7⟩:=Qt uV pa i day
      have Xe:IntKind.i64.wrap (hG (jh (bu (aw l k) k) pa day) (i-1)+1)=hG (jh (bu (aw l k) k) pa day) (i-1)+1:=wrap_i64 (by omega) (by omega)
      have Xf:IntKind.i64.wrap (hG (jX (bu (aw l k) k) pa day) (i-1)+1)=hG (jX (bu (aw l k) k) pa day) (i-1)+1:=wrap_i64 (by omega) (by omega)
      refine aJ ?_
      repeat refine sq ?_
      refine aR ?_
      repeat refine sq ?_
      refine rx hΓ [1,2,11,12,14,15,16,17] [[26,0,11,0,11,0,32,0],[23,0,11,0,11,0,32,0],[24,0,11,0,11,0,32,0]] (fun K' hK=>by simp only[go_sem,q1,q2,w7];(repeat (refine⟨by first | exact ak | exact⟨hv,cM⟩,?_⟩));exact ki) ?_
      repeat refine sq ?_
      refine rx hΓ [1,2,11,12,14,15,16,17,52] [[26,0,11,0,11,0,32,0],[23,0,11,0,11,0,32,0],[24,0,11,0,11,0,32,0]] (fun K' hK=>by simp only[go_sem,q1,q2];exact aq) ?_
      repeat refine sq ?_
      refine aB (fun hb=>?_) fun hb=>?_
      ·repeat refine sq ?_
       have iN:jX (bu (aw l k) k) pa day i=true:=by unfold jX;rw[w7];simpa using hb
       rw[if_pos iN]at xC
       repeat refine sq ?_
       refine rx hΓ [1,2,11,12,14,15,16,17] [[26,0,11,0,11,0,32,0],[23,0,11,0,11,0,32,0],[24,0,11,0,11,0,32,0]] (fun K' hK=>by simp only[go_sem,q1,q2,Xf];exact aq) ?_
       repeat refine sq ?_
       refine rx hΓ [1,2,11,12,14,15,16,57] [[26,0,11,0,11,0,32,0],[23,0,11,0,11,0,32,0],[24,0,11,0,11,0,32,0]] (fun K' hK=>by simp only[go_sem,q1,q2];exact aq) ?_
       repeat refine sq ?_
       refine aB (fun hb=>?_) fun hb=>?_
       ·repeat refine sq ?_
        have px:jh (bu (aw l k) k) pa day i=true:=by unfold jh;rw[iN,w7];simpa using hb
        rw[if_pos px]at vk
        repeat refine sq ?_
        refine aS hΓ fun K' hK=>?_
        simp only[go_sem,q1,q2,Xe]
        repeat (refine⟨ak,?_⟩)
        refine hK _ ?_
        clear K' hK
        simp only[go_sem]
        refine kp [1,2,11,12,14,15,16] [[26,0,11,0,11,0,32,0],[23,0,11,0,11,0,32,0],[24,0,11,0,11,0,32,0]] ?_
        repeat refine sq ?_
        refine aS hΓ fun K' hK=>?_
        simp only[go_sem,q1,q2]
        repeat (refine⟨ak,?_⟩)
        refine hK _ ?_
        clear K' hK
        simp only[go_sem]
        refine⟨i+1,⟨ab,?_⟩,by(show (nn+1)-(i+1)<(nn+1)-i;omega),?_⟩
        ·omega
        refine bg [1,2,11,12,14,15,16] [[26,0,11,0,11,0,32,0],[23,0,11,0,11,0,32,0],[24,0,11,0,11,0,32,0]] ?_ ?_<;>simp only[go_sem,a7 ab aA,bb,xC,vk]
       ·repeat refine sq ?_
        have px:jh (bu (aw l k) k) pa day i=false:=by unfold jh;rw[iN,w7];simpa using hb
        rw[if_neg (by rw[px];decide),Int.add_zero]at vk
        refine aJ ?_
        refine bV ?_
        simp only[go_sem]
        refine kp [1,2,11,12,14,15,16] [[26,0,11,0,11,0,32,0],[23,0,11,0,11,0,32,0],[24,0,11,0,11,0,32,0]] ?_
        repeat refine sq ?_
        refine aS hΓ fun K' hK=>?_
        simp only[go_sem,q1,q2]
        repeat (refine⟨ak,?_⟩)
        refine hK _ ?_
        clear K' hK
        simp only[go_sem]
        refine⟨i+1,⟨ab,?_⟩,by(show (nn+1)-(i+1)<(nn+1)-i;omega),?_⟩
        ·omega
        refine bg [1,2,11,12,14,15,16] [[26,0,11,0,11,0,32,0],[23,0,11,0,11,0,32,0],[24,0,11,0,11,0,32,0]] ?_ ?_<;>simp only[go_sem,a7 ab aA,bb,xC,vk]
      ·repeat refine sq ?_
       have iN:jX (bu (aw l k) k) pa day i=false:=by unfold jX;rw[w7];simpa using hb
       have px:jh (bu (aw l k) k) pa day i=false:=by unfold jh;rw[iN];rfl
       rw[if_neg (by rw[iN];decide),Int.add_zero]at xC
       rw[if_neg (by rw[px];decide),Int.add_zero]at vk
       refine aJ ?_
       refine bV ?_
       simp only[go_sem]
       refine kp [1,2,11,12,14,15,16] [[26,0,11,0,11,0,32,0],[23,0,11,0,11,0,32,0],[24,0,11,0,11,0,32,0]] ?_
       repeat refine sq ?_
       refine aS hΓ fun K' hK=>?_
       simp only[go_sem,q1,q2]
       repeat (refine⟨ak,?_⟩)
       refine hK _ ?_
       clear K' hK
       simp only[go_sem]
       refine⟨i+1,⟨ab,?_⟩,by(show (nn+1)-(i+1)<(nn+1)-i;omega),?_⟩
       ·omega
       refine bg [1,2,11,12,14,15,16] [[26,0,11,0,11,0,32,0],[23,0,11,0,11,0,32,0],[24,0,11,0,11,0,32,0]] ?_ ?_<;>simp only[go_sem,a7 ab aA,bb,xC,vk]
     ·repeat refine sq ?_
      have bF:i=nn+1:=by
       have :¬ (i:Int)<=nn:=by simpa using hb
       omega
      subst bF
      refine bR ?_
      simp only[go_sem]
      refine kp [11,14,15] [] ?_
      repeat refine sq ?_
      refine rx hΓ [8,9] [] (fun K' hK=>by simp only[go_sem,q1,q2];exact aq) ?_
      refine aC ?_
      simp only[go_sem]
      all_goals first | rfl | trace_state
end
def p5{α β γ δ ε:Type}(A:En α)(B:En β)(C:En γ)(D:En δ)(E':En ε)(p:α->β->γ->δ->ε->Prop)(g:α->β->γ->δ->ε->V)(fl:Bool):PSpec:=
 ⟨fun xs=>match xs with | [x,y,z,u,v]=>A.enc (A.dec x)=x/\B.enc (B.dec y)=y/\C.enc (C.dec z)=z/\D.enc (D.dec u)=u/\E'.enc (E'.dec v)=v/\p (A.dec x) (B.dec y) (C.dec z) (D.dec u) (E'.dec v) | _=>False,
  fun xs=>match xs with | [x,y,z,u,v]=>g (A.dec x) (B.dec y) (C.dec z) (D.dec u) (E'.dec v) | _=>.bool false,fl⟩
attribute [go_sem] p5
noncomputable section
def acZ:List (Nat×Spec):=[(108,yn)]
attribute [go_sem] acZ
def acY:List (Nat×Spec):=[]
attribute [go_sem] acY
theorem agC(l:List Fol):∀ y∈l.map qQ,y.cells.length=2/\y.okc=true:=by
 intro y hy;obtain⟨x,_,rfl⟩:=List.mem_map.1 hy;exact⟨rfl,rfl⟩
end
noncomputable section
def K38:List (Nat×Spec):=[(37,GF),(96,tG),(75,nX),(78,S78)]
attribute [go_sem] K38
def acX:List (Nat×Spec):=[]
attribute [go_sem] acX
end
set_option maxHeartbeats 8000000
noncomputable section
def aQ(n m:Int):Int:=(n.tmod m+m).tmod m
theorem Hk{n m:Int}(h:0<m): -m<n.tmod m/\n.tmod m<m:=by
 have h1:=Int.tmod_lt_of_pos n h
 have h2:=Int.tmod_lt_of_pos (-n) h
 rw[Int.neg_tmod]at h2
 omega
theorem dg{n m:Int}(h:0<m):0<=aQ n m/\aQ n m<m:=by
 unfold aQ
 have h1:=Hk (n:=n) h
 exact⟨Int.tmod_nonneg _ (by omega),Int.tmod_lt_of_pos _ h⟩
@[go_sem] def P20:PSpec:=p2 iI iI (fun _ m=>0<m/\m<=1000000) (fun n m=>vInt (aQ n m)) true
@[go_sem] def GG:Spec:=P20.toSpec
theorem H5:aZ Tryz.prog 20 P20:=by
 refine fD (rs:=[.tmp 4]) Tryz.func20 Tryz.ntmps20 fun n m hp hw=>?_
 simp only[iI]at hw |-
 have hΓ:=@fE Tryz.prog
 have sE:m≠0:=by omega
 have hr:=Hk (n:=n) hp.1
 have w5:IntKind.i64.wrap (n.tmod m+m)=n.tmod m+m:=wrap_i64 (by omega) (by omega)
 repeat refine sq ?_
 refine rx hΓ [0,1] [] (fun K' hK=>by simp only[go_sem];exact aq) ?_
 repeat refine sq ?_
 refine rx hΓ [4] [] (fun K' hK=>by simp only[go_sem,sE,w5];exact aq) ?_
 refine aC ?_
 simp only[go_sem]
 rfl
def Gg(n i:Int):Bool:=IntKind.i64.wrap ((BitVec.ofInt 64 n&&& BitVec.ofInt 64 (IntKind.i64.wrap (1*2 ^ min i.toNat 64))).toNat:Int) != 0
def fC(n:Int):Nat->List Int
 | 0=>[]
 |m+1=>if Gg n ((m+1:Nat):Int)=true then fC n m++[((m+1:Nat):Int)]else fC n m
theorem OZ(n:Int):∀ m,(fC n m).length<=m
 | 0=>Nat.le_refl _
 |m+1=>by
  have :=OZ n m
  rw[fC]
  split
  ·rw[List.length_append];simp;omega
  ·omega
def ja(n many:Int):List Int:=if fC n many.toNat=[]then[1]else fC n many.toNat
@[go_sem] def P83:PSpec:=p2 iI iI (fun _ m=>0<=m/\m<=30) (fun n m=>.sl ((ja n m).map vInt)) false
@[go_sem] def S83:Spec:=P83.toSpec
theorem RL:aZ Tryz.prog 83 P83:=by
 refine fD (rs:=[.tmp 4]) Tryz.func83 Tryz.ntmps83 fun n m hp hw=>?_
 simp only[iI]at hw |-
 have hΓ:=@fE Tryz.prog
 obtain⟨nn,rfl⟩:∃ nn:Nat,m=nn:=⟨m.toNat,by omega⟩
 have aA:nn+1<=maxLen:=by unfold maxLen;omega
 repeat refine sq ?_
 refine rx hΓ [0,1] [] (fun K' hK=>by simp only[go_sem];exact aq) ?_
 repeat refine sq ?_
 refine rx hΓ [0,1,5] [[20,0]] (fun K' hK=>by simp only[go_sem];exact aq) ?_
 refine bP (tS 5 [20,0] 1 (by simp only[go_sem]) (by simp only[go_sem]) [0,1,5] [[20,0]] ?_ rfl) ?_
 ·simp only[go_sem]
 simp only[go_sem]
 repeat refine sq ?_
 refine rx hΓ [0,1,5,6] [[20,0]] (fun K' hK=>by simp only[go_sem];exact aq) ?_
 repeat refine sq ?_
 refine aR ?_
 repeat refine sq ?_
 refine cr (fun s:Nat=>[(6,⟨true,.v (vInt s)⟩),(5,⟨true,.msl [20,0] (fC n (s-1)).length⟩)]) (fun s=>[([20,0],.arr 1 ((fC n (s-1)).map vInt))]) (fun s=>s<=(nn+1)/\1<=s) (fun s=>(nn+1)-s) 1 ?_ ?_ ?_ ?_
 ·exact⟨by omega,Nat.le_refl 1⟩
 ·rfl
 ·rfl
 rintro i ⟨hi,hR⟩
 have Zf:=OZ n (i-1)
 simp only[go_sem]
 repeat refine sq ?_
 refine rx hΓ [0,1,5,6,9] [[20,0]] (fun K' hK=>by simp only[go_sem];exact aq) ?_
 repeat refine sq ?_
 refine aB (fun hb=>?_) fun hb=>?_
 ·repeat refine sq ?_
  have ab:i<nn+1:=by
   have :(i:Int)<=nn:=by simpa using hb
   omega
  refine aJ ?_
  repeat refine sq ?_
  refine aR ?_
  repeat refine sq ?_
  refine rx hΓ [0,1,5,6,16] [[20,0]] (fun K' hK=>by simp only[go_sem];exact aq) ?_
  repeat refine sq ?_
  refine aB (fun hb=>?_) fun hb=>?_
  ·repeat refine sq ?_
   have eS:fC n (i+1-1)=fC n (i-1)++[(i:Int)]:=by
    obtain⟨m,rfl⟩:∃ m,i=m+1:=⟨i-1,by omega⟩
    rw[Nat.add_sub_cancel,Nat.add_sub_cancel,fC,if_pos (show Gg n ((m+1:Nat):Int)=true from hb)]
   repeat refine sq ?_
   refine aS hΓ fun K' hK=>?_
   simp only[go_sem]
   repeat (refine⟨ak,?_⟩)
   refine hK _ ?_
   clear K' hK
   simp only[go_sem]
   refine kp [0,1,5,6] [[20,0]] ?_
   repeat refine sq ?_
   refine aS hΓ fun K' hK=>?_
   simp only[go_sem]
   repeat (refine⟨ak,?_⟩)
   refine hK _ ?_
   clear K' hK
   simp only[go_sem]
   refine⟨i+1,⟨ab,?_⟩,by(show (nn+1)-(i+1)<(nn+1)-i;omega),?_⟩
   ·omega
   refine bg [0,1,5,6] [[20,0]] ?_ ?_<;>simp only[go_sem,a7 ab aA,bb,eS,List.map_append,List.length_append,List.map_cons,List.map_nil,List.length_cons,List.length_nil]
  ·repeat refine sq ?_
   have eS:fC n (i+1-1)=fC n (i-1):=by
    obtain⟨m,rfl⟩:∃ m,i=m+1:=⟨i-1,by omega⟩
    rw[Nat.add_sub_cancel,Nat.add_sub_cancel,fC,if_neg (fun h=>by rw[show Gg n ((m+1:Nat):Int)=false from hb]at h;cases h)]
   refine aJ ?_
   refine bV ?_
   simp only[go_sem]
   refine kp [0,1,5,6] [[20,0]] ?_
   repeat refine sq ?_
   refine aS hΓ fun K' hK=>?_
   simp only[go_sem]
   repeat (refine⟨ak,?_⟩)
   refine hK _ ?_
   clear K' hK
   simp only[go_sem]
   refine⟨i+1,⟨ab,?_⟩,by(show (nn+1)-(i+1)<(nn+1)-i;omega),?_⟩
   ·omega
   refine bg [0,1,5,6] [[20,0]] ?_ ?_<;>simp only[go_sem,a7 ab aA,bb,eS,List.map_append,List.length_append,List.map_cons,List.map_nil,List.length_cons,List.length_nil]
 ·repeat refine sq ?_
  have bF:i=nn+1:=by
   have :¬ (i:Int)<=nn:=by simpa using hb
   omega
  subst bF
  rw[Nat.add_sub_cancel]at Zf
  refine bR ?_
  simp only[go_sem]
  refine kp [5] [[20,0]] ?_
  repeat refine sq ?_
  refine rx hΓ [5,23] [[20,0]] (fun K' hK=>by simp only[go_sem];exact aq) ?_
  repeat refine sq ?_
  refine aB (fun hb=>?_) fun hb=>?_
  ·repeat refine sq ?_
   have hz:fC n nn=[]:=by
    apply List.eq_nil_of_length_eq_zero
    have :((fC n nn).length:Int)=0:=by simpa using hb
    omega
   have e:ja n nn=[1]:=by unfold ja;rw[ai,if_pos hz]
   repeat refine sq ?_
   refine rx hΓ [5] [[20,0]] (fun K' hK=>by simp only[go_sem];exact aq) ?_
   repeat refine sq ?_
   refine rx hΓ [4] [[20,0]] (fun K' hK=>by simp only[go_sem];exact aq) ?_
   refine aC ?_
   simp only[go_sem]
   first | (rw[e];done) | (rw[e];rfl) | trace_state
  ·repeat refine sq ?_
   have hz:¬ fC n nn=[]:=by
    intro h
    have h2:(((fC n nn).length:Int)==0)=false:=hb
    rw[h]at h2
    cases h2
   have e:ja n nn=fC n nn:=by unfold ja;rw[ai,if_neg hz]
   refine aJ ?_
   repeat refine sq ?_
   refine rx hΓ [4] [[20,0]] (fun K' hK=>by simp only[go_sem];exact aq) ?_
   refine aC ?_
   simp only[go_sem]
   first | (rw[e];done) | (rw[e];rfl) | trace_state
end
set_option maxHeartbeats 8000000
noncomputable section
def b9(l:Led)(so k:Int):Int:=dE (fun r=>r.so==so&&bG r.kn r.un k) l.rs
def iJ(so k:Int)(r:Rec):Bool:=r.so==so&&bG r.kn r.un k
theorem Sy{l:Led}{so k:Int}{i:Nat}(h:i<l.rs.length)(hp:iJ so k l.rs[i]=true)(hn:∀ j (hj:j<l.rs.length),j<i->iJ so k l.rs[j]=false):b9 l so k=i:=sc h hp hn
theorem Sx{l:Led}{so k:Int}(hn:∀ j (hj:j<l.rs.length),j<l.rs.length->iJ so k l.rs[j]=false):b9 l so k= -1:=by
 unfold b9 dE
 rw[if_neg]
 intro h
 obtain⟨x,hx,hp⟩:=List.any_eq_true.1 h
 obtain⟨j,hj,rfl⟩:=List.getElem_of_mem hx
 have :=hn j hj hj
 unfold iJ at this
 rw[this]at hp
 exact absurd hp (by decide)
def K39:List (Nat×Spec):=[(157,BE)]
theorem acW:KS K39:=tc Cb.sound<|tn
attribute [go_sem] K39
@[go_sem] def P70:PSpec:=p3 iL iI iI (fun l _ _=>l.rs.length<=60) (fun l so k=>vInt (b9 l so k)) true
@[go_sem] def ym:Spec:=P70.toSpec
theorem H4:aZ Tryz.prog 70 P70:=by
 refine n7 (rs:=[.tmp 6]) Tryz.func70 Tryz.ntmps70 fun l so k hp hw=>?_
 simp only[iI,iL,gM]at hw |-
 have hΓ:=acW
 have hl:l.rs.length<=maxLen:=by unfold maxLen;omega
 repeat refine sq ?_
 refine rx hΓ [1,2,3] [[3,0]] (fun K' hK=>by simp only[go_sem];exact aq) ?_
 repeat refine sq ?_
 refine rx hΓ [1,2,3,7] [[3,0]] (fun K' hK=>by simp only[go_sem];exact aq) ?_
 repeat refine sq ?_
 refine aR ?_
 repeat refine sq ?_
 refine cr (fun s:Nat=>[(7,⟨true,.v (vInt s)⟩)]) (fun s=>[]) (fun s=>s<=l.rs.length/\∀ j (hj:j<l.rs.length),j<s->iJ so k l.rs[j]=false) (fun s=>l.rs.length-s) 0 ?_ ?_ ?_ ?_
 ·exact⟨Nat.zero_le _,by simp⟩
 ·rfl
 ·rfl
 rintro i ⟨hi,hR⟩
 simp only[go_sem]
 repeat refine sq ?_
 refine rx hΓ [1,2,3,7,13] [[3,0]] (fun K' hK=>by simp only[go_sem];exact aq) ?_
 repeat refine sq ?_
 refine aB (fun hb=>?_) fun hb=>?_
 ·have ab:i<l.rs.length:=by simpa using hb
  have ao:(i:Int)<l.rs.length:=by omega
  clear hb
  repeat refine sq ?_
  refine aJ ?_
  repeat refine sq ?_
  refine aR ?_
  repeat refine sq ?_
  refine rx hΓ [1,2,3,7,8] [[3,0],[8,0]] (fun K' hK=>by simp only[go_sem,ah ab,ai,aj,ao];exact aq) ?_
  repeat refine sq ?_
  refine rx hΓ [1,2,3,7,32] [[3,0]] (fun K' hK=>by simp only[go_sem,ah ab,ai,aj,ao];exact aq) ?_
  repeat refine sq ?_
  refine aB (fun hb=>?_) fun hb=>?_
  ·repeat refine sq ?_
   have e:b9 l so k=i:=Sy ab (by unfold iJ;simpa using hb) (fun j hj fh=>hR j hj fh)
   repeat refine sq ?_
   refine rx hΓ [6] [] (fun K' hK=>by simp only[go_sem,ah ab,ai,aj,ao];exact aq) ?_
   refine aC ?_
   simp only[go_sem]
   rw[e]
  ·repeat refine sq ?_
   refine aJ ?_
   refine bV ?_
   simp only[go_sem]
   refine kp [1,2,3,7] [[3,0]] ?_
   repeat refine sq ?_
   refine aS hΓ fun K' hK=>?_
   simp only[go_sem,ah ab,ai,aj,ao]
   repeat (refine⟨ak,?_⟩)
   refine hK _ ?_
   clear K' hK
   simp only[go_sem]
   refine⟨i+1,⟨ab,?_⟩,by(show l.rs.length-(i+1)<l.rs.length-i;omega),?_⟩
   ·intro j hj fh
    rcases Nat.lt_succ_iff_lt_or_eq.1 fh with h5 | rfl
    ·exact hR j hj h5
    ·unfold iJ;simpa using hb
   refine bg [1,2,3,7] [[3,0]] ?_ ?_<;>simp only[go_sem,a7 ab hl,bb]
 ·have bF:i=l.rs.length:=by
   have :¬ (i:Int)<l.rs.length:=by simpa using hb
   omega
  clear hb
  subst bF
  repeat refine sq ?_
  refine bR ?_
  simp only[go_sem]
  refine kp [] [] ?_
  repeat refine sq ?_
  refine rx hΓ [6] [] (fun K' hK=>by simp only[go_sem];exact aq) ?_
  refine aC ?_
  simp only[go_sem]
  rw[Sx hR]
def lH(t:Ret)(r:Rec):Int:=bH t.lo (r.da+1)
def Iz(r:Rec):Prop:=0<=r.da/\r.da<=100000
@[go_sem] def P158:PSpec:=p2 iT iR (fun _ r=>Iz r) (fun t r=>vInt (lH t r)) true
@[go_sem] def GK:Spec:=P158.toSpec
theorem Si:aZ Tryz.prog 158 P158:=by
 refine fD (rs:=[.tmp 4]) Tryz.func158 Tryz.ntmps158 fun t r hp hw=>?_
 simp only[iR,iT,encR,cT]at hw |-
 have hΓ:=@fE Tryz.prog
 have gV:=yv hp
 repeat refine sq ?_
 refine rx hΓ [2,3] [[2,0],[3,0]] (fun K' hK=>by simp only[go_sem];exact aq) ?_
 repeat refine sq ?_
 refine rx hΓ [4] [] (fun K' hK=>by simp only[go_sem,gV];exact aq) ?_
 refine aC ?_
 simp only[go_sem]
 all_goals exact e8
def Gt(l:Led)(ds:List Int):Int:=if wz l=false then 24 else if ds.all dayB then 0 else 6
def acV:List (Nat×Spec):=[]
attribute [go_sem] acV
end
end Go.Eng
