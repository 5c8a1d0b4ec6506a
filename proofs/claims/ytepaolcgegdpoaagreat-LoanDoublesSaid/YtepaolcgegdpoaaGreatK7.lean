import Derived.Test.YtepaolcgegdpoaaGreatK6
/- Texts LW25 to LW36. -/
set_option linter.all false
namespace Go.Eng
open Go Go.Proofs
set_option maxHeartbeats 8000000
noncomputable section
theorem X8{P:Program}{Γ:FuncId->Option Spec}(hΓ:∀ f s,Γ f=some s->aR P f s){id:Nat}{l:List Oper}{c:Code}{r:List Code}{σ:S}{K:Exit->S->Prop}(ks:List Nat)(ns:List Name)
 (h:∀ K':S->Prop,(∀ σ',gY ks ns σ'->CL P (c::r) (iw ks ns σ') K->K' σ')->lY P Γ l.toArray l σ K'):CL P (.region id l.toArray false::c::r) σ K:=
 Mc hΓ (h _ fun σ' hc hy=>DK ks ns hc hy)
theorem Gl{P:Program}{Γ:FuncId->Option Spec}{ops:Array Oper}{o:Oper}{r:List Oper}{σ:S}{K:S->Prop}(h1:kF P Γ ops σ o)(h2:lY P Γ ops r (bj P Γ ops σ o) K):lY P Γ ops (o::r) σ K:=.step h1 h2
def fA{α:Type}(p:α->Bool)(l:List α):List α:=l.filter fun d=>!p d
def kU{α:Type}(enc:α->V)(z:V)(p:α->Bool)(l:List α):List V:=(fA p l).map enc++List.replicate (l.length-(fA p l).length) z
def NU:Ret:=⟨0,0,0,[],0,0,0,0⟩
def m6:Sig:=⟨0,0,0,0,0,0,0⟩
def K25:List (Nat×Spec):=[(162,S162)]
theorem aaX:KS K25:=tc JI<|tn
attribute [go_sem] K25
@[go_sem] def P186:PSpec:=p2 iS oy (fun _ _=>True) (fun s k=>.bool (!bJ s.kn s.un k)) true
@[go_sem] def ZA:Spec:=P186.toSpec
theorem PZ:aN Tryz.prog 186 P186:=by
 refine cX (rs:=[.tmp 3]) Tryz.func186 Tryz.ntmps186 fun s k hp hw=>?_
 simp only[oy,iS,encS]at hw |-
 have hΓ:=aaX
 repeat refine sq ?_
 refine rx hΓ [1,2] [[2,0]] (fun K' hK=>by simp only[go_sem];exact ak) ?_
 repeat refine sq ?_
 refine rx hΓ [3] [] (fun K' hK=>by simp only[go_sem];exact ak) ?_
 refine au ?_
 simp only[go_sem]
 all_goals exact c9
def GZ(g:Nat×Int)(x:Rec):Bool:=x.so==g.2
def GY(g:Nat×Int)(x:Ret):Bool:=x.so==g.2
def ew(g:Nat×Int)(x:Sig):Bool:=if g.1=186 then !bJ x.kn x.un g.2 else x.so==g.2
def Rr(g:Nat×Int):Prop:=g.1=88
def Rq(g:Nat×Int):Prop:=g.1=90
def oa(g:Nat×Int):Prop:=g.1=92\/g.1=186
def Z4:List (Nat×Spec):=[]
attribute [go_sem] Z4
def Z2:List (Nat×Spec):=[]
attribute [go_sem] Z2
def KDS:List (Nat×Spec):=[(92,Zd),(186,ZA)]
theorem Z3:KS KDS:=tc Pt.sound<|tc PZ.sound<|tn
attribute [go_sem] KDS
abbrev TYR:=Rec
abbrev TYT:=Ret
abbrev wL:=Sig
def Xe(obj:Name->Option O)(_:Name):List D->R
 |[.msl nm k,.clo (.func g) [] [.v (.ptr [.int .i64 q])]]=>match obj nm with
  |some (.arr 7 L)=>⟨k=L.length/\L.length<1000000/\(L.map kV).map encR=L/\Rr (g,q),.v (.sl ((fA (GZ (g,q)) (L.map kV)).map encR)),upd obj nm (some (.farr 7 (kU encR (encR fP) (GZ (g,q)) (L.map kV))))⟩
  |_=>.bad obj
 |_=>.bad obj
attribute [go_sem] Xe
def Xd(obj:Name->Option O)(_:Name):List D->R
 |[.msl nm k,.clo (.func g) [] [.v (.ptr [.int .i64 q])]]=>match obj nm with
  |some (.arr 8 L)=>⟨k=L.length/\L.length<1000000/\(L.map mL).map fv=L/\Rq (g,q),.v (.sl ((fA (GY (g,q)) (L.map mL)).map fv)),upd obj nm (some (.farr 8 (kU fv (fv NU) (GY (g,q)) (L.map mL))))⟩
  |_=>.bad obj
 |_=>.bad obj
attribute [go_sem] Xd
def EI:FuncId->Option Spec:=tbl KDS
theorem NK:∀ f s,EI f=some s->aR Tryz.prog f s:=Z3
theorem Hh{g:Nat×Int}(h:oa g):∃ s,EI g.1=some s/\(¬ g.1=1000000000)/\(∀ obj t (x:wL),s.app obj t [.v (encS x),.v (.ptr [vInt g.2])]=⟨True,.v (.bool (ew g x)),obj⟩)/\
 ∀ obj t (x:wL),s.app obj t [.agg ((encS x).cells.map .v),.v (.ptr [vInt g.2])]=⟨True,.v (.bool (ew g x)),obj⟩:=by
 obtain⟨g,k⟩:=g
 rcases h with rfl | rfl
 all_goals exact⟨_,rfl,(by simp),fun obj t x=>by simp only[go_sem,ew];try rfl,fun obj t x=>by simp only[go_sem,ew,encS];try rfl⟩
theorem Ef:(#[29]:Array Nat).getD 0 0=29:=rfl
theorem NV:((bm Tryz.prog 81).bind fun z=>ea (iW z))=some (encS m6):=by rw[Oj];rfl
theorem DP{obj:Name->Option O}{nm:Name}{k i:Nat}{L:List V}(h:obj nm=some (.arr 7 L))(hk:k=L.length)(hi:i<L.length):
 lh Tryz.prog obj 29 29 (.msl nm k) (.v (vInt i))=⟨True,.any,upd obj nm (some (.arr 7 (L.take i++List.replicate (L.length-i) (encS m6))))⟩:=by
 unfold lh
 simp only[Fe,h,NV,ah]
 congr 1
 simp only[eq_iff_iff,iff_true]
 exact⟨hk,by omega,hi,trivial,rfl,rfl,trivial,by decide⟩
theorem OU:aN Tryz.prog 181 (p2 (eW iS) pW (fun _ g=>oa g) (fun l g=>vInt (dE (ew g) l)) true):=by
 refine cX (rs:=[.tmp 4]) Tryz.func181 Tryz.ntmps181 fun l g hp hw=>?_
 simp only[pW,iS,eW]at hw |-
 have hΓ:=NK
 have hl:l.length<=maxLen:=by have:=hw.1.1;simpa using this
 obtain⟨s_,hs,hy,ha,_⟩:=Hh hp
 simp only[encS]at ha
 repeat refine sq ?_
 refine rx hΓ [0,1] [] (fun K' hK=>by simp only[go_sem];exact ak) ?_
 repeat refine sq ?_
 refine rx hΓ [0,1,7,8] [] (fun K' hK=>by simp only[go_sem];exact ak) ?_
 repeat refine sq ?_
 refine aH ?_
 repeat refine sq ?_
 refine bB (fun s:Nat=>[(8,⟨true,.v (vInt s)⟩)]) (fun s=>[]) (fun s=>s<=l.length/\∀ k (h:k<l.length),k<s->ew g l[k]=false) (fun s=>l.length-s) 0 ?_ ?_ ?_ ?_
 ·exact⟨Nat.zero_le _,by simp⟩
 ·rfl
 ·rfl
 rintro i ⟨hi,hR⟩
 simp only[go_sem]
 repeat refine sq ?_
 refine rx hΓ [0,1,7,8,9] [] (fun K' hK=>by simp only[go_sem];exact ak) ?_
 repeat refine sq ?_
 refine av (fun hb=>?_) fun hb=>?_
 ·have ab:i<l.length:=by simpa using hb
  have an:(i:Int)<l.length:=by omega
  clear hb
  repeat refine sq ?_
  refine ax ?_
  repeat refine sq ?_
  refine aH ?_
  repeat refine sq ?_
  refine rx hΓ [0,1,5,7,8] [] (fun K' hK=>by simp only[go_sem,ae ab,ah,ai,an];exact ak) ?_
  repeat refine sq ?_
  refine rx hΓ [0,1,5,7,8,16] [] (fun K' hK=>by simp only[go_sem,ae ab,ah,ai,an,hs,hy,ha];exact ak) ?_
  repeat refine sq ?_
  refine av (fun hb=>?_) fun hb=>?_
  ·repeat refine sq ?_
   refine rx hΓ [4] [] (fun K' hK=>by simp only[go_sem,ae ab,ah,ai,an];exact ak) ?_
   refine au ?_
   simp only[go_sem]
   rw[rm (p:=ew g) ab (by simpa using hb) hR]
  ·repeat refine sq ?_
   refine ax ?_
   refine bE ?_
   simp only[go_sem]
   refine kp [0,1,7,8] [] ?_
   repeat refine sq ?_
   refine aM hΓ fun K' hK=>?_
   simp only[go_sem,ae ab,ah,ai,an]
   repeat (refine⟨ao,?_⟩)
   refine hK _ ?_
   clear K' hK
   simp only[go_sem]
   refine⟨i+1,⟨ab,?_⟩,by(show l.length-(i+1)<l.length-i;omega),?_⟩
   ·intro k hk eA
    rcases Nat.lt_succ_iff_lt_or_eq.1 eA with h5 | rfl
    ·exact hR k hk h5
    ·simpa using hb
   refine aY [0,1,7,8] [] ?_ ?_<;>simp only[go_sem,aT ab hl,aU]
 ·have be:i=l.length:=by
   have :¬ (i:Int)<l.length:=by simpa using hb
   omega
  clear hb
  subst be
  repeat refine sq ?_
  refine bp ?_
  simp only[go_sem]
  refine kp [] [] ?_
  repeat refine sq ?_
  refine rx hΓ [4] [] (fun K' hK=>by simp only[go_sem];exact ak) ?_
  refine au ?_
  simp only[go_sem]
  rw[vC (p:=ew g) fun k hk=>hR k hk hk]
set_option maxRecDepth 10000 in
theorem Oc{g:Nat×Int}(aa:oa g){H:Name->Option O}{l:List wL}(hl:l.length<1000000)(qk:H [0,1]=some (.arr 7 (l.map encS)))(dH:∀ hs,cl [0] (bY [0] hs) H=True)(aj:∀ hs sz L,cl [0] (bY [0] hs) (upd H [0,1] (some (.arr sz L)))=True)(bf:∀ hs sz L,cl [0] (bY [0] hs) (upd H [0,1] (some (.farr sz L)))=True):
 ∃ c,Tryz.f91.body=some c/\CL Tryz.prog [c] (bh 42 [0] H [(0,⟨true,.msl [0,1] l.length⟩),(1,⟨true,.clo (.func g.1) [] [.v (.ptr [vInt g.2])]⟩)] []) (fun e σ=>(e=.normal\/e=.ret)/\(σ.env 4).c=true/\
   (σ.env 4).d=.v (.sl ((fA (ew g) l).map encS))/\σ.obj [0,1]=some (.farr 7 (kU encS (encS m6) (ew g) l))):=by
 obtain⟨sG,hs,hg,_,hp⟩:=Hh aa
 obtain⟨Γ,sI,hΓ,hs,hI,hi⟩:∃ (Γ:FuncId->Option Spec) (sI:Spec),(∀ f s,Γ f=some s->aR Tryz.prog f s)/\Γ g.1=some sG/\Γ 181=some sI/\
  ∀ (obj:Name->Option O) (t:Name),obj [0,1]=some (.arr 7 (l.map encS))->sI.app obj t [.msl [0,1] l.length,.clo (.func g.1) [] [.v (.ptr [vInt g.2])]]=⟨True,.v (vInt (dE (ew g) l)),obj⟩:=by
  refine⟨fun f=>if f=181 then some (p2 (eW iS) pW (fun _ g=>oa g) (fun l g=>vInt (dE (ew g) l)) true).toSpec else EI f,_,fun f s h=>?_,?_,rfl,fun obj t e=>?_⟩
  ·dsimp only at h
   split at h
   ·rename_i e;cases h;subst e;exact OU.sound
   ·exact NK _ _ h
  ·dsimp only
   rw[if_neg (by intro e;have h':=aa;unfold oa at h';simp[e]at h')];exact hs
  ·have eY:oa (g.1,g.2):=aa
   simp only[go_sem,e,eY,List.length_map,DB]
 generalize tX:kU encS (encS m6) (ew g) l=XX
 generalize hpg:ew g=p at *
 simp only[encS,V.cells,List.map_cons,List.map_nil]at hp
 refine⟨_,rfl,?_⟩
 have hm:l.length<=maxLen:=by unfold maxLen;omega
 repeat refine sq ?_
 refine rx hΓ [0,1] [] (fun K' hK=>by simp only[go_sem,dH];(repeat (refine⟨ao,?_⟩));exact hK _ (by simp only[go_sem,dH]) (by simp only[go_sem,dH]<;>rfl)) ?_
 repeat refine sq ?_
 refine rx hΓ [0,1,5] [] (fun K' hK=>by simp only[go_sem,dH,hI,hi,qk,implies_true];(repeat (refine⟨ao,?_⟩));exact hK _ (by simp only[go_sem,dH,hI,hi,qk,implies_true]) (by simp only[go_sem,dH,hI,hi,qk,implies_true]<;>rfl)) ?_
 repeat refine sq ?_
 refine rx hΓ [0,1,5,12] [] (fun K' hK=>by simp only[go_sem,dH];(repeat (refine⟨ao,?_⟩));exact hK _ (by simp only[go_sem,dH]) (by simp only[go_sem,dH]<;>rfl)) ?_
 repeat refine sq ?_
 refine av (fun hb=>?_) fun hb=>?_
 ·repeat refine sq ?_
  refine rx hΓ [4] [] (fun K' hK=>by simp only[go_sem,dH];(repeat (refine⟨ao,?_⟩));exact hK _ (by simp only[go_sem,dH]) (by simp only[go_sem,dH]<;>rfl)) ?_
  refine dp (gy 4 (.msl [0,1] l.length) (by simp only[go_sem]) (by simp only[go_sem,qk,List.length_map]) [4] [] ?_ rfl) ?_
  ·simp only[go_sem,qk,bf]
  simp only[go_sem,qk]
  refine au ?_
  simp only[go_sem,qk]
  have dh:dE p l= -1:=by simpa using hb
  have eG:∀ d∈l,p d=false:=by
   unfold dE at dh
   split at dh
   ·omega
   ·rename_i hn
    intro d hd
    cases jz:p d with
    |false=>rfl
    |true=>exact(hn (List.any_eq_true.2 ⟨d,hd,jz⟩)).elim
  have hk:fA p l=l:=List.filter_eq_self.2 fun d hd=>by rw[eG d hd];rfl
  have yt:XX=l.map encS:=by rw[<-tX];unfold kU;rw[hk];simp
  rw[hk,yt]
  exact⟨.inr trivial,rfl,rfl⟩
 have hf:l.findIdx p<l.length:=by
  have dh:¬ dE p l= -1:=by simpa using hb
  unfold dE at dh
  split at dh
  ·rename_i jF
   exact List.findIdx_lt_length_of_exists (by obtain⟨y,hy,hp⟩:=List.any_eq_true.1 jF;exact⟨y,hy,hp⟩)
  ·exact(dh rfl).elim
 have qh:dE p l=(l.findIdx p:Int):=by unfold dE;rw[if_pos (List.any_eq_true.2 ⟨_,List.getElem_mem hf,List.findIdx_getElem (w:=hf)⟩)]
 rw[qh]
 clear hb qh hi hI
 have UO:p (l[l.findIdx p])=true:=List.findIdx_getElem (w:=hf)
 have Ko:∀ j (h:j<l.length),j<l.findIdx p->p l[j]=false:=fun j h hj=>by simpa using List.not_of_lt_findIdx hj
 generalize l.findIdx p=f at *
 repeat refine sq ?_
 refine ax ?_
 repeat refine sq ?_
 refine rx hΓ [0,1,5,6] [] (fun K' hK=>by simp only[go_sem,dH,aT hf hm,aU];(repeat (refine⟨ao,?_⟩));exact hK _ (by simp only[go_sem,dH,aT hf hm,aU]) (by simp only[go_sem,dH,aT hf hm,aU]<;>rfl)) ?_
 repeat refine sq ?_
 refine aH ?_
 repeat refine sq ?_
 refine Mn (fun x:Nat×Nat×List wL=>upd H [0,1] (some (.arr 7 (x.2.2.map encS)))) (fun x=>[(5,⟨true,.v (vInt x.1)⟩),(6,⟨true,.v (vInt x.2.1)⟩)]) (fun x=>[]) (fun x=>x.1<x.2.1/\x.2.1<=l.length/\x.2.2.length=l.length/\x.2.2.take x.1=fA p (l.take x.2.1)/\x.2.2.drop x.2.1=l.drop x.2.1) (fun x=>l.length-x.2.1) (f,f+1,l) ?_ ?_ ?_ ?_ ?_
 ·refine⟨(show f<f+1 by omega),hf,rfl,?_,rfl⟩
  show l.take f=fA p (l.take (f+1))
  unfold fA
  rw[List.take_add_one,List.getElem?_eq_getElem hf,List.filter_append]
  simp only[Option.toList_some,List.filter_cons,UO,Bool.not_true,Bool.false_eq_true,if_false,List.filter_nil,List.append_nil]
  rw[List.filter_eq_self.2]
  intro d hd
  obtain⟨j,hj,rfl⟩:=List.getElem_of_mem hd
  have eB:j<f:=by simp at hj;omega
  rw[List.getElem_take,Ko j (by omega) eB]
  rfl
 ·congr 1
  rw[<-qk]
  funext x
  by_cases e:x=[0,1]
  ·subst e;rw[aS]
  ·rw[a8 _ _ _ e]
 ·rfl
 ·rfl
 clear Ko
 rintro⟨i,j,A⟩ ⟨bD,hj,hA,hT,hD⟩
 simp only at bD hj hA hT hD
 dsimp only
 generalize fZ:upd H [0,1] (some (O.arr 7 (List.map encS A)))=H'
 have h0:H' [0,1]=some (.arr 7 (A.map encS)):=by rw[<-fZ,aS]
 have wj:∀ i,H' [i+1,1]=H [i+1,1]:=fun i=>by rw[<-fZ,a8 _ _ _ (by simp)]
 have jb:∀ hs,cl [0] (bY [0] hs) H'=True:=fun hs=>by rw[<-fZ];exact aj _ _ _
 have kR:∀ hs sz L,cl [0] (bY [0] hs) (upd H' [0,1] (some (.arr sz L)))=True:=fun hs sz L=>by rw[<-fZ,sO];exact aj _ _ _
 have We:∀ hs sz L,cl [0] (bY [0] hs) (upd H' [0,1] (some (.farr sz L)))=True:=fun hs sz L=>by rw[<-fZ,sO];exact bf _ _ _
 simp only[go_sem]
 repeat refine sq ?_
 refine rx hΓ [0,1,5,6,19] [] (fun K' hK=>by simp only[go_sem,jb,kR,h0];(repeat (refine⟨ao,?_⟩));exact hK _ (by simp only[go_sem,jb,kR,h0]) (by simp only[go_sem,jb,kR,h0]<;>rfl)) ?_
 repeat refine sq ?_
 refine av (fun hb=>?_) fun hb=>?_
 ·have ab:j<l.length:=by simpa using hb
  have Cw:j<A.length:=by omega
  have vX:i<A.length:=by omega
  have Vj:(i:Int)<l.length:=by omega
  have an:(j:Int)<l.length:=by omega
  have C7:A[j]=l[j]:=by
   have h1:A[j]=(A.drop j)[0]'(by simp;omega):=by simp
   rw[h1]
   simp only[hD]
   simp
  clear hb
  repeat refine sq ?_
  refine ax ?_
  repeat refine sq ?_
  refine aH ?_
  repeat refine sq ?_
  refine rx hΓ [0,1,5,6,7] [[7,0]] (fun K' hK=>by simp only[go_sem,jb,kR,h0,ae Cw,ah,ai,an,hA,C7];(repeat (refine⟨ao,?_⟩));exact hK _ (by simp only[go_sem,jb,kR,h0,ae Cw,ah,ai,an,hA,C7]) (by simp only[go_sem,jb,kR,h0,ae Cw,ah,ai,an,hA,C7]<;>rfl)) ?_
  repeat refine sq ?_
  refine rx hΓ [0,1,5,6,7,29] [[7,0]] (fun K' hK=>by simp only[go_sem,jb,kR,h0,hg,hs,hp];(repeat (refine⟨ao,?_⟩));exact hK _ (by simp only[go_sem,jb,kR,h0,hg,hs,hp]) (by simp only[go_sem,jb,kR,h0,hg,hs,hp]<;>rfl)) ?_
  repeat refine sq ?_
  refine av (fun hb=>?_) fun hb=>?_
  ·have B8:p l[j]=false:=by simpa using hb
   clear hb
   repeat refine sq ?_
   refine zf hΓ [0,1,5,6] [] fun K' hK=>?_
   simp only[go_sem,jb,kR,h0,ah,ai,Vj,hA]
   repeat' apply And.intro
   all_goals first | rfl | omega | exact Int.le_refl _ | exact Bool.or_not_self _ | exact Bool.not_or_self _ | exact Dq _ | exact Dr _ | exact fun x hx=>(Dq _ x hx).1 | exact fun x hx=>(Dr _ x hx).1 | (simp only[List.length_take,List.length_append,List.length_map,List.length_drop,List.length_cons,List.length_nil];done) | (simp only[List.length_take,List.length_append,List.length_map,List.length_drop,List.length_cons,List.length_nil];omega) | (simp only[List.length_take,List.length_append,List.length_map,List.length_drop,List.length_cons,List.length_nil,maxLen];omega) | (exact fun _=>by decide) | (exact fun h=>⟨h,by decide⟩) | (simp only[decide_eq_true_eq];omega) | skip
   refine hK _ ?_ ?_
   ·simp only[go_sem,jb,kR]
   clear K' hK
   simp only[go_sem]
   obtain⟨H2,C3⟩:∃ H2,upd H' [0,1] (some (O.arr 7 ((List.map encS A).set i (encS l[j]))))=H2:=⟨_,rfl⟩
   have Lc:=C3
   simp only[encS]at Lc
   rw[Lc]
   have CY:∀ hs,cl [0] (bY [0] hs) H2=True:=fun hs=>by rw[<-C3];exact kR _ _ _
   repeat refine sq ?_
   refine aM hΓ fun K' hK=>?_
   simp only[go_sem]
   repeat (refine⟨ao,?_⟩)
   refine hK _ ?_
   clear K' hK
   simp only[go_sem]
   refine eJ [0,1,5,6] [] ?_ ?_
   ·simp only[go_sem,CY]
   simp only[go_sem,CY]
   repeat refine sq ?_
   refine aM hΓ fun K' hK=>?_
   simp only[go_sem]
   repeat (refine⟨ao,?_⟩)
   refine hK _ ?_
   clear K' hK
   simp only[go_sem]
   refine⟨(i+1,j+1,A.set i l[j]),⟨(show i+1<j+1 by omega),ab,by simpa using hA,?_,?_⟩,(show l.length-(j+1)<l.length-j by omega),?_⟩
   ·show (A.set i l[j]).take (i+1)=fA p (l.take (j+1))
    unfold fA at hT |-
    rw[List.take_add_one (l:=l),List.getElem?_eq_getElem ab,List.filter_append,<-hT]
    simp only[Option.toList_some,List.filter_cons,B8,Bool.not_false,if_true,List.filter_nil]
    rw[List.take_add_one,List.take_set_of_le (Nat.le_refl i),List.getElem?_set_self vX]
    rfl
   ·show (A.set i l[j]).drop (j+1)=l.drop (j+1)
    rw[List.drop_set_of_lt (show i<j+1 by omega)]
    have :=congrArg (List.drop 1) hD
    simpa[List.drop_drop]using this
   ·refine aY [0,1,5,6] [] ?_ ?_
    ·simp only[go_sem,CY]
    ·simp only[go_sem,aT ab hm,aT (show i<l.length by omega) hm,aU]
     rw[<-C3,<-fZ,sO,List.map_set]
     try rfl
  ·have UM:p l[j]=true:=by simpa using hb
   clear hb
   repeat refine sq ?_
   refine ax ?_
   refine bE ?_
   simp only[go_sem]
   refine eJ [0,1,5,6] [] ?_ ?_
   ·simp only[go_sem,jb]
   simp only[go_sem,jb]
   repeat refine sq ?_
   refine aM hΓ fun K' hK=>?_
   simp only[go_sem]
   repeat (refine⟨ao,?_⟩)
   refine hK _ ?_
   clear K' hK
   simp only[go_sem]
   refine⟨(i,j+1,A),⟨(show i<j+1 by omega),ab,hA,?_,?_⟩,(show l.length-(j+1)<l.length-j by omega),?_⟩
   ·show A.take i=fA p (l.take (j+1))
    unfold fA at hT |-
    rw[List.take_add_one (l:=l),List.getElem?_eq_getElem ab,List.filter_append,<-hT]
    simp only[Option.toList_some,List.filter_cons,UM,Bool.not_true,Bool.false_eq_true,if_false,List.filter_nil,List.append_nil]
   ·show A.drop (j+1)=l.drop (j+1)
    have :=congrArg (List.drop 1) hD
    simpa[List.drop_drop]using this
   ·refine aY [0,1,5,6] [] ?_ ?_
    ·simp only[go_sem,jb]
    ·simp only[go_sem,aT ab hm,aU]
     rw[<-fZ]
 ·have be:j=l.length:=by
    have :¬ (j:Int)<l.length:=by simpa using hb
    omega
  subst be
  clear hb
  rw[List.take_length]at hT
  have vX:i<A.length:=by omega
  repeat refine sq ?_
  refine bp ?_
  simp only[go_sem]
  refine eJ [0,5] [] ?_ ?_
  ·simp only[go_sem,jb]
  simp only[go_sem,jb]
  repeat refine sq ?_
  refine X8 hΓ [0,5] [] fun K' hK=>?_
  refine Gl ?_ (Gl ?_ (.cut (T:=29) (x:=.tmp 36) (lo:=.tmp 37) (c:=38) rfl rfl ?_ ?_ ?_ ?_ (.nil ?_)))
  ·simp only[go_sem]
  ·simp only[go_sem]
  ·simp only[go_sem]
  ·simp only[go_sem]
  ·simp only[go_sem]
  ·have VK:=fun (obj:Name->Option O) (h:obj [0,1]=_)=>DP (obj:=obj) (nm:=[0,1]) (k:=l.length) (i:=i) (L:=A.map encS) h (by simpa using hA.symm) (by simpa using vX)
   simp only[go_sem,mN,Ef,VK,h0]
  ·refine hK _ ?_ ?_
   ·simp only[go_sem,qt,mN,Ef,DP (obj:=fun nm=>if own [0] nm=true then none else H' nm) (nm:=[0,1]) (k:=l.length) (i:=i) (L:=A.map encS) h0 (by simpa using hA.symm) (by simpa using vX),kR]
   clear K' hK
   simp only[go_sem,qt,mN,Ef,DP (obj:=fun nm=>if own [0] nm=true then none else H' nm) (nm:=[0,1]) (k:=l.length) (i:=i) (L:=A.map encS) h0 (by simpa using hA.symm) (by simpa using vX)]
   have eA:(fA p l).length=i:=by rw[<-hT,List.length_take];omega
   have CV:(List.take i (List.map encS A)++List.replicate (A.length-i) (encS m6))=XX:=by
    rw[<-tX]
    unfold kU
    rw[eA,<-hT,List.map_take,hA]
   have hZ1:XX.length=l.length:=by rw[<-tX];unfold kU;simp;omega
   have V8:XX.take i=(fA p l).map encS:=by
    rw[<-tX]
    unfold kU
    rw[List.take_append_of_le_length (by simp;omega),List.take_of_length_le (by simp;omega)]
   have V7:∀ x∈XX,x.cells.length=7:=by
    intro x hx
    rw[<-tX]at hx
    rcases List.mem_append.1 hx with h | h
    ·obtain⟨y,_,rfl⟩:=List.mem_map.1 h;rfl
    ·rw[(List.mem_replicate.1 h).2];rfl
   simp only[encS]at CV
   rw[CV]
   clear CV
   clear tX
   generalize XX=Z at *
   simp only[V.cells]at V7
   generalize C2:upd H' [0,1] (some (O.arr 7 Z))=H3
   have WC:H3 [0,1]=some (.arr 7 Z):=by rw[<-C2,aS]
   have hI3:∀ i,H3 [i+1,1]=H [i+1,1]:=fun i=>by rw[<-C2,a8 _ _ _ (by simp)];exact wj i
   have Wd:∀ hs sz L,cl [0] (bY [0] hs) (upd H3 [0,1] (some (.farr sz L)))=True:=fun hs sz L=>by rw[<-C2,sO];exact We _ _ _
   have Vg:(i:Int)<=l.length:=by omega
   repeat refine sq ?_
   refine zf hΓ [4] [] fun K' hK=>?_
   simp only[go_sem,WC,Fe,ah,ai,Vg]
   repeat' apply And.intro
   all_goals first | rfl | omega | exact Int.le_refl _ | exact Bool.or_not_self _ | exact Bool.not_or_self _ | exact Dq _ | exact Dr _ | exact fun x hx=>(Dq _ x hx).1 | exact fun x hx=>(Dr _ x hx).1 | (simp only[List.length_take,List.length_append,List.length_map,List.length_drop,List.length_cons,List.length_nil];done) | (simp only[List.length_take,List.length_append,List.length_map,List.length_drop,List.length_cons,List.length_nil];omega) | (simp only[List.length_take,List.length_append,List.length_map,List.length_drop,List.length_cons,List.length_nil,maxLen];omega) | (exact fun _=>by decide) | (exact fun h=>⟨h,by decide⟩) | (simp only[decide_eq_true_eq];omega) | skip
   refine hK _ ?_ ?_
   ·simp only[go_sem,Wd]
   clear K' hK
   simp only[go_sem]
   refine au ?_
   simp only[go_sem,V8]
   exact .inr trivial
def delCS:CSpec where
 pre:=fun os ds=>∃ (l:List wL) (g:Nat×Int),os=[.arr 7 (l.map encS)]/\ds=[.msl [0,1] l.length,.clo (.func g.1) [] [.v (.ptr [vInt g.2])]]/\l.length<1000000/\oa g
 out:=fun os ds=>match os,ds with
  |[.arr _ L],[_,.clo (.func g) _ [.v (.ptr [.int _ k])]]=>⟨[(0,.farr 7 (kU encS (encS m6) (ew (g,k)) (L.map jI)))],[],.v (.sl ((fA (ew (g,k)) (L.map jI)).map encS))⟩
  |_,_=>⟨[],[],.any⟩
def sf(obj:Name->Option O)(_:Name):List D->R
 |[.msl nm k,.clo (.func g) [] [.v (.ptr [.int .i64 q])]]=>match obj nm with
  |some (.arr 7 L)=>⟨k=L.length/\L.length<1000000/\(L.map jI).map encS=L/\oa (g,q),.v (.sl ((fA (ew (g,q)) (L.map jI)).map encS)),upd obj nm (some (.farr 7 (kU encS (encS m6) (ew (g,q)) (L.map jI))))⟩
  |_=>.bad obj
 |_=>.bad obj
def yV(_:Name->Option O)(_:Name):List D->List Name
 | .msl nm _::_=>[nm]
 |_=>[]
def S91:Spec:=⟨sf,yV,yV⟩
attribute [go_sem] S91 sf
theorem Xc:S91.Near:=by
 refine vp fun obj obj2 t ds ha=>⟨rfl,?_⟩
 have gm:∀ wr,bQ wr obj obj2->bT (R.bad obj) (R.bad obj2) obj obj2 wr:=fun wr h=>.none wr h
 unfold sf
 split
 ·rename_i nm k g q
  have h1:obj2 nm=obj nm:=ha nm (by simp[yV])
  simp only[h1]
  split
  ·exact .one (by simp[yV]) ha
  ·exact gm _ ha
 ·exact gm _ ha
theorem TX:aR Tryz.prog 91 delCS.toSpec:=by
 refine oZ (nt:=42) (rs:=[.tmp 4]) Tryz.func91 rfl (by rfl) (by kernel_rfl) (iK Tryz.func91 rfl (by kernel_rfl)) (mh _ (by decide)) ?_
 rintro os ds ⟨l,g,rfl,rfl,hl,aa⟩
 refine⟨lb rfl,?_⟩
 have i5:delCS.out [.arr 7 (l.map encS)] [.msl [0,1] l.length,.clo (.func g.1) [] [.v (.ptr [vInt g.2])]]=⟨[(0,.farr 7 (kU encS (encS m6) (ew g) l))],[],.v (.sl ((fA (ew g) l).map encS))⟩:=by
  simp only[delCS,sg]
 rw[i5]
 have dH:∀ hs,cl [0] (bY [0] hs) (a7 [.arr 7 (l.map encS)])=True:=fun hs=>eq_true (pH (by
  intro o ho dom hd
  simp only[List.mem_singleton]at ho
  subst ho
  rfl) hs)
 obtain⟨c,hc,h⟩:=Oc aa (H:=a7 [.arr 7 (l.map encS)]) hl rfl dH (fun hs sz L=>eq_true (sF rfl (by rw[dH];trivial))) (fun hs sz L=>eq_true (sF rfl (by rw[dH];trivial)))
 have VT:∀ c2,Tryz.f91.body=some c2->c2=c:=fun c2 h2=>by rw[h2]at hc;exact Option.some.inj hc
 rw[<-VT _ rfl]at h
 refine CW.mono (jL h) ?_
 rintro e σ ⟨he,h1,h2,h3⟩
 have fin:(bW Tryz.prog σ [.tmp 4]).ok/\(bW Tryz.prog σ [.tmp 4]).d=.v (.sl ((fA (ew g) l).map encS))/\gv [.arr 7 (l.map encS)] ⟨[(0,.farr 7 (kU encS (encS m6) (ew g) l))],[],.v (.sl ((fA (ew g) l).map encS))⟩ σ:=
  ⟨h1,h2,⟨h3,trivial⟩,trivial,rfl⟩
 rcases he with rfl | rfl
 ·exact fin
 ·exact fin
theorem TY:aR Tryz.prog 91 S91:=by
 refine uY TX Xc (mh _ (by decide)) fun obj t ds aa=>?_
 change (sf obj t ds).ok at aa
 refine⟨ds,rfl,fun _ _ _ _ h=>h,?_⟩
 show _/\_=(sf obj t ds).d/\_=(sf obj t ds).obj
 unfold sf at aa |-
 split at aa
 ·rename_i nm k g q
  split at aa
  ·rename_i L ho
   obtain⟨rfl,hl,he,hg⟩:=aa
   have hr:reach obj [.msl nm L.length,.clo (.func g) [] [.v (.ptr [.int .i64 q])]]=[nm]:=by
    unfold reach
    show dJ obj (2998+1+1) [nm] []=[nm]
    simp only[dJ,cW,List.any_nil,Bool.false_eq_true,if_false,ho,mi,List.nil_append]
   have i0:idx [nm] nm=0:=by simp[idx]
   have e1:cJ obj [.msl nm L.length,.clo (.func g) [] [.v (.ptr [.int .i64 q])]]=[.arr 7 L]:=by
    unfold cJ
    rw[hr]
    simp only[List.map_cons,List.map_nil,cQ,ho,O.ren]
   have e2:db obj [.msl nm L.length,.clo (.func g) [] [.v (.ptr [.int .i64 q])]]=[.msl [0,1] L.length,.clo (.func g) [] [.v (.ptr [.int .i64 q])]]:=by
    unfold db
    rw[hr]
    simp only[D.renL,D.ren,cin,i0]
   have e3:(shut obj [nm]&&D.closL (cW [nm]) [.msl nm L.length,.clo (.func g) [] [.v (.ptr [.int .i64 q])]]&&fresh obj t [])=true:=by
    simp[shut,ho,O.clos,D.closL,D.clos,cW,fresh]
   have dZ:delCS.pre [.arr 7 L] [.msl [0,1] L.length,.clo (.func g) [] [.v (.ptr [.int .i64 q])]]:=⟨L.map jI,(g,q),by rw[he],by rw[List.length_map],by rw[List.length_map];exact hl,hg⟩
   have i5:delCS.out [.arr 7 L] [.msl [0,1] L.length,.clo (.func g) [] [.v (.ptr [.int .i64 q])]]=⟨[(0,.farr 7 (kU encS (encS m6) (ew (g,q)) (L.map jI)))],[],.v (.sl ((fA (ew (g,q)) (L.map jI)).map encS))⟩:=rfl
   simp only[CSpec.toSpec,e1,e2,hr,i5,e3,dZ,ho,and_self,du]
   exact⟨trivial,rfl,rfl⟩
  ·exact aa.elim
 ·exact aa.elim
end
set_option maxHeartbeats 8000000
noncomputable section
theorem BG(l:List Sig)(k:Int):fA (ew (186,k)) l=l.filter fun s=>bJ s.kn s.un k:=by
 unfold fA ew
 simp
theorem A6(k:Int):oa (186,k):=.inr rfl
def K26:List (Nat×Spec):=[(132,S132),(91,S91)]
theorem aaW:KS K26:=tc JK<|tc TY<|tn
attribute [go_sem] K26
def Nj:VSpec:=v1 iI (fun x _=>x.l.ss.length<=60) (fun x k=>.v (.sl ((aX x.l k).map encS))) none
def S122:Spec:=Nj.toSpec
attribute [go_sem] Nj S122
theorem BL:aR Tryz.prog 122 S122:=by
 refine wZ (rs:=[.tmp 4]) Tryz.func122 Tryz.ntmps122 (by rfl) (by kernel_rfl) (by decide) (fun _ _=>by first | rfl | simp[D.clos,D.closL,ma]) ⟨_,rfl,lb rfl,fun x k hp H h0 h1 h2 hO aj=>?_⟩
 simp only[iI,bu,dC,List.map_cons,List.map_nil,Nat.zero_add,Option.map_some,Option.map_none]at h0 |-
 have hΓ:=aaW
 repeat refine sq ?_
 refine rx hΓ [0,3] [[3,0]] (fun K' hK=>by simp only[go_sem,hO,aj,h0,h1,h2];(repeat (refine⟨ao,?_⟩));exact hK _ (by simp only[go_sem,hO,aj,h0,h1,h2]) (by simp only[go_sem,hO,aj,h0,h1,h2]<;>rfl)) ?_
 refine dp (gy 3 (.ref [3,0] 0) (by simp only[go_sem]) (by simp only[go_sem]) [0,3] [[3,0]] ?_ rfl) ?_
 ·simp only[go_sem,hO,aj,h0,h1,h2]
 simp only[go_sem,hO,aj,h0,h1,h2]
 repeat refine sq ?_
 refine rx hΓ [4] [] (fun K' hK=>by simp only[go_sem,hO,aj,h0,h1,h2,sg,BG,A6,List.length_map];(repeat (refine⟨ao,?_⟩));exact hK _ (by simp only[go_sem,hO,aj,h0,h1,h2,sg,BG,A6,List.length_map]) (by simp only[go_sem,hO,aj,h0,h1,h2,sg,BG,A6,List.length_map]<;>rfl)) ?_
 refine au ?_
 simp only[go_sem,hO,aj,h0,h1,h2]
 all_goals exact c9
def GA(r:Rg):D:=.agg [.v (vInt r.lo),.v (vInt r.hi)]
attribute [go_sem] GA
def K26b:List (Nat×Spec):=[(119,S119)]
theorem aaV:KS K26b:=tc T8<|tn
attribute [go_sem] K26b
def pz(s:Sig):Prop:=0<=s.da/\s.da<=100000
theorem bd:mb none=.agg [.v (vInt 0),.v (vInt 0),.v (vInt 0),.nilsl,.v (vInt 0),.v (vInt 0),.v (vInt 0)]:=rfl
theorem aW(r:Rec):mb (some r)=gh r:=rfl
def Nf:VSpec:=v1 iS (fun x s=>(nP x/\x.rs.Nodup)/\pz s) (fun x s=>.tup [.v (vInt (bF x s).1),GA (bF x s).2]) none
def S187:Spec:=Nf.toSpec
attribute [go_sem] Nf S187
theorem T4:aR Tryz.prog 187 S187:=by
 refine wZ (rs:=[.tmp 4,.cell 5 38]) Tryz.func187 Tryz.ntmps187 (by rfl) (by kernel_rfl) (by decide) (fun _ _=>by first | rfl | exact adY _ _ | simp[D.clos,D.closL,ma]) ⟨_,rfl,lb rfl,fun x s hp H h0 h1 h2 hO aj=>?_⟩
 have hP:=dL
 simp only[iS,encS,bu,dC,List.map_cons,List.map_nil,Nat.zero_add,Option.map_some,Option.map_none]at h0 |-
 have hΓ:=aaV
 obtain⟨hv,hd⟩:=hp
 have ix:=uL hd
 repeat refine sq ?_
 refine rx hΓ [0,3,5] [[3,0],[5,0]] (fun K' hK=>by simp only[go_sem,hO,aj,h0,h1,h2];(repeat (refine⟨ao,?_⟩));exact hK _ (by simp only[go_sem,hO,aj,h0,h1,h2]) (by simp only[go_sem,hO,aj,h0,h1,h2]<;>rfl)) ?_
 repeat refine sq ?_
 refine rx hΓ [0,3,5,6,7] [[3,0],[5,0],[6,0],[7,0]] (fun K' hK=>by simp only[go_sem,hO,aj,h0,h1,h2];(repeat (refine⟨ao,?_⟩));exact hK _ (by simp only[go_sem,hO,aj,h0,h1,h2]) (by simp only[go_sem,hO,aj,h0,h1,h2]<;>rfl)) ?_
 rcases aC:hG x.rs s.pa s.le s.da with _ | r
 ·repeat refine sq ?_
  refine rx hΓ [0,3,5,6,7,8,9] [[3,0],[5,0],[6,0],[7,0],[8,0]] (fun K' hK=>by simp only[go_sem,hO,aj,h0,h1,h2,aC,bd,Option.isSome_none,aG];(repeat (refine⟨ao,?_⟩));exact hK _ (by simp only[go_sem,hO,aj,h0,h1,h2,aC,bd,Option.isSome_none,aG]) (by simp only[go_sem,hO,aj,h0,h1,h2,aC,bd,Option.isSome_none,aG]<;>rfl)) ?_
  repeat refine sq ?_
  refine dx hΓ hP [[],[0],[0,1],[0,1,2],[],[4],[],[6],[4,5,6,7],u9,bO,cK,cK,eU,jP] [3,5,6,7,8,9,10,11] [[3,0],[5,0],[6,0],[7,0],[8,0]] (by kernel_rfl) (fun K' hK=>by simp only[go_sem,hO,aj,h0,h1,h2,aC,bd,Option.isSome_none,aG];(repeat (refine⟨ao,?_⟩));(first | refine⟨by rfl,?_⟩ | skip);exact hK _ (by simp only[go_sem,hO,aj,h0,h1,h2,aC,bd,Option.isSome_none,aG]) (by simp only[go_sem,hO,aj,h0,h1,h2,aC,bd,Option.isSome_none,aG]<;>rfl)) ?_
  repeat refine sq ?_
  refine aH ?_
  repeat refine sq ?_
  refine rx hΓ [3,5,6,7,8,9,10,11,39] [[3,0],[5,0],[6,0],[7,0],[8,0]] (fun K' hK=>by simp only[go_sem,hO,aj,h0,h1,h2,aC,bd,Option.isSome_none,aG];(repeat (refine⟨ao,?_⟩));exact hK _ (by simp only[go_sem,hO,aj,h0,h1,h2,aC,bd,Option.isSome_none,aG]) (by simp only[go_sem,hO,aj,h0,h1,h2,aC,bd,Option.isSome_none,aG]<;>rfl)) ?_
  repeat refine sq ?_
  refine av (fun hb=>?_) fun hb=>?_
  ·repeat refine sq ?_
   refine ax ?_
   repeat refine sq ?_
   refine av (fun hb=>?_) fun hb=>?_
   ·repeat refine sq ?_
    refine dx hΓ hP [[],[],[0,1]] [4,5] [[5,0]] (by kernel_rfl) (fun K' hK=>by simp only[go_sem,hO,aj,h0,h1,h2,aC,bd,Option.isSome_none,aG];(repeat (refine⟨ao,?_⟩));(first | refine⟨by rfl,?_⟩ | skip);exact hK _ (by simp only[go_sem,hO,aj,h0,h1,h2,aC,bd,Option.isSome_none,aG]) (by simp only[go_sem,hO,aj,h0,h1,h2,aC,bd,Option.isSome_none,aG]<;>rfl)) ?_
    refine au ?_
    simp only[go_sem,hO,aj,h0,h1,h2]
    first | (unfold bF;simp only[aC];simp_all[cA,cm];done) | (unfold bF;simp only[aC];rcases bR:bK x.bk (r.so,s.le)with _ | j<;>simp_all[cA,cm];done)
   ·repeat refine sq ?_
    refine rx hΓ [3,5,7,8,10,60] [[3,0],[5,0],[7,0],[8,0]] (fun K' hK=>by simp only[go_sem,hO,aj,h0,h1,h2,aC,bd,Option.isSome_none,aG];(repeat (refine⟨ao,?_⟩));exact hK _ (by simp only[go_sem,hO,aj,h0,h1,h2,aC,bd,Option.isSome_none,aG]) (by simp only[go_sem,hO,aj,h0,h1,h2,aC,bd,Option.isSome_none,aG]<;>rfl)) ?_
    repeat refine sq ?_
    refine av (fun hb=>?_) fun hb=>?_
    ·repeat refine sq ?_
     refine dx hΓ hP [[],[],[0,1]] [4,5] [[5,0]] (by kernel_rfl) (fun K' hK=>by simp only[go_sem,hO,aj,h0,h1,h2,aC,bd,Option.isSome_none,aG];(repeat (refine⟨ao,?_⟩));(first | refine⟨by rfl,?_⟩ | skip);exact hK _ (by simp only[go_sem,hO,aj,h0,h1,h2,aC,bd,Option.isSome_none,aG]) (by simp only[go_sem,hO,aj,h0,h1,h2,aC,bd,Option.isSome_none,aG]<;>rfl)) ?_
     refine au ?_
     simp only[go_sem,hO,aj,h0,h1,h2]
     first | (unfold bF;simp only[aC];simp_all[cA,cm];done) | (unfold bF;simp only[aC];rcases bR:bK x.bk (r.so,s.le)with _ | j<;>simp_all[cA,cm];done)
    ·repeat refine sq ?_
     refine rx hΓ [3,5,7,8,10,68] [[3,0],[5,0],[7,0],[8,0]] (fun K' hK=>by simp only[go_sem,hO,aj,h0,h1,h2,aC,bd,Option.isSome_none,aG];(repeat (refine⟨ao,?_⟩));exact hK _ (by simp only[go_sem,hO,aj,h0,h1,h2,aC,bd,Option.isSome_none,aG]) (by simp only[go_sem,hO,aj,h0,h1,h2,aC,bd,Option.isSome_none,aG]<;>rfl)) ?_
     repeat refine sq ?_
     refine av (fun hb=>?_) fun hb=>?_
     ·repeat refine sq ?_
      refine dx hΓ hP [[],[],[1],[1,2],[0],u5] [4,5] [[5,0]] (by kernel_rfl) (fun K' hK=>by simp only[go_sem,hO,aj,h0,h1,h2,aC,bd,Option.isSome_none,aG];(repeat (refine⟨ao,?_⟩));(first | refine⟨by rfl,?_⟩ | skip);exact hK _ (by simp only[go_sem,hO,aj,h0,h1,h2,aC,bd,Option.isSome_none,aG]) (by simp only[go_sem,hO,aj,h0,h1,h2,aC,bd,Option.isSome_none,aG]<;>rfl)) ?_
      refine au ?_
      simp only[go_sem,hO,aj,h0,h1,h2]
      first | (unfold bF;simp only[aC];simp_all[cA,cm];done) | (unfold bF;simp only[aC];rcases bR:bK x.bk (r.so,s.le)with _ | j<;>simp_all[cA,cm];done)
     ·repeat refine sq ?_
      refine rx hΓ [3,5,7,10,76] [[3,0],[5,0],[7,0]] (fun K' hK=>by simp only[go_sem,hO,aj,h0,h1,h2,aC,bd,Option.isSome_none,aG];(repeat (refine⟨ao,?_⟩));exact hK _ (by simp only[go_sem,hO,aj,h0,h1,h2,aC,bd,Option.isSome_none,aG]) (by simp only[go_sem,hO,aj,h0,h1,h2,aC,bd,Option.isSome_none,aG]<;>rfl)) ?_
      repeat refine sq ?_
      refine av (fun hb=>?_) fun hb=>?_
      ·repeat refine sq ?_
       refine dx hΓ hP [[],[],[1],[1,2],[1,2,3],[0],u6] [4,5] [[5,0]] (by kernel_rfl) (fun K' hK=>by simp only[go_sem,hO,aj,h0,h1,h2,aC,bd,Option.isSome_none,aG];(repeat (refine⟨ao,?_⟩));(first | refine⟨by rfl,?_⟩ | skip);exact hK _ (by simp only[go_sem,hO,aj,h0,h1,h2,aC,bd,Option.isSome_none,aG]) (by simp only[go_sem,hO,aj,h0,h1,h2,aC,bd,Option.isSome_none,aG]<;>rfl)) ?_
       refine au ?_
       simp only[go_sem,hO,aj,h0,h1,h2]
       first | (unfold bF;simp only[aC];simp_all[cA,cm];done) | (unfold bF;simp only[aC];rcases bR:bK x.bk (r.so,s.le)with _ | j<;>simp_all[cA,cm];done)
      ·repeat refine sq ?_
       refine ax ?_
       refine bE ?_
       simp only[go_sem]
       refine eJ [5,7] [[5,0],[7,0]] ?_ ?_
       ·simp only[go_sem,hO,aj,h0,h1,h2]
       simp only[go_sem,hO,aj,h0,h1,h2]
       repeat refine sq ?_
       refine dx hΓ hP [[],[],[0,1]] [4,5] [[5,0]] (by kernel_rfl) (fun K' hK=>by simp only[go_sem,hO,aj,h0,h1,h2,aC,bd,Option.isSome_none,aG];(repeat (refine⟨ao,?_⟩));(first | refine⟨by rfl,?_⟩ | skip);exact hK _ (by simp only[go_sem,hO,aj,h0,h1,h2,aC,bd,Option.isSome_none,aG]) (by simp only[go_sem,hO,aj,h0,h1,h2,aC,bd,Option.isSome_none,aG]<;>rfl)) ?_
       refine au ?_
       simp only[go_sem,hO,aj,h0,h1,h2]
       first | (unfold bF;simp only[aC];simp_all[cA,cm];done) | (unfold bF;simp only[aC];rcases bR:bK x.bk (r.so,s.le)with _ | j<;>simp_all[cA,cm];done)
  ·repeat refine sq ?_
   refine rx hΓ [3,5,6,7,8,9,10,11,39] [[3,0],[5,0],[6,0],[7,0],[8,0]] (fun K' hK=>by simp only[go_sem,hO,aj,h0,h1,h2,aC,bd,Option.isSome_none,aG];(repeat (refine⟨ao,?_⟩));exact hK _ (by simp only[go_sem,hO,aj,h0,h1,h2,aC,bd,Option.isSome_none,aG]) (by simp only[go_sem,hO,aj,h0,h1,h2,aC,bd,Option.isSome_none,aG]<;>rfl)) ?_
   repeat refine sq ?_
   refine av (fun hb=>?_) fun hb=>?_
   ·repeat refine sq ?_
    refine dx hΓ hP [[],[],[0,1]] [4,5] [[5,0]] (by kernel_rfl) (fun K' hK=>by simp only[go_sem,hO,aj,h0,h1,h2,aC,bd,Option.isSome_none,aG];(repeat (refine⟨ao,?_⟩));(first | refine⟨by rfl,?_⟩ | skip);exact hK _ (by simp only[go_sem,hO,aj,h0,h1,h2,aC,bd,Option.isSome_none,aG]) (by simp only[go_sem,hO,aj,h0,h1,h2,aC,bd,Option.isSome_none,aG]<;>rfl)) ?_
    refine au ?_
    simp only[go_sem,hO,aj,h0,h1,h2]
    first | (unfold bF;simp only[aC];simp_all[cA,cm];done) | (unfold bF;simp only[aC];rcases bR:bK x.bk (r.so,s.le)with _ | j<;>simp_all[cA,cm];done)
   ·repeat refine sq ?_
    refine rx hΓ [3,5,7,8,10,60] [[3,0],[5,0],[7,0],[8,0]] (fun K' hK=>by simp only[go_sem,hO,aj,h0,h1,h2,aC,bd,Option.isSome_none,aG];(repeat (refine⟨ao,?_⟩));exact hK _ (by simp only[go_sem,hO,aj,h0,h1,h2,aC,bd,Option.isSome_none,aG]) (by simp only[go_sem,hO,aj,h0,h1,h2,aC,bd,Option.isSome_none,aG]<;>rfl)) ?_
    repeat refine sq ?_
    refine av (fun hb=>?_) fun hb=>?_
    ·repeat refine sq ?_
     refine dx hΓ hP [[],[],[0,1]] [4,5] [[5,0]] (by kernel_rfl) (fun K' hK=>by simp only[go_sem,hO,aj,h0,h1,h2,aC,bd,Option.isSome_none,aG];(repeat (refine⟨ao,?_⟩));(first | refine⟨by rfl,?_⟩ | skip);exact hK _ (by simp only[go_sem,hO,aj,h0,h1,h2,aC,bd,Option.isSome_none,aG]) (by simp only[go_sem,hO,aj,h0,h1,h2,aC,bd,Option.isSome_none,aG]<;>rfl)) ?_
     refine au ?_
     simp only[go_sem,hO,aj,h0,h1,h2]
     first | (unfold bF;simp only[aC];simp_all[cA,cm];done) | (unfold bF;simp only[aC];rcases bR:bK x.bk (r.so,s.le)with _ | j<;>simp_all[cA,cm];done)
    ·repeat refine sq ?_
     refine rx hΓ [3,5,7,8,10,68] [[3,0],[5,0],[7,0],[8,0]] (fun K' hK=>by simp only[go_sem,hO,aj,h0,h1,h2,aC,bd,Option.isSome_none,aG];(repeat (refine⟨ao,?_⟩));exact hK _ (by simp only[go_sem,hO,aj,h0,h1,h2,aC,bd,Option.isSome_none,aG]) (by simp only[go_sem,hO,aj,h0,h1,h2,aC,bd,Option.isSome_none,aG]<;>rfl)) ?_
     repeat refine sq ?_
     refine av (fun hb=>?_) fun hb=>?_
     ·repeat refine sq ?_
      refine dx hΓ hP [[],[],[1],[1,2],[0],u5] [4,5] [[5,0]] (by kernel_rfl) (fun K' hK=>by simp only[go_sem,hO,aj,h0,h1,h2,aC,bd,Option.isSome_none,aG];(repeat (refine⟨ao,?_⟩));(first | refine⟨by rfl,?_⟩ | skip);exact hK _ (by simp only[go_sem,hO,aj,h0,h1,h2,aC,bd,Option.isSome_none,aG]) (by simp only[go_sem,hO,aj,h0,h1,h2,aC,bd,Option.isSome_none,aG]<;>rfl)) ?_
      refine au ?_
      simp only[go_sem,hO,aj,h0,h1,h2]
      first | (unfold bF;simp only[aC];simp_all[cA,cm];done) | (unfold bF;simp only[aC];rcases bR:bK x.bk (r.so,s.le)with _ | j<;>simp_all[cA,cm];done)
     ·repeat refine sq ?_
      refine rx hΓ [3,5,7,10,76] [[3,0],[5,0],[7,0]] (fun K' hK=>by simp only[go_sem,hO,aj,h0,h1,h2,aC,bd,Option.isSome_none,aG];(repeat (refine⟨ao,?_⟩));exact hK _ (by simp only[go_sem,hO,aj,h0,h1,h2,aC,bd,Option.isSome_none,aG]) (by simp only[go_sem,hO,aj,h0,h1,h2,aC,bd,Option.isSome_none,aG]<;>rfl)) ?_
      repeat refine sq ?_
      refine av (fun hb=>?_) fun hb=>?_
      ·repeat refine sq ?_
       refine dx hΓ hP [[],[],[1],[1,2],[1,2,3],[0],u6] [4,5] [[5,0]] (by kernel_rfl) (fun K' hK=>by simp only[go_sem,hO,aj,h0,h1,h2,aC,bd,Option.isSome_none,aG];(repeat (refine⟨ao,?_⟩));(first | refine⟨by rfl,?_⟩ | skip);exact hK _ (by simp only[go_sem,hO,aj,h0,h1,h2,aC,bd,Option.isSome_none,aG]) (by simp only[go_sem,hO,aj,h0,h1,h2,aC,bd,Option.isSome_none,aG]<;>rfl)) ?_
       refine au ?_
       simp only[go_sem,hO,aj,h0,h1,h2]
       first | (unfold bF;simp only[aC];simp_all[cA,cm];done) | (unfold bF;simp only[aC];rcases bR:bK x.bk (r.so,s.le)with _ | j<;>simp_all[cA,cm];done)
      ·repeat refine sq ?_
       refine ax ?_
       refine bE ?_
       simp only[go_sem]
       refine eJ [5,7] [[5,0],[7,0]] ?_ ?_
       ·simp only[go_sem,hO,aj,h0,h1,h2]
       simp only[go_sem,hO,aj,h0,h1,h2]
       repeat refine sq ?_
       refine dx hΓ hP [[],[],[0,1]] [4,5] [[5,0]] (by kernel_rfl) (fun K' hK=>by simp only[go_sem,hO,aj,h0,h1,h2,aC,bd,Option.isSome_none,aG];(repeat (refine⟨ao,?_⟩));(first | refine⟨by rfl,?_⟩ | skip);exact hK _ (by simp only[go_sem,hO,aj,h0,h1,h2,aC,bd,Option.isSome_none,aG]) (by simp only[go_sem,hO,aj,h0,h1,h2,aC,bd,Option.isSome_none,aG]<;>rfl)) ?_
       refine au ?_
       simp only[go_sem,hO,aj,h0,h1,h2]
       first | (unfold bF;simp only[aC];simp_all[cA,cm];done) | (unfold bF;simp only[aC];rcases bR:bK x.bk (r.so,s.le)with _ | j<;>simp_all[cA,cm];done)
 ·repeat refine sq ?_
  refine rx hΓ [0,3,5,6,7,8,9] [[3,0],[5,0],[6,0],[7,0],[8,0]] (fun K' hK=>by simp only[go_sem,hO,aj,h0,h1,h2,aC,aW,Option.isSome_some,aG];(repeat (refine⟨ao,?_⟩));exact hK _ (by simp only[go_sem,hO,aj,h0,h1,h2,aC,aW,Option.isSome_some,aG]) (by simp only[go_sem,hO,aj,h0,h1,h2,aC,aW,Option.isSome_some,aG]<;>rfl)) ?_
  repeat refine sq ?_
  refine dx hΓ hP [[],[0],[0,1],[0,1,2],[],[4],[],[6],[4,5,6,7],u9,bO,cK,cK,eU,jP] [3,5,6,7,8,9,10,11] [[3,0],[5,0],[6,0],[7,0],[8,0]] (by kernel_rfl) (fun K' hK=>by simp only[go_sem,hO,aj,h0,h1,h2,aC,aW,Option.isSome_some,aG];(repeat (refine⟨ao,?_⟩));(first | refine⟨by rfl,?_⟩ | skip);exact hK _ (by simp only[go_sem,hO,aj,h0,h1,h2,aC,aW,Option.isSome_some,aG]) (by simp only[go_sem,hO,aj,h0,h1,h2,aC,aW,Option.isSome_some,aG]<;>rfl)) ?_
  repeat refine sq ?_
  refine aH ?_
  repeat refine sq ?_
  refine rx hΓ [3,5,6,7,8,9,10,11,39] [[3,0],[5,0],[6,0],[7,0],[8,0]] (fun K' hK=>by simp only[go_sem,hO,aj,h0,h1,h2,aC,aW,Option.isSome_some,aG];(repeat (refine⟨ao,?_⟩));exact hK _ (by simp only[go_sem,hO,aj,h0,h1,h2,aC,aW,Option.isSome_some,aG]) (by simp only[go_sem,hO,aj,h0,h1,h2,aC,aW,Option.isSome_some,aG]<;>rfl)) ?_
  repeat refine sq ?_
  refine av (fun hb=>?_) fun hb=>?_
  ·repeat refine sq ?_
   refine ax ?_
   repeat refine sq ?_
   refine av (fun hb=>?_) fun hb=>?_
   ·repeat refine sq ?_
    refine dx hΓ hP [[],[],[0,1]] [4,5] [[5,0]] (by kernel_rfl) (fun K' hK=>by simp only[go_sem,hO,aj,h0,h1,h2,aC,aW,Option.isSome_some,aG];(repeat (refine⟨ao,?_⟩));(first | refine⟨by rfl,?_⟩ | skip);exact hK _ (by simp only[go_sem,hO,aj,h0,h1,h2,aC,aW,Option.isSome_some,aG]) (by simp only[go_sem,hO,aj,h0,h1,h2,aC,aW,Option.isSome_some,aG]<;>rfl)) ?_
    refine au ?_
    simp only[go_sem,hO,aj,h0,h1,h2]
    first | (unfold bF;simp only[aC];simp_all[cA,cm];done) | (unfold bF;simp only[aC];rcases bR:bK x.bk (r.so,s.le)with _ | j<;>simp_all[cA,cm];done)
   ·repeat refine sq ?_
    refine rx hΓ [3,5,7,8,10,60] [[3,0],[5,0],[7,0],[8,0]] (fun K' hK=>by simp only[go_sem,hO,aj,h0,h1,h2,aC,aW,Option.isSome_some,aG];(repeat (refine⟨ao,?_⟩));exact hK _ (by simp only[go_sem,hO,aj,h0,h1,h2,aC,aW,Option.isSome_some,aG]) (by simp only[go_sem,hO,aj,h0,h1,h2,aC,aW,Option.isSome_some,aG]<;>rfl)) ?_
    repeat refine sq ?_
    refine av (fun hb=>?_) fun hb=>?_
    ·repeat refine sq ?_
     refine dx hΓ hP [[],[],[0,1]] [4,5] [[5,0]] (by kernel_rfl) (fun K' hK=>by simp only[go_sem,hO,aj,h0,h1,h2,aC,aW,Option.isSome_some,aG];(repeat (refine⟨ao,?_⟩));(first | refine⟨by rfl,?_⟩ | skip);exact hK _ (by simp only[go_sem,hO,aj,h0,h1,h2,aC,aW,Option.isSome_some,aG]) (by simp only[go_sem,hO,aj,h0,h1,h2,aC,aW,Option.isSome_some,aG]<;>rfl)) ?_
     refine au ?_
     simp only[go_sem,hO,aj,h0,h1,h2]
     first | (unfold bF;simp only[aC];simp_all[cA,cm];done) | (unfold bF;simp only[aC];rcases bR:bK x.bk (r.so,s.le)with _ | j<;>simp_all[cA,cm];done)
    ·repeat refine sq ?_
     refine rx hΓ [3,5,7,8,10,68] [[3,0],[5,0],[7,0],[8,0]] (fun K' hK=>by simp only[go_sem,hO,aj,h0,h1,h2,aC,aW,Option.isSome_some,aG];(repeat (refine⟨ao,?_⟩));exact hK _ (by simp only[go_sem,hO,aj,h0,h1,h2,aC,aW,Option.isSome_some,aG]) (by simp only[go_sem,hO,aj,h0,h1,h2,aC,aW,Option.isSome_some,aG]<;>rfl)) ?_
     repeat refine sq ?_
     refine av (fun hb=>?_) fun hb=>?_
     ·repeat refine sq ?_
      refine dx hΓ hP [[],[],[1],[1,2],[0],u5] [4,5] [[5,0]] (by kernel_rfl) (fun K' hK=>by simp only[go_sem,hO,aj,h0,h1,h2,aC,aW,Option.isSome_some,aG];(repeat (refine⟨ao,?_⟩));(first | refine⟨by rfl,?_⟩ | skip);exact hK _ (by simp only[go_sem,hO,aj,h0,h1,h2,aC,aW,Option.isSome_some,aG]) (by simp only[go_sem,hO,aj,h0,h1,h2,aC,aW,Option.isSome_some,aG]<;>rfl)) ?_
      refine au ?_
      simp only[go_sem,hO,aj,h0,h1,h2]
      first | (unfold bF;simp only[aC];simp_all[cA,cm];done) | (unfold bF;simp only[aC];rcases bR:bK x.bk (r.so,s.le)with _ | j<;>simp_all[cA,cm];done)
     ·repeat refine sq ?_
      refine rx hΓ [3,5,7,10,76] [[3,0],[5,0],[7,0]] (fun K' hK=>by simp only[go_sem,hO,aj,h0,h1,h2,aC,aW,Option.isSome_some,aG];(repeat (refine⟨ao,?_⟩));exact hK _ (by simp only[go_sem,hO,aj,h0,h1,h2,aC,aW,Option.isSome_some,aG]) (by simp only[go_sem,hO,aj,h0,h1,h2,aC,aW,Option.isSome_some,aG]<;>rfl)) ?_
      repeat refine sq ?_
      refine av (fun hb=>?_) fun hb=>?_
      ·repeat refine sq ?_
       refine dx hΓ hP [[],[],[1],[1,2],[1,2,3],[0],u6] [4,5] [[5,0]] (by kernel_rfl) (fun K' hK=>by simp only[go_sem,hO,aj,h0,h1,h2,aC,aW,Option.isSome_some,aG];(repeat (refine⟨ao,?_⟩));(first | refine⟨by rfl,?_⟩ | skip);exact hK _ (by simp only[go_sem,hO,aj,h0,h1,h2,aC,aW,Option.isSome_some,aG]) (by simp only[go_sem,hO,aj,h0,h1,h2,aC,aW,Option.isSome_some,aG]<;>rfl)) ?_
       refine au ?_
       simp only[go_sem,hO,aj,h0,h1,h2]
       first | (unfold bF;simp only[aC];simp_all[cA,cm];done) | (unfold bF;simp only[aC];rcases bR:bK x.bk (r.so,s.le)with _ | j<;>simp_all[cA,cm];done)
      ·repeat refine sq ?_
       refine ax ?_
       refine bE ?_
       simp only[go_sem]
       refine eJ [5,7] [[5,0],[7,0]] ?_ ?_
       ·simp only[go_sem,hO,aj,h0,h1,h2]
       simp only[go_sem,hO,aj,h0,h1,h2]
       repeat refine sq ?_
       refine dx hΓ hP [[],[],[0,1]] [4,5] [[5,0]] (by kernel_rfl) (fun K' hK=>by simp only[go_sem,hO,aj,h0,h1,h2,aC,aW,Option.isSome_some,aG];(repeat (refine⟨ao,?_⟩));(first | refine⟨by rfl,?_⟩ | skip);exact hK _ (by simp only[go_sem,hO,aj,h0,h1,h2,aC,aW,Option.isSome_some,aG]) (by simp only[go_sem,hO,aj,h0,h1,h2,aC,aW,Option.isSome_some,aG]<;>rfl)) ?_
       refine au ?_
       simp only[go_sem,hO,aj,h0,h1,h2]
       first | (unfold bF;simp only[aC];simp_all[cA,cm];done) | (unfold bF;simp only[aC];rcases bR:bK x.bk (r.so,s.le)with _ | j<;>simp_all[cA,cm];done)
  ·repeat refine sq ?_
   refine rx hΓ [3,5,6,7,8,9,10,11,39] [[3,0],[5,0],[6,0],[7,0],[8,0]] (fun K' hK=>by simp only[go_sem,hO,aj,h0,h1,h2,aC,aW,Option.isSome_some,aG];(repeat (refine⟨ao,?_⟩));exact hK _ (by simp only[go_sem,hO,aj,h0,h1,h2,aC,aW,Option.isSome_some,aG]) (by simp only[go_sem,hO,aj,h0,h1,h2,aC,aW,Option.isSome_some,aG]<;>rfl)) ?_
   repeat refine sq ?_
   refine av (fun hb=>?_) fun hb=>?_
   ·repeat refine sq ?_
    refine dx hΓ hP [[],[],[0,1]] [4,5] [[5,0]] (by kernel_rfl) (fun K' hK=>by simp only[go_sem,hO,aj,h0,h1,h2,aC,aW,Option.isSome_some,aG];(repeat (refine⟨ao,?_⟩));(first | refine⟨by rfl,?_⟩ | skip);exact hK _ (by simp only[go_sem,hO,aj,h0,h1,h2,aC,aW,Option.isSome_some,aG]) (by simp only[go_sem,hO,aj,h0,h1,h2,aC,aW,Option.isSome_some,aG]<;>rfl)) ?_
    refine au ?_
    simp only[go_sem,hO,aj,h0,h1,h2]
    first | (unfold bF;simp only[aC];simp_all[cA,cm];done) | (unfold bF;simp only[aC];rcases bR:bK x.bk (r.so,s.le)with _ | j<;>simp_all[cA,cm];done)
   ·repeat refine sq ?_
    refine rx hΓ [3,5,7,8,10,60] [[3,0],[5,0],[7,0],[8,0]] (fun K' hK=>by simp only[go_sem,hO,aj,h0,h1,h2,aC,aW,Option.isSome_some,aG];(repeat (refine⟨ao,?_⟩));exact hK _ (by simp only[go_sem,hO,aj,h0,h1,h2,aC,aW,Option.isSome_some,aG]) (by simp only[go_sem,hO,aj,h0,h1,h2,aC,aW,Option.isSome_some,aG]<;>rfl)) ?_
    repeat refine sq ?_
    refine av (fun hb=>?_) fun hb=>?_
    ·repeat refine sq ?_
     refine dx hΓ hP [[],[],[0,1]] [4,5] [[5,0]] (by kernel_rfl) (fun K' hK=>by simp only[go_sem,hO,aj,h0,h1,h2,aC,aW,Option.isSome_some,aG];(repeat (refine⟨ao,?_⟩));(first | refine⟨by rfl,?_⟩ | skip);exact hK _ (by simp only[go_sem,hO,aj,h0,h1,h2,aC,aW,Option.isSome_some,aG]) (by simp only[go_sem,hO,aj,h0,h1,h2,aC,aW,Option.isSome_some,aG]<;>rfl)) ?_
     refine au ?_
     simp only[go_sem,hO,aj,h0,h1,h2]
     first | (unfold bF;simp only[aC];simp_all[cA,cm];done) | (unfold bF;simp only[aC];rcases bR:bK x.bk (r.so,s.le)with _ | j<;>simp_all[cA,cm];done)
    ·repeat refine sq ?_
     refine rx hΓ [3,5,7,8,10,68] [[3,0],[5,0],[7,0],[8,0]] (fun K' hK=>by simp only[go_sem,hO,aj,h0,h1,h2,aC,aW,Option.isSome_some,aG];(repeat (refine⟨ao,?_⟩));exact hK _ (by simp only[go_sem,hO,aj,h0,h1,h2,aC,aW,Option.isSome_some,aG]) (by simp only[go_sem,hO,aj,h0,h1,h2,aC,aW,Option.isSome_some,aG]<;>rfl)) ?_
     repeat refine sq ?_
     refine av (fun hb=>?_) fun hb=>?_
     ·repeat refine sq ?_
      refine dx hΓ hP [[],[],[1],[1,2],[0],u5] [4,5] [[5,0]] (by kernel_rfl) (fun K' hK=>by simp only[go_sem,hO,aj,h0,h1,h2,aC,aW,Option.isSome_some,aG];(repeat (refine⟨ao,?_⟩));(first | refine⟨by rfl,?_⟩ | skip);exact hK _ (by simp only[go_sem,hO,aj,h0,h1,h2,aC,aW,Option.isSome_some,aG]) (by simp only[go_sem,hO,aj,h0,h1,h2,aC,aW,Option.isSome_some,aG]<;>rfl)) ?_
      refine au ?_
      simp only[go_sem,hO,aj,h0,h1,h2]
      first | (unfold bF;simp only[aC];simp_all[cA,cm];done) | (unfold bF;simp only[aC];rcases bR:bK x.bk (r.so,s.le)with _ | j<;>simp_all[cA,cm];done)
     ·repeat refine sq ?_
      refine rx hΓ [3,5,7,10,76] [[3,0],[5,0],[7,0]] (fun K' hK=>by simp only[go_sem,hO,aj,h0,h1,h2,aC,aW,Option.isSome_some,aG];(repeat (refine⟨ao,?_⟩));exact hK _ (by simp only[go_sem,hO,aj,h0,h1,h2,aC,aW,Option.isSome_some,aG]) (by simp only[go_sem,hO,aj,h0,h1,h2,aC,aW,Option.isSome_some,aG]<;>rfl)) ?_
      repeat refine sq ?_
      refine av (fun hb=>?_) fun hb=>?_
      ·repeat refine sq ?_
       refine dx hΓ hP [[],[],[1],[1,2],[1,2,3],[0],u6] [4,5] [[5,0]] (by kernel_rfl) (fun K' hK=>by simp only[go_sem,hO,aj,h0,h1,h2,aC,aW,Option.isSome_some,aG];(repeat (refine⟨ao,?_⟩));(first | refine⟨by rfl,?_⟩ | skip);exact hK _ (by simp only[go_sem,hO,aj,h0,h1,h2,aC,aW,Option.isSome_some,aG]) (by simp only[go_sem,hO,aj,h0,h1,h2,aC,aW,Option.isSome_some,aG]<;>rfl)) ?_
       refine au ?_
       simp only[go_sem,hO,aj,h0,h1,h2]
       first | (unfold bF;simp only[aC];simp_all[cA,cm];done) | (unfold bF;simp only[aC];rcases bR:bK x.bk (r.so,s.le)with _ | j<;>simp_all[cA,cm];done)
      ·repeat refine sq ?_
       refine ax ?_
       refine bE ?_
       simp only[go_sem]
       refine eJ [5,7] [[5,0],[7,0]] ?_ ?_
       ·simp only[go_sem,hO,aj,h0,h1,h2]
       simp only[go_sem,hO,aj,h0,h1,h2]
       repeat refine sq ?_
       refine dx hΓ hP [[],[],[0,1]] [4,5] [[5,0]] (by kernel_rfl) (fun K' hK=>by simp only[go_sem,hO,aj,h0,h1,h2,aC,aW,Option.isSome_some,aG];(repeat (refine⟨ao,?_⟩));(first | refine⟨by rfl,?_⟩ | skip);exact hK _ (by simp only[go_sem,hO,aj,h0,h1,h2,aC,aW,Option.isSome_some,aG]) (by simp only[go_sem,hO,aj,h0,h1,h2,aC,aW,Option.isSome_some,aG]<;>rfl)) ?_
       refine au ?_
       simp only[go_sem,hO,aj,h0,h1,h2]
       first | (unfold bF;simp only[aC];simp_all[cA,cm];done) | (unfold bF;simp only[aC];rcases bR:bK x.bk (r.so,s.le)with _ | j<;>simp_all[cA,cm];done)
end
noncomputable section
theorem wK{α:Type}{p:α->Bool}{l:List α}{i:Nat}(h:i<l.length):(l.take (i+1)).all p=((l.take i).all p&&p l[i]):=by
 rw[List.take_add_one,List.getElem?_eq_getElem h,List.all_append]
 simp
theorem Lr{x:Vw}{d:Ds}{l:List Sig}{i:Nat}(h:i<l.length):ft x d (l.take (i+1))=iE x (ft x d (l.take i)) l[i]:=by
 unfold ft
 rw[List.take_add_one,List.getElem?_eq_getElem h,List.foldl_append]
 rfl
theorem z7(x:Vw)(d:Ds)(s:Sig):bF ⟨x.l,x.rs,x.ts,x.bk,d⟩ s=bF x s:=rfl
theorem nP.ds{x:Vw}(h:nP x)(d:Ds):nP ⟨x.l,x.rs,x.ts,x.bk,d⟩:=⟨h.ok,h.bk,h.rs,h.rn,h.tn,h.ts⟩
theorem RH(x:Vw)(d:Ds)(i:Int)(r:Rg):Bf ⟨x.l,x.rs,x.ts,x.bk,d⟩ i r=jY d i r:=rfl
theorem ZZ{H H':Name->Option O}{LN:List (V×V)}(fZ:upd H [2,1] (some (.map 0 LN))=H')(aj:∀ hs es,cl [0] (bY [0] hs) (fun nm=>if nm=[2,1]then some (.map 0 es)else H nm)=True):
 (∀ hs,cl [0] (bY [0] hs) H'=True)/\∀ hs es,cl [0] (bY [0] hs) (fun nm=>if nm=[2,1]then some (.map 0 es)else H' nm)=True:=by
 refine⟨fun hs=>by rw[<-fZ];exact aj hs LN,fun hs es=>?_⟩
 have e:(fun nm=>if nm=[2,1]then some (.map 0 es)else H' nm)=fun nm=>if nm=[2,1]then some (.map 0 es)else H nm:=by
  funext nm
  rw[<-fZ]
  by_cases e:nm=[2,1]
  ·simp[e]
  ·simp[a8 _ _ _ e,e]
 rw[e];exact aj hs es
theorem Of{α β:Type}[DecidableEq α]{f:α->β}{a:α}{b:β}(h:f a=b):upd f a b=f:=by
 funext x
 by_cases e:x=a
 ·subst e;rw[aS,h]
 ·rw[a8 _ _ _ e]
def xk(d:Ds)(i:Int):Bool:=decide ((bA d i).1<=(bA d i).2)
def K27:List (Nat×Spec):=[(187,S187),(165,S165)]
theorem aaU:KS K27:=tc T4<|tc BJ<|tn
attribute [go_sem] K27
def Ni:VSpec:=v1 (eW iS) (fun x l=>((nP x/\x.rs.Nodup)/\l.length<=60)/\∀ s∈l,pz s) (fun x l=>.v (.bool (ei x l))) (some fun x l=>ft x x.ds l)
def S128:Spec:=Ni.toSpec
attribute [go_sem] Ni S128
set_option maxHeartbeats 8000000 in
theorem JM:aR Tryz.prog 128 S128:=by
 refine wZ (rs:=[.tmp 4]) Tryz.func128 Tryz.ntmps128 (by rfl) (by kernel_rfl) (by decide) (fun _ _=>by first | rfl | simp[D.clos,D.closL,ma]) ⟨_,rfl,lb rfl,fun x l hp H h0 h1 h2 hO aj=>?_⟩
 simp only[iS,eW,encS,bu,dC,List.map_cons,List.map_nil,Nat.zero_add,Option.map_some,Option.map_none]at h0 |-
 have hΓ:=aaU
 obtain⟨⟨⟨hv,cq⟩,qe⟩,vN⟩:=hp
 have tO:l.length<=maxLen:=by unfold maxLen;omega
 have gT:x.ts.length<=maxLen:=by have:=hv.tn;unfold maxLen;omega
 have bf:∀ hs es,cl [0] (bY [0] hs) (upd H [2,1] (some (.map 0 es)))=True:=aj
 repeat refine sq ?_
 refine rx hΓ [0,1] [] (fun K' hK=>by simp only[go_sem,hO,aj,bf,h0,h1,h2];(repeat (refine⟨ao,?_⟩));exact hK _ (by simp only[go_sem,hO,aj,bf,h0,h1,h2]) (by simp only[go_sem,hO,aj,bf,h0,h1,h2]<;>rfl)) ?_
 repeat refine sq ?_
 refine rx hΓ [0,1,5] [] (fun K' hK=>by simp only[go_sem,hO,aj,bf,h0,h1,h2];(repeat (refine⟨ao,?_⟩));exact hK _ (by simp only[go_sem,hO,aj,bf,h0,h1,h2]) (by simp only[go_sem,hO,aj,bf,h0,h1,h2]<;>rfl)) ?_
 repeat refine sq ?_
 refine rx hΓ [0,1,5,6] [] (fun K' hK=>by simp only[go_sem,hO,aj,bf,h0,h1,h2];(repeat (refine⟨ao,?_⟩));exact hK _ (by simp only[go_sem,hO,aj,bf,h0,h1,h2]) (by simp only[go_sem,hO,aj,bf,h0,h1,h2]<;>rfl)) ?_
 repeat refine sq ?_
 refine rx hΓ [0,5,6,16,17,18] [] (fun K' hK=>by simp only[go_sem,hO,aj,bf,h0,h1,h2];(repeat (refine⟨ao,?_⟩));exact hK _ (by simp only[go_sem,hO,aj,bf,h0,h1,h2]) (by simp only[go_sem,hO,aj,bf,h0,h1,h2]<;>rfl)) ?_
 repeat refine sq ?_
 refine aH ?_
 repeat refine sq ?_
 refine Mn (fun s:Nat=>upd H [2,1] (some (.map 0 (bI (ft x x.ds (l.take s)))))) (fun s:Nat=>[(18,⟨true,.v (vInt s)⟩),(5,⟨true,.v (.bool ((l.take s).all (eV x)))⟩)]) (fun s=>[]) (fun s=>s<=l.length) (fun s=>l.length-s) 0 ?_ ?_ ?_ ?_ ?_
 ·exact Nat.zero_le _
 ·congr 1;exact Of h2
 ·rfl
 ·rfl
 rintro i hi
 generalize fZ:upd H [2,1] (some (.map 0 (bI (ft x x.ds (l.take i)))))=H'
 have h0:=(show H' [0,1]=H [0,1]by rw[<-fZ,a8 _ _ _ (by decide)]).trans h0
 have h1:=(show H' [1,1]=H [1,1]by rw[<-fZ,a8 _ _ _ (by decide)]).trans h1
 have h2:H' [2,1]=some (.map 0 (bI (ft x x.ds (l.take i)))):=by rw[<-fZ,aS]
 obtain⟨hO,aj⟩:=ZZ fZ aj
 have bf:∀ hs es,cl [0] (bY [0] hs) (upd H' [2,1] (some (.map 0 es)))=True:=aj
 simp only[go_sem]
 repeat refine sq ?_
 refine rx hΓ [0,5,6,16,17,18,19] [] (fun K' hK=>by simp only[go_sem,hO,aj,bf,h0,h1,h2];(repeat (refine⟨ao,?_⟩));exact hK _ (by simp only[go_sem,hO,aj,bf,h0,h1,h2]) (by simp only[go_sem,hO,aj,bf,h0,h1,h2]<;>rfl)) ?_
 repeat refine sq ?_
 refine av (fun hb=>?_) fun hb=>?_
 ·have ab:i<l.length:=by simpa using hb
  have an:(i:Int)<l.length:=by omega
  clear hb
  have kN:=vN l[i] (List.getElem_mem ab)
  repeat refine sq ?_
  refine ax ?_
  repeat refine sq ?_
  refine aH ?_
  repeat refine sq ?_
  refine rx hΓ [0,5,6,8,16,17,18] [[8,0]] (fun K' hK=>by simp only[go_sem,hO,aj,bf,h0,h1,h2,ae ab,ah,ai,an];(repeat (refine⟨ao,?_⟩));exact hK _ (by simp only[go_sem,hO,aj,bf,h0,h1,h2,ae ab,ah,ai,an]) (by simp only[go_sem,hO,aj,bf,h0,h1,h2,ae ab,ah,ai,an]<;>rfl)) ?_
  repeat refine sq ?_
  refine rx hΓ [0,5,6,9,10,16,17,18] [[10,0]] (fun K' hK=>by simp only[go_sem,hO,aj,bf,h0,h1,h2,ae ab,ah,ai,an,z7];(repeat (refine⟨by first | exact ao | exact⟨⟨hv.ds _,cq⟩,kN⟩,?_⟩));exact hK _ (by simp only[go_sem,hO,aj,bf,h0,h1,h2,ae ab,ah,ai,an,z7]) (by simp only[go_sem,hO,aj,bf,h0,h1,h2,ae ab,ah,ai,an,z7]<;>rfl)) ?_
  repeat refine sq ?_
  refine rx hΓ [0,5,6,9,10,16,17,18,29] [[10,0]] (fun K' hK=>by simp only[go_sem,hO,aj,bf,h0,h1,h2,ae ab,ah,ai,an];(repeat (refine⟨ao,?_⟩));exact hK _ (by simp only[go_sem,hO,aj,bf,h0,h1,h2,ae ab,ah,ai,an]) (by simp only[go_sem,hO,aj,bf,h0,h1,h2,ae ab,ah,ai,an]<;>rfl)) ?_
  repeat refine sq ?_
  refine av (fun hb=>?_) fun hb=>?_
  ·repeat refine sq ?_
   have jt:(bF x l[i]).1>=0:=by simpa using hb
   have hA:(l.take (i+1)).all (eV x)=(l.take i).all (eV x):=by rw[wK ab];simp[eV,jt]
   have hF:ft x x.ds (l.take (i+1))=jY (ft x x.ds (l.take i)) (bF x l[i]).1 (bF x l[i]).2:=by rw[Lr ab,iE,if_pos jt]
   repeat refine sq ?_
   refine aM hΓ fun K' hK=>?_
   simp only[go_sem,hO,aj,bf,h0,h1,h2,ae ab,ah,ai,an,RH]
   repeat (refine⟨ao,?_⟩)
   refine hK _ ?_
   clear K' hK
   simp only[go_sem]
   refine eJ [0,5,6,16,17,18] [] ?_ ?_
   ·simp only[go_sem,hO,aj,bf,h0,h1,h2]
   simp only[go_sem,hO,aj,bf,h0,h1,h2]
   repeat refine sq ?_
   refine aM hΓ fun K' hK=>?_
   simp only[go_sem,hO,aj,bf,h0,h1,h2,ae ab,ah,ai,an]
   repeat (refine⟨ao,?_⟩)
   refine hK _ ?_
   clear K' hK
   simp only[go_sem]
   refine⟨i+1,ab,by(show l.length-(i+1)<l.length-i;omega),?_⟩
   refine aY [0,5,6,16,17,18] [] ?_ ?_
   ·simp only[go_sem,aT ab tO,aU,hA,hF,hO,aj,bf,h0,h1,h2]
   ·simp only[go_sem,aT ab tO,aU,hA,hF,hO,aj,bf,h0,h1,h2]
    all_goals first | (rw[<-fZ];done) | (congr 1;funext nm;rw[<-fZ];by_cases e:nm=[2,1]<;>simp[e,aS,a8])
  ·repeat refine sq ?_
   have jt:¬ (bF x l[i]).1>=0:=by simpa using hb
   have hF:ft x x.ds (l.take (i+1))=ft x x.ds (l.take i):=by rw[Lr ab,iE,if_neg jt]
   repeat refine sq ?_
   refine rx hΓ [0,5,6,16,17,18,38] [] (fun K' hK=>by simp only[go_sem,hO,aj,bf,h0,h1,h2,ae ab,ah,ai,an];(repeat (refine⟨ao,?_⟩));exact hK _ (by simp only[go_sem,hO,aj,bf,h0,h1,h2,ae ab,ah,ai,an]) (by simp only[go_sem,hO,aj,bf,h0,h1,h2,ae ab,ah,ai,an]<;>rfl)) ?_
   repeat refine sq ?_
   refine av (fun hb=>?_) fun hb=>?_
   ·repeat refine sq ?_
    have hA:(l.take (i+1)).all (eV x)=false:=by rw[wK ab];simp[eV,jt];intro _;simpa using hb
    repeat refine sq ?_
    refine aM hΓ fun K' hK=>?_
    simp only[go_sem,hO,aj,bf,h0,h1,h2,ae ab,ah,ai,an]
    repeat (refine⟨ao,?_⟩)
    refine hK _ ?_
    clear K' hK
    simp only[go_sem]
    refine eJ [0,5,6,16,17,18] [] ?_ ?_
    ·simp only[go_sem,hO,aj,bf,h0,h1,h2]
    simp only[go_sem,hO,aj,bf,h0,h1,h2]
    repeat refine sq ?_
    refine aM hΓ fun K' hK=>?_
    simp only[go_sem,hO,aj,bf,h0,h1,h2,ae ab,ah,ai,an]
    repeat (refine⟨ao,?_⟩)
    refine hK _ ?_
    clear K' hK
    simp only[go_sem]
    refine⟨i+1,ab,by(show l.length-(i+1)<l.length-i;omega),?_⟩
    refine aY [0,5,6,16,17,18] [] ?_ ?_
    ·simp only[go_sem,aT ab tO,aU,hA,hF,hO,aj,bf,h0,h1,h2]
    ·simp only[go_sem,aT ab tO,aU,hA,hF,hO,aj,bf,h0,h1,h2]
     all_goals first | (rw[<-fZ];done) | (congr 1;funext nm;rw[<-fZ];by_cases e:nm=[2,1]<;>simp[e,aS,a8])
   ·repeat refine sq ?_
    have hA:(l.take (i+1)).all (eV x)=(l.take i).all (eV x):=by rw[wK ab];simp[eV,jt];intro _;simpa using hb
    refine ax ?_
    refine bE ?_
    simp only[go_sem]
    refine eJ [0,5,6,16,17,18] [] ?_ ?_
    ·simp only[go_sem,hO,aj,bf,h0,h1,h2]
    simp only[go_sem,hO,aj,bf,h0,h1,h2]
    repeat refine sq ?_
    refine aM hΓ fun K' hK=>?_
    simp only[go_sem,hO,aj,bf,h0,h1,h2,ae ab,ah,ai,an]
    repeat (refine⟨ao,?_⟩)
    refine hK _ ?_
    clear K' hK
    simp only[go_sem]
    refine⟨i+1,ab,by(show l.length-(i+1)<l.length-i;omega),?_⟩
    refine aY [0,5,6,16,17,18] [] ?_ ?_
    ·simp only[go_sem,aT ab tO,aU,hA,hF,hO,aj,bf,h0,h1,h2]
    ·simp only[go_sem,aT ab tO,aU,hA,hF,hO,aj,bf,h0,h1,h2]
     all_goals first | (rw[<-fZ];done) | (congr 1;funext nm;rw[<-fZ];by_cases e:nm=[2,1]<;>simp[e,aS,a8])
 ·have be:i=l.length:=by
   have :¬ (i:Int)<l.length:=by simpa using hb
   omega
  clear hb
  subst be
  repeat refine sq ?_
  refine bp ?_
  simp only[go_sem]
  refine eJ [0,5] [] ?_ ?_
  ·simp only[go_sem,hO,aj,bf,h0,h1,h2]
  simp only[go_sem,hO,aj,bf,h0,h1,h2]
  repeat refine sq ?_
  refine rx hΓ [0,5,43,44,45] [] (fun K' hK=>by simp only[go_sem,hO,aj,bf,h0,h1,h2];(repeat (refine⟨ao,?_⟩));exact hK _ (by simp only[go_sem,hO,aj,bf,h0,h1,h2]) (by simp only[go_sem,hO,aj,bf,h0,h1,h2]<;>rfl)) ?_
  repeat refine sq ?_
  refine aH ?_
  repeat refine sq ?_
  refine bB (fun s:Nat=>[(45,⟨true,.v (vInt s)⟩),(5,⟨true,.v (.bool ((x.ts.take s).all (xk (ft x x.ds (l.take l.length)))&&(l.take l.length).all (eV x)))⟩)]) (fun s=>[]) (fun s=>s<=x.ts.length) (fun s=>x.ts.length-s) 0 ?_ ?_ ?_ ?_
  ·exact Nat.zero_le _
  ·rfl
  ·rfl
  rintro i1 hi
  generalize hB:((x.ts.take i1).all (xk (ft x x.ds (l.take l.length)))&&(l.take l.length).all (eV x))=B
  simp only[go_sem]
  repeat refine sq ?_
  refine rx hΓ [0,5,43,44,45,46] [] (fun K' hK=>by simp only[go_sem,hO,aj,bf,h0,h1,h2];(repeat (refine⟨ao,?_⟩));exact hK _ (by simp only[go_sem,hO,aj,bf,h0,h1,h2]) (by simp only[go_sem,hO,aj,bf,h0,h1,h2]<;>rfl)) ?_
  repeat refine sq ?_
  refine av (fun hb=>?_) fun hb=>?_
  ·have ay:i1<x.ts.length:=by simpa using hb
   have aQ:(i1:Int)<x.ts.length:=by omega
   clear hb
   have hA:((x.ts.take (i1+1)).all (xk (ft x x.ds (l.take l.length)))&&(l.take l.length).all (eV x))=(B&&decide ((bA (ft x x.ds (l.take l.length)) x.ts[i1]).1<=(bA (ft x x.ds (l.take l.length)) x.ts[i1]).2)):=by
    rw[<-hB,wK ay,Bool.and_assoc,Bool.and_assoc,Bool.and_comm (xk _ _)];rfl
   repeat refine sq ?_
   refine ax ?_
   repeat refine sq ?_
   refine aH ?_
   repeat refine sq ?_
   refine rx hΓ [0,5,12,43,44,45] [] (fun K' hK=>by simp only[go_sem,hO,aj,bf,h0,h1,h2,ae ay,ah,ai,aQ];(repeat (refine⟨ao,?_⟩));exact hK _ (by simp only[go_sem,hO,aj,bf,h0,h1,h2,ae ay,ah,ai,aQ]) (by simp only[go_sem,hO,aj,bf,h0,h1,h2,ae ay,ah,ai,aQ]<;>rfl)) ?_
   repeat refine sq ?_
   refine rx hΓ [0,5,13,43,44,45] [[13,0]] (fun K' hK=>by simp only[go_sem,hO,aj,bf,h0,h1,h2,ae ay,ah,ai,aQ,tw];(repeat (refine⟨ao,?_⟩));exact hK _ (by simp only[go_sem,hO,aj,bf,h0,h1,h2,ae ay,ah,ai,aQ,tw]) (by simp only[go_sem,hO,aj,bf,h0,h1,h2,ae ay,ah,ai,aQ,tw]<;>rfl)) ?_
   repeat refine sq ?_
   refine aM hΓ fun K' hK=>?_
   simp only[go_sem,hO,aj,bf,h0,h1,h2,ae ay,ah,ai,aQ]
   repeat (refine⟨ao,?_⟩)
   refine hK _ ?_
   clear K' hK
   simp only[go_sem]
   refine eJ [0,5,43,44,45] [] ?_ ?_
   ·simp only[go_sem,hO,aj,bf,h0,h1,h2]
   simp only[go_sem,hO,aj,bf,h0,h1,h2]
   repeat refine sq ?_
   refine aM hΓ fun K' hK=>?_
   simp only[go_sem,hO,aj,bf,h0,h1,h2,ae ay,ah,ai,aQ]
   repeat (refine⟨ao,?_⟩)
   refine hK _ ?_
   clear K' hK
   simp only[go_sem]
   refine⟨i1+1,ay,by(show x.ts.length-(i1+1)<x.ts.length-i1;omega),?_⟩
   refine aY [0,5,43,44,45] [] ?_ ?_<;>simp only[go_sem,aT ay gT,aU,hA,hO,aj,bf,h0,h1,h2]
  ·have er:i1=x.ts.length:=by
    have :¬ (i1:Int)<x.ts.length:=by simpa using hb
    omega
   clear hb
   subst er
   repeat refine sq ?_
   refine bp ?_
   simp only[go_sem]
   refine eJ [5] [] ?_ ?_
   ·simp only[go_sem,hO,aj,bf,h0,h1,h2]
   simp only[go_sem,hO,aj,bf,h0,h1,h2]
   repeat refine sq ?_
   refine rx hΓ [4] [] (fun K' hK=>by simp only[go_sem,hO,aj,bf,h0,h1,h2];(repeat (refine⟨ao,?_⟩));exact hK _ (by simp only[go_sem,hO,aj,bf,h0,h1,h2]) (by simp only[go_sem,hO,aj,bf,h0,h1,h2]<;>rfl)) ?_
   refine au ?_
   simp only[go_sem,hO,aj,bf,h0,h1,h2]
   rw[<-hB];simp only[List.take_length];exact⟨by unfold ei yO;rw[Bool.and_comm];rfl,trivial⟩
end
open Go
structure Ro (α:Type) where
 m:Nat
 fam:α->List Name->List O
 args:α->List Name->List D
 ok:α->Prop
 val:α->D
structure Ro.Ok {α:Type} (r:Ro α):Prop where
 len:∀ a Ls,Ls.length=r.m->(r.fam a Ls).length=r.m
 renF:∀ a f Ls,Ls.length=r.m->(r.fam a Ls).map (O.ren f)=r.fam a (Ls.map f)
 renA:∀ a f Ls,Ls.length=r.m->D.renL f (r.args a Ls)=r.args a (Ls.map f)
 reach:∀ a Ls obj,Ls.length=r.m->Ls.Nodup->cY obj Ls (r.fam a Ls)->reach obj (r.args a Ls)=Ls
 closF:∀ a dom Ls,Ls.length=r.m->(∀ x∈Ls,dom x=true)->∀ o∈r.fam a Ls,O.clos dom o=true
 closA:∀ a dom Ls,Ls.length=r.m->(∀ x∈Ls,dom x=true)->D.closL dom (r.args a Ls)=true
 det:∀ a b,r.ok a->r.ok b->r.fam a (LR r.m)=r.fam b (LR r.m)->r.args a (LR r.m)=r.args b (LR r.m)->r.val a=r.val b
 vcl:∀ a dom,D.clos dom (r.val a)=true
 vren:∀ a f,(r.val a).ren f=r.val a
variable {α:Type}
noncomputable def Ro.c(r:Ro α):CSpec where
 pre:=fun os ds=>∃ a,r.ok a/\os=r.fam a (LR r.m)/\ds=r.args a (LR r.m)
 out:=fun os ds=>⟨[],[],by classical exact if h:∃ a,r.ok a/\os=r.fam a (LR r.m)/\ds=r.args a (LR r.m)then r.val h.choose else .any⟩
theorem Ro.c_out{r:Ro α}(hr:r.Ok){a:α}(ha:r.ok a):r.c.out (r.fam a (LR r.m)) (r.args a (LR r.m))=⟨[],[],r.val a⟩:=by
 have h:∃ b,r.ok b/\r.fam a (LR r.m)=r.fam b (LR r.m)/\r.args a (LR r.m)=r.args b (LR r.m):=⟨a,ha,rfl,rfl⟩
 have e:r.val h.choose=r.val a:=(hr.det _ _ ha h.choose_spec.1 h.choose_spec.2.1 h.choose_spec.2.2).symm
 simp only[Ro.c]
 rw[dif_pos h,e]
theorem Ro.c_app{r:Ro α}(hr:r.Ok){a:α}(ha:r.ok a){obj:Name->Option O}{t:Name}{Ls:List Name}(hl:Ls.length=r.m)(hn:Ls.Nodup)(hF:cY obj Ls (r.fam a Ls)):
 r.c.toSpec.app obj t (r.args a Ls)=⟨True,r.val a,obj⟩:=by
 have mv:=hr.reach a Ls obj hl hn hF
 have yv:Ls.map (cin Ls)=LR r.m:=by rw[DW hn,hl]
 have e1:cJ obj (r.args a Ls)=r.fam a (LR r.m):=by
  unfold cJ
  rw[mv]
  have wk:=hF
  rw[mg]at wk
  have :Ls.map (cQ Ls obj)=(r.fam a Ls).map (O.ren (cin Ls)):=by
   refine List.ext_getElem (by simp[hr.len _ _ hl,hl]) fun i h1 h2=>?_
   have h3:i<Ls.length:=by simpa using h1
   have h4:i<(r.fam a Ls).length:=by rw[hr.len _ _ hl,<-hl];exact h3
   have h5:=congrArg (fun l=>l[i]?) wk
   have h6:obj Ls[i]=some (r.fam a Ls)[i]:=by simpa[h3,h4]using h5
   simp only[List.getElem_map,cQ,h6]
  rw[this,hr.renF _ _ _ hl,yv]
 have e2:db obj (r.args a Ls)=r.args a (LR r.m):=by
  unfold db
  rw[mv,hr.renA _ _ _ hl,yv]
 have lD:∀ x∈Ls,cW Ls x=true:=fun x hx=>gS.2 hx
 have jx:shut obj Ls=true:=by
  unfold shut
  rw[List.all_eq_true]
  intro x hx
  obtain⟨i,hi,rfl⟩:=List.getElem_of_mem hx
  have wk:=hF
  rw[mg]at wk
  have h4:i<(r.fam a Ls).length:=by rw[hr.len _ _ hl,<-hl];exact hi
  have h5:=congrArg (fun l=>l[i]?) wk
  have h6:obj Ls[i]=some (r.fam a Ls)[i]:=by simpa[hi,h4]using h5
  rw[h6]
  exact hr.closF _ _ _ hl lD _ (List.getElem_mem h4)
 have dZ:r.c.pre (r.fam a (LR r.m)) (r.args a (LR r.m)):=⟨a,ha,rfl,rfl⟩
 simp only[CSpec.toSpec,e1,e2,mv,Ro.c_out hr ha,jx,hr.closA _ _ _ hl lD,fresh,List.all_nil,Bool.and_self,dZ,and_self,du,cE,hr.vren]
def Gc(P:Program)(rs:List ResultVar)(v:D)(H:Name->Option O)(e:Exit)(σ:S):Prop:=
 (e=.normal\/e=.ret)/\(bW P σ rs).ok/\(bW P σ rs).d=v/\∀ i,σ.obj [i,1]=H [i,1]
theorem Hn{σ:S}:∀ {os:List O} {k:Nat},(∀ i (h:i<os.length),σ.obj [k+i,1]=some os[i])->qX σ [] k os
 |[],_,_=>trivial
 |o::r,k,h=>by
  refine⟨by have:=h 0 (by simp);simp only[Nat.add_zero,List.getElem_cons_zero]at this;exact this,Hn fun i hi=>?_⟩
  have :=h (i+1) (by simpa using hi)
  rw[show k+1+i=k+(i+1)by omega]
  simpa using this
theorem Ro.sound{P:Program}{r:Ro α}(hr:r.Ok){f:FuncId}{fn:Func}{nt:Nat}{rs:List ResultVar}(hf:P.funcs[f]?=some fn)(cT:fn.ntmps=nt)(ca:fn.results.toList=rs)(hn:(fn.name== "runtime.NumGoroutine")=false)(hy:f<1000000000)
 (hw:∃ c,fn.body=some c/\∀ a,r.ok a->(r.args a (LR r.m)).length<=nt/\CL P [c] (bh nt [0] (a7 (r.fam a (LR r.m))) (dC 0 (r.args a (LR r.m))) []) (Gc P rs (r.val a) (a7 (r.fam a (LR r.m))))):aR P f r.c.toSpec:=by
 obtain⟨c,hc,hw⟩:=hw
 refine oZ hf hc cT ca (iK hf hc hn) (Nat.ne_of_lt (show f<yid from hy)) ?_
 rintro os ds ⟨a,ha,rfl,rfl⟩
 obtain⟨hl,h⟩:=hw a ha
 refine⟨hl,?_⟩
 rw[Ro.c_out hr ha]
 refine CW.mono (jL h) ?_
 rintro e σ ⟨he,h1,h2,h3⟩
 have fin:(bW P σ rs).ok/\(bW P σ rs).d=r.val a/\gv (r.fam a (LR r.m)) ⟨[],[],r.val a⟩ σ:=by
  refine⟨h1,h2,Hn fun i hi=>?_,trivial,?_⟩
  ·rw[Nat.zero_add,h3]
   show (r.fam a (LR r.m))[i]?=_
   rw[List.getElem?_eq_getElem hi]
  ·simp[hr.vcl,distinct]
 rcases he with rfl | rfl
 ·exact fin
 ·exact fin
theorem Ro.outC{r:Ro α}(hr:r.Ok)(a:α):∀ hs,cl [0] (bY [0] hs) (a7 (r.fam a (LR r.m)))=True:=fun hs=>eq_true (pH (fun o ho dom hd=>hr.closF a dom _ (uI _) (fun x hx=>by
 obtain⟨i,_,rfl⟩:=List.mem_map.1 hx
 exact hd i) o ho) hs)
set_option maxHeartbeats 8000000
set_option maxRecDepth 10000
noncomputable section
attribute [go_sem] Gc
theorem vq{Ls:List Name}(h:Ls.length=4):∃ a b c d,Ls=[a,b,c,d]:=by
 match Ls,h with
 |[a,b,c,d],_=>exact⟨a,b,c,d,rfl⟩
def kj(x:Vw)(nr nb nd:Name):O:=.box [.v (jH x.l),.v (.sl (x.rs.map encR)),.msl nr x.ts.length,.map nb,.map nd]
def ql(x:Vw)(Ls:List Name):List O:=[kj x (Ls.getD 1 []) (Ls.getD 2 []) (Ls.getD 3 []),.arr 1 (x.ts.map vInt),.map 2 (bS x.bk),.map 0 (bI x.ds)]
theorem WO{x y:Vw}{a b c:Name}(h:kj x a b c=kj y a b c):x.rs=y.rs:=by
 simp only[kj,O.box.injEq,List.cons.injEq,D.v.injEq,V.sl.injEq]at h
 have :=congrArg (List.map kV) h.2.1
 rwa [yX,yX]at this
def jq:Ro (Vw×Int) where
 m:=4
 fam:=fun a Ls=>ql a.1 Ls
 args:=fun a Ls=>[.ref (Ls.getD 0 []) 0,.v (vInt a.2)]
 ok:=fun _=>True
 val:=fun a=>.tup [mb (dk a.1.rs a.2),.v (.bool (dk a.1.rs a.2).isSome)]
theorem QU(o:Option Rec)(f:Name->Name):(mb o).ren f=mb o:=by cases o<;>rfl
theorem AR:jq.Ok where
 len:=fun _ _ _=>rfl
 renF:=fun a f Ls h=>by obtain⟨a,b,c,d,rfl⟩:=vq h;rfl
 renA:=fun a f Ls h=>by obtain⟨a,b,c,d,rfl⟩:=vq h;rfl
 reach:=fun x Ls obj h cq hF=>by
  obtain⟨a,b,c,d,rfl⟩:=vq h
  obtain⟨h1,h2,h3,h4,_⟩:=hF
  have en:c7 (jq.args x [a,b,c,d])=[a]:=rfl
  unfold Go.Eng.reach
  rw[en]
  show dJ obj (2993+1+1+1+1+1+1+1) _ []=_
  simp only[List.nodup_cons,List.mem_cons,List.not_mem_nil,or_false,not_or,not_false_eq_true,List.nodup_nil,and_true]at cq
  obtain⟨⟨a1,a2,a3⟩,⟨b1,b2⟩,c1⟩:=cq
  simp[dJ,gS,h1,h2,h3,h4,mi,c7,ly,kj,Ne.symm a1,Ne.symm a2,Ne.symm a3,Ne.symm b1,Ne.symm b2,Ne.symm c1]
 closF:=fun x dom Ls h hd o ho=>by
  obtain⟨a,b,c,d,rfl⟩:=vq h
  have h1:=hd b (by simp)
  have h2:=hd c (by simp)
  have h3:=hd d (by simp)
  simp only[jq,ql,List.mem_cons,List.not_mem_nil,or_false]at ho
  rcases ho with rfl | rfl | rfl | rfl<;>simp[O.clos,D.closL,D.clos,kj,h1,h2,h3]
 closA:=fun x dom Ls h hd=>by
  obtain⟨a,b,c,d,rfl⟩:=vq h
  have h1:=hd a (by simp)
  simp[jq,D.closL,D.clos,h1]
 det:=fun a b _ _ h1 h2=>by
  have e1:a.1.rs=b.1.rs:=WO (List.cons.inj h1).1
  have e2:a.2=b.2:=by
   have :=(List.cons.inj (List.cons.inj h2).2).1
   simpa[vInt]using this
  simp only[jq,e1,e2]
 vcl:=fun a dom=>by simp[jq,D.clos,D.closL,ma]
 vren:=fun a f=>by simp[jq,D.ren,D.renL,QU]
def S77m:Spec:=jq.c.toSpec
theorem TZ:aR Tryz.prog 77 S77m:=by
 refine Ro.sound AR (rs:=[.cell 4 36,.tmp 5]) Tryz.func77 Tryz.ntmps77 (by rfl) (by kernel_rfl) (by decide) ⟨_,rfl,?_⟩
 rintro⟨x,s⟩ _
 refine⟨lb rfl,?_⟩
 have hΓ:=NO
 have hO:=Ro.outC AR (x,s)
 have h0:a7 (jq.fam (x,s) (LR jq.m)) [0,1]=some (kj x [1,1] [2,1] [3,1]):=rfl
 generalize a7 (jq.fam (x,s) (LR jq.m))=H at *
 have ha:jq.args (x,s) (LR jq.m)=[.ref [0,1] 0,.v (vInt s)]:=rfl
 have hv:jq.val (x,s)=.tup [mb (dk x.rs s),.v (.bool (dk x.rs s).isSome)]:=rfl
 rw[ha,hv]
 simp only[kj,dC,Nat.zero_add]at h0 |-
 repeat refine sq ?_
 refine rx hΓ [0,3,4] [[3,0],[4,0]] (fun K' hK=>by simp only[go_sem,hO,h0];(repeat (refine⟨ao,?_⟩));exact hK _ (by simp only[go_sem,hO,h0]) (by simp only[go_sem,hO,h0]<;>rfl)) ?_
 repeat refine sq ?_
 refine rx hΓ [0,4,6] [[4,0]] (fun K' hK=>by simp only[go_sem,hO,h0,true_or,or_true];(repeat (refine⟨ao,?_⟩));exact hK _ (by simp only[go_sem,hO,h0,true_or,or_true]) (by simp only[go_sem,hO,h0,true_or,or_true]<;>rfl)) ?_
 repeat refine sq ?_
 refine rx hΓ [0,4,6,14] [[4,0]] (fun K' hK=>by simp only[go_sem,hO,h0];(repeat (refine⟨ao,?_⟩));exact hK _ (by simp only[go_sem,hO,h0]) (by simp only[go_sem,hO,h0]<;>rfl)) ?_
 repeat refine sq ?_
 refine av (fun hb=>?_) fun hb=>?_
 ·repeat refine sq ?_
  have e:dk x.rs s=none:=GD (by simpa using hb)
  repeat refine sq ?_
  refine rx hΓ [4,5] [[4,0]] (fun K' hK=>by simp only[go_sem,hO,h0];(repeat (refine⟨ao,?_⟩));exact hK _ (by simp only[go_sem,hO,h0]) (by simp only[go_sem,hO,h0]<;>rfl)) ?_
  refine au ?_
  simp only[go_sem,hO,h0]
  rw[e];exact⟨.inr trivial,rfl⟩
 ·repeat refine sq ?_
  obtain⟨i,hi,e1,e⟩:=GC (by simpa using hb)
  have bM:(i:Int)<x.rs.length:=by omega
  rw[e1]
  refine ax ?_
  repeat refine sq ?_
  refine rx hΓ [4,5] [[4,0]] (fun K' hK=>by simp only[go_sem,hO,h0,ae hi,ah,ai,bM];(repeat (refine⟨ao,?_⟩));exact hK _ (by simp only[go_sem,hO,h0,ae hi,ah,ai,bM]) (by simp only[go_sem,hO,h0,ae hi,ah,ai,bM]<;>rfl)) ?_
  refine au ?_
  simp only[go_sem,hO,h0]
  rw[e];exact⟨.inr trivial,rfl⟩
def mc(r:Rec):V:=.ptr [vInt r.so,vInt r.bo,vInt r.pa,.sl (r.lv.map vInt),vInt r.da,vInt r.kn,vInt r.un]
theorem GJ{a b:Rec}(h:mc a=mc b):a=b:=by
 refine GB ?_
 obtain⟨a1,a2,a3,al,a4,a5,a6⟩:=a
 obtain⟨b1,b2,b3,bl,b4,b5,b6⟩:=b
 simp only[mc,V.ptr.injEq,List.cons.injEq,and_true]at h
 simp only[gh,D.agg.injEq,List.cons.injEq,D.v.injEq,and_true]
 exact h
def il(bk:Bk)(r:Rec)(f:Int):Bool:=(bK bk (r.so,f)).isSome||!r.lv.contains f
def sN{β:Type}(ar:β->Rec->Name->List D)(ok:β->Prop)(val:Bk->Rec->β->V):Ro (Vw×Rec×β) where
 m:=5
 fam:=fun a Ls=>.box [.ref (Ls.getD 1 []) 0]::ql a.1 (Ls.drop 1)
 args:=fun a Ls=>ar a.2.2 a.2.1 (Ls.getD 0 [])
 ok:=fun a=>ok a.2.2
 val:=fun a=>.v (val a.1.bk a.2.1 a.2.2)
theorem ET{β:Type}{ar:β->Rec->Name->List D}{ok:β->Prop}{val:Bk->Rec->β->V}(h1:∀ b r n,c7 (ar b r n)=[n])(h2:∀ f b r n,D.renL f (ar b r n)=ar b r (f n))(h3:∀ dom b r n,dom n=true->D.closL dom (ar b r n)=true)
 (h4:∀ b r b' r' n,ar b r n=ar b' r' n->b=b'/\r=r'):(sN ar ok val).Ok where
 len:=fun _ _ _=>rfl
 renF:=fun a f Ls h=>by obtain⟨a,b,c,d,e,rfl⟩:=kI h;rfl
 renA:=fun a f Ls h=>by obtain⟨a,b,c,d,e,rfl⟩:=kI h;exact h2 _ _ _ _
 reach:=fun x Ls obj h cq hF=>by
  obtain⟨a,b,c,d,e,rfl⟩:=kI h
  obtain⟨k1,k2,k3,k4,k5,_⟩:=hF
  have en:c7 ((sN ar ok val).args x [a,b,c,d,e])=[a]:=h1 _ _ _
  unfold Go.Eng.reach
  rw[en]
  show dJ obj (2993+1+1+1+1+1+1+1) _ []=_
  simp only[List.nodup_cons,List.mem_cons,List.not_mem_nil,or_false,not_or,not_false_eq_true,List.nodup_nil,and_true]at cq
  obtain⟨⟨a1,a2,a3,a4⟩,⟨b1,b2,b3⟩,⟨c1,c2⟩,d1⟩:=cq
  simp[dJ,gS,k1,k2,k3,k4,k5,mi,c7,ly,kj,Ne.symm a1,Ne.symm a2,Ne.symm a3,Ne.symm a4,Ne.symm b1,Ne.symm b2,Ne.symm b3,Ne.symm c1,Ne.symm c2,Ne.symm d1]
 closF:=fun x dom Ls h hd o ho=>by
  obtain⟨a,b,c,d,e,rfl⟩:=kI h
  have h1:=hd b (by simp)
  have h2:=hd c (by simp)
  have h3:=hd d (by simp)
  have h4:=hd e (by simp)
  simp only[sN,ql,List.drop_succ_cons,List.drop_zero,List.mem_cons,List.not_mem_nil,or_false]at ho
  rcases ho with rfl | rfl | rfl | rfl | rfl<;>simp[O.clos,D.closL,D.clos,kj,h1,h2,h3,h4]
 closA:=fun x dom Ls h hd=>by
  obtain⟨a,b,c,d,e,rfl⟩:=kI h
  exact h3 _ _ _ _ (hd a (by simp))
 det:=fun a b _ _ k1 k2=>by
  have e1:a.1.bk=b.1.bk:=by
   have :=(List.cons.inj (List.cons.inj (List.cons.inj (List.cons.inj k1).2).2).2).1
   simp only[O.map.injEq,true_and]at this
   have :=congrArg y0 this
   rwa [DE,DE]at this
  obtain⟨e2,e3⟩:=h4 _ _ _ _ _ k2
  simp only[sN,e1,e2,e3]
 vcl:=fun _ _=>rfl
 vren:=fun _ _=>rfl
def tkRo:Ro (Vw×Rec×Int):=sN (fun f r n=>[.v (vInt f),.ref n 0,.v (mc r)]) (fun _=>True) (fun bk r f=>.bool (il bk r f))
theorem Ad:tkRo.Ok:=ET (fun _ _ _=>rfl) (fun _ _ _ _=>rfl) (fun dom b r n h=>by simp[D.closL,D.clos,h]) (fun b r b' r' n h=>by
 simp only[List.cons.injEq,D.v.injEq,and_true,true_and]at h
 exact⟨by simpa[vInt]using h.1,GJ h.2⟩)
def S163m:Spec:=tkRo.c.toSpec
def K28a:List (Nat×Spec):=[(108,wO)]
theorem aaT:KS K28a:=tc xh.sound<|tn
attribute [go_sem] K28a
theorem T5:aR Tryz.prog 163 S163m:=by
 refine Ro.sound Ad (rs:=[.tmp 4]) Tryz.func163 Tryz.ntmps163 (by rfl) (by kernel_rfl) (by decide) ⟨_,rfl,?_⟩
 rintro⟨x,r,f⟩ _
 refine⟨lb rfl,?_⟩
 have hΓ:=aaT
 have hP:=dL
 have hO:=Ro.outC Ad (x,r,f)
 have h0:a7 (tkRo.fam (x,r,f) (LR tkRo.m)) [0,1]=some (.box [.ref [1,1] 0]):=rfl
 have h1:a7 (tkRo.fam (x,r,f) (LR tkRo.m)) [1,1]=some (kj x [2,1] [3,1] [4,1]):=rfl
 have h3:a7 (tkRo.fam (x,r,f) (LR tkRo.m)) [3,1]=some (.map 2 (bS x.bk)):=rfl
 generalize a7 (tkRo.fam (x,r,f) (LR tkRo.m))=H at *
 have ha:tkRo.args (x,r,f) (LR tkRo.m)=[.v (vInt f),.ref [0,1] 0,.v (mc r)]:=rfl
 have hv:tkRo.val (x,r,f)=.v (.bool (il x.bk r f)):=rfl
 rw[ha,hv]
 simp only[kj,dC,Nat.zero_add,mc]at h1 |-
 repeat refine sq ?_
 refine rx hΓ [0,1,2] [] (fun K' hK=>by simp only[go_sem,hO,h0,h1,h3];(repeat (refine⟨ao,?_⟩));exact hK _ (by simp only[go_sem,hO,h0,h1,h3]) (by simp only[go_sem,hO,h0,h1,h3]<;>rfl)) ?_
 repeat refine sq ?_
 refine dx hΓ hP [[],[0],[0,1],[0,1,2],[],[4],[],[4,5,6],u8,u9,bO,bO,cK,gP] [0,2,6] [] (by kernel_rfl) (fun K' hK=>by simp only[go_sem,hO,h0,h1,h3,aG];(repeat (refine⟨ao,?_⟩));(first | refine⟨by rfl,?_⟩ | skip);exact hK _ (by simp only[go_sem,hO,h0,h1,h3,aG]) (by simp only[go_sem,hO,h0,h1,h3,aG]<;>rfl)) ?_
 repeat refine sq ?_
 refine rx hΓ [4] [] (fun K' hK=>by simp only[go_sem,hO,h0,h1,h3];(repeat (refine⟨ao,?_⟩));exact hK _ (by simp only[go_sem,hO,h0,h1,h3]) (by simp only[go_sem,hO,h0,h1,h3]<;>rfl)) ?_
 refine au ?_
 simp only[go_sem,hO,h0,h1,h3]
 exact⟨.inr trivial,by unfold il;cases bK x.bk (r.so,f)<;>rfl⟩
def gL(v:Bk->Rec->List Int->V):Ro (Vw×Rec×List Int):=sN (fun l r n=>[.v (.sl (l.map vInt)),.clo (.func 163) [] [.ref n 0,.v (mc r)]]) (fun l=>l.length<=maxLen) v
theorem uB(v:Bk->Rec->List Int->V):(gL v).Ok:=ET (fun _ _ _=>rfl) (fun _ _ _ _=>rfl) (fun dom b r n h=>by simp[D.closL,D.clos,h]) (fun b r b' r' n h=>by
 simp only[List.cons.injEq,D.v.injEq,D.clo.injEq,V.sl.injEq,and_true,true_and]at h
 refine⟨?_,GJ h.2⟩
 have :=congrArg (List.map jJ) h.1
 rwa [oY,oY]at this)
def lz(bk:Bk)(r:Rec)(l:List Int):V:=vInt (dE (il bk r) l)
def lM(bk:Bk)(r:Rec)(l:List Int):V:=.bool (l.any (il bk r))
def S192m:Spec:=(gL lz).c.toSpec
def S160m:Spec:=(gL lM).c.toSpec
def EN:FuncId->Option Spec:=fun f=>if f=163 then some S163m else none
theorem aaS:∀ f s,EN f=some s->aR Tryz.prog f s:=fun f s h=>by
 unfold EN at h
 split at h
 ·rename_i e;cases h;subst e;exact T5
 ·cases h
theorem EM:EN 163=some S163m:=rfl
theorem T3:aR Tryz.prog 192 S192m:=by
 refine Ro.sound (uB lz) (rs:=[.tmp 4]) Tryz.func192 Tryz.ntmps192 (by rfl) (by kernel_rfl) (by decide) ⟨_,rfl,?_⟩
 rintro⟨x,r,l⟩ hl
 replace hl:l.length<=maxLen:=hl
 refine⟨lb rfl,?_⟩
 have hΓ:=aaS
 have hO:=Ro.outC (uB lz) (x,r,l)
 have eG:cY (a7 ((gL lz).fam (x,r,l) (LR (gL lz).m))) (LR 5) ((gL lz).fam (x,r,l) (LR 5)):=⟨rfl,rfl,rfl,rfl,rfl,trivial⟩
 generalize a7 ((gL lz).fam (x,r,l) (LR (gL lz).m))=H at *
 have oK:∀ (F:Name->Option O) (t:Name) (f:Int),S163m.app (fun nm=>if own [0] nm=true then F nm else H nm) t [.v (vInt f),.ref [0,1] 0,.v (mc r)]=⟨True,.v (.bool (il x.bk r f)),fun nm=>if own [0] nm=true then F nm else H nm⟩:=fun F t f=>Ro.c_app Ad (a:=(x,r,f)) trivial (t:=t) (obj:=fun nm=>if own [0] nm=true then F nm else H nm) (Ls:=LR 5) rfl (NJ 5) (A' eG fun y hy=>by
  obtain⟨i,_,rfl⟩:=List.mem_map.1 hy
  simp[th])
 have ha:(gL lz).args (x,r,l) (LR (gL lz).m)=[.v (.sl (l.map vInt)),.clo (.func 163) [] [.ref [0,1] 0,.v (mc r)]]:=rfl
 have hv:(gL lz).val (x,r,l)=.v (vInt (dE (il x.bk r) l)):=rfl
 rw[ha,hv]
 simp only[dC,Nat.zero_add]
 repeat refine sq ?_
 refine rx hΓ [0,1] [] (fun K' hK=>by simp only[go_sem,hO];(repeat (refine⟨ao,?_⟩));exact hK _ (by simp only[go_sem,hO]) (by simp only[go_sem,hO]<;>rfl)) ?_
 repeat refine sq ?_
 refine rx hΓ [0,1,7,8] [] (fun K' hK=>by simp only[go_sem,hO];(repeat (refine⟨ao,?_⟩));exact hK _ (by simp only[go_sem,hO]) (by simp only[go_sem,hO]<;>rfl)) ?_
 repeat refine sq ?_
 refine aH ?_
 repeat refine sq ?_
 refine bB (fun s:Nat=>[(8,⟨true,.v (vInt s)⟩)]) (fun s=>[]) (fun s=>s<=l.length/\∀ k (h:k<l.length),k<s->il x.bk r l[k]=false) (fun s=>l.length-s) 0 ?_ ?_ ?_ ?_
 ·exact⟨Nat.zero_le _,by simp⟩
 ·rfl
 ·rfl
 rintro i ⟨hi,hR⟩
 simp only[go_sem]
 repeat refine sq ?_
 refine rx hΓ [0,1,7,8,9] [] (fun K' hK=>by simp only[go_sem,hO];(repeat (refine⟨ao,?_⟩));exact hK _ (by simp only[go_sem,hO]) (by simp only[go_sem,hO]<;>rfl)) ?_
 repeat refine sq ?_
 refine av (fun hb=>?_) fun hb=>?_
 ·have ab:i<l.length:=by simpa using hb
  have an:(i:Int)<l.length:=by omega
  clear hb
  repeat refine sq ?_
  refine ax ?_
  repeat refine sq ?_
  refine aH ?_
  repeat refine sq ?_
  refine rx hΓ [0,1,5,7,8] [] (fun K' hK=>by simp only[go_sem,hO,ae ab,ah,ai,an];(repeat (refine⟨ao,?_⟩));exact hK _ (by simp only[go_sem,hO,ae ab,ah,ai,an]) (by simp only[go_sem,hO,ae ab,ah,ai,an]<;>rfl)) ?_
  repeat refine sq ?_
  refine rx hΓ [0,1,5,7,8,16] [] (fun K' hK=>by simp only[go_sem,hO,ae ab,ah,ai,an,EM,oK];(repeat (refine⟨ao,?_⟩));exact hK _ (by simp only[go_sem,hO,ae ab,ah,ai,an,EM,oK]) (by simp only[go_sem,hO,ae ab,ah,ai,an,EM,oK]<;>rfl)) ?_
  repeat refine sq ?_
  refine av (fun hb=>?_) fun hb=>?_
  ·repeat refine sq ?_
   refine rx hΓ [4] [] (fun K' hK=>by simp only[go_sem,hO,ae ab,ah,ai,an];(repeat (refine⟨ao,?_⟩));exact hK _ (by simp only[go_sem,hO,ae ab,ah,ai,an]) (by simp only[go_sem,hO,ae ab,ah,ai,an]<;>rfl)) ?_
   refine au ?_
   simp only[go_sem,hO]
   rw[rm (p:=il x.bk r) ab (by simpa using hb) hR];exact⟨.inr trivial,rfl⟩
  ·repeat refine sq ?_
   refine ax ?_
   refine bE ?_
   simp only[go_sem]
   refine eJ [0,1,7,8] [] ?_ ?_
   ·simp only[go_sem,hO]
   simp only[go_sem,hO]
   repeat refine sq ?_
   refine aM hΓ fun K' hK=>?_
   simp only[go_sem,hO,ae ab,ah,ai,an]
   repeat (refine⟨ao,?_⟩)
   refine hK _ ?_
   clear K' hK
   simp only[go_sem]
   refine⟨i+1,⟨ab,?_⟩,by(show l.length-(i+1)<l.length-i;omega),?_⟩
   ·intro k hk eA
    rcases Nat.lt_succ_iff_lt_or_eq.1 eA with h5 | rfl
    ·exact hR k hk h5
    ·simpa using hb
   refine aY [0,1,7,8] [] ?_ ?_<;>simp only[go_sem,aT ab hl,aU,hO]
 ·have be:i=l.length:=by
   have :¬ (i:Int)<l.length:=by simpa using hb
   omega
  clear hb
  subst be
  repeat refine sq ?_
  refine bp ?_
  simp only[go_sem]
  refine eJ [] [] ?_ ?_
  ·simp only[go_sem,hO]
  simp only[go_sem,hO]
  repeat refine sq ?_
  refine rx hΓ [4] [] (fun K' hK=>by simp only[go_sem,hO];(repeat (refine⟨ao,?_⟩));exact hK _ (by simp only[go_sem,hO]) (by simp only[go_sem,hO]<;>rfl)) ?_
  refine au ?_
  simp only[go_sem,hO]
  rw[vC (p:=il x.bk r) fun k hk=>hR k hk hk];exact⟨.inr trivial,rfl⟩
def EL:FuncId->Option Spec:=fun f=>if f=192 then some S192m else none
theorem aaR:∀ f s,EL f=some s->aR Tryz.prog f s:=fun f s h=>by
 unfold EL at h
 split at h
 ·rename_i e;cases h;subst e;exact T3
 ·cases h
theorem EK:EL 192=some S192m:=rfl
theorem T6:aR Tryz.prog 160 S160m:=by
 refine Ro.sound (uB lM) (rs:=[.tmp 4]) Tryz.func160 Tryz.ntmps160 (by rfl) (by kernel_rfl) (by decide) ⟨_,rfl,?_⟩
 rintro⟨x,r,l⟩ hl
 replace hl:l.length<=maxLen:=hl
 refine⟨lb rfl,?_⟩
 have hΓ:=aaR
 have hO:=Ro.outC (uB lM) (x,r,l)
 have eG:cY (a7 ((gL lM).fam (x,r,l) (LR (gL lM).m))) (LR 5) ((gL lM).fam (x,r,l) (LR 5)):=⟨rfl,rfl,rfl,rfl,rfl,trivial⟩
 generalize a7 ((gL lM).fam (x,r,l) (LR (gL lM).m))=H at *
 have oK:∀ (F:Name->Option O) (t:Name),S192m.app (fun nm=>if own [0] nm=true then F nm else H nm) t [.v (.sl (l.map vInt)),.clo (.func 163) [] [.ref [0,1] 0,.v (mc r)]]=⟨True,.v (vInt (dE (il x.bk r) l)),fun nm=>if own [0] nm=true then F nm else H nm⟩:=fun F t=>Ro.c_app (uB lz) (a:=(x,r,l)) hl (t:=t) (obj:=fun nm=>if own [0] nm=true then F nm else H nm) (Ls:=LR 5) rfl (NJ 5) (A' eG fun y hy=>by
  obtain⟨i,_,rfl⟩:=List.mem_map.1 hy
  simp[th])
 have ha:(gL lM).args (x,r,l) (LR (gL lM).m)=[.v (.sl (l.map vInt)),.clo (.func 163) [] [.ref [0,1] 0,.v (mc r)]]:=rfl
 have hv:(gL lM).val (x,r,l)=.v (.bool (l.any (il x.bk r))):=rfl
 rw[ha,hv]
 simp only[dC,Nat.zero_add]
 repeat refine sq ?_
 refine rx hΓ [0,1] [] (fun K' hK=>by simp only[go_sem,hO];(repeat (refine⟨ao,?_⟩));exact hK _ (by simp only[go_sem,hO]) (by simp only[go_sem,hO]<;>rfl)) ?_
 repeat refine sq ?_
 refine rx hΓ [4] [] (fun K' hK=>by simp only[go_sem,hO,EK,oK,vD];(repeat (refine⟨ao,?_⟩));exact hK _ (by simp only[go_sem,hO,EK,oK,vD]) (by simp only[go_sem,hO,EK,oK,vD]<;>rfl)) ?_
 refine au ?_
 simp only[go_sem,hO]
 first | exact .inr trivial | exact⟨.inr trivial,rfl⟩
end
theorem Ys(b:Bk)(q p:Int×Int)(i:Int):bK (qz b q i) p=if q=p then some i else bK b p:=by
 induction b with
 |nil=>rfl
 |cons e r ih=>
  obtain⟨k,j⟩:=e
  simp only[qz]
  by_cases h:k=q
  ·rw[if_pos h]
   subst h
   simp only[bK]
   split<;>rfl
  ·rw[if_neg h]
   simp only[bK,ih]
   by_cases h2:k=p
   ·subst h2
    rw[if_pos rfl,if_pos rfl,if_neg (fun e=>h e.symm)]
   ·rw[if_neg h2,if_neg h2]
theorem D2(so i:Int)(lv:List Int)(b:Bk)(s f:Int):bK (o7 b so i lv) (s,f)=if s=so/\f∈lv then some i else bK b (s,f):=by
 induction lv generalizing b with
 |nil=>simp[o7]
 |cons a r ih=>
  show bK (o7 (qz b (so,a) i) so i r) (s,f)=_
  rw[ih,Ys]
  by_cases h1:s=so
  ·subst h1
   by_cases h2:f∈r
   ·simp[h2]
   ·by_cases h3:a=f
    ·subst h3;simp[h2]
    ·have h4:¬ f=a:=fun e=>h3 e.symm
     simp[h2,h3,h4]
  ·have h4:¬ (so,a)=(s,f):=fun e=>h1 (by cases e;rfl)
   simp[h1,h4]
theorem HB{k:Int}{rs:List Rec}{bk:Bk}{x:Ret}{r:Rec}(h:iq k rs bk x=some r):dk rs x.re=some r/\bJ x.kn x.un k=true/\¬ cg x.lo (r.da+1)>x.hi/\x.lv.any (il bk r)=false:=by
 unfold iq at h
 split at h
 ·cases h
 ·rename_i q hq
  split at h
  ·rename_i hc
   cases h
   simp only[Bool.and_eq_true,Bool.not_eq_true',Bool.or_eq_false_iff,decide_eq_false_iff_not]at hc
   exact⟨hq,hc.1,hc.2.1,hc.2.2⟩
  ·cases h
theorem RF{k:Int}{rs:List Rec}{bk:Bk}{x:Ret}(h:dk rs x.re=none):iq k rs bk x=none:=by
 unfold iq;rw[h]
theorem RE{k:Int}{rs:List Rec}{bk:Bk}{x:Ret}{r:Rec}(h:dk rs x.re=some r)(hc:bJ x.kn x.un k=false):iq k rs bk x=none:=by
 unfold iq;rw[h];simp[hc]
theorem RD{k:Int}{rs:List Rec}{bk:Bk}{x:Ret}{r:Rec}(h:dk rs x.re=some r)(hc:(decide (cg x.lo (r.da+1)>x.hi)||x.lv.any (il bk r))=true):iq k rs bk x=none:=by
 unfold iq;rw[h]
 have gG:(decide (cg x.lo (r.da+1)>x.hi)||x.lv.any fun f=>(bK bk (r.so,f)).isSome||!r.lv.contains f)=true:=hc
 simp only[gG,Bool.not_true,Bool.and_false,Bool.false_eq_true,if_false]
theorem RC{k:Int}{rs:List Rec}{bk:Bk}{x:Ret}{r:Rec}(h:dk rs x.re=some r)(h1:bJ x.kn x.un k=true)(hc:(decide (cg x.lo (r.da+1)>x.hi)||x.lv.any (il bk r))=false):iq k rs bk x=some r:=by
 unfold iq;rw[h]
 have gG:(decide (cg x.lo (r.da+1)>x.hi)||x.lv.any fun f=>(bK bk (r.so,f)).isSome||!r.lv.contains f)=false:=hc
 simp only[gG,h1,Bool.not_false,Bool.and_true,if_true]
theorem tD{l:Led}{k:Int}{i:Nat}(h:iq k (bz l k) (aB l k i).bk (aK l i)=none):aB l k (i+1)=aB l k i:=by
 show pR l k (aB l k i) i=_
 unfold pR
 rw[(ou l k i).2,h]
theorem xI{l:Led}{k:Int}{i:Nat}{r:Rec}(h:iq k (bz l k) (aB l k i).bk (aK l i)=some r):aB l k (i+1)=
 { aB l k i with bk:=o7 (aB l k i).bk r.so i (aK l i).lv,ts:=(aB l k i).ts++[(i:Int)],ds:=mK (aB l k i).ds i (cg (aK l i).lo (r.da+1),(aK l i).hi) }:=by
 show pR l k (aB l k i) i=_
 have h':iq k (aB l k i).rs (aB l k i).bk (aK l i)=some r:=by rw[(ou l k i).2];exact h
 unfold pR
 rw[h']
structure Z1 (l:Led) (k:Int) (i:Nat):Prop where
 bk:∀ q j,bK (aB l k i).bk q=some j->0<=j/\j<l.ts.length
 tn:(aB l k i).ts.length<=i
 ts:∀ j∈(aB l k i).ts,(0<=j/\j<l.ts.length)/\∃ r,dk (bz l k) (aK l j.toNat).re=some r
theorem xJ(l:Led)(k:Int):∀ i,i<=l.ts.length->Z1 l k i
 | 0,_=>⟨fun q j (h:none=some j)=>(by cases h),Nat.le_refl 0,fun j (h:j∈([]:List Int))=>(by cases h)⟩
 |i+1,hi=>by
  have ih:=xJ l k i (by omega)
  cases hn:iq k (bz l k) (aB l k i).bk (aK l i)with
  |none=>
   have e:=tD hn
   exact⟨by rw[e];exact ih.bk,by rw[e];exact Nat.le_succ_of_le ih.tn,by rw[e];exact ih.ts⟩
  |some r=>
   have e:=xI hn
   refine⟨?_,?_,?_⟩
   ·rintro⟨s,f⟩ j h
    rw[e]at h
    simp only[D2]at h
    split at h
    ·cases h;omega
    ·exact ih.bk _ _ h
   ·rw[e]
    have :=ih.tn
    simp;omega
   ·intro j hj
    rw[e]at hj
    rcases List.mem_append.1 hj with hj | hj
    ·exact ih.ts j hj
    ·simp only[List.mem_singleton]at hj
     subst hj
     exact⟨by omega,r,by rw[Int.toNat_natCast];exact(HB hn).1⟩
theorem gR{rs:List Rec}{s:Int}{r:Rec}(h:dk rs s=some r):r∈rs/\r.so=s:=by
 unfold dk at h
 exact⟨List.mem_of_find?_eq_some h,by simpa using List.find?_some h⟩
theorem AN{l:Led}(h:bx l)(k:Int):∀ r∈bz l k,dd r=true:=fun r hr=>h.recs r ((List.mem_filter.1 hr).1)
theorem Gr{l:Led}(h:bx l)(k:Int):(bz l k).length<=60:=Nat.le_trans (List.length_filter_le _ _) h.rsn
theorem Gq{l:Led}(h:bx l)(k:Int):(bz l k).Nodup:=by
 refine List.Nodup.sublist List.filter_sublist ?_
 have hs:srt Rec.so l.rs:=A3 (gb.1 h.rs)
 rw[List.nodup_iff_pairwise_ne,List.pairwise_iff_getElem]
 intro i j hi hj bD e
 have :=hs i j hi hj bD
 rw[e]at this
 omega
theorem oe{l:Led}(h:bx l)(k:Int):nP (aF l k)/\(aF l k).rs.Nodup:=by
 have hk:=xJ l k l.ts.length (Nat.le_refl _)
 obtain⟨e1,e2⟩:=ou l k l.ts.length
 refine⟨⟨?_,?_,?_,?_,?_,?_⟩,?_⟩
 ·show bx (aB l k l.ts.length).l;rw[e1];exact h
 ·show ∀ q i,bK (aB l k l.ts.length).bk q=some i->0<=i/\i<(aB l k l.ts.length).l.ts.length
  rw[e1];exact hk.bk
 ·show ∀ r∈(aB l k l.ts.length).rs,_;rw[e2];exact AN h k
 ·show (aB l k l.ts.length).rs.length<=60;rw[e2];exact Gr h k
 ·exact Nat.le_trans hk.tn h.tsn
 ·show ∀ i∈(aB l k l.ts.length).ts,0<=i/\i<(aB l k l.ts.length).l.ts.length
  rw[e1];exact fun i hi=>(hk.ts i hi).1
 ·show (aB l k l.ts.length).rs.Nodup;rw[e2];exact Gq h k
noncomputable section
theorem Lx{α:Type}{p:α->Bool}{l:List α}{i:Nat}(h:i<l.length):((l.take (i+1)).filter p)=(l.take i).filter p++(if p l[i]=true then[l[i]]else[]):=uU h
def uJ:FuncId->Option Spec:=fun f=>if f=77 then some S77m else if f=160 then some S160m else if f=162 then some S162 else if f=164 then some S164 else none
theorem aaQ:∀ f s,uJ f=some s->aR Tryz.prog f s:=fun f s h=>by
 unfold uJ at h
 split at h
 ·rename_i e;cases h;subst e;exact TZ
 ·split at h
  ·rename_i e;cases h;subst e;exact T6
  ·split at h
   ·rename_i e;cases h;subst e;exact JI
   ·split at h
    ·rename_i e;cases h;subst e;exact BK
    ·cases h
@[go_sem] theorem aep:uJ 77=some S77m:=rfl
@[go_sem] theorem aes:uJ 160=some S160m:=rfl
@[go_sem] theorem aer:uJ 162=some S162:=rfl
@[go_sem] theorem aeq:uJ 164=some S164:=rfl
def l8(l:Led)(k:Int)(s:Nat):List Rec:=(l.rs.take s).filter fun r=>bJ r.kn r.un k
theorem QH(l:Led)(k:Int):l8 l k l.rs.length=bz l k:=by unfold l8 bz;rw[List.take_length]
theorem QE{l:Led}{k:Int}{i:Nat}(h:i<l.rs.length)(hc:bJ l.rs[i].kn l.rs[i].un k=true):l8 l k (i+1)=l8 l k i++[l.rs[i]]:=by
 unfold l8;rw[Lx h,if_pos hc]
theorem QF{l:Led}{k:Int}{i:Nat}(h:i<l.rs.length)(hc:bJ l.rs[i].kn l.rs[i].un k=false):l8 l k (i+1)=l8 l k i:=by
 unfold l8;rw[Lx h,if_neg (by rw[hc];decide)];simp
theorem QG(l:Led)(k:Int)(i:Nat):(l8 l k i).length<=l.rs.length:=Nat.le_trans (List.length_filter_le _ _) (by simp;omega)
attribute [go_sem] cY
def K29b:List (Nat×Spec):=[(77,S77),(164,S164),(165,S165)]
theorem aaP:KS K29b:=tc JH<|tc BK<|tc BJ<|tn
attribute [go_sem] K29b
theorem R6(l:Led)(k i j:Int)(n:Nat)(x:Vw)(r:Rec)(lv:List Int):zW (iu l k i j n x r lv) (jM 4 r.pa lv) where
 ren:=fun f Ls h=>by obtain⟨a,b,c,d,e,rfl⟩:=kI h;rfl
 clo:=fun dom Ls h hd=>by
  obtain⟨a,b,c,d,e,rfl⟩:=kI h
  have h4:=hd e (by simp)
  simp[D.closL,D.clos,h4,jM]
 reach:=fun Ls s obj R q h cq hF h0=>by
  obtain⟨a,b,c,d,e,rfl⟩:=kI h
  obtain⟨h1,h2,h3,h4,h5,_⟩:=hF
  have en:c7 (((iu l k i j n x r lv).env [a,b,c,d,e]).map (·.d))=[a,e]:=rfl
  have ec:c7 (jM 4 r.pa lv [a,b,c,d,e])=[e]:=rfl
  rw[ec]
  show dJ obj (q+90+1+1+1+1+1+1+1+1+1+1+1) _ []=_
  simp only[List.nodup_cons,List.mem_cons,List.not_mem_nil,or_false,not_or,not_false_eq_true,List.nodup_nil,and_true]at cq
  obtain⟨⟨r1,r2,r3,r4,r5⟩,⟨a1,a2,a3,a4⟩,⟨b1,b2,b3⟩,⟨c1,c2⟩,e1⟩:=cq
  simp[dJ,gS,h0,h1,h2,h3,h4,h5,Lp.rc,mi,en,c7,ly,bu,Ne.symm r1,Ne.symm r2,Ne.symm r3,Ne.symm r4,Ne.symm r5,Ne.symm a1,Ne.symm a2,Ne.symm a3,Ne.symm a4,Ne.symm b1,Ne.symm b2,Ne.symm b3,Ne.symm c1,Ne.symm c2,Ne.symm e1]
theorem Yt(b:Bk)(so i:Int){lv:List Int}{s:Nat}(h:s<lv.length):o7 b so i (lv.take (s+1))=qz (o7 b so i (lv.take s)) (so,lv[s]) i:=by
 unfold o7
 rw[List.take_add_one,List.getElem?_eq_getElem h,List.foldl_append]
 rfl
def zQ:NSpec:=n2 oz iI (fun l _=>bx l) (fun l k=>[([26,0],bu (aF l k) [23,0] [24,0]),([23,0],.map 2 (bS (aF l k).bk)),([24,0],.map 0 (bI (aF l k).ds))]) (fun _ _=>.ref [26,0] 0)
def S76:Spec:=zQ.toSpec
attribute [go_sem] zQ S76
set_option maxHeartbeats 16000000 in
theorem BI:aR Tryz.prog 76 S76:=by
 refine Hv (nt:=181) (rs:=[.tmp 4]) Tryz.func76 rfl (by rfl) (by kernel_rfl) (by kernel_rfl) (by decide) ?_
 intro xs hp
 obtain⟨l,k,rfl,hp,eP,fY⟩:=HC hp
 replace eP:zQ.new _=_:=eP
 replace fY:zQ.d _=_:=fY
 rw[eP,fY]
 clear eP fY
 refine⟨lb rfl,?_⟩
 have hP:=dL
 simp only[iI,iB,cH,iP,iR,iT,iS,iL,oz,eW,iC,iF,gJ,encR,fv,encS,dA,jH,List.map_cons,List.map_nil,dC,Nat.zero_add]
 have hΓ:=aaQ
 have oG:l.rs.length<=maxLen:=by have:=hp.rsn;unfold maxLen;omega
 have i6:l.ts.length<=maxLen:=by have:=hp.tsn;unfold maxLen;omega
 repeat refine sq ?_
 refine rx hΓ [0,1] [] (fun K' hK=>by simp only[go_sem];exact ak) ?_
 repeat refine sq ?_
 refine rx hΓ [0,1,5] [[5,0],[23,0],[24,0],[26,0],[49,0],[124,0]] (fun K' hK=>by simp only[go_sem];exact ak) ?_
 refine dp (z5 [26,0] [49,0] 1 7 _ rfl rfl rfl [0,1,5] [[5,0],[23,0],[24,0],[26,0],[49,0],[124,0]] ?_ rfl) ?_
 ·simp only[go_sem,List.set_cons_succ,List.set_cons_zero]
 simp only[go_sem,List.set_cons_succ,List.set_cons_zero]
 refine dp (z5 [26,0] [124,0] 2 1 _ rfl rfl rfl [0,1,5] [[5,0],[23,0],[24,0],[26,0],[49,0],[124,0]] ?_ rfl) ?_
 ·simp only[go_sem,List.set_cons_succ,List.set_cons_zero]
 simp only[go_sem,List.set_cons_succ,List.set_cons_zero]
 repeat refine sq ?_
 refine rx hΓ [0,1,5,30,31,32] [[5,0],[23,0],[24,0],[26,0],[49,0],[124,0]] (fun K' hK=>by simp only[go_sem];exact ak) ?_
 repeat refine sq ?_
 refine aH ?_
 repeat refine sq ?_
 refine bB (fun s:Nat=>[(32,⟨true,.v (vInt s)⟩)]) (fun s=>[([26,0],.box [.v (jH l),.msl [49,0] (l8 l k s).length,.msl [124,0] 0,.map [23,0],.map [24,0]]),([49,0],.arr 7 ((l8 l k s).map encR))]) (fun s=>s<=l.rs.length) (fun s=>l.rs.length-s) 0 ?_ ?_ ?_ ?_
 ·exact Nat.zero_le _
 ·rfl
 ·rfl
 rintro i hi
 simp only[go_sem]
 repeat refine sq ?_
 refine rx hΓ [0,1,5,30,31,32,33] [[5,0],[23,0],[24,0],[26,0],[49,0],[124,0]] (fun K' hK=>by simp only[go_sem];exact ak) ?_
 repeat refine sq ?_
 refine av (fun hb=>?_) fun hb=>?_
 ·have ab:i<l.rs.length:=by simpa using hb
  have an:(i:Int)<l.rs.length:=by omega
  clear hb
  have p9:=QG l k i
  have fm:=hp.rsn
  repeat refine sq ?_
  refine ax ?_
  repeat refine sq ?_
  refine aH ?_
  repeat refine sq ?_
  refine rx hΓ [0,1,5,7,30,31,32] [[5,0],[7,0],[23,0],[24,0],[26,0],[49,0],[124,0]] (fun K' hK=>by simp only[go_sem,ae ab,ah,ai,an];exact ak) ?_
  repeat refine sq ?_
  refine rx hΓ [0,1,5,7,30,31,32,41] [[5,0],[7,0],[23,0],[24,0],[26,0],[49,0],[124,0]] (fun K' hK=>by simp only[go_sem,ae ab,ah,ai,an];exact ak) ?_
  repeat refine sq ?_
  refine av (fun hb=>?_) fun hb=>?_
  ·repeat refine sq ?_
   have hT:=QE ab hb
   repeat refine sq ?_
   refine uz hΓ hP [[],[],[1],[1,2],[1,2,3],[],[5],[1,2,3,4,5,6],u8,u9,bO] (by kernel_rfl) fun K' hK=>?_
   simp only[go_sem,ae ab,ah,ai,an]
   repeat (refine⟨ao,?_⟩)
   first | refine⟨by rfl,?_⟩ | skip
   refine hK _ ?_
   clear K' hK
   simp only[go_sem]
   refine kp [0,1,5,30,31,32] [[5,0],[23,0],[24,0],[26,0],[49,0],[124,0]] ?_
   repeat refine sq ?_
   refine aM hΓ fun K' hK=>?_
   simp only[go_sem,ae ab,ah,ai,an]
   repeat (refine⟨ao,?_⟩)
   refine hK _ ?_
   clear K' hK
   simp only[go_sem]
   refine⟨i+1,ab,by(show l.rs.length-(i+1)<l.rs.length-i;omega),?_⟩
   refine aY [0,1,5,30,31,32] [[5,0],[23,0],[24,0],[26,0],[49,0],[124,0]] ?_ ?_<;>simp only[go_sem,aT ab oG,aU,hT,List.map_append,List.map_cons,List.map_nil,List.length_append,List.length_cons,List.length_nil]
  ·repeat refine sq ?_
   have hT:=QF ab hb
   refine ax ?_
   refine bE ?_
   simp only[go_sem]
   refine kp [0,1,5,30,31,32] [[5,0],[23,0],[24,0],[26,0],[49,0],[124,0]] ?_
   repeat refine sq ?_
   refine aM hΓ fun K' hK=>?_
   simp only[go_sem,ae ab,ah,ai,an]
   repeat (refine⟨ao,?_⟩)
   refine hK _ ?_
   clear K' hK
   simp only[go_sem]
   refine⟨i+1,ab,by(show l.rs.length-(i+1)<l.rs.length-i;omega),?_⟩
   refine aY [0,1,5,30,31,32] [[5,0],[23,0],[24,0],[26,0],[49,0],[124,0]] ?_ ?_<;>simp only[go_sem,aT ab oG,aU,hT,List.map_append,List.map_cons,List.map_nil,List.length_append,List.length_cons,List.length_nil]
 ·have be:i=l.rs.length:=by
   have :¬ (i:Int)<l.rs.length:=by simpa using hb
   omega
  clear hb
  subst be
  repeat refine sq ?_
  refine bp ?_
  simp only[go_sem]
  refine kp [0,1,5] [[5,0],[23,0],[24,0],[26,0],[49,0],[124,0]] ?_
  simp only[QH]
  repeat refine sq ?_
  refine rx hΓ [0,1,5,56,57,58] [[5,0],[23,0],[24,0],[26,0],[49,0],[124,0]] (fun K' hK=>by simp only[go_sem];exact ak) ?_
  refine dp (z6 [26,0] [49,0] 1 _ _ _ _ rfl rfl rfl (by first | rfl | (simp only[List.length_map];done)) [0,1,5,56,57,58] [[5,0],[23,0],[24,0],[26,0],[49,0],[124,0]] ?_ rfl) ?_
  ·simp only[go_sem,List.set_cons_succ,List.set_cons_zero]
  simp only[go_sem,List.set_cons_succ,List.set_cons_zero]
  repeat refine sq ?_
  refine aH ?_
  repeat refine sq ?_
  refine bB (fun s:Nat=>[(58,⟨true,.v (vInt s)⟩)]) (fun s=>[([26,0],.box [.v (jH l),.v (.sl ((bz l k).map encR)),.msl [124,0] (aB l k s).ts.length,.map [23,0],.map [24,0]]),([124,0],.arr 1 ((aB l k s).ts.map vInt)),([23,0],.map 2 (bS (aB l k s).bk)),([24,0],.map 0 (bI (aB l k s).ds))]) (fun s=>s<=l.ts.length) (fun s=>l.ts.length-s) 0 ?_ ?_ ?_ ?_
  ·exact Nat.zero_le _
  ·rfl
  ·rfl
  rintro i1 hi
  simp only[go_sem]
  repeat refine sq ?_
  refine rx hΓ [0,1,5,56,57,58,59] [[5,0],[23,0],[24,0],[26,0],[49,0],[124,0]] (fun K' hK=>by simp only[go_sem];exact ak) ?_
  repeat refine sq ?_
  refine av (fun hb=>?_) fun hb=>?_
  ·have ay:i1<l.ts.length:=by simpa using hb
   have aQ:(i1:Int)<l.ts.length:=by omega
   clear hb
   have hx:aK l i1=l.ts[i1]:=jQ ay
   obtain⟨e1,e2⟩:=ou l k i1
   have hk:=xJ l k i1 (Nat.le_of_lt ay)
   have jw:=hp.rets ay
   rw[hx]at jw
   have qd:=(QN jw).2
   have Ku:l.ts[i1].lv.length<=maxLen:=by unfold maxLen;omega
   have oB:=hk.tn
   have ad2:=hp.tsn
   have rF:∀ (obj:Name->Option O) (t:Name),obj [26,0]=some (.box [.v (jH l),.v (.sl ((bz l k).map encR)),.msl [124,0] (aB l k i1).ts.length,.map [23,0],.map [24,0]])->obj [124,0]=some (.arr 1 ((aB l k i1).ts.map vInt))->obj [23,0]=some (.map 2 (bS (aB l k i1).bk))->obj [24,0]=some (.map 0 (bI (aB l k i1).ds))->
       S77m.app obj t [.ref [26,0] 0,.v (vInt l.ts[i1].re)]=⟨True,.tup [mb (dk (bz l k) l.ts[i1].re),.v (.bool (dk (bz l k) l.ts[i1].re).isSome)],obj⟩:=fun obj t h1 h2 h3 h4=>by
    have :=Ro.c_app AR (a:=(aB l k i1,l.ts[i1].re)) trivial (t:=t) (obj:=obj) (Ls:=[[26,0],[124,0],[23,0],[24,0]]) rfl (by decide) (by show cY obj _ (ql (aB l k i1) _);simp only[ql,kj,e1,e2];exact⟨h1,h2,h3,h4,trivial⟩)
    refine this.trans ?_
    show (⟨True,.tup [mb (dk (aB l k i1).rs l.ts[i1].re),.v (.bool (dk (aB l k i1).rs l.ts[i1].re).isSome)],obj⟩:R)=_
    rw[e2]
   have VO:∀ (r:Rec) (obj:Name->Option O) (t:Name),obj [5,0]=some (.box [.ref [26,0] 0])->obj [26,0]=some (.box [.v (jH l),.v (.sl ((bz l k).map encR)),.msl [124,0] (aB l k i1).ts.length,.map [23,0],.map [24,0]])->obj [124,0]=some (.arr 1 ((aB l k i1).ts.map vInt))->obj [23,0]=some (.map 2 (bS (aB l k i1).bk))->obj [24,0]=some (.map 0 (bI (aB l k i1).ds))->
       S160m.app obj t [.v (.sl (l.ts[i1].lv.map vInt)),.clo (.func 163) [] [.ref [5,0] 0,.v (.ptr [vInt r.so,vInt r.bo,vInt r.pa,.sl (r.lv.map vInt),vInt r.da,vInt r.kn,vInt r.un])]]=⟨True,.v (.bool (l.ts[i1].lv.any (il (aB l k i1).bk r))),obj⟩:=fun r obj t h0 h1 h2 h3 h4=>by
    have :=Ro.c_app (uB lM) (a:=(aB l k i1,r,l.ts[i1].lv)) Ku (t:=t) (obj:=obj) (Ls:=[[5,0],[26,0],[124,0],[23,0],[24,0]]) rfl (by decide) (by
     show cY obj _ (.box [.ref [26,0] 0]::ql (aB l k i1) [[26,0],[124,0],[23,0],[24,0]])
     simp only[ql,kj,e1,e2];exact⟨h0,h1,h2,h3,h4,trivial⟩)
    exact this
   repeat refine sq ?_
   refine ax ?_
   repeat refine sq ?_
   refine aH ?_
   repeat refine sq ?_
   refine rx hΓ [0,1,5,8,9,56,57,58] [[5,0],[9,0],[23,0],[24,0],[26,0],[49,0],[124,0]] (fun K' hK=>by simp only[go_sem,ae ay,ah,ai,aQ];exact ak) ?_
   rcases dY:dk (bz l k) l.ts[i1].re with _ | r
   ·have qb:aB l k (i1+1)=aB l k i1:=tD (RF (by rw[hx];exact dY))
    repeat refine sq ?_
    refine rx hΓ [0,1,5,8,9,10,11,56,57,58] [[5,0],[9,0],[10,0],[23,0],[24,0],[26,0],[49,0],[124,0]] (fun K' hK=>by simp only[go_sem,ae ay,ah,ai,aQ,dY,bd,Option.isSome_none];rw[rF _ _ rfl rfl rfl rfl];simp only[go_sem,ae ay,ah,ai,aQ,dY,bd,Option.isSome_none];exact ak) ?_
    refine dp (gy 10 (.ref [10,0] 0) (by simp only[go_sem]) (by simp only[go_sem]) [0,1,5,8,9,10,11,56,57,58] [[5,0],[9,0],[10,0],[23,0],[24,0],[26,0],[49,0],[124,0]] ?_ rfl) ?_
    ·simp only[go_sem]
    simp only[go_sem]
    repeat refine sq ?_
    refine rx hΓ [0,1,5,8,9,10,56,57,58,80] [[5,0],[9,0],[10,0],[23,0],[24,0],[26,0],[49,0],[124,0]] (fun K' hK=>by simp only[go_sem,ae ay,ah,ai,aQ,dY,bd,Option.isSome_none];exact ak) ?_
    repeat refine sq ?_
    refine av (fun hb=>?_) fun hb=>?_
    ·repeat refine sq ?_
     refine bp ?_
     simp only[go_sem]
     refine kp [0,1,5,56,57,58] [[5,0],[23,0],[24,0],[26,0],[49,0],[124,0]] ?_
     repeat refine sq ?_
     refine aM hΓ fun K' hK=>?_
     simp only[go_sem,ae ay,ah,ai,aQ,dY,bd,Option.isSome_none]
     repeat (refine⟨ao,?_⟩)
     refine hK _ ?_
     clear K' hK
     simp only[go_sem]
     refine⟨i1+1,ay,by(show l.ts.length-(i1+1)<l.ts.length-i1;omega),?_⟩
     refine aY [0,1,5,56,57,58] [[5,0],[23,0],[24,0],[26,0],[49,0],[124,0]] ?_ ?_<;>simp only[go_sem,aT ay i6,aU,qb]
    ·cases hb
   ·obtain⟨xZ,ca⟩:=gR dY
    have bX:=AN hp k r xZ
    have ix:=uL (Gx bX)
    repeat refine sq ?_
    refine rx hΓ [0,1,5,8,9,10,11,56,57,58] [[5,0],[9,0],[10,0],[23,0],[24,0],[26,0],[49,0],[124,0]] (fun K' hK=>by simp only[go_sem,ae ay,ah,ai,aQ,dY,aW,Option.isSome_some];rw[rF _ _ rfl rfl rfl rfl];simp only[go_sem,ae ay,ah,ai,aQ,dY,aW,Option.isSome_some];exact ak) ?_
    refine dp (gy 10 (.ref [10,0] 0) (by simp only[go_sem]) (by simp only[go_sem]) [0,1,5,8,9,10,11,56,57,58] [[5,0],[9,0],[10,0],[23,0],[24,0],[26,0],[49,0],[124,0]] ?_ rfl) ?_
    ·simp only[go_sem]
    simp only[go_sem]
    repeat refine sq ?_
    refine rx hΓ [0,1,5,8,9,10,56,57,58,80] [[5,0],[9,0],[10,0],[23,0],[24,0],[26,0],[49,0],[124,0]] (fun K' hK=>by simp only[go_sem,ae ay,ah,ai,aQ,dY,aW,Option.isSome_some];exact ak) ?_
    repeat refine sq ?_
    refine av (fun hb=>?_) fun hb=>?_
    ·repeat refine sq ?_
     have qb:aB l k (i1+1)=aB l k i1:=tD (RE (by rw[hx];exact dY) (by rw[hx];simpa using hb))
     refine bp ?_
     simp only[go_sem]
     refine kp [0,1,5,56,57,58] [[5,0],[23,0],[24,0],[26,0],[49,0],[124,0]] ?_
     repeat refine sq ?_
     refine aM hΓ fun K' hK=>?_
     simp only[go_sem,ae ay,ah,ai,aQ,dY,aW,Option.isSome_some]
     repeat (refine⟨ao,?_⟩)
     refine hK _ ?_
     clear K' hK
     simp only[go_sem]
     refine⟨i1+1,ay,by(show l.ts.length-(i1+1)<l.ts.length-i1;omega),?_⟩
     refine aY [0,1,5,56,57,58] [[5,0],[23,0],[24,0],[26,0],[49,0],[124,0]] ?_ ?_<;>simp only[go_sem,aT ay i6,aU,qb]
    ·repeat refine sq ?_
     have VL:bJ l.ts[i1].kn l.ts[i1].un k=true:=by simpa using hb
     refine ax ?_
     repeat refine sq ?_
     refine rx hΓ [0,1,5,8,9,10,12,56,57,58] [[5,0],[9,0],[10,0],[23,0],[24,0],[26,0],[49,0],[124,0]] (fun K' hK=>by simp only[go_sem,ae ay,ah,ai,aQ,dY,aW,Option.isSome_some,ix];exact ak) ?_
     obtain⟨fs,qg⟩:∃ fs,cg l.ts[i1].lo (r.da+1)=fs:=⟨_,rfl⟩
     have KF:=qg
     unfold cg at KF
     rw[KF]
     repeat refine sq ?_
     refine rx hΓ [0,1,5,8,9,10,12,13,56,57,58] [[5,0],[9,0],[10,0],[23,0],[24,0],[26,0],[49,0],[124,0]] (fun K' hK=>by simp only[go_sem,ae ay,ah,ai,aQ,dY,aW,Option.isSome_some];exact ak) ?_
     repeat refine sq ?_
     refine rx hΓ [0,1,5,8,9,10,12,56,57,58,99] [[5,0],[9,0],[10,0],[23,0],[24,0],[26,0],[49,0],[124,0]] (fun K' hK=>by simp only[go_sem,ae ay,ah,ai,aQ,dY,aW,Option.isSome_some];rw[VO r _ _ rfl rfl rfl rfl rfl];simp only[go_sem,ae ay,ah,ai,aQ,dY,aW,Option.isSome_some];exact ak) ?_
     repeat refine sq ?_
     refine av (fun hb=>?_) fun hb=>?_
     ·repeat refine sq ?_
      have qb:aB l k (i1+1)=aB l k i1:=tD (RD (by rw[hx];exact dY) (by rw[hx,qg];exact hb))
      refine bp ?_
      simp only[go_sem]
      refine kp [0,1,5,56,57,58] [[5,0],[23,0],[24,0],[26,0],[49,0],[124,0]] ?_
      repeat refine sq ?_
      refine aM hΓ fun K' hK=>?_
      simp only[go_sem,ae ay,ah,ai,aQ,dY,aW,Option.isSome_some]
      repeat (refine⟨ao,?_⟩)
      refine hK _ ?_
      clear K' hK
      simp only[go_sem]
      refine⟨i1+1,ay,by(show l.ts.length-(i1+1)<l.ts.length-i1;omega),?_⟩
      refine aY [0,1,5,56,57,58] [[5,0],[23,0],[24,0],[26,0],[49,0],[124,0]] ?_ ?_<;>simp only[go_sem,aT ay i6,aU,qb]
     ·repeat refine sq ?_
      have qb:=xI (RC (k:=k) (rs:=bz l k) (bk:=(aB l k i1).bk) (x:=aK l i1) (r:=r) (by rw[hx];exact dY) (by rw[hx];exact VL) (by rw[hx,qg];exact hb))
      rw[hx,qg]at qb
      refine ax ?_
      repeat refine sq ?_
      refine rx hΓ [0,1,5,8,9,10,12,56,57,58,101,102,103] [[5,0],[9,0],[10,0],[23,0],[24,0],[26,0],[49,0],[124,0]] (fun K' hK=>by simp only[go_sem,ae ay,ah,ai,aQ,dY,aW,Option.isSome_some];exact ak) ?_
      repeat refine sq ?_
      refine aH ?_
      repeat refine sq ?_
      refine bB (fun s:Nat=>[(103,⟨true,.v (vInt s)⟩)]) (fun s=>[([23,0],.map 2 (bS (o7 (aB l k i1).bk r.so i1 (l.ts[i1].lv.take s))))]) (fun s=>s<=l.ts[i1].lv.length) (fun s=>l.ts[i1].lv.length-s) 0 ?_ ?_ ?_ ?_
      ·exact Nat.zero_le _
      ·rfl
      ·rfl
      rintro i2 hi
      simp only[go_sem]
      repeat refine sq ?_
      refine rx hΓ [0,1,5,8,9,10,12,56,57,58,101,102,103,104] [[5,0],[9,0],[10,0],[23,0],[24,0],[26,0],[49,0],[124,0]] (fun K' hK=>by simp only[go_sem,ae ay,ah,ai,aQ,dY,aW,Option.isSome_some];exact ak) ?_
      repeat refine sq ?_
      refine av (fun hb=>?_) fun hb=>?_
      ·have br:i2<l.ts[i1].lv.length:=by simpa using hb
       have dg:(i2:Int)<l.ts[i1].lv.length:=by omega
       clear hb
       have WA:=Yt (aB l k i1).bk r.so i1 br
       repeat refine sq ?_
       refine ax ?_
       repeat refine sq ?_
       refine aH ?_
       repeat refine sq ?_
       refine rx hΓ [0,1,5,8,9,10,12,15,56,57,58,101,102,103] [[5,0],[9,0],[10,0],[23,0],[24,0],[26,0],[49,0],[124,0]] (fun K' hK=>by simp only[go_sem,ae ay,ah,ai,aQ,dY,aW,Option.isSome_some,ae br,ah,ai,dg];exact ak) ?_
       repeat refine sq ?_
       refine uz hΓ hP [[],[0],[0,1],[0,1,2],[],[4],[],[4,5,6],[],u9] (by kernel_rfl) fun K' hK=>?_
       simp only[go_sem,ae ay,ah,ai,aQ,dY,aW,Option.isSome_some,ae br,ah,ai,dg,RJ]
       repeat (refine⟨ao,?_⟩)
       first | refine⟨by rfl,?_⟩ | skip
       refine hK _ ?_
       clear K' hK
       simp only[go_sem]
       refine kp [0,1,5,8,9,10,12,56,57,58,101,102,103] [[5,0],[9,0],[10,0],[23,0],[24,0],[26,0],[49,0],[124,0]] ?_
       repeat refine sq ?_
       refine aM hΓ fun K' hK=>?_
       simp only[go_sem,ae ay,ah,ai,aQ,dY,aW,Option.isSome_some,ae br,ah,ai,dg]
       repeat (refine⟨ao,?_⟩)
       refine hK _ ?_
       clear K' hK
       simp only[go_sem]
       refine⟨i2+1,br,by(show l.ts[i1].lv.length-(i2+1)<l.ts[i1].lv.length-i2;omega),?_⟩
       refine aY [0,1,5,8,9,10,12,56,57,58,101,102,103] [[5,0],[9,0],[10,0],[23,0],[24,0],[26,0],[49,0],[124,0]] ?_ ?_<;>simp only[go_sem,aT br Ku,aU,WA]
      ·have jB:i2=l.ts[i1].lv.length:=by
        have :¬ (i2:Int)<l.ts[i1].lv.length:=by simpa using hb
        omega
       clear hb
       subst jB
       repeat refine sq ?_
       refine bp ?_
       simp only[go_sem]
       refine kp [0,1,5,8,9,12,56,57,58] [[5,0],[9,0],[23,0],[24,0],[26,0],[49,0],[124,0]] ?_
       repeat refine sq ?_
       refine dx hΓ hP [[],[],[1],[1,2],[1,2,3],[],[5],[1,2,3,4,5,6],u8,u9,bO] [0,1,5,8,9,12,56,57,58] [[5,0],[9,0],[23,0],[24,0],[26,0],[49,0],[124,0]] (by kernel_rfl) (fun K' hK=>by simp only[go_sem,ae ay,ah,ai,aQ,dY,aW,Option.isSome_some];exact eT) ?_
       repeat refine sq ?_
       refine uz hΓ hP [[],[0],[0,1],[0,1,2],[],[],[],[6],[6,7],[5,6,7,8],bO] (by kernel_rfl) fun K' hK=>?_
       simp only[go_sem,ae ay,ah,ai,aQ,dY,aW,Option.isSome_some,HE]
       repeat (refine⟨ao,?_⟩)
       first | refine⟨by rfl,?_⟩ | skip
       refine hK _ ?_
       clear K' hK
       simp only[go_sem]
       refine kp [0,1,5,56,57,58] [[5,0],[23,0],[24,0],[26,0],[49,0],[124,0]] ?_
       repeat refine sq ?_
       refine aM hΓ fun K' hK=>?_
       simp only[go_sem,ae ay,ah,ai,aQ,dY,aW,Option.isSome_some]
       repeat (refine⟨ao,?_⟩)
       refine hK _ ?_
       clear K' hK
       simp only[go_sem]
       refine⟨i1+1,ay,by(show l.ts.length-(i1+1)<l.ts.length-i1;omega),?_⟩
       refine aY [0,1,5,56,57,58] [[5,0],[23,0],[24,0],[26,0],[49,0],[124,0]] ?_ ?_<;>simp only[go_sem,aT ay i6,aU,qb,List.take_length,List.map_append,List.map_cons,List.map_nil,List.length_append,List.length_cons,List.length_nil]
  ·have er:i1=l.ts.length:=by
    have :¬ (i1:Int)<l.ts.length:=by simpa using hb
    omega
   clear hb
   subst er
   repeat refine sq ?_
   refine bp ?_
   simp only[go_sem]
   refine kp [0,5] [[5,0],[23,0],[24,0],[26,0],[49,0],[124,0]] ?_
   have hk:=xJ l k l.ts.length (Nat.le_refl _)
   obtain⟨e1,e2⟩:=ou l k l.ts.length
   have hΓ:=aaP
   have Uz:(aB l k l.ts.length).ts.length<=maxLen:=Nat.le_trans hk.tn i6
   refine dp (z6 [26,0] [124,0] 2 _ _ _ _ rfl rfl rfl (by first | rfl | (simp only[List.length_map];done)) [0,5] [[5,0],[23,0],[24,0],[26,0],[49,0],[124,0]] ?_ rfl) ?_
   ·simp only[go_sem,List.set_cons_succ,List.set_cons_zero]
   simp only[go_sem,List.set_cons_succ,List.set_cons_zero]
   repeat refine sq ?_
   refine rx hΓ [0,5,141,142,143] [[5,0],[23,0],[24,0],[26,0],[49,0],[124,0]] (fun K' hK=>by simp only[go_sem];exact ak) ?_
   repeat refine sq ?_
   refine aH ?_
   repeat refine sq ?_
   refine bB (fun s:Nat=>[(143,⟨true,.v (vInt s)⟩)]) (fun s=>[([24,0],.map 0 (bI (iv l (bz l k) (aB l k l.ts.length).ts (aB l k l.ts.length).ds s)))]) (fun s=>s<=(aB l k l.ts.length).ts.length) (fun s=>(aB l k l.ts.length).ts.length-s) 0 ?_ ?_ ?_ ?_
   ·exact Nat.zero_le _
   ·rfl
   ·rfl
   rintro i3 hi
   simp only[go_sem]
   repeat refine sq ?_
   refine rx hΓ [0,5,141,142,143,144] [[5,0],[23,0],[24,0],[26,0],[49,0],[124,0]] (fun K' hK=>by simp only[go_sem];exact ak) ?_
   repeat refine sq ?_
   refine av (fun hb=>?_) fun hb=>?_
   ·have dN:i3<(aB l k l.ts.length).ts.length:=by simpa using hb
    have ka:(i3:Int)<(aB l k l.ts.length).ts.length:=by omega
    clear hb
    obtain⟨⟨cO,gW⟩,r,j9⟩:=hk.ts (aB l k l.ts.length).ts[i3] (List.getElem_mem dN)
    have j8:=Ac cO gW
    have hD:iv l (bz l k) (aB l k l.ts.length).ts (aB l k l.ts.length).ds (i3+1)=kG (iv l (bz l k) (aB l k l.ts.length).ts (aB l k l.ts.length).ds i3) (aB l k l.ts.length).ts[i3] r.da (dq (bz l k) r.pa (aK l (aB l k l.ts.length).ts[i3].toNat).lv):=by
     show kG _ ((aB l k l.ts.length).ts.getD i3 0) (lu (bz l k) (aK l ((aB l k l.ts.length).ts.getD i3 0).toNat).re).da (dq _ (lu (bz l k) (aK l ((aB l k l.ts.length).ts.getD i3 0).toNat).re).pa _)=_
     rw[ck dN];unfold lu;rw[j9];rfl
    repeat refine sq ?_
    refine ax ?_
    repeat refine sq ?_
    refine aH ?_
    repeat refine sq ?_
    refine rx hΓ [0,5,17,141,142,143] [[5,0],[17,0],[23,0],[24,0],[26,0],[49,0],[124,0]] (fun K' hK=>by simp only[go_sem,ae dN,ah,ai,ka];exact ak) ?_
    refine dp (gy 17 (.ref [17,0] 0) (by simp only[go_sem]) (by simp only[go_sem]) [0,5,17,141,142,143] [[5,0],[17,0],[23,0],[24,0],[26,0],[49,0],[124,0]] ?_ rfl) ?_
    ·simp only[go_sem]
    simp only[go_sem]
    repeat refine sq ?_
    refine dx hΓ hP [[],[0],[0,1],[0,1,2],[],u5,u6,[],u8] [0,5,17,18,141,142,143] [[5,0],[17,0],[18,0],[23,0],[24,0],[26,0],[49,0],[124,0]] (by kernel_rfl) (fun K' hK=>by simp only[go_sem,ae dN,ah,ai,ka,j8,cO,gW];exact eT) ?_
    refine dp (gy 18 (.ref [18,0] 0) (by simp only[go_sem]) (by simp only[go_sem]) [0,5,17,18,141,142,143] [[5,0],[17,0],[18,0],[23,0],[24,0],[26,0],[49,0],[124,0]] ?_ rfl) ?_
    ·simp only[go_sem]
    simp only[go_sem]
    repeat refine sq ?_
    refine rx hΓ [0,5,17,18,19,141,142,143] [[5,0],[17,0],[18,0],[19,0],[23,0],[24,0],[26,0],[49,0],[124,0]] (fun K' hK=>by simp only[go_sem,ae dN,ah,ai,ka,j9,aW,Option.isSome_some];exact ak) ?_
    refine dp (gy 19 (.ref [19,0] 0) (by simp only[go_sem]) (by simp only[go_sem]) [0,5,17,18,19,141,142,143] [[5,0],[17,0],[18,0],[19,0],[23,0],[24,0],[26,0],[49,0],[124,0]] ?_ rfl) ?_
    ·simp only[go_sem]
    simp only[go_sem]
    repeat refine sq ?_
    refine rx hΓ [0,5,17,19,141,142,143,166] [[5,0],[17,0],[19,0],[23,0],[24,0],[26,0],[49,0],[124,0],[3,0,166,0]] (fun K' hK=>by simp only[go_sem,ae dN,ah,ai,ka];exact ak) ?_
    repeat refine sq ?_
    refine aH ?_
    repeat refine sq ?_
    have cq:=Gq hp k
    have aa:=HO l k (aB l k l.ts.length).ts[i3] (i3:Nat) (aB l k l.ts.length).ts.length ⟨l,bz l k,(aB l k l.ts.length).ts,(aB l k l.ts.length).bk,iv l (bz l k) (aB l k l.ts.length).ts (aB l k l.ts.length).ds i3⟩ r (aK l (aB l k l.ts.length).ts[i3].toNat).lv cq
    have gq:aR Tryz.prog 193 ((iu l k (aB l k l.ts.length).ts[i3] (i3:Nat) (aB l k l.ts.length).ts.length ⟨l,bz l k,(aB l k l.ts.length).ts,(aB l k l.ts.length).bk,iv l (bz l k) (aB l k l.ts.length).ts (aB l k l.ts.length).ds i3⟩ r (aK l (aB l k l.ts.length).ts[i3].toNat).lv).itC (jM 4 r.pa (aK l (aB l k l.ts.length).ts[i3].toNat).lv)).toSpec:=FN aa (fun _=>rfl) (R5 l k (aB l k l.ts.length).ts[i3] (i3:Nat) (aB l k l.ts.length).ts.length ⟨l,bz l k,(aB l k l.ts.length).ts,(aB l k l.ts.length).bk,iv l (bz l k) (aB l k l.ts.length).ts (aB l k l.ts.length).ds i3⟩ r (aK l (aB l k l.ts.length).ts[i3].toNat).lv cq) (AN hp k) (Gr hp k) rfl (fun _=>rfl) (j:=4) (jc:=1) (show 4<5 by decide) rfl rfl
    refine Mo aa (R6 l k (aB l k l.ts.length).ts[i3] (i3:Nat) (aB l k l.ts.length).ts.length ⟨l,bz l k,(aB l k l.ts.length).ts,(aB l k l.ts.length).bk,iv l (bz l k) (aB l k l.ts.length).ts (aB l k l.ts.length).ds i3⟩ r (aK l (aB l k l.ts.length).ts[i3].toNat).lv) (f:=193) 200 201 (Ls:=[[5,0],[26,0],[23,0],[24,0],[3,0,166,0]]) rfl rfl (by decide) gq rfl rfl rfl rfl rfl rfl (by decide) (show ([200,0]:Name)∉[[5,0],[26,0],[23,0],[24,0],[3,0,166,0]]by decide) ⟨rfl,rfl,rfl,rfl,rfl,trivial⟩ fun o=>?_
    obtain⟨g1,g2⟩:=Lp.go_e (r:=(iu l k (aB l k l.ts.length).ts[i3] (i3:Nat) (aB l k l.ts.length).ts.length ⟨l,bz l k,(aB l k l.ts.length).ts,(aB l k l.ts.length).bk,iv l (bz l k) (aB l k l.ts.length).ts (aB l k l.ts.length).ds i3⟩ r (aK l (aB l k l.ts.length).ts[i3].toNat).lv)) (fun _=>rfl)
    have g3:(iu l k (aB l k l.ts.length).ts[i3] (i3:Nat) (aB l k l.ts.length).ts.length ⟨l,bz l k,(aB l k l.ts.length).ts,(aB l k l.ts.length).bk,iv l (bz l k) (aB l k l.ts.length).ts (aB l k l.ts.length).ds i3⟩ r (aK l (aB l k l.ts.length).ts[i3].toNat).lv).fam [[5,0],[26,0],[23,0],[24,0],[3,0,166,0]] (iu l k (aB l k l.ts.length).ts[i3] (i3:Nat) (aB l k l.ts.length).ts.length ⟨l,bz l k,(aB l k l.ts.length).ts,(aB l k l.ts.length).bk,iv l (bz l k) (aB l k l.ts.length).ts (aB l k l.ts.length).ds i3⟩ r (aK l (aB l k l.ts.length).ts[i3].toNat).lv).e=[.box [.ref [26,0] 0],bu ⟨l,bz l k,(aB l k l.ts.length).ts,(aB l k l.ts.length).bk,iv l (bz l k) (aB l k l.ts.length).ts (aB l k l.ts.length).ds i3⟩ [23,0] [24,0],.map 2 (bS (aB l k l.ts.length).bk),.map 0 (bI (iv l (bz l k) (aB l k l.ts.length).ts (aB l k l.ts.length).ds (i3+1))),.box [.ref [26,0] 0]]:=by
     rw[g1,hD,<-List.take_length (l:=dq (bz l k) r.pa (aK l (aB l k l.ts.length).ts[i3].toNat).lv)]
     rfl
    rw[g2,g3]
    simp only[xr,jl]
    refine bE ?_
    show CL Tryz.prog (_::_) _ _
    refine eJ [0,5,141,142,143] [[5,0],[23,0],[24,0],[26,0],[49,0],[124,0]] ?_ ?_
    ·simp only[go_sem,dV]
    simp only[go_sem,dV]
    repeat refine sq ?_
    refine aM hΓ fun K' hK=>?_
    simp only[go_sem]
    repeat (refine⟨ao,?_⟩)
    refine hK _ ?_
    clear K' hK
    simp only[go_sem]
    refine⟨i3+1,dN,by(show (aB l k l.ts.length).ts.length-(i3+1)<(aB l k l.ts.length).ts.length-i3;omega),?_⟩
    refine aY [0,5,141,142,143] [[5,0],[23,0],[24,0],[26,0],[49,0],[124,0]] ?_ ?_<;>simp only[go_sem,aT dN Uz,aU]
   ·have v5:i3=(aB l k l.ts.length).ts.length:=by
     have :¬ (i3:Int)<(aB l k l.ts.length).ts.length:=by simpa using hb
     omega
    clear hb
    subst v5
    repeat refine sq ?_
    refine bp ?_
    simp only[go_sem]
    refine kp [5] [[5,0],[23,0],[24,0],[26,0],[49,0],[124,0]] ?_
    repeat refine sq ?_
    refine rx hΓ [4] [[23,0],[24,0],[26,0],[49,0],[124,0]] (fun K' hK=>by simp only[go_sem];exact ak) ?_
    refine au ?_
    simp only[go_sem]
    rw[show (aF l k).l=l from e1,show (aF l k).rs=bz l k from e2];first | exact⟨rfl,rfl,rfl⟩ | exact⟨rfl,rfl,rfl,trivial⟩ | exact⟨⟨rfl,rfl,rfl⟩,rfl⟩ | trace_state
end
set_option maxHeartbeats 8000000
noncomputable section
def cI(l:Led)(ds:List Int):Int:=if lL l=0 then bH (!ds.any fun d=>!dayB d) 6 else lL l
theorem Q5:pG (161,[])=fun n=>!dayB n:=rfl
theorem Rn:xy (161,[]):=.inl rfl
def K30a:List (Nat×Spec):=[(37,Et),(160,S160)]
theorem aaO:KS K30a:=tc PS.sound<|tc JJ<|tn
attribute [go_sem] K30a
@[go_sem] def P75:PSpec:=p2 iL cH (fun _ _=>True) (fun l ds=>vInt (cI l ds)) true
@[go_sem] def m5:Spec:=P75.toSpec
theorem Ar:aN Tryz.prog 75 P75:=by
 refine cX (rs:=[.tmp 4]) Tryz.func75 Tryz.ntmps75 fun l ds hp hw=>?_
 simp only[cH,iL,dA]at hw |-
 have hΓ:=aaO
 repeat refine sq ?_
 refine rx hΓ [1,2] [[2,0]] (fun K' hK=>by simp only[go_sem];exact ak) ?_
 refine dp (gy 2 (.ref [2,0] 0) (by simp only[go_sem]) (by simp only[go_sem]) [1,2] [[2,0]] ?_ rfl) ?_
 ·simp only[go_sem]
 simp only[go_sem]
 repeat refine sq ?_
 refine rx hΓ [1,5] [] (fun K' hK=>by simp only[go_sem];exact ak) ?_
 repeat refine sq ?_
 refine rx hΓ [1,5,9] [] (fun K' hK=>by simp only[go_sem];exact ak) ?_
 repeat refine sq ?_
 refine av (fun hb=>?_) fun hb=>?_
 ·repeat refine sq ?_
  have hc:¬ lL l=0:=by simpa using hb
  unfold cI;rw[if_neg hc]
  repeat refine sq ?_
  refine rx hΓ [4] [] (fun K' hK=>by simp only[go_sem];exact ak) ?_
  refine au ?_
  simp only[go_sem]
  all_goals exact c9
 ·repeat refine sq ?_
  have hc:lL l=0:=by simpa using hb
  unfold cI;rw[if_pos hc]
  refine ax ?_
  repeat refine sq ?_
  refine rx hΓ [12] [] (fun K' hK=>by simp only[go_sem,Rn,Q5];exact ak) ?_
  repeat refine sq ?_
  refine av (fun hb=>?_) fun hb=>?_
  ·repeat refine sq ?_
   rw[show (ds.any fun d=>!dayB d)=true from hb]
   repeat refine sq ?_
   refine rx hΓ [4] [] (fun K' hK=>by simp only[go_sem];exact ak) ?_
   refine au ?_
   simp only[go_sem]
   all_goals exact c9
  ·repeat refine sq ?_
   rw[show (ds.any fun d=>!dayB d)=false from hb]
   refine ax ?_
   repeat refine sq ?_
   refine rx hΓ [4] [] (fun K' hK=>by simp only[go_sem];exact ak) ?_
   refine au ?_
   simp only[go_sem]
   all_goals exact c9
def K30b:List (Nat×Spec):=[(76,S76),(128,S128)]
theorem aaN:KS K30b:=tc BI<|tc JM<|tn
attribute [go_sem] K30b
@[go_sem] def P123:PSpec:=p3 oz iI (eW iS) (fun l _ ss=>(bx l/\ss.length<=60)/\∀ s∈ss,pz s) (fun l k ss=>.bool (ei (aF l k) ss)) true
@[go_sem] def NG:Spec:=P123.toSpec
theorem F1:aN Tryz.prog 123 P123:=by
 refine gO (rs:=[.tmp 6]) Tryz.func123 Tryz.ntmps123 fun l k ss hp hw=>?_
 simp only[iI,oz,iS,eW,jH,encS]at hw |-
 have hΓ:=aaN
 obtain⟨⟨aa,qe⟩,vN⟩:=hp
 repeat refine sq ?_
 refine rx hΓ [0,1,2] [] (fun K' hK=>by simp only[go_sem];exact ak) ?_
 repeat refine sq ?_
 refine rx hΓ [6] [] (fun K' hK=>by simp only[go_sem];(repeat (refine⟨by first | exact ao | exact⟨⟨oe aa k,qe⟩,vN⟩,?_⟩));exact ct) ?_
 refine au ?_
 simp only[go_sem]
 all_goals exact c9
def uM(x:Vw)(t:Name):List (Name×O):=[(26::0::t,bu x (23::0::t) (24::0::t)),(23::0::t,.map 2 (bS x.bk)),(24::0::t,.map 0 (bI x.ds))]
def Eo:Option (Int×Int)->Vw->List (Name×O)
 |none,x=>uM x [11,0]
 |some _,_=>[]
def Em:Option (Int×Int)->D
 |none=>.tup [.ref [26,0,11,0] 0,.v (vInt 0)]
 |some _=>.tup [.v .nilp,.v (vInt 25)]
attribute [go_sem] uM
theorem cD(x:Vw):Eo none x=uM x [11,0]:=rfl
theorem nN(p:Int×Int)(x:Vw):Eo (some p) x=[]:=rfl
theorem cC:Em none=.tup [.ref [26,0,11,0] 0,.v (vInt 0)]:=rfl
theorem nM(p:Int×Int):Em (some p)=.tup [.v .nilp,.v (vInt 25)]:=rfl
theorem s6(p:Int×Int):xp (some p)=.tup [.v (.sl [vInt p.1,vInt p.2]),.v (.bool true)]:=rfl
theorem s7:xp none=.tup [.nilsl,.v (.bool false)]:=rfl
def K30c:List (Nat×Spec):=[(76,S76),(120,S120)]
theorem aaM:KS K30c:=tc BI<|tc JN<|tn
attribute [go_sem] K30c
def zR:NSpec:=n2 oz iI (fun l _=>bx l) (fun l k=>Eo (dR (aF l k)) (aF l k)) (fun l k=>Em (dR (aF l k)))
def S121:Spec:=zR.toSpec
attribute [go_sem] zR S121
theorem BM:aR Tryz.prog 121 S121:=by
 refine Hv (nt:=19) (rs:=[.tmp 4,.tmp 5]) Tryz.func121 rfl (by rfl) (by kernel_rfl) (by kernel_rfl) (by decide) ?_
 intro xs hp
 obtain⟨l,k,rfl,hp,eP,fY⟩:=HC hp
 replace eP:zR.new _=_:=eP
 replace fY:zR.d _=_:=fY
 rw[eP,fY]
 clear eP fY
 refine⟨lb rfl,?_⟩
 simp only[iI,iB,cH,iP,iR,iT,iS,iL,oz,eW,iC,iF,gJ,encR,fv,encS,dA,jH,List.map_cons,List.map_nil,dC,Nat.zero_add]
 have hΓ:=aaM
 repeat refine sq ?_
 refine rx hΓ [0,1] [] (fun K' hK=>by simp only[go_sem];exact ak) ?_
 repeat refine sq ?_
 refine rx hΓ [6] [[26,0,11,0],[23,0,11,0],[24,0,11,0]] (fun K' hK=>by simp only[go_sem];exact ak) ?_
 rcases bq:dR (aF l k)with _ | p
 ·repeat refine sq ?_
  refine rx hΓ [6,8] [[26,0,11,0],[23,0,11,0],[24,0,11,0]] (fun K' hK=>by simp only[go_sem,bq,s7];(repeat (refine⟨by first | exact ao | exact(oe hp k).1,?_⟩));exact ct) ?_
  repeat refine sq ?_
  refine rx hΓ [6,17] [[26,0,11,0],[23,0,11,0],[24,0,11,0]] (fun K' hK=>by simp only[go_sem,bq,s7];exact ak) ?_
  repeat refine sq ?_
  refine av (fun hb=>?_) fun hb=>?_
  ·cases hb
  ·repeat refine sq ?_
   refine ax ?_
   repeat refine sq ?_
   refine rx hΓ [4,5] [[26,0,11,0],[23,0,11,0],[24,0,11,0]] (fun K' hK=>by simp only[go_sem,bq,s7];exact ak) ?_
   refine au ?_
   simp only[go_sem,cD,cC,nN,nM]
   all_goals first | done | rfl | trace_state
 ·repeat refine sq ?_
  refine rx hΓ [6,8] [[26,0,11,0],[23,0,11,0],[24,0,11,0]] (fun K' hK=>by simp only[go_sem,bq,s6];(repeat (refine⟨by first | exact ao | exact(oe hp k).1,?_⟩));exact ct) ?_
  repeat refine sq ?_
  refine rx hΓ [6,17] [[26,0,11,0],[23,0,11,0],[24,0,11,0]] (fun K' hK=>by simp only[go_sem,bq,s6];exact ak) ?_
  repeat refine sq ?_
  refine av (fun hb=>?_) fun hb=>?_
  ·repeat refine sq ?_
   refine rx hΓ [4,5] [[26,0,11,0],[23,0,11,0],[24,0,11,0]] (fun K' hK=>by simp only[go_sem,bq,s6];exact ak) ?_
   refine au ?_
   simp only[go_sem,cD,cC,nN,nM]
   all_goals first | done | rfl | trace_state
  ·cases hb
theorem An{l:Led}(h:bx l)(k:Int):(aX l k).length<=60/\∀ s∈aX l k,pz s:=by
 refine⟨Nat.le_trans (List.length_filter_le _ _) h.ssn,fun s hs=>?_⟩
 obtain⟨j,hj,rfl⟩:=List.getElem_of_mem (List.mem_filter.1 hs).1
 have :=nL h.ss hj
 unfold iU at this
 simp only[Bool.and_eq_true]at this
 have hd:=this.1.2
 unfold dayB cj at hd
 simp at hd
 exact hd
def uV(x:Vw)(k:Int):Vw:={ x with ds:=ft x x.ds (aX x.l k) }
def Ft:Option (Int×Int)->Bool->Vw->Int->List (Name×O)
 |none,true,x,k=>uM (uV x k) [11,0,11,0]
 |_,_,_,_=>[]
def OI:Option (Int×Int)->Bool->Int
 |some _,_=>25
 |none,false=>27
 |none,true=>0
def Fs:Option (Int×Int)->Bool->D
 |some _,_=>.tup [.v .nilp,.v (vInt 25)]
 |none,false=>.tup [.v .nilp,.v (vInt 27)]
 |none,true=>.tup [.ref [26,0,11,0,11,0] 0,.v (vInt 0)]
def aaL:List (Nat×Spec):=[(121,S121),(122,S122),(128,S128)]
attribute [go_sem] aaL
end
set_option maxHeartbeats 8000000
noncomputable section
theorem oh(l:Led)(k:Int):(aF l k).l=l:=(ou l k l.ts.length).1
theorem qs{l:Led}{ds:List Int}(h:cI l ds=0):bx l/\∀ d∈ds,dayB d=true:=by
 unfold cI at h
 split at h
 ·rename_i hc
  refine⟨?_,?_⟩
  ·refine Classical.byContradiction fun hn=>?_
   rw[mQ hn]at hc;cases hc
  ·unfold bH at h
   split at h
   ·rename_i hd
    intro d CO
    have :(ds.any fun d=>!dayB d)=false:=by simpa using hd
    rw[List.any_eq_false]at this
    have :=this d CO
    simpa using this
   ·cases h
 ·rename_i hc;exact(hc h).elim
def na(l:Led)(i:Int):Int:=(aK l i.toNat).so
def uR(l:Led)(k:Int):V:=if cI l [k]=0 then .tup [.sl ((((aF l k).ts).map (na l)).map vInt),vInt 0]else .tup [.sl [],vInt (cI l [k])]
def wy(l:Led)(k:Int):V:=if cI l [k]=0 then(match dR (aF l k)with | some p=>.tup [.sl [vInt p.1,vInt p.2],vInt 0] | none=>.tup [.sl [],vInt 28])else .tup [.sl [],vInt (cI l [k])]
def lq(l:Led)(k:Int):Bool:=(dR (aF l k)).isNone&&ei (aF l k) (aX (aF l k).l k)
def uZ(l:Led)(k:Int):V:=if cI l [k]=0 then .tup [.bool (lq l k),vInt 0]else .tup [.bool false,vInt (cI l [k])]
def K31:List (Nat×Spec):=[(75,m5),(76,S76),(120,S120),(121,S121),(122,S122),(128,S128),(77,S77),(129,S129)]
theorem zV:KS K31:=tc Ar.sound<|tc BI<|tc JN<|tc BM<|tc BL<|tc JM<|tc JH<|tc JL<|tn
attribute [go_sem] K31
@[go_sem] def P42:PSpec:=p2 iL iI (fun _ _=>True) (fun l k=>wy l k) false
@[go_sem] def Zu:Spec:=P42.toSpec
theorem PQ:aN Tryz.prog 42 P42:=by
 refine cX (rs:=[.tmp 4,.tmp 5]) Tryz.func42 Tryz.ntmps42 fun l k hp hw=>?_
 simp only[iI,iL,dA]at hw |-
 have hΓ:=zV
 repeat refine sq ?_
 refine rx hΓ [1,2] [[2,0]] (fun K' hK=>by simp only[go_sem];exact ak) ?_
 refine dp (gy 2 (.ref [2,0] 0) (by simp only[go_sem]) (by simp only[go_sem]) [1,2] [[2,0]] ?_ rfl) ?_
 ·simp only[go_sem]
 simp only[go_sem]
 repeat refine sq ?_
 refine rx hΓ [1,2,6] [[2,0]] (fun K' hK=>by simp only[go_sem];exact ak) ?_
 repeat refine sq ?_
 refine rx hΓ [1,2,6,14] [[2,0]] (fun K' hK=>by simp only[go_sem];exact ak) ?_
 repeat refine sq ?_
 refine av (fun hb=>?_) fun hb=>?_
 ·repeat refine sq ?_
  have hc:¬ cI l [k]=0:=by simpa using hb
  unfold wy;rw[if_neg hc]
  repeat refine sq ?_
  refine rx hΓ [4,5] [] (fun K' hK=>by simp only[go_sem];exact ak) ?_
  refine au ?_
  simp only[go_sem]
  all_goals exact c9
 ·repeat refine sq ?_
  have hc:cI l [k]=0:=by simpa using hb
  unfold wy;rw[if_pos hc]
  obtain⟨aa,_⟩:=qs hc
  obtain⟨hv,cq⟩:=oe aa k
  refine ax ?_
  rcases bq:dR (aF l k)with _ | p
  ·repeat refine sq ?_
   refine rx hΓ [7,8] [] (fun K' hK=>by simp only[go_sem,bq,s7];(repeat (refine⟨by first | exact ao | exact hv,?_⟩));exact ct) ?_
   repeat refine sq ?_
   refine rx hΓ [7,23] [] (fun K' hK=>by simp only[go_sem,bq,s7];exact ak) ?_
   repeat refine sq ?_
   refine av (fun hb=>?_) fun hb=>?_
   ·repeat refine sq ?_
    refine rx hΓ [4,5] [] (fun K' hK=>by simp only[go_sem,bq,s7];exact ak) ?_
    refine au ?_
    simp only[go_sem]
    all_goals exact c9
   ·cases hb
  ·repeat refine sq ?_
   refine rx hΓ [7,8] [] (fun K' hK=>by simp only[go_sem,bq,s6];(repeat (refine⟨by first | exact ao | exact hv,?_⟩));exact ct) ?_
   repeat refine sq ?_
   refine rx hΓ [7,23] [] (fun K' hK=>by simp only[go_sem,bq,s6];exact ak) ?_
   repeat refine sq ?_
   refine av (fun hb=>?_) fun hb=>?_
   ·cases hb
   ·repeat refine sq ?_
    refine ax ?_
    repeat refine sq ?_
    refine rx hΓ [4,5] [] (fun K' hK=>by simp only[go_sem,bq,s6];exact ak) ?_
    refine au ?_
    simp only[go_sem]
    all_goals exact c9
@[go_sem] def P49:PSpec:=p2 iL iI (fun _ _=>True) (fun l k=>uZ l k) false
@[go_sem] def Zs:Spec:=P49.toSpec
theorem PN:aN Tryz.prog 49 P49:=by
 refine cX (rs:=[.tmp 4,.tmp 5]) Tryz.func49 Tryz.ntmps49 fun l k hp hw=>?_
 simp only[iI,iL,dA]at hw |-
 have hΓ:=zV
 repeat refine sq ?_
 refine rx hΓ [1,2] [[2,0]] (fun K' hK=>by simp only[go_sem];exact ak) ?_
 refine dp (gy 2 (.ref [2,0] 0) (by simp only[go_sem]) (by simp only[go_sem]) [1,2] [[2,0]] ?_ rfl) ?_
 ·simp only[go_sem]
 simp only[go_sem]
 repeat refine sq ?_
 refine rx hΓ [1,2,6] [[2,0]] (fun K' hK=>by simp only[go_sem];exact ak) ?_
 repeat refine sq ?_
 refine rx hΓ [1,2,6,14] [[2,0]] (fun K' hK=>by simp only[go_sem];exact ak) ?_
 repeat refine sq ?_
 refine av (fun hb=>?_) fun hb=>?_
 ·repeat refine sq ?_
  have hc:¬ cI l [k]=0:=by simpa using hb
  unfold uZ;rw[if_neg hc]
  repeat refine sq ?_
  refine rx hΓ [4,5] [] (fun K' hK=>by simp only[go_sem];exact ak) ?_
  refine au ?_
  simp only[go_sem]
  all_goals first | done | (unfold lq;rw[bq];rfl) | trace_state
 ·repeat refine sq ?_
  have hc:cI l [k]=0:=by simpa using hb
  unfold uZ;rw[if_pos hc]
  obtain⟨aa,_⟩:=qs hc
  obtain⟨hv,cq⟩:=oe aa k
  obtain⟨kN,lA⟩:=An hv.ok k
  refine ax ?_
  rcases bq:dR (aF l k)with _ | p
  ·repeat refine sq ?_
   refine rx hΓ [1,7,8] [[26,0,11,0,18,0],[23,0,11,0,18,0],[24,0,11,0,18,0]] (fun K' hK=>by simp only[go_sem,bq,cD,cC];exact ak) ?_
   repeat refine sq ?_
   refine rx hΓ [4,5] [] (fun K' hK=>by simp only[go_sem,bq,cD,cC];(repeat (refine⟨by first | exact ao | exact hv.ok.ssn | exact⟨⟨⟨hv,cq⟩,kN⟩,lA⟩ | exact fun _=>hv.ok.ssn | exact fun _=>⟨⟨⟨hv,cq⟩,kN⟩,lA⟩,?_⟩));exact ct) ?_
   refine au ?_
   simp only[go_sem]
   all_goals first | done | (unfold lq;rw[bq];rfl) | trace_state
  ·have Lf:((25:Int)==0)=false:=rfl
   repeat refine sq ?_
   refine rx hΓ [1,7,8] [[26,0,11,0,18,0],[23,0,11,0,18,0],[24,0,11,0,18,0]] (fun K' hK=>by simp only[go_sem,bq,nN,nM,Lf];exact ak) ?_
   repeat refine sq ?_
   refine rx hΓ [4,5] [] (fun K' hK=>by simp only[go_sem,bq,nN,nM,Lf];(repeat (refine⟨by first | exact ao | exact hv.ok.ssn | exact⟨⟨⟨hv,cq⟩,kN⟩,lA⟩ | exact fun _=>hv.ok.ssn | exact fun _=>⟨⟨⟨hv,cq⟩,kN⟩,lA⟩,?_⟩));exact ct) ?_
   refine au ?_
   simp only[go_sem]
   all_goals first | done | (unfold lq;rw[bq];rfl) | trace_state
@[go_sem] def P41:PSpec:=p2 iL iI (fun _ _=>True) (fun l k=>uR l k) false
@[go_sem] def Zv:Spec:=P41.toSpec
theorem PR:aN Tryz.prog 41 P41:=by
 refine cX (rs:=[.tmp 4,.tmp 5]) Tryz.func41 Tryz.ntmps41 fun l k hp hw=>?_
 simp only[iI,iL,dA]at hw |-
 have hΓ:=zV
 repeat refine sq ?_
 refine rx hΓ [1,2] [[2,0]] (fun K' hK=>by simp only[go_sem];exact ak) ?_
 refine dp (gy 2 (.ref [2,0] 0) (by simp only[go_sem]) (by simp only[go_sem]) [1,2] [[2,0]] ?_ rfl) ?_
 ·simp only[go_sem]
 simp only[go_sem]
 repeat refine sq ?_
 refine rx hΓ [1,2,6] [[2,0]] (fun K' hK=>by simp only[go_sem];exact ak) ?_
 repeat refine sq ?_
 refine rx hΓ [1,2,6,15] [[2,0]] (fun K' hK=>by simp only[go_sem];exact ak) ?_
 repeat refine sq ?_
 refine av (fun hb=>?_) fun hb=>?_
 ·repeat refine sq ?_
  have hc:¬ cI l [k]=0:=by simpa using hb
  unfold uR;rw[if_neg hc]
  repeat refine sq ?_
  refine rx hΓ [4,5] [[35,0]] (fun K' hK=>by simp only[go_sem];exact ak) ?_
  refine au ?_
  simp only[go_sem]
  all_goals exact c9
 ·repeat refine sq ?_
  have hc:cI l [k]=0:=by simpa using hb
  unfold uR;rw[if_pos hc]
  obtain⟨aa,_⟩:=qs hc
  obtain⟨hv,cq⟩:=oe aa k
  have gT:(aF l k).ts.length<=maxLen:=by have:=hv.tn;unfold maxLen;omega
  refine ax ?_
  repeat refine sq ?_
  refine rx hΓ [1,2,7] [[2,0],[35,0]] (fun K' hK=>by simp only[go_sem];exact ak) ?_
  refine dp (pk 7 [35,0] 1 (by simp only[go_sem]) (by simp only[go_sem]) [1,2,7] [[2,0],[35,0]] ?_ rfl) ?_
  ·simp only[go_sem]
  simp only[go_sem]
  repeat refine sq ?_
  refine rx hΓ [2,7,21,22,23] [[2,0],[35,0]] (fun K' hK=>by simp only[go_sem];exact ak) ?_
  repeat refine sq ?_
  refine aH ?_
  repeat refine sq ?_
  refine bB (fun s:Nat=>[(23,⟨true,.v (vInt s)⟩),(7,⟨true,.msl [35,0] s⟩)]) (fun s=>[([35,0],.arr 1 ((((aF l k).ts.take s).map (na l)).map vInt))]) (fun s=>s<=(aF l k).ts.length) (fun s=>(aF l k).ts.length-s) 0 ?_ ?_ ?_ ?_
  ·exact Nat.zero_le _
  ·rfl
  ·rfl
  rintro i hi
  simp only[go_sem]
  repeat refine sq ?_
  refine rx hΓ [2,7,21,22,23,24] [[2,0],[35,0]] (fun K' hK=>by simp only[go_sem];exact ak) ?_
  repeat refine sq ?_
  refine av (fun hb=>?_) fun hb=>?_
  ·have ab:i<(aF l k).ts.length:=by simpa using hb
   have an:(i:Int)<(aF l k).ts.length:=by omega
   clear hb
   have oB:=hv.tn
   obtain⟨cO,gW⟩:=hv.ts _ (List.getElem_mem ab)
   rw[oh]at gW
   have j8:=Ac (l:=l) cO gW
   have U3:min i (aF l k).ts.length=i:=by omega
   have hT:((((aF l k).ts.take (i+1)).map (na l)).map vInt)=(((aF l k).ts.take i).map (na l)).map vInt++[vInt (aK l ((aF l k).ts[i]).toNat).so]:=by
    rw[Ov ab];simp[na]
   repeat refine sq ?_
   refine ax ?_
   repeat refine sq ?_
   refine aH ?_
   repeat refine sq ?_
   refine rx hΓ [2,7,9,21,22,23] [[2,0],[35,0]] (fun K' hK=>by simp only[go_sem,ae ab,ah,ai,an];exact ak) ?_
   repeat refine sq ?_
   refine aM hΓ fun K' hK=>?_
   simp only[go_sem,ae ab,ah,ai,an,j8,cO,gW,List.length_take,List.length_map,U3]
   repeat (refine⟨ao,?_⟩)
   refine hK _ ?_
   clear K' hK
   simp only[go_sem]
   refine kp [2,7,21,22,23] [[2,0],[35,0]] ?_
   repeat refine sq ?_
   refine aM hΓ fun K' hK=>?_
   simp only[go_sem,ae ab,ah,ai,an]
   repeat (refine⟨ao,?_⟩)
   refine hK _ ?_
   clear K' hK
   simp only[go_sem]
   refine⟨i+1,ab,by(show (aF l k).ts.length-(i+1)<(aF l k).ts.length-i;omega),?_⟩
   refine aY [2,7,21,22,23] [[2,0],[35,0]] ?_ ?_<;>simp only[go_sem,aT ab gT,aU,hT]
  ·have be:i=(aF l k).ts.length:=by
    have :¬ (i:Int)<(aF l k).ts.length:=by simpa using hb
    omega
   clear hb
   subst be
   repeat refine sq ?_
   refine bp ?_
   simp only[go_sem]
   refine kp [7] [[35,0]] ?_
   repeat refine sq ?_
   refine rx hΓ [4,5] [[35,0]] (fun K' hK=>by simp only[go_sem,List.take_length];exact ak) ?_
   refine au ?_
   simp only[go_sem]
   all_goals exact c9
def je(l:Led)(k:Int)(l2:List Int):Bool:=match l2 with
 |[a,b]=>!decide (a>=b)&&(match dk (aF l k).rs a,dk (aF l k).rs b with
  |some p,some q=>gK (aF l k) p q
  |_,_=>false)
 |_=>false
def wB(l:Led)(k:Int)(l2:List Int):Int:=if cI l [k]=0 then bH (je l k l2) 28 else cI l [k]
theorem Yg{l:Led}{k:Int}{l2:List Int}(h:¬ ∃ a b,l2=[a,b]):je l k l2=false:=by
 unfold je
 split
 ·rename_i a b
  exact(h ⟨a,b,rfl⟩).elim
 ·rfl
theorem HU{l2:List Int}(h:¬ ∃ a b,l2=[a,b]):((l2.length:Int)==2)=false:=by
 match l2,h with
 |[],_=>rfl
 |[_],_=>rfl
 |[a,b],h=>exact(h ⟨a,b,rfl⟩).elim
 |_::_::_::r,_=>simp;omega
@[go_sem] def P50:PSpec:=p3 iL iI cH (fun _ _ _=>True) (fun l k l2=>vInt (wB l k l2)) true
@[go_sem] def Zr:Spec:=P50.toSpec
theorem PM:aN Tryz.prog 50 P50:=by
 refine gO (rs:=[.tmp 6]) Tryz.func50 Tryz.ntmps50 fun l k l2 hp hw=>?_
 have hP:=dL
 simp only[iI,cH,iL,dA]at hw |-
 have hΓ:=zV
 repeat refine sq ?_
 refine rx hΓ [1,2,3] [[3,0]] (fun K' hK=>by simp only[go_sem];exact ak) ?_
 refine dp (gy 3 (.ref [3,0] 0) (by simp only[go_sem]) (by simp only[go_sem]) [1,2,3] [[3,0]] ?_ rfl) ?_
 ·simp only[go_sem]
 simp only[go_sem]
 repeat refine sq ?_
 refine rx hΓ [1,2,3,7] [[3,0]] (fun K' hK=>by simp only[go_sem];exact ak) ?_
 repeat refine sq ?_
 refine rx hΓ [1,2,3,7,18] [[3,0]] (fun K' hK=>by simp only[go_sem];exact ak) ?_
 repeat refine sq ?_
 refine av (fun hb=>?_) fun hb=>?_
 ·repeat refine sq ?_
  have hc:¬ cI l [k]=0:=by simpa using hb
  unfold wB;rw[if_neg hc]
  repeat refine sq ?_
  refine rx hΓ [6] [] (fun K' hK=>by simp only[go_sem];exact ak) ?_
  refine au ?_
  simp only[go_sem]
  all_goals first | (rfl;done) | skip
  all_goals simp only[je,bH]
  all_goals first | rfl | (simp_all;done) | grind | trace_state
 ·repeat refine sq ?_
  have hc:cI l [k]=0:=by simpa using hb
  unfold wB;rw[if_pos hc]
  obtain⟨aa,_⟩:=qs hc
  obtain⟨hv,cq⟩:=oe aa k
  refine ax ?_
  by_cases fD:∃ a b,l2=[a,b]
  ·obtain⟨a,b,rfl⟩:=fD
   repeat refine sq ?_
   refine dx hΓ hP [[],[0],[0,1],[0,1,2],u4,u5,u6,u4,[0,1,2,3,7],[0,1,2,3,7,8],bO,cK] [1,2,3,31] [[3,0]] (by kernel_rfl) (fun K' hK=>by simp only[go_sem,Int.cast_ofNat_Int,Int.reduceBNe,Int.reduceBEq,Int.reduceToNat,List.getD_cons_succ,List.getD_cons_zero,Bool.not_false,Bool.not_true,bne,Int.reduceLT];exact eT) ?_
   repeat refine sq ?_
   refine av (fun hb=>?_) fun hb=>?_
   ·repeat refine sq ?_
    refine rx hΓ [6] [] (fun K' hK=>by simp only[go_sem,Int.cast_ofNat_Int,Int.reduceBNe,Int.reduceBEq,Int.reduceToNat,List.getD_cons_succ,List.getD_cons_zero,Bool.not_false,Bool.not_true,bne,Int.reduceLT];exact ak) ?_
    refine au ?_
    simp only[go_sem]
    all_goals first | (rfl;done) | skip
    all_goals simp only[je,bH]
    all_goals first | rfl | (simp_all;done) | grind | trace_state
   ·repeat refine sq ?_
    refine ax ?_
    repeat refine sq ?_
    refine rx hΓ [2,8] [[26,0,33,0],[23,0,33,0],[24,0,33,0]] (fun K' hK=>by simp only[go_sem,Int.cast_ofNat_Int,Int.reduceBNe,Int.reduceBEq,Int.reduceToNat,List.getD_cons_succ,List.getD_cons_zero,Bool.not_false,Bool.not_true,bne,Int.reduceLT];exact ak) ?_
    rcases b7:dk (aF l k).rs a with _ | p
    ·repeat refine sq ?_
     refine rx hΓ [2,8,9,10] [[9,0],[26,0,33,0],[23,0,33,0],[24,0,33,0]] (fun K' hK=>by simp only[go_sem,Int.cast_ofNat_Int,Int.reduceBNe,Int.reduceBEq,Int.reduceToNat,List.getD_cons_succ,List.getD_cons_zero,Bool.not_false,Bool.not_true,bne,Int.reduceLT,b7,bd,Option.isSome_none];exact ak) ?_
     rcases bX:dk (aF l k).rs b with _ | q
     ·repeat refine sq ?_
      refine rx hΓ [8,9,10,11,12] [[9,0],[11,0],[26,0,33,0],[23,0,33,0],[24,0,33,0]] (fun K' hK=>by simp only[go_sem,Int.cast_ofNat_Int,Int.reduceBNe,Int.reduceBEq,Int.reduceToNat,List.getD_cons_succ,List.getD_cons_zero,Bool.not_false,Bool.not_true,bne,Int.reduceLT,b7,bd,Option.isSome_none,bX,bd,Option.isSome_none];exact ak) ?_
      repeat refine sq ?_
      refine rx hΓ [62] [] (fun K' hK=>by simp only[go_sem,Int.cast_ofNat_Int,Int.reduceBNe,Int.reduceBEq,Int.reduceToNat,List.getD_cons_succ,List.getD_cons_zero,Bool.not_false,Bool.not_true,bne,Int.reduceLT,b7,bd,Option.isSome_none,bX,bd,Option.isSome_none];(repeat (refine⟨by first | exact ao | exact⟨hv,hv.rs _ (gR b7).1,hv.rs _ (gR bX).1⟩ | exact fun _=>⟨hv,hv.rs _ (gR b7).1,hv.rs _ (gR bX).1⟩,?_⟩));exact ct) ?_
      repeat refine sq ?_
      refine av (fun hb=>?_) fun hb=>?_
      ·repeat refine sq ?_
       refine rx hΓ [6] [] (fun K' hK=>by simp only[go_sem,Int.cast_ofNat_Int,Int.reduceBNe,Int.reduceBEq,Int.reduceToNat,List.getD_cons_succ,List.getD_cons_zero,Bool.not_false,Bool.not_true,bne,Int.reduceLT,b7,bd,Option.isSome_none,bX,bd,Option.isSome_none];exact ak) ?_
       refine au ?_
       simp only[go_sem]
       all_goals first | (rfl;done) | skip
       all_goals simp only[je,bH]
       all_goals first | rfl | (simp_all;done) | grind | trace_state
      ·repeat refine sq ?_
       refine ax ?_
       repeat refine sq ?_
       refine rx hΓ [6] [] (fun K' hK=>by simp only[go_sem,Int.cast_ofNat_Int,Int.reduceBNe,Int.reduceBEq,Int.reduceToNat,List.getD_cons_succ,List.getD_cons_zero,Bool.not_false,Bool.not_true,bne,Int.reduceLT,b7,bd,Option.isSome_none,bX,bd,Option.isSome_none];exact ak) ?_
       refine au ?_
       simp only[go_sem]
       all_goals first | (rfl;done) | skip
       all_goals simp only[je,bH]
       all_goals first | rfl | (simp_all;done) | grind | trace_state
     ·repeat refine sq ?_
      refine rx hΓ [8,9,10,11,12] [[9,0],[11,0],[26,0,33,0],[23,0,33,0],[24,0,33,0]] (fun K' hK=>by simp only[go_sem,Int.cast_ofNat_Int,Int.reduceBNe,Int.reduceBEq,Int.reduceToNat,List.getD_cons_succ,List.getD_cons_zero,Bool.not_false,Bool.not_true,bne,Int.reduceLT,b7,bd,Option.isSome_none,bX,aW,Option.isSome_some];exact ak) ?_
      repeat refine sq ?_
      refine rx hΓ [62] [] (fun K' hK=>by simp only[go_sem,Int.cast_ofNat_Int,Int.reduceBNe,Int.reduceBEq,Int.reduceToNat,List.getD_cons_succ,List.getD_cons_zero,Bool.not_false,Bool.not_true,bne,Int.reduceLT,b7,bd,Option.isSome_none,bX,aW,Option.isSome_some];(repeat (refine⟨by first | exact ao | exact⟨hv,hv.rs _ (gR b7).1,hv.rs _ (gR bX).1⟩ | exact fun _=>⟨hv,hv.rs _ (gR b7).1,hv.rs _ (gR bX).1⟩,?_⟩));exact ct) ?_
      repeat refine sq ?_
      refine av (fun hb=>?_) fun hb=>?_
      ·repeat refine sq ?_
       refine rx hΓ [6] [] (fun K' hK=>by simp only[go_sem,Int.cast_ofNat_Int,Int.reduceBNe,Int.reduceBEq,Int.reduceToNat,List.getD_cons_succ,List.getD_cons_zero,Bool.not_false,Bool.not_true,bne,Int.reduceLT,b7,bd,Option.isSome_none,bX,aW,Option.isSome_some];exact ak) ?_
       refine au ?_
       simp only[go_sem]
       all_goals first | (rfl;done) | skip
       all_goals simp only[je,bH]
       all_goals first | rfl | (simp_all;done) | grind | trace_state
      ·repeat refine sq ?_
       refine ax ?_
       repeat refine sq ?_
       refine rx hΓ [6] [] (fun K' hK=>by simp only[go_sem,Int.cast_ofNat_Int,Int.reduceBNe,Int.reduceBEq,Int.reduceToNat,List.getD_cons_succ,List.getD_cons_zero,Bool.not_false,Bool.not_true,bne,Int.reduceLT,b7,bd,Option.isSome_none,bX,aW,Option.isSome_some];exact ak) ?_
       refine au ?_
       simp only[go_sem]
       all_goals first | (rfl;done) | skip
       all_goals simp only[je,bH]
       all_goals first | rfl | (simp_all;done) | grind | trace_state
    ·repeat refine sq ?_
     refine rx hΓ [2,8,9,10] [[9,0],[26,0,33,0],[23,0,33,0],[24,0,33,0]] (fun K' hK=>by simp only[go_sem,Int.cast_ofNat_Int,Int.reduceBNe,Int.reduceBEq,Int.reduceToNat,List.getD_cons_succ,List.getD_cons_zero,Bool.not_false,Bool.not_true,bne,Int.reduceLT,b7,aW,Option.isSome_some];exact ak) ?_
     rcases bX:dk (aF l k).rs b with _ | q
     ·repeat refine sq ?_
      refine rx hΓ [8,9,10,11,12] [[9,0],[11,0],[26,0,33,0],[23,0,33,0],[24,0,33,0]] (fun K' hK=>by simp only[go_sem,Int.cast_ofNat_Int,Int.reduceBNe,Int.reduceBEq,Int.reduceToNat,List.getD_cons_succ,List.getD_cons_zero,Bool.not_false,Bool.not_true,bne,Int.reduceLT,b7,aW,Option.isSome_some,bX,bd,Option.isSome_none];exact ak) ?_
      repeat refine sq ?_
      refine rx hΓ [62] [] (fun K' hK=>by simp only[go_sem,Int.cast_ofNat_Int,Int.reduceBNe,Int.reduceBEq,Int.reduceToNat,List.getD_cons_succ,List.getD_cons_zero,Bool.not_false,Bool.not_true,bne,Int.reduceLT,b7,aW,Option.isSome_some,bX,bd,Option.isSome_none];(repeat (refine⟨by first | exact ao | exact⟨hv,hv.rs _ (gR b7).1,hv.rs _ (gR bX).1⟩ | exact fun _=>⟨hv,hv.rs _ (gR b7).1,hv.rs _ (gR bX).1⟩,?_⟩));exact ct) ?_
      repeat refine sq ?_
      refine av (fun hb=>?_) fun hb=>?_
      ·repeat refine sq ?_
       refine rx hΓ [6] [] (fun K' hK=>by simp only[go_sem,Int.cast_ofNat_Int,Int.reduceBNe,Int.reduceBEq,Int.reduceToNat,List.getD_cons_succ,List.getD_cons_zero,Bool.not_false,Bool.not_true,bne,Int.reduceLT,b7,aW,Option.isSome_some,bX,bd,Option.isSome_none];exact ak) ?_
       refine au ?_
       simp only[go_sem]
       all_goals first | (rfl;done) | skip
       all_goals simp only[je,bH]
       all_goals first | rfl | (simp_all;done) | grind | trace_state
      ·repeat refine sq ?_
       refine ax ?_
       repeat refine sq ?_
       refine rx hΓ [6] [] (fun K' hK=>by simp only[go_sem,Int.cast_ofNat_Int,Int.reduceBNe,Int.reduceBEq,Int.reduceToNat,List.getD_cons_succ,List.getD_cons_zero,Bool.not_false,Bool.not_true,bne,Int.reduceLT,b7,aW,Option.isSome_some,bX,bd,Option.isSome_none];exact ak) ?_
       refine au ?_
       simp only[go_sem]
       all_goals first | (rfl;done) | skip
       all_goals simp only[je,bH]
       all_goals first | rfl | (simp_all;done) | grind | trace_state
     ·repeat refine sq ?_
      refine rx hΓ [8,9,10,11,12] [[9,0],[11,0],[26,0,33,0],[23,0,33,0],[24,0,33,0]] (fun K' hK=>by simp only[go_sem,Int.cast_ofNat_Int,Int.reduceBNe,Int.reduceBEq,Int.reduceToNat,List.getD_cons_succ,List.getD_cons_zero,Bool.not_false,Bool.not_true,bne,Int.reduceLT,b7,aW,Option.isSome_some,bX,aW,Option.isSome_some];exact ak) ?_
      repeat refine sq ?_
      refine rx hΓ [62] [] (fun K' hK=>by simp only[go_sem,Int.cast_ofNat_Int,Int.reduceBNe,Int.reduceBEq,Int.reduceToNat,List.getD_cons_succ,List.getD_cons_zero,Bool.not_false,Bool.not_true,bne,Int.reduceLT,b7,aW,Option.isSome_some,bX,aW,Option.isSome_some];(repeat (refine⟨by first | exact ao | exact⟨hv,hv.rs _ (gR b7).1,hv.rs _ (gR bX).1⟩ | exact fun _=>⟨hv,hv.rs _ (gR b7).1,hv.rs _ (gR bX).1⟩,?_⟩));exact ct) ?_
      repeat refine sq ?_
      refine av (fun hb=>?_) fun hb=>?_
      ·repeat refine sq ?_
       refine rx hΓ [6] [] (fun K' hK=>by simp only[go_sem,Int.cast_ofNat_Int,Int.reduceBNe,Int.reduceBEq,Int.reduceToNat,List.getD_cons_succ,List.getD_cons_zero,Bool.not_false,Bool.not_true,bne,Int.reduceLT,b7,aW,Option.isSome_some,bX,aW,Option.isSome_some];exact ak) ?_
       refine au ?_
       simp only[go_sem]
       all_goals first | (rfl;done) | skip
       all_goals simp only[je,bH]
       all_goals first | rfl | (simp_all;done) | grind | trace_state
      ·repeat refine sq ?_
       refine ax ?_
       repeat refine sq ?_
       refine rx hΓ [6] [] (fun K' hK=>by simp only[go_sem,Int.cast_ofNat_Int,Int.reduceBNe,Int.reduceBEq,Int.reduceToNat,List.getD_cons_succ,List.getD_cons_zero,Bool.not_false,Bool.not_true,bne,Int.reduceLT,b7,aW,Option.isSome_some,bX,aW,Option.isSome_some];exact ak) ?_
       refine au ?_
       simp only[go_sem]
       all_goals first | (rfl;done) | skip
       all_goals simp only[je,bH]
       all_goals first | rfl | (simp_all;done) | grind | trace_state
  ·have qe:=HU fD
   rw[Yg fD]
   repeat refine sq ?_
   refine dx hΓ hP [[],[0],[0,1],[0,1,2],u4,u5,u6,u4,[0,1,2,3,7],[0,1,2,3,7,8],bO,cK] [1,2,3,31] [[3,0]] (by kernel_rfl) (fun K' hK=>by simp only[go_sem,qe,bne];exact eT) ?_
   repeat refine sq ?_
   refine av (fun hb=>?_) fun hb=>?_
   ·repeat refine sq ?_
    refine rx hΓ [6] [] (fun K' hK=>by simp only[go_sem,qe,bne];exact ak) ?_
    refine au ?_
    simp only[go_sem]
    all_goals first | (rfl;done) | skip
    all_goals simp only[je,bH]
    all_goals first | rfl | (simp_all;done) | grind | trace_state
   ·cases hb
end
noncomputable section
def aaK:List (Nat×Spec):=[(75,m5),(76,S76)]
attribute [go_sem] aaK
def N3(x:Vw)(pa le day:Int):List Int:=match hG x.rs pa le day with
 |none=>[0]
 |some r=>match bK x.bk (r.so,le)with
  |none=>[r.bo]
  |some i=>(if (bA x.ds i).1<=day then[0]else[])++(if (bA x.ds i).2>day then[r.bo]else[])
def aaJ:List (Nat×Spec):=[(119,S119)]
attribute [go_sem] aaJ
def Zc:VSpec:=v2 nq iI (fun x _ _=>nP x/\x.rs.Nodup) (fun x f day=>.v (.sl ((N3 x f.pa f.le day).map vInt))) none
attribute [go_sem] Zc
end
noncomputable section
def eS(l:Led)(k:Int):Int:=OI (dR (aF l k)) (ei (aF l k) (aX (aF l k).l k))
theorem OE{l:Led}{k:Int}(h:lq l k=false):Ft (dR (aF l k)) (ei (aF l k) (aX (aF l k).l k)) (aF l k) k=[]/\Fs (dR (aF l k)) (ei (aF l k) (aX (aF l k).l k))=.tup [.v .nilp,.v (vInt (eS l k))]/\(eS l k != 0)=true:=by
 unfold lq at h
 unfold eS
 cases hp:dR (aF l k)with
 |some p=>
  cases ei (aF l k) (aX (aF l k).l k)<;>exact⟨rfl,rfl,rfl⟩
 |none=>
  rw[hp]at h
  have h2:ei (aF l k) (aX (aF l k).l k)=false:=by simpa using h
  rw[h2]
  exact⟨rfl,rfl,rfl⟩
theorem OD{l:Led}{k:Int}(h:lq l k=true):Ft (dR (aF l k)) (ei (aF l k) (aX (aF l k).l k)) (aF l k) k=uM (uV (aF l k) k) [11,0,11,0]/\Fs (dR (aF l k)) (ei (aF l k) (aX (aF l k).l k))=.tup [.ref [26,0,11,0,11,0] 0,.v (vInt 0)]/\eS l k=0:=by
 unfold lq at h
 simp only[Bool.and_eq_true,Option.isNone_iff_eq_none]at h
 unfold eS
 rw[h.1,h.2]
 exact⟨rfl,rfl,rfl⟩
def aaI:List (Nat×Spec):=[]
attribute [go_sem] aaI
theorem bx.srt{l:Led}(h:bx l):Go.Eng.srt Pap.id l.ps:=A3 (gb.1 h.ps)
def aaH:List (Nat×Spec):=[(75,m5),(79,wN),(96,sB)]
attribute [go_sem] aaH
end
noncomputable section
def two(b:Bool):Int:=if b then 2 else 0
def aaG:List (Nat×Spec):=[(75,m5),(76,S76),(77,S77)]
attribute [go_sem] aaG
end
noncomputable section
def K35:List (Nat×Spec):=[(75,m5),(79,wN)]
attribute [go_sem] K35
end
end Go.Eng
