import Derived.Test.YtepaolcgegdpoaaGreatK6
/- Texts LW25 to LM2. -/
set_option linter.all false
namespace Go.Eng
open Go Go.Proofs
set_option maxHeartbeats 8000000
noncomputable section
theorem Ee{P:Program}{Γ:FuncId->Option Spec}(hΓ:∀ f s,Γ f=some s->aF P f s){id:Nat}{l:List Oper}{c:Code}{r:List Code}{σ:S}{K:Exit->S->Prop}(ks:List Nat)(ns:List Name)
 (h:∀ K':S->Prop,(∀ σ',gR ks ns σ'->CL P (c::r) (hS ks ns σ') K->K' σ')->lY P Γ l.toArray l σ K'):CL P (.region id l.toArray false::c::r) σ K:=
 LP hΓ (h _ fun σ' hc hy=>D2 ks ns hc hy)
theorem sO{P:Program}{Γ:FuncId->Option Spec}{ops:Array Oper}{o:Oper}{r:List Oper}{σ:S}{K:S->Prop}(h1:kz P Γ ops σ o)(h2:lY P Γ ops r (bn P Γ ops σ o) K):lY P Γ ops (o::r) σ K:=.step h1 h2
def bN{α:Type}(p:α->Bool)(l:List α):List α:=l.filter fun d=>!p d
def dF{α:Type}(enc:α->V)(z:V)(p:α->Bool)(l:List α):List V:=(bN p l).map enc++List.replicate (l.length-(bN p l).length) z
def mU:Ret:=⟨0,0,0,[],0,0,0,0⟩
def mV:Sig:=⟨0,0,0,0,0,0,0⟩
def K25:List (Nat×Spec):=[(162,S162)]
theorem aa1:KS K25:=tc Ju<|tn
attribute [go_sem] K25
@[go_sem] def P186:PSpec:=p2 iS ib (fun _ _=>True) (fun s k=>.bool (!di s.kn s.un k)) true
@[go_sem] def ZO:Spec:=P186.toSpec
theorem PD:aT Tryz.prog 186 P186:=by
 refine cV (rs:=[.tmp 3]) Tryz.func186 Tryz.ntmps186 fun s k hp hw=>?_
 simp only[ib,iS,encS]at hw |-
 have hΓ:=aa1
 repeat refine sq ?_
 refine rx hΓ [1,2] [[2,0]] (fun K' hK=>by simp only[go_sem];exact an) ?_
 repeat refine sq ?_
 refine rx hΓ [3] [] (fun K' hK=>by simp only[go_sem];exact an) ?_
 refine av ?_
 simp only[go_sem]
 all_goals exact dp
def eM(g:Nat×Int)(x:Rec):Bool:=x.so==g.2
def eK(g:Nat×Int)(x:Ret):Bool:=x.so==g.2
def eo(g:Nat×Int)(x:Sig):Bool:=if g.1=186 then !di x.kn x.un g.2 else x.so==g.2
def n7(g:Nat×Int):Prop:=g.1=88
def nZ(g:Nat×Int):Prop:=g.1=90
def ni(g:Nat×Int):Prop:=g.1=92\/g.1=186
def KDR:List (Nat×Spec):=[(88,ZC)]
theorem aak:KS KDR:=tc Pc.sound<|tn
attribute [go_sem] KDR
def KDT:List (Nat×Spec):=[(90,ZB)]
theorem aai:KS KDT:=tc Pb.sound<|tn
attribute [go_sem] KDT
def KDS:List (Nat×Spec):=[(92,ZA),(186,ZO)]
theorem aaj:KS KDS:=tc O'.sound<|tc PD.sound<|tn
attribute [go_sem] KDS
abbrev wO:=Rec
abbrev wM:=Ret
abbrev wN:=Sig
def EW:FuncId->Option Spec:=tbl KDR
theorem Np:∀ f s,EW f=some s->aF Tryz.prog f s:=aak
theorem G2{g:Nat×Int}(h:n7 g):∃ s,EW g.1=some s/\(¬ g.1=1000000000)/\(∀ obj t (x:wO),s.app obj t [.v (encR x),.v (.ptr [vInt g.2])]=⟨True,.v (.bool (eM g x)),obj⟩)/\
 ∀ obj t (x:wO),s.app obj t [.agg ((encR x).cells.map .v),.v (.ptr [vInt g.2])]=⟨True,.v (.bool (eM g x)),obj⟩:=by
 obtain⟨g,k⟩:=g
 rcases h with rfl | rfl
 all_goals exact⟨_,rfl,(by simp),fun obj t x=>by simp only[go_sem,eM];try rfl,fun obj t x=>by simp only[go_sem,eM,encR];try rfl⟩
theorem EB:(#[27]:Array Nat).getD 0 0=27:=rfl
theorem Nz:((bg Tryz.prog 36).bind fun z=>dN (gK z))=some (encR zeroR):=by rw[N6];rfl
theorem D9{obj:Name->Option O}{nm:Name}{k i:Nat}{L:List V}(h:obj nm=some (.arr 7 L))(hk:k=L.length)(hi:i<L.length):
 iE Tryz.prog obj 27 27 (.msl nm k) (.v (vInt i))=⟨True,.any,upd obj nm (some (.arr 7 (L.take i++List.replicate (L.length-i) (encR zeroR))))⟩:=by
 unfold iE
 simp only[Fv,h,Nz,ai]
 congr 1
 simp only[eq_iff_iff,iff_true]
 exact⟨hk,by omega,hi,trivial,rfl,rfl,trivial,by decide⟩
theorem OA:aT Tryz.prog 166 (p2 (cW iR) er (fun _ g=>n7 g) (fun l g=>vInt (bY (eM g) l)) true):=by
 refine cV (rs:=[.tmp 4]) Tryz.func166 Tryz.ntmps166 fun l g hp hw=>?_
 simp only[er,iR,cW]at hw |-
 have hΓ:=Np
 have hl:l.length<=maxLen:=by have:=hw.1.1;simpa using this
 obtain⟨s_,hs,hy,ha,_⟩:=G2 hp
 simp only[encR]at ha
 repeat refine sq ?_
 refine rx hΓ [0,1] [] (fun K' hK=>by simp only[go_sem];exact an) ?_
 repeat refine sq ?_
 refine rx hΓ [0,1,7,8] [] (fun K' hK=>by simp only[go_sem];exact an) ?_
 repeat refine sq ?_
 refine aI ?_
 repeat refine sq ?_
 refine bT (fun s:Nat=>[(8,⟨true,.v (vInt s)⟩)]) (fun s=>[]) (fun s=>s<=l.length/\∀ k (h:k<l.length),k<s->eM g l[k]=false) (fun s=>l.length-s) 0 ?_ ?_ ?_ ?_
 ·exact⟨Nat.zero_le _,by simp⟩
 ·rfl
 ·rfl
 rintro i ⟨hi,hR⟩
 simp only[go_sem]
 repeat refine sq ?_
 refine rx hΓ [0,1,7,8,9] [] (fun K' hK=>by simp only[go_sem];exact an) ?_
 repeat refine sq ?_
 refine ax (fun hb=>?_) fun hb=>?_
 ·have ab:i<l.length:=by simpa using hb
  have ao:(i:Int)<l.length:=by omega
  clear hb
  repeat refine sq ?_
  refine aC ?_
  repeat refine sq ?_
  refine aI ?_
  repeat refine sq ?_
  refine rx hΓ [0,1,5,7,8] [] (fun K' hK=>by simp only[go_sem,ah ab,ai,aj,ao];exact an) ?_
  repeat refine sq ?_
  refine rx hΓ [0,1,5,7,8,16] [] (fun K' hK=>by simp only[go_sem,ah ab,ai,aj,ao,hs,hy,ha];exact an) ?_
  repeat refine sq ?_
  refine ax (fun hb=>?_) fun hb=>?_
  ·repeat refine sq ?_
   refine rx hΓ [4] [] (fun K' hK=>by simp only[go_sem,ah ab,ai,aj,ao];exact an) ?_
   refine av ?_
   simp only[go_sem]
   rw[mi (p:=eM g) ab (by simpa using hb) hR]
  ·repeat refine sq ?_
   refine aC ?_
   refine bA ?_
   simp only[go_sem]
   refine kp [0,1,7,8] [] ?_
   repeat refine sq ?_
   refine aS hΓ fun K' hK=>?_
   simp only[go_sem,ah ab,ai,aj,ao]
   repeat (refine⟨ak,?_⟩)
   refine hK _ ?_
   clear K' hK
   simp only[go_sem]
   refine⟨i+1,⟨ab,?_⟩,by(show l.length-(i+1)<l.length-i;omega),?_⟩
   ·intro k hk cS
    rcases Nat.lt_succ_iff_lt_or_eq.1 cS with h5 | rfl
    ·exact hR k hk h5
    ·simpa using hb
   refine bd [0,1,7,8] [] ?_ ?_<;>simp only[go_sem,aV ab hl,aY]
 ·have bj:i=l.length:=by
   have :¬ (i:Int)<l.length:=by simpa using hb
   omega
  clear hb
  subst bj
  repeat refine sq ?_
  refine bC ?_
  simp only[go_sem]
  refine kp [] [] ?_
  repeat refine sq ?_
  refine rx hΓ [4] [] (fun K' hK=>by simp only[go_sem];exact an) ?_
  refine av ?_
  simp only[go_sem]
  rw[oz (p:=eM g) fun k hk=>hR k hk hk]
set_option maxRecDepth 10000 in
theorem NS{g:Nat×Int}(aa:n7 g){H:Name->Option O}{l:List wO}(hl:l.length<1000000)(eT:H [0,1]=some (.arr 7 (l.map encR)))(bu:∀ hs,bx [0] (bp [0] hs) H=True)(ae:∀ hs sz L,bx [0] (bp [0] hs) (upd H [0,1] (some (.arr sz L)))=True)(bc:∀ hs sz L,bx [0] (bp [0] hs) (upd H [0,1] (some (.farr sz L)))=True):
 ∃ c,Tryz.f87.body=some c/\CL Tryz.prog [c] (be 42 [0] H [(0,⟨true,.msl [0,1] l.length⟩),(1,⟨true,.clo (.func g.1) [] [.v (.ptr [vInt g.2])]⟩)] []) (fun e σ=>(e=.normal\/e=.ret)/\(σ.env 4).c=true/\
   (σ.env 4).d=.v (.sl ((bN (eM g) l).map encR))/\σ.obj [0,1]=some (.farr 7 (dF encR (encR zeroR) (eM g) l))):=by
 obtain⟨sG,hs,hg,_,hp⟩:=G2 aa
 obtain⟨Γ,sI,hΓ,hs,hI,hi⟩:∃ (Γ:FuncId->Option Spec) (sI:Spec),(∀ f s,Γ f=some s->aF Tryz.prog f s)/\Γ g.1=some sG/\Γ 166=some sI/\
  ∀ (obj:Name->Option O) (t:Name),obj [0,1]=some (.arr 7 (l.map encR))->sI.app obj t [.msl [0,1] l.length,.clo (.func g.1) [] [.v (.ptr [vInt g.2])]]=⟨True,.v (vInt (bY (eM g) l)),obj⟩:=by
  refine⟨fun f=>if f=166 then some (p2 (cW iR) er (fun _ g=>n7 g) (fun l g=>vInt (bY (eM g) l)) true).toSpec else EW f,_,fun f s h=>?_,?_,rfl,fun obj t e=>?_⟩
  ·dsimp only at h
   split at h
   ·rename_i e;cases h;subst e;exact OA.sound
   ·exact Np _ _ h
  ·dsimp only
   rw[if_neg (by intro e;have h':=aa;unfold n7 at h';simp[e]at h')];exact hs
  ·have ei:n7 (g.1,g.2):=aa
   simp only[go_sem,e,ei,List.length_map,wq]
 generalize gk:dF encR (encR zeroR) (eM g) l=XX
 generalize J2:eM g=p at *
 simp only[encR,V.cells,List.map_cons,List.map_nil]at hp
 refine⟨_,rfl,?_⟩
 have hm:l.length<=maxLen:=by unfold maxLen;omega
 repeat refine sq ?_
 refine rx hΓ [0,1] [] (fun K' hK=>by simp only[go_sem,bu];(repeat (refine⟨ak,?_⟩));exact hK _ (by simp only[go_sem,bu]) (by simp only[go_sem,bu]<;>rfl)) ?_
 repeat refine sq ?_
 refine rx hΓ [0,1,5] [] (fun K' hK=>by simp only[go_sem,bu,hI,hi,eT,implies_true];(repeat (refine⟨ak,?_⟩));exact hK _ (by simp only[go_sem,bu,hI,hi,eT,implies_true]) (by simp only[go_sem,bu,hI,hi,eT,implies_true]<;>rfl)) ?_
 repeat refine sq ?_
 refine rx hΓ [0,1,5,12] [] (fun K' hK=>by simp only[go_sem,bu];(repeat (refine⟨ak,?_⟩));exact hK _ (by simp only[go_sem,bu]) (by simp only[go_sem,bu]<;>rfl)) ?_
 repeat refine sq ?_
 refine ax (fun hb=>?_) fun hb=>?_
 ·repeat refine sq ?_
  refine rx hΓ [4] [] (fun K' hK=>by simp only[go_sem,bu];(repeat (refine⟨ak,?_⟩));exact hK _ (by simp only[go_sem,bu]) (by simp only[go_sem,bu]<;>rfl)) ?_
  refine bG (c0 4 (.msl [0,1] l.length) (by simp only[go_sem]) (by simp only[go_sem,eT,List.length_map]) [4] [] ?_ rfl) ?_
  ·simp only[go_sem,eT,bc]
  simp only[go_sem,eT]
  refine av ?_
  simp only[go_sem,eT]
  have cb:bY p l= -1:=by simpa using hb
  have dE:∀ d∈l,p d=false:=by
   unfold bY at cb
   split at cb
   ·omega
   ·rename_i hn
    intro d hd
    cases i4:p d with
    |false=>rfl
    |true=>exact(hn (List.any_eq_true.2 ⟨d,hd,i4⟩)).elim
  have hk:bN p l=l:=List.filter_eq_self.2 fun d hd=>by rw[dE d hd];rfl
  have pU:XX=l.map encR:=by rw[<-gk];unfold dF;rw[hk];simp
  rw[hk,pU]
  exact⟨.inr trivial,rfl,rfl⟩
 have hf:l.findIdx p<l.length:=by
  have cb:¬ bY p l= -1:=by simpa using hb
  unfold bY at cb
  split at cb
  ·rename_i gA
   exact List.findIdx_lt_length_of_exists (by obtain⟨y,hy,hp⟩:=List.any_eq_true.1 gA;exact⟨y,hy,hp⟩)
  ·exact(cb rfl).elim
 have j6:bY p l=(l.findIdx p:Int):=by unfold bY;rw[if_pos (List.any_eq_true.2 ⟨_,List.getElem_mem hf,List.findIdx_getElem (w:=hf)⟩)]
 rw[j6]
 clear hb j6 hi hI
 have vE:p (l[l.findIdx p])=true:=List.findIdx_getElem (w:=hf)
 have pO:∀ j (h:j<l.length),j<l.findIdx p->p l[j]=false:=fun j h hj=>by simpa using List.not_of_lt_findIdx hj
 generalize l.findIdx p=f at *
 repeat refine sq ?_
 refine aC ?_
 repeat refine sq ?_
 refine rx hΓ [0,1,5,6] [] (fun K' hK=>by simp only[go_sem,bu,aV hf hm,aY];(repeat (refine⟨ak,?_⟩));exact hK _ (by simp only[go_sem,bu,aV hf hm,aY]) (by simp only[go_sem,bu,aV hf hm,aY]<;>rfl)) ?_
 repeat refine sq ?_
 refine aI ?_
 repeat refine sq ?_
 refine zG (fun x:Nat×Nat×List wO=>upd H [0,1] (some (.arr 7 (x.2.2.map encR)))) (fun x=>[(5,⟨true,.v (vInt x.1)⟩),(6,⟨true,.v (vInt x.2.1)⟩)]) (fun x=>[]) (fun x=>x.1<x.2.1/\x.2.1<=l.length/\x.2.2.length=l.length/\x.2.2.take x.1=bN p (l.take x.2.1)/\x.2.2.drop x.2.1=l.drop x.2.1) (fun x=>l.length-x.2.1) (f,f+1,l) ?_ ?_ ?_ ?_ ?_
 ·refine⟨(show f<f+1 by omega),hf,rfl,?_,rfl⟩
  show l.take f=bN p (l.take (f+1))
  unfold bN
  rw[List.take_add_one,List.getElem?_eq_getElem hf,List.filter_append]
  simp only[Option.toList_some,List.filter_cons,vE,Bool.not_true,Bool.false_eq_true,if_false,List.filter_nil,List.append_nil]
  rw[List.filter_eq_self.2]
  intro d hd
  obtain⟨j,hj,rfl⟩:=List.getElem_of_mem hd
  have dL:j<f:=by simp at hj;omega
  rw[List.getElem_take,pO j (by omega) dL]
  rfl
 ·congr 1
  rw[<-eT]
  funext x
  by_cases e:x=[0,1]
  ·subst e;rw[aO]
  ·rw[aW _ _ _ e]
 ·rfl
 ·rfl
 clear pO
 rintro⟨i,j,A⟩ ⟨ew,hj,hA,hT,hD⟩
 simp only at ew hj hA hT hD
 dsimp only
 generalize dk:upd H [0,1] (some (O.arr 7 (List.map encR A)))=H'
 have h0:H' [0,1]=some (.arr 7 (A.map encR)):=by rw[<-dk,aO]
 have oP:∀ i,H' [i+1,1]=H [i+1,1]:=fun i=>by rw[<-dk,aW _ _ _ (by simp)]
 have b9:∀ hs,bx [0] (bp [0] hs) H'=True:=fun hs=>by rw[<-dk];exact ae _ _ _
 have cU:∀ hs sz L,bx [0] (bp [0] hs) (upd H' [0,1] (some (.arr sz L)))=True:=fun hs sz L=>by rw[<-dk,km];exact ae _ _ _
 have v7:∀ hs sz L,bx [0] (bp [0] hs) (upd H' [0,1] (some (.farr sz L)))=True:=fun hs sz L=>by rw[<-dk,km];exact bc _ _ _
 simp only[go_sem]
 repeat refine sq ?_
 refine rx hΓ [0,1,5,6,19] [] (fun K' hK=>by simp only[go_sem,b9,cU,h0];(repeat (refine⟨ak,?_⟩));exact hK _ (by simp only[go_sem,b9,cU,h0]) (by simp only[go_sem,b9,cU,h0]<;>rfl)) ?_
 repeat refine sq ?_
 refine ax (fun hb=>?_) fun hb=>?_
 ·have ab:j<l.length:=by simpa using hb
  have my:j<A.length:=by omega
  have ig:i<A.length:=by omega
  have vN:(i:Int)<l.length:=by omega
  have ao:(j:Int)<l.length:=by omega
  have mK:A[j]=l[j]:=by
   have h1:A[j]=(A.drop j)[0]'(by simp;omega):=by simp
   rw[h1]
   simp only[hD]
   simp
  clear hb
  repeat refine sq ?_
  refine aC ?_
  repeat refine sq ?_
  refine aI ?_
  repeat refine sq ?_
  refine rx hΓ [0,1,5,6,7] [[7,0]] (fun K' hK=>by simp only[go_sem,b9,cU,h0,ah my,ai,aj,ao,hA,mK];(repeat (refine⟨ak,?_⟩));exact hK _ (by simp only[go_sem,b9,cU,h0,ah my,ai,aj,ao,hA,mK]) (by simp only[go_sem,b9,cU,h0,ah my,ai,aj,ao,hA,mK]<;>rfl)) ?_
  repeat refine sq ?_
  refine rx hΓ [0,1,5,6,7,29] [[7,0]] (fun K' hK=>by simp only[go_sem,b9,cU,h0,hg,hs,hp];(repeat (refine⟨ak,?_⟩));exact hK _ (by simp only[go_sem,b9,cU,h0,hg,hs,hp]) (by simp only[go_sem,b9,cU,h0,hg,hs,hp]<;>rfl)) ?_
  repeat refine sq ?_
  refine ax (fun hb=>?_) fun hb=>?_
  ·have pM:p l[j]=false:=by simpa using hb
   clear hb
   repeat refine sq ?_
   refine qc hΓ [0,1,5,6] [] fun K' hK=>?_
   simp only[go_sem,b9,cU,h0,ai,aj,vN,hA]
   repeat' apply And.intro
   all_goals first | rfl | omega | exact Int.le_refl _ | exact Bool.or_not_self _ | exact Bool.not_or_self _ | exact mL _ | exact mM _ | exact fun x hx=>(mL _ x hx).1 | exact fun x hx=>(mM _ x hx).1 | (simp only[List.length_take,List.length_append,List.length_map,List.length_drop,List.length_cons,List.length_nil];done) | (simp only[List.length_take,List.length_append,List.length_map,List.length_drop,List.length_cons,List.length_nil];omega) | (simp only[List.length_take,List.length_append,List.length_map,List.length_drop,List.length_cons,List.length_nil,maxLen];omega) | (exact fun _=>by decide) | (exact fun h=>⟨h,by decide⟩) | (simp only[decide_eq_true_eq];omega) | skip
   refine hK _ ?_ ?_
   ·simp only[go_sem,b9,cU]
   clear K' hK
   simp only[go_sem]
   obtain⟨H2,mI⟩:∃ H2,upd H' [0,1] (some (O.arr 7 ((List.map encR A).set i (encR l[j]))))=H2:=⟨_,rfl⟩
   have pX:=mI
   simp only[encR]at pX
   rw[pX]
   have mG:∀ hs,bx [0] (bp [0] hs) H2=True:=fun hs=>by rw[<-mI];exact cU _ _ _
   repeat refine sq ?_
   refine aS hΓ fun K' hK=>?_
   simp only[go_sem]
   repeat (refine⟨ak,?_⟩)
   refine hK _ ?_
   clear K' hK
   simp only[go_sem]
   refine dd [0,1,5,6] [] ?_ ?_
   ·simp only[go_sem,mG]
   simp only[go_sem,mG]
   repeat refine sq ?_
   refine aS hΓ fun K' hK=>?_
   simp only[go_sem]
   repeat (refine⟨ak,?_⟩)
   refine hK _ ?_
   clear K' hK
   simp only[go_sem]
   refine⟨(i+1,j+1,A.set i l[j]),⟨(show i+1<j+1 by omega),ab,by simpa using hA,?_,?_⟩,(show l.length-(j+1)<l.length-j by omega),?_⟩
   ·show (A.set i l[j]).take (i+1)=bN p (l.take (j+1))
    unfold bN at hT |-
    rw[List.take_add_one (l:=l),List.getElem?_eq_getElem ab,List.filter_append,<-hT]
    simp only[Option.toList_some,List.filter_cons,pM,Bool.not_false,if_true,List.filter_nil]
    rw[List.take_add_one,List.take_set_of_le (Nat.le_refl i),List.getElem?_set_self ig]
    rfl
   ·show (A.set i l[j]).drop (j+1)=l.drop (j+1)
    rw[List.drop_set_of_lt (show i<j+1 by omega)]
    have :=congrArg (List.drop 1) hD
    simpa[List.drop_drop]using this
   ·refine bd [0,1,5,6] [] ?_ ?_
    ·simp only[go_sem,mG]
    ·simp only[go_sem,aV ab hm,aV (show i<l.length by omega) hm,aY]
     rw[<-mI,<-dk,km,List.map_set]
     try rfl
  ·have vD:p l[j]=true:=by simpa using hb
   clear hb
   repeat refine sq ?_
   refine aC ?_
   refine bA ?_
   simp only[go_sem]
   refine dd [0,1,5,6] [] ?_ ?_
   ·simp only[go_sem,b9]
   simp only[go_sem,b9]
   repeat refine sq ?_
   refine aS hΓ fun K' hK=>?_
   simp only[go_sem]
   repeat (refine⟨ak,?_⟩)
   refine hK _ ?_
   clear K' hK
   simp only[go_sem]
   refine⟨(i,j+1,A),⟨(show i<j+1 by omega),ab,hA,?_,?_⟩,(show l.length-(j+1)<l.length-j by omega),?_⟩
   ·show A.take i=bN p (l.take (j+1))
    unfold bN at hT |-
    rw[List.take_add_one (l:=l),List.getElem?_eq_getElem ab,List.filter_append,<-hT]
    simp only[Option.toList_some,List.filter_cons,vD,Bool.not_true,Bool.false_eq_true,if_false,List.filter_nil,List.append_nil]
   ·show A.drop (j+1)=l.drop (j+1)
    have :=congrArg (List.drop 1) hD
    simpa[List.drop_drop]using this
   ·refine bd [0,1,5,6] [] ?_ ?_
    ·simp only[go_sem,b9]
    ·simp only[go_sem,aV ab hm,aY]
     rw[<-dk]
 ·have bj:j=l.length:=by
    have :¬ (j:Int)<l.length:=by simpa using hb
    omega
  subst bj
  clear hb
  rw[List.take_length]at hT
  have ig:i<A.length:=by omega
  repeat refine sq ?_
  refine bC ?_
  simp only[go_sem]
  refine dd [0,5] [] ?_ ?_
  ·simp only[go_sem,b9]
  simp only[go_sem,b9]
  repeat refine sq ?_
  refine Ee hΓ [0,5] [] fun K' hK=>?_
  refine sO ?_ (sO ?_ (.cut (T:=27) (x:=.tmp 36) (lo:=.tmp 37) (c:=38) rfl rfl ?_ ?_ ?_ ?_ (.nil ?_)))
  ·simp only[go_sem]
  ·simp only[go_sem]
  ·simp only[go_sem]
  ·simp only[go_sem]
  ·simp only[go_sem]
  ·have vU:=fun (obj:Name->Option O) (h:obj [0,1]=_)=>D9 (obj:=obj) (nm:=[0,1]) (k:=l.length) (i:=i) (L:=A.map encR) h (by simpa using hA.symm) (by simpa using ig)
   simp only[go_sem,iy,EB,vU,h0]
  ·refine hK _ ?_ ?_
   ·simp only[go_sem,lJ,iy,EB,D9 (obj:=fun nm=>if own [0] nm=true then none else H' nm) (nm:=[0,1]) (k:=l.length) (i:=i) (L:=A.map encR) h0 (by simpa using hA.symm) (by simpa using ig),cU]
   clear K' hK
   simp only[go_sem,lJ,iy,EB,D9 (obj:=fun nm=>if own [0] nm=true then none else H' nm) (nm:=[0,1]) (k:=l.length) (i:=i) (L:=A.map encR) h0 (by simpa using hA.symm) (by simpa using ig)]
   have cS:(bN p l).length=i:=by rw[<-hT,List.length_take];omega
   have mE:(List.take i (List.map encR A)++List.replicate (A.length-i) (encR zeroR))=XX:=by
    rw[<-gk]
    unfold dF
    rw[cS,<-hT,List.map_take,hA]
   have KA:XX.length=l.length:=by rw[<-gk];unfold dF;simp;omega
   have vZ:XX.take i=(bN p l).map encR:=by
    rw[<-gk]
    unfold dF
    rw[List.take_append_of_le_length (by simp;omega),List.take_of_length_le (by simp;omega)]
   have vY:∀ x∈XX,x.cells.length=7:=by
    intro x hx
    rw[<-gk]at hx
    rcases List.mem_append.1 hx with h | h
    ·obtain⟨y,_,rfl⟩:=List.mem_map.1 h;rfl
    ·rw[(List.mem_replicate.1 h).2];rfl
   simp only[encR]at mE
   rw[mE]
   clear mE
   clear gk
   generalize XX=Z at *
   simp only[V.cells]at vY
   generalize mH:upd H' [0,1] (some (O.arr 7 Z))=H3
   have tO:H3 [0,1]=some (.arr 7 Z):=by rw[<-mH,aO]
   have KM:∀ i,H3 [i+1,1]=H [i+1,1]:=fun i=>by rw[<-mH,aW _ _ _ (by simp)];exact oP i
   have v5:∀ hs sz L,bx [0] (bp [0] hs) (upd H3 [0,1] (some (.farr sz L)))=True:=fun hs sz L=>by rw[<-mH,km];exact v7 _ _ _
   have vM:(i:Int)<=l.length:=by omega
   repeat refine sq ?_
   refine qc hΓ [4] [] fun K' hK=>?_
   simp only[go_sem,tO,Fv,ai,aj,vM]
   repeat' apply And.intro
   all_goals first | rfl | omega | exact Int.le_refl _ | exact Bool.or_not_self _ | exact Bool.not_or_self _ | exact mL _ | exact mM _ | exact fun x hx=>(mL _ x hx).1 | exact fun x hx=>(mM _ x hx).1 | (simp only[List.length_take,List.length_append,List.length_map,List.length_drop,List.length_cons,List.length_nil];done) | (simp only[List.length_take,List.length_append,List.length_map,List.length_drop,List.length_cons,List.length_nil];omega) | (simp only[List.length_take,List.length_append,List.length_map,List.length_drop,List.length_cons,List.length_nil,maxLen];omega) | (exact fun _=>by decide) | (exact fun h=>⟨h,by decide⟩) | (simp only[decide_eq_true_eq];omega) | skip
   refine hK _ ?_ ?_
   ·simp only[go_sem,v5]
   clear K' hK
   simp only[go_sem]
   refine av ?_
   simp only[go_sem,vZ]
   exact .inr trivial
def delCR:CSpec where
 pre:=fun os ds=>∃ (l:List wO) (g:Nat×Int),os=[.arr 7 (l.map encR)]/\ds=[.msl [0,1] l.length,.clo (.func g.1) [] [.v (.ptr [vInt g.2])]]/\l.length<1000000/\n7 g
 out:=fun os ds=>match os,ds with
  |[.arr _ L],[_,.clo (.func g) _ [.v (.ptr [.int _ k])]]=>⟨[(0,.farr 7 (dF encR (encR zeroR) (eM (g,k)) (L.map gF)))],[],.v (.sl ((bN (eM (g,k)) (L.map gF)).map encR))⟩
  |_,_=>⟨[],[],.any⟩
def rU(obj:Name->Option O)(_:Name):List D->R
 |[.msl nm k,.clo (.func g) [] [.v (.ptr [.int .i64 q])]]=>match obj nm with
  |some (.arr 7 L)=>⟨k=L.length/\L.length<1000000/\(L.map gF).map encR=L/\n7 (g,q),.v (.sl ((bN (eM (g,q)) (L.map gF)).map encR)),upd obj nm (some (.farr 7 (dF encR (encR zeroR) (eM (g,q)) (L.map gF))))⟩
  |_=>.bad obj
 |_=>.bad obj
def zo(_:Name->Option O)(_:Name):List D->List Name
 | .msl nm _::_=>[nm]
 |_=>[]
def S87:Spec:=⟨rU,zo,zo⟩
attribute [go_sem] S87 rU
theorem X3:S87.Near:=by
 refine qE fun obj obj2 t ds ha=>⟨rfl,?_⟩
 have eQ:∀ wr,bJ wr obj obj2->bP (R.bad obj) (R.bad obj2) obj obj2 wr:=fun wr h=>.none wr h
 unfold rU
 split
 ·rename_i nm k g q
  have h1:obj2 nm=obj nm:=ha nm (by simp[zo])
  simp only[h1]
  split
  ·exact .one (by simp[zo]) ha
  ·exact eQ _ ha
 ·exact eQ _ ha
theorem UM:aF Tryz.prog 87 delCR.toSpec:=by
 refine kV (nt:=42) (rs:=[.tmp 4]) Tryz.func87 rfl (by rfl) (by kernel_rfl) (gm Tryz.func87 rfl (by kernel_rfl)) (jt _ (by decide)) ?_
 rintro os ds ⟨l,g,rfl,rfl,hl,aa⟩
 refine⟨lb rfl,?_⟩
 have eP:delCR.out [.arr 7 (l.map encR)] [.msl [0,1] l.length,.clo (.func g.1) [] [.v (.ptr [vInt g.2])]]=⟨[(0,.farr 7 (dF encR (encR zeroR) (eM g) l))],[],.v (.sl ((bN (eM g) l).map encR))⟩:=by
  simp only[delCR,tX]
 rw[eP]
 have bu:∀ hs,bx [0] (bp [0] hs) (aM [.arr 7 (l.map encR)])=True:=fun hs=>eq_true (jL (by
  intro o ho dom hd
  simp only[List.mem_singleton]at ho
  subst ho
  rfl) hs)
 obtain⟨c,hc,h⟩:=NS aa (H:=aM [.arr 7 (l.map encR)]) hl rfl bu (fun hs sz L=>eq_true (mT rfl (by rw[bu];trivial))) (fun hs sz L=>eq_true (mT rfl (by rw[bu];trivial)))
 have vX:∀ c2,Tryz.f87.body=some c2->c2=c:=fun c2 h2=>by rw[h2]at hc;exact Option.some.inj hc
 rw[<-vX _ rfl]at h
 refine CW.mono (fE h) ?_
 rintro e σ ⟨he,h1,h2,h3⟩
 have fin:(bL Tryz.prog σ [.tmp 4]).ok/\(bL Tryz.prog σ [.tmp 4]).d=.v (.sl ((bN (eM g) l).map encR))/\fC [.arr 7 (l.map encR)] ⟨[(0,.farr 7 (dF encR (encR zeroR) (eM g) l))],[],.v (.sl ((bN (eM g) l).map encR))⟩ σ:=
  ⟨h1,h2,⟨h3,trivial⟩,trivial,rfl⟩
 rcases he with rfl | rfl
 ·exact fin
 ·exact fin
theorem UN:aF Tryz.prog 87 S87:=by
 refine qv UM X3 (jt _ (by decide)) fun obj t ds aa=>?_
 change (rU obj t ds).ok at aa
 refine⟨ds,rfl,fun _ _ _ _ h=>h,?_⟩
 show _/\_=(rU obj t ds).d/\_=(rU obj t ds).obj
 unfold rU at aa |-
 split at aa
 ·rename_i nm k g q
  split at aa
  ·rename_i L ho
   obtain⟨rfl,hl,he,hg⟩:=aa
   have hr:reach obj [.msl nm L.length,.clo (.func g) [] [.v (.ptr [.int .i64 q])]]=[nm]:=by
    unfold reach
    show cE obj (2998+1+1) [nm] []=[nm]
    simp only[cE,bZ,List.any_nil,Bool.false_eq_true,if_false,ho,gZ,List.nil_append]
   have i0:idx [nm] nm=0:=by simp[idx]
   have e1:ca obj [.msl nm L.length,.clo (.func g) [] [.v (.ptr [.int .i64 q])]]=[.arr 7 L]:=by
    unfold ca
    rw[hr]
    simp only[List.map_cons,List.map_nil,cm,ho,O.ren]
   have e2:cC obj [.msl nm L.length,.clo (.func g) [] [.v (.ptr [.int .i64 q])]]=[.msl [0,1] L.length,.clo (.func g) [] [.v (.ptr [.int .i64 q])]]:=by
    unfold cC
    rw[hr]
    simp only[D.renL,D.ren,cin,i0]
   have e3:(shut obj [nm]&&D.closL (bZ [nm]) [.msl nm L.length,.clo (.func g) [] [.v (.ptr [.int .i64 q])]]&&fresh obj t [])=true:=by
    simp[shut,ho,O.clos,D.closL,D.clos,bZ,fresh]
   have dg:delCR.pre [.arr 7 L] [.msl [0,1] L.length,.clo (.func g) [] [.v (.ptr [.int .i64 q])]]:=⟨L.map gF,(g,q),by rw[he],by rw[List.length_map],by rw[List.length_map];exact hl,hg⟩
   have eP:delCR.out [.arr 7 L] [.msl [0,1] L.length,.clo (.func g) [] [.v (.ptr [.int .i64 q])]]=⟨[(0,.farr 7 (dF encR (encR zeroR) (eM (g,q)) (L.map gF)))],[],.v (.sl ((bN (eM (g,q)) (L.map gF)).map encR))⟩:=rfl
   simp only[CSpec.toSpec,e1,e2,hr,eP,e3,dg,ho,and_self,de]
   exact⟨trivial,rfl,rfl⟩
  ·exact aa.elim
 ·exact aa.elim
def EU:FuncId->Option Spec:=tbl KDT
theorem Nn:∀ f s,EU f=some s->aF Tryz.prog f s:=aai
theorem G0{g:Nat×Int}(h:nZ g):∃ s,EU g.1=some s/\(¬ g.1=1000000000)/\(∀ obj t (x:wM),s.app obj t [.v (encT x),.v (.ptr [vInt g.2])]=⟨True,.v (.bool (eK g x)),obj⟩)/\
 ∀ obj t (x:wM),s.app obj t [.agg ((encT x).cells.map .v),.v (.ptr [vInt g.2])]=⟨True,.v (.bool (eK g x)),obj⟩:=by
 obtain⟨g,k⟩:=g
 rcases h with rfl | rfl
 all_goals exact⟨_,rfl,(by simp),fun obj t x=>by simp only[go_sem,eK];try rfl,fun obj t x=>by simp only[go_sem,eK,encT];try rfl⟩
theorem EA:(#[28]:Array Nat).getD 0 0=28:=rfl
theorem Ny:((bg Tryz.prog 40).bind fun z=>dN (gK z))=some (encT mU):=by rw[N5];rfl
theorem D8{obj:Name->Option O}{nm:Name}{k i:Nat}{L:List V}(h:obj nm=some (.arr 8 L))(hk:k=L.length)(hi:i<L.length):
 iE Tryz.prog obj 28 28 (.msl nm k) (.v (vInt i))=⟨True,.any,upd obj nm (some (.arr 8 (L.take i++List.replicate (L.length-i) (encT mU))))⟩:=by
 unfold iE
 simp only[Fu,h,Ny,ai]
 congr 1
 simp only[eq_iff_iff,iff_true]
 exact⟨hk,by omega,hi,trivial,rfl,rfl,trivial,by decide⟩
theorem Oz:aT Tryz.prog 180 (p2 (cW iT) er (fun _ g=>nZ g) (fun l g=>vInt (bY (eK g) l)) true):=by
 refine cV (rs:=[.tmp 4]) Tryz.func180 Tryz.ntmps180 fun l g hp hw=>?_
 simp only[er,iT,cW]at hw |-
 have hΓ:=Nn
 have hl:l.length<=maxLen:=by have:=hw.1.1;simpa using this
 obtain⟨s_,hs,hy,ha,_⟩:=G0 hp
 simp only[encT]at ha
 repeat refine sq ?_
 refine rx hΓ [0,1] [] (fun K' hK=>by simp only[go_sem];exact an) ?_
 repeat refine sq ?_
 refine rx hΓ [0,1,7,8] [] (fun K' hK=>by simp only[go_sem];exact an) ?_
 repeat refine sq ?_
 refine aI ?_
 repeat refine sq ?_
 refine bT (fun s:Nat=>[(8,⟨true,.v (vInt s)⟩)]) (fun s=>[]) (fun s=>s<=l.length/\∀ k (h:k<l.length),k<s->eK g l[k]=false) (fun s=>l.length-s) 0 ?_ ?_ ?_ ?_
 ·exact⟨Nat.zero_le _,by simp⟩
 ·rfl
 ·rfl
 rintro i ⟨hi,hR⟩
 simp only[go_sem]
 repeat refine sq ?_
 refine rx hΓ [0,1,7,8,9] [] (fun K' hK=>by simp only[go_sem];exact an) ?_
 repeat refine sq ?_
 refine ax (fun hb=>?_) fun hb=>?_
 ·have ab:i<l.length:=by simpa using hb
  have ao:(i:Int)<l.length:=by omega
  clear hb
  repeat refine sq ?_
  refine aC ?_
  repeat refine sq ?_
  refine aI ?_
  repeat refine sq ?_
  refine rx hΓ [0,1,5,7,8] [] (fun K' hK=>by simp only[go_sem,ah ab,ai,aj,ao];exact an) ?_
  repeat refine sq ?_
  refine rx hΓ [0,1,5,7,8,16] [] (fun K' hK=>by simp only[go_sem,ah ab,ai,aj,ao,hs,hy,ha];exact an) ?_
  repeat refine sq ?_
  refine ax (fun hb=>?_) fun hb=>?_
  ·repeat refine sq ?_
   refine rx hΓ [4] [] (fun K' hK=>by simp only[go_sem,ah ab,ai,aj,ao];exact an) ?_
   refine av ?_
   simp only[go_sem]
   rw[mi (p:=eK g) ab (by simpa using hb) hR]
  ·repeat refine sq ?_
   refine aC ?_
   refine bA ?_
   simp only[go_sem]
   refine kp [0,1,7,8] [] ?_
   repeat refine sq ?_
   refine aS hΓ fun K' hK=>?_
   simp only[go_sem,ah ab,ai,aj,ao]
   repeat (refine⟨ak,?_⟩)
   refine hK _ ?_
   clear K' hK
   simp only[go_sem]
   refine⟨i+1,⟨ab,?_⟩,by(show l.length-(i+1)<l.length-i;omega),?_⟩
   ·intro k hk cS
    rcases Nat.lt_succ_iff_lt_or_eq.1 cS with h5 | rfl
    ·exact hR k hk h5
    ·simpa using hb
   refine bd [0,1,7,8] [] ?_ ?_<;>simp only[go_sem,aV ab hl,aY]
 ·have bj:i=l.length:=by
   have :¬ (i:Int)<l.length:=by simpa using hb
   omega
  clear hb
  subst bj
  repeat refine sq ?_
  refine bC ?_
  simp only[go_sem]
  refine kp [] [] ?_
  repeat refine sq ?_
  refine rx hΓ [4] [] (fun K' hK=>by simp only[go_sem];exact an) ?_
  refine av ?_
  simp only[go_sem]
  rw[oz (p:=eK g) fun k hk=>hR k hk hk]
set_option maxRecDepth 10000 in
theorem NR{g:Nat×Int}(aa:nZ g){H:Name->Option O}{l:List wM}(hl:l.length<1000000)(eT:H [0,1]=some (.arr 8 (l.map encT)))(bu:∀ hs,bx [0] (bp [0] hs) H=True)(ae:∀ hs sz L,bx [0] (bp [0] hs) (upd H [0,1] (some (.arr sz L)))=True)(bc:∀ hs sz L,bx [0] (bp [0] hs) (upd H [0,1] (some (.farr sz L)))=True):
 ∃ c,Tryz.f89.body=some c/\CL Tryz.prog [c] (be 42 [0] H [(0,⟨true,.msl [0,1] l.length⟩),(1,⟨true,.clo (.func g.1) [] [.v (.ptr [vInt g.2])]⟩)] []) (fun e σ=>(e=.normal\/e=.ret)/\(σ.env 4).c=true/\
   (σ.env 4).d=.v (.sl ((bN (eK g) l).map encT))/\σ.obj [0,1]=some (.farr 8 (dF encT (encT mU) (eK g) l))):=by
 obtain⟨sG,hs,hg,_,hp⟩:=G0 aa
 obtain⟨Γ,sI,hΓ,hs,hI,hi⟩:∃ (Γ:FuncId->Option Spec) (sI:Spec),(∀ f s,Γ f=some s->aF Tryz.prog f s)/\Γ g.1=some sG/\Γ 180=some sI/\
  ∀ (obj:Name->Option O) (t:Name),obj [0,1]=some (.arr 8 (l.map encT))->sI.app obj t [.msl [0,1] l.length,.clo (.func g.1) [] [.v (.ptr [vInt g.2])]]=⟨True,.v (vInt (bY (eK g) l)),obj⟩:=by
  refine⟨fun f=>if f=180 then some (p2 (cW iT) er (fun _ g=>nZ g) (fun l g=>vInt (bY (eK g) l)) true).toSpec else EU f,_,fun f s h=>?_,?_,rfl,fun obj t e=>?_⟩
  ·dsimp only at h
   split at h
   ·rename_i e;cases h;subst e;exact Oz.sound
   ·exact Nn _ _ h
  ·dsimp only
   rw[if_neg (by intro e;have h':=aa;unfold nZ at h';simp[e]at h')];exact hs
  ·have ei:nZ (g.1,g.2):=aa
   simp only[go_sem,e,ei,List.length_map,wq]
 generalize gk:dF encT (encT mU) (eK g) l=XX
 generalize J2:eK g=p at *
 simp only[encT,V.cells,List.map_cons,List.map_nil]at hp
 refine⟨_,rfl,?_⟩
 have hm:l.length<=maxLen:=by unfold maxLen;omega
 repeat refine sq ?_
 refine rx hΓ [0,1] [] (fun K' hK=>by simp only[go_sem,bu];(repeat (refine⟨ak,?_⟩));exact hK _ (by simp only[go_sem,bu]) (by simp only[go_sem,bu]<;>rfl)) ?_
 repeat refine sq ?_
 refine rx hΓ [0,1,5] [] (fun K' hK=>by simp only[go_sem,bu,hI,hi,eT,implies_true];(repeat (refine⟨ak,?_⟩));exact hK _ (by simp only[go_sem,bu,hI,hi,eT,implies_true]) (by simp only[go_sem,bu,hI,hi,eT,implies_true]<;>rfl)) ?_
 repeat refine sq ?_
 refine rx hΓ [0,1,5,12] [] (fun K' hK=>by simp only[go_sem,bu];(repeat (refine⟨ak,?_⟩));exact hK _ (by simp only[go_sem,bu]) (by simp only[go_sem,bu]<;>rfl)) ?_
 repeat refine sq ?_
 refine ax (fun hb=>?_) fun hb=>?_
 ·repeat refine sq ?_
  refine rx hΓ [4] [] (fun K' hK=>by simp only[go_sem,bu];(repeat (refine⟨ak,?_⟩));exact hK _ (by simp only[go_sem,bu]) (by simp only[go_sem,bu]<;>rfl)) ?_
  refine bG (c0 4 (.msl [0,1] l.length) (by simp only[go_sem]) (by simp only[go_sem,eT,List.length_map]) [4] [] ?_ rfl) ?_
  ·simp only[go_sem,eT,bc]
  simp only[go_sem,eT]
  refine av ?_
  simp only[go_sem,eT]
  have cb:bY p l= -1:=by simpa using hb
  have dE:∀ d∈l,p d=false:=by
   unfold bY at cb
   split at cb
   ·omega
   ·rename_i hn
    intro d hd
    cases i4:p d with
    |false=>rfl
    |true=>exact(hn (List.any_eq_true.2 ⟨d,hd,i4⟩)).elim
  have hk:bN p l=l:=List.filter_eq_self.2 fun d hd=>by rw[dE d hd];rfl
  have pU:XX=l.map encT:=by rw[<-gk];unfold dF;rw[hk];simp
  rw[hk,pU]
  exact⟨.inr trivial,rfl,rfl⟩
 have hf:l.findIdx p<l.length:=by
  have cb:¬ bY p l= -1:=by simpa using hb
  unfold bY at cb
  split at cb
  ·rename_i gA
   exact List.findIdx_lt_length_of_exists (by obtain⟨y,hy,hp⟩:=List.any_eq_true.1 gA;exact⟨y,hy,hp⟩)
  ·exact(cb rfl).elim
 have j6:bY p l=(l.findIdx p:Int):=by unfold bY;rw[if_pos (List.any_eq_true.2 ⟨_,List.getElem_mem hf,List.findIdx_getElem (w:=hf)⟩)]
 rw[j6]
 clear hb j6 hi hI
 have vE:p (l[l.findIdx p])=true:=List.findIdx_getElem (w:=hf)
 have pO:∀ j (h:j<l.length),j<l.findIdx p->p l[j]=false:=fun j h hj=>by simpa using List.not_of_lt_findIdx hj
 generalize l.findIdx p=f at *
 repeat refine sq ?_
 refine aC ?_
 repeat refine sq ?_
 refine rx hΓ [0,1,5,6] [] (fun K' hK=>by simp only[go_sem,bu,aV hf hm,aY];(repeat (refine⟨ak,?_⟩));exact hK _ (by simp only[go_sem,bu,aV hf hm,aY]) (by simp only[go_sem,bu,aV hf hm,aY]<;>rfl)) ?_
 repeat refine sq ?_
 refine aI ?_
 repeat refine sq ?_
 refine zG (fun x:Nat×Nat×List wM=>upd H [0,1] (some (.arr 8 (x.2.2.map encT)))) (fun x=>[(5,⟨true,.v (vInt x.1)⟩),(6,⟨true,.v (vInt x.2.1)⟩)]) (fun x=>[]) (fun x=>x.1<x.2.1/\x.2.1<=l.length/\x.2.2.length=l.length/\x.2.2.take x.1=bN p (l.take x.2.1)/\x.2.2.drop x.2.1=l.drop x.2.1) (fun x=>l.length-x.2.1) (f,f+1,l) ?_ ?_ ?_ ?_ ?_
 ·refine⟨(show f<f+1 by omega),hf,rfl,?_,rfl⟩
  show l.take f=bN p (l.take (f+1))
  unfold bN
  rw[List.take_add_one,List.getElem?_eq_getElem hf,List.filter_append]
  simp only[Option.toList_some,List.filter_cons,vE,Bool.not_true,Bool.false_eq_true,if_false,List.filter_nil,List.append_nil]
  rw[List.filter_eq_self.2]
  intro d hd
  obtain⟨j,hj,rfl⟩:=List.getElem_of_mem hd
  have dL:j<f:=by simp at hj;omega
  rw[List.getElem_take,pO j (by omega) dL]
  rfl
 ·congr 1
  rw[<-eT]
  funext x
  by_cases e:x=[0,1]
  ·subst e;rw[aO]
  ·rw[aW _ _ _ e]
 ·rfl
 ·rfl
 clear pO
 rintro⟨i,j,A⟩ ⟨ew,hj,hA,hT,hD⟩
 simp only at ew hj hA hT hD
 dsimp only
 generalize dk:upd H [0,1] (some (O.arr 8 (List.map encT A)))=H'
 have h0:H' [0,1]=some (.arr 8 (A.map encT)):=by rw[<-dk,aO]
 have oP:∀ i,H' [i+1,1]=H [i+1,1]:=fun i=>by rw[<-dk,aW _ _ _ (by simp)]
 have b9:∀ hs,bx [0] (bp [0] hs) H'=True:=fun hs=>by rw[<-dk];exact ae _ _ _
 have cU:∀ hs sz L,bx [0] (bp [0] hs) (upd H' [0,1] (some (.arr sz L)))=True:=fun hs sz L=>by rw[<-dk,km];exact ae _ _ _
 have v7:∀ hs sz L,bx [0] (bp [0] hs) (upd H' [0,1] (some (.farr sz L)))=True:=fun hs sz L=>by rw[<-dk,km];exact bc _ _ _
 simp only[go_sem]
 repeat refine sq ?_
 refine rx hΓ [0,1,5,6,19] [] (fun K' hK=>by simp only[go_sem,b9,cU,h0];(repeat (refine⟨ak,?_⟩));exact hK _ (by simp only[go_sem,b9,cU,h0]) (by simp only[go_sem,b9,cU,h0]<;>rfl)) ?_
 repeat refine sq ?_
 refine ax (fun hb=>?_) fun hb=>?_
 ·have ab:j<l.length:=by simpa using hb
  have my:j<A.length:=by omega
  have ig:i<A.length:=by omega
  have vN:(i:Int)<l.length:=by omega
  have ao:(j:Int)<l.length:=by omega
  have mK:A[j]=l[j]:=by
   have h1:A[j]=(A.drop j)[0]'(by simp;omega):=by simp
   rw[h1]
   simp only[hD]
   simp
  clear hb
  repeat refine sq ?_
  refine aC ?_
  repeat refine sq ?_
  refine aI ?_
  repeat refine sq ?_
  refine rx hΓ [0,1,5,6,7] [[7,0]] (fun K' hK=>by simp only[go_sem,b9,cU,h0,ah my,ai,aj,ao,hA,mK];(repeat (refine⟨ak,?_⟩));exact hK _ (by simp only[go_sem,b9,cU,h0,ah my,ai,aj,ao,hA,mK]) (by simp only[go_sem,b9,cU,h0,ah my,ai,aj,ao,hA,mK]<;>rfl)) ?_
  repeat refine sq ?_
  refine rx hΓ [0,1,5,6,7,29] [[7,0]] (fun K' hK=>by simp only[go_sem,b9,cU,h0,hg,hs,hp];(repeat (refine⟨ak,?_⟩));exact hK _ (by simp only[go_sem,b9,cU,h0,hg,hs,hp]) (by simp only[go_sem,b9,cU,h0,hg,hs,hp]<;>rfl)) ?_
  repeat refine sq ?_
  refine ax (fun hb=>?_) fun hb=>?_
  ·have pM:p l[j]=false:=by simpa using hb
   clear hb
   repeat refine sq ?_
   refine qc hΓ [0,1,5,6] [] fun K' hK=>?_
   simp only[go_sem,b9,cU,h0,ai,aj,vN,hA]
   repeat' apply And.intro
   all_goals first | rfl | omega | exact Int.le_refl _ | exact Bool.or_not_self _ | exact Bool.not_or_self _ | exact mL _ | exact mM _ | exact fun x hx=>(mL _ x hx).1 | exact fun x hx=>(mM _ x hx).1 | (simp only[List.length_take,List.length_append,List.length_map,List.length_drop,List.length_cons,List.length_nil];done) | (simp only[List.length_take,List.length_append,List.length_map,List.length_drop,List.length_cons,List.length_nil];omega) | (simp only[List.length_take,List.length_append,List.length_map,List.length_drop,List.length_cons,List.length_nil,maxLen];omega) | (exact fun _=>by decide) | (exact fun h=>⟨h,by decide⟩) | (simp only[decide_eq_true_eq];omega) | skip
   refine hK _ ?_ ?_
   ·simp only[go_sem,b9,cU]
   clear K' hK
   simp only[go_sem]
   obtain⟨H2,mI⟩:∃ H2,upd H' [0,1] (some (O.arr 8 ((List.map encT A).set i (encT l[j]))))=H2:=⟨_,rfl⟩
   have pX:=mI
   simp only[encT]at pX
   rw[pX]
   have mG:∀ hs,bx [0] (bp [0] hs) H2=True:=fun hs=>by rw[<-mI];exact cU _ _ _
   repeat refine sq ?_
   refine aS hΓ fun K' hK=>?_
   simp only[go_sem]
   repeat (refine⟨ak,?_⟩)
   refine hK _ ?_
   clear K' hK
   simp only[go_sem]
   refine dd [0,1,5,6] [] ?_ ?_
   ·simp only[go_sem,mG]
   simp only[go_sem,mG]
   repeat refine sq ?_
   refine aS hΓ fun K' hK=>?_
   simp only[go_sem]
   repeat (refine⟨ak,?_⟩)
   refine hK _ ?_
   clear K' hK
   simp only[go_sem]
   refine⟨(i+1,j+1,A.set i l[j]),⟨(show i+1<j+1 by omega),ab,by simpa using hA,?_,?_⟩,(show l.length-(j+1)<l.length-j by omega),?_⟩
   ·show (A.set i l[j]).take (i+1)=bN p (l.take (j+1))
    unfold bN at hT |-
    rw[List.take_add_one (l:=l),List.getElem?_eq_getElem ab,List.filter_append,<-hT]
    simp only[Option.toList_some,List.filter_cons,pM,Bool.not_false,if_true,List.filter_nil]
    rw[List.take_add_one,List.take_set_of_le (Nat.le_refl i),List.getElem?_set_self ig]
    rfl
   ·show (A.set i l[j]).drop (j+1)=l.drop (j+1)
    rw[List.drop_set_of_lt (show i<j+1 by omega)]
    have :=congrArg (List.drop 1) hD
    simpa[List.drop_drop]using this
   ·refine bd [0,1,5,6] [] ?_ ?_
    ·simp only[go_sem,mG]
    ·simp only[go_sem,aV ab hm,aV (show i<l.length by omega) hm,aY]
     rw[<-mI,<-dk,km,List.map_set]
     try rfl
  ·have vD:p l[j]=true:=by simpa using hb
   clear hb
   repeat refine sq ?_
   refine aC ?_
   refine bA ?_
   simp only[go_sem]
   refine dd [0,1,5,6] [] ?_ ?_
   ·simp only[go_sem,b9]
   simp only[go_sem,b9]
   repeat refine sq ?_
   refine aS hΓ fun K' hK=>?_
   simp only[go_sem]
   repeat (refine⟨ak,?_⟩)
   refine hK _ ?_
   clear K' hK
   simp only[go_sem]
   refine⟨(i,j+1,A),⟨(show i<j+1 by omega),ab,hA,?_,?_⟩,(show l.length-(j+1)<l.length-j by omega),?_⟩
   ·show A.take i=bN p (l.take (j+1))
    unfold bN at hT |-
    rw[List.take_add_one (l:=l),List.getElem?_eq_getElem ab,List.filter_append,<-hT]
    simp only[Option.toList_some,List.filter_cons,vD,Bool.not_true,Bool.false_eq_true,if_false,List.filter_nil,List.append_nil]
   ·show A.drop (j+1)=l.drop (j+1)
    have :=congrArg (List.drop 1) hD
    simpa[List.drop_drop]using this
   ·refine bd [0,1,5,6] [] ?_ ?_
    ·simp only[go_sem,b9]
    ·simp only[go_sem,aV ab hm,aY]
     rw[<-dk]
 ·have bj:j=l.length:=by
    have :¬ (j:Int)<l.length:=by simpa using hb
    omega
  subst bj
  clear hb
  rw[List.take_length]at hT
  have ig:i<A.length:=by omega
  repeat refine sq ?_
  refine bC ?_
  simp only[go_sem]
  refine dd [0,5] [] ?_ ?_
  ·simp only[go_sem,b9]
  simp only[go_sem,b9]
  repeat refine sq ?_
  refine Ee hΓ [0,5] [] fun K' hK=>?_
  refine sO ?_ (sO ?_ (.cut (T:=28) (x:=.tmp 36) (lo:=.tmp 37) (c:=38) rfl rfl ?_ ?_ ?_ ?_ (.nil ?_)))
  ·simp only[go_sem]
  ·simp only[go_sem]
  ·simp only[go_sem]
  ·simp only[go_sem]
  ·simp only[go_sem]
  ·have vU:=fun (obj:Name->Option O) (h:obj [0,1]=_)=>D8 (obj:=obj) (nm:=[0,1]) (k:=l.length) (i:=i) (L:=A.map encT) h (by simpa using hA.symm) (by simpa using ig)
   simp only[go_sem,iy,EA,vU,h0]
  ·refine hK _ ?_ ?_
   ·simp only[go_sem,lJ,iy,EA,D8 (obj:=fun nm=>if own [0] nm=true then none else H' nm) (nm:=[0,1]) (k:=l.length) (i:=i) (L:=A.map encT) h0 (by simpa using hA.symm) (by simpa using ig),cU]
   clear K' hK
   simp only[go_sem,lJ,iy,EA,D8 (obj:=fun nm=>if own [0] nm=true then none else H' nm) (nm:=[0,1]) (k:=l.length) (i:=i) (L:=A.map encT) h0 (by simpa using hA.symm) (by simpa using ig)]
   have cS:(bN p l).length=i:=by rw[<-hT,List.length_take];omega
   have mE:(List.take i (List.map encT A)++List.replicate (A.length-i) (encT mU))=XX:=by
    rw[<-gk]
    unfold dF
    rw[cS,<-hT,List.map_take,hA]
   have KA:XX.length=l.length:=by rw[<-gk];unfold dF;simp;omega
   have vZ:XX.take i=(bN p l).map encT:=by
    rw[<-gk]
    unfold dF
    rw[List.take_append_of_le_length (by simp;omega),List.take_of_length_le (by simp;omega)]
   have vY:∀ x∈XX,x.cells.length=8:=by
    intro x hx
    rw[<-gk]at hx
    rcases List.mem_append.1 hx with h | h
    ·obtain⟨y,_,rfl⟩:=List.mem_map.1 h;rfl
    ·rw[(List.mem_replicate.1 h).2];rfl
   simp only[encT]at mE
   rw[mE]
   clear mE
   clear gk
   generalize XX=Z at *
   simp only[V.cells]at vY
   generalize mH:upd H' [0,1] (some (O.arr 8 Z))=H3
   have tO:H3 [0,1]=some (.arr 8 Z):=by rw[<-mH,aO]
   have KM:∀ i,H3 [i+1,1]=H [i+1,1]:=fun i=>by rw[<-mH,aW _ _ _ (by simp)];exact oP i
   have v5:∀ hs sz L,bx [0] (bp [0] hs) (upd H3 [0,1] (some (.farr sz L)))=True:=fun hs sz L=>by rw[<-mH,km];exact v7 _ _ _
   have vM:(i:Int)<=l.length:=by omega
   repeat refine sq ?_
   refine qc hΓ [4] [] fun K' hK=>?_
   simp only[go_sem,tO,Fu,ai,aj,vM]
   repeat' apply And.intro
   all_goals first | rfl | omega | exact Int.le_refl _ | exact Bool.or_not_self _ | exact Bool.not_or_self _ | exact mL _ | exact mM _ | exact fun x hx=>(mL _ x hx).1 | exact fun x hx=>(mM _ x hx).1 | (simp only[List.length_take,List.length_append,List.length_map,List.length_drop,List.length_cons,List.length_nil];done) | (simp only[List.length_take,List.length_append,List.length_map,List.length_drop,List.length_cons,List.length_nil];omega) | (simp only[List.length_take,List.length_append,List.length_map,List.length_drop,List.length_cons,List.length_nil,maxLen];omega) | (exact fun _=>by decide) | (exact fun h=>⟨h,by decide⟩) | (simp only[decide_eq_true_eq];omega) | skip
   refine hK _ ?_ ?_
   ·simp only[go_sem,v5]
   clear K' hK
   simp only[go_sem]
   refine av ?_
   simp only[go_sem,vZ]
   exact .inr trivial
def delCT:CSpec where
 pre:=fun os ds=>∃ (l:List wM) (g:Nat×Int),os=[.arr 8 (l.map encT)]/\ds=[.msl [0,1] l.length,.clo (.func g.1) [] [.v (.ptr [vInt g.2])]]/\l.length<1000000/\nZ g
 out:=fun os ds=>match os,ds with
  |[.arr _ L],[_,.clo (.func g) _ [.v (.ptr [.int _ k])]]=>⟨[(0,.farr 8 (dF encT (encT mU) (eK (g,k)) (L.map iv)))],[],.v (.sl ((bN (eK (g,k)) (L.map iv)).map encT))⟩
  |_,_=>⟨[],[],.any⟩
def rS(obj:Name->Option O)(_:Name):List D->R
 |[.msl nm k,.clo (.func g) [] [.v (.ptr [.int .i64 q])]]=>match obj nm with
  |some (.arr 8 L)=>⟨k=L.length/\L.length<1000000/\(L.map iv).map encT=L/\nZ (g,q),.v (.sl ((bN (eK (g,q)) (L.map iv)).map encT)),upd obj nm (some (.farr 8 (dF encT (encT mU) (eK (g,q)) (L.map iv))))⟩
  |_=>.bad obj
 |_=>.bad obj
def zm(_:Name->Option O)(_:Name):List D->List Name
 | .msl nm _::_=>[nm]
 |_=>[]
def S89:Spec:=⟨rS,zm,zm⟩
attribute [go_sem] S89 rS
theorem X1:S89.Near:=by
 refine qE fun obj obj2 t ds ha=>⟨rfl,?_⟩
 have eQ:∀ wr,bJ wr obj obj2->bP (R.bad obj) (R.bad obj2) obj obj2 wr:=fun wr h=>.none wr h
 unfold rS
 split
 ·rename_i nm k g q
  have h1:obj2 nm=obj nm:=ha nm (by simp[zm])
  simp only[h1]
  split
  ·exact .one (by simp[zm]) ha
  ·exact eQ _ ha
 ·exact eQ _ ha
theorem UK:aF Tryz.prog 89 delCT.toSpec:=by
 refine kV (nt:=42) (rs:=[.tmp 4]) Tryz.func89 rfl (by rfl) (by kernel_rfl) (gm Tryz.func89 rfl (by kernel_rfl)) (jt _ (by decide)) ?_
 rintro os ds ⟨l,g,rfl,rfl,hl,aa⟩
 refine⟨lb rfl,?_⟩
 have eP:delCT.out [.arr 8 (l.map encT)] [.msl [0,1] l.length,.clo (.func g.1) [] [.v (.ptr [vInt g.2])]]=⟨[(0,.farr 8 (dF encT (encT mU) (eK g) l))],[],.v (.sl ((bN (eK g) l).map encT))⟩:=by
  simp only[delCT,zq]
 rw[eP]
 have bu:∀ hs,bx [0] (bp [0] hs) (aM [.arr 8 (l.map encT)])=True:=fun hs=>eq_true (jL (by
  intro o ho dom hd
  simp only[List.mem_singleton]at ho
  subst ho
  rfl) hs)
 obtain⟨c,hc,h⟩:=NR aa (H:=aM [.arr 8 (l.map encT)]) hl rfl bu (fun hs sz L=>eq_true (mT rfl (by rw[bu];trivial))) (fun hs sz L=>eq_true (mT rfl (by rw[bu];trivial)))
 have vX:∀ c2,Tryz.f89.body=some c2->c2=c:=fun c2 h2=>by rw[h2]at hc;exact Option.some.inj hc
 rw[<-vX _ rfl]at h
 refine CW.mono (fE h) ?_
 rintro e σ ⟨he,h1,h2,h3⟩
 have fin:(bL Tryz.prog σ [.tmp 4]).ok/\(bL Tryz.prog σ [.tmp 4]).d=.v (.sl ((bN (eK g) l).map encT))/\fC [.arr 8 (l.map encT)] ⟨[(0,.farr 8 (dF encT (encT mU) (eK g) l))],[],.v (.sl ((bN (eK g) l).map encT))⟩ σ:=
  ⟨h1,h2,⟨h3,trivial⟩,trivial,rfl⟩
 rcases he with rfl | rfl
 ·exact fin
 ·exact fin
theorem UL:aF Tryz.prog 89 S89:=by
 refine qv UK X1 (jt _ (by decide)) fun obj t ds aa=>?_
 change (rS obj t ds).ok at aa
 refine⟨ds,rfl,fun _ _ _ _ h=>h,?_⟩
 show _/\_=(rS obj t ds).d/\_=(rS obj t ds).obj
 unfold rS at aa |-
 split at aa
 ·rename_i nm k g q
  split at aa
  ·rename_i L ho
   obtain⟨rfl,hl,he,hg⟩:=aa
   have hr:reach obj [.msl nm L.length,.clo (.func g) [] [.v (.ptr [.int .i64 q])]]=[nm]:=by
    unfold reach
    show cE obj (2998+1+1) [nm] []=[nm]
    simp only[cE,bZ,List.any_nil,Bool.false_eq_true,if_false,ho,gZ,List.nil_append]
   have i0:idx [nm] nm=0:=by simp[idx]
   have e1:ca obj [.msl nm L.length,.clo (.func g) [] [.v (.ptr [.int .i64 q])]]=[.arr 8 L]:=by
    unfold ca
    rw[hr]
    simp only[List.map_cons,List.map_nil,cm,ho,O.ren]
   have e2:cC obj [.msl nm L.length,.clo (.func g) [] [.v (.ptr [.int .i64 q])]]=[.msl [0,1] L.length,.clo (.func g) [] [.v (.ptr [.int .i64 q])]]:=by
    unfold cC
    rw[hr]
    simp only[D.renL,D.ren,cin,i0]
   have e3:(shut obj [nm]&&D.closL (bZ [nm]) [.msl nm L.length,.clo (.func g) [] [.v (.ptr [.int .i64 q])]]&&fresh obj t [])=true:=by
    simp[shut,ho,O.clos,D.closL,D.clos,bZ,fresh]
   have dg:delCT.pre [.arr 8 L] [.msl [0,1] L.length,.clo (.func g) [] [.v (.ptr [.int .i64 q])]]:=⟨L.map iv,(g,q),by rw[he],by rw[List.length_map],by rw[List.length_map];exact hl,hg⟩
   have eP:delCT.out [.arr 8 L] [.msl [0,1] L.length,.clo (.func g) [] [.v (.ptr [.int .i64 q])]]=⟨[(0,.farr 8 (dF encT (encT mU) (eK (g,q)) (L.map iv)))],[],.v (.sl ((bN (eK (g,q)) (L.map iv)).map encT))⟩:=rfl
   simp only[CSpec.toSpec,e1,e2,hr,eP,e3,dg,ho,and_self,de]
   exact⟨trivial,rfl,rfl⟩
  ·exact aa.elim
 ·exact aa.elim
def EV:FuncId->Option Spec:=tbl KDS
theorem No:∀ f s,EV f=some s->aF Tryz.prog f s:=aaj
theorem G1{g:Nat×Int}(h:ni g):∃ s,EV g.1=some s/\(¬ g.1=1000000000)/\(∀ obj t (x:wN),s.app obj t [.v (encS x),.v (.ptr [vInt g.2])]=⟨True,.v (.bool (eo g x)),obj⟩)/\
 ∀ obj t (x:wN),s.app obj t [.agg ((encS x).cells.map .v),.v (.ptr [vInt g.2])]=⟨True,.v (.bool (eo g x)),obj⟩:=by
 obtain⟨g,k⟩:=g
 rcases h with rfl | rfl
 all_goals exact⟨_,rfl,(by simp),fun obj t x=>by simp only[go_sem,eo];try rfl,fun obj t x=>by simp only[go_sem,eo,encS];try rfl⟩
theorem Ez:(#[29]:Array Nat).getD 0 0=29:=rfl
theorem Nx:((bg Tryz.prog 81).bind fun z=>dN (gK z))=some (encS mV):=by rw[N4];rfl
theorem D7{obj:Name->Option O}{nm:Name}{k i:Nat}{L:List V}(h:obj nm=some (.arr 7 L))(hk:k=L.length)(hi:i<L.length):
 iE Tryz.prog obj 29 29 (.msl nm k) (.v (vInt i))=⟨True,.any,upd obj nm (some (.arr 7 (L.take i++List.replicate (L.length-i) (encS mV))))⟩:=by
 unfold iE
 simp only[Ft,h,Nx,ai]
 congr 1
 simp only[eq_iff_iff,iff_true]
 exact⟨hk,by omega,hi,trivial,rfl,rfl,trivial,by decide⟩
theorem Oy:aT Tryz.prog 181 (p2 (cW iS) er (fun _ g=>ni g) (fun l g=>vInt (bY (eo g) l)) true):=by
 refine cV (rs:=[.tmp 4]) Tryz.func181 Tryz.ntmps181 fun l g hp hw=>?_
 simp only[er,iS,cW]at hw |-
 have hΓ:=No
 have hl:l.length<=maxLen:=by have:=hw.1.1;simpa using this
 obtain⟨s_,hs,hy,ha,_⟩:=G1 hp
 simp only[encS]at ha
 repeat refine sq ?_
 refine rx hΓ [0,1] [] (fun K' hK=>by simp only[go_sem];exact an) ?_
 repeat refine sq ?_
 refine rx hΓ [0,1,7,8] [] (fun K' hK=>by simp only[go_sem];exact an) ?_
 repeat refine sq ?_
 refine aI ?_
 repeat refine sq ?_
 refine bT (fun s:Nat=>[(8,⟨true,.v (vInt s)⟩)]) (fun s=>[]) (fun s=>s<=l.length/\∀ k (h:k<l.length),k<s->eo g l[k]=false) (fun s=>l.length-s) 0 ?_ ?_ ?_ ?_
 ·exact⟨Nat.zero_le _,by simp⟩
 ·rfl
 ·rfl
 rintro i ⟨hi,hR⟩
 simp only[go_sem]
 repeat refine sq ?_
 refine rx hΓ [0,1,7,8,9] [] (fun K' hK=>by simp only[go_sem];exact an) ?_
 repeat refine sq ?_
 refine ax (fun hb=>?_) fun hb=>?_
 ·have ab:i<l.length:=by simpa using hb
  have ao:(i:Int)<l.length:=by omega
  clear hb
  repeat refine sq ?_
  refine aC ?_
  repeat refine sq ?_
  refine aI ?_
  repeat refine sq ?_
  refine rx hΓ [0,1,5,7,8] [] (fun K' hK=>by simp only[go_sem,ah ab,ai,aj,ao];exact an) ?_
  repeat refine sq ?_
  refine rx hΓ [0,1,5,7,8,16] [] (fun K' hK=>by simp only[go_sem,ah ab,ai,aj,ao,hs,hy,ha];exact an) ?_
  repeat refine sq ?_
  refine ax (fun hb=>?_) fun hb=>?_
  ·repeat refine sq ?_
   refine rx hΓ [4] [] (fun K' hK=>by simp only[go_sem,ah ab,ai,aj,ao];exact an) ?_
   refine av ?_
   simp only[go_sem]
   rw[mi (p:=eo g) ab (by simpa using hb) hR]
  ·repeat refine sq ?_
   refine aC ?_
   refine bA ?_
   simp only[go_sem]
   refine kp [0,1,7,8] [] ?_
   repeat refine sq ?_
   refine aS hΓ fun K' hK=>?_
   simp only[go_sem,ah ab,ai,aj,ao]
   repeat (refine⟨ak,?_⟩)
   refine hK _ ?_
   clear K' hK
   simp only[go_sem]
   refine⟨i+1,⟨ab,?_⟩,by(show l.length-(i+1)<l.length-i;omega),?_⟩
   ·intro k hk cS
    rcases Nat.lt_succ_iff_lt_or_eq.1 cS with h5 | rfl
    ·exact hR k hk h5
    ·simpa using hb
   refine bd [0,1,7,8] [] ?_ ?_<;>simp only[go_sem,aV ab hl,aY]
 ·have bj:i=l.length:=by
   have :¬ (i:Int)<l.length:=by simpa using hb
   omega
  clear hb
  subst bj
  repeat refine sq ?_
  refine bC ?_
  simp only[go_sem]
  refine kp [] [] ?_
  repeat refine sq ?_
  refine rx hΓ [4] [] (fun K' hK=>by simp only[go_sem];exact an) ?_
  refine av ?_
  simp only[go_sem]
  rw[oz (p:=eo g) fun k hk=>hR k hk hk]
set_option maxRecDepth 10000 in
theorem NQ{g:Nat×Int}(aa:ni g){H:Name->Option O}{l:List wN}(hl:l.length<1000000)(eT:H [0,1]=some (.arr 7 (l.map encS)))(bu:∀ hs,bx [0] (bp [0] hs) H=True)(ae:∀ hs sz L,bx [0] (bp [0] hs) (upd H [0,1] (some (.arr sz L)))=True)(bc:∀ hs sz L,bx [0] (bp [0] hs) (upd H [0,1] (some (.farr sz L)))=True):
 ∃ c,Tryz.f91.body=some c/\CL Tryz.prog [c] (be 42 [0] H [(0,⟨true,.msl [0,1] l.length⟩),(1,⟨true,.clo (.func g.1) [] [.v (.ptr [vInt g.2])]⟩)] []) (fun e σ=>(e=.normal\/e=.ret)/\(σ.env 4).c=true/\
   (σ.env 4).d=.v (.sl ((bN (eo g) l).map encS))/\σ.obj [0,1]=some (.farr 7 (dF encS (encS mV) (eo g) l))):=by
 obtain⟨sG,hs,hg,_,hp⟩:=G1 aa
 obtain⟨Γ,sI,hΓ,hs,hI,hi⟩:∃ (Γ:FuncId->Option Spec) (sI:Spec),(∀ f s,Γ f=some s->aF Tryz.prog f s)/\Γ g.1=some sG/\Γ 181=some sI/\
  ∀ (obj:Name->Option O) (t:Name),obj [0,1]=some (.arr 7 (l.map encS))->sI.app obj t [.msl [0,1] l.length,.clo (.func g.1) [] [.v (.ptr [vInt g.2])]]=⟨True,.v (vInt (bY (eo g) l)),obj⟩:=by
  refine⟨fun f=>if f=181 then some (p2 (cW iS) er (fun _ g=>ni g) (fun l g=>vInt (bY (eo g) l)) true).toSpec else EV f,_,fun f s h=>?_,?_,rfl,fun obj t e=>?_⟩
  ·dsimp only at h
   split at h
   ·rename_i e;cases h;subst e;exact Oy.sound
   ·exact No _ _ h
  ·dsimp only
   rw[if_neg (by intro e;have h':=aa;unfold ni at h';simp[e]at h')];exact hs
  ·have ei:ni (g.1,g.2):=aa
   simp only[go_sem,e,ei,List.length_map,wq]
 generalize gk:dF encS (encS mV) (eo g) l=XX
 generalize J2:eo g=p at *
 simp only[encS,V.cells,List.map_cons,List.map_nil]at hp
 refine⟨_,rfl,?_⟩
 have hm:l.length<=maxLen:=by unfold maxLen;omega
 repeat refine sq ?_
 refine rx hΓ [0,1] [] (fun K' hK=>by simp only[go_sem,bu];(repeat (refine⟨ak,?_⟩));exact hK _ (by simp only[go_sem,bu]) (by simp only[go_sem,bu]<;>rfl)) ?_
 repeat refine sq ?_
 refine rx hΓ [0,1,5] [] (fun K' hK=>by simp only[go_sem,bu,hI,hi,eT,implies_true];(repeat (refine⟨ak,?_⟩));exact hK _ (by simp only[go_sem,bu,hI,hi,eT,implies_true]) (by simp only[go_sem,bu,hI,hi,eT,implies_true]<;>rfl)) ?_
 repeat refine sq ?_
 refine rx hΓ [0,1,5,12] [] (fun K' hK=>by simp only[go_sem,bu];(repeat (refine⟨ak,?_⟩));exact hK _ (by simp only[go_sem,bu]) (by simp only[go_sem,bu]<;>rfl)) ?_
 repeat refine sq ?_
 refine ax (fun hb=>?_) fun hb=>?_
 ·repeat refine sq ?_
  refine rx hΓ [4] [] (fun K' hK=>by simp only[go_sem,bu];(repeat (refine⟨ak,?_⟩));exact hK _ (by simp only[go_sem,bu]) (by simp only[go_sem,bu]<;>rfl)) ?_
  refine bG (c0 4 (.msl [0,1] l.length) (by simp only[go_sem]) (by simp only[go_sem,eT,List.length_map]) [4] [] ?_ rfl) ?_
  ·simp only[go_sem,eT,bc]
  simp only[go_sem,eT]
  refine av ?_
  simp only[go_sem,eT]
  have cb:bY p l= -1:=by simpa using hb
  have dE:∀ d∈l,p d=false:=by
   unfold bY at cb
   split at cb
   ·omega
   ·rename_i hn
    intro d hd
    cases i4:p d with
    |false=>rfl
    |true=>exact(hn (List.any_eq_true.2 ⟨d,hd,i4⟩)).elim
  have hk:bN p l=l:=List.filter_eq_self.2 fun d hd=>by rw[dE d hd];rfl
  have pU:XX=l.map encS:=by rw[<-gk];unfold dF;rw[hk];simp
  rw[hk,pU]
  exact⟨.inr trivial,rfl,rfl⟩
 have hf:l.findIdx p<l.length:=by
  have cb:¬ bY p l= -1:=by simpa using hb
  unfold bY at cb
  split at cb
  ·rename_i gA
   exact List.findIdx_lt_length_of_exists (by obtain⟨y,hy,hp⟩:=List.any_eq_true.1 gA;exact⟨y,hy,hp⟩)
  ·exact(cb rfl).elim
 have j6:bY p l=(l.findIdx p:Int):=by unfold bY;rw[if_pos (List.any_eq_true.2 ⟨_,List.getElem_mem hf,List.findIdx_getElem (w:=hf)⟩)]
 rw[j6]
 clear hb j6 hi hI
 have vE:p (l[l.findIdx p])=true:=List.findIdx_getElem (w:=hf)
 have pO:∀ j (h:j<l.length),j<l.findIdx p->p l[j]=false:=fun j h hj=>by simpa using List.not_of_lt_findIdx hj
 generalize l.findIdx p=f at *
 repeat refine sq ?_
 refine aC ?_
 repeat refine sq ?_
 refine rx hΓ [0,1,5,6] [] (fun K' hK=>by simp only[go_sem,bu,aV hf hm,aY];(repeat (refine⟨ak,?_⟩));exact hK _ (by simp only[go_sem,bu,aV hf hm,aY]) (by simp only[go_sem,bu,aV hf hm,aY]<;>rfl)) ?_
 repeat refine sq ?_
 refine aI ?_
 repeat refine sq ?_
 refine zG (fun x:Nat×Nat×List wN=>upd H [0,1] (some (.arr 7 (x.2.2.map encS)))) (fun x=>[(5,⟨true,.v (vInt x.1)⟩),(6,⟨true,.v (vInt x.2.1)⟩)]) (fun x=>[]) (fun x=>x.1<x.2.1/\x.2.1<=l.length/\x.2.2.length=l.length/\x.2.2.take x.1=bN p (l.take x.2.1)/\x.2.2.drop x.2.1=l.drop x.2.1) (fun x=>l.length-x.2.1) (f,f+1,l) ?_ ?_ ?_ ?_ ?_
 ·refine⟨(show f<f+1 by omega),hf,rfl,?_,rfl⟩
  show l.take f=bN p (l.take (f+1))
  unfold bN
  rw[List.take_add_one,List.getElem?_eq_getElem hf,List.filter_append]
  simp only[Option.toList_some,List.filter_cons,vE,Bool.not_true,Bool.false_eq_true,if_false,List.filter_nil,List.append_nil]
  rw[List.filter_eq_self.2]
  intro d hd
  obtain⟨j,hj,rfl⟩:=List.getElem_of_mem hd
  have dL:j<f:=by simp at hj;omega
  rw[List.getElem_take,pO j (by omega) dL]
  rfl
 ·congr 1
  rw[<-eT]
  funext x
  by_cases e:x=[0,1]
  ·subst e;rw[aO]
  ·rw[aW _ _ _ e]
 ·rfl
 ·rfl
 clear pO
 rintro⟨i,j,A⟩ ⟨ew,hj,hA,hT,hD⟩
 simp only at ew hj hA hT hD
 dsimp only
 generalize dk:upd H [0,1] (some (O.arr 7 (List.map encS A)))=H'
 have h0:H' [0,1]=some (.arr 7 (A.map encS)):=by rw[<-dk,aO]
 have oP:∀ i,H' [i+1,1]=H [i+1,1]:=fun i=>by rw[<-dk,aW _ _ _ (by simp)]
 have b9:∀ hs,bx [0] (bp [0] hs) H'=True:=fun hs=>by rw[<-dk];exact ae _ _ _
 have cU:∀ hs sz L,bx [0] (bp [0] hs) (upd H' [0,1] (some (.arr sz L)))=True:=fun hs sz L=>by rw[<-dk,km];exact ae _ _ _
 have v7:∀ hs sz L,bx [0] (bp [0] hs) (upd H' [0,1] (some (.farr sz L)))=True:=fun hs sz L=>by rw[<-dk,km];exact bc _ _ _
 simp only[go_sem]
 repeat refine sq ?_
 refine rx hΓ [0,1,5,6,19] [] (fun K' hK=>by simp only[go_sem,b9,cU,h0];(repeat (refine⟨ak,?_⟩));exact hK _ (by simp only[go_sem,b9,cU,h0]) (by simp only[go_sem,b9,cU,h0]<;>rfl)) ?_
 repeat refine sq ?_
 refine ax (fun hb=>?_) fun hb=>?_
 ·have ab:j<l.length:=by simpa using hb
  have my:j<A.length:=by omega
  have ig:i<A.length:=by omega
  have vN:(i:Int)<l.length:=by omega
  have ao:(j:Int)<l.length:=by omega
  have mK:A[j]=l[j]:=by
   have h1:A[j]=(A.drop j)[0]'(by simp;omega):=by simp
   rw[h1]
   simp only[hD]
   simp
  clear hb
  repeat refine sq ?_
  refine aC ?_
  repeat refine sq ?_
  refine aI ?_
  repeat refine sq ?_
  refine rx hΓ [0,1,5,6,7] [[7,0]] (fun K' hK=>by simp only[go_sem,b9,cU,h0,ah my,ai,aj,ao,hA,mK];(repeat (refine⟨ak,?_⟩));exact hK _ (by simp only[go_sem,b9,cU,h0,ah my,ai,aj,ao,hA,mK]) (by simp only[go_sem,b9,cU,h0,ah my,ai,aj,ao,hA,mK]<;>rfl)) ?_
  repeat refine sq ?_
  refine rx hΓ [0,1,5,6,7,29] [[7,0]] (fun K' hK=>by simp only[go_sem,b9,cU,h0,hg,hs,hp];(repeat (refine⟨ak,?_⟩));exact hK _ (by simp only[go_sem,b9,cU,h0,hg,hs,hp]) (by simp only[go_sem,b9,cU,h0,hg,hs,hp]<;>rfl)) ?_
  repeat refine sq ?_
  refine ax (fun hb=>?_) fun hb=>?_
  ·have pM:p l[j]=false:=by simpa using hb
   clear hb
   repeat refine sq ?_
   refine qc hΓ [0,1,5,6] [] fun K' hK=>?_
   simp only[go_sem,b9,cU,h0,ai,aj,vN,hA]
   repeat' apply And.intro
   all_goals first | rfl | omega | exact Int.le_refl _ | exact Bool.or_not_self _ | exact Bool.not_or_self _ | exact mL _ | exact mM _ | exact fun x hx=>(mL _ x hx).1 | exact fun x hx=>(mM _ x hx).1 | (simp only[List.length_take,List.length_append,List.length_map,List.length_drop,List.length_cons,List.length_nil];done) | (simp only[List.length_take,List.length_append,List.length_map,List.length_drop,List.length_cons,List.length_nil];omega) | (simp only[List.length_take,List.length_append,List.length_map,List.length_drop,List.length_cons,List.length_nil,maxLen];omega) | (exact fun _=>by decide) | (exact fun h=>⟨h,by decide⟩) | (simp only[decide_eq_true_eq];omega) | skip
   refine hK _ ?_ ?_
   ·simp only[go_sem,b9,cU]
   clear K' hK
   simp only[go_sem]
   obtain⟨H2,mI⟩:∃ H2,upd H' [0,1] (some (O.arr 7 ((List.map encS A).set i (encS l[j]))))=H2:=⟨_,rfl⟩
   have pX:=mI
   simp only[encS]at pX
   rw[pX]
   have mG:∀ hs,bx [0] (bp [0] hs) H2=True:=fun hs=>by rw[<-mI];exact cU _ _ _
   repeat refine sq ?_
   refine aS hΓ fun K' hK=>?_
   simp only[go_sem]
   repeat (refine⟨ak,?_⟩)
   refine hK _ ?_
   clear K' hK
   simp only[go_sem]
   refine dd [0,1,5,6] [] ?_ ?_
   ·simp only[go_sem,mG]
   simp only[go_sem,mG]
   repeat refine sq ?_
   refine aS hΓ fun K' hK=>?_
   simp only[go_sem]
   repeat (refine⟨ak,?_⟩)
   refine hK _ ?_
   clear K' hK
   simp only[go_sem]
   refine⟨(i+1,j+1,A.set i l[j]),⟨(show i+1<j+1 by omega),ab,by simpa using hA,?_,?_⟩,(show l.length-(j+1)<l.length-j by omega),?_⟩
   ·show (A.set i l[j]).take (i+1)=bN p (l.take (j+1))
    unfold bN at hT |-
    rw[List.take_add_one (l:=l),List.getElem?_eq_getElem ab,List.filter_append,<-hT]
    simp only[Option.toList_some,List.filter_cons,pM,Bool.not_false,if_true,List.filter_nil]
    rw[List.take_add_one,List.take_set_of_le (Nat.le_refl i),List.getElem?_set_self ig]
    rfl
   ·show (A.set i l[j]).drop (j+1)=l.drop (j+1)
    rw[List.drop_set_of_lt (show i<j+1 by omega)]
    have :=congrArg (List.drop 1) hD
    simpa[List.drop_drop]using this
   ·refine bd [0,1,5,6] [] ?_ ?_
    ·simp only[go_sem,mG]
    ·simp only[go_sem,aV ab hm,aV (show i<l.length by omega) hm,aY]
     rw[<-mI,<-dk,km,List.map_set]
     try rfl
  ·have vD:p l[j]=true:=by simpa using hb
   clear hb
   repeat refine sq ?_
   refine aC ?_
   refine bA ?_
   simp only[go_sem]
   refine dd [0,1,5,6] [] ?_ ?_
   ·simp only[go_sem,b9]
   simp only[go_sem,b9]
   repeat refine sq ?_
   refine aS hΓ fun K' hK=>?_
   simp only[go_sem]
   repeat (refine⟨ak,?_⟩)
   refine hK _ ?_
   clear K' hK
   simp only[go_sem]
   refine⟨(i,j+1,A),⟨(show i<j+1 by omega),ab,hA,?_,?_⟩,(show l.length-(j+1)<l.length-j by omega),?_⟩
   ·show A.take i=bN p (l.take (j+1))
    unfold bN at hT |-
    rw[List.take_add_one (l:=l),List.getElem?_eq_getElem ab,List.filter_append,<-hT]
    simp only[Option.toList_some,List.filter_cons,vD,Bool.not_true,Bool.false_eq_true,if_false,List.filter_nil,List.append_nil]
   ·show A.drop (j+1)=l.drop (j+1)
    have :=congrArg (List.drop 1) hD
    simpa[List.drop_drop]using this
   ·refine bd [0,1,5,6] [] ?_ ?_
    ·simp only[go_sem,b9]
    ·simp only[go_sem,aV ab hm,aY]
     rw[<-dk]
 ·have bj:j=l.length:=by
    have :¬ (j:Int)<l.length:=by simpa using hb
    omega
  subst bj
  clear hb
  rw[List.take_length]at hT
  have ig:i<A.length:=by omega
  repeat refine sq ?_
  refine bC ?_
  simp only[go_sem]
  refine dd [0,5] [] ?_ ?_
  ·simp only[go_sem,b9]
  simp only[go_sem,b9]
  repeat refine sq ?_
  refine Ee hΓ [0,5] [] fun K' hK=>?_
  refine sO ?_ (sO ?_ (.cut (T:=29) (x:=.tmp 36) (lo:=.tmp 37) (c:=38) rfl rfl ?_ ?_ ?_ ?_ (.nil ?_)))
  ·simp only[go_sem]
  ·simp only[go_sem]
  ·simp only[go_sem]
  ·simp only[go_sem]
  ·simp only[go_sem]
  ·have vU:=fun (obj:Name->Option O) (h:obj [0,1]=_)=>D7 (obj:=obj) (nm:=[0,1]) (k:=l.length) (i:=i) (L:=A.map encS) h (by simpa using hA.symm) (by simpa using ig)
   simp only[go_sem,iy,Ez,vU,h0]
  ·refine hK _ ?_ ?_
   ·simp only[go_sem,lJ,iy,Ez,D7 (obj:=fun nm=>if own [0] nm=true then none else H' nm) (nm:=[0,1]) (k:=l.length) (i:=i) (L:=A.map encS) h0 (by simpa using hA.symm) (by simpa using ig),cU]
   clear K' hK
   simp only[go_sem,lJ,iy,Ez,D7 (obj:=fun nm=>if own [0] nm=true then none else H' nm) (nm:=[0,1]) (k:=l.length) (i:=i) (L:=A.map encS) h0 (by simpa using hA.symm) (by simpa using ig)]
   have cS:(bN p l).length=i:=by rw[<-hT,List.length_take];omega
   have mE:(List.take i (List.map encS A)++List.replicate (A.length-i) (encS mV))=XX:=by
    rw[<-gk]
    unfold dF
    rw[cS,<-hT,List.map_take,hA]
   have KA:XX.length=l.length:=by rw[<-gk];unfold dF;simp;omega
   have vZ:XX.take i=(bN p l).map encS:=by
    rw[<-gk]
    unfold dF
    rw[List.take_append_of_le_length (by simp;omega),List.take_of_length_le (by simp;omega)]
   have vY:∀ x∈XX,x.cells.length=7:=by
    intro x hx
    rw[<-gk]at hx
    rcases List.mem_append.1 hx with h | h
    ·obtain⟨y,_,rfl⟩:=List.mem_map.1 h;rfl
    ·rw[(List.mem_replicate.1 h).2];rfl
   simp only[encS]at mE
   rw[mE]
   clear mE
   clear gk
   generalize XX=Z at *
   simp only[V.cells]at vY
   generalize mH:upd H' [0,1] (some (O.arr 7 Z))=H3
   have tO:H3 [0,1]=some (.arr 7 Z):=by rw[<-mH,aO]
   have KM:∀ i,H3 [i+1,1]=H [i+1,1]:=fun i=>by rw[<-mH,aW _ _ _ (by simp)];exact oP i
   have v5:∀ hs sz L,bx [0] (bp [0] hs) (upd H3 [0,1] (some (.farr sz L)))=True:=fun hs sz L=>by rw[<-mH,km];exact v7 _ _ _
   have vM:(i:Int)<=l.length:=by omega
   repeat refine sq ?_
   refine qc hΓ [4] [] fun K' hK=>?_
   simp only[go_sem,tO,Ft,ai,aj,vM]
   repeat' apply And.intro
   all_goals first | rfl | omega | exact Int.le_refl _ | exact Bool.or_not_self _ | exact Bool.not_or_self _ | exact mL _ | exact mM _ | exact fun x hx=>(mL _ x hx).1 | exact fun x hx=>(mM _ x hx).1 | (simp only[List.length_take,List.length_append,List.length_map,List.length_drop,List.length_cons,List.length_nil];done) | (simp only[List.length_take,List.length_append,List.length_map,List.length_drop,List.length_cons,List.length_nil];omega) | (simp only[List.length_take,List.length_append,List.length_map,List.length_drop,List.length_cons,List.length_nil,maxLen];omega) | (exact fun _=>by decide) | (exact fun h=>⟨h,by decide⟩) | (simp only[decide_eq_true_eq];omega) | skip
   refine hK _ ?_ ?_
   ·simp only[go_sem,v5]
   clear K' hK
   simp only[go_sem]
   refine av ?_
   simp only[go_sem,vZ]
   exact .inr trivial
def delCS:CSpec where
 pre:=fun os ds=>∃ (l:List wN) (g:Nat×Int),os=[.arr 7 (l.map encS)]/\ds=[.msl [0,1] l.length,.clo (.func g.1) [] [.v (.ptr [vInt g.2])]]/\l.length<1000000/\ni g
 out:=fun os ds=>match os,ds with
  |[.arr _ L],[_,.clo (.func g) _ [.v (.ptr [.int _ k])]]=>⟨[(0,.farr 7 (dF encS (encS mV) (eo (g,k)) (L.map jd)))],[],.v (.sl ((bN (eo (g,k)) (L.map jd)).map encS))⟩
  |_,_=>⟨[],[],.any⟩
def rT(obj:Name->Option O)(_:Name):List D->R
 |[.msl nm k,.clo (.func g) [] [.v (.ptr [.int .i64 q])]]=>match obj nm with
  |some (.arr 7 L)=>⟨k=L.length/\L.length<1000000/\(L.map jd).map encS=L/\ni (g,q),.v (.sl ((bN (eo (g,q)) (L.map jd)).map encS)),upd obj nm (some (.farr 7 (dF encS (encS mV) (eo (g,q)) (L.map jd))))⟩
  |_=>.bad obj
 |_=>.bad obj
def zn(_:Name->Option O)(_:Name):List D->List Name
 | .msl nm _::_=>[nm]
 |_=>[]
def S91:Spec:=⟨rT,zn,zn⟩
attribute [go_sem] S91 rT
theorem X2:S91.Near:=by
 refine qE fun obj obj2 t ds ha=>⟨rfl,?_⟩
 have eQ:∀ wr,bJ wr obj obj2->bP (R.bad obj) (R.bad obj2) obj obj2 wr:=fun wr h=>.none wr h
 unfold rT
 split
 ·rename_i nm k g q
  have h1:obj2 nm=obj nm:=ha nm (by simp[zn])
  simp only[h1]
  split
  ·exact .one (by simp[zn]) ha
  ·exact eQ _ ha
 ·exact eQ _ ha
theorem UJ:aF Tryz.prog 91 delCS.toSpec:=by
 refine kV (nt:=42) (rs:=[.tmp 4]) Tryz.func91 rfl (by rfl) (by kernel_rfl) (gm Tryz.func91 rfl (by kernel_rfl)) (jt _ (by decide)) ?_
 rintro os ds ⟨l,g,rfl,rfl,hl,aa⟩
 refine⟨lb rfl,?_⟩
 have eP:delCS.out [.arr 7 (l.map encS)] [.msl [0,1] l.length,.clo (.func g.1) [] [.v (.ptr [vInt g.2])]]=⟨[(0,.farr 7 (dF encS (encS mV) (eo g) l))],[],.v (.sl ((bN (eo g) l).map encS))⟩:=by
  simp only[delCS,rV]
 rw[eP]
 have bu:∀ hs,bx [0] (bp [0] hs) (aM [.arr 7 (l.map encS)])=True:=fun hs=>eq_true (jL (by
  intro o ho dom hd
  simp only[List.mem_singleton]at ho
  subst ho
  rfl) hs)
 obtain⟨c,hc,h⟩:=NQ aa (H:=aM [.arr 7 (l.map encS)]) hl rfl bu (fun hs sz L=>eq_true (mT rfl (by rw[bu];trivial))) (fun hs sz L=>eq_true (mT rfl (by rw[bu];trivial)))
 have vX:∀ c2,Tryz.f91.body=some c2->c2=c:=fun c2 h2=>by rw[h2]at hc;exact Option.some.inj hc
 rw[<-vX _ rfl]at h
 refine CW.mono (fE h) ?_
 rintro e σ ⟨he,h1,h2,h3⟩
 have fin:(bL Tryz.prog σ [.tmp 4]).ok/\(bL Tryz.prog σ [.tmp 4]).d=.v (.sl ((bN (eo g) l).map encS))/\fC [.arr 7 (l.map encS)] ⟨[(0,.farr 7 (dF encS (encS mV) (eo g) l))],[],.v (.sl ((bN (eo g) l).map encS))⟩ σ:=
  ⟨h1,h2,⟨h3,trivial⟩,trivial,rfl⟩
 rcases he with rfl | rfl
 ·exact fin
 ·exact fin
theorem Jr:aF Tryz.prog 91 S91:=by
 refine qv UJ X2 (jt _ (by decide)) fun obj t ds aa=>?_
 change (rT obj t ds).ok at aa
 refine⟨ds,rfl,fun _ _ _ _ h=>h,?_⟩
 show _/\_=(rT obj t ds).d/\_=(rT obj t ds).obj
 unfold rT at aa |-
 split at aa
 ·rename_i nm k g q
  split at aa
  ·rename_i L ho
   obtain⟨rfl,hl,he,hg⟩:=aa
   have hr:reach obj [.msl nm L.length,.clo (.func g) [] [.v (.ptr [.int .i64 q])]]=[nm]:=by
    unfold reach
    show cE obj (2998+1+1) [nm] []=[nm]
    simp only[cE,bZ,List.any_nil,Bool.false_eq_true,if_false,ho,gZ,List.nil_append]
   have i0:idx [nm] nm=0:=by simp[idx]
   have e1:ca obj [.msl nm L.length,.clo (.func g) [] [.v (.ptr [.int .i64 q])]]=[.arr 7 L]:=by
    unfold ca
    rw[hr]
    simp only[List.map_cons,List.map_nil,cm,ho,O.ren]
   have e2:cC obj [.msl nm L.length,.clo (.func g) [] [.v (.ptr [.int .i64 q])]]=[.msl [0,1] L.length,.clo (.func g) [] [.v (.ptr [.int .i64 q])]]:=by
    unfold cC
    rw[hr]
    simp only[D.renL,D.ren,cin,i0]
   have e3:(shut obj [nm]&&D.closL (bZ [nm]) [.msl nm L.length,.clo (.func g) [] [.v (.ptr [.int .i64 q])]]&&fresh obj t [])=true:=by
    simp[shut,ho,O.clos,D.closL,D.clos,bZ,fresh]
   have dg:delCS.pre [.arr 7 L] [.msl [0,1] L.length,.clo (.func g) [] [.v (.ptr [.int .i64 q])]]:=⟨L.map jd,(g,q),by rw[he],by rw[List.length_map],by rw[List.length_map];exact hl,hg⟩
   have eP:delCS.out [.arr 7 L] [.msl [0,1] L.length,.clo (.func g) [] [.v (.ptr [.int .i64 q])]]=⟨[(0,.farr 7 (dF encS (encS mV) (eo (g,q)) (L.map jd)))],[],.v (.sl ((bN (eo (g,q)) (L.map jd)).map encS))⟩:=rfl
   simp only[CSpec.toSpec,e1,e2,hr,eP,e3,dg,ho,and_self,de]
   exact⟨trivial,rfl,rfl⟩
  ·exact aa.elim
 ·exact aa.elim
end
set_option maxHeartbeats 8000000
noncomputable section
theorem B9(l:List Sig)(k:Int):bN (eo (186,k)) l=l.filter fun s=>di s.kn s.un k:=by
 unfold bN eo
 simp
theorem Bp(k:Int):ni (186,k):=.inr rfl
def K26:List (Nat×Spec):=[(132,S132),(91,S91)]
theorem aa0:KS K26:=tc Jw<|tc Jr<|tn
attribute [go_sem] K26
def MX:VSpec:=v1 iI (fun x _=>x.l.ss.length<=60) (fun x k=>.v (.sl ((gJ x.l k).map encS))) none
def S122:Spec:=MX.toSpec
attribute [go_sem] MX S122
theorem U5:aF Tryz.prog 122 S122:=by
 refine w7 (rs:=[.tmp 4]) Tryz.func122 Tryz.ntmps122 (by rfl) (by kernel_rfl) (by decide) (fun _ _=>by first | rfl | simp[D.clos,D.closL,ln]) ⟨_,rfl,lb rfl,fun x k hp H h0 h1 h2 hO ae=>?_⟩
 simp only[iI,ba,cZ,List.map_cons,List.map_nil,Nat.zero_add,Option.map_some,Option.map_none]at h0 |-
 have hΓ:=aa0
 repeat refine sq ?_
 refine rx hΓ [0,3] [[3,0]] (fun K' hK=>by simp only[go_sem,hO,ae,h0,h1,h2];(repeat (refine⟨ak,?_⟩));exact hK _ (by simp only[go_sem,hO,ae,h0,h1,h2]) (by simp only[go_sem,hO,ae,h0,h1,h2]<;>rfl)) ?_
 refine bG (c0 3 (.ref [3,0] 0) (by simp only[go_sem]) (by simp only[go_sem]) [0,3] [[3,0]] ?_ rfl) ?_
 ·simp only[go_sem,hO,ae,h0,h1,h2]
 simp only[go_sem,hO,ae,h0,h1,h2]
 repeat refine sq ?_
 refine rx hΓ [4] [] (fun K' hK=>by simp only[go_sem,hO,ae,h0,h1,h2,rV,B9,Bp,List.length_map];(repeat (refine⟨ak,?_⟩));exact hK _ (by simp only[go_sem,hO,ae,h0,h1,h2,rV,B9,Bp,List.length_map]) (by simp only[go_sem,hO,ae,h0,h1,h2,rV,B9,Bp,List.length_map]<;>rfl)) ?_
 refine av ?_
 simp only[go_sem,hO,ae,h0,h1,h2]
 all_goals exact dp
def Gt(r:Rg):D:=.agg [.v (vInt r.lo),.v (vInt r.hi)]
attribute [go_sem] Gt
def K26b:List (Nat×Spec):=[(119,S119)]
theorem aaZ:KS K26b:=tc Jx<|tn
attribute [go_sem] K26b
def AR(s:Sig):Prop:=0<=s.da/\s.da<=100000
theorem bt:l9 none=.agg [.v (vInt 0),.v (vInt 0),.v (vInt 0),.nilsl,.v (vInt 0),.v (vInt 0),.v (vInt 0)]:=rfl
theorem aH(r:Rec):l9 (some r)=ga r:=rfl
def MT:VSpec:=v1 iS (fun x s=>(la x/\x.rs.Nodup)/\AR s) (fun x s=>.tup [.v (vInt (bB x s).1),Gt (bB x s).2]) none
def S187:Spec:=MT.toSpec
attribute [go_sem] MT S187
theorem UW:aF Tryz.prog 187 S187:=by
 refine w7 (rs:=[.tmp 4,.cell 5 38]) Tryz.func187 Tryz.ntmps187 (by rfl) (by kernel_rfl) (by decide) (fun _ _=>by first | rfl | exact aen _ _ | simp[D.clos,D.closL,ln]) ⟨_,rfl,lb rfl,fun x s hp H h0 h1 h2 hO ae=>?_⟩
 have hP:=eE
 simp only[iS,encS,ba,cZ,List.map_cons,List.map_nil,Nat.zero_add,Option.map_some,Option.map_none]at h0 |-
 have hΓ:=aaZ
 obtain⟨hv,hd⟩:=hp
 have gv:=wY hd
 repeat refine sq ?_
 refine rx hΓ [0,3,5] [[3,0],[5,0]] (fun K' hK=>by simp only[go_sem,hO,ae,h0,h1,h2];(repeat (refine⟨ak,?_⟩));exact hK _ (by simp only[go_sem,hO,ae,h0,h1,h2]) (by simp only[go_sem,hO,ae,h0,h1,h2]<;>rfl)) ?_
 repeat refine sq ?_
 refine rx hΓ [0,3,5,6,7] [[3,0],[5,0],[6,0],[7,0]] (fun K' hK=>by simp only[go_sem,hO,ae,h0,h1,h2];(repeat (refine⟨ak,?_⟩));exact hK _ (by simp only[go_sem,hO,ae,h0,h1,h2]) (by simp only[go_sem,hO,ae,h0,h1,h2]<;>rfl)) ?_
 rcases au:iA x.rs s.pa s.le s.da with _ | r
 ·repeat refine sq ?_
  refine rx hΓ [0,3,5,6,7,8,9] [[3,0],[5,0],[6,0],[7,0],[8,0]] (fun K' hK=>by simp only[go_sem,hO,ae,h0,h1,h2,au,bt,Option.isSome_none,aw];(repeat (refine⟨ak,?_⟩));exact hK _ (by simp only[go_sem,hO,ae,h0,h1,h2,au,bt,Option.isSome_none,aw]) (by simp only[go_sem,hO,ae,h0,h1,h2,au,bt,Option.isSome_none,aw]<;>rfl)) ?_
  repeat refine sq ?_
  refine dx hΓ hP [[],[0],[0,1],[0,1,2],[],[4],[],[6],[4,5,6,7],u9,dq,fm,fm,fM,ji] [3,5,6,7,8,9,10,11] [[3,0],[5,0],[6,0],[7,0],[8,0]] (by kernel_rfl) (fun K' hK=>by simp only[go_sem,hO,ae,h0,h1,h2,au,bt,Option.isSome_none,aw];(repeat (refine⟨ak,?_⟩));(first | refine⟨by rfl,?_⟩ | skip);exact hK _ (by simp only[go_sem,hO,ae,h0,h1,h2,au,bt,Option.isSome_none,aw]) (by simp only[go_sem,hO,ae,h0,h1,h2,au,bt,Option.isSome_none,aw]<;>rfl)) ?_
  repeat refine sq ?_
  refine aI ?_
  repeat refine sq ?_
  refine rx hΓ [3,5,6,7,8,9,10,11,39] [[3,0],[5,0],[6,0],[7,0],[8,0]] (fun K' hK=>by simp only[go_sem,hO,ae,h0,h1,h2,au,bt,Option.isSome_none,aw];(repeat (refine⟨ak,?_⟩));exact hK _ (by simp only[go_sem,hO,ae,h0,h1,h2,au,bt,Option.isSome_none,aw]) (by simp only[go_sem,hO,ae,h0,h1,h2,au,bt,Option.isSome_none,aw]<;>rfl)) ?_
  repeat refine sq ?_
  refine ax (fun hb=>?_) fun hb=>?_
  ·repeat refine sq ?_
   refine aC ?_
   repeat refine sq ?_
   refine ax (fun hb=>?_) fun hb=>?_
   ·repeat refine sq ?_
    refine dx hΓ hP [[],[],[0,1]] [4,5] [[5,0]] (by kernel_rfl) (fun K' hK=>by simp only[go_sem,hO,ae,h0,h1,h2,au,bt,Option.isSome_none,aw];(repeat (refine⟨ak,?_⟩));(first | refine⟨by rfl,?_⟩ | skip);exact hK _ (by simp only[go_sem,hO,ae,h0,h1,h2,au,bt,Option.isSome_none,aw]) (by simp only[go_sem,hO,ae,h0,h1,h2,au,bt,Option.isSome_none,aw]<;>rfl)) ?_
    refine av ?_
    simp only[go_sem,hO,ae,h0,h1,h2]
    first | (unfold bB;simp only[au];simp_all[cN,cH];done) | (unfold bB;simp only[au];rcases aU:bH x.bk (r.so,s.le)with _ | j<;>simp_all[cN,cH];done)
   ·repeat refine sq ?_
    refine rx hΓ [3,5,7,8,10,60] [[3,0],[5,0],[7,0],[8,0]] (fun K' hK=>by simp only[go_sem,hO,ae,h0,h1,h2,au,bt,Option.isSome_none,aw];(repeat (refine⟨ak,?_⟩));exact hK _ (by simp only[go_sem,hO,ae,h0,h1,h2,au,bt,Option.isSome_none,aw]) (by simp only[go_sem,hO,ae,h0,h1,h2,au,bt,Option.isSome_none,aw]<;>rfl)) ?_
    repeat refine sq ?_
    refine ax (fun hb=>?_) fun hb=>?_
    ·repeat refine sq ?_
     refine dx hΓ hP [[],[],[0,1]] [4,5] [[5,0]] (by kernel_rfl) (fun K' hK=>by simp only[go_sem,hO,ae,h0,h1,h2,au,bt,Option.isSome_none,aw];(repeat (refine⟨ak,?_⟩));(first | refine⟨by rfl,?_⟩ | skip);exact hK _ (by simp only[go_sem,hO,ae,h0,h1,h2,au,bt,Option.isSome_none,aw]) (by simp only[go_sem,hO,ae,h0,h1,h2,au,bt,Option.isSome_none,aw]<;>rfl)) ?_
     refine av ?_
     simp only[go_sem,hO,ae,h0,h1,h2]
     first | (unfold bB;simp only[au];simp_all[cN,cH];done) | (unfold bB;simp only[au];rcases aU:bH x.bk (r.so,s.le)with _ | j<;>simp_all[cN,cH];done)
    ·repeat refine sq ?_
     refine rx hΓ [3,5,7,8,10,68] [[3,0],[5,0],[7,0],[8,0]] (fun K' hK=>by simp only[go_sem,hO,ae,h0,h1,h2,au,bt,Option.isSome_none,aw];(repeat (refine⟨ak,?_⟩));exact hK _ (by simp only[go_sem,hO,ae,h0,h1,h2,au,bt,Option.isSome_none,aw]) (by simp only[go_sem,hO,ae,h0,h1,h2,au,bt,Option.isSome_none,aw]<;>rfl)) ?_
     repeat refine sq ?_
     refine ax (fun hb=>?_) fun hb=>?_
     ·repeat refine sq ?_
      refine dx hΓ hP [[],[],[1],[1,2],[0],u5] [4,5] [[5,0]] (by kernel_rfl) (fun K' hK=>by simp only[go_sem,hO,ae,h0,h1,h2,au,bt,Option.isSome_none,aw];(repeat (refine⟨ak,?_⟩));(first | refine⟨by rfl,?_⟩ | skip);exact hK _ (by simp only[go_sem,hO,ae,h0,h1,h2,au,bt,Option.isSome_none,aw]) (by simp only[go_sem,hO,ae,h0,h1,h2,au,bt,Option.isSome_none,aw]<;>rfl)) ?_
      refine av ?_
      simp only[go_sem,hO,ae,h0,h1,h2]
      first | (unfold bB;simp only[au];simp_all[cN,cH];done) | (unfold bB;simp only[au];rcases aU:bH x.bk (r.so,s.le)with _ | j<;>simp_all[cN,cH];done)
     ·repeat refine sq ?_
      refine rx hΓ [3,5,7,10,76] [[3,0],[5,0],[7,0]] (fun K' hK=>by simp only[go_sem,hO,ae,h0,h1,h2,au,bt,Option.isSome_none,aw];(repeat (refine⟨ak,?_⟩));exact hK _ (by simp only[go_sem,hO,ae,h0,h1,h2,au,bt,Option.isSome_none,aw]) (by simp only[go_sem,hO,ae,h0,h1,h2,au,bt,Option.isSome_none,aw]<;>rfl)) ?_
      repeat refine sq ?_
      refine ax (fun hb=>?_) fun hb=>?_
      ·repeat refine sq ?_
       refine dx hΓ hP [[],[],[1],[1,2],[1,2,3],[0],u6] [4,5] [[5,0]] (by kernel_rfl) (fun K' hK=>by simp only[go_sem,hO,ae,h0,h1,h2,au,bt,Option.isSome_none,aw];(repeat (refine⟨ak,?_⟩));(first | refine⟨by rfl,?_⟩ | skip);exact hK _ (by simp only[go_sem,hO,ae,h0,h1,h2,au,bt,Option.isSome_none,aw]) (by simp only[go_sem,hO,ae,h0,h1,h2,au,bt,Option.isSome_none,aw]<;>rfl)) ?_
       refine av ?_
       simp only[go_sem,hO,ae,h0,h1,h2]
       first | (unfold bB;simp only[au];simp_all[cN,cH];done) | (unfold bB;simp only[au];rcases aU:bH x.bk (r.so,s.le)with _ | j<;>simp_all[cN,cH];done)
      ·repeat refine sq ?_
       refine aC ?_
       refine bA ?_
       simp only[go_sem]
       refine dd [5,7] [[5,0],[7,0]] ?_ ?_
       ·simp only[go_sem,hO,ae,h0,h1,h2]
       simp only[go_sem,hO,ae,h0,h1,h2]
       repeat refine sq ?_
       refine dx hΓ hP [[],[],[0,1]] [4,5] [[5,0]] (by kernel_rfl) (fun K' hK=>by simp only[go_sem,hO,ae,h0,h1,h2,au,bt,Option.isSome_none,aw];(repeat (refine⟨ak,?_⟩));(first | refine⟨by rfl,?_⟩ | skip);exact hK _ (by simp only[go_sem,hO,ae,h0,h1,h2,au,bt,Option.isSome_none,aw]) (by simp only[go_sem,hO,ae,h0,h1,h2,au,bt,Option.isSome_none,aw]<;>rfl)) ?_
       refine av ?_
       simp only[go_sem,hO,ae,h0,h1,h2]
       first | (unfold bB;simp only[au];simp_all[cN,cH];done) | (unfold bB;simp only[au];rcases aU:bH x.bk (r.so,s.le)with _ | j<;>simp_all[cN,cH];done)
  ·repeat refine sq ?_
   refine rx hΓ [3,5,6,7,8,9,10,11,39] [[3,0],[5,0],[6,0],[7,0],[8,0]] (fun K' hK=>by simp only[go_sem,hO,ae,h0,h1,h2,au,bt,Option.isSome_none,aw];(repeat (refine⟨ak,?_⟩));exact hK _ (by simp only[go_sem,hO,ae,h0,h1,h2,au,bt,Option.isSome_none,aw]) (by simp only[go_sem,hO,ae,h0,h1,h2,au,bt,Option.isSome_none,aw]<;>rfl)) ?_
   repeat refine sq ?_
   refine ax (fun hb=>?_) fun hb=>?_
   ·repeat refine sq ?_
    refine dx hΓ hP [[],[],[0,1]] [4,5] [[5,0]] (by kernel_rfl) (fun K' hK=>by simp only[go_sem,hO,ae,h0,h1,h2,au,bt,Option.isSome_none,aw];(repeat (refine⟨ak,?_⟩));(first | refine⟨by rfl,?_⟩ | skip);exact hK _ (by simp only[go_sem,hO,ae,h0,h1,h2,au,bt,Option.isSome_none,aw]) (by simp only[go_sem,hO,ae,h0,h1,h2,au,bt,Option.isSome_none,aw]<;>rfl)) ?_
    refine av ?_
    simp only[go_sem,hO,ae,h0,h1,h2]
    first | (unfold bB;simp only[au];simp_all[cN,cH];done) | (unfold bB;simp only[au];rcases aU:bH x.bk (r.so,s.le)with _ | j<;>simp_all[cN,cH];done)
   ·repeat refine sq ?_
    refine rx hΓ [3,5,7,8,10,60] [[3,0],[5,0],[7,0],[8,0]] (fun K' hK=>by simp only[go_sem,hO,ae,h0,h1,h2,au,bt,Option.isSome_none,aw];(repeat (refine⟨ak,?_⟩));exact hK _ (by simp only[go_sem,hO,ae,h0,h1,h2,au,bt,Option.isSome_none,aw]) (by simp only[go_sem,hO,ae,h0,h1,h2,au,bt,Option.isSome_none,aw]<;>rfl)) ?_
    repeat refine sq ?_
    refine ax (fun hb=>?_) fun hb=>?_
    ·repeat refine sq ?_
     refine dx hΓ hP [[],[],[0,1]] [4,5] [[5,0]] (by kernel_rfl) (fun K' hK=>by simp only[go_sem,hO,ae,h0,h1,h2,au,bt,Option.isSome_none,aw];(repeat (refine⟨ak,?_⟩));(first | refine⟨by rfl,?_⟩ | skip);exact hK _ (by simp only[go_sem,hO,ae,h0,h1,h2,au,bt,Option.isSome_none,aw]) (by simp only[go_sem,hO,ae,h0,h1,h2,au,bt,Option.isSome_none,aw]<;>rfl)) ?_
     refine av ?_
     simp only[go_sem,hO,ae,h0,h1,h2]
     first | (unfold bB;simp only[au];simp_all[cN,cH];done) | (unfold bB;simp only[au];rcases aU:bH x.bk (r.so,s.le)with _ | j<;>simp_all[cN,cH];done)
    ·repeat refine sq ?_
     refine rx hΓ [3,5,7,8,10,68] [[3,0],[5,0],[7,0],[8,0]] (fun K' hK=>by simp only[go_sem,hO,ae,h0,h1,h2,au,bt,Option.isSome_none,aw];(repeat (refine⟨ak,?_⟩));exact hK _ (by simp only[go_sem,hO,ae,h0,h1,h2,au,bt,Option.isSome_none,aw]) (by simp only[go_sem,hO,ae,h0,h1,h2,au,bt,Option.isSome_none,aw]<;>rfl)) ?_
     repeat refine sq ?_
     refine ax (fun hb=>?_) fun hb=>?_
     ·repeat refine sq ?_
      refine dx hΓ hP [[],[],[1],[1,2],[0],u5] [4,5] [[5,0]] (by kernel_rfl) (fun K' hK=>by simp only[go_sem,hO,ae,h0,h1,h2,au,bt,Option.isSome_none,aw];(repeat (refine⟨ak,?_⟩));(first | refine⟨by rfl,?_⟩ | skip);exact hK _ (by simp only[go_sem,hO,ae,h0,h1,h2,au,bt,Option.isSome_none,aw]) (by simp only[go_sem,hO,ae,h0,h1,h2,au,bt,Option.isSome_none,aw]<;>rfl)) ?_
      refine av ?_
      simp only[go_sem,hO,ae,h0,h1,h2]
      first | (unfold bB;simp only[au];simp_all[cN,cH];done) | (unfold bB;simp only[au];rcases aU:bH x.bk (r.so,s.le)with _ | j<;>simp_all[cN,cH];done)
     ·repeat refine sq ?_
      refine rx hΓ [3,5,7,10,76] [[3,0],[5,0],[7,0]] (fun K' hK=>by simp only[go_sem,hO,ae,h0,h1,h2,au,bt,Option.isSome_none,aw];(repeat (refine⟨ak,?_⟩));exact hK _ (by simp only[go_sem,hO,ae,h0,h1,h2,au,bt,Option.isSome_none,aw]) (by simp only[go_sem,hO,ae,h0,h1,h2,au,bt,Option.isSome_none,aw]<;>rfl)) ?_
      repeat refine sq ?_
      refine ax (fun hb=>?_) fun hb=>?_
      ·repeat refine sq ?_
       refine dx hΓ hP [[],[],[1],[1,2],[1,2,3],[0],u6] [4,5] [[5,0]] (by kernel_rfl) (fun K' hK=>by simp only[go_sem,hO,ae,h0,h1,h2,au,bt,Option.isSome_none,aw];(repeat (refine⟨ak,?_⟩));(first | refine⟨by rfl,?_⟩ | skip);exact hK _ (by simp only[go_sem,hO,ae,h0,h1,h2,au,bt,Option.isSome_none,aw]) (by simp only[go_sem,hO,ae,h0,h1,h2,au,bt,Option.isSome_none,aw]<;>rfl)) ?_
       refine av ?_
       simp only[go_sem,hO,ae,h0,h1,h2]
       first | (unfold bB;simp only[au];simp_all[cN,cH];done) | (unfold bB;simp only[au];rcases aU:bH x.bk (r.so,s.le)with _ | j<;>simp_all[cN,cH];done)
      ·repeat refine sq ?_
       refine aC ?_
       refine bA ?_
       simp only[go_sem]
       refine dd [5,7] [[5,0],[7,0]] ?_ ?_
       ·simp only[go_sem,hO,ae,h0,h1,h2]
       simp only[go_sem,hO,ae,h0,h1,h2]
       repeat refine sq ?_
       refine dx hΓ hP [[],[],[0,1]] [4,5] [[5,0]] (by kernel_rfl) (fun K' hK=>by simp only[go_sem,hO,ae,h0,h1,h2,au,bt,Option.isSome_none,aw];(repeat (refine⟨ak,?_⟩));(first | refine⟨by rfl,?_⟩ | skip);exact hK _ (by simp only[go_sem,hO,ae,h0,h1,h2,au,bt,Option.isSome_none,aw]) (by simp only[go_sem,hO,ae,h0,h1,h2,au,bt,Option.isSome_none,aw]<;>rfl)) ?_
       refine av ?_
       simp only[go_sem,hO,ae,h0,h1,h2]
       first | (unfold bB;simp only[au];simp_all[cN,cH];done) | (unfold bB;simp only[au];rcases aU:bH x.bk (r.so,s.le)with _ | j<;>simp_all[cN,cH];done)
 ·repeat refine sq ?_
  refine rx hΓ [0,3,5,6,7,8,9] [[3,0],[5,0],[6,0],[7,0],[8,0]] (fun K' hK=>by simp only[go_sem,hO,ae,h0,h1,h2,au,aH,Option.isSome_some,aw];(repeat (refine⟨ak,?_⟩));exact hK _ (by simp only[go_sem,hO,ae,h0,h1,h2,au,aH,Option.isSome_some,aw]) (by simp only[go_sem,hO,ae,h0,h1,h2,au,aH,Option.isSome_some,aw]<;>rfl)) ?_
  repeat refine sq ?_
  refine dx hΓ hP [[],[0],[0,1],[0,1,2],[],[4],[],[6],[4,5,6,7],u9,dq,fm,fm,fM,ji] [3,5,6,7,8,9,10,11] [[3,0],[5,0],[6,0],[7,0],[8,0]] (by kernel_rfl) (fun K' hK=>by simp only[go_sem,hO,ae,h0,h1,h2,au,aH,Option.isSome_some,aw];(repeat (refine⟨ak,?_⟩));(first | refine⟨by rfl,?_⟩ | skip);exact hK _ (by simp only[go_sem,hO,ae,h0,h1,h2,au,aH,Option.isSome_some,aw]) (by simp only[go_sem,hO,ae,h0,h1,h2,au,aH,Option.isSome_some,aw]<;>rfl)) ?_
  repeat refine sq ?_
  refine aI ?_
  repeat refine sq ?_
  refine rx hΓ [3,5,6,7,8,9,10,11,39] [[3,0],[5,0],[6,0],[7,0],[8,0]] (fun K' hK=>by simp only[go_sem,hO,ae,h0,h1,h2,au,aH,Option.isSome_some,aw];(repeat (refine⟨ak,?_⟩));exact hK _ (by simp only[go_sem,hO,ae,h0,h1,h2,au,aH,Option.isSome_some,aw]) (by simp only[go_sem,hO,ae,h0,h1,h2,au,aH,Option.isSome_some,aw]<;>rfl)) ?_
  repeat refine sq ?_
  refine ax (fun hb=>?_) fun hb=>?_
  ·repeat refine sq ?_
   refine aC ?_
   repeat refine sq ?_
   refine ax (fun hb=>?_) fun hb=>?_
   ·repeat refine sq ?_
    refine dx hΓ hP [[],[],[0,1]] [4,5] [[5,0]] (by kernel_rfl) (fun K' hK=>by simp only[go_sem,hO,ae,h0,h1,h2,au,aH,Option.isSome_some,aw];(repeat (refine⟨ak,?_⟩));(first | refine⟨by rfl,?_⟩ | skip);exact hK _ (by simp only[go_sem,hO,ae,h0,h1,h2,au,aH,Option.isSome_some,aw]) (by simp only[go_sem,hO,ae,h0,h1,h2,au,aH,Option.isSome_some,aw]<;>rfl)) ?_
    refine av ?_
    simp only[go_sem,hO,ae,h0,h1,h2]
    first | (unfold bB;simp only[au];simp_all[cN,cH];done) | (unfold bB;simp only[au];rcases aU:bH x.bk (r.so,s.le)with _ | j<;>simp_all[cN,cH];done)
   ·repeat refine sq ?_
    refine rx hΓ [3,5,7,8,10,60] [[3,0],[5,0],[7,0],[8,0]] (fun K' hK=>by simp only[go_sem,hO,ae,h0,h1,h2,au,aH,Option.isSome_some,aw];(repeat (refine⟨ak,?_⟩));exact hK _ (by simp only[go_sem,hO,ae,h0,h1,h2,au,aH,Option.isSome_some,aw]) (by simp only[go_sem,hO,ae,h0,h1,h2,au,aH,Option.isSome_some,aw]<;>rfl)) ?_
    repeat refine sq ?_
    refine ax (fun hb=>?_) fun hb=>?_
    ·repeat refine sq ?_
     refine dx hΓ hP [[],[],[0,1]] [4,5] [[5,0]] (by kernel_rfl) (fun K' hK=>by simp only[go_sem,hO,ae,h0,h1,h2,au,aH,Option.isSome_some,aw];(repeat (refine⟨ak,?_⟩));(first | refine⟨by rfl,?_⟩ | skip);exact hK _ (by simp only[go_sem,hO,ae,h0,h1,h2,au,aH,Option.isSome_some,aw]) (by simp only[go_sem,hO,ae,h0,h1,h2,au,aH,Option.isSome_some,aw]<;>rfl)) ?_
     refine av ?_
     simp only[go_sem,hO,ae,h0,h1,h2]
     first | (unfold bB;simp only[au];simp_all[cN,cH];done) | (unfold bB;simp only[au];rcases aU:bH x.bk (r.so,s.le)with _ | j<;>simp_all[cN,cH];done)
    ·repeat refine sq ?_
     refine rx hΓ [3,5,7,8,10,68] [[3,0],[5,0],[7,0],[8,0]] (fun K' hK=>by simp only[go_sem,hO,ae,h0,h1,h2,au,aH,Option.isSome_some,aw];(repeat (refine⟨ak,?_⟩));exact hK _ (by simp only[go_sem,hO,ae,h0,h1,h2,au,aH,Option.isSome_some,aw]) (by simp only[go_sem,hO,ae,h0,h1,h2,au,aH,Option.isSome_some,aw]<;>rfl)) ?_
     repeat refine sq ?_
     refine ax (fun hb=>?_) fun hb=>?_
     ·repeat refine sq ?_
      refine dx hΓ hP [[],[],[1],[1,2],[0],u5] [4,5] [[5,0]] (by kernel_rfl) (fun K' hK=>by simp only[go_sem,hO,ae,h0,h1,h2,au,aH,Option.isSome_some,aw];(repeat (refine⟨ak,?_⟩));(first | refine⟨by rfl,?_⟩ | skip);exact hK _ (by simp only[go_sem,hO,ae,h0,h1,h2,au,aH,Option.isSome_some,aw]) (by simp only[go_sem,hO,ae,h0,h1,h2,au,aH,Option.isSome_some,aw]<;>rfl)) ?_
      refine av ?_
      simp only[go_sem,hO,ae,h0,h1,h2]
      first | (unfold bB;simp only[au];simp_all[cN,cH];done) | (unfold bB;simp only[au];rcases aU:bH x.bk (r.so,s.le)with _ | j<;>simp_all[cN,cH];done)
     ·repeat refine sq ?_
      refine rx hΓ [3,5,7,10,76] [[3,0],[5,0],[7,0]] (fun K' hK=>by simp only[go_sem,hO,ae,h0,h1,h2,au,aH,Option.isSome_some,aw];(repeat (refine⟨ak,?_⟩));exact hK _ (by simp only[go_sem,hO,ae,h0,h1,h2,au,aH,Option.isSome_some,aw]) (by simp only[go_sem,hO,ae,h0,h1,h2,au,aH,Option.isSome_some,aw]<;>rfl)) ?_
      repeat refine sq ?_
      refine ax (fun hb=>?_) fun hb=>?_
      ·repeat refine sq ?_
       refine dx hΓ hP [[],[],[1],[1,2],[1,2,3],[0],u6] [4,5] [[5,0]] (by kernel_rfl) (fun K' hK=>by simp only[go_sem,hO,ae,h0,h1,h2,au,aH,Option.isSome_some,aw];(repeat (refine⟨ak,?_⟩));(first | refine⟨by rfl,?_⟩ | skip);exact hK _ (by simp only[go_sem,hO,ae,h0,h1,h2,au,aH,Option.isSome_some,aw]) (by simp only[go_sem,hO,ae,h0,h1,h2,au,aH,Option.isSome_some,aw]<;>rfl)) ?_
       refine av ?_
       simp only[go_sem,hO,ae,h0,h1,h2]
       first | (unfold bB;simp only[au];simp_all[cN,cH];done) | (unfold bB;simp only[au];rcases aU:bH x.bk (r.so,s.le)with _ | j<;>simp_all[cN,cH];done)
      ·repeat refine sq ?_
       refine aC ?_
       refine bA ?_
       simp only[go_sem]
       refine dd [5,7] [[5,0],[7,0]] ?_ ?_
       ·simp only[go_sem,hO,ae,h0,h1,h2]
       simp only[go_sem,hO,ae,h0,h1,h2]
       repeat refine sq ?_
       refine dx hΓ hP [[],[],[0,1]] [4,5] [[5,0]] (by kernel_rfl) (fun K' hK=>by simp only[go_sem,hO,ae,h0,h1,h2,au,aH,Option.isSome_some,aw];(repeat (refine⟨ak,?_⟩));(first | refine⟨by rfl,?_⟩ | skip);exact hK _ (by simp only[go_sem,hO,ae,h0,h1,h2,au,aH,Option.isSome_some,aw]) (by simp only[go_sem,hO,ae,h0,h1,h2,au,aH,Option.isSome_some,aw]<;>rfl)) ?_
       refine av ?_
       simp only[go_sem,hO,ae,h0,h1,h2]
       first | (unfold bB;simp only[au];simp_all[cN,cH];done) | (unfold bB;simp only[au];rcases aU:bH x.bk (r.so,s.le)with _ | j<;>simp_all[cN,cH];done)
  ·repeat refine sq ?_
   refine rx hΓ [3,5,6,7,8,9,10,11,39] [[3,0],[5,0],[6,0],[7,0],[8,0]] (fun K' hK=>by simp only[go_sem,hO,ae,h0,h1,h2,au,aH,Option.isSome_some,aw];(repeat (refine⟨ak,?_⟩));exact hK _ (by simp only[go_sem,hO,ae,h0,h1,h2,au,aH,Option.isSome_some,aw]) (by simp only[go_sem,hO,ae,h0,h1,h2,au,aH,Option.isSome_some,aw]<;>rfl)) ?_
   repeat refine sq ?_
   refine ax (fun hb=>?_) fun hb=>?_
   ·repeat refine sq ?_
    refine dx hΓ hP [[],[],[0,1]] [4,5] [[5,0]] (by kernel_rfl) (fun K' hK=>by simp only[go_sem,hO,ae,h0,h1,h2,au,aH,Option.isSome_some,aw];(repeat (refine⟨ak,?_⟩));(first | refine⟨by rfl,?_⟩ | skip);exact hK _ (by simp only[go_sem,hO,ae,h0,h1,h2,au,aH,Option.isSome_some,aw]) (by simp only[go_sem,hO,ae,h0,h1,h2,au,aH,Option.isSome_some,aw]<;>rfl)) ?_
    refine av ?_
    simp only[go_sem,hO,ae,h0,h1,h2]
    first | (unfold bB;simp only[au];simp_all[cN,cH];done) | (unfold bB;simp only[au];rcases aU:bH x.bk (r.so,s.le)with _ | j<;>simp_all[cN,cH];done)
   ·repeat refine sq ?_
    refine rx hΓ [3,5,7,8,10,60] [[3,0],[5,0],[7,0],[8,0]] (fun K' hK=>by simp only[go_sem,hO,ae,h0,h1,h2,au,aH,Option.isSome_some,aw];(repeat (refine⟨ak,?_⟩));exact hK _ (by simp only[go_sem,hO,ae,h0,h1,h2,au,aH,Option.isSome_some,aw]) (by simp only[go_sem,hO,ae,h0,h1,h2,au,aH,Option.isSome_some,aw]<;>rfl)) ?_
    repeat refine sq ?_
    refine ax (fun hb=>?_) fun hb=>?_
    ·repeat refine sq ?_
     refine dx hΓ hP [[],[],[0,1]] [4,5] [[5,0]] (by kernel_rfl) (fun K' hK=>by simp only[go_sem,hO,ae,h0,h1,h2,au,aH,Option.isSome_some,aw];(repeat (refine⟨ak,?_⟩));(first | refine⟨by rfl,?_⟩ | skip);exact hK _ (by simp only[go_sem,hO,ae,h0,h1,h2,au,aH,Option.isSome_some,aw]) (by simp only[go_sem,hO,ae,h0,h1,h2,au,aH,Option.isSome_some,aw]<;>rfl)) ?_
     refine av ?_
     simp only[go_sem,hO,ae,h0,h1,h2]
     first | (unfold bB;simp only[au];simp_all[cN,cH];done) | (unfold bB;simp only[au];rcases aU:bH x.bk (r.so,s.le)with _ | j<;>simp_all[cN,cH];done)
    ·repeat refine sq ?_
     refine rx hΓ [3,5,7,8,10,68] [[3,0],[5,0],[7,0],[8,0]] (fun K' hK=>by simp only[go_sem,hO,ae,h0,h1,h2,au,aH,Option.isSome_some,aw];(repeat (refine⟨ak,?_⟩));exact hK _ (by simp only[go_sem,hO,ae,h0,h1,h2,au,aH,Option.isSome_some,aw]) (by simp only[go_sem,hO,ae,h0,h1,h2,au,aH,Option.isSome_some,aw]<;>rfl)) ?_
     repeat refine sq ?_
     refine ax (fun hb=>?_) fun hb=>?_
     ·repeat refine sq ?_
      refine dx hΓ hP [[],[],[1],[1,2],[0],u5] [4,5] [[5,0]] (by kernel_rfl) (fun K' hK=>by simp only[go_sem,hO,ae,h0,h1,h2,au,aH,Option.isSome_some,aw];(repeat (refine⟨ak,?_⟩));(first | refine⟨by rfl,?_⟩ | skip);exact hK _ (by simp only[go_sem,hO,ae,h0,h1,h2,au,aH,Option.isSome_some,aw]) (by simp only[go_sem,hO,ae,h0,h1,h2,au,aH,Option.isSome_some,aw]<;>rfl)) ?_
      refine av ?_
      simp only[go_sem,hO,ae,h0,h1,h2]
      first | (unfold bB;simp only[au];simp_all[cN,cH];done) | (unfold bB;simp only[au];rcases aU:bH x.bk (r.so,s.le)with _ | j<;>simp_all[cN,cH];done)
     ·repeat refine sq ?_
      refine rx hΓ [3,5,7,10,76] [[3,0],[5,0],[7,0]] (fun K' hK=>by simp only[go_sem,hO,ae,h0,h1,h2,au,aH,Option.isSome_some,aw];(repeat (refine⟨ak,?_⟩));exact hK _ (by simp only[go_sem,hO,ae,h0,h1,h2,au,aH,Option.isSome_some,aw]) (by simp only[go_sem,hO,ae,h0,h1,h2,au,aH,Option.isSome_some,aw]<;>rfl)) ?_
      repeat refine sq ?_
      refine ax (fun hb=>?_) fun hb=>?_
      ·repeat refine sq ?_
       refine dx hΓ hP [[],[],[1],[1,2],[1,2,3],[0],u6] [4,5] [[5,0]] (by kernel_rfl) (fun K' hK=>by simp only[go_sem,hO,ae,h0,h1,h2,au,aH,Option.isSome_some,aw];(repeat (refine⟨ak,?_⟩));(first | refine⟨by rfl,?_⟩ | skip);exact hK _ (by simp only[go_sem,hO,ae,h0,h1,h2,au,aH,Option.isSome_some,aw]) (by simp only[go_sem,hO,ae,h0,h1,h2,au,aH,Option.isSome_some,aw]<;>rfl)) ?_
       refine av ?_
       simp only[go_sem,hO,ae,h0,h1,h2]
       first | (unfold bB;simp only[au];simp_all[cN,cH];done) | (unfold bB;simp only[au];rcases aU:bH x.bk (r.so,s.le)with _ | j<;>simp_all[cN,cH];done)
      ·repeat refine sq ?_
       refine aC ?_
       refine bA ?_
       simp only[go_sem]
       refine dd [5,7] [[5,0],[7,0]] ?_ ?_
       ·simp only[go_sem,hO,ae,h0,h1,h2]
       simp only[go_sem,hO,ae,h0,h1,h2]
       repeat refine sq ?_
       refine dx hΓ hP [[],[],[0,1]] [4,5] [[5,0]] (by kernel_rfl) (fun K' hK=>by simp only[go_sem,hO,ae,h0,h1,h2,au,aH,Option.isSome_some,aw];(repeat (refine⟨ak,?_⟩));(first | refine⟨by rfl,?_⟩ | skip);exact hK _ (by simp only[go_sem,hO,ae,h0,h1,h2,au,aH,Option.isSome_some,aw]) (by simp only[go_sem,hO,ae,h0,h1,h2,au,aH,Option.isSome_some,aw]<;>rfl)) ?_
       refine av ?_
       simp only[go_sem,hO,ae,h0,h1,h2]
       first | (unfold bB;simp only[au];simp_all[cN,cH];done) | (unfold bB;simp only[au];rcases aU:bH x.bk (r.so,s.le)with _ | j<;>simp_all[cN,cH];done)
end
noncomputable section
theorem wI{α:Type}{p:α->Bool}{l:List α}{i:Nat}(h:i<l.length):(l.take (i+1)).all p=((l.take i).all p&&p l[i]):=by
 rw[List.take_add_one,List.getElem?_eq_getElem h,List.all_append]
 simp
theorem Lc{x:Vw}{d:Ds}{l:List Sig}{i:Nat}(h:i<l.length):fj x d (l.take (i+1))=rJ x (fj x d (l.take i)) l[i]:=by
 unfold fj
 rw[List.take_add_one,List.getElem?_eq_getElem h,List.foldl_append]
 rfl
theorem AD(x:Vw)(d:Ds)(s:Sig):bB ⟨x.l,x.rs,x.ts,x.bk,d⟩ s=bB x s:=rfl
theorem la.ds{x:Vw}(h:la x)(d:Ds):la ⟨x.l,x.rs,x.ts,x.bk,d⟩:=⟨h.ok,h.bk,h.rs,h.rn,h.tn,h.ts⟩
theorem Ru(x:Vw)(d:Ds)(i:Int)(r:Rg):BA ⟨x.l,x.rs,x.ts,x.bk,d⟩ i r=oc d i r:=rfl
theorem aaf{H H':Name->Option O}{Lv:List (V×V)}(dk:upd H [2,1] (some (.map 0 Lv))=H')(ae:∀ hs es,bx [0] (bp [0] hs) (fun nm=>if nm=[2,1]then some (.map 0 es)else H nm)=True):
 (∀ hs,bx [0] (bp [0] hs) H'=True)/\∀ hs es,bx [0] (bp [0] hs) (fun nm=>if nm=[2,1]then some (.map 0 es)else H' nm)=True:=by
 refine⟨fun hs=>by rw[<-dk];exact ae hs Lv,fun hs es=>?_⟩
 have e:(fun nm=>if nm=[2,1]then some (.map 0 es)else H' nm)=fun nm=>if nm=[2,1]then some (.map 0 es)else H nm:=by
  funext nm
  rw[<-dk]
  by_cases e:nm=[2,1]
  ·simp[e]
  ·simp[aW _ _ _ e,e]
 rw[e];exact ae hs es
theorem NW{α β:Type}[DecidableEq α]{f:α->β}{a:α}{b:β}(h:f a=b):upd f a b=f:=by
 funext x
 by_cases e:x=a
 ·subst e;rw[aO,h]
 ·rw[aW _ _ _ e]
def xr(d:Ds)(i:Int):Bool:=decide ((cv d i).1<=(cv d i).2)
def K27:List (Nat×Spec):=[(187,S187),(165,S165)]
theorem aaY:KS K27:=tc UW<|tc Ca<|tn
attribute [go_sem] K27
def MW:VSpec:=v1 (cW iS) (fun x l=>((la x/\x.rs.Nodup)/\l.length<=60)/\∀ s∈l,AR s) (fun x l=>.v (.bool (iq x l))) (some fun x l=>fj x x.ds l)
def S128:Spec:=MW.toSpec
attribute [go_sem] MW S128
set_option maxHeartbeats 8000000 in
theorem U4:aF Tryz.prog 128 S128:=by
 refine w7 (rs:=[.tmp 4]) Tryz.func128 Tryz.ntmps128 (by rfl) (by kernel_rfl) (by decide) (fun _ _=>by first | rfl | simp[D.clos,D.closL,ln]) ⟨_,rfl,lb rfl,fun x l hp H h0 h1 h2 hO ae=>?_⟩
 simp only[iS,cW,encS,ba,cZ,List.map_cons,List.map_nil,Nat.zero_add,Option.map_some,Option.map_none]at h0 |-
 have hΓ:=aaY
 obtain⟨⟨⟨hv,bR⟩,hln⟩,yx⟩:=hp
 have tC:l.length<=maxLen:=by unfold maxLen;omega
 have vq:x.ts.length<=maxLen:=by have:=hv.tn;unfold maxLen;omega
 have bc:∀ hs es,bx [0] (bp [0] hs) (upd H [2,1] (some (.map 0 es)))=True:=ae
 repeat refine sq ?_
 refine rx hΓ [0,1] [] (fun K' hK=>by simp only[go_sem,hO,ae,bc,h0,h1,h2];(repeat (refine⟨ak,?_⟩));exact hK _ (by simp only[go_sem,hO,ae,bc,h0,h1,h2]) (by simp only[go_sem,hO,ae,bc,h0,h1,h2]<;>rfl)) ?_
 repeat refine sq ?_
 refine rx hΓ [0,1,5] [] (fun K' hK=>by simp only[go_sem,hO,ae,bc,h0,h1,h2];(repeat (refine⟨ak,?_⟩));exact hK _ (by simp only[go_sem,hO,ae,bc,h0,h1,h2]) (by simp only[go_sem,hO,ae,bc,h0,h1,h2]<;>rfl)) ?_
 repeat refine sq ?_
 refine rx hΓ [0,1,5,6] [] (fun K' hK=>by simp only[go_sem,hO,ae,bc,h0,h1,h2];(repeat (refine⟨ak,?_⟩));exact hK _ (by simp only[go_sem,hO,ae,bc,h0,h1,h2]) (by simp only[go_sem,hO,ae,bc,h0,h1,h2]<;>rfl)) ?_
 repeat refine sq ?_
 refine rx hΓ [0,5,6,16,17,18] [] (fun K' hK=>by simp only[go_sem,hO,ae,bc,h0,h1,h2];(repeat (refine⟨ak,?_⟩));exact hK _ (by simp only[go_sem,hO,ae,bc,h0,h1,h2]) (by simp only[go_sem,hO,ae,bc,h0,h1,h2]<;>rfl)) ?_
 repeat refine sq ?_
 refine aI ?_
 repeat refine sq ?_
 refine zG (fun s:Nat=>upd H [2,1] (some (.map 0 (bw (fj x x.ds (l.take s)))))) (fun s:Nat=>[(18,⟨true,.v (vInt s)⟩),(5,⟨true,.v (.bool ((l.take s).all (gM x)))⟩)]) (fun s=>[]) (fun s=>s<=l.length) (fun s=>l.length-s) 0 ?_ ?_ ?_ ?_ ?_
 ·exact Nat.zero_le _
 ·congr 1;exact NW h2
 ·rfl
 ·rfl
 rintro i hi
 generalize dk:upd H [2,1] (some (.map 0 (bw (fj x x.ds (l.take i)))))=H'
 have h0:=(show H' [0,1]=H [0,1]by rw[<-dk,aW _ _ _ (by decide)]).trans h0
 have h1:=(show H' [1,1]=H [1,1]by rw[<-dk,aW _ _ _ (by decide)]).trans h1
 have h2:H' [2,1]=some (.map 0 (bw (fj x x.ds (l.take i)))):=by rw[<-dk,aO]
 obtain⟨hO,ae⟩:=aaf dk ae
 have bc:∀ hs es,bx [0] (bp [0] hs) (upd H' [2,1] (some (.map 0 es)))=True:=ae
 simp only[go_sem]
 repeat refine sq ?_
 refine rx hΓ [0,5,6,16,17,18,19] [] (fun K' hK=>by simp only[go_sem,hO,ae,bc,h0,h1,h2];(repeat (refine⟨ak,?_⟩));exact hK _ (by simp only[go_sem,hO,ae,bc,h0,h1,h2]) (by simp only[go_sem,hO,ae,bc,h0,h1,h2]<;>rfl)) ?_
 repeat refine sq ?_
 refine ax (fun hb=>?_) fun hb=>?_
 ·have ab:i<l.length:=by simpa using hb
  have ao:(i:Int)<l.length:=by omega
  clear hb
  have Cw:=yx l[i] (List.getElem_mem ab)
  repeat refine sq ?_
  refine aC ?_
  repeat refine sq ?_
  refine aI ?_
  repeat refine sq ?_
  refine rx hΓ [0,5,6,8,16,17,18] [[8,0]] (fun K' hK=>by simp only[go_sem,hO,ae,bc,h0,h1,h2,ah ab,ai,aj,ao];(repeat (refine⟨ak,?_⟩));exact hK _ (by simp only[go_sem,hO,ae,bc,h0,h1,h2,ah ab,ai,aj,ao]) (by simp only[go_sem,hO,ae,bc,h0,h1,h2,ah ab,ai,aj,ao]<;>rfl)) ?_
  repeat refine sq ?_
  refine rx hΓ [0,5,6,9,10,16,17,18] [[10,0]] (fun K' hK=>by simp only[go_sem,hO,ae,bc,h0,h1,h2,ah ab,ai,aj,ao,AD];(repeat (refine⟨by first | exact ak | exact⟨⟨hv.ds _,bR⟩,Cw⟩,?_⟩));exact hK _ (by simp only[go_sem,hO,ae,bc,h0,h1,h2,ah ab,ai,aj,ao,AD]) (by simp only[go_sem,hO,ae,bc,h0,h1,h2,ah ab,ai,aj,ao,AD]<;>rfl)) ?_
  repeat refine sq ?_
  refine rx hΓ [0,5,6,9,10,16,17,18,29] [[10,0]] (fun K' hK=>by simp only[go_sem,hO,ae,bc,h0,h1,h2,ah ab,ai,aj,ao];(repeat (refine⟨ak,?_⟩));exact hK _ (by simp only[go_sem,hO,ae,bc,h0,h1,h2,ah ab,ai,aj,ao]) (by simp only[go_sem,hO,ae,bc,h0,h1,h2,ah ab,ai,aj,ao]<;>rfl)) ?_
  repeat refine sq ?_
  refine ax (fun hb=>?_) fun hb=>?_
  ·repeat refine sq ?_
   have kI:(bB x l[i]).1>=0:=by simpa using hb
   have hA:(l.take (i+1)).all (gM x)=(l.take i).all (gM x):=by rw[wI ab];simp[gM,kI]
   have hF:fj x x.ds (l.take (i+1))=oc (fj x x.ds (l.take i)) (bB x l[i]).1 (bB x l[i]).2:=by rw[Lc ab,rJ,if_pos kI]
   repeat refine sq ?_
   refine aS hΓ fun K' hK=>?_
   simp only[go_sem,hO,ae,bc,h0,h1,h2,ah ab,ai,aj,ao,Ru]
   repeat (refine⟨ak,?_⟩)
   refine hK _ ?_
   clear K' hK
   simp only[go_sem]
   refine dd [0,5,6,16,17,18] [] ?_ ?_
   ·simp only[go_sem,hO,ae,bc,h0,h1,h2]
   simp only[go_sem,hO,ae,bc,h0,h1,h2]
   repeat refine sq ?_
   refine aS hΓ fun K' hK=>?_
   simp only[go_sem,hO,ae,bc,h0,h1,h2,ah ab,ai,aj,ao]
   repeat (refine⟨ak,?_⟩)
   refine hK _ ?_
   clear K' hK
   simp only[go_sem]
   refine⟨i+1,ab,by(show l.length-(i+1)<l.length-i;omega),?_⟩
   refine bd [0,5,6,16,17,18] [] ?_ ?_
   ·simp only[go_sem,aV ab tC,aY,hA,hF,hO,ae,bc,h0,h1,h2]
   ·simp only[go_sem,aV ab tC,aY,hA,hF,hO,ae,bc,h0,h1,h2]
    all_goals first | (rw[<-dk];done) | (congr 1;funext nm;rw[<-dk];by_cases e:nm=[2,1]<;>simp[e,aO,aW])
  ·repeat refine sq ?_
   have kI:¬ (bB x l[i]).1>=0:=by simpa using hb
   have hF:fj x x.ds (l.take (i+1))=fj x x.ds (l.take i):=by rw[Lc ab,rJ,if_neg kI]
   repeat refine sq ?_
   refine rx hΓ [0,5,6,16,17,18,38] [] (fun K' hK=>by simp only[go_sem,hO,ae,bc,h0,h1,h2,ah ab,ai,aj,ao];(repeat (refine⟨ak,?_⟩));exact hK _ (by simp only[go_sem,hO,ae,bc,h0,h1,h2,ah ab,ai,aj,ao]) (by simp only[go_sem,hO,ae,bc,h0,h1,h2,ah ab,ai,aj,ao]<;>rfl)) ?_
   repeat refine sq ?_
   refine ax (fun hb=>?_) fun hb=>?_
   ·repeat refine sq ?_
    have hA:(l.take (i+1)).all (gM x)=false:=by rw[wI ab];simp[gM,kI];intro _;simpa using hb
    repeat refine sq ?_
    refine aS hΓ fun K' hK=>?_
    simp only[go_sem,hO,ae,bc,h0,h1,h2,ah ab,ai,aj,ao]
    repeat (refine⟨ak,?_⟩)
    refine hK _ ?_
    clear K' hK
    simp only[go_sem]
    refine dd [0,5,6,16,17,18] [] ?_ ?_
    ·simp only[go_sem,hO,ae,bc,h0,h1,h2]
    simp only[go_sem,hO,ae,bc,h0,h1,h2]
    repeat refine sq ?_
    refine aS hΓ fun K' hK=>?_
    simp only[go_sem,hO,ae,bc,h0,h1,h2,ah ab,ai,aj,ao]
    repeat (refine⟨ak,?_⟩)
    refine hK _ ?_
    clear K' hK
    simp only[go_sem]
    refine⟨i+1,ab,by(show l.length-(i+1)<l.length-i;omega),?_⟩
    refine bd [0,5,6,16,17,18] [] ?_ ?_
    ·simp only[go_sem,aV ab tC,aY,hA,hF,hO,ae,bc,h0,h1,h2]
    ·simp only[go_sem,aV ab tC,aY,hA,hF,hO,ae,bc,h0,h1,h2]
     all_goals first | (rw[<-dk];done) | (congr 1;funext nm;rw[<-dk];by_cases e:nm=[2,1]<;>simp[e,aO,aW])
   ·repeat refine sq ?_
    have hA:(l.take (i+1)).all (gM x)=(l.take i).all (gM x):=by rw[wI ab];simp[gM,kI];intro _;simpa using hb
    refine aC ?_
    refine bA ?_
    simp only[go_sem]
    refine dd [0,5,6,16,17,18] [] ?_ ?_
    ·simp only[go_sem,hO,ae,bc,h0,h1,h2]
    simp only[go_sem,hO,ae,bc,h0,h1,h2]
    repeat refine sq ?_
    refine aS hΓ fun K' hK=>?_
    simp only[go_sem,hO,ae,bc,h0,h1,h2,ah ab,ai,aj,ao]
    repeat (refine⟨ak,?_⟩)
    refine hK _ ?_
    clear K' hK
    simp only[go_sem]
    refine⟨i+1,ab,by(show l.length-(i+1)<l.length-i;omega),?_⟩
    refine bd [0,5,6,16,17,18] [] ?_ ?_
    ·simp only[go_sem,aV ab tC,aY,hA,hF,hO,ae,bc,h0,h1,h2]
    ·simp only[go_sem,aV ab tC,aY,hA,hF,hO,ae,bc,h0,h1,h2]
     all_goals first | (rw[<-dk];done) | (congr 1;funext nm;rw[<-dk];by_cases e:nm=[2,1]<;>simp[e,aO,aW])
 ·have bj:i=l.length:=by
   have :¬ (i:Int)<l.length:=by simpa using hb
   omega
  clear hb
  subst bj
  repeat refine sq ?_
  refine bC ?_
  simp only[go_sem]
  refine dd [0,5] [] ?_ ?_
  ·simp only[go_sem,hO,ae,bc,h0,h1,h2]
  simp only[go_sem,hO,ae,bc,h0,h1,h2]
  repeat refine sq ?_
  refine rx hΓ [0,5,43,44,45] [] (fun K' hK=>by simp only[go_sem,hO,ae,bc,h0,h1,h2];(repeat (refine⟨ak,?_⟩));exact hK _ (by simp only[go_sem,hO,ae,bc,h0,h1,h2]) (by simp only[go_sem,hO,ae,bc,h0,h1,h2]<;>rfl)) ?_
  repeat refine sq ?_
  refine aI ?_
  repeat refine sq ?_
  refine bT (fun s:Nat=>[(45,⟨true,.v (vInt s)⟩),(5,⟨true,.v (.bool ((x.ts.take s).all (xr (fj x x.ds (l.take l.length)))&&(l.take l.length).all (gM x)))⟩)]) (fun s=>[]) (fun s=>s<=x.ts.length) (fun s=>x.ts.length-s) 0 ?_ ?_ ?_ ?_
  ·exact Nat.zero_le _
  ·rfl
  ·rfl
  rintro i1 hi
  generalize hB:((x.ts.take i1).all (xr (fj x x.ds (l.take l.length)))&&(l.take l.length).all (gM x))=B
  simp only[go_sem]
  repeat refine sq ?_
  refine rx hΓ [0,5,43,44,45,46] [] (fun K' hK=>by simp only[go_sem,hO,ae,bc,h0,h1,h2];(repeat (refine⟨ak,?_⟩));exact hK _ (by simp only[go_sem,hO,ae,bc,h0,h1,h2]) (by simp only[go_sem,hO,ae,bc,h0,h1,h2]<;>rfl)) ?_
  repeat refine sq ?_
  refine ax (fun hb=>?_) fun hb=>?_
  ·have aJ:i1<x.ts.length:=by simpa using hb
   have bq:(i1:Int)<x.ts.length:=by omega
   clear hb
   have hA:((x.ts.take (i1+1)).all (xr (fj x x.ds (l.take l.length)))&&(l.take l.length).all (gM x))=(B&&decide ((cv (fj x x.ds (l.take l.length)) x.ts[i1]).1<=(cv (fj x x.ds (l.take l.length)) x.ts[i1]).2)):=by
    rw[<-hB,wI aJ,Bool.and_assoc,Bool.and_assoc,Bool.and_comm (xr _ _)];rfl
   repeat refine sq ?_
   refine aC ?_
   repeat refine sq ?_
   refine aI ?_
   repeat refine sq ?_
   refine rx hΓ [0,5,12,43,44,45] [] (fun K' hK=>by simp only[go_sem,hO,ae,bc,h0,h1,h2,ah aJ,ai,aj,bq];(repeat (refine⟨ak,?_⟩));exact hK _ (by simp only[go_sem,hO,ae,bc,h0,h1,h2,ah aJ,ai,aj,bq]) (by simp only[go_sem,hO,ae,bc,h0,h1,h2,ah aJ,ai,aj,bq]<;>rfl)) ?_
   repeat refine sq ?_
   refine rx hΓ [0,5,13,43,44,45] [[13,0]] (fun K' hK=>by simp only[go_sem,hO,ae,bc,h0,h1,h2,ah aJ,ai,aj,bq,jv];(repeat (refine⟨ak,?_⟩));exact hK _ (by simp only[go_sem,hO,ae,bc,h0,h1,h2,ah aJ,ai,aj,bq,jv]) (by simp only[go_sem,hO,ae,bc,h0,h1,h2,ah aJ,ai,aj,bq,jv]<;>rfl)) ?_
   repeat refine sq ?_
   refine aS hΓ fun K' hK=>?_
   simp only[go_sem,hO,ae,bc,h0,h1,h2,ah aJ,ai,aj,bq]
   repeat (refine⟨ak,?_⟩)
   refine hK _ ?_
   clear K' hK
   simp only[go_sem]
   refine dd [0,5,43,44,45] [] ?_ ?_
   ·simp only[go_sem,hO,ae,bc,h0,h1,h2]
   simp only[go_sem,hO,ae,bc,h0,h1,h2]
   repeat refine sq ?_
   refine aS hΓ fun K' hK=>?_
   simp only[go_sem,hO,ae,bc,h0,h1,h2,ah aJ,ai,aj,bq]
   repeat (refine⟨ak,?_⟩)
   refine hK _ ?_
   clear K' hK
   simp only[go_sem]
   refine⟨i1+1,aJ,by(show x.ts.length-(i1+1)<x.ts.length-i1;omega),?_⟩
   refine bd [0,5,43,44,45] [] ?_ ?_<;>simp only[go_sem,aV aJ vq,aY,hA,hO,ae,bc,h0,h1,h2]
  ·have gz:i1=x.ts.length:=by
    have :¬ (i1:Int)<x.ts.length:=by simpa using hb
    omega
   clear hb
   subst gz
   repeat refine sq ?_
   refine bC ?_
   simp only[go_sem]
   refine dd [5] [] ?_ ?_
   ·simp only[go_sem,hO,ae,bc,h0,h1,h2]
   simp only[go_sem,hO,ae,bc,h0,h1,h2]
   repeat refine sq ?_
   refine rx hΓ [4] [] (fun K' hK=>by simp only[go_sem,hO,ae,bc,h0,h1,h2];(repeat (refine⟨ak,?_⟩));exact hK _ (by simp only[go_sem,hO,ae,bc,h0,h1,h2]) (by simp only[go_sem,hO,ae,bc,h0,h1,h2]<;>rfl)) ?_
   refine av ?_
   simp only[go_sem,hO,ae,bc,h0,h1,h2]
   rw[<-hB];simp only[List.take_length];exact⟨by unfold iq wh;rw[Bool.and_comm];rfl,trivial⟩
end
open Go
structure Ro (α:Type) where
 m:Nat
 fam:α->List Name->List O
 args:α->List Name->List D
 ok:α->Prop
 val:α->D
structure Ro.Ok {α:Type} (r:Ro α):Prop where
 len:∀ a Ls,Ls.length=r.m->(r.fam a Ls).length=r.m
 renF:∀ a f Ls,Ls.length=r.m->(r.fam a Ls).map (O.ren f)=r.fam a (Ls.map f)
 renA:∀ a f Ls,Ls.length=r.m->D.renL f (r.args a Ls)=r.args a (Ls.map f)
 reach:∀ a Ls obj,Ls.length=r.m->Ls.Nodup->bW obj Ls (r.fam a Ls)->reach obj (r.args a Ls)=Ls
 closF:∀ a dom Ls,Ls.length=r.m->(∀ x∈Ls,dom x=true)->∀ o∈r.fam a Ls,O.clos dom o=true
 closA:∀ a dom Ls,Ls.length=r.m->(∀ x∈Ls,dom x=true)->D.closL dom (r.args a Ls)=true
 det:∀ a b,r.ok a->r.ok b->r.fam a (LR r.m)=r.fam b (LR r.m)->r.args a (LR r.m)=r.args b (LR r.m)->r.val a=r.val b
 vcl:∀ a dom,D.clos dom (r.val a)=true
 vren:∀ a f,(r.val a).ren f=r.val a
variable {α:Type}
noncomputable def Ro.c(r:Ro α):CSpec where
 pre:=fun os ds=>∃ a,r.ok a/\os=r.fam a (LR r.m)/\ds=r.args a (LR r.m)
 out:=fun os ds=>⟨[],[],by classical exact if h:∃ a,r.ok a/\os=r.fam a (LR r.m)/\ds=r.args a (LR r.m)then r.val h.choose else .any⟩
theorem Ro.c_out{r:Ro α}(hr:r.Ok){a:α}(ha:r.ok a):r.c.out (r.fam a (LR r.m)) (r.args a (LR r.m))=⟨[],[],r.val a⟩:=by
 have h:∃ b,r.ok b/\r.fam a (LR r.m)=r.fam b (LR r.m)/\r.args a (LR r.m)=r.args b (LR r.m):=⟨a,ha,rfl,rfl⟩
 have e:r.val h.choose=r.val a:=(hr.det _ _ ha h.choose_spec.1 h.choose_spec.2.1 h.choose_spec.2.2).symm
 simp only[Ro.c]
 rw[dif_pos h,e]
theorem Ro.c_app{r:Ro α}(hr:r.Ok){a:α}(ha:r.ok a){obj:Name->Option O}{t:Name}{Ls:List Name}(hl:Ls.length=r.m)(hn:Ls.Nodup)(hF:bW obj Ls (r.fam a Ls)):
 r.c.toSpec.app obj t (r.args a Ls)=⟨True,r.val a,obj⟩:=by
 have gy:=hr.reach a Ls obj hl hn hF
 have rA:Ls.map (cin Ls)=LR r.m:=by rw[zI hn,hl]
 have e1:ca obj (r.args a Ls)=r.fam a (LR r.m):=by
  unfold ca
  rw[gy]
  have mJ:=hF
  rw[js]at mJ
  have :Ls.map (cm Ls obj)=(r.fam a Ls).map (O.ren (cin Ls)):=by
   refine List.ext_getElem (by simp[hr.len _ _ hl,hl]) fun i h1 h2=>?_
   have h3:i<Ls.length:=by simpa using h1
   have h4:i<(r.fam a Ls).length:=by rw[hr.len _ _ hl,<-hl];exact h3
   have h5:=congrArg (fun l=>l[i]?) mJ
   have h6:obj Ls[i]=some (r.fam a Ls)[i]:=by simpa[h3,h4]using h5
   simp only[List.getElem_map,cm,h6]
  rw[this,hr.renF _ _ _ hl,rA]
 have e2:cC obj (r.args a Ls)=r.args a (LR r.m):=by
  unfold cC
  rw[gy,hr.renA _ _ _ hl,rA]
 have jY:∀ x∈Ls,bZ Ls x=true:=fun x hx=>fx.2 hx
 have gw:shut obj Ls=true:=by
  unfold shut
  rw[List.all_eq_true]
  intro x hx
  obtain⟨i,hi,rfl⟩:=List.getElem_of_mem hx
  have mJ:=hF
  rw[js]at mJ
  have h4:i<(r.fam a Ls).length:=by rw[hr.len _ _ hl,<-hl];exact hi
  have h5:=congrArg (fun l=>l[i]?) mJ
  have h6:obj Ls[i]=some (r.fam a Ls)[i]:=by simpa[hi,h4]using h5
  rw[h6]
  exact hr.closF _ _ _ hl jY _ (List.getElem_mem h4)
 have dg:r.c.pre (r.fam a (LR r.m)) (r.args a (LR r.m)):=⟨a,ha,rfl,rfl⟩
 simp only[CSpec.toSpec,e1,e2,gy,Ro.c_out hr ha,gw,hr.closA _ _ _ hl jY,fresh,List.all_nil,Bool.and_self,dg,and_self,de,cA,hr.vren]
def Gb(P:Program)(rs:List ResultVar)(v:D)(H:Name->Option O)(e:Exit)(σ:S):Prop:=
 (e=.normal\/e=.ret)/\(bL P σ rs).ok/\(bL P σ rs).d=v/\∀ i,σ.obj [i,1]=H [i,1]
theorem Br{σ:S}:∀ {os:List O} {k:Nat},(∀ i (h:i<os.length),σ.obj [k+i,1]=some os[i])->qC σ [] k os
 |[],_,_=>trivial
 |o::r,k,h=>by
  refine⟨by have:=h 0 (by simp);simp only[Nat.add_zero,List.getElem_cons_zero]at this;exact this,Br fun i hi=>?_⟩
  have :=h (i+1) (by simpa using hi)
  rw[show k+1+i=k+(i+1)by omega]
  simpa using this
theorem Ro.sound{P:Program}{r:Ro α}(hr:r.Ok){f:FuncId}{fn:Func}{nt:Nat}{rs:List ResultVar}(hf:P.funcs[f]?=some fn)(cM:fn.ntmps=nt)(ck:fn.results.toList=rs)(hn:(fn.name== "runtime.NumGoroutine")=false)(hy:f<1000000000)
 (hw:∃ c,fn.body=some c/\∀ a,r.ok a->(r.args a (LR r.m)).length<=nt/\CL P [c] (be nt [0] (aM (r.fam a (LR r.m))) (cZ 0 (r.args a (LR r.m))) []) (Gb P rs (r.val a) (aM (r.fam a (LR r.m))))):aF P f r.c.toSpec:=by
 obtain⟨c,hc,hw⟩:=hw
 refine kV hf hc cM ck (gm hf hc hn) (Nat.ne_of_lt (show f<yid from hy)) ?_
 rintro os ds ⟨a,ha,rfl,rfl⟩
 obtain⟨hl,h⟩:=hw a ha
 refine⟨hl,?_⟩
 rw[Ro.c_out hr ha]
 refine CW.mono (fE h) ?_
 rintro e σ ⟨he,h1,h2,h3⟩
 have fin:(bL P σ rs).ok/\(bL P σ rs).d=r.val a/\fC (r.fam a (LR r.m)) ⟨[],[],r.val a⟩ σ:=by
  refine⟨h1,h2,Br fun i hi=>?_,trivial,?_⟩
  ·rw[Nat.zero_add,h3]
   show (r.fam a (LR r.m))[i]?=_
   rw[List.getElem?_eq_getElem hi]
  ·simp[hr.vcl,distinct]
 rcases he with rfl | rfl
 ·exact fin
 ·exact fin
theorem Ro.outC{r:Ro α}(hr:r.Ok)(a:α):∀ hs,bx [0] (bp [0] hs) (aM (r.fam a (LR r.m)))=True:=fun hs=>eq_true (jL (fun o ho dom hd=>hr.closF a dom _ (nM _) (fun x hx=>by
 obtain⟨i,_,rfl⟩:=List.mem_map.1 hx
 exact hd i) o ho) hs)
set_option maxHeartbeats 8000000
set_option maxRecDepth 10000
noncomputable section
attribute [go_sem] Gb
theorem uS{Ls:List Name}(h:Ls.length=4):∃ a b c d,Ls=[a,b,c,d]:=by
 match Ls,h with
 |[a,b,c,d],_=>exact⟨a,b,c,d,rfl⟩
def j'(x:Vw)(nr nb nd:Name):O:=.box [.v (ey x.l),.v (.sl (x.rs.map encR)),.msl nr x.ts.length,.map nb,.map nd]
def pY(x:Vw)(Ls:List Name):List O:=[j' x (Ls.getD 1 []) (Ls.getD 2 []) (Ls.getD 3 []),.arr 1 (x.ts.map vInt),.map 2 (bD x.bk),.map 0 (bw x.ds)]
theorem XD{x y:Vw}{a b c:Name}(h:j' x a b c=j' y a b c):x.rs=y.rs:=by
 simp only[j',O.box.injEq,List.cons.injEq,D.v.injEq,V.sl.injEq]at h
 have :=congrArg (List.map gF) h.2.1
 rwa [tX,tX]at this
def jq:Ro (Vw×Int) where
 m:=4
 fam:=fun a Ls=>pY a.1 Ls
 args:=fun a Ls=>[.ref (Ls.getD 0 []) 0,.v (vInt a.2)]
 ok:=fun _=>True
 val:=fun a=>.tup [l9 (dP a.1.rs a.2),.v (.bool (dP a.1.rs a.2).isSome)]
theorem QH(o:Option Rec)(f:Name->Name):(l9 o).ren f=l9 o:=by cases o<;>rfl
theorem Be:jq.Ok where
 len:=fun _ _ _=>rfl
 renF:=fun a f Ls h=>by obtain⟨a,b,c,d,rfl⟩:=uS h;rfl
 renA:=fun a f Ls h=>by obtain⟨a,b,c,d,rfl⟩:=uS h;rfl
 reach:=fun x Ls obj h bR hF=>by
  obtain⟨a,b,c,d,rfl⟩:=uS h
  obtain⟨h1,h2,h3,h4,_⟩:=hF
  have en:b8 (jq.args x [a,b,c,d])=[a]:=rfl
  unfold Go.Eng.reach
  rw[en]
  show cE obj (2993+1+1+1+1+1+1+1) _ []=_
  simp only[List.nodup_cons,List.mem_cons,List.not_mem_nil,or_false,not_or,not_false_eq_true,List.nodup_nil,and_true]at bR
  obtain⟨⟨a1,a2,a3⟩,⟨b1,b2⟩,c1⟩:=bR
  simp[cE,fx,h1,h2,h3,h4,gZ,b8,iU,j',Ne.symm a1,Ne.symm a2,Ne.symm a3,Ne.symm b1,Ne.symm b2,Ne.symm c1]
 closF:=fun x dom Ls h hd o ho=>by
  obtain⟨a,b,c,d,rfl⟩:=uS h
  have h1:=hd b (by simp)
  have h2:=hd c (by simp)
  have h3:=hd d (by simp)
  simp only[jq,pY,List.mem_cons,List.not_mem_nil,or_false]at ho
  rcases ho with rfl | rfl | rfl | rfl<;>simp[O.clos,D.closL,D.clos,j',h1,h2,h3]
 closA:=fun x dom Ls h hd=>by
  obtain⟨a,b,c,d,rfl⟩:=uS h
  have h1:=hd a (by simp)
  simp[jq,D.closL,D.clos,h1]
 det:=fun a b _ _ h1 h2=>by
  have e1:a.1.rs=b.1.rs:=XD (List.cons.inj h1).1
  have e2:a.2=b.2:=by
   have :=(List.cons.inj (List.cons.inj h2).2).1
   simpa[vInt]using this
  simp only[jq,e1,e2]
 vcl:=fun a dom=>by simp[jq,D.clos,D.closL,ln]
 vren:=fun a f=>by simp[jq,D.ren,D.renL,QH]
def S77m:Spec:=jq.c.toSpec
theorem UP:aF Tryz.prog 77 S77m:=by
 refine Ro.sound Be (rs:=[.cell 4 36,.tmp 5]) Tryz.func77 Tryz.ntmps77 (by rfl) (by kernel_rfl) (by decide) ⟨_,rfl,?_⟩
 rintro⟨x,s⟩ _
 refine⟨lb rfl,?_⟩
 have hΓ:=Ns
 have hO:=Ro.outC Be (x,s)
 have h0:aM (jq.fam (x,s) (LR jq.m)) [0,1]=some (j' x [1,1] [2,1] [3,1]):=rfl
 generalize aM (jq.fam (x,s) (LR jq.m))=H at *
 have ha:jq.args (x,s) (LR jq.m)=[.ref [0,1] 0,.v (vInt s)]:=rfl
 have hv:jq.val (x,s)=.tup [l9 (dP x.rs s),.v (.bool (dP x.rs s).isSome)]:=rfl
 rw[ha,hv]
 simp only[j',cZ,Nat.zero_add]at h0 |-
 repeat refine sq ?_
 refine rx hΓ [0,3,4] [[3,0],[4,0]] (fun K' hK=>by simp only[go_sem,hO,h0];(repeat (refine⟨ak,?_⟩));exact hK _ (by simp only[go_sem,hO,h0]) (by simp only[go_sem,hO,h0]<;>rfl)) ?_
 repeat refine sq ?_
 refine rx hΓ [0,4,6] [[4,0]] (fun K' hK=>by simp only[go_sem,hO,h0,true_or,or_true];(repeat (refine⟨ak,?_⟩));exact hK _ (by simp only[go_sem,hO,h0,true_or,or_true]) (by simp only[go_sem,hO,h0,true_or,or_true]<;>rfl)) ?_
 repeat refine sq ?_
 refine rx hΓ [0,4,6,14] [[4,0]] (fun K' hK=>by simp only[go_sem,hO,h0];(repeat (refine⟨ak,?_⟩));exact hK _ (by simp only[go_sem,hO,h0]) (by simp only[go_sem,hO,h0]<;>rfl)) ?_
 repeat refine sq ?_
 refine ax (fun hb=>?_) fun hb=>?_
 ·repeat refine sq ?_
  have e:dP x.rs s=none:=Gw (by simpa using hb)
  repeat refine sq ?_
  refine rx hΓ [4,5] [[4,0]] (fun K' hK=>by simp only[go_sem,hO,h0];(repeat (refine⟨ak,?_⟩));exact hK _ (by simp only[go_sem,hO,h0]) (by simp only[go_sem,hO,h0]<;>rfl)) ?_
  refine av ?_
  simp only[go_sem,hO,h0]
  rw[e];exact⟨.inr trivial,rfl⟩
 ·repeat refine sq ?_
  obtain⟨i,hi,e1,e⟩:=Gv (by simpa using hb)
  have bE:(i:Int)<x.rs.length:=by omega
  rw[e1]
  refine aC ?_
  repeat refine sq ?_
  refine rx hΓ [4,5] [[4,0]] (fun K' hK=>by simp only[go_sem,hO,h0,ah hi,ai,aj,bE];(repeat (refine⟨ak,?_⟩));exact hK _ (by simp only[go_sem,hO,h0,ah hi,ai,aj,bE]) (by simp only[go_sem,hO,h0,ah hi,ai,aj,bE]<;>rfl)) ?_
  refine av ?_
  simp only[go_sem,hO,h0]
  rw[e];exact⟨.inr trivial,rfl⟩
def ma(r:Rec):V:=.ptr [vInt r.so,vInt r.bo,vInt r.pa,.sl (r.lv.map vInt),vInt r.da,vInt r.kn,vInt r.un]
theorem GC{a b:Rec}(h:ma a=ma b):a=b:=by
 refine Gu ?_
 obtain⟨a1,a2,a3,al,a4,a5,a6⟩:=a
 obtain⟨b1,b2,b3,bl,b4,b5,b6⟩:=b
 simp only[ma,V.ptr.injEq,List.cons.injEq,and_true]at h
 simp only[ga,D.agg.injEq,List.cons.injEq,D.v.injEq,and_true]
 exact h
def gX(bk:Bk)(r:Rec)(f:Int):Bool:=(bH bk (r.so,f)).isSome||!r.lv.contains f
def su{β:Type}(ar:β->Rec->Name->List D)(ok:β->Prop)(val:Bk->Rec->β->V):Ro (Vw×Rec×β) where
 m:=5
 fam:=fun a Ls=>.box [.ref (Ls.getD 1 []) 0]::pY a.1 (Ls.drop 1)
 args:=fun a Ls=>ar a.2.2 a.2.1 (Ls.getD 0 [])
 ok:=fun a=>ok a.2.2
 val:=fun a=>.v (val a.1.bk a.2.1 a.2.2)
theorem E9{β:Type}{ar:β->Rec->Name->List D}{ok:β->Prop}{val:Bk->Rec->β->V}(h1:∀ b r n,b8 (ar b r n)=[n])(h2:∀ f b r n,D.renL f (ar b r n)=ar b r (f n))(h3:∀ dom b r n,dom n=true->D.closL dom (ar b r n)=true)
 (h4:∀ b r b' r' n,ar b r n=ar b' r' n->b=b'/\r=r'):(su ar ok val).Ok where
 len:=fun _ _ _=>rfl
 renF:=fun a f Ls h=>by obtain⟨a,b,c,d,e,rfl⟩:=kE h;rfl
 renA:=fun a f Ls h=>by obtain⟨a,b,c,d,e,rfl⟩:=kE h;exact h2 _ _ _ _
 reach:=fun x Ls obj h bR hF=>by
  obtain⟨a,b,c,d,e,rfl⟩:=kE h
  obtain⟨k1,k2,k3,k4,k5,_⟩:=hF
  have en:b8 ((su ar ok val).args x [a,b,c,d,e])=[a]:=h1 _ _ _
  unfold Go.Eng.reach
  rw[en]
  show cE obj (2993+1+1+1+1+1+1+1) _ []=_
  simp only[List.nodup_cons,List.mem_cons,List.not_mem_nil,or_false,not_or,not_false_eq_true,List.nodup_nil,and_true]at bR
  obtain⟨⟨a1,a2,a3,a4⟩,⟨b1,b2,b3⟩,⟨c1,c2⟩,d1⟩:=bR
  simp[cE,fx,k1,k2,k3,k4,k5,gZ,b8,iU,j',Ne.symm a1,Ne.symm a2,Ne.symm a3,Ne.symm a4,Ne.symm b1,Ne.symm b2,Ne.symm b3,Ne.symm c1,Ne.symm c2,Ne.symm d1]
 closF:=fun x dom Ls h hd o ho=>by
  obtain⟨a,b,c,d,e,rfl⟩:=kE h
  have h1:=hd b (by simp)
  have h2:=hd c (by simp)
  have h3:=hd d (by simp)
  have h4:=hd e (by simp)
  simp only[su,pY,List.drop_succ_cons,List.drop_zero,List.mem_cons,List.not_mem_nil,or_false]at ho
  rcases ho with rfl | rfl | rfl | rfl | rfl<;>simp[O.clos,D.closL,D.clos,j',h1,h2,h3,h4]
 closA:=fun x dom Ls h hd=>by
  obtain⟨a,b,c,d,e,rfl⟩:=kE h
  exact h3 _ _ _ _ (hd a (by simp))
 det:=fun a b _ _ k1 k2=>by
  have e1:a.1.bk=b.1.bk:=by
   have :=(List.cons.inj (List.cons.inj (List.cons.inj (List.cons.inj k1).2).2).2).1
   simp only[O.map.injEq,true_and]at this
   have :=congrArg zx this
   rwa [DZ,DZ]at this
  obtain⟨e2,e3⟩:=h4 _ _ _ _ _ k2
  simp only[su,e1,e2,e3]
 vcl:=fun _ _=>rfl
 vren:=fun _ _=>rfl
def tkRo:Ro (Vw×Rec×Int):=su (fun f r n=>[.v (vInt f),.ref n 0,.v (ma r)]) (fun _=>True) (fun bk r f=>.bool (gX bk r f))
theorem AG:tkRo.Ok:=E9 (fun _ _ _=>rfl) (fun _ _ _ _=>rfl) (fun dom b r n h=>by simp[D.closL,D.clos,h]) (fun b r b' r' n h=>by
 simp only[List.cons.injEq,D.v.injEq,and_true,true_and]at h
 exact⟨by simpa[vInt]using h.1,GC h.2⟩)
def S163m:Spec:=tkRo.c.toSpec
def K28a:List (Nat×Spec):=[(108,Al)]
theorem aaX:KS K28a:=tc AY.sound<|tn
attribute [go_sem] K28a
theorem U1:aF Tryz.prog 163 S163m:=by
 refine Ro.sound AG (rs:=[.tmp 4]) Tryz.func163 Tryz.ntmps163 (by rfl) (by kernel_rfl) (by decide) ⟨_,rfl,?_⟩
 rintro⟨x,r,f⟩ _
 refine⟨lb rfl,?_⟩
 have hΓ:=aaX
 have hP:=eE
 have hO:=Ro.outC AG (x,r,f)
 have h0:aM (tkRo.fam (x,r,f) (LR tkRo.m)) [0,1]=some (.box [.ref [1,1] 0]):=rfl
 have h1:aM (tkRo.fam (x,r,f) (LR tkRo.m)) [1,1]=some (j' x [2,1] [3,1] [4,1]):=rfl
 have h3:aM (tkRo.fam (x,r,f) (LR tkRo.m)) [3,1]=some (.map 2 (bD x.bk)):=rfl
 generalize aM (tkRo.fam (x,r,f) (LR tkRo.m))=H at *
 have ha:tkRo.args (x,r,f) (LR tkRo.m)=[.v (vInt f),.ref [0,1] 0,.v (ma r)]:=rfl
 have hv:tkRo.val (x,r,f)=.v (.bool (gX x.bk r f)):=rfl
 rw[ha,hv]
 simp only[j',cZ,Nat.zero_add,ma]at h1 |-
 repeat refine sq ?_
 refine rx hΓ [0,1,2] [] (fun K' hK=>by simp only[go_sem,hO,h0,h1,h3];(repeat (refine⟨ak,?_⟩));exact hK _ (by simp only[go_sem,hO,h0,h1,h3]) (by simp only[go_sem,hO,h0,h1,h3]<;>rfl)) ?_
 repeat refine sq ?_
 refine dx hΓ hP [[],[0],[0,1],[0,1,2],[],[4],[],[4,5,6],u8,u9,dq,dq,fm,qs] [0,2,6] [] (by kernel_rfl) (fun K' hK=>by simp only[go_sem,hO,h0,h1,h3,aw];(repeat (refine⟨ak,?_⟩));(first | refine⟨by rfl,?_⟩ | skip);exact hK _ (by simp only[go_sem,hO,h0,h1,h3,aw]) (by simp only[go_sem,hO,h0,h1,h3,aw]<;>rfl)) ?_
 repeat refine sq ?_
 refine rx hΓ [4] [] (fun K' hK=>by simp only[go_sem,hO,h0,h1,h3];(repeat (refine⟨ak,?_⟩));exact hK _ (by simp only[go_sem,hO,h0,h1,h3]) (by simp only[go_sem,hO,h0,h1,h3]<;>rfl)) ?_
 refine av ?_
 simp only[go_sem,hO,h0,h1,h3]
 exact⟨.inr trivial,by unfold gX;cases bH x.bk (r.so,f)<;>rfl⟩
def gG(v:Bk->Rec->List Int->V):Ro (Vw×Rec×List Int):=su (fun l r n=>[.v (.sl (l.map vInt)),.clo (.func 163) [] [.ref n 0,.v (ma r)]]) (fun l=>l.length<=maxLen) v
theorem ua(v:Bk->Rec->List Int->V):(gG v).Ok:=E9 (fun _ _ _=>rfl) (fun _ _ _ _=>rfl) (fun dom b r n h=>by simp[D.closL,D.clos,h]) (fun b r b' r' n h=>by
 simp only[List.cons.injEq,D.v.injEq,D.clo.injEq,V.sl.injEq,and_true,true_and]at h
 refine⟨?_,GC h.2⟩
 have :=congrArg (List.map jC) h.1
 rwa [p9,p9]at this)
def ly(bk:Bk)(r:Rec)(l:List Int):V:=vInt (bY (gX bk r) l)
def lL(bk:Bk)(r:Rec)(l:List Int):V:=.bool (l.any (gX bk r))
def S192m:Spec:=(gG ly).c.toSpec
def S160m:Spec:=(gG lL).c.toSpec
def E1:FuncId->Option Spec:=fun f=>if f=163 then some S163m else none
theorem aaW:∀ f s,E1 f=some s->aF Tryz.prog f s:=fun f s h=>by
 unfold E1 at h
 split at h
 ·rename_i e;cases h;subst e;exact U1
 ·cases h
theorem E0:E1 163=some S163m:=rfl
theorem UU:aF Tryz.prog 192 S192m:=by
 refine Ro.sound (ua ly) (rs:=[.tmp 4]) Tryz.func192 Tryz.ntmps192 (by rfl) (by kernel_rfl) (by decide) ⟨_,rfl,?_⟩
 rintro⟨x,r,l⟩ hl
 replace hl:l.length<=maxLen:=hl
 refine⟨lb rfl,?_⟩
 have hΓ:=aaW
 have hO:=Ro.outC (ua ly) (x,r,l)
 have dE:bW (aM ((gG ly).fam (x,r,l) (LR (gG ly).m))) (LR 5) ((gG ly).fam (x,r,l) (LR 5)):=⟨rfl,rfl,rfl,rfl,rfl,trivial⟩
 generalize aM ((gG ly).fam (x,r,l) (LR (gG ly).m))=H at *
 have oI:∀ (F:Name->Option O) (t:Name) (f:Int),S163m.app (fun nm=>if own [0] nm=true then F nm else H nm) t [.v (vInt f),.ref [0,1] 0,.v (ma r)]=⟨True,.v (.bool (gX x.bk r f)),fun nm=>if own [0] nm=true then F nm else H nm⟩:=fun F t f=>Ro.c_app AG (a:=(x,r,f)) trivial (t:=t) (obj:=fun nm=>if own [0] nm=true then F nm else H nm) (Ls:=LR 5) rfl (Nm 5) (xO dE fun y hy=>by
  obtain⟨i,_,rfl⟩:=List.mem_map.1 hy
  simp[pq])
 have ha:(gG ly).args (x,r,l) (LR (gG ly).m)=[.v (.sl (l.map vInt)),.clo (.func 163) [] [.ref [0,1] 0,.v (ma r)]]:=rfl
 have hv:(gG ly).val (x,r,l)=.v (vInt (bY (gX x.bk r) l)):=rfl
 rw[ha,hv]
 simp only[cZ,Nat.zero_add]
 repeat refine sq ?_
 refine rx hΓ [0,1] [] (fun K' hK=>by simp only[go_sem,hO];(repeat (refine⟨ak,?_⟩));exact hK _ (by simp only[go_sem,hO]) (by simp only[go_sem,hO]<;>rfl)) ?_
 repeat refine sq ?_
 refine rx hΓ [0,1,7,8] [] (fun K' hK=>by simp only[go_sem,hO];(repeat (refine⟨ak,?_⟩));exact hK _ (by simp only[go_sem,hO]) (by simp only[go_sem,hO]<;>rfl)) ?_
 repeat refine sq ?_
 refine aI ?_
 repeat refine sq ?_
 refine bT (fun s:Nat=>[(8,⟨true,.v (vInt s)⟩)]) (fun s=>[]) (fun s=>s<=l.length/\∀ k (h:k<l.length),k<s->gX x.bk r l[k]=false) (fun s=>l.length-s) 0 ?_ ?_ ?_ ?_
 ·exact⟨Nat.zero_le _,by simp⟩
 ·rfl
 ·rfl
 rintro i ⟨hi,hR⟩
 simp only[go_sem]
 repeat refine sq ?_
 refine rx hΓ [0,1,7,8,9] [] (fun K' hK=>by simp only[go_sem,hO];(repeat (refine⟨ak,?_⟩));exact hK _ (by simp only[go_sem,hO]) (by simp only[go_sem,hO]<;>rfl)) ?_
 repeat refine sq ?_
 refine ax (fun hb=>?_) fun hb=>?_
 ·have ab:i<l.length:=by simpa using hb
  have ao:(i:Int)<l.length:=by omega
  clear hb
  repeat refine sq ?_
  refine aC ?_
  repeat refine sq ?_
  refine aI ?_
  repeat refine sq ?_
  refine rx hΓ [0,1,5,7,8] [] (fun K' hK=>by simp only[go_sem,hO,ah ab,ai,aj,ao];(repeat (refine⟨ak,?_⟩));exact hK _ (by simp only[go_sem,hO,ah ab,ai,aj,ao]) (by simp only[go_sem,hO,ah ab,ai,aj,ao]<;>rfl)) ?_
  repeat refine sq ?_
  refine rx hΓ [0,1,5,7,8,16] [] (fun K' hK=>by simp only[go_sem,hO,ah ab,ai,aj,ao,E0,oI];(repeat (refine⟨ak,?_⟩));exact hK _ (by simp only[go_sem,hO,ah ab,ai,aj,ao,E0,oI]) (by simp only[go_sem,hO,ah ab,ai,aj,ao,E0,oI]<;>rfl)) ?_
  repeat refine sq ?_
  refine ax (fun hb=>?_) fun hb=>?_
  ·repeat refine sq ?_
   refine rx hΓ [4] [] (fun K' hK=>by simp only[go_sem,hO,ah ab,ai,aj,ao];(repeat (refine⟨ak,?_⟩));exact hK _ (by simp only[go_sem,hO,ah ab,ai,aj,ao]) (by simp only[go_sem,hO,ah ab,ai,aj,ao]<;>rfl)) ?_
   refine av ?_
   simp only[go_sem,hO]
   rw[mi (p:=gX x.bk r) ab (by simpa using hb) hR];exact⟨.inr trivial,rfl⟩
  ·repeat refine sq ?_
   refine aC ?_
   refine bA ?_
   simp only[go_sem]
   refine dd [0,1,7,8] [] ?_ ?_
   ·simp only[go_sem,hO]
   simp only[go_sem,hO]
   repeat refine sq ?_
   refine aS hΓ fun K' hK=>?_
   simp only[go_sem,hO,ah ab,ai,aj,ao]
   repeat (refine⟨ak,?_⟩)
   refine hK _ ?_
   clear K' hK
   simp only[go_sem]
   refine⟨i+1,⟨ab,?_⟩,by(show l.length-(i+1)<l.length-i;omega),?_⟩
   ·intro k hk cS
    rcases Nat.lt_succ_iff_lt_or_eq.1 cS with h5 | rfl
    ·exact hR k hk h5
    ·simpa using hb
   refine bd [0,1,7,8] [] ?_ ?_<;>simp only[go_sem,aV ab hl,aY,hO]
 ·have bj:i=l.length:=by
   have :¬ (i:Int)<l.length:=by simpa using hb
   omega
  clear hb
  subst bj
  repeat refine sq ?_
  refine bC ?_
  simp only[go_sem]
  refine dd [] [] ?_ ?_
  ·simp only[go_sem,hO]
  simp only[go_sem,hO]
  repeat refine sq ?_
  refine rx hΓ [4] [] (fun K' hK=>by simp only[go_sem,hO];(repeat (refine⟨ak,?_⟩));exact hK _ (by simp only[go_sem,hO]) (by simp only[go_sem,hO]<;>rfl)) ?_
  refine av ?_
  simp only[go_sem,hO]
  rw[oz (p:=gX x.bk r) fun k hk=>hR k hk hk];exact⟨.inr trivial,rfl⟩
def EZ:FuncId->Option Spec:=fun f=>if f=192 then some S192m else none
theorem aaV:∀ f s,EZ f=some s->aF Tryz.prog f s:=fun f s h=>by
 unfold EZ at h
 split at h
 ·rename_i e;cases h;subst e;exact UU
 ·cases h
theorem EY:EZ 192=some S192m:=rfl
theorem U2:aF Tryz.prog 160 S160m:=by
 refine Ro.sound (ua lL) (rs:=[.tmp 4]) Tryz.func160 Tryz.ntmps160 (by rfl) (by kernel_rfl) (by decide) ⟨_,rfl,?_⟩
 rintro⟨x,r,l⟩ hl
 replace hl:l.length<=maxLen:=hl
 refine⟨lb rfl,?_⟩
 have hΓ:=aaV
 have hO:=Ro.outC (ua lL) (x,r,l)
 have dE:bW (aM ((gG lL).fam (x,r,l) (LR (gG lL).m))) (LR 5) ((gG lL).fam (x,r,l) (LR 5)):=⟨rfl,rfl,rfl,rfl,rfl,trivial⟩
 generalize aM ((gG lL).fam (x,r,l) (LR (gG lL).m))=H at *
 have oI:∀ (F:Name->Option O) (t:Name),S192m.app (fun nm=>if own [0] nm=true then F nm else H nm) t [.v (.sl (l.map vInt)),.clo (.func 163) [] [.ref [0,1] 0,.v (ma r)]]=⟨True,.v (vInt (bY (gX x.bk r) l)),fun nm=>if own [0] nm=true then F nm else H nm⟩:=fun F t=>Ro.c_app (ua ly) (a:=(x,r,l)) hl (t:=t) (obj:=fun nm=>if own [0] nm=true then F nm else H nm) (Ls:=LR 5) rfl (Nm 5) (xO dE fun y hy=>by
  obtain⟨i,_,rfl⟩:=List.mem_map.1 hy
  simp[pq])
 have ha:(gG lL).args (x,r,l) (LR (gG lL).m)=[.v (.sl (l.map vInt)),.clo (.func 163) [] [.ref [0,1] 0,.v (ma r)]]:=rfl
 have hv:(gG lL).val (x,r,l)=.v (.bool (l.any (gX x.bk r))):=rfl
 rw[ha,hv]
 simp only[cZ,Nat.zero_add]
 repeat refine sq ?_
 refine rx hΓ [0,1] [] (fun K' hK=>by simp only[go_sem,hO];(repeat (refine⟨ak,?_⟩));exact hK _ (by simp only[go_sem,hO]) (by simp only[go_sem,hO]<;>rfl)) ?_
 repeat refine sq ?_
 refine rx hΓ [4] [] (fun K' hK=>by simp only[go_sem,hO,EY,oI,pH];(repeat (refine⟨ak,?_⟩));exact hK _ (by simp only[go_sem,hO,EY,oI,pH]) (by simp only[go_sem,hO,EY,oI,pH]<;>rfl)) ?_
 refine av ?_
 simp only[go_sem,hO]
 first | exact .inr trivial | exact⟨.inr trivial,rfl⟩
end
theorem YU(b:Bk)(q p:Int×Int)(i:Int):bH (qg b q i) p=if q=p then some i else bH b p:=by
 induction b with
 |nil=>rfl
 |cons e r ih=>
  obtain⟨k,j⟩:=e
  simp only[qg]
  by_cases h:k=q
  ·rw[if_pos h]
   subst h
   simp only[bH]
   split<;>rfl
  ·rw[if_neg h]
   simp only[bH,ih]
   by_cases h2:k=p
   ·subst h2
    rw[if_pos rfl,if_pos rfl,if_neg (fun e=>h e.symm)]
   ·rw[if_neg h2,if_neg h2]
theorem zN(so i:Int)(lv:List Int)(b:Bk)(s f:Int):bH (oW b so i lv) (s,f)=if s=so/\f∈lv then some i else bH b (s,f):=by
 induction lv generalizing b with
 |nil=>simp[oW]
 |cons a r ih=>
  show bH (oW (qg b (so,a) i) so i r) (s,f)=_
  rw[ih,YU]
  by_cases h1:s=so
  ·subst h1
   by_cases h2:f∈r
   ·simp[h2]
   ·by_cases h3:a=f
    ·subst h3;simp[h2]
    ·have h4:¬ f=a:=fun e=>h3 e.symm
     simp[h2,h3,h4]
  ·have h4:¬ (so,a)=(s,f):=fun e=>h1 (by cases e;rfl)
   simp[h1,h4]
theorem He{k:Int}{rs:List Rec}{bk:Bk}{x:Ret}{r:Rec}(h:eV k rs bk x=some r):dP rs x.re=some r/\di x.kn x.un k=true/\¬ dJ x.lo (r.da+1)>x.hi/\x.lv.any (gX bk r)=false:=by
 unfold eV at h
 split at h
 ·cases h
 ·rename_i q hq
  split at h
  ·rename_i hc
   cases h
   simp only[Bool.and_eq_true,Bool.not_eq_true',Bool.or_eq_false_iff,decide_eq_false_iff_not]at hc
   exact⟨hq,hc.1,hc.2.1,hc.2.2⟩
  ·cases h
theorem Rr{k:Int}{rs:List Rec}{bk:Bk}{x:Ret}(h:dP rs x.re=none):eV k rs bk x=none:=by
 unfold eV;rw[h]
theorem Rq{k:Int}{rs:List Rec}{bk:Bk}{x:Ret}{r:Rec}(h:dP rs x.re=some r)(hc:di x.kn x.un k=false):eV k rs bk x=none:=by
 unfold eV;rw[h];simp[hc]
theorem Rp{k:Int}{rs:List Rec}{bk:Bk}{x:Ret}{r:Rec}(h:dP rs x.re=some r)(hc:(decide (dJ x.lo (r.da+1)>x.hi)||x.lv.any (gX bk r))=true):eV k rs bk x=none:=by
 unfold eV;rw[h]
 have fz:(decide (dJ x.lo (r.da+1)>x.hi)||x.lv.any fun f=>(bH bk (r.so,f)).isSome||!r.lv.contains f)=true:=hc
 simp only[fz,Bool.not_true,Bool.and_false,Bool.false_eq_true,if_false]
theorem Rm{k:Int}{rs:List Rec}{bk:Bk}{x:Ret}{r:Rec}(h:dP rs x.re=some r)(h1:di x.kn x.un k=true)(hc:(decide (dJ x.lo (r.da+1)>x.hi)||x.lv.any (gX bk r))=false):eV k rs bk x=some r:=by
 unfold eV;rw[h]
 have fz:(decide (dJ x.lo (r.da+1)>x.hi)||x.lv.any fun f=>(bH bk (r.so,f)).isSome||!r.lv.contains f)=false:=hc
 simp only[fz,h1,Bool.not_false,Bool.and_true,if_true]
theorem pB{l:Led}{k:Int}{i:Nat}(h:eV k (bM l k) (ay l k i).bk (aN l i)=none):ay l k (i+1)=ay l k i:=by
 show pC l k (ay l k i) i=_
 unfold pC
 rw[(qJ l k i).2,h]
theorem u3{l:Led}{k:Int}{i:Nat}{r:Rec}(h:eV k (bM l k) (ay l k i).bk (aN l i)=some r):ay l k (i+1)=
 { ay l k i with bk:=oW (ay l k i).bk r.so i (aN l i).lv,ts:=(ay l k i).ts++[(i:Int)],ds:=kR (ay l k i).ds i (dJ (aN l i).lo (r.da+1),(aN l i).hi) }:=by
 show pC l k (ay l k i) i=_
 have h':eV k (ay l k i).rs (ay l k i).bk (aN l i)=some r:=by rw[(qJ l k i).2];exact h
 unfold pC
 rw[h']
structure aah (l:Led) (k:Int) (i:Nat):Prop where
 bk:∀ q j,bH (ay l k i).bk q=some j->0<=j/\j<l.ts.length
 tn:(ay l k i).ts.length<=i
 ts:∀ j∈(ay l k i).ts,(0<=j/\j<l.ts.length)/\∃ r,dP (bM l k) (aN l j.toNat).re=some r
theorem ye(l:Led)(k:Int):∀ i,i<=l.ts.length->aah l k i
 | 0,_=>⟨fun q j (h:none=some j)=>(by cases h),Nat.le_refl 0,fun j (h:j∈([]:List Int))=>(by cases h)⟩
 |i+1,hi=>by
  have ih:=ye l k i (by omega)
  cases hn:eV k (bM l k) (ay l k i).bk (aN l i)with
  |none=>
   have e:=pB hn
   exact⟨by rw[e];exact ih.bk,by rw[e];exact Nat.le_succ_of_le ih.tn,by rw[e];exact ih.ts⟩
  |some r=>
   have e:=u3 hn
   refine⟨?_,?_,?_⟩
   ·rintro⟨s,f⟩ j h
    rw[e]at h
    simp only[zN]at h
    split at h
    ·cases h;omega
    ·exact ih.bk _ _ h
   ·rw[e]
    have :=ih.tn
    simp;omega
   ·intro j hj
    rw[e]at hj
    rcases List.mem_append.1 hj with hj | hj
    ·exact ih.ts j hj
    ·simp only[List.mem_singleton]at hj
     subst hj
     exact⟨by omega,r,by rw[Int.toNat_natCast];exact(He hn).1⟩
theorem Gx{rs:List Rec}{s:Int}{r:Rec}(h:dP rs s=some r):r∈rs/\r.so=s:=by
 unfold dP at h
 exact⟨List.mem_of_find?_eq_some h,by simpa using List.find?_some h⟩
theorem A'{l:Led}(h:bS l)(k:Int):∀ r∈bM l k,dO r=true:=fun r hr=>h.recs r ((List.mem_filter.1 hr).1)
theorem Gm{l:Led}(h:bS l)(k:Int):(bM l k).length<=60:=Nat.le_trans (List.length_filter_le _ _) h.rsn
theorem Gl{l:Led}(h:bS l)(k:Int):(bM l k).Nodup:=by
 refine List.Nodup.sublist List.filter_sublist ?_
 have hs:srt Rec.so l.rs:=xJ (kY.1 h.rs)
 rw[List.nodup_iff_pairwise_ne,List.pairwise_iff_getElem]
 intro i j hi hj ew e
 have :=hs i j hi hj ew
 rw[e]at this
 omega
theorem uY{l:Led}(h:bS l)(k:Int):la (aE l k)/\(aE l k).rs.Nodup:=by
 have hk:=ye l k l.ts.length (Nat.le_refl _)
 obtain⟨e1,e2⟩:=qJ l k l.ts.length
 refine⟨⟨?_,?_,?_,?_,?_,?_⟩,?_⟩
 ·show bS (ay l k l.ts.length).l;rw[e1];exact h
 ·show ∀ q i,bH (ay l k l.ts.length).bk q=some i->0<=i/\i<(ay l k l.ts.length).l.ts.length
  rw[e1];exact hk.bk
 ·show ∀ r∈(ay l k l.ts.length).rs,_;rw[e2];exact A' h k
 ·show (ay l k l.ts.length).rs.length<=60;rw[e2];exact Gm h k
 ·exact Nat.le_trans hk.tn h.tsn
 ·show ∀ i∈(ay l k l.ts.length).ts,0<=i/\i<(ay l k l.ts.length).l.ts.length
  rw[e1];exact fun i hi=>(hk.ts i hi).1
 ·show (ay l k l.ts.length).rs.Nodup;rw[e2];exact Gl h k
end Go.Eng
