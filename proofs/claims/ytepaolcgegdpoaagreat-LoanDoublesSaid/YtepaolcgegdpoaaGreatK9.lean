import Derived.Test.YtepaolcgegdpoaaGreatK8
/- Texts LW76 to LB. -/
set_option linter.all false
namespace Go.Eng
open Go Go.Proofs
set_option maxRecDepth 10000
noncomputable section
def qU(n:Nat)(p:Nat->Nat->Bool):Option (Nat×Nat):=(List.range n).findSome? fun i=>((List.range n).find? fun j=>decide (i<j)&&p i j).map fun j=>(i,j)
theorem GN{n:Nat}{p:Nat->Nat->Bool}{i j:Nat}(hi:i<n)(bD:i<j)(hj:j<n)(h:p i j=true)(hn:∀ m,i<m->m<j->p i m=false)(hb:∀ a,a<i->∀ m,a<m->m<n->p a m=false):qU n p=some (i,j):=by
 unfold qU
 rw[List.findSome?_eq_some_iff]
 refine⟨List.range i,i,(List.range' (i+1) (n-(i+1))),?_,?_,fun a ha=>?_⟩
 ·rw[List.range_eq_range',List.range_eq_range',<-List.range'_succ]
  have h1:=List.range'_append_1 (s:=0) (m:=i) (n:=n-(i+1)+1)
  rw[Nat.zero_add]at h1
  rw[h1]
  congr 1
  omega
 ·rw[(List.find?_eq_some_iff_getElem (b:=j)).2 ⟨by simp[bD,h],j,by simpa using hj,by simp,fun m hm=>by
   rw[List.getElem_range]
   by_cases vW:i<m
   ·simp[hn m vW hm]
   ·simp[vW]⟩]
  rfl
 ·rw[List.find?_eq_none.2]
  ·rfl
  ·intro m hm
   have gn:m<n:=by simpa using hm
   have oN:a<i:=by simpa using ha
   by_cases wg:a<m
   ·simp[hb a oN m wg gn]
   ·simp[wg]
theorem GO{n:Nat}{p:Nat->Nat->Bool}(hb:∀ a,a<n->∀ m,a<m->m<n->p a m=false):qU n p=none:=by
 unfold qU
 rw[List.findSome?_eq_none_iff]
 intro a ha
 rw[List.find?_eq_none.2]
 ·rfl
 ·intro m hm
  have gn:m<n:=by simpa using hm
  have oN:a<n:=by simpa using ha
  by_cases wg:a<m
  ·simp[hb a oN m wg gn]
  ·simp[wg]
def uv(x:RV)(a:Int):Bool:=!(fb x [a] 1).2
def o3(x:RV)(a b:Int):Bool:=!(fb x [a,b] 2).2
def pw(l:Led)(a:Int):Int:=(cU l a.toNat).so
def uA(x:RV)(s:List Int):List Int:=match s.find? (uv x)with
 |some a=>[pw x.l a]
 |none=>match qU s.length (fun i j=>o3 x (s.getD i 0) (s.getD j 0))with
  |some p=>[pw x.l (s.getD p.1 0),pw x.l (s.getD p.2 0)]
  |none=>[]
def nJ(l:Led)(k:Int):List Int:=uA (aI l k) (dt l k)
def mM(l:Led)(k:Int):Int:=if fI l k=0 then(if nJ l k=[]then 28 else 0)else fI l k
def sj(l:Led)(k:Int):List Int:=if fI l k=0 then nJ l k else[]
theorem M'{l:Led}{k:Int}(h:fI l k=0):bx l:=by
 unfold fI at h
 split at h
 ·rename_i hc;exact(uD hc).1
 ·rename_i hc;exact(hc h).elim
theorem WV{p:Int->Bool}{l:List Int}{i:Nat}(h:i<l.length)(hp:p l[i]=true)(hn:∀ j (hj:j<l.length),j<i->p l[j]=false):l.find? p=some l[i]:=
 List.find?_eq_some_iff_getElem.2 ⟨hp,i,h,rfl,fun j hj=>by rw[hn j (by omega) hj];rfl⟩
theorem WS{p:Int->Bool}{l:List Int}(hn:∀ j (hj:j<l.length),j<l.length->p l[j]=false):l.find? p=none:=by
 rw[List.find?_eq_none]
 intro x hx
 obtain⟨j,hj,rfl⟩:=List.getElem_of_mem hx
 rw[hn j hj hj];decide
def K76:List (Nat×Spec):=[(134,NC),(135,EC),(136,NB)]
theorem aad:KS K76:=tc FY.sound<|tc AB.sound<|tc FX.sound<|tn
attribute [go_sem] K76
@[go_sem] def P54:PSpec:=p2 iL iI (fun _ _=>True) (fun l k=>.tup [.sl ((sj l k).map vInt),vInt (mM l k)]) false
@[go_sem] def Zn:Spec:=P54.toSpec
set_option maxHeartbeats 8000000 in
theorem PI:aN Tryz.prog 54 P54:=by
 refine cX (rs:=[.tmp 4,.tmp 5]) Tryz.func54 Tryz.ntmps54 fun l k hp hw=>?_
 have hP:=dL
 simp only[iI,iL,dA]at hw |-
 have hΓ:=aad
 repeat refine sq ?_
 refine rx hΓ [1,2] [[2,0]] (fun K' hK=>by simp only[go_sem];exact ak) ?_
 repeat refine sq ?_
 refine rx hΓ [2,6,7] [[2,0],[6,0]] (fun K' hK=>by simp only[go_sem];exact ak) ?_
 repeat refine sq ?_
 refine rx hΓ [2,6,7,19] [[2,0],[6,0]] (fun K' hK=>by simp only[go_sem];exact ak) ?_
 repeat refine sq ?_
 refine av (fun hb=>?_) fun hb=>?_
 ·repeat refine sq ?_
  have hc:¬ fI l k=0:=by simpa using hb
  have e:mM l k=fI l k:=by unfold mM;rw[if_neg hc]
  have e2:sj l k=[]:=by unfold sj;rw[if_neg hc]
  repeat refine sq ?_
  refine rx hΓ [4,5] [] (fun K' hK=>by simp only[go_sem];exact ak) ?_
  refine au ?_
  simp only[go_sem]
  first | (rw[e,e2];done) | (rw[e,e2];rfl) | trace_state
 ·repeat refine sq ?_
  have hc:fI l k=0:=by simpa using hb
  have aa:=M' hc
  have e2:sj l k=nJ l k:=by unfold sj;rw[if_pos hc]
  have ev:mU l k=aI l k:=by unfold mU;rw[if_pos hc]
  rw[ev]
  have hv:=sX aa k
  have kM:=aa.ssn
  have rR:=sU (aI l k) l.ss.length
  have lE:=xc (aI l k) l.ss.length
  have hl:(dt l k).length<=maxLen:=by have:(dt l k).length<=l.ss.length:=lE;unfold maxLen;omega
  have CF:gg (aI l k) (aI l k).l.ss.length=dt l k:=rfl
  refine ax ?_
  repeat refine sq ?_
  refine rx hΓ [2,6,8] [[2,0],[6,0]] (fun K' hK=>by simp only[go_sem,CF];(repeat (refine⟨by first | exact ao | exact aa,?_⟩));exact ct) ?_
  generalize hS:dt l k=S at *
  have tS:∀ a∈S,0<=a/\a<(l.ss.length:Int):=by rw[<-hS];exact rR
  have eR:nJ l k=uA (aI l k) S:=by unfold nJ;rw[hS]
  repeat refine sq ?_
  refine rx hΓ [2,6,8,9] [[2,0],[6,0]] (fun K' hK=>by simp only[go_sem];exact ak) ?_
  repeat refine sq ?_
  refine aH ?_
  repeat refine sq ?_
  refine bB (fun s:Nat=>[(9,⟨true,.v (vInt s)⟩)]) (fun s=>[]) (fun s=>s<=S.length/\∀ j (hj:j<S.length),j<s->uv (aI l k) S[j]=false) (fun s=>S.length-s) 0 ?_ ?_ ?_ ?_
  ·exact⟨Nat.zero_le _,fun j _ h=>by omega⟩
  ·rfl
  ·rfl
  rintro i ⟨hi,hR⟩
  simp only[go_sem]
  repeat refine sq ?_
  refine rx hΓ [2,6,8,9,26] [[2,0],[6,0]] (fun K' hK=>by simp only[go_sem];exact ak) ?_
  repeat refine sq ?_
  refine av (fun hb=>?_) fun hb=>?_
  ·have ab:i<S.length:=by simpa using hb
   have an:(i:Int)<S.length:=by omega
   clear hb
   obtain⟨pZ,pY⟩:=tS S[i] (List.getElem_mem ab)
   have pX:S[i].toNat<l.ss.length:=by omega
   have vY:(l.ss.map encS).getD S[i].toNat default=encS (cU l S[i].toNat):=by rw[ae pX,nV pX]
   repeat refine sq ?_
   refine ax ?_
   repeat refine sq ?_
   refine aH ?_
   repeat refine sq ?_
   refine dx hΓ hP [[],[],[],[1,2],[1,2,3],[1,2,3,4],u6] [2,6,8,9,35] [[2,0],[6,0]] (by kernel_rfl) (fun K' hK=>by simp only[go_sem,ae ab,ah,ai,an];(repeat (refine⟨by first | exact ao | exact⟨hv,by simp,fun a ha=>by simp only[List.mem_singleton]at ha;subst ha;exact⟨pZ,pY⟩⟩,?_⟩));exact e8) ?_
   repeat refine sq ?_
   refine av (fun hb=>?_) fun hb=>?_
   ·repeat refine sq ?_
    have h1:uv (aI l k) S[i]=true:=hb
    have e3:nJ l k=[pw l S[i]]:=by rw[eR];unfold uA;rw[WV ab h1 hR];rfl
    have e:mM l k=0:=by unfold mM;rw[if_pos hc,if_neg (by rw[e3];simp)]
    rw[e3]at e2
    repeat refine sq ?_
    refine dx hΓ hP [[],[0],[],[],[2,3],[2,3,4],u6,u7,u8,u9,bO,cK] [4,5] [] (by kernel_rfl) (fun K' hK=>by simp only[go_sem,ae ab,ah,ai,an,vY,pZ,pY,List.length_map];exact eT) ?_
    refine au ?_
    simp only[go_sem]
    first | (rw[e,e2];done) | (rw[e,e2];rfl) | trace_state
   ·repeat refine sq ?_
    have h1:uv (aI l k) S[i]=false:=hb
    refine ax ?_
    refine bE ?_
    simp only[go_sem]
    refine kp [2,6,8,9] [[2,0],[6,0]] ?_
    repeat refine sq ?_
    refine aM hΓ fun K' hK=>?_
    simp only[go_sem,ae ab,ah,ai,an]
    repeat (refine⟨ao,?_⟩)
    refine hK _ ?_
    clear K' hK
    simp only[go_sem]
    refine⟨i+1,⟨ab,?_⟩,by(show S.length-(i+1)<S.length-i;omega),?_⟩
    ·intro j hj c6
     rcases Nat.lt_succ_iff_lt_or_eq.1 c6 with h5 | rfl
     ·exact hR j hj h5
     ·exact h1
    refine aY [2,6,8,9] [[2,0],[6,0]] ?_ ?_<;>simp only[go_sem,aT ab hl,aU]
  ·have be:i=S.length:=by
    have :¬ (i:Int)<S.length:=by simpa using hb
    omega
   clear hb
   subst be
   have f1:=WS hR
   repeat refine sq ?_
   refine bp ?_
   simp only[go_sem]
   refine kp [2,6,8] [[2,0],[6,0]] ?_
   repeat refine sq ?_
   refine rx hΓ [2,6,8,10] [[2,0],[6,0]] (fun K' hK=>by simp only[go_sem];exact ak) ?_
   repeat refine sq ?_
   refine aH ?_
   repeat refine sq ?_
   refine bB (fun s:Nat=>[(10,⟨true,.v (vInt s)⟩)]) (fun s=>[]) (fun s=>s<=S.length/\∀ a,a<s->∀ m,a<m->m<S.length->o3 (aI l k) (S.getD a 0) (S.getD m 0)=false) (fun s=>S.length-s) 0 ?_ ?_ ?_ ?_
   ·exact⟨Nat.zero_le _,fun a h=>by omega⟩
   ·rfl
   ·rfl
   rintro i1 ⟨hi,hR⟩
   simp only[go_sem]
   repeat refine sq ?_
   refine rx hΓ [2,6,8,10,49] [[2,0],[6,0]] (fun K' hK=>by simp only[go_sem];exact ak) ?_
   repeat refine sq ?_
   refine av (fun hb=>?_) fun hb=>?_
   ·have ay:i1<S.length:=by simpa using hb
    have aQ:(i1:Int)<S.length:=by omega
    clear hb
    obtain⟨pZ,pY⟩:=tS S[i1] (List.getElem_mem ay)
    have pX:S[i1].toNat<l.ss.length:=by omega
    have vY:(l.ss.map encS).getD S[i1].toNat default=encS (cU l S[i1].toNat):=by rw[ae pX,nV pX]
    have mr:IntKind.i64.wrap ((i1:Int)+1)=((i1+1:Nat):Int):=aT ay hl
    repeat refine sq ?_
    refine ax ?_
    repeat refine sq ?_
    refine aH ?_
    repeat refine sq ?_
    refine rx hΓ [2,6,8,10,11] [[2,0],[6,0]] (fun K' hK=>by simp only[go_sem,ae ay,ah,ai,aQ,mr];exact ak) ?_
    repeat refine sq ?_
    refine aH ?_
    repeat refine sq ?_
    refine bB (fun s:Nat=>[(11,⟨true,.v (vInt s)⟩)]) (fun s=>[]) (fun s=>s<=S.length/\i1<s/\∀ m,i1<m->m<s->o3 (aI l k) (S.getD i1 0) (S.getD m 0)=false) (fun s=>S.length-s) (i1+1) ?_ ?_ ?_ ?_
    ·exact⟨ay,Nat.lt_succ_self i1,fun m h1 h2=>by omega⟩
    ·rfl
    ·rfl
    rintro i2 ⟨hi,hR⟩
    simp only[go_sem]
    repeat refine sq ?_
    refine rx hΓ [2,6,8,10,11,57] [[2,0],[6,0]] (fun K' hK=>by simp only[go_sem,ae ay,ah,ai,aQ];exact ak) ?_
    repeat refine sq ?_
    refine av (fun hb=>?_) fun hb=>?_
    ·have br:i2<S.length:=by simpa using hb
     have dg:(i2:Int)<S.length:=by omega
     clear hb
     obtain⟨JY,JX⟩:=tS S[i2] (List.getElem_mem br)
     have JW:S[i2].toNat<l.ss.length:=by omega
     have CD:(l.ss.map encS).getD S[i2].toNat default=encS (cU l S[i2].toNat):=by rw[ae JW,nV JW]
     repeat refine sq ?_
     refine ax ?_
     repeat refine sq ?_
     refine aH ?_
     repeat refine sq ?_
     refine dx hΓ hP [[],[],[],[1,2],[1,2,3],[],[],[5,6],[5,6,7],[1,2,3,4,5,6,7,8],bO] [2,6,8,10,11,70] [[2,0],[6,0]] (by kernel_rfl) (fun K' hK=>by simp only[go_sem,ae ay,ah,ai,aQ,ae br,ah,ai,dg,ae ay,aQ,List.length_map];(repeat (refine⟨by first | exact ao | exact⟨hv,by simp,fun a ha=>by simp only[List.mem_cons,List.not_mem_nil,or_false]at ha;rcases ha with rfl | rfl; · exact⟨pZ,pY⟩; · exact⟨JY,JX⟩⟩,?_⟩));exact e8) ?_
     repeat refine sq ?_
     refine av (fun hb=>?_) fun hb=>?_
     ·repeat refine sq ?_
      have h2:o3 (aI l k) (S.getD i1 0) (S.getD i2 0)=true:=by rw[ck ay,ck br];exact hb
      have e3:nJ l k=[pw l S[i1],pw l S[i2]]:=by
       rw[eR];unfold uA;rw[f1];simp only[]
       rw[GN ay hR.1 br h2 hR.2 (by assumption)]
       show [pw l (S.getD i1 0),pw l (S.getD i2 0)]=_
       rw[ck ay,ck br]
      have e:mM l k=0:=by unfold mM;rw[if_pos hc,if_neg (by rw[e3];simp)]
      rw[e3]at e2
      repeat refine sq ?_
      refine dx hΓ hP [[],[0],[],[],[2,3],[2,3,4],u6,u7,u8,[],[9],[],[],[11,12],[11,12,13],[9,10,11,12,13,14],[9,10,11,12,13,14,15],[9,10,11,12,13,14,15,16],ie,lk,gz] [4,5] [] (by kernel_rfl) (fun K' hK=>by simp only[go_sem,ae ay,ah,ai,aQ,ae br,ah,ai,dg,ae ay,aQ,vY,pZ,pY,CD,JY,JX,List.length_map];exact eT) ?_
      refine au ?_
      simp only[go_sem]
      first | (rw[e,e2];done) | (rw[e,e2];rfl) | trace_state
     ·repeat refine sq ?_
      have h2:o3 (aI l k) (S.getD i1 0) (S.getD i2 0)=false:=by rw[ck ay,ck br];exact hb
      refine ax ?_
      refine bE ?_
      simp only[go_sem]
      refine kp [2,6,8,10,11] [[2,0],[6,0]] ?_
      repeat refine sq ?_
      refine aM hΓ fun K' hK=>?_
      simp only[go_sem,ae ay,ah,ai,aQ,ae br,ah,ai,dg]
      repeat (refine⟨ao,?_⟩)
      refine hK _ ?_
      clear K' hK
      simp only[go_sem]
      refine⟨i2+1,⟨br,?_⟩,by(show S.length-(i2+1)<S.length-i2;omega),?_⟩
      ·refine⟨by omega,fun m h3 h4=>?_⟩
       rcases Nat.lt_succ_iff_lt_or_eq.1 h4 with h5 | rfl
       ·exact hR.2 m h3 h5
       ·exact h2
      refine aY [2,6,8,10,11] [[2,0],[6,0]] ?_ ?_<;>simp only[go_sem,aT br hl,aU]
    ·have jB:i2=S.length:=by
      have :¬ (i2:Int)<S.length:=by simpa using hb
      omega
     clear hb
     subst jB
     repeat refine sq ?_
     refine bp ?_
     simp only[go_sem]
     refine kp [2,6,8,10] [[2,0],[6,0]] ?_
     repeat refine sq ?_
     refine aM hΓ fun K' hK=>?_
     simp only[go_sem,ae ay,ah,ai,aQ]
     repeat (refine⟨ao,?_⟩)
     refine hK _ ?_
     clear K' hK
     simp only[go_sem]
     refine⟨i1+1,⟨ay,?_⟩,by(show S.length-(i1+1)<S.length-i1;omega),?_⟩
     ·intro a ha m h3 h4
      rcases Nat.lt_succ_iff_lt_or_eq.1 ha with h5 | rfl
      ·exact(by assumption:∀ a,a<i1->∀ m,a<m->m<S.length->o3 (aI l k) (S.getD a 0) (S.getD m 0)=false) a h5 m h3 h4
      ·exact hR.2 m h3 (by omega)
     refine aY [2,6,8,10] [[2,0],[6,0]] ?_ ?_<;>simp only[go_sem,aT ay hl,aU]
   ·have er:i1=S.length:=by
     have :¬ (i1:Int)<S.length:=by simpa using hb
     omega
    clear hb
    subst er
    have e3:nJ l k=[]:=by rw[eR];unfold uA;rw[f1];simp only[];rw[GO hR]
    have e:mM l k=28:=by unfold mM;rw[if_pos hc,if_pos e3]
    rw[e3]at e2
    repeat refine sq ?_
    refine bp ?_
    simp only[go_sem]
    refine kp [] [] ?_
    repeat refine sq ?_
    refine rx hΓ [4,5] [] (fun K' hK=>by simp only[go_sem];exact ak) ?_
    refine au ?_
    simp only[go_sem]
    first | (rw[e,e2];done) | (rw[e,e2];rfl) | trace_state
end
noncomputable section
def nc(S:List Sig)(p:Sig->Sig->Bool)(i:Nat):Option (Sig×Sig):=((S.drop (i+1)).find? (p (S.getD i default))).map fun t=>(S.getD i default,t)
def s9(S:List Sig)(p:Sig->Sig->Bool):Option (Sig×Sig):=(List.range S.length).findSome? (nc S p)
theorem AU{S:List Sig}{p:Sig->Sig->Bool}{i:Nat}(h:i<S.length)(hn:∀ k (hk:k<(S.drop (i+1)).length),p S[i] (S.drop (i+1))[k]=false):nc S p i=none:=by
 unfold nc
 have e:(S.drop (i+1)).find? (p S[i])=none:=List.find?_eq_none.2 fun y hy=>by
  obtain⟨k,hk,rfl⟩:=List.getElem_of_mem hy
  rw[hn k hk];decide
 rw[ck h,e]
 rfl
theorem GR{S:List Sig}{p:Sig->Sig->Bool}{i k:Nat}(h:i<S.length)(hk:k<(S.drop (i+1)).length)(hn:∀ j (hj:j<(S.drop (i+1)).length),j<k->p S[i] (S.drop (i+1))[j]=false)(hb:p S[i] (S.drop (i+1))[k]=true):
 nc S p i=some (S[i],(S.drop (i+1))[k]):=by
 unfold nc
 have e:(S.drop (i+1)).find? (p S[i])=some (S.drop (i+1))[k]:=List.find?_eq_some_iff_getElem.2 ⟨hb,k,hk,rfl,fun j hj=>by rw[hn j (by omega) hj];rfl⟩
 rw[ck h,e]
 rfl
theorem GP{S:List Sig}{p:Sig->Sig->Bool}{i:Nat}{q:Sig×Sig}(h:i<S.length)(hn:∀ k,k<i->nc S p k=none)(hp:nc S p i=some q):s9 S p=some q:=by
 unfold s9
 rw[List.findSome?_eq_some_iff]
 refine⟨List.range i,i,(List.range' (i+1) (S.length-(i+1))),?_,hp,fun a ha=>hn a (List.mem_range.1 ha)⟩
 rw[List.range_eq_range',List.range_eq_range']
 have :S.length=i+(1+(S.length-(i+1))):=by omega
 conv=>lhs;rw[this]
 rw[<-List.range'_append_1,<-List.range'_append_1,Nat.zero_add]
 rfl
theorem GQ{S:List Sig}{p:Sig->Sig->Bool}(hn:∀ k,k<S.length->nc S p k=none):s9 S p=none:=by
 unfold s9
 rw[List.findSome?_eq_none_iff]
 exact fun a ha=>hn a (List.mem_range.1 ha)
def sv(l:Led)(k:Int)(s:Sig):Bool:=!ei (aF l k) [s]
def qx(l:Led)(k:Int)(s t:Sig):Bool:=!ei (aF l k) [s,t]
def mP(l:Led)(k:Int):List Int:=match (aX l k).find? (sv l k)with
 |some s=>[s.so]
 |none=>match s9 (aX l k) (qx l k)with
  |some q=>[q.1.so,q.2.so]
  |none=>[]
def ff(l:Led)(k:Int):Int:=if cI l [k]=0 then(if (dR (aF l k)).isSome=true then 25 else 0)else cI l [k]
def kY(l:Led)(k:Int):Int:=if ff l k=0 then(if mP l k=[]then 28 else 0)else ff l k
def o0(l:Led)(k:Int):List Int:=if ff l k=0 then mP l k else[]
theorem WU{p:Sig->Bool}{l:List Sig}{i:Nat}(h:i<l.length)(hp:p l[i]=true)(hn:∀ j (hj:j<l.length),j<i->p l[j]=false):l.find? p=some l[i]:=
 List.find?_eq_some_iff_getElem.2 ⟨hp,i,h,rfl,fun j hj=>by rw[hn j (by omega) hj];rfl⟩
theorem WR{p:Sig->Bool}{l:List Sig}(hn:∀ j (hj:j<l.length),j<l.length->p l[j]=false):l.find? p=none:=by
 rw[List.find?_eq_none]
 intro x hx
 obtain⟨j,hj,rfl⟩:=List.getElem_of_mem hx
 rw[hn j hj hj];decide
def K77:List (Nat×Spec):=[(75,m5),(121,S121),(122,S122),(123,NG)]
theorem aac:KS K77:=tc Ar.sound<|tc BM<|tc BL<|tc F1.sound<|tn
attribute [go_sem] K77
@[go_sem] def P43:PSpec:=p2 iL iI (fun _ _=>True) (fun l k=>.tup [.sl ((o0 l k).map vInt),vInt (kY l k)]) false
@[go_sem] def Zt:Spec:=P43.toSpec
set_option maxHeartbeats 8000000 in
theorem PO:aN Tryz.prog 43 P43:=by
 refine cX (rs:=[.tmp 4,.tmp 5]) Tryz.func43 Tryz.ntmps43 fun l k hp hw=>?_
 simp only[iI,iL,dA]at hw |-
 have hΓ:=aac
 repeat refine sq ?_
 refine rx hΓ [1,2] [[2,0]] (fun K' hK=>by simp only[go_sem];exact ak) ?_
 refine dp (gy 2 (.ref [2,0] 0) (by simp only[go_sem]) (by simp only[go_sem]) [1,2] [[2,0]] ?_ rfl) ?_
 ·simp only[go_sem]
 simp only[go_sem]
 repeat refine sq ?_
 refine rx hΓ [1,2,6] [[2,0]] (fun K' hK=>by simp only[go_sem];exact ak) ?_
 repeat refine sq ?_
 refine rx hΓ [1,2,6,21] [[2,0]] (fun K' hK=>by simp only[go_sem];exact ak) ?_
 repeat refine sq ?_
 refine av (fun hb=>?_) fun hb=>?_
 ·repeat refine sq ?_
  have hc:¬ cI l [k]=0:=by simpa using hb
  have h1:ff l k=cI l [k]:=by unfold ff;rw[if_neg hc]
  have e:kY l k=cI l [k]:=by unfold kY;rw[h1,if_neg hc]
  have e2:o0 l k=[]:=by unfold o0;rw[h1,if_neg hc]
  repeat refine sq ?_
  refine rx hΓ [4,5] [] (fun K' hK=>by simp only[go_sem];exact ak) ?_
  refine au ?_
  simp only[go_sem]
  first | (rw[e,e2];done) | (rw[e,e2];rfl) | trace_state
 ·repeat refine sq ?_
  have hc:cI l [k]=0:=by simpa using hb
  obtain⟨aa,_⟩:=qs hc
  refine ax ?_
  rcases bq:dR (aF l k)with _ | p
  ·have h1:ff l k=0:=by unfold ff;rw[if_pos hc,bq];rfl
   have e2:o0 l k=mP l k:=by unfold o0;rw[if_pos h1]
   obtain⟨hv,cq⟩:=oe aa k
   obtain⟨kN,lA⟩:=An hv.ok k
   rw[oh]at kN lA
   have kM:=aa.ssn
   have hl:(aX l k).length<=maxLen:=by unfold maxLen;omega
   repeat refine sq ?_
   refine rx hΓ [1,2,7,8] [[2,0],[26,0,11,0,25,0],[23,0,11,0,25,0],[24,0,11,0,25,0]] (fun K' hK=>by simp only[go_sem,bq,cD,cC];(repeat (refine⟨by first | exact ao | exact aa,?_⟩));exact ct) ?_
   repeat refine sq ?_
   refine rx hΓ [1,2,7,8,29] [[2,0],[26,0,11,0,25,0],[23,0,11,0,25,0],[24,0,11,0,25,0]] (fun K' hK=>by simp only[go_sem,bq,cD,cC];exact ak) ?_
   repeat refine sq ?_
   refine av (fun hb=>?_) fun hb=>?_
   ·cases hb
   ·repeat refine sq ?_
    refine ax ?_
    repeat refine sq ?_
    refine rx hΓ [1,2,9] [[2,0]] (fun K' hK=>by simp only[go_sem,bq,cD,cC,oh];(repeat (refine⟨by first | exact ao | rw[oh];exact kM,?_⟩));exact ct) ?_
    repeat refine sq ?_
    refine rx hΓ [1,2,9,34,35,36] [[2,0]] (fun K' hK=>by simp only[go_sem,bq,cD,cC];exact ak) ?_
    repeat refine sq ?_
    refine aH ?_
    repeat refine sq ?_
    refine bB (fun s:Nat=>[(36,⟨true,.v (vInt s)⟩)]) (fun s=>[]) (fun s=>s<=(aX l k).length/\∀ j (hj:j<(aX l k).length),j<s->sv l k (aX l k)[j]=false) (fun s=>(aX l k).length-s) 0 ?_ ?_ ?_ ?_
    ·exact⟨Nat.zero_le _,fun j _ h=>by omega⟩
    ·rfl
    ·rfl
    rintro i ⟨hi,hR⟩
    simp only[go_sem]
    repeat refine sq ?_
    refine rx hΓ [1,2,9,34,35,36,37] [[2,0]] (fun K' hK=>by simp only[go_sem,bq,cD,cC];exact ak) ?_
    repeat refine sq ?_
    refine av (fun hb=>?_) fun hb=>?_
    ·have ab:i<(aX l k).length:=by simpa using hb
     have an:(i:Int)<(aX l k).length:=by omega
     clear hb
     have hd:=lA (aX l k)[i] (List.getElem_mem ab)
     repeat refine sq ?_
     refine ax ?_
     repeat refine sq ?_
     refine aH ?_
     repeat refine sq ?_
     refine rx hΓ [1,2,9,11,34,35,36] [[2,0],[11,0]] (fun K' hK=>by simp only[go_sem,bq,cD,cC,ae ab,ah,ai,an];exact ak) ?_
     repeat refine sq ?_
     refine rx hΓ [1,2,9,11,34,35,36,44] [[2,0],[11,0]] (fun K' hK=>by simp only[go_sem,bq,cD,cC,ae ab,ah,ai,an];(repeat (refine⟨by first | exact ao | exact⟨⟨aa,by simp⟩,fun s hs=>by simp only[List.mem_singleton]at hs;subst hs;exact hd⟩,?_⟩));exact ct) ?_
     repeat refine sq ?_
     refine av (fun hb=>?_) fun hb=>?_
     ·repeat refine sq ?_
      have h2:sv l k (aX l k)[i]=true:=hb
      have e3:mP l k=[(aX l k)[i].so]:=by unfold mP;rw[WU ab h2 hR]
      have e:kY l k=0:=by unfold kY;rw[if_pos h1,if_neg (by rw[e3];simp)]
      rw[e3]at e2
      repeat refine sq ?_
      refine rx hΓ [4,5] [] (fun K' hK=>by simp only[go_sem,bq,cD,cC,ae ab,ah,ai,an];exact ak) ?_
      refine au ?_
      simp only[go_sem]
      first | (rw[e,e2];done) | (rw[e,e2];rfl) | trace_state
     ·repeat refine sq ?_
      have h2:sv l k (aX l k)[i]=false:=hb
      refine ax ?_
      refine bE ?_
      simp only[go_sem]
      refine kp [1,2,9,34,35,36] [[2,0]] ?_
      repeat refine sq ?_
      refine aM hΓ fun K' hK=>?_
      simp only[go_sem,bq,cD,cC,ae ab,ah,ai,an]
      repeat (refine⟨ao,?_⟩)
      refine hK _ ?_
      clear K' hK
      simp only[go_sem]
      refine⟨i+1,⟨ab,?_⟩,by(show (aX l k).length-(i+1)<(aX l k).length-i;omega),?_⟩
      ·intro j hj c6
       rcases Nat.lt_succ_iff_lt_or_eq.1 c6 with h5 | rfl
       ·exact hR j hj h5
       ·exact h2
      refine aY [1,2,9,34,35,36] [[2,0]] ?_ ?_<;>simp only[go_sem,aT ab hl,aU]
    ·have be:i=(aX l k).length:=by
      have :¬ (i:Int)<(aX l k).length:=by simpa using hb
      omega
     clear hb
     subst be
     have f1:=WR hR
     repeat refine sq ?_
     refine bp ?_
     simp only[go_sem]
     refine kp [1,2,9] [[2,0]] ?_
     repeat refine sq ?_
     refine rx hΓ [1,2,9,49,50,51] [[2,0]] (fun K' hK=>by simp only[go_sem,bq,cD,cC];exact ak) ?_
     repeat refine sq ?_
     refine aH ?_
     repeat refine sq ?_
     refine bB (fun s:Nat=>[(51,⟨true,.v (vInt s)⟩)]) (fun s=>[]) (fun s=>s<=(aX l k).length/\∀ a,a<s->nc (aX l k) (qx l k) a=none) (fun s=>(aX l k).length-s) 0 ?_ ?_ ?_ ?_
     ·exact⟨Nat.zero_le _,fun a h=>by omega⟩
     ·rfl
     ·rfl
     rintro i1 ⟨hi,hR⟩
     simp only[go_sem]
     repeat refine sq ?_
     refine rx hΓ [1,2,9,49,50,51,52] [[2,0]] (fun K' hK=>by simp only[go_sem,bq,cD,cC];exact ak) ?_
     repeat refine sq ?_
     refine av (fun hb=>?_) fun hb=>?_
     ·have ay:i1<(aX l k).length:=by simpa using hb
      have aQ:(i1:Int)<(aX l k).length:=by omega
      clear hb
      have hd:=lA (aX l k)[i1] (List.getElem_mem ay)
      have mr:IntKind.i64.wrap ((i1:Int)+1)=((i1+1:Nat):Int):=aT ay hl
      have rT:(aX l k).length-(i1+1)<=maxLen:=by omega
      have rz:List.take ((aX l k).length-(i1+1)) (((aX l k).drop (i1+1)).map encS)=((aX l k).drop (i1+1)).map encS:=List.take_of_length_le (by simp)
      repeat refine sq ?_
      refine ax ?_
      repeat refine sq ?_
      refine aH ?_
      repeat refine sq ?_
      refine rx hΓ [1,2,9,12,13,49,50,51] [[2,0],[13,0]] (fun K' hK=>by simp only[go_sem,bq,cD,cC,ae ay,ah,ai,aQ];exact ak) ?_
      repeat refine sq ?_
      refine rx hΓ [1,2,9,13,49,50,51,59,60,61] [[2,0],[13,0]] (fun K' hK=>by simp only[go_sem,bq,cD,cC,ae ay,ah,ai,aQ,mr,<-List.map_drop,rz];(repeat (refine⟨by first | exact ao | exact⟨by omega,Int.le_refl _,fun y hy=>(A1 _ y hy).1⟩,?_⟩));exact ct) ?_
      repeat refine sq ?_
      refine aH ?_
      repeat refine sq ?_
      refine bB (fun s:Nat=>[(61,⟨true,.v (vInt s)⟩)]) (fun s=>[]) (fun s=>s<=((aX l k).drop (i1+1)).length/\∀ j (hj:j<((aX l k).drop (i1+1)).length),j<s->qx l k (aX l k)[i1] ((aX l k).drop (i1+1))[j]=false) (fun s=>((aX l k).drop (i1+1)).length-s) 0 ?_ ?_ ?_ ?_
      ·exact⟨Nat.zero_le _,fun j _ h=>by omega⟩
      ·rfl
      ·rfl
      rintro i2 ⟨hi,hR⟩
      simp only[go_sem]
      repeat refine sq ?_
      refine rx hΓ [1,2,9,13,49,50,51,59,60,61,62] [[2,0],[13,0]] (fun K' hK=>by simp only[go_sem,bq,cD,cC,ae ay,ah,ai,aQ];exact ak) ?_
      repeat refine sq ?_
      refine av (fun hb=>?_) fun hb=>?_
      ·have br:i2<((aX l k).drop (i1+1)).length:=by simpa using hb
       have dg:(i2:Int)<((aX l k).drop (i1+1)).length:=by omega
       clear hb
       have kQ:=lA ((aX l k).drop (i1+1))[i2] (List.mem_of_mem_drop (List.getElem_mem br))
       repeat refine sq ?_
       refine ax ?_
       repeat refine sq ?_
       refine aH ?_
       repeat refine sq ?_
       refine rx hΓ [1,2,9,13,15,49,50,51,59,60,61] [[2,0],[13,0],[15,0]] (fun K' hK=>by simp only[go_sem,bq,cD,cC,ae ay,ah,ai,aQ,ae br,ah,ai,dg];exact ak) ?_
       repeat refine sq ?_
       refine rx hΓ [1,2,9,13,15,49,50,51,59,60,61,70] [[2,0],[13,0],[15,0]] (fun K' hK=>by simp only[go_sem,bq,cD,cC,ae ay,ah,ai,aQ,ae br,ah,ai,dg];(repeat (refine⟨by first | exact ao | exact⟨⟨aa,by simp⟩,fun s hs=>by simp only[List.mem_cons,List.not_mem_nil,or_false]at hs;rcases hs with rfl | rfl; · exact hd; · exact kQ⟩,?_⟩));exact ct) ?_
       repeat refine sq ?_
       refine av (fun hb=>?_) fun hb=>?_
       ·repeat refine sq ?_
        have h2:qx l k (aX l k)[i1] ((aX l k).drop (i1+1))[i2]=true:=hb
        have e3:mP l k=[(aX l k)[i1].so,((aX l k).drop (i1+1))[i2].so]:=by
         unfold mP;rw[f1];simp only[]
         rw[GP ay (by assumption) (GR ay br hR h2)]
        have e:kY l k=0:=by unfold kY;rw[if_pos h1,if_neg (by rw[e3];simp)]
        rw[e3]at e2
        repeat refine sq ?_
        refine rx hΓ [4,5] [] (fun K' hK=>by simp only[go_sem,bq,cD,cC,ae ay,ah,ai,aQ,ae br,ah,ai,dg];exact ak) ?_
        refine au ?_
        simp only[go_sem]
        first | (rw[e,e2];done) | (rw[e,e2];rfl) | trace_state
       ·repeat refine sq ?_
        have h2:qx l k (aX l k)[i1] ((aX l k).drop (i1+1))[i2]=false:=hb
        refine ax ?_
        refine bE ?_
        simp only[go_sem]
        refine kp [1,2,9,13,49,50,51,59,60,61] [[2,0],[13,0]] ?_
        repeat refine sq ?_
        refine aM hΓ fun K' hK=>?_
        simp only[go_sem,bq,cD,cC,ae ay,ah,ai,aQ,ae br,ah,ai,dg]
        repeat (refine⟨ao,?_⟩)
        refine hK _ ?_
        clear K' hK
        simp only[go_sem]
        refine⟨i2+1,⟨br,?_⟩,by(show ((aX l k).drop (i1+1)).length-(i2+1)<((aX l k).drop (i1+1)).length-i2;omega),?_⟩
        ·intro j hj c6
         rcases Nat.lt_succ_iff_lt_or_eq.1 c6 with h5 | rfl
         ·exact hR j hj h5
         ·exact h2
        refine aY [1,2,9,13,49,50,51,59,60,61] [[2,0],[13,0]] ?_ ?_<;>simp only[go_sem,aT br (by rw[List.length_drop];omega:((aX l k).drop (i1+1)).length<=maxLen),aU]
      ·have jB:i2=((aX l k).drop (i1+1)).length:=by
        have :¬ (i2:Int)<((aX l k).drop (i1+1)).length:=by simpa using hb
        omega
       clear hb
       subst jB
       repeat refine sq ?_
       refine bp ?_
       simp only[go_sem]
       refine kp [1,2,9,49,50,51] [[2,0]] ?_
       repeat refine sq ?_
       refine aM hΓ fun K' hK=>?_
       simp only[go_sem,bq,cD,cC,ae ay,ah,ai,aQ]
       repeat (refine⟨ao,?_⟩)
       refine hK _ ?_
       clear K' hK
       simp only[go_sem]
       refine⟨i1+1,⟨ay,?_⟩,by(show (aX l k).length-(i1+1)<(aX l k).length-i1;omega),?_⟩
       ·intro a ha
        rcases Nat.lt_succ_iff_lt_or_eq.1 ha with h5 | rfl
        ·exact(by assumption:∀ a,a<i1->nc (aX l k) (qx l k) a=none) a h5
        ·exact AU ay fun j hj=>hR j hj hj
       refine aY [1,2,9,49,50,51] [[2,0]] ?_ ?_<;>simp only[go_sem,aT ay hl,aU]
     ·have er:i1=(aX l k).length:=by
       have :¬ (i1:Int)<(aX l k).length:=by simpa using hb
       omega
      clear hb
      subst er
      have e3:mP l k=[]:=by unfold mP;rw[f1];simp only[];rw[GQ hR]
      have e:kY l k=28:=by unfold kY;rw[if_pos h1,if_pos e3]
      rw[e3]at e2
      repeat refine sq ?_
      refine bp ?_
      simp only[go_sem]
      refine kp [] [] ?_
      repeat refine sq ?_
      refine rx hΓ [4,5] [] (fun K' hK=>by simp only[go_sem,bq,cD,cC];exact ak) ?_
      refine au ?_
      simp only[go_sem]
      first | (rw[e,e2];done) | (rw[e,e2];rfl) | trace_state
  ·have h1:ff l k=25:=by unfold ff;rw[if_pos hc,bq];rfl
   have e:kY l k=25:=by unfold kY;rw[h1];rfl
   have e2:o0 l k=[]:=by unfold o0;rw[h1];rfl
   repeat refine sq ?_
   refine rx hΓ [1,2,7,8] [[2,0],[26,0,11,0,25,0],[23,0,11,0,25,0],[24,0,11,0,25,0]] (fun K' hK=>by simp only[go_sem,bq,nN,nM];(repeat (refine⟨by first | exact ao | exact aa,?_⟩));exact ct) ?_
   repeat refine sq ?_
   refine rx hΓ [1,2,7,8,29] [[2,0],[26,0,11,0,25,0],[23,0,11,0,25,0],[24,0,11,0,25,0]] (fun K' hK=>by simp only[go_sem,bq,nN,nM];exact ak) ?_
   repeat refine sq ?_
   refine av (fun hb=>?_) fun hb=>?_
   ·repeat refine sq ?_
    refine rx hΓ [4,5] [] (fun K' hK=>by simp only[go_sem,bq,nN,nM];exact ak) ?_
    refine au ?_
    simp only[go_sem]
    first | (rw[e,e2];done) | (rw[e,e2];rfl) | trace_state
   ·cases hb
end
noncomputable section
def jd(l:Led)(k:Int)(az:List Int):Bool:=match az with
 |[a,b]=>!decide (a>=b)&&(!decide (b8 l a k<0)&&(!decide (b8 l b k<0)&&et (aI l k) (b8 l a k).toNat (b8 l b k).toNat))
 |_=>false
theorem Yf{l:Led}{k:Int}{az:List Int}(h:¬ ∃ a b,az=[a,b]):jd l k az=false:=by
 unfold jd
 split
 ·rename_i a b
  exact(h ⟨a,b,rfl⟩).elim
 ·rfl
def wA(l:Led)(k:Int)(az:List Int):Int:=if dB l [k]=0 then bH (jd l k az) 28 else dB l [k]
def K78:List (Nat×Spec):=[(98,m4),(70,zO),(73,zN),(137,NA)]
theorem aab:KS K78:=tc Aq.sound<|tc Au.sound<|tc As.sound<|tc FW.sound<|tn
attribute [go_sem] K78
@[go_sem] def P56:PSpec:=p3 iL iI cH (fun _ _ _=>True) (fun l k az=>vInt (wA l k az)) true
@[go_sem] def Zl:Spec:=P56.toSpec
set_option maxHeartbeats 8000000 in
theorem PG:aN Tryz.prog 56 P56:=by
 refine gO (rs:=[.tmp 6]) Tryz.func56 Tryz.ntmps56 fun l k az hp hw=>?_
 have hP:=dL
 simp only[iI,cH,iL,dA]at hw |-
 have hΓ:=aab
 repeat refine sq ?_
 refine rx hΓ [1,2,3] [[3,0]] (fun K' hK=>by simp only[go_sem];exact ak) ?_
 repeat refine sq ?_
 refine rx hΓ [1,2,3,7] [[3,0]] (fun K' hK=>by simp only[go_sem];exact ak) ?_
 repeat refine sq ?_
 refine rx hΓ [1,2,3,7,15] [[3,0]] (fun K' hK=>by simp only[go_sem];exact ak) ?_
 repeat refine sq ?_
 refine av (fun hb=>?_) fun hb=>?_
 ·repeat refine sq ?_
  have hc:¬ dB l [k]=0:=by simpa using hb
  unfold wA;rw[if_neg hc]
  repeat refine sq ?_
  refine rx hΓ [6] [] (fun K' hK=>by simp only[go_sem];exact ak) ?_
  refine au ?_
  simp only[go_sem]
  all_goals first | (rfl;done) | skip
  all_goals simp only[jd,bH]
  all_goals first | rfl | (simp_all;done) | grind | trace_state
 ·repeat refine sq ?_
  have hc:dB l [k]=0:=by simpa using hb
  unfold wA;rw[if_pos hc]
  obtain⟨aa,_⟩:=uD hc
  have fm:=aa.rsn
  have hv:=sX aa k
  refine ax ?_
  by_cases fD:∃ a b,az=[a,b]
  ·obtain⟨a,b,rfl⟩:=fD
   repeat refine sq ?_
   refine dx hΓ hP [[],[0],[0,1],[0,1,2],u4,u5,u6,u4,[0,1,2,3,7],[0,1,2,3,7,8],bO,cK] [1,2,3,28] [[3,0]] (by kernel_rfl) (fun K' hK=>by simp only[go_sem,Int.cast_ofNat_Int,Int.reduceBNe,Int.reduceBEq,Int.reduceToNat,List.getD_cons_succ,List.getD_cons_zero,Bool.not_false,Bool.not_true,bne,Int.reduceLT];exact eT) ?_
   repeat refine sq ?_
   refine av (fun hb=>?_) fun hb=>?_
   ·repeat refine sq ?_
    refine rx hΓ [6] [] (fun K' hK=>by simp only[go_sem,Int.cast_ofNat_Int,Int.reduceBNe,Int.reduceBEq,Int.reduceToNat,List.getD_cons_succ,List.getD_cons_zero,Bool.not_false,Bool.not_true,bne,Int.reduceLT];exact ak) ?_
    refine au ?_
    simp only[go_sem]
    all_goals first | (rfl;done) | skip
    all_goals simp only[jd,bH]
    all_goals first | rfl | (simp_all;done) | grind | trace_state
   ·repeat refine sq ?_
    refine ax ?_
    rcases nZ l a k with b7 | ⟨q,hq,b7,-⟩
    ·repeat refine sq ?_
     refine dx hΓ hP [[],[],[1],[1,2],[],u5,u6] [1,2,3,8] [[3,0]] (by kernel_rfl) (fun K' hK=>by simp only[go_sem,Int.cast_ofNat_Int,Int.reduceBNe,Int.reduceBEq,Int.reduceToNat,List.getD_cons_succ,List.getD_cons_zero,Bool.not_false,Bool.not_true,bne,Int.reduceLT,b7,fw];(repeat (refine⟨by first | exact ao | exact fm,?_⟩));exact e8) ?_
     rcases nZ l b k with bX | ⟨u,hu,bX,-⟩
     ·repeat refine sq ?_
      refine dx hΓ hP [[],[],[1],[1,2],[],u5,u6] [1,3,8,9] [[3,0]] (by kernel_rfl) (fun K' hK=>by simp only[go_sem,Int.cast_ofNat_Int,Int.reduceBNe,Int.reduceBEq,Int.reduceToNat,List.getD_cons_succ,List.getD_cons_zero,Bool.not_false,Bool.not_true,bne,Int.reduceLT,b7,fw,bX,fw];(repeat (refine⟨by first | exact ao | exact fm,?_⟩));exact e8) ?_
      repeat refine sq ?_
      refine rx hΓ [55] [] (fun K' hK=>by simp only[go_sem,Int.cast_ofNat_Int,Int.reduceBNe,Int.reduceBEq,Int.reduceToNat,List.getD_cons_succ,List.getD_cons_zero,Bool.not_false,Bool.not_true,bne,Int.reduceLT,b7,fw,bX,fw,ah];(repeat (refine⟨by first | exact ao | exact aa | exact⟨hv,ai _,cp,ai _,nw⟩,?_⟩));exact ct) ?_
      repeat refine sq ?_
      refine av (fun hb=>?_) fun hb=>?_
      ·repeat refine sq ?_
       refine rx hΓ [6] [] (fun K' hK=>by simp only[go_sem,Int.cast_ofNat_Int,Int.reduceBNe,Int.reduceBEq,Int.reduceToNat,List.getD_cons_succ,List.getD_cons_zero,Bool.not_false,Bool.not_true,bne,Int.reduceLT,b7,fw,bX,fw];exact ak) ?_
       refine au ?_
       simp only[go_sem]
       all_goals first | (rfl;done) | skip
       all_goals simp only[jd,bH]
       all_goals first | rfl | (simp_all;done) | grind | trace_state
      ·repeat refine sq ?_
       refine ax ?_
       repeat refine sq ?_
       refine rx hΓ [6] [] (fun K' hK=>by simp only[go_sem,Int.cast_ofNat_Int,Int.reduceBNe,Int.reduceBEq,Int.reduceToNat,List.getD_cons_succ,List.getD_cons_zero,Bool.not_false,Bool.not_true,bne,Int.reduceLT,b7,fw,bX,fw];exact ak) ?_
       refine au ?_
       simp only[go_sem]
       all_goals first | (rfl;done) | skip
       all_goals simp only[jd,bH]
       all_goals first | rfl | (simp_all;done) | grind | trace_state
     ·have jv:decide ((u:Int)<0)=false:=by simp
      have nw:(u:Int)<(aI l k).l.rs.length:=by show (u:Int)<l.rs.length;omega
      repeat refine sq ?_
      refine dx hΓ hP [[],[],[1],[1,2],[],u5,u6] [1,3,8,9] [[3,0]] (by kernel_rfl) (fun K' hK=>by simp only[go_sem,Int.cast_ofNat_Int,Int.reduceBNe,Int.reduceBEq,Int.reduceToNat,List.getD_cons_succ,List.getD_cons_zero,Bool.not_false,Bool.not_true,bne,Int.reduceLT,b7,fw,bX,jv];(repeat (refine⟨by first | exact ao | exact fm,?_⟩));exact e8) ?_
      repeat refine sq ?_
      refine rx hΓ [55] [] (fun K' hK=>by simp only[go_sem,Int.cast_ofNat_Int,Int.reduceBNe,Int.reduceBEq,Int.reduceToNat,List.getD_cons_succ,List.getD_cons_zero,Bool.not_false,Bool.not_true,bne,Int.reduceLT,b7,fw,bX,jv,ah];(repeat (refine⟨by first | exact ao | exact aa | exact⟨hv,ai _,cp,ai _,nw⟩,?_⟩));exact ct) ?_
      repeat refine sq ?_
      refine av (fun hb=>?_) fun hb=>?_
      ·repeat refine sq ?_
       refine rx hΓ [6] [] (fun K' hK=>by simp only[go_sem,Int.cast_ofNat_Int,Int.reduceBNe,Int.reduceBEq,Int.reduceToNat,List.getD_cons_succ,List.getD_cons_zero,Bool.not_false,Bool.not_true,bne,Int.reduceLT,b7,fw,bX,jv];exact ak) ?_
       refine au ?_
       simp only[go_sem]
       all_goals first | (rfl;done) | skip
       all_goals simp only[jd,bH]
       all_goals first | rfl | (simp_all;done) | grind | trace_state
      ·repeat refine sq ?_
       refine ax ?_
       repeat refine sq ?_
       refine rx hΓ [6] [] (fun K' hK=>by simp only[go_sem,Int.cast_ofNat_Int,Int.reduceBNe,Int.reduceBEq,Int.reduceToNat,List.getD_cons_succ,List.getD_cons_zero,Bool.not_false,Bool.not_true,bne,Int.reduceLT,b7,fw,bX,jv];exact ak) ?_
       refine au ?_
       simp only[go_sem]
       all_goals first | (rfl;done) | skip
       all_goals simp only[jd,bH]
       all_goals first | rfl | (simp_all;done) | grind | trace_state
    ·have kO:decide ((q:Int)<0)=false:=by simp
     have cp:(q:Int)<(aI l k).l.rs.length:=by show (q:Int)<l.rs.length;omega
     repeat refine sq ?_
     refine dx hΓ hP [[],[],[1],[1,2],[],u5,u6] [1,2,3,8] [[3,0]] (by kernel_rfl) (fun K' hK=>by simp only[go_sem,Int.cast_ofNat_Int,Int.reduceBNe,Int.reduceBEq,Int.reduceToNat,List.getD_cons_succ,List.getD_cons_zero,Bool.not_false,Bool.not_true,bne,Int.reduceLT,b7,kO];(repeat (refine⟨by first | exact ao | exact fm,?_⟩));exact e8) ?_
     rcases nZ l b k with bX | ⟨u,hu,bX,-⟩
     ·repeat refine sq ?_
      refine dx hΓ hP [[],[],[1],[1,2],[],u5,u6] [1,3,8,9] [[3,0]] (by kernel_rfl) (fun K' hK=>by simp only[go_sem,Int.cast_ofNat_Int,Int.reduceBNe,Int.reduceBEq,Int.reduceToNat,List.getD_cons_succ,List.getD_cons_zero,Bool.not_false,Bool.not_true,bne,Int.reduceLT,b7,kO,bX,fw];(repeat (refine⟨by first | exact ao | exact fm,?_⟩));exact e8) ?_
      repeat refine sq ?_
      refine rx hΓ [55] [] (fun K' hK=>by simp only[go_sem,Int.cast_ofNat_Int,Int.reduceBNe,Int.reduceBEq,Int.reduceToNat,List.getD_cons_succ,List.getD_cons_zero,Bool.not_false,Bool.not_true,bne,Int.reduceLT,b7,kO,bX,fw,ah];(repeat (refine⟨by first | exact ao | exact aa | exact⟨hv,ai _,cp,ai _,nw⟩,?_⟩));exact ct) ?_
      repeat refine sq ?_
      refine av (fun hb=>?_) fun hb=>?_
      ·repeat refine sq ?_
       refine rx hΓ [6] [] (fun K' hK=>by simp only[go_sem,Int.cast_ofNat_Int,Int.reduceBNe,Int.reduceBEq,Int.reduceToNat,List.getD_cons_succ,List.getD_cons_zero,Bool.not_false,Bool.not_true,bne,Int.reduceLT,b7,kO,bX,fw];exact ak) ?_
       refine au ?_
       simp only[go_sem]
       all_goals first | (rfl;done) | skip
       all_goals simp only[jd,bH]
       all_goals first | rfl | (simp_all;done) | grind | trace_state
      ·repeat refine sq ?_
       refine ax ?_
       repeat refine sq ?_
       refine rx hΓ [6] [] (fun K' hK=>by simp only[go_sem,Int.cast_ofNat_Int,Int.reduceBNe,Int.reduceBEq,Int.reduceToNat,List.getD_cons_succ,List.getD_cons_zero,Bool.not_false,Bool.not_true,bne,Int.reduceLT,b7,kO,bX,fw];exact ak) ?_
       refine au ?_
       simp only[go_sem]
       all_goals first | (rfl;done) | skip
       all_goals simp only[jd,bH]
       all_goals first | rfl | (simp_all;done) | grind | trace_state
     ·have jv:decide ((u:Int)<0)=false:=by simp
      have nw:(u:Int)<(aI l k).l.rs.length:=by show (u:Int)<l.rs.length;omega
      repeat refine sq ?_
      refine dx hΓ hP [[],[],[1],[1,2],[],u5,u6] [1,3,8,9] [[3,0]] (by kernel_rfl) (fun K' hK=>by simp only[go_sem,Int.cast_ofNat_Int,Int.reduceBNe,Int.reduceBEq,Int.reduceToNat,List.getD_cons_succ,List.getD_cons_zero,Bool.not_false,Bool.not_true,bne,Int.reduceLT,b7,kO,bX,jv];(repeat (refine⟨by first | exact ao | exact fm,?_⟩));exact e8) ?_
      repeat refine sq ?_
      refine rx hΓ [55] [] (fun K' hK=>by simp only[go_sem,Int.cast_ofNat_Int,Int.reduceBNe,Int.reduceBEq,Int.reduceToNat,List.getD_cons_succ,List.getD_cons_zero,Bool.not_false,Bool.not_true,bne,Int.reduceLT,b7,kO,bX,jv,ah];(repeat (refine⟨by first | exact ao | exact aa | exact⟨hv,ai _,cp,ai _,nw⟩,?_⟩));exact ct) ?_
      repeat refine sq ?_
      refine av (fun hb=>?_) fun hb=>?_
      ·repeat refine sq ?_
       refine rx hΓ [6] [] (fun K' hK=>by simp only[go_sem,Int.cast_ofNat_Int,Int.reduceBNe,Int.reduceBEq,Int.reduceToNat,List.getD_cons_succ,List.getD_cons_zero,Bool.not_false,Bool.not_true,bne,Int.reduceLT,b7,kO,bX,jv];exact ak) ?_
       refine au ?_
       simp only[go_sem]
       all_goals first | (rfl;done) | skip
       all_goals simp only[jd,bH]
       all_goals first | rfl | (simp_all;done) | grind | trace_state
      ·repeat refine sq ?_
       refine ax ?_
       repeat refine sq ?_
       refine rx hΓ [6] [] (fun K' hK=>by simp only[go_sem,Int.cast_ofNat_Int,Int.reduceBNe,Int.reduceBEq,Int.reduceToNat,List.getD_cons_succ,List.getD_cons_zero,Bool.not_false,Bool.not_true,bne,Int.reduceLT,b7,kO,bX,jv];exact ak) ?_
       refine au ?_
       simp only[go_sem]
       all_goals first | (rfl;done) | skip
       all_goals simp only[jd,bH]
       all_goals first | rfl | (simp_all;done) | grind | trace_state
  ·have qe:=HU fD
   rw[Yf fD]
   repeat refine sq ?_
   refine dx hΓ hP [[],[0],[0,1],[0,1,2],u4,u5,u6,u4,[0,1,2,3,7],[0,1,2,3,7,8],bO,cK] [1,2,3,28] [[3,0]] (by kernel_rfl) (fun K' hK=>by simp only[go_sem,qe,bne];exact eT) ?_
   repeat refine sq ?_
   refine av (fun hb=>?_) fun hb=>?_
   ·repeat refine sq ?_
    refine rx hΓ [6] [] (fun K' hK=>by simp only[go_sem,qe,bne];exact ak) ?_
    refine au ?_
    simp only[go_sem]
    all_goals first | (rfl;done) | skip
    all_goals simp only[jd,bH]
    all_goals first | rfl | (simp_all;done) | grind | trace_state
   ·cases hb
end
def fL{α:Type}(p:α->α->Bool):List α->Option (α×α)
 |[]=>none
 |a::r=>match r.find? (p a)with
  |some b=>some (a,b)
  |none=>fL p r
theorem vl{α:Type}{p:α->α->Bool}:∀ {L:List α},fL p L=none->∀ i j (hi:i<L.length) (hj:j<L.length),i<j->p L[i] L[j]=false
 |[],_,i,j,hi,_,_=>absurd hi (Nat.not_lt_zero i)
 |a::r,h,i,j,hi,hj,bD=>by
  rw[fL]at h
  split at h
  ·cases h
  ·rename_i hf
   rw[List.find?_eq_none]at hf
   match i,j,bD with
   | 0,j+1,_=>
     have :=hf (r[j]'(by simpa using hj)) (List.getElem_mem _)
     simpa using this
   |i+1,j+1,bD=>exact vl h i j (by simpa using hi) (by simpa using hj) (by omega)
theorem vk{α:Type}{p:α->α->Bool}:∀ {L:List α} {q:α×α},fL p L=some q->∃ i j,∃ (hi:i<L.length) (hj:j<L.length),i<j/\q=(L[i],L[j])/\p L[i] L[j]=true/\
 (∀ m (hm:m<L.length),i<m->m<j->p L[i] L[m]=false)/\∀ a (ha:a<L.length),a<i->∀ m (hm:m<L.length),a<m->p L[a] L[m]=false
 |[],q,h=>by cases h
 |a::r,q,h=>by
  rw[fL]at h
  split at h
  ·rename_i b hf
   cases h
   obtain⟨hp,j,hj,rfl,hn⟩:=List.find?_eq_some_iff_getElem.1 hf
   refine⟨0,j+1,by simp,by simpa using hj,by omega,rfl,hp,fun m hm h1 h2=>?_,fun a ha h=>by omega⟩
   obtain⟨m,rfl⟩:∃ m',m=m'+1:=⟨m-1,by omega⟩
   have :=hn m (by omega)
   simpa using this
  ·rename_i hf
   rw[List.find?_eq_none]at hf
   obtain⟨i,j,hi,hj,bD,hq,hp,h1,h2⟩:=vk h
   refine⟨i+1,j+1,by simpa using hi,by simpa using hj,by omega,hq,hp,fun m hm h3 h4=>?_,fun a' ha h3 m hm h4=>?_⟩
   ·obtain⟨m,rfl⟩:∃ m',m=m'+1:=⟨m-1,by omega⟩
    exact h1 m (by simpa using hm) (by omega) (by omega)
   ·obtain⟨m,rfl⟩:∃ m',m=m'+1:=⟨m-1,by omega⟩
    match a',ha,h3,h4 with
    | 0,_,_,_=>
      have :=hf (r[m]'(by simpa using hm)) (List.getElem_mem _)
      simpa using this
    |a'+1,ha,h3,h4=>exact h2 a' (by simpa using ha) (by omega) m (by simpa using hm) (by omega)
theorem GM{α:Type}{p:α->α->Bool}{c:α->Bool}:∀ L:List α,fL p (L.filter c)=fL (fun a b=>c a&&(c b&&p a b)) L
 |[]=>rfl
 |a::r=>by
  have ih:=GM (p:=p) (c:=c) r
  by_cases hc:c a=true
  ·rw[List.filter_cons,if_pos hc,fL,fL,List.find?_filter,ih]
   have e:(fun b=>decide (c b=true/\p a b=true))=fun b=>c a&&(c b&&p a b):=by
    funext b
    rw[hc,Bool.true_and]
    cases c b<;>cases p a b<;>rfl
   rw[e]
  ·have gG:c a=false:=by simpa using hc
   rw[List.filter_cons,if_neg hc,ih,fL]
   have e:r.find? (fun b=>c a&&(c b&&p a b))=none:=by
    rw[List.find?_eq_none]
    intro b _
    rw[gG];simp
   rw[e]
theorem Q2(x:Vw):dR x=(fL (gK x) x.rs).map fun q=>(q.1.so,q.2.so):=by
 cases h:fL (gK x) x.rs with
 |none=>
  refine AX fun i hi=>xu hi fun m hm=>?_
  rw[List.length_drop]at hm
  rw[List.getElem_drop]
  exact vl h i (i+1+m) hi (by omega) (by omega)
 |some q=>
  obtain⟨i,j,hi,hj,bD,rfl,hp,h1,h2⟩:=vk h
  have fE:j-(i+1)<(x.rs.drop (i+1)).length:=by rw[List.length_drop];omega
  have ej:(x.rs.drop (i+1))[j-(i+1)]=x.rs[j]:=by rw[List.getElem_drop];congr 1;omega
  show dR x=some (x.rs[i].so,x.rs[j].so)
  rw[<-ej]
  refine GW hi (fun a ha=>xu (by omega) fun m hm=>?_) (GX hi fE (fun m hm oF=>?_) (by rw[ej];exact hp))
  ·rw[List.length_drop]at hm
   rw[List.getElem_drop]
   exact h2 a (by omega) ha (a+1+m) (by omega) (by omega)
  ·rw[List.length_drop]at hm
   rw[List.getElem_drop]
   exact h1 (i+1+m) (by omega) (by omega) (by omega)
theorem Xt(l:Led)(k:Int):dn (aI l k)=(fL (fun a b=>bJ a.kn a.un k&&(bJ b.kn b.un k&&gK (aF l k) a b)) l.rs).map fun q=>(q.1.so,q.2.so):=by
 have hQ:∀ i j (hi:i<l.rs.length) (hj:j<l.rs.length),et (aI l k) i j=(bJ l.rs[i].kn l.rs[i].un k&&(bJ l.rs[j].kn l.rs[j].un k&&gK (aF l k) l.rs[i] l.rs[j])):=fun i j hi hj=>by
  rw[<-dj hi,<-dj hj]
  by_cases c1:bJ (aw l i).kn (aw l i).un k=true
  ·by_cases c2:bJ (aw l j).kn (aw l j).un k=true
   ·rw[y9 c1 c2,c1,c2];rfl
   ·have:et (aI l k) i j=false:=by
      rw[Bool.eq_false_iff];exact fun h=>c2 (DG h).2
    rw[this]
    have Yk:bJ (aw l j).kn (aw l j).un k=false:=by simpa using c2
    rw[Yk];simp
  ·have:et (aI l k) i j=false:=by
     rw[Bool.eq_false_iff];exact fun h=>c1 (DG h).1
   rw[this]
   have Yl:bJ (aw l i).kn (aw l i).un k=false:=by simpa using c1
   rw[Yl];rfl
 cases h:fL (fun a b=>bJ a.kn a.un k&&(bJ b.kn b.un k&&gK (aF l k) a b)) l.rs with
 |none=>
  refine DI fun a ha m h1 h2=>?_
  have oN:a<l.rs.length:=ha
  have oQ:m<l.rs.length:=h2
  rw[hQ a m oN oQ]
  exact vl h a m oN oQ h1
 |some q=>
  obtain⟨i,j,hi,hj,bD,rfl,hp,h1,h2⟩:=vk h
  have :=L8 (x:=aI l k) (i:=i) (j:=j) hi bD hj (by rw[hQ i j hi hj];exact hp) (fun m h3 h4=>by rw[hQ i m hi (by omega)];exact h1 m (by omega) h3 h4)
   (fun a ha m h3 h4=>by
     have yF:m<l.rs.length:=h4
     rw[hQ a m (by omega) yF];exact h2 a (by omega) ha m yF h3)
  rw[this]
  show some ((aw l i).so,(aw l j).so)=_
  rw[dj hi,dj hj];rfl
theorem xt(l:Led)(k:Int):dR (aF l k)=dn (aI l k):=by
 rw[Q2,Xt,Bq]
 unfold bz
 rw[GM]
theorem Fb{l:Led}{k:Int}{s:Nat}:∀ n,s<n->n<=l.ts.length->(bw l k n).getD s false=gd l k (bw l k s) s
 | 0,h,_=>absurd h (Nat.not_lt_zero s)
 |n+1,h,hn=>by
  rw[E9 l k (by omega)]
  by_cases hs:s=n
  ·subst hs;rw[if_pos rfl]
  ·rw[if_neg hs];exact Fb n (by omega) (by omega)
theorem E3(l:Led)(k:Int):∀ s,s<=l.ts.length->ig l k s=(aB l k s).ts.map (na l)
 | 0,_=>rfl
 |s+1,hs=>by
  have hn:=HA (Ae l k s (by omega))
  rw[ig,Fb l.ts.length (by omega) (Nat.le_refl _),E3 l k s (by omega)]
  by_cases hb:gd l k (bw l k s) s=true
  ·rw[if_pos hb]at hn |-
   rw[xI hn]
   show _=((aB l k s).ts++[(s:Int)]).map (na l)
   rw[List.map_append]
   unfold na
   simp
  ·rw[if_neg hb]at hn |-
   rw[tD hn]
theorem Oq(l:Led)(k:Int):ig l k l.ts.length=(aF l k).ts.map (na l):=E3 l k _ (Nat.le_refl _)
theorem DS{l:Led}(aa:bx l){k:Int}(h0:dn (aI l k)=none)(is:List Int):(!(fb (aI l k) is is.length).2)=!ei (aF l k) (is.map fun i=>cU l i.toNat):=by
 have h:=(Du aa h0 rfl (MC aa k) (MD aa h0) is _ (Nat.le_refl _)).2
 rw[List.take_length]at h
 congr 1
 rw[Bool.eq_iff_iff,h]
 unfold ei
 rw[Bool.and_eq_true,Lt]
theorem XK{l:Led}(aa:bx l){k:Int}(h0:dn (aI l k)=none)(a:Int):uv (aI l k) a=sv l k (cU l a.toNat):=DS aa h0 [a]
theorem XJ{l:Led}(aa:bx l){k:Int}(h0:dn (aI l k)=none)(a b:Int):o3 (aI l k) a b=qx l k (cU l a.toNat) (cU l b.toNat):=DS aa h0 [a,b]
theorem Q0(S:List Sig)(p:Sig->Sig->Bool):s9 S p=fL p S:=by
 cases h:fL p S with
 |none=>
  refine GQ fun i hi=>AU hi fun m hm=>?_
  rw[List.length_drop]at hm
  rw[List.getElem_drop]
  exact vl h i (i+1+m) hi (by omega) (by omega)
 |some q=>
  obtain⟨i,j,hi,hj,bD,rfl,hp,h1,h2⟩:=vk h
  have fE:j-(i+1)<(S.drop (i+1)).length:=by rw[List.length_drop];omega
  have ej:(S.drop (i+1))[j-(i+1)]=S[j]:=by rw[List.getElem_drop];congr 1;omega
  rw[<-ej]
  refine GP hi (fun a ha=>AU (by omega) fun m hm=>?_) (GR hi fE (fun m hm oF=>?_) (by rw[ej];exact hp))
  ·rw[List.length_drop]at hm
   rw[List.getElem_drop]
   exact h2 a (by omega) ha (a+1+m) (by omega) (by omega)
  ·rw[List.length_drop]at hm
   rw[List.getElem_drop]
   exact h1 (i+1+m) (by omega) (by omega) (by omega)
theorem GL{α β:Type}{p:β->β->Bool}{f:α->β}:∀ L:List α,fL p (L.map f)=(fL (fun a b=>p (f a) (f b)) L).map fun q=>(f q.1,f q.2)
 |[]=>rfl
 |a::r=>by
  rw[List.map_cons,fL,fL,List.find?_map,GL r]
  have e:(p (f a)∘f)=fun b=>p (f a) (f b):=rfl
  rw[e]
  cases r.find? fun b=>p (f a) (f b)<;>rfl
theorem QZ{S:List Int}{p:Int->Int->Bool}:(qU S.length fun i j=>p (S.getD i 0) (S.getD j 0)).map (fun q=>(S.getD q.1 0,S.getD q.2 0))=fL p S:=by
 cases h:fL p S with
 |none=>
  rw[GO fun a ha m h1 h2=>by rw[ck ha,ck h2];exact vl h a m ha h2 h1];rfl
 |some q=>
  obtain⟨i,j,hi,hj,bD,rfl,hp,h1,h2⟩:=vk h
  rw[GN hi bD hj (by rw[ck hi,ck hj];exact hp) (fun m h3 h4=>by rw[ck hi,ck (show m<S.length by omega)];exact h1 m (by omega) h3 h4)
   (fun a ha m h3 h4=>by rw[ck (show a<S.length by omega),ck h4];exact h2 a (by omega) ha m h4 h3)]
  show some (S.getD i 0,S.getD j 0)=_
  rw[ck hi,ck hj]
theorem Mp{l:Led}(aa:bx l){k:Int}(h0:dn (aI l k)=none):nJ l k=mP l k:=by
 unfold nJ uA mP
 rw[<-xd,List.find?_map]
 have e1:uv (aI l k)=(sv l k∘fun i=>cU l i.toNat):=by funext a;exact XK aa h0 a
 rw[e1]
 cases hf:(dt l k).find? (sv l k∘fun i=>cU l i.toNat)with
 |some a=>rfl
 |none=>
  simp only[Option.map_none]
  rw[Q0,GL]
  have e2:(fun a b=>qx l k (cU l a.toNat) (cU l b.toNat))=o3 (aI l k):=by funext a b;exact(XJ aa h0 a b).symm
  rw[e2,<-QZ]
  cases qU (dt l k).length (fun i j=>o3 (aI l k) ((dt l k).getD i 0) ((dt l k).getD j 0))<;>rfl
noncomputable section
def K53:List (Nat×Spec):=[(98,m4),(71,Er),(99,qD)]
attribute [go_sem] K53
end
noncomputable section
def K55:List (Nat×Spec):=[(69,Es),(146,sC),(98,m4),(99,qD),(15,uH)]
attribute [go_sem] K55
def aan:List (Nat×Spec):=[]
attribute [go_sem] aan
end
noncomputable section
def K56:List (Nat×Spec):=[(98,m4),(84,Ep),(99,qD)]
attribute [go_sem] K56
end
noncomputable section
def K57:List (Nat×Spec):=[(98,m4),(70,zO),(99,qD),(103,wP)]
attribute [go_sem] K57
end
theorem qA(l:Led)(ds:List Int):dB l ds=cI l ds:=by
 unfold dB cI lL
 cases h:n9 l with
 |false=>rfl
 |true=>
  have h0:(true=false)=False:=by simp
  rw[if_neg (by decide),if_pos (show bH true 24=0 from rfl)]
  have :(!ds.any fun d=>!dayB d)=ds.all dayB:=by
   rw[List.not_any_eq_all_not]
   simp
  rw[this]
  unfold bH
  rfl
theorem OF{l:Led}{k:Int}:lq l k=true↔eS l k=0:=by
 cases h:lq l k with
 |true=>exact⟨fun _=>(OD h).2.2,fun _=>rfl⟩
 |false=>
  refine⟨fun h=>(by cases h),fun h2=>?_⟩
  have :=(OE h).2.2
  rw[h2]at this
  cases this
theorem QV(l:Led)(so k:Int):dk (aF l k).rs so=if b8 l so k<0 then none else some (aw l (b8 l so k).toNat):=by rw[Bq];exact AQ l k so
noncomputable section
def K64:List (Nat×Spec):=[]
attribute [go_sem] K64
end
noncomputable section
def K60:List (Nat×Spec):=[(160,S160),(96,sB)]
attribute [go_sem] K60
def aam:List (Nat×Spec):=[(75,m5)]
attribute [go_sem] aam
end
noncomputable section
def K61:List (Nat×Spec):=[(75,m5),(79,wN),(76,S76),(119,S119)]
attribute [go_sem] K61
end
noncomputable section
def K62:List (Nat×Spec):=[(99,qD),(146,sC)]
attribute [go_sem] K62
def aal:List (Nat×Spec):=[(98,m4)]
attribute [go_sem] aal
def aak:List (Nat×Spec):=[(159,Ew),(103,wP)]
attribute [go_sem] aak
end
noncomputable section
def K63:List (Nat×Spec):=[(98,m4),(84,Ep),(73,zN)]
attribute [go_sem] K63
end
noncomputable section
def W5(w:List Int):V:=.sl (w.map vInt)
theorem adZ(L:List (List Int)):∀ y∈L.map W5,y.cells.length=1/\y.okc=true:=fun y hy=>by
 obtain⟨x,_,rfl⟩:=List.mem_map.1 hy
 exact⟨rfl,rfl⟩
def K65:List (Nat×Spec):=[(99,qD)]
attribute [go_sem] K65
end
noncomputable section
def K66:List (Nat×Spec):=[(98,m4),(125,ED),(15,uH),(24,Eu)]
attribute [go_sem] K66
end
noncomputable section
def K68:List (Nat×Spec):=[]
attribute [go_sem] K68
end
noncomputable section
def aaj:List (Nat×Spec):=[]
attribute [go_sem] aaj
end
noncomputable section
def K70:List (Nat×Spec):=[(75,m5),(91,S91)]
attribute [go_sem] K70
end
theorem OK{l:Led}(aa:bx l){k:Int}:lq l k=decide (kz l k=0):=by
 rw[OJ aa,Bool.eq_iff_iff,decide_eq_true_eq]
 exact OF
instance acZ (l:Led) (k:Int) (j:Nat):Decidable (pt l k j):=inferInstanceAs (Decidable ((bw l k l.ts.length).getD j false=true))
theorem Oo(l:Led)(k:Int):po l k=if cI l [k]=0 then(aF l k).ts.map (na l)else[]:=by
 unfold po
 rw[qA,Oq]
theorem Xs(l:Led)(k:Int):nH l k=if cI l [k]=0 then(match dR (aF l k)with | some _=>0 | none=>28)else cI l [k]:=by
 unfold nH
 rw[qA,xt]
 cases dn (aI l k)<;>rfl
theorem Xr(l:Led)(k:Int):qq l k=if cI l [k]=0 then(match dR (aF l k)with | some p=>[p.1,p.2] | none=>[])else[]:=by
 unfold qq
 rw[qA,xt]
 rfl
theorem OH(l:Led)(k:Int):py l k=if cI l [k]=0 then lq l k else false:=by
 unfold py
 rw[qA]
 by_cases hc:cI l [k]=0
 ·rw[if_pos hc,hc,OK (qs hc).1];rfl
 ·rw[if_neg hc,beq_eq_false_iff_ne.2 hc];rfl
theorem El(l:Led)(k:Int):fI l k=ff l k:=by
 unfold fI ff
 rw[qA,xt]
theorem ta{l:Led}{k:Int}(h:ff l k=0):bx l/\dn (aI l k)=none:=by
 unfold ff at h
 split at h
 ·rename_i hc
  refine⟨(qs hc).1,?_⟩
  rw[<-xt]
  split at h
  ·cases h
  ·rename_i hn;simpa using hn
 ·rename_i hc;exact(hc h).elim
theorem Xx(l:Led)(k:Int):mM l k=kY l k:=by
 unfold mM kY
 rw[El]
 by_cases h:ff l k=0
 ·rw[if_pos h,if_pos h,Mp (ta h).1 (ta h).2]
 ·rw[if_neg h,if_neg h]
theorem Xw(l:Led)(k:Int):sj l k=o0 l k:=by
 unfold sj o0
 rw[El]
 by_cases h:ff l k=0
 ·rw[if_pos h,if_pos h,Mp (ta h).1 (ta h).2]
 ·rw[if_neg h,if_neg h]
theorem F3{l:Led}{so k:Int}(h:¬ b8 l so k<0):bJ (aw l (b8 l so k).toNat).kn (aw l (b8 l so k).toNat).un k=true:=by
 rcases nZ l so k with h1 | ⟨j,hj,h1,h2⟩
 ·rw[h1]at h;exact absurd (by decide) h
 ·rw[h1,Int.toNat_natCast,dj hj]
  unfold kK at h2
  simp only[Bool.and_eq_true]at h2
  exact h2.2
theorem Ye(l:Led)(k:Int)(az:List Int):jd l k az=je l k az:=by
 match az with
 |[]=>rfl
 |[_]=>rfl
 |_::_::_::_=>rfl
 |[a,b]=>
  unfold jd je
  simp only[QV]
  congr 1
  by_cases h1:b8 l a k<0
  ·rw[if_pos h1,decide_eq_true h1];rfl
  ·by_cases h2:b8 l b k<0
   ·rw[if_neg h1,if_pos h2,decide_eq_true h2,decide_eq_false h1];rfl
   ·rw[if_neg h1,if_neg h2,decide_eq_false h1,decide_eq_false h2,y9 (F3 h1) (F3 h2)];rfl
theorem Yd(l:Led)(k:Int)(az:List Int):wA l k az=wB l k az:=by
 unfold wA wB
 rw[qA,Ye]
noncomputable section
def iG(l:Led)(S:List Int)(b:Int):Nat->Int
 | 0=> -1
 |s+1=>if (cU l (S.getD s 0).toNat).so==b then S.getD s 0 else iG l S b s
def oT(l:Led)(S:List Int)(b:Int):Int:=iG l S b S.length
theorem yP(l:Led)(S:List Int)(b:Int):∀ s,s<=S.length->iG l S b s= -1\/iG l S b s∈S
 | 0,_=>.inl rfl
 |s+1,h=>by
  unfold iG
  split
  ·right;rw[ck (show s<S.length by omega)];exact List.getElem_mem _
  ·exact yP l S b s (by omega)
def gQ(l:Led)(S az:List Int)(s:Nat):List Int:=(az.take s).map (oT l S)
theorem xa(l:Led)(S:List Int){az:List Int}{s:Nat}(h:s<=az.length):(gQ l S az s).length=s:=by unfold gQ;simp;omega
theorem Fx(l:Led)(S:List Int){az:List Int}{s:Nat}(h:s<az.length):gQ l S az (s+1)=gQ l S az s++[oT l S az[s]]:=by
 unfold gQ
 rw[List.take_add_one,List.getElem?_eq_getElem h,List.map_append];rfl
def im(l:Led)(S az:List Int)(j:Nat):Bool:=!decide (oT l S (az.getD j 0)<0)&&(decide (j=0)||decide (az.getD (j-1) 0<az.getD j 0))
def fQ(L:List Int)(i:Nat):Nat->List Int
 | 0=>[]
 |s+1=>if s=i then fQ L i s else fQ L i s++[L.getD s 0]
theorem Ga{L:List Int}{i:Nat}:∀ s,s<=L.length->fQ L i s=(L.take s).eraseIdx i
 | 0,_=>by simp[fQ]
 |s+1,h=>by
  have hs:s<L.length:=by omega
  rw[fQ,Ga s (by omega),List.take_add_one,List.getElem?_eq_getElem hs]
  simp only[Option.toList_some]
  have hl:(L.take s).length=s:=by simp;omega
  split
  ·rename_i e;subst e
   rw[List.eraseIdx_append_of_length_le (by omega),hl,Nat.sub_self,List.eraseIdx_of_length_le (by omega)]
   simp
  ·rename_i e
   rw[ck hs]
   by_cases hi:i<s
   ·rw[List.eraseIdx_append_of_lt_length (by omega)]
   ·rw[List.eraseIdx_append_of_length_le (by omega),hl,List.eraseIdx_of_length_le (by omega),List.eraseIdx_of_length_le (by simp;omega)]
theorem QI(L:List Int)(i:Nat):fQ L i L.length=L.eraseIdx i:=by rw[Ga _ (Nat.le_refl _),List.take_length]
theorem F9(L:List Int)(i s:Nat):(fQ L i s).length<=s:=by
 induction s with
 |zero=>simp[fQ]
 |succ s ih=>unfold fQ;split<;>(try simp)<;>omega
theorem AH{L:List Int}{i:Nat}{a:Int}:∀ s,s<=L.length->a∈fQ L i s->a∈L
 | 0,_,h=>by simp[fQ]at h
 |s+1,hs,h=>by
  unfold fQ at h
  split at h
  ·exact AH s (by omega) h
  ·rcases List.mem_append.1 h with h | h
   ·exact AH s (by omega) h
   ·rw[ck (show s<L.length by omega)]at h
    rw[List.mem_singleton.1 h];exact List.getElem_mem _
def lJ(x:RV)(is:List Int):Bool:=!(fb x is is.length).2
def kZ(l:Led)(k:Int)(az:List Int):Bool:=
 (List.range az.length).all (im l (dt l k) az)&&(lJ (aI l k) (gQ l (dt l k) az az.length)&&(List.range az.length).all fun i=>!lJ (aI l k) ((gQ l (dt l k) az az.length).eraseIdx i))
def sr(l:Led)(k:Int)(az:List Int):Int:=if fI l k=0 then bH (kZ l k az) 28 else fI l k
theorem Ek{n:Nat}{p:Nat->Bool}{i:Nat}(hi:i<n)(h:p i=false):(List.range n).all p=false:=by
 rw[Bool.eq_false_iff]
 intro h2
 rw[List.all_eq_true]at h2
 have :=h2 i (List.mem_range.2 hi)
 rw[h]at this;cases this
theorem M8{n:Nat}{p:Nat->Bool}(h:∀ i,i<n->p i=true):(List.range n).all p=true:=by
 rw[List.all_eq_true]
 exact fun i hi=>h i (List.mem_range.1 hi)
theorem Dh(l:Led)(S:List Int)(b:Int):∀ s,¬ iG l S b s<0->(cU l (iG l S b s).toNat).so=b
 | 0,h=>absurd (show ((-1:Int)<0)by decide) h
 |s+1,h=>by
  unfold iG at h |-
  split
  ·rename_i e;simpa using e
  ·rename_i e;rw[if_neg e]at h;exact Dh l S b s h
theorem nj{l:Led}{S az:List Int}{j:Nat}(hj:j<az.length):im l S az j=true↔¬ iG l S az[j] S.length<0/\(0<j->az[j-1] <az[j]):=by
 unfold im oT
 rw[ck hj,ck (show j-1<az.length by omega)]
 simp only[Bool.and_eq_true,Bool.not_eq_true',decide_eq_false_iff_not,Bool.or_eq_true,decide_eq_true_eq]
 refine and_congr_right fun _=>⟨fun h h0=>h.resolve_left (by omega),fun h=>?_⟩
 rcases Nat.eq_zero_or_pos j with h0 | h0
 ·exact .inl h0
 ·exact .inr (h h0)
theorem Fi:∀ (A T:List Int),A.Nodup->(∀ a∈A,a∈T)->A.length<=T.length
 |[],_,_,_=>Nat.zero_le _
 |a::A,T,hn,h=>by
  rw[List.nodup_cons]at hn
  have h1:=h a (by simp)
  have h2:=Fi A (T.erase a) hn.2 fun x hx=>(List.mem_erase_of_ne (by rintro rfl;exact hn.1 hx)).2 (h x (by simp[hx]))
  rw[List.length_erase_of_mem h1]at h2
  have :=List.length_pos_of_mem h1
  simp only[List.length_cons]
  omega
theorem Hg{l:Led}{S az:List Int}{n:Nat}(hn:n<=az.length)(h:∀ j,j<n->im l S az j=true):∀ b a (hb:b<n) (lG:a<b),az[a] <az[b]
 | 0,a,_,lG=>absurd lG (Nat.not_lt_zero a)
 |b+1,a,hb,lG=>by
  have h1:=((nj (show b+1<az.length by omega)).1 (h _ hb)).2 (by omega)
  simp only[Nat.add_sub_cancel]at h1
  by_cases e:a=b
  ·subst e;exact h1
  ·exact Int.lt_trans (Hg hn h b a (by omega) (by omega)) h1
theorem Hf{l:Led}{S az:List Int}{n:Nat}(hn:n<=az.length)(h:∀ j,j<n->im l S az j=true):(az.take n).Pairwise (· < ·):=by
 rw[List.pairwise_iff_getElem]
 intro a b ha hb lG
 rw[List.getElem_take,List.getElem_take]
 have :b<n:=by simp at hb;omega
 exact Hg hn h b a this lG
theorem A5{l:Led}{S az:List Int}{n:Nat}(hn:n<=az.length)(h:∀ j,j<n->im l S az j=true):n<=S.length:=by
 have h1:=Fi (az.take n) (S.map fun a=>(cU l a.toNat).so) ((Hf hn h).imp fun h e=>by subst e;exact Int.lt_irrefl _ h) fun a ha=>by
  obtain⟨j,hj,rfl⟩:=List.getElem_of_mem ha
  have dO:j<n:=by simp at hj;omega
  rw[List.getElem_take]
  have h2:=((nj (show j<az.length by omega)).1 (h j dO)).1
  rw[List.mem_map]
  refine⟨_,?_,Dh l S _ _ h2⟩
  rcases yP l S az[j] S.length (Nat.le_refl _)with h3 | h3
  ·rw[h3]at h2;exact absurd (by decide) h2
  ·exact h3
 simp only[List.length_take,List.length_map]at h1
 omega
def K91:List (Nat×Spec):=[(134,NC),(135,EC),(136,NB)]
theorem Z8:KS K91:=tc FY.sound<|tc AB.sound<|tc FX.sound<|tn
attribute [go_sem] K91
@[go_sem] def P57:PSpec:=p3 iL iI cH (fun _ _ _=>True) (fun l k az=>vInt (sr l k az)) true
@[go_sem] def Zk:Spec:=P57.toSpec
set_option maxHeartbeats 8000000 in
theorem PF:aN Tryz.prog 57 P57:=by
 refine gO (rs:=[.tmp 6]) Tryz.func57 Tryz.ntmps57 fun l k az hp hw=>?_
 have hP:=dL
 simp only[iI,cH,iL,dA]at hw |-
 have hΓ:=Z8
 have yC:az.length<=maxLen:=by have:=hw.2.2.1.1;simpa using this
 repeat refine sq ?_
 refine rx hΓ [1,2,3] [[3,0]] (fun K' hK=>by simp only[go_sem];exact ak) ?_
 repeat refine sq ?_
 refine rx hΓ [2,3,7,8] [[3,0],[7,0]] (fun K' hK=>by simp only[go_sem];exact ak) ?_
 repeat refine sq ?_
 refine rx hΓ [2,3,7,8,24] [[3,0],[7,0]] (fun K' hK=>by simp only[go_sem];exact ak) ?_
 repeat refine sq ?_
 refine av (fun hb=>?_) fun hb=>?_
 ·repeat refine sq ?_
  have hc:¬ fI l k=0:=by simpa using hb
  have e:sr l k az=fI l k:=by unfold sr;rw[if_neg hc]
  repeat refine sq ?_
  refine rx hΓ [6] [] (fun K' hK=>by simp only[go_sem];exact ak) ?_
  refine au ?_
  simp only[go_sem]
  first | (rw[e];done) | (rw[e,e2];done) | (rw[e,e2];rfl) | trace_state
 ·repeat refine sq ?_
  have hc:fI l k=0:=by simpa using hb
  have aa:=M' hc
  have e:sr l k az=bH (kZ l k az) 28:=by unfold sr;rw[if_pos hc]
  have ev:mU l k=aI l k:=by unfold mU;rw[if_pos hc]
  rw[ev]
  have hv:=sX aa k
  have kM:=aa.ssn
  have rR:=sU (aI l k) l.ss.length
  have lE:=xc (aI l k) l.ss.length
  have hl:(dt l k).length<=maxLen:=by have:(dt l k).length<=l.ss.length:=lE;unfold maxLen;omega
  have CF:gg (aI l k) (aI l k).l.ss.length=dt l k:=rfl
  refine ax ?_
  repeat refine sq ?_
  refine rx hΓ [2,3,7,9] [[3,0],[7,0]] (fun K' hK=>by simp only[go_sem,CF];(repeat (refine⟨by first | exact ao | exact aa,?_⟩));exact ct) ?_
  generalize hS:dt l k=S at *
  have tS:∀ a∈S,0<=a/\a<(l.ss.length:Int):=by rw[<-hS];exact rR
  repeat refine sq ?_
  refine rx hΓ [2,3,7,9,10] [[3,0],[7,0],[79,0]] (fun K' hK=>by simp only[go_sem];exact ak) ?_
  refine dp (pk 10 [79,0] 1 (by simp only[go_sem]) (by simp only[go_sem]) [2,3,7,9,10] [[3,0],[7,0],[79,0]] ?_ rfl) ?_
  ·simp only[go_sem]
  simp only[go_sem]
  repeat refine sq ?_
  refine rx hΓ [2,3,7,9,10,11] [[3,0],[7,0],[79,0]] (fun K' hK=>by simp only[go_sem];exact ak) ?_
  repeat refine sq ?_
  refine aH ?_
  repeat refine sq ?_
  refine bB (fun s:Nat=>[(11,⟨true,.v (vInt s)⟩),(10,⟨true,.msl [79,0] (gQ l S az s).length⟩)]) (fun s=>[([79,0],.arr 1 ((gQ l S az s).map vInt))]) (fun s=>s<=az.length/\∀ j,j<s->im l S az j=true) (fun s=>az.length-s) 0 ?_ ?_ ?_ ?_
  ·exact⟨Nat.zero_le _,fun j h=>by omega⟩
  ·rfl
  ·rfl
  rintro i ⟨hi,hR⟩
  simp only[go_sem]
  repeat refine sq ?_
  refine rx hΓ [2,3,7,9,10,11,31] [[3,0],[7,0],[79,0]] (fun K' hK=>by simp only[go_sem];exact ak) ?_
  repeat refine sq ?_
  refine av (fun hb=>?_) fun hb=>?_
  ·have ab:i<az.length:=by simpa using hb
   have an:(i:Int)<az.length:=by omega
   clear hb
   repeat refine sq ?_
   refine ax ?_
   repeat refine sq ?_
   refine aH ?_
   repeat refine sq ?_
   refine rx hΓ [2,3,7,9,10,11,12] [[3,0],[7,0],[79,0]] (fun K' hK=>by simp only[go_sem,ae ab,ah,ai,an];exact ak) ?_
   repeat refine sq ?_
   refine rx hΓ [2,3,7,9,10,11,12,13] [[3,0],[7,0],[79,0]] (fun K' hK=>by simp only[go_sem,ae ab,ah,ai,an];exact ak) ?_
   repeat refine sq ?_
   refine aH ?_
   repeat refine sq ?_
   refine bB (fun s:Nat=>[(13,⟨true,.v (vInt s)⟩),(12,⟨true,.v (vInt (iG l S az[i] s))⟩)]) (fun s=>[]) (fun s=>s<=S.length) (fun s=>S.length-s) 0 ?_ ?_ ?_ ?_
   ·exact Nat.zero_le _
   ·rfl
   ·rfl
   rintro i1 hi
   simp only[go_sem]
   repeat refine sq ?_
   refine rx hΓ [2,3,7,9,10,11,12,13,37] [[3,0],[7,0],[79,0]] (fun K' hK=>by simp only[go_sem,ae ab,ah,ai,an];exact ak) ?_
   repeat refine sq ?_
   refine av (fun hb=>?_) fun hb=>?_
   ·have ay:i1<S.length:=by simpa using hb
    have aQ:(i1:Int)<S.length:=by omega
    clear hb
    obtain⟨pZ,pY⟩:=tS S[i1] (List.getElem_mem ay)
    have pX:S[i1].toNat<l.ss.length:=by omega
    have vY:(l.ss.map encS).getD S[i1].toNat default=encS (cU l S[i1].toNat):=by rw[ae pX,nV pX]
    repeat refine sq ?_
    refine ax ?_
    repeat refine sq ?_
    refine aH ?_
    repeat refine sq ?_
    refine dx hΓ hP [[],[0],[],[],[2,3],[2,3,4],u6,u7,u8,[],[],[9,10],[9,10,11],gP] [2,3,7,9,10,11,12,13,53] [[3,0],[7,0],[79,0]] (by kernel_rfl) (fun K' hK=>by simp only[go_sem,ae ab,ah,ai,an,ae ay,ah,ai,aQ,ae ay,aQ,ae ab,an,vY,pZ,pY,List.length_map];exact eT) ?_
    repeat refine sq ?_
    refine av (fun hb=>?_) fun hb=>?_
    ·repeat refine sq ?_
     have hf:iG l S az[i] (i1+1)=S[i1]:=by rw[iG,ck ay,if_pos hb]
     repeat refine sq ?_
     refine aM hΓ fun K' hK=>?_
     simp only[go_sem,ae ab,ah,ai,an,ae ay,ah,ai,aQ]
     repeat (refine⟨ao,?_⟩)
     refine hK _ ?_
     clear K' hK
     simp only[go_sem]
     refine kp [2,3,7,9,10,11,12,13] [[3,0],[7,0],[79,0]] ?_
     repeat refine sq ?_
     refine aM hΓ fun K' hK=>?_
     simp only[go_sem,ae ab,ah,ai,an,ae ay,ah,ai,aQ]
     repeat (refine⟨ao,?_⟩)
     refine hK _ ?_
     clear K' hK
     simp only[go_sem]
     refine⟨i1+1,ay,by(show S.length-(i1+1)<S.length-i1;omega),?_⟩
     refine aY [2,3,7,9,10,11,12,13] [[3,0],[7,0],[79,0]] ?_ ?_<;>simp only[go_sem,aT ay hl,aU,hf]
    ·repeat refine sq ?_
     have hf:iG l S az[i] (i1+1)=iG l S az[i] i1:=by rw[iG,ck ay,if_neg (by rw[hb];decide)]
     refine ax ?_
     refine bE ?_
     simp only[go_sem]
     refine kp [2,3,7,9,10,11,12,13] [[3,0],[7,0],[79,0]] ?_
     repeat refine sq ?_
     refine aM hΓ fun K' hK=>?_
     simp only[go_sem,ae ab,ah,ai,an,ae ay,ah,ai,aQ]
     repeat (refine⟨ao,?_⟩)
     refine hK _ ?_
     clear K' hK
     simp only[go_sem]
     refine⟨i1+1,ay,by(show S.length-(i1+1)<S.length-i1;omega),?_⟩
     refine aY [2,3,7,9,10,11,12,13] [[3,0],[7,0],[79,0]] ?_ ?_<;>simp only[go_sem,aT ay hl,aU,hf]
   ·have er:i1=S.length:=by
     have :¬ (i1:Int)<S.length:=by simpa using hb
     omega
    clear hb
    subst er
    repeat refine sq ?_
    refine bp ?_
    simp only[go_sem]
    refine kp [2,3,7,9,10,11,12] [[3,0],[7,0],[79,0]] ?_
    rcases Nat.eq_zero_or_pos i with h0 | h0
    ·have mq:decide ((i:Int)>0)=false:=by simp;omega
     repeat refine sq ?_
     refine dx hΓ hP [[],[0],[0,1],[0,1,2],u4,u5,u6,u6,[0,1,2,3,4,5,7],u9,bO,u6,u6,[0,1,2,3,4,5,11,12],[0,1,2,3,4,5,11,12,13],l4,u16,jk] [2,3,7,9,10,11,12,75] [[3,0],[7,0],[79,0]] (by kernel_rfl) (fun K' hK=>by simp only[go_sem,ae ab,ah,ai,an,mq,Bool.and_false,and_false];exact eT) ?_
     repeat refine sq ?_
     refine av (fun hb=>?_) fun hb=>?_
     ·repeat refine sq ?_
      have ho:im l S az i=false:=by
       rw[Bool.eq_false_iff]
       intro ho
       obtain⟨o1,o2⟩:=(nj ab).1 ho
       simp at hb
       first | exact o1 hb | exact hb.elim (fun hb=>o1 hb) fun hb=>by have:=o2 h0;omega
      have e2:kZ l k az=false:=by unfold kZ;rw[hS,Ek ab ho];rfl
      repeat refine sq ?_
      refine rx hΓ [6] [] (fun K' hK=>by simp only[go_sem,ae ab,ah,ai,an,mq,Bool.and_false,and_false];exact ak) ?_
      refine au ?_
      simp only[go_sem]
      first | (rw[e];done) | (rw[e,e2];done) | (rw[e,e2];rfl) | trace_state
     ·repeat refine sq ?_
      have ho:im l S az i=true:=by
       rw[nj ab]
       simp at hb
       exact⟨by omega,fun h=>by omega⟩
      have mJ:∀ j,j<i+1->im l S az j=true:=fun j hj=>by
       rcases Nat.lt_succ_iff_lt_or_eq.1 hj with h5 | rfl
       ·exact hR j h5
       ·exact ho
      have i7:=A5 ab mJ
      have Kz:S.length<=60:=by rw[<-hS];exact Nat.le_trans lE kM
      have ep:=xa l S (Nat.le_of_lt ab)
      refine ax ?_
      repeat refine sq ?_
      refine aM hΓ fun K' hK=>?_
      simp only[go_sem,ae ab,ah,ai,an,mq,Bool.and_false,and_false]
      repeat (refine⟨by first | exact ao | exact⟨rfl,by rw[ep];omega,by rw[ep];unfold maxLen;omega⟩,?_⟩)
      refine hK _ ?_
      clear K' hK
      simp only[go_sem]
      refine kp [2,3,7,9,10,11] [[3,0],[7,0],[79,0]] ?_
      repeat refine sq ?_
      refine aM hΓ fun K' hK=>?_
      simp only[go_sem,ae ab,ah,ai,an,mq,Bool.and_false,and_false]
      repeat (refine⟨ao,?_⟩)
      refine hK _ ?_
      clear K' hK
      simp only[go_sem]
      refine⟨i+1,⟨ab,?_⟩,by(show az.length-(i+1)<az.length-i;omega),?_⟩
      ·exact mJ
      refine aY [2,3,7,9,10,11] [[3,0],[7,0],[79,0]] ?_ ?_<;>simp only[go_sem,aT ab yC,aU,Fx l S ab,oT,List.map_append,List.map_cons,List.map_nil,List.length_append,List.length_cons,List.length_nil]
    ·have mq:decide ((i:Int)>0)=true:=by simp;omega
     have jt:IntKind.i64.wrap ((i:Int)-1)=((i-1:Nat):Int):=by rw[wrap_i64 (by omega) (by unfold maxLen at yC;omega)];omega
     have eP:(az.map vInt).getD (i-1) default=vInt az[i-1]:=ae (by omega)
     have nx:((i-1:Nat):Int)<az.length:=by omega
     have jA:(0:Int)<=((i-1:Nat):Int):=by omega
     repeat refine sq ?_
     refine dx hΓ hP [[],[0],[0,1],[0,1,2],u4,u5,u6,u6,[0,1,2,3,4,5,7],u9,bO,u6,u6,[0,1,2,3,4,5,11,12],[0,1,2,3,4,5,11,12,13],l4,u16,jk] [2,3,7,9,10,11,12,75] [[3,0],[7,0],[79,0]] (by kernel_rfl) (fun K' hK=>by simp only[go_sem,ae ab,ah,ai,an,mq,jt,eP,nx,jA,ah,Bool.and_true,and_true];exact eT) ?_
     repeat refine sq ?_
     refine av (fun hb=>?_) fun hb=>?_
     ·repeat refine sq ?_
      have ho:im l S az i=false:=by
       rw[Bool.eq_false_iff]
       intro ho
       obtain⟨o1,o2⟩:=(nj ab).1 ho
       simp at hb
       first | exact o1 hb | exact hb.elim (fun hb=>o1 hb) fun hb=>by have:=o2 h0;omega
      have e2:kZ l k az=false:=by unfold kZ;rw[hS,Ek ab ho];rfl
      repeat refine sq ?_
      refine rx hΓ [6] [] (fun K' hK=>by simp only[go_sem,ae ab,ah,ai,an,mq,jt,eP,nx,jA,ah,Bool.and_true,and_true];exact ak) ?_
      refine au ?_
      simp only[go_sem]
      first | (rw[e];done) | (rw[e,e2];done) | (rw[e,e2];rfl) | trace_state
     ·repeat refine sq ?_
      have ho:im l S az i=true:=by
       rw[nj ab]
       simp at hb
       exact⟨by omega,fun h=>by omega⟩
      have mJ:∀ j,j<i+1->im l S az j=true:=fun j hj=>by
       rcases Nat.lt_succ_iff_lt_or_eq.1 hj with h5 | rfl
       ·exact hR j h5
       ·exact ho
      have i7:=A5 ab mJ
      have Kz:S.length<=60:=by rw[<-hS];exact Nat.le_trans lE kM
      have ep:=xa l S (Nat.le_of_lt ab)
      refine ax ?_
      repeat refine sq ?_
      refine aM hΓ fun K' hK=>?_
      simp only[go_sem,ae ab,ah,ai,an,mq,jt,eP,nx,jA,ah,Bool.and_true,and_true]
      repeat (refine⟨by first | exact ao | exact⟨rfl,by rw[ep];omega,by rw[ep];unfold maxLen;omega⟩,?_⟩)
      refine hK _ ?_
      clear K' hK
      simp only[go_sem]
      refine kp [2,3,7,9,10,11] [[3,0],[7,0],[79,0]] ?_
      repeat refine sq ?_
      refine aM hΓ fun K' hK=>?_
      simp only[go_sem,ae ab,ah,ai,an,mq,jt,eP,nx,jA,ah,Bool.and_true,and_true]
      repeat (refine⟨ao,?_⟩)
      refine hK _ ?_
      clear K' hK
      simp only[go_sem]
      refine⟨i+1,⟨ab,?_⟩,by(show az.length-(i+1)<az.length-i;omega),?_⟩
      ·exact mJ
      refine aY [2,3,7,9,10,11] [[3,0],[7,0],[79,0]] ?_ ?_<;>simp only[go_sem,aT ab yC,aU,Fx l S ab,oT,List.map_append,List.map_cons,List.map_nil,List.length_append,List.length_cons,List.length_nil]
  ·have be:i=az.length:=by
    have :¬ (i:Int)<az.length:=by simpa using hb
    omega
   clear hb
   subst be
   repeat refine sq ?_
   refine bp ?_
   simp only[go_sem]
   refine kp [7,10] [[7,0],[79,0]] ?_
   have i7:=A5 (Nat.le_refl _) hR
   have Kz:S.length<=60:=by rw[<-hS];exact Nat.le_trans lE kM
   have Wj:(gQ l S az az.length).length=az.length:=xa l S (Nat.le_refl _)
   have Wi:∀ a∈gQ l S az az.length,a∈S:=by
    intro a ha
    unfold gQ at ha
    rw[List.take_length]at ha
    obtain⟨b,hb,rfl⟩:=List.mem_map.1 ha
    obtain⟨j,hj,rfl⟩:=List.getElem_of_mem hb
    have h2:=((nj hj).1 (hR j hj)).1
    rcases yP l S az[j] S.length (Nat.le_refl _)with h3 | h3
    ·rw[h3]at h2;exact absurd (by decide) h2
    ·exact h3
   have CQ:kZ l k az=(lJ (aI l k) (gQ l S az az.length)&&(List.range az.length).all fun i=>!lJ (aI l k) ((gQ l S az az.length).eraseIdx i)):=by
    unfold kZ;rw[hS,M8 hR,Bool.true_and]
   generalize hM:gQ l S az az.length=M at *
   have oE:M.length<=maxLen:=by rw[Wj];exact yC
   have K0:∀ a∈M,0<=a/\a<(l.ss.length:Int):=fun a ha=>tS a (Wi a ha)
   repeat refine sq ?_
   refine rx hΓ [7,10,83] [[7,0],[79,0]] (fun K' hK=>by simp only[go_sem];(repeat (refine⟨by first | exact ao | exact⟨hv,by omega,K0⟩,?_⟩));exact ct) ?_
   repeat refine sq ?_
   refine av (fun hb=>?_) fun hb=>?_
   ·repeat refine sq ?_
    have e2:kZ l k az=false:=by
     have eE:lJ (aI l k) M=false:=by simpa[lJ]using hb
     rw[CQ,eE];rfl
    repeat refine sq ?_
    refine rx hΓ [6] [] (fun K' hK=>by simp only[go_sem];exact ak) ?_
    refine au ?_
    simp only[go_sem]
    first | (rw[e];done) | (rw[e,e2];done) | (rw[e,e2];rfl) | trace_state
   ·repeat refine sq ?_
    have we:lJ (aI l k) M=true:=by simpa[lJ]using hb
    refine ax ?_
    repeat refine sq ?_
    refine rx hΓ [7,10,14] [[7,0],[79,0]] (fun K' hK=>by simp only[go_sem];exact ak) ?_
    repeat refine sq ?_
    refine aH ?_
    repeat refine sq ?_
    refine bB (fun s:Nat=>[(14,⟨true,.v (vInt s)⟩)]) (fun s=>[]) (fun s=>s<=M.length/\∀ j,j<s->lJ (aI l k) (M.eraseIdx j)=false) (fun s=>M.length-s) 0 ?_ ?_ ?_ ?_
    ·exact⟨Nat.zero_le _,fun j h=>by omega⟩
    ·rfl
    ·rfl
    rintro i2 ⟨hi,hR⟩
    simp only[go_sem]
    repeat refine sq ?_
    refine rx hΓ [7,10,14,87] [[7,0],[79,0]] (fun K' hK=>by simp only[go_sem];exact ak) ?_
    repeat refine sq ?_
    refine av (fun hb=>?_) fun hb=>?_
    ·have br:i2<M.length:=by simpa using hb
     have dg:(i2:Int)<M.length:=by omega
     clear hb
     repeat refine sq ?_
     refine ax ?_
     repeat refine sq ?_
     refine aH ?_
     repeat refine sq ?_
     refine rx hΓ [7,10,14,15] [[7,0],[79,0],[105,0]] (fun K' hK=>by simp only[go_sem,ae br,ah,ai,dg];exact ak) ?_
     refine dp (pk 15 [105,0] 1 (by simp only[go_sem]) (by simp only[go_sem]) [7,10,14,15] [[7,0],[79,0],[105,0]] ?_ rfl) ?_
     ·simp only[go_sem]
     simp only[go_sem]
     repeat refine sq ?_
     refine rx hΓ [7,10,14,15,16] [[7,0],[79,0],[105,0]] (fun K' hK=>by simp only[go_sem,ae br,ah,ai,dg];exact ak) ?_
     repeat refine sq ?_
     refine aH ?_
     repeat refine sq ?_
     refine bB (fun s:Nat=>[(16,⟨true,.v (vInt s)⟩),(15,⟨true,.msl [105,0] (fQ M i2 s).length⟩)]) (fun s=>[([105,0],.arr 1 ((fQ M i2 s).map vInt))]) (fun s=>s<=M.length) (fun s=>M.length-s) 0 ?_ ?_ ?_ ?_
     ·exact Nat.zero_le _
     ·rfl
     ·rfl
     rintro i3 hi
     simp only[go_sem]
     repeat refine sq ?_
     refine rx hΓ [7,10,14,15,16,93] [[7,0],[79,0],[105,0]] (fun K' hK=>by simp only[go_sem,ae br,ah,ai,dg];exact ak) ?_
     repeat refine sq ?_
     refine av (fun hb=>?_) fun hb=>?_
     ·have dN:i3<M.length:=by simpa using hb
      have ka:(i3:Int)<M.length:=by omega
      clear hb
      repeat refine sq ?_
      refine ax ?_
      repeat refine sq ?_
      refine aH ?_
      repeat refine sq ?_
      refine rx hΓ [7,10,14,15,16,98] [[7,0],[79,0],[105,0]] (fun K' hK=>by simp only[go_sem,ae br,ah,ai,dg,ae dN,ah,ai,ka];exact ak) ?_
      repeat refine sq ?_
      refine av (fun hb=>?_) fun hb=>?_
      ·repeat refine sq ?_
       have hf:fQ M i2 (i3+1)=fQ M i2 i3++[M[i3]]:=by rw[fQ,ck dN,if_neg (by have h:=hb;simp at h;omega)]
       have ad3:=F9 M i2 i3
       repeat refine sq ?_
       refine aM hΓ fun K' hK=>?_
       simp only[go_sem,ae br,ah,ai,dg,ae dN,ah,ai,ka]
       repeat (refine⟨by first | exact ao | exact⟨rfl,by omega,by unfold maxLen;omega⟩,?_⟩)
       refine hK _ ?_
       clear K' hK
       simp only[go_sem]
       refine kp [7,10,14,15,16] [[7,0],[79,0],[105,0]] ?_
       repeat refine sq ?_
       refine aM hΓ fun K' hK=>?_
       simp only[go_sem,ae br,ah,ai,dg,ae dN,ah,ai,ka]
       repeat (refine⟨ao,?_⟩)
       refine hK _ ?_
       clear K' hK
       simp only[go_sem]
       refine⟨i3+1,dN,by(show M.length-(i3+1)<M.length-i3;omega),?_⟩
       refine aY [7,10,14,15,16] [[7,0],[79,0],[105,0]] ?_ ?_<;>simp only[go_sem,aT dN oE,aU,hf,List.map_append,List.map_cons,List.map_nil,List.length_append,List.length_cons,List.length_nil]
      ·repeat refine sq ?_
       have hf:fQ M i2 (i3+1)=fQ M i2 i3:=by rw[fQ,if_pos (by have h:=hb;simp at h;omega)]
       refine ax ?_
       refine bE ?_
       simp only[go_sem]
       refine kp [7,10,14,15,16] [[7,0],[79,0],[105,0]] ?_
       repeat refine sq ?_
       refine aM hΓ fun K' hK=>?_
       simp only[go_sem,ae br,ah,ai,dg,ae dN,ah,ai,ka]
       repeat (refine⟨ao,?_⟩)
       refine hK _ ?_
       clear K' hK
       simp only[go_sem]
       refine⟨i3+1,dN,by(show M.length-(i3+1)<M.length-i3;omega),?_⟩
       refine aY [7,10,14,15,16] [[7,0],[79,0],[105,0]] ?_ ?_<;>simp only[go_sem,aT dN oE,aU,hf,List.map_append,List.map_cons,List.map_nil,List.length_append,List.length_cons,List.length_nil]
     ·have v5:i3=M.length:=by
       have :¬ (i3:Int)<M.length:=by simpa using hb
       omega
      clear hb
      subst v5
      have j9:=QI M i2
      have p9:=F9 M i2 M.length
      have xZ:∀ a∈fQ M i2 M.length,0<=a/\a<(l.ss.length:Int):=fun a ha=>K0 a (AH M.length (Nat.le_refl _) ha)
      repeat refine sq ?_
      refine bp ?_
      simp only[go_sem]
      refine kp [7,10,14,15] [[7,0],[79,0],[105,0]] ?_
      repeat refine sq ?_
      refine rx hΓ [7,10,14,108] [[7,0],[79,0]] (fun K' hK=>by simp only[go_sem,ae br,ah,ai,dg];(repeat (refine⟨by first | exact ao | exact⟨hv,by omega,xZ⟩,?_⟩));exact ct) ?_
      repeat refine sq ?_
      refine av (fun hb=>?_) fun hb=>?_
      ·repeat refine sq ?_
       have e2:kZ l k az=false:=by
        have eE:lJ (aI l k) (M.eraseIdx i2)=true:=by rw[<-j9];exact hb
        rw[CQ,we,Ek (show i2<az.length by omega) (by rw[eE];rfl)];rfl
       repeat refine sq ?_
       refine rx hΓ [6] [] (fun K' hK=>by simp only[go_sem,ae br,ah,ai,dg];exact ak) ?_
       refine au ?_
       simp only[go_sem]
       first | (rw[e];done) | (rw[e,e2];done) | (rw[e,e2];rfl) | trace_state
      ·repeat refine sq ?_
       have eE:lJ (aI l k) (M.eraseIdx i2)=false:=by rw[<-j9];exact hb
       refine ax ?_
       refine bE ?_
       simp only[go_sem]
       refine kp [7,10,14] [[7,0],[79,0]] ?_
       repeat refine sq ?_
       refine aM hΓ fun K' hK=>?_
       simp only[go_sem,ae br,ah,ai,dg]
       repeat (refine⟨ao,?_⟩)
       refine hK _ ?_
       clear K' hK
       simp only[go_sem]
       refine⟨i2+1,⟨br,?_⟩,by(show M.length-(i2+1)<M.length-i2;omega),?_⟩
       ·intro j hj
        rcases Nat.lt_succ_iff_lt_or_eq.1 hj with h5 | rfl
        ·exact hR j h5
        ·exact eE
       refine aY [7,10,14] [[7,0],[79,0]] ?_ ?_<;>simp only[go_sem,aT br oE,aU]
    ·have jB:i2=M.length:=by
      have :¬ (i2:Int)<M.length:=by simpa using hb
      omega
     clear hb
     subst jB
     have e2:kZ l k az=true:=by
      rw[CQ,we,Bool.true_and]
      exact M8 fun j hj=>by rw[hR j (by omega)];rfl
     repeat refine sq ?_
     refine bp ?_
     simp only[go_sem]
     refine kp [] [] ?_
     repeat refine sq ?_
     refine rx hΓ [6] [] (fun K' hK=>by simp only[go_sem];exact ak) ?_
     refine au ?_
     simp only[go_sem]
     first | (rw[e];done) | (rw[e,e2];done) | (rw[e,e2];rfl) | trace_state
end
end Go.Eng
set_option linter.unusedVariables false
namespace Go.Eng
open Go Go.Proofs Go.RowKit Go.Lib Go.Shelf
theorem QB{P:Program}(w:World)(t e ty:TypeId)(z:Value)(ht:P.underlying t=some (.slice e))(hv:bm P e=some z)(h1:∀ v∈z.cells.toList,v.oneCell'=true)(b o c:Nat)
 (hc:∀ j,j<z.cells.size->(w.cell? ⟨b,o+j,none⟩).isSome=true) (hf:∀ j,w.frozen? ⟨b,j,none⟩=false):
 (Builtin.clear_ #[t] ty #[.slice (some ⟨b,o,none⟩) 1 c]).run P w=.ok (.tuple #[]) (w.setCells b o z.cells.toList):=by
 have oA:(Builtin.zeroCells z.cells 1).toList=z.cells.toList:=by
  have :Builtin.zeroCells z.cells 1=z.cells:=by
   apply Array.ext
   ·simp[Builtin.zeroCells]
   ·intro i h1 h2
    simp[Builtin.zeroCells,Nat.mod_eq_of_lt h2]
    rw[getElem!_pos z.cells i h2]
  rw[this]
 have cS:=run_storeCells_cells (P:=P) b o z.cells.toList 0 w (by simpa using hc) (by simpa using fun j _=>hf (o+j)) h1
 simp only[Nat.add_zero]at cS
 simp[Builtin.clear_,run_underlying ht,sZ hv,oA,cS]
set_option maxHeartbeats 4000000 in
set_option maxRecDepth 100000 in
theorem Xg(b off n c i:Nat)(cs:List Value)(w:World)(hi:i<n)(Kp:n<=c)(ad8:c<=9223372036854775807)(cw:cs.length=n*7)
 (gF:∀ j v,cs[j]?=some v->w.cell? ⟨b,off+j,none⟩=some v) (KD:∀ j,w.frozen? ⟨b,j,none⟩=false) (WE:∀ v∈cs,v.oneCell'=true):
 Calls Tryz.prog 131 #[.slice (some ⟨b,off,none⟩) n c,.int .i64 i,.int .i64 (i+1)] w fun e w'=>
  e=.returned (.slice (some ⟨b,off,none⟩) (n-1) c)/\w'=(w.drew.setCells b (off+i*7) (cs.drop ((i+1)*7))).setCells b (off+(n-1)*7) (List.replicate 7 (.int .i64 0)):=by
 have mixed:Tryz.prog.follows Departure.mixedOrders=true:=by kernel_rfl
 have yE:cf Tryz.prog 29=some (81,7,56):=by kernel_rfl
 have V':bm Tryz.prog 81=some (.agg #[.int .i64 0,.int .i64 0,.int .i64 0,.int .i64 0,.int .i64 0,.int .i64 0,.int .i64 0]):=by kernel_rfl
 obtain⟨i0,KB,vH⟩:∃ i0,Tryz.prog.info? 81=some i0/\i0.size=7:=by
  obtain⟨hu,i0,h1,h2,h3⟩:=iQ yE
  exact⟨i0,h1,h2⟩
 obtain⟨news,vQ⟩:∃ news,news=cs.drop ((i+1)*7):=⟨_,rfl⟩
 have hlen:news.length=(n-(i+1))*7:=by rw[vQ,List.length_drop,cw,Nat.sub_mul]
 have BW:∀ j,j<n*7->(w.cell? ⟨b,off+j,none⟩).isSome=true:=fun j hj=>by
  rw[gF j _ (List.getElem?_eq_getElem (by omega))];rfl
 obtain⟨A,hA,b9⟩:∃ A:Addr,(if c=i+1 then some (⟨b,off,none⟩:Addr)else some ⟨b,off+(i+1)*7,none⟩)=some A/\Hid (∀ t u,news[t]?=some u->w.drew.cell? (A.add t)=some u):=by
  by_cases h:c=i+1
  ·refine⟨⟨b,off,none⟩,by simp[h],fun t u hu=>?_⟩
   have h0:news.length=0:=by rw[hlen];have:n-(i+1)=0:=by omega
                             rw[this,Nat.zero_mul]
   rw[List.length_eq_zero_iff.1 h0]at hu
   simp at hu
  ·refine⟨⟨b,off+(i+1)*7,none⟩,by simp[h],fun t u hu=>?_⟩
   rw[Addr.add_lit,Nat.add_assoc]
   exact gF _ _ (by rw[vQ,List.getElem?_drop]at hu;exact hu)
 have s1:Hid (news.length=(n-(i+1))*7):=hlen
 have s2:Hid (∀ u∈news,u.oneCell'=true):=fun u hu=>WE u (List.mem_of_mem_drop (vQ▸hu))
 have s3:Hid (∀ t,t<news.length->(w.drew.cell? ⟨b,off+i*7+t,none⟩).isSome=true/\w.drew.frozen? ⟨b,off+i*7+t,none⟩=false):=by
  intro t ht
  rw[hlen]at ht
  refine⟨?_,KD _⟩
  rw[Nat.add_assoc]
  exact BW _ (by omega)
 obtain⟨W1,wh⟩:∃ W1,W1=w.drew.setCells b (off+i*7) news:=⟨_,rfl⟩
 have kN:∀ j,j<n*7->(W1.cell? ⟨b,off+j,none⟩).isSome=true:=fun j hj=>by
  rw[wh]
  exact isSome_setCells b _ _ _ (fun t ht=>(s3 t ht).1) _ (BW j hj)
 have KO:∀ ty,(Builtin.clear_ #[29] ty #[.slice (some ⟨b,off+(i+(n-(i+1)))*7,none⟩) (n-(i+(n-(i+1)))) (c-(i+(n-(i+1))))]).run Tryz.prog W1=.ok (.tuple #[]) (W1.setCells b (off+(i+(n-(i+1)))*7) (List.replicate 7 (.int .i64 0))):=fun ty=>by
  have e:n-(i+(n-(i+1)))=1:=by omega
  rw[e]
  exact QB W1 29 81 ty _ Tryz.underlying29 V' (by decide) b _ _ (fun j hj=>by rw[Nat.add_assoc];exact kN _ (by have:j<7:=hj;omega)) (fun j=>by rw[wh,World.frozen?_setCells];exact KD _)
 have hW:Hid (W1=w.drew.setCells b (off+i*7) news):=wh
 rw[<-vQ,<-wh]
 have hic:i<=c:=by omega
 have hjc:i+1<=c:=by omega
 have aE:¬ ((i:Int)=(i:Int)+1):=by omega
 have dO:i+1<=n:=by omega
 have nx:(0:Int)<=(i:Int)+1:=by omega
 have j':(i:Int)+1<=(n:Int):=by omega
 clear wh kN BW vQ hlen
 go_enter Tryz.func131,Tryz.ntmps131
 go_wp2_with fail
 go_region_law_o (refine step_append_room rfl (.tmp 22) (.tmp 25) 29 rfl 81 i0 7 Tryz.underlying29 KB vH b off i c (by simp[Act.eval,Act.put]) A (n-(i+1)) (c-(i+1)) news (by simp[Act.eval,Act.put]) s1.out b9.out s2.out (by omega) s3.out ?_;rw[<-hW.out])
 go_wp2
 go_ret
 have e:n-1=i+(n-(i+1)):=by omega
 rw[e]
 exact⟨rfl,rfl⟩
def zS:V:=.agg [.int .i64 0,.int .i64 0,.int .i64 0,.int .i64 0,.int .i64 0,.int .i64 0,.int .i64 0]
def zJ(obj:Name->Option O):List D->R
 |[.msl nm k,.v (.int .i64 i),.v (.int .i64 j)]=>match obj nm with
  |some (.arr sz l)=>⟨k=l.length/\sz=7/\0<=i/\j=i+1/\i.toNat<l.length,.v (.sl (l.eraseIdx i.toNat)),upd obj nm (some (.farr sz (l.eraseIdx i.toNat++[zS])))⟩
  |_=>.bad obj
 |_=>.bad obj
def yU:List D->List Name
 |[.msl nm _,_,_]=>[nm]
 |_=>[]
def S131:Spec:=⟨fun obj _ ds=>zJ obj ds,fun _ _ ds=>yU ds,fun _ _ ds=>yU ds⟩
theorem Dz{l:List V}{i q:Nat}(hi:i<l.length)(h:q<(l.eraseIdx i++[zS]).length):
 (q<i/\∃ h':q<l.length,(l.eraseIdx i++[zS])[q]=l[q])\/(i<=q/\∃ h':q+1<l.length,(l.eraseIdx i++[zS])[q]=l[q+1])\/(q+1=l.length/\(l.eraseIdx i++[zS])[q]=zS):=by
 have hl:(l.eraseIdx i).length=l.length-1:=List.length_eraseIdx_of_lt hi
 have hq:q<l.length:=by simp[hl]at h;omega
 by_cases h1:q<l.length-1
 ·rw[List.getElem_append_left (by omega),List.getElem_eraseIdx]
  by_cases h2:q<i
  ·exact .inl ⟨h2,hq,by rw[dif_pos h2]⟩
  ·exact .inr (.inl ⟨by omega,by omega,by rw[dif_neg h2]⟩)
 ·refine .inr (.inr ⟨by omega,?_⟩)
  rw[List.getElem_append_right (by omega)]
  simp
theorem Xf:S131.Near:=by
 refine⟨fun obj obj2 t ds h=>?_,fun obj obj2 t ds h=>rfl,fun obj t ds nm hn=>hn,fun obj obj2 t ds h=>rfl⟩
 simp only[S131]at h |-
 unfold zJ
 split
 ·rename_i nm k i j
  have h':obj2 nm=obj nm:=h nm (by simp[yU])
  simp only[h']
  split
  ·exact .one (by simp[yU]) h
  ·exact .none _ h
 ·exact .none _ h
set_option maxHeartbeats 1000000 in
theorem T7:aR Tryz.prog 131 S131:=by
 refine⟨Xf,fun _ args w=>iK Tryz.func131 rfl (by kernel_rfl) args w,fun _ G φ m σ a w hC t ds us _ hl hr aa=>?_,fun e=>(Nat.ne_of_lt (show (131:Nat)<yid by decide) e).elim⟩
 simp only[S131,zJ]at aa |-
 split at aa
 case h_2=>exact aa.elim
 rename_i nm k i j
 simp only[List.length_cons,List.length_nil]at hl
 have r0:=hr 0 (by simp) (by omega)
 have r1:=hr 1 (by simp) (by omega)
 have r2:=hr 2 (by simp) (by omega)
 simp only[List.getElem_cons_zero,List.getElem_cons_succ]at r0 r1 r2
 have rv:us= #[us[0],us[1],us[2]]:=by
  apply Array.ext
  ·simp;omega
  ·intro j h1 h2
   have :j=0\/j=1\/j=2:=by omega
   rcases this with rfl | rfl | rfl<;>rfl
 rw[rv]
 generalize us[0]=u0 at r0
 generalize us[1]=u1 at r1
 generalize us[2]=u2 at r2
 clear rv hr hl us
 cases r1 with
 |v _ _ r1=>
 cases r1 with
 |int _ _=>
 cases r2 with
 |v _ _ r2=>
 cases r2 with
 |int _ _=>
 split at aa
 case h_2=>exact aa.elim
 rename_i sz l aA
 obtain⟨hk,dF,KB,hj,i7⟩:=aa
 subst dF hj
 cases r0 with
 |msl _ _ _ hh nw=>
 obtain⟨o,nn,c5,hlen,_,c8⟩:=hh
 rw[aA]at c5;cases c5
 simp only[O.len?,Option.some.injEq]at hlen
 subst hlen
 have hv:=c8 hk
 subst hk
 obtain⟨i,rfl⟩:∃ n:Nat,i=(n:Int):=⟨i.toNat,by omega⟩
 simp only[Int.toNat_natCast]at i7 |-
 rcases hC.objs nm _ aA with⟨_,mz⟩ | ⟨g0,g1,g2,g3,g4,bC,T',f,g5,g6,g7,g8⟩
 ·subst mz;simp at i7
 have jD:(φ nm).blk<w.heap.size:=(Array.getElem?_eq_some_iff.1 g5).1
 have Ux:u0=.slice (some ⟨(φ nm).blk,(φ nm).off,none⟩) l.length (φ nm).cap:=by rw[hv];simp only[Loc.slice,g0];rfl
 subst Ux
 have tR:holds φ σ.obj nm:=⟨_,aA,rfl,g0⟩
 obtain⟨c1,CS⟩:∃ c1:Nat->Nat->Value,∀ q j,q<l.length->j<7->bC[(φ nm).off+q*7+j]?=some (c1 q j):=⟨fun q j=>(bC[(φ nm).off+q*7+j]?).getD undef,fun q j hq hj=>by
  obtain⟨c,x1,_⟩:=g8 q j hq (by rw[g3];exact hj)
  simp only[x1,Option.getD_some]⟩
 have dm:∀ q j (h:q<l.length) (h':j<l[q].cells.length),aO m l[q].cells[j] (c1 q j):=fun q j h h'=>by
  obtain⟨c,x1,x2⟩:=g8 q j h h'
  have :=CS q j h (by rw[<-g3 q h];exact h')
  rw[x1]at this;cases this;exact x2
 have VP:∀ j v,(rowOf c1 l.length 7)[j]?=some v->w.cell? ⟨(φ nm).blk,(φ nm).off+j,none⟩=some v:=fun j v Vb=>by
  have :=xj (w:=w) (c:=c1) (n:=l.length) (sz:=7) (blk:=(φ nm).blk) (o:=(φ nm).off) (fun q j hq hj=>by rw[o5 g5];exact CS q j hq hj) j v Vb
  rwa [mV]at this
 have UP:∀ v∈rowOf c1 l.length 7,v.oneCell'=true:=by
  intro v hv
  simp only[rowOf,List.mem_map,List.mem_range]at hv
  obtain⟨k,hk,rfl⟩:=hv
  obtain⟨d1,d2⟩:=Dx hk
  exact AZ ((dm _ _ d1 (by rw[g3];exact d2)).one (g4 _ d1 _ (List.getElem_mem _)))
 refine(Xg (φ nm).blk (φ nm).off l.length (φ nm).cap i (rowOf c1 l.length 7) w i7 g1 (by unfold maxLen at g2;omega) (fK _ _ _) VP (fun j=>Lk g5 g6) UP).mono ?_
 rintro e w' ⟨rfl,rfl⟩
 obtain⟨EY,k1,k2,k3⟩:=Ap (φ nm).blk T' f ((rowOf c1 l.length 7).drop ((i+1)*7)) ((φ nm).off+i*7) w.drew bC g5
 obtain⟨uO,k4,k5,k6⟩:=Ap (φ nm).blk T' f (List.replicate 7 (.int .i64 0)) ((φ nm).off+(l.length-1)*7) (bZ w.drew (φ nm).blk (.cells EY T' f)) EY (l3 jD)
 rw[k1,k4,zX]
 have hL:(l.eraseIdx i++[zS]).length=l.length:=by simp[List.length_eraseIdx_of_lt i7];omega
 have p8:∀ q (h:q<(l.eraseIdx i++[zS]).length),(l.eraseIdx i++[zS])[q].cells.length=7:=fun q h=>by
  rcases Dz i7 h with⟨_,h',e⟩ | ⟨_,h',e⟩ | ⟨_,e⟩<;>rw[e]
  ·exact g3 _ _
  ·exact g3 _ _
  ·rfl
 have tM:∀ q (h:q<(l.eraseIdx i++[zS]).length),∀ x∈(l.eraseIdx i++[zS])[q].cells,x.one=true:=fun q h=>by
  rcases Dz i7 h with⟨_,h',e⟩ | ⟨_,h',e⟩ | ⟨_,e⟩<;>rw[e]
  ·exact g4 _ _
  ·exact g4 _ _
  ·intro x hx
   simp only[zS,V.cells,List.mem_cons,List.not_mem_nil,or_false,or_self]at hx
   subst hx;rfl
 have KP:l.length*7<=(φ nm).cap*7:=Nat.mul_le_mul_right _ g1
 have lF:∀ q j (h:q<(l.eraseIdx i++[zS]).length) (h':j<(l.eraseIdx i++[zS])[q].cells.length),∃ c,uO[(φ nm).off+q*7+j]?=some c/\aO m (l.eraseIdx i++[zS])[q].cells[j] c:=by
  intro q j h h'
  have hq:q<l.length:=by rw[<-hL];exact h
  have hj:j<7:=by rw[<-p8 q h];exact h'
  rw[k6 _ (by rw[k2];omega),k3 _ (by omega)]
  simp only[List.length_replicate,List.length_drop,fK]
  rcases Dz i7 h with⟨h1,h2,e⟩ | ⟨h1,h2,e⟩ | ⟨h1,e⟩
  ·simp only[e]at h' |-
   rw[if_neg (by omega),if_neg (by omega)]
   exact⟨_,CS q j h2 hj,dm q j h2 h'⟩
  ·simp only[e]at h' |-
   rw[if_neg (by omega),if_pos (by omega),List.getElem?_drop,show (i+1)*7+((φ nm).off+q*7+j-((φ nm).off+i*7))=(q+1)*7+j by omega]
   exact⟨_,pC c1 h2 hj,dm (q+1) j h2 h'⟩
  ·simp only[e]at h' |-
   rw[if_pos (by omega)]
   refine⟨.int .i64 0,by rw[List.getElem?_replicate,if_pos (by omega)],?_⟩
   have hz:zS.cells[j]=.int .i64 0:=by
    have :zS.cells=List.replicate 7 (.int .i64 0):=rfl
    simp only[this,List.getElem_replicate]
   rw[hz]
   exact .int _ _
 have hx:=Ext.same (φ:=φ) (o':=.arr 7 (l.eraseIdx i++[zS])) aA (by simp only[O.len?,hL]) rfl
 have fN:=hC.chg (w':=bZ w.drew (φ nm).blk (.cells uO T' f)) nm (.arr 7 (l.eraseIdx i++[zS])) (φ nm) hx ⟨rfl,rfl,rfl,by rw[NX];exact Nat.le_refl _⟩
  (fun b' dh hn=>by
    rw[nS (by rcases hn with h | h; · rw[g0]at h;cases h
              ·exact h)]
    rfl) (fun _=>.inr ⟨tR,rfl⟩)
  (.inr ⟨g0,by rw[hL];exact g1,g2,p8,tM,uO,T',f,l3 jD,g6,by rw[k5,k2];exact g7,lF⟩)
 rw[fJ]at fN hx
 obtain⟨m',q1,q2,q3⟩:=fN.frz1 nm (.arr 7 (l.eraseIdx i++[zS])) (.farr 7 (l.eraseIdx i++[zS])) (aS _ _ _) rfl g0 uO T' f (l3 jD) rfl rfl rfl
  (fun m' hle gn=>.inr ⟨g0,⟨by rw[hL];exact g1,by rw[hL];exact Nat.le_trans g1 g2⟩,p8,tM,fun i j a b=>let ⟨c,x,y⟩:=lF i j a b;⟨c,gn _ _ x,y.mono hle⟩⟩)
 simp only[sO]at q2
 have p6:Ext φ φ σ.obj (upd σ.obj nm (some (.farr 7 (l.eraseIdx i++[zS])))):=by
  have :=Ext.same (φ:=φ) (o':=.farr 7 (l.eraseIdx i++[zS])) aA (by simp only[O.len?,hL]) rfl
  rwa [fJ]at this
 refine⟨_,φ,m',rfl,q2,.v _ _ ?_,p6⟩
 have oJ:(l.eraseIdx i).length=l.length-1:=List.length_eraseIdx_of_lt i7
 rw[<-oJ]
 by_cases Km:l.eraseIdx i=[]
 ·rw[Km];exact .slnil _ _
 ·have mD:∀ q (h:q<(l.eraseIdx i).length),(l.eraseIdx i++[zS])[q]'(by rw[List.length_append];omega)=(l.eraseIdx i)[q]:=fun q h=>List.getElem_append_left h
  refine .sl _ _ _ _ 7 (fun q j=>(uO[(φ nm).off+q*7+j]?).getD undef) Km (by rw[oJ];omega) (by rw[oJ];omega) (fun q h=>?_) (fun q j h hj=>?_) (fun q j h hj=>?_) (fun q h=>?_)
  ·rw[<-mD q h];exact p8 _ _
  ·obtain⟨c,x,y⟩:=lF q j (by rw[List.length_append];omega) (by rw[p8];exact hj)
   rw[x];exact q3 _ _ x
  ·have hg:=mD q h
   simp only[<-hg]at hj |-
   obtain⟨c,x,y⟩:=lF q j (by rw[List.length_append];omega) hj
   rw[x];exact y.mono q1
  ·rw[<-mD q h];exact tM _ _
open Go Go.Proofs
set_option maxRecDepth 10000
noncomputable section
attribute [go_sem] S131 zJ
def lr(l:Led)(k:Int)(az:List Int)(s:Nat):List Sig:=((aX l k).take s).filter fun x=>az.contains x.so
theorem Fv(l:Led)(k:Int)(az:List Int)(s:Nat):(lr l k az s).length<=(aX l k).length:=by
 unfold lr;exact Nat.le_trans (List.length_filter_le _ _) (by simp;omega)
theorem OL{l:Led}{k:Int}{az:List Int}{s:Nat}(h:s<(aX l k).length)(hc:az.contains (aX l k)[s].so=true):lr l k az (s+1)=lr l k az s++[(aX l k)[s]]:=by
 unfold lr;rw[uU h,if_pos hc]
theorem OM{l:Led}{k:Int}{az:List Int}{s:Nat}(h:s<(aX l k).length)(hc:az.contains (aX l k)[s].so=false):lr l k az (s+1)=lr l k az s:=by
 unfold lr;rw[uU h,if_neg (by rw[hc];decide)];simp
def gf(l:Led)(k:Int)(az:List Int):List Sig:=(aX l k).filter fun x=>az.contains x.so
theorem Fw(l:Led)(k:Int)(az:List Int):lr l k az (aX l k).length=gf l k az:=by unfold lr gf;rw[List.take_length]
def qv(l:Led)(k:Int)(az:List Int):Bool:=((gf l k az).length==az.length&&(jU az&&!ei (aF l k) (gf l k az)))&&(List.range (gf l k az).length).all fun i=>ei (aF l k) ((gf l k az).eraseIdx i)
def o4(l:Led)(k:Int)(az:List Int):Int:=if ff l k=0 then bH (qv l k az) 28 else ff l k
theorem YV{n:Nat}{p:Nat->Bool}{i:Nat}(hi:i<n)(h:p i=false):(List.range n).all p=false:=by
 rw[Bool.eq_false_iff]
 intro h2
 rw[List.all_eq_true]at h2
 have :=h2 i (List.mem_range.2 hi)
 rw[h]at this;cases this
theorem YU{n:Nat}{p:Nat->Bool}(h:∀ i,i<n->p i=true):(List.range n).all p=true:=by
 rw[List.all_eq_true]
 exact fun i hi=>h i (List.mem_range.1 hi)
theorem Dp{α β:Type}(f:α->β):∀ (l:List α) (i:Nat),(l.map f).eraseIdx i=(l.eraseIdx i).map f
 |[],_=>by simp
 |_::_,0=>rfl
 |a::r,i+1=>by simp[Dp f r i]
def K92:List (Nat×Spec):=[(75,m5),(121,S121),(122,S122),(108,wO),(130,NF),(123,NG),(131,S131),(132,S132)]
theorem Z7:KS K92:=tc Ar.sound<|tc BM<|tc BL<|tc xh.sound<|tc F0.sound<|tc F1.sound<|tc T7<|tc JK<|tn
attribute [go_sem] K92
@[go_sem] def P51:PSpec:=p3 iL iI cH (fun _ _ _=>True) (fun l k az=>vInt (o4 l k az)) true
@[go_sem] def Zq:Spec:=P51.toSpec
set_option maxHeartbeats 8000000 in
theorem PL:aN Tryz.prog 51 P51:=by
 refine gO (rs:=[.tmp 6]) Tryz.func51 Tryz.ntmps51 fun l k az hp hw=>?_
 simp only[iI,cH,iL,dA]at hw |-
 have hΓ:=Z7
 repeat refine sq ?_
 refine rx hΓ [1,2,3] [[3,0]] (fun K' hK=>by simp only[go_sem];exact ak) ?_
 refine dp (gy 3 (.ref [3,0] 0) (by simp only[go_sem]) (by simp only[go_sem]) [1,2,3] [[3,0]] ?_ rfl) ?_
 ·simp only[go_sem]
 simp only[go_sem]
 repeat refine sq ?_
 refine rx hΓ [1,2,3,7] [[3,0]] (fun K' hK=>by simp only[go_sem];exact ak) ?_
 repeat refine sq ?_
 refine rx hΓ [1,2,3,7,19] [[3,0]] (fun K' hK=>by simp only[go_sem];exact ak) ?_
 repeat refine sq ?_
 refine av (fun hb=>?_) fun hb=>?_
 ·repeat refine sq ?_
  have hc:¬ cI l [k]=0:=by simpa using hb
  have h1:ff l k=cI l [k]:=by unfold ff;rw[if_neg hc]
  have e:o4 l k az=cI l [k]:=by unfold o4;rw[h1,if_neg hc]
  repeat refine sq ?_
  refine rx hΓ [6] [] (fun K' hK=>by simp only[go_sem];exact ak) ?_
  refine au ?_
  simp only[go_sem]
  first | (rw[e];done) | (rw[e];rfl) | (rw[e,e2];done) | (rw[e,e2];rfl) | trace_state
 ·repeat refine sq ?_
  have hc:cI l [k]=0:=by simpa using hb
  obtain⟨aa,_⟩:=qs hc
  refine ax ?_
  rcases bq:dR (aF l k)with _ | p
  ·have h1:ff l k=0:=by unfold ff;rw[if_pos hc,bq];rfl
   have e:o4 l k az=bH (qv l k az) 28:=by unfold o4;rw[if_pos h1]
   obtain⟨hv,cq⟩:=oe aa k
   obtain⟨kN,lA⟩:=An hv.ok k
   rw[oh]at kN lA
   have kM:=aa.ssn
   have hl:(aX l k).length<=maxLen:=by unfold maxLen;omega
   repeat refine sq ?_
   refine rx hΓ [1,2,3,8,9] [[3,0],[26,0,11,0,23,0],[23,0,11,0,23,0],[24,0,11,0,23,0]] (fun K' hK=>by simp only[go_sem,bq,cD,cC];(repeat (refine⟨by first | exact ao | exact aa,?_⟩));exact ct) ?_
   repeat refine sq ?_
   refine rx hΓ [1,2,3,8,9,27] [[3,0],[26,0,11,0,23,0],[23,0,11,0,23,0],[24,0,11,0,23,0]] (fun K' hK=>by simp only[go_sem,bq,cD,cC];exact ak) ?_
   repeat refine sq ?_
   refine av (fun hb=>?_) fun hb=>?_
   ·cases hb
   ·repeat refine sq ?_
    refine ax ?_
    repeat refine sq ?_
    refine rx hΓ [1,2,3,8,10] [[3,0],[44,0],[26,0,11,0,23,0],[23,0,11,0,23,0],[24,0,11,0,23,0]] (fun K' hK=>by simp only[go_sem,bq,cD,cC];exact ak) ?_
    refine dp (pk 10 [44,0] 7 (by simp only[go_sem]) (by simp only[go_sem]) [1,2,3,8,10] [[3,0],[44,0],[26,0,11,0,23,0],[23,0,11,0,23,0],[24,0,11,0,23,0]] ?_ rfl) ?_
    ·simp only[go_sem]
    simp only[go_sem]
    repeat refine sq ?_
    refine rx hΓ [1,2,3,10,31,32,33] [[3,0],[44,0]] (fun K' hK=>by simp only[go_sem,bq,cD,cC,oh];(repeat (refine⟨by first | exact ao | rw[oh];exact kM,?_⟩));exact ct) ?_
    repeat refine sq ?_
    refine aH ?_
    repeat refine sq ?_
    refine bB (fun s:Nat=>[(33,⟨true,.v (vInt s)⟩),(10,⟨true,.msl [44,0] (lr l k az s).length⟩)]) (fun s=>[([44,0],.arr 7 ((lr l k az s).map encS))]) (fun s=>s<=(aX l k).length) (fun s=>(aX l k).length-s) 0 ?_ ?_ ?_ ?_
    ·exact Nat.zero_le _
    ·rfl
    ·rfl
    rintro i hi
    simp only[go_sem]
    repeat refine sq ?_
    refine rx hΓ [1,2,3,10,31,32,33,34] [[3,0],[44,0]] (fun K' hK=>by simp only[go_sem,bq,cD,cC];exact ak) ?_
    repeat refine sq ?_
    refine av (fun hb=>?_) fun hb=>?_
    ·have ab:i<(aX l k).length:=by simpa using hb
     have an:(i:Int)<(aX l k).length:=by omega
     clear hb
     have fW:=Fv l k az i
     repeat refine sq ?_
     refine ax ?_
     repeat refine sq ?_
     refine aH ?_
     repeat refine sq ?_
     refine rx hΓ [1,2,3,10,12,31,32,33] [[3,0],[12,0],[44,0]] (fun K' hK=>by simp only[go_sem,bq,cD,cC,ae ab,ah,ai,an];exact ak) ?_
     repeat refine sq ?_
     refine rx hΓ [1,2,3,10,12,31,32,33,40] [[3,0],[12,0],[44,0]] (fun K' hK=>by simp only[go_sem,bq,cD,cC,ae ab,ah,ai,an];exact ak) ?_
     repeat refine sq ?_
     refine av (fun hb=>?_) fun hb=>?_
     ·repeat refine sq ?_
      have hf:=OL ab hb
      repeat refine sq ?_
      refine aM hΓ fun K' hK=>?_
      simp only[go_sem,bq,cD,cC,ae ab,ah,ai,an]
      repeat (refine⟨by first | exact ao | exact⟨rfl,by omega,by unfold maxLen;omega⟩,?_⟩)
      refine hK _ ?_
      clear K' hK
      simp only[go_sem]
      refine kp [1,2,3,10,31,32,33] [[3,0],[44,0]] ?_
      repeat refine sq ?_
      refine aM hΓ fun K' hK=>?_
      simp only[go_sem,bq,cD,cC,ae ab,ah,ai,an]
      repeat (refine⟨ao,?_⟩)
      refine hK _ ?_
      clear K' hK
      simp only[go_sem]
      refine⟨i+1,ab,by(show (aX l k).length-(i+1)<(aX l k).length-i;omega),?_⟩
      refine aY [1,2,3,10,31,32,33] [[3,0],[44,0]] ?_ ?_<;>simp only[go_sem,aT ab hl,aU,hf,List.map_append,List.map_cons,List.map_nil,List.length_append,List.length_cons,List.length_nil]
     ·repeat refine sq ?_
      have hf:=OM ab hb
      refine ax ?_
      refine bE ?_
      simp only[go_sem]
      refine kp [1,2,3,10,31,32,33] [[3,0],[44,0]] ?_
      repeat refine sq ?_
      refine aM hΓ fun K' hK=>?_
      simp only[go_sem,bq,cD,cC,ae ab,ah,ai,an]
      repeat (refine⟨ao,?_⟩)
      refine hK _ ?_
      clear K' hK
      simp only[go_sem]
      refine⟨i+1,ab,by(show (aX l k).length-(i+1)<(aX l k).length-i;omega),?_⟩
      refine aY [1,2,3,10,31,32,33] [[3,0],[44,0]] ?_ ?_<;>simp only[go_sem,aT ab hl,aU,hf,List.map_append,List.map_cons,List.map_nil,List.length_append,List.length_cons,List.length_nil]
    ·have be:i=(aX l k).length:=by
      have :¬ (i:Int)<(aX l k).length:=by simpa using hb
      omega
     clear hb
     subst be
     repeat refine sq ?_
     refine bp ?_
     simp only[go_sem]
     refine kp [1,2,3,10] [[3,0],[44,0]] ?_
     rw[Fw]
     have fW:=Fv l k az (aX l k).length
     rw[Fw]at fW
     have jz:∀ x∈gf l k az,pz x:=fun x hx=>lA x ((List.mem_filter.1 hx).1)
     have CP:qv l k az=(((gf l k az).length==az.length&&(jU az&&!ei (aF l k) (gf l k az)))&&(List.range (gf l k az).length).all fun i=>ei (aF l k) ((gf l k az).eraseIdx i)):=rfl
     generalize gf l k az=M at *
     have oE:M.length<=maxLen:=by unfold maxLen;omega
     have aE:((M.length:Int)==(az.length:Int))=(M.length==az.length):=by rw[Bool.eq_iff_iff];simp;omega
     repeat refine sq ?_
     refine rx hΓ [1,3,10,60] [[3,0],[44,0]] (fun K' hK=>by simp only[go_sem,bq,cD,cC];(repeat (refine⟨by first | exact ao | exact fun _=>⟨⟨aa,by omega⟩,jz⟩,?_⟩));exact ct) ?_
     repeat refine sq ?_
     refine av (fun hb=>?_) fun hb=>?_
     ·repeat refine sq ?_
      have e2:qv l k az=false:=by
       rw[CP]
       simp only[bne,aE]at hb
       revert hb
       cases (M.length==az.length)<;>cases jU az<;>cases ei (aF l k) M<;>simp
      repeat refine sq ?_
      refine rx hΓ [6] [] (fun K' hK=>by simp only[go_sem,bq,cD,cC];exact ak) ?_
      refine au ?_
      simp only[go_sem]
      first | (rw[e];done) | (rw[e];rfl) | (rw[e,e2];done) | (rw[e,e2];rfl) | trace_state
     ·repeat refine sq ?_
      have we:((M.length==az.length)&&(jU az&&!ei (aF l k) M))=true:=by
       simp only[bne,aE]at hb
       revert hb
       cases (M.length==az.length)<;>cases jU az<;>cases ei (aF l k) M<;>simp
      refine ax ?_
      repeat refine sq ?_
      refine rx hΓ [1,3,10,62,63] [[3,0],[44,0]] (fun K' hK=>by simp only[go_sem,bq,cD,cC];exact ak) ?_
      repeat refine sq ?_
      refine aH ?_
      repeat refine sq ?_
      refine bB (fun s:Nat=>[(63,⟨true,.v (vInt s)⟩)]) (fun s=>[]) (fun s=>s<=M.length/\∀ j,j<s->ei (aF l k) (M.eraseIdx j)=true) (fun s=>M.length-s) 0 ?_ ?_ ?_ ?_
      ·exact⟨Nat.zero_le _,fun a h=>by omega⟩
      ·rfl
      ·rfl
      rintro i1 ⟨hi,hR⟩
      simp only[go_sem]
      repeat refine sq ?_
      refine rx hΓ [1,3,10,62,63,64] [[3,0],[44,0]] (fun K' hK=>by simp only[go_sem,bq,cD,cC];exact ak) ?_
      repeat refine sq ?_
      refine av (fun hb=>?_) fun hb=>?_
      ·have ay:i1<M.length:=by simpa using hb
       have aQ:(i1:Int)<M.length:=by omega
       clear hb
       have Wt:(M.map encS).eraseIdx i1=(M.eraseIdx i1).map encS:=Dp encS M i1
       have mr:IntKind.i64.wrap ((i1:Int)+1)=(i1:Int)+1:=by rw[wrap_i64 (by omega) (by omega)]
       have oJ:(M.eraseIdx i1).length<=60:=by rw[List.length_eraseIdx_of_lt ay];omega
       have Vy:∀ x∈M.eraseIdx i1,pz x:=fun x hx=>jz x (List.mem_of_mem_eraseIdx hx)
       repeat refine sq ?_
       refine ax ?_
       repeat refine sq ?_
       refine aH ?_
       repeat refine sq ?_
       refine rx hΓ [1,3,10,13,62,63] [[3,0],[44,0]] (fun K' hK=>by simp only[go_sem,bq,cD,cC,ae ay,ah,ai,aQ];exact ak) ?_
       repeat refine sq ?_
       refine rx hΓ [1,3,10,62,63,74] [[3,0],[44,0]] (fun K' hK=>by simp only[go_sem,bq,cD,cC,ae ay,ah,ai,aQ,Wt,mr,sg,ay,List.length_map];(repeat (refine⟨by first | exact ao | exact⟨⟨aa,oJ⟩,Vy⟩,?_⟩));exact ct) ?_
       repeat refine sq ?_
       refine av (fun hb=>?_) fun hb=>?_
       ·repeat refine sq ?_
        have eE:ei (aF l k) (M.eraseIdx i1)=false:=by simpa using hb
        have e2:qv l k az=false:=by rw[CP,we,YV ay eE];rfl
        repeat refine sq ?_
        refine rx hΓ [6] [] (fun K' hK=>by simp only[go_sem,bq,cD,cC,ae ay,ah,ai,aQ];exact ak) ?_
        refine au ?_
        simp only[go_sem]
        first | (rw[e];done) | (rw[e];rfl) | (rw[e,e2];done) | (rw[e,e2];rfl) | trace_state
       ·repeat refine sq ?_
        have eE:ei (aF l k) (M.eraseIdx i1)=true:=by simpa using hb
        refine ax ?_
        refine bE ?_
        simp only[go_sem]
        refine kp [1,3,10,62,63] [[3,0],[44,0]] ?_
        repeat refine sq ?_
        refine aM hΓ fun K' hK=>?_
        simp only[go_sem,bq,cD,cC,ae ay,ah,ai,aQ]
        repeat (refine⟨ao,?_⟩)
        refine hK _ ?_
        clear K' hK
        simp only[go_sem]
        refine⟨i1+1,⟨ay,?_⟩,by(show M.length-(i1+1)<M.length-i1;omega),?_⟩
        ·intro j hj
         rcases Nat.lt_succ_iff_lt_or_eq.1 hj with h5 | rfl
         ·exact hR j h5
         ·exact eE
        refine aY [1,3,10,62,63] [[3,0],[44,0]] ?_ ?_<;>simp only[go_sem,aT ay oE,aU]
      ·have er:i1=M.length:=by
        have :¬ (i1:Int)<M.length:=by simpa using hb
        omega
       clear hb
       subst er
       have e2:qv l k az=true:=by rw[CP,we,YU hR];rfl
       repeat refine sq ?_
       refine bp ?_
       simp only[go_sem]
       refine kp [] [] ?_
       repeat refine sq ?_
       refine rx hΓ [6] [] (fun K' hK=>by simp only[go_sem,bq,cD,cC];exact ak) ?_
       refine au ?_
       simp only[go_sem]
       first | (rw[e];done) | (rw[e];rfl) | (rw[e,e2];done) | (rw[e,e2];rfl) | trace_state
  ·have h1:ff l k=25:=by unfold ff;rw[if_pos hc,bq];rfl
   have e:o4 l k az=25:=by unfold o4;rw[h1];rfl
   repeat refine sq ?_
   refine rx hΓ [1,2,3,8,9] [[3,0],[26,0,11,0,23,0],[23,0,11,0,23,0],[24,0,11,0,23,0]] (fun K' hK=>by simp only[go_sem,bq,nN,nM];(repeat (refine⟨by first | exact ao | exact aa,?_⟩));exact ct) ?_
   repeat refine sq ?_
   refine rx hΓ [1,2,3,8,9,27] [[3,0],[26,0,11,0,23,0],[23,0,11,0,23,0],[24,0,11,0,23,0]] (fun K' hK=>by simp only[go_sem,bq,nN,nM];exact ak) ?_
   repeat refine sq ?_
   refine av (fun hb=>?_) fun hb=>?_
   ·repeat refine sq ?_
    refine rx hΓ [6] [] (fun K' hK=>by simp only[go_sem,bq,nN,nM];exact ak) ?_
    refine au ?_
    simp only[go_sem]
    first | (rw[e];done) | (rw[e];rfl) | (rw[e,e2];done) | (rw[e,e2];rfl) | trace_state
   ·cases hb
end
theorem Fq{α:Type}{f:α->Int}:∀ {A B:List α},A.Pairwise (fun a b=>f a<f b)->B.Pairwise (fun a b=>f a<f b)->(∀ x,x∈A↔x∈B)->A=B
 |[],[],_,_,_=>rfl
 |[],b::B,_,_,h=>absurd ((h b).2 (by simp)) (by simp)
 |a::A,[],_,_,h=>absurd ((h a).1 (by simp)) (by simp)
 |a::A,b::B,hA,hB,h=>by
  rw[List.pairwise_cons]at hA hB
  have e:a=b:=by
   have h1:=(h a).1 (by simp)
   have h2:=(h b).2 (by simp)
   rcases List.mem_cons.1 h1 with h1 | h1
   ·exact h1
   ·rcases List.mem_cons.1 h2 with h2 | h2
    ·exact h2.symm
    ·have h3:=hA.1 b h2
     have h4:=hB.1 a h1
     omega
  subst e
  rw[Fq hA.2 hB.2 fun x=>⟨fun hx=>?_,fun hx=>?_⟩]
  ·rcases List.mem_cons.1 ((h x).1 (by simp[hx]))with h1 | h1
   ·subst h1;exact absurd (hA.1 x hx) (Int.lt_irrefl _)
   ·exact h1
  ·rcases List.mem_cons.1 ((h x).2 (by simp[hx]))with h1 | h1
   ·subst h1;exact absurd (hB.1 x hx) (Int.lt_irrefl _)
   ·exact h1
theorem Fj:∀ (A T:List Int),A.Nodup->(∀ a∈A,a∈T)->T.length<=A.length->∀ t∈T,t∈A
 |[],T,_,_,hl,t,ht=>by
  have :=List.length_pos_of_mem ht
  simp at hl;subst hl;cases ht
 |a::A,T,hn,h,hl,t,ht=>by
  rw[List.nodup_cons]at hn
  have h1:=h a (by simp)
  by_cases e:t=a
  ·subst e;simp
  ·have h2:=Fj A (T.erase a) hn.2 (fun x hx=>(List.mem_erase_of_ne (by rintro rfl;exact hn.1 hx)).2 (h x (by simp[hx]))) (by rw[List.length_erase_of_mem h1];simp at hl;omega) t ((List.mem_erase_of_ne e).2 ht)
   simp[h2]
theorem LF{l:Led}{S:List Int}{b:Int}(hS:∀ a∈S,0<=a):∀ s,s<=S.length->iG l S b s<0->∀ i (hi:i<S.length),i<s->(cU l (S[i]).toNat).so≠b
 | 0,_,_,i,_,h=>absurd h (Nat.not_lt_zero i)
 |s+1,hs,h,i,hi,vV=>by
  have ep:s<S.length:=by omega
  unfold iG at h
  rw[ck ep]at h
  split at h
  ·have:=hS _ (List.getElem_mem ep);omega
  ·rename_i e
   by_cases e2:i=s
   ·subst e2;simpa using e
   ·exact LF hS s (by omega) h i hi (by omega)
def px(l:Led)(a:Int):Sig:=cU l a.toNat
theorem Rm{α:Type}{fO:α->Bool}{num:α->Int}{l:List α}(h:jf fO num l=true):l.Pairwise fun a b=>num a<num b:=by
 have h:=gb.1 h
 rw[List.pairwise_iff_getElem]
 intro i j hi hj bD
 induction j with
 |zero=>omega
 |succ j ih=>
  have h1:=(h (j+1) hj hj).2 (by omega)
  simp only[Nat.add_sub_cancel]at h1
  by_cases e:i=j
  ·subst e;exact h1
  ·exact Int.lt_trans (ih (by omega) (by omega)) h1
theorem FC{l:Led}(aa:bx l)(k:Int):(aX l k).Pairwise fun a b=>a.so<b.so:=by
 unfold aX
 exact(Rm aa.ss).filter _
theorem QX{l:List Sig}(h:l.Pairwise fun a b=>a.so<b.so){x y:Sig}(hx:x∈l)(hy:y∈l)(e:x.so=y.so):x=y:=by
 obtain⟨i,hi,rfl⟩:=List.getElem_of_mem hx
 obtain⟨j,hj,rfl⟩:=List.getElem_of_mem hy
 rw[List.pairwise_iff_getElem]at h
 rcases Nat.lt_trichotomy i j with h1 | h1 | h1
 ·have:=h i j hi hj h1;omega
 ·subst h1;rfl
 ·have:=h j i hj hi h1;omega
theorem Fu{l:Led}(aa:bx l)(k:Int){az:List Int}(h:∀ j,j<az.length->im l (dt l k) az j=true):(gQ l (dt l k) az az.length).map (px l)=gf l k az:=by
 have hT:(dt l k).map (px l)=aX l k:=xd l k
 have Kg:=Hf (Nat.le_refl _) h
 rw[List.take_length]at Kg
 have p7:∀ b∈az,(px l (oT l (dt l k) b)).so=b/\px l (oT l (dt l k) b)∈aX l k:=fun b hb=>by
  obtain⟨j,hj,rfl⟩:=List.getElem_of_mem hb
  have h2:=((nj hj).1 (h j hj)).1
  refine⟨Dh l _ _ _ h2,?_⟩
  rw[<-hT]
  refine List.mem_map_of_mem ?_
  rcases yP l (dt l k) az[j] (dt l k).length (Nat.le_refl _)with h3 | h3
  ·rw[h3]at h2;exact absurd (by decide) h2
  ·exact h3
 have eF:(gQ l (dt l k) az az.length).map (px l)=az.map fun b=>px l (oT l (dt l k) b):=by
  unfold gQ;rw[List.take_length,List.map_map];rfl
 rw[eF]
 have hK:=FC aa k
 refine Fq (f:=Sig.so) ?_ (hK.filter _) fun x=>⟨fun hx=>?_,fun hx=>?_⟩
 ·rw[List.pairwise_map]
  exact Kg.imp_of_mem fun ha hb lG=>by rw[(p7 _ ha).1,(p7 _ hb).1];exact lG
 ·obtain⟨b,hb,rfl⟩:=List.mem_map.1 hx
  unfold gf
  rw[List.mem_filter,List.contains_iff_mem,(p7 b hb).1]
  exact⟨(p7 b hb).2,hb⟩
 ·unfold gf at hx
  rw[List.mem_filter,List.contains_iff_mem]at hx
  rw[List.mem_map]
  exact⟨x.so,hx.2,QX hK (p7 _ hx.2).2 hx.1 (p7 _ hx.2).1⟩
theorem G9{l:Led}(aa:bx l)(k:Int)(az:List Int):(List.range az.length).all (im l (dt l k) az)=((gf l k az).length==az.length&&jU az):=by
 rw[Bool.eq_iff_iff,List.all_eq_true,Bool.and_eq_true,beq_iff_eq]
 have hT:(dt l k).map (px l)=aX l k:=xd l k
 constructor
 ·intro h
  have h':∀ j,j<az.length->im l (dt l k) az j=true:=fun j hj=>h j (List.mem_range.2 hj)
  refine⟨?_,qQ.2 fun j hj h0=>((nj hj).1 (h' j hj)).2 h0⟩
  rw[<-Fu aa k h',List.length_map,xa l _ (Nat.le_refl _)]
 ·rintro⟨h1,h2⟩ j hj
  have hj:=List.mem_range.1 hj
  rw[nj hj]
  refine⟨fun UW=>?_,qQ.1 h2 j hj⟩
  have eG:=Fj ((gf l k az).map Sig.so) az (by
   unfold List.Nodup
   rw[List.pairwise_map]
   exact((FC aa k).filter _).imp fun h e=>by rw[e]at h;exact Int.lt_irrefl _ h) (fun a ha=>by
   obtain⟨x,hx,rfl⟩:=List.mem_map.1 ha
   unfold gf at hx
   rw[List.mem_filter,List.contains_iff_mem]at hx
   exact hx.2) (by rw[List.length_map,h1];exact Nat.le_refl _) az[j] (List.getElem_mem hj)
  obtain⟨x,hx,e⟩:=List.mem_map.1 eG
  unfold gf at hx
  rw[List.mem_filter,<-hT]at hx
  obtain⟨a,ha,rfl⟩:=List.mem_map.1 hx.1
  obtain⟨i,hi,rfl⟩:=List.getElem_of_mem ha
  have rR:=sU (aI l k) l.ss.length
  exact LF (fun a ha=>(rR a ha).1) _ (Nat.le_refl _) UW i hi hi e
theorem Mi{l:Led}(aa:bx l){k:Int}(h0:dn (aI l k)=none)(is:List Int):lJ (aI l k) is=!ei (aF l k) (is.map (px l)):=DS aa h0 is
theorem Yi{l:Led}(aa:bx l){k:Int}(h0:dn (aI l k)=none)(az:List Int):kZ l k az=qv l k az:=by
 unfold kZ qv
 rw[G9 aa]
 cases h:((gf l k az).length==az.length&&jU az)with
 |false=>
  rw[Bool.false_and,<-Bool.and_assoc,h];rfl
 |true=>
  have h2:(List.range az.length).all (im l (dt l k) az)=true:=by rw[G9 aa];exact h
  rw[List.all_eq_true]at h2
  have hm:=Fu aa k fun j hj=>h2 j (List.mem_range.2 hj)
  simp only[Bool.and_eq_true,beq_iff_eq]at h
  rw[h.1,h.2,Bool.true_and,Mi aa h0,hm]
  simp only[beq_self_eq_true,Bool.true_and]
  congr 1
  refine congrArg _ (funext fun i=>?_)
  rw[Mi aa h0,<-Dp,hm,Bool.not_not]
theorem Yh(l:Led)(k:Int)(az:List Int):sr l k az=o4 l k az:=by
 unfold sr o4
 rw[El]
 by_cases h:ff l k=0
 ·rw[if_pos h,if_pos h,Yi (ta h).1 (ta h).2]
 ·rw[if_neg h,if_neg h]
noncomputable section
def HN(f:FuncId):Option SpecB:=
 match Nat.beq f 132 with
 |true=>some (zd Tryz.prog 29)
 |false=>match Nat.beq f 176 with
  |true=>some (zd Tryz.prog 26)
  |false=>match Nat.beq f 177 with
   |true=>some (zd Tryz.prog 27)
   |false=>match Nat.beq f 178 with
    |true=>some (zd Tryz.prog 28)
    |false=>match Nat.beq f 179 with
     |true=>some XP
     |false=>none
def BF(_:FuncId->Option SpecB)(f:FuncId):Option SpecB:=HN f
theorem XS:aN Tryz.prog 179 pCloneI:=XO XV rfl
theorem Ta:∀ Γ:FuncId->Option SpecB,(∀ f s,bg Γ f=some s->aR Tryz.prog f s)->∀ f s,BF Γ f=some s->aR Tryz.prog f s.spec:=by
 intro Γ _ f s h
 unfold BF HN at h
 split at h
 ·rename_i hb;have:=Nat.eq_of_beq_eq_true hb;subst this;cases h;exact uw Ml
 ·split at h
  ·rename_i hb;have:=Nat.eq_of_beq_eq_true hb;subst this;cases h;exact uw X5
  ·split at h
   ·rename_i hb;have:=Nat.eq_of_beq_eq_true hb;subst this;cases h;exact uw X2
   ·split at h
    ·rename_i hb;have:=Nat.eq_of_beq_eq_true hb;subst this;cases h;exact uw XZ
    ·split at h
     ·rename_i hb;have:=Nat.eq_of_beq_eq_true hb;subst this;cases h;exact XS.sound
     ·cases h
def Ih(F:List Nat)(T:List Ent):FuncId->Option SpecB:=ΓB Tryz.prog (D3 Tryz.prog BF 100000 F T) 100000 24
theorem S8{F:List Nat}{T:List Ent}(hT:∀ e∈T,aV Tryz.prog e):∀ f s,bg (Ih F T) f=some s->aR Tryz.prog f s:=
 EP (Yw (fun Γ h f s=>Ta Γ h f s) hT) 24
theorem cF{F:List Nat}{T:List Ent}(hT:∀ e∈T,aV Tryz.prog e){e:Ent}(h:AG Tryz.prog (Ih F T) 100000 e=true):aV Tryz.prog e:=QD (S8 hT) h
theorem cL{P:Program}{e:Ent}{T:List Ent}(h:aV P e)(hT:∀ e∈T,aV P e):∀ x∈e::T,aV P x:=by
 intro x hx
 rcases List.mem_cons.1 hx with rfl | hx
 ·exact h
 ·exact hT x hx
def I0:List Ent:=[]
theorem JE:∀ e∈I0,aV Tryz.prog e:=fun e h=>by cases h
end
end Go.Eng
