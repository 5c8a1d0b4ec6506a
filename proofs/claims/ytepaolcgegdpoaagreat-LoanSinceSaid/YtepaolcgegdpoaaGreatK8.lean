import Derived.Test.YtepaolcgegdpoaaGreatK7
/- Texts LW62 to LB. -/
set_option linter.all false
namespace Go.Eng
open Go Go.Proofs
set_option maxRecDepth 10000
noncomputable section
def Yw:List (Nat×Spec):=[]
attribute [go_sem] Yw
def Yv:List (Nat×Spec):=[]
attribute [go_sem] Yv
def i4(x:RV)(f:Fol)(az:List Int)(day:Int):Int:=
 if pW x f day<0 then 0 else
 if(decide (kj x (pW x f day).toNat f.le>=0)&&decide (az.getD (kj x (pW x f day).toNat f.le).toNat 0<=day))=true then 0 else(bS x.l (pW x f day).toNat).bo
def K62c:List (Nat×Spec):=[(159,DK),(103,vF)]
theorem Yu:KS K62c:=tc Oq.sound<|tc OH.sound<|tn
attribute [go_sem] K62c
@[go_sem] def P74:PSpec:=p4 mv jL ev iI (fun x _ az _=>DP x/\az.length=x.ts.length) (fun x f az day=>vInt (i4 x f az day)) true
@[go_sem] def LV:Spec:=P74.toSpec
set_option maxHeartbeats 8000000 in
theorem NR:aU Tryz.prog 74 P74:=by
 refine rv (rs:=[.tmp 8]) Tryz.func74 Tryz.ntmps74 fun x f az day hp hw=>?_
 simp only[jL,iI,ev,mv,lZ]at hw |-
 have hΓ:=Yu
 obtain⟨⟨aa,mz,-⟩,o3⟩:=hp
 repeat refine sq ?_
 refine rx hΓ [2,3,4,5] [[4,0],[5,0]] (fun K' hK=>by simp only[go_sem];exact ao) ?_
 rcases QR x f day with gD | ⟨q,hq,gD⟩
 ·repeat refine sq ?_
  refine rx hΓ [2,3,4,5,9] [[4,0],[5,0]] (fun K' hK=>by simp only[go_sem,gD,kI];(repeat (refine⟨by first | exact ak | exact aa,?_⟩));exact fe) ?_
  repeat refine sq ?_
  refine rx hΓ [2,3,4,5,9,16] [[4,0],[5,0]] (fun K' hK=>by simp only[go_sem,gD,kI];exact ao) ?_
  repeat refine sq ?_
  refine aB (fun hb=>?_) fun hb=>?_
  ·repeat refine sq ?_
   have e:i4 x f az day=0:=by unfold i4;rw[gD];rfl
   repeat refine sq ?_
   refine rx hΓ [8] [] (fun K' hK=>by simp only[go_sem,gD,kI];exact ao) ?_
   refine ay ?_
   simp only[go_sem]
   rw[e]
  ·cases hb
 ·have bX:(q:Int)<x.l.rs.length:=by omega
  have CP:=ki hq
  repeat refine sq ?_
  refine rx hΓ [2,3,4,5,9] [[4,0],[5,0]] (fun K' hK=>by simp only[go_sem,gD,kI];(repeat (refine⟨by first | exact ak | exact aa,?_⟩));exact fe) ?_
  repeat refine sq ?_
  refine rx hΓ [2,3,4,5,9,16] [[4,0],[5,0]] (fun K' hK=>by simp only[go_sem,gD,kI];exact ao) ?_
  repeat refine sq ?_
  refine aB (fun hb=>?_) fun hb=>?_
  ·cases hb
  ·repeat refine sq ?_
   refine aG ?_
   rcases OY x q f.le with lK | ⟨j,hj,lK⟩
   ·have uS:decide ((-1:Int)>=0)=false:=rfl
    have eA:=uS
    have mB:=uS
    repeat refine sq ?_
    refine rx hΓ [2,3,4,9,10] [[4,0]] (fun K' hK=>by simp only[go_sem,gD,kI,lK,ah hq,bX,ai,aj,List.length_map,ah hq,bX,ai,aj,List.length_map];(repeat (refine⟨by first | exact ak | exact⟨⟨aa,mz⟩,bX⟩,?_⟩));exact fe) ?_
    repeat refine sq ?_
    refine rx hΓ [4,9,32] [[4,0]] (fun K' hK=>by simp only[go_sem,gD,kI,lK,ah hq,bX,ai,aj,List.length_map,mB,uS,eA,ai,aj,List.length_map,decide_true,Bool.true_and,Bool.decide_and,Bool.decide_eq_true,true_and];exact ao) ?_
    repeat refine sq ?_
    refine aB (fun hb=>?_) fun hb=>?_
    ·cases hb
    ·repeat refine sq ?_
     have e:i4 x f az day=x.l.rs[q].bo:=by unfold i4;rw[gD,if_neg (by omega),ai,lK,CP];rfl
     refine aG ?_
     repeat refine sq ?_
     refine rx hΓ [8] [] (fun K' hK=>by simp only[go_sem,gD,kI,lK,ah hq,bX,ai,aj,List.length_map];exact ao) ?_
     refine ay ?_
     simp only[go_sem]
     rw[e]
   ·have B2:j<az.length:=by omega
    have eA:(j:Int)<az.length:=by omega
    have uS:(az.map vInt).getD j default=vInt az[j]:=ah B2
    have mB:(if (0:Int)>(j:Int)then(0:Int)else(j:Int))=j:=if_neg (by omega)
    have Jf:decide ((j:Int)>=0)=true:=by simp
    repeat refine sq ?_
    refine rx hΓ [2,3,4,9,10] [[4,0]] (fun K' hK=>by simp only[go_sem,gD,kI,lK,ah hq,bX,ai,aj,List.length_map,ah hq,bX,ai,aj,List.length_map];(repeat (refine⟨by first | exact ak | exact⟨⟨aa,mz⟩,bX⟩,?_⟩));exact fe) ?_
    repeat refine sq ?_
    refine rx hΓ [4,9,32] [[4,0]] (fun K' hK=>by simp only[go_sem,gD,kI,lK,ah hq,bX,ai,aj,List.length_map,mB,uS,eA,ai,aj,List.length_map,decide_true,Bool.true_and,Bool.decide_and,Bool.decide_eq_true,true_and];exact ao) ?_
    repeat refine sq ?_
    refine aB (fun hb=>?_) fun hb=>?_
    ·repeat refine sq ?_
     have e:i4 x f az day=0:=by unfold i4;rw[gD,if_neg (by omega),ai,lK,CP,ai,dv B2,Jf,Bool.true_and,if_pos (by simpa using hb)]
     repeat refine sq ?_
     refine rx hΓ [8] [] (fun K' hK=>by simp only[go_sem,gD,kI,lK,ah hq,bX,ai,aj,List.length_map];exact ao) ?_
     refine ay ?_
     simp only[go_sem]
     rw[e]
    ·repeat refine sq ?_
     have e:i4 x f az day=x.l.rs[q].bo:=by unfold i4;rw[gD,if_neg (by omega),ai,lK,CP,ai,dv B2,Jf,Bool.true_and,if_neg (by simpa using hb)]
     refine aG ?_
     repeat refine sq ?_
     refine rx hΓ [8] [] (fun K' hK=>by simp only[go_sem,gD,kI,lK,ah hq,bX,ai,aj,List.length_map];exact ao) ?_
     refine ay ?_
     simp only[go_sem]
     rw[e]
end
noncomputable section
def zt(l:Led)(so:Int):Led:=⟨l.ps,l.rs.filter fun r=>r.so != so,l.ts.filter fun r=>r.so != so,l.ss.filter fun r=>r.so != so⟩
def Ys:List (Nat×Spec):=[]
attribute [go_sem] Ys
end
theorem vA{α:Type}{eu:α->Bool}{num:α->Int}{l:List α}:gr eu num l=true↔(∀ x∈l,eu x=true)/\l.Pairwise (fun a b=>num a<num b):=by
 rw[j7]
 constructor
 ·intro h
  refine⟨fun x hx=>?_,?_⟩
  ·obtain⟨j,hj,rfl⟩:=List.getElem_of_mem hx
   exact(h j hj hj).1
  ·rw[List.pairwise_iff_getElem]
   exact fun i j hi hj fb=>wH h i j hi hj fb
 ·rintro⟨h1,h2⟩ j hj _
  refine⟨h1 _ (List.getElem_mem hj),fun h0=>?_⟩
  rw[List.pairwise_iff_getElem]at h2
  exact h2 (j-1) j (by omega) hj (by omega)
theorem DB{α:Type}{eu:α->Bool}{num:α->Int}{l:List α}(p:α->Bool)(h:gr eu num l=true):gr eu num (l.filter p)=true:=by
 rw[vA]at h |-
 exact⟨fun x hx=>h.1 x (List.mem_filter.1 hx).1,h.2.filter p⟩
structure R5 where
 (a b c d e:Int)
 deriving Inhabited
structure R7 where
 (a b c d e f g:Int)
 deriving Inhabited
structure Raw where
 rs:List R5
 ts:List R7
 ss:List R5
 deriving Inhabited
def mps:List Pap:=[⟨1,4⟩,⟨2,3⟩,⟨5,2⟩]
def cR(n:Int):Pap:=mps.getD (aO n 3).toNat default
def r5(l:List R5)(i:Nat):R5:=l.getD i default
def r7(l:List R7)(i:Nat):R7:=l.getD i default
def ef(r:Raw):Nat->Int
 | 0=>0
 |i+1=>ef r i+aO (r5 r.rs i).d 20
def ff(r:Raw)(i:Nat):Rec:=⟨3*i+1,1+aO (r5 r.rs i).a 4,(cR (r5 r.rs i).b).id,gM (r5 r.rs i).c (cR (r5 r.rs i).b).lv,ef r (i+1),ef r (i+1)+aO (r5 r.rs i).e 5,0⟩
def eG(r:Raw)(m:Nat):List Rec:=(List.range m).map (ff r)
def nR(r:Raw):Nat:=min r.rs.length 8
def xT(r:Raw)(j:Nat):Rec:=(eG r (nR r)).getD (aO (r7 r.ts j).a (nR r)).toNat zeroR
def dR(r:Raw)(j:Nat):Int:=(xT r j).da+aO (r7 r.ts j).c 30
def tM(r:Raw)(j:Nat):Ret:=⟨3*j+2,(xT r j).so,1+aO (r7 r.ts j).g 4,gM (r7 r.ts j).b (dL mps (xT r j).pa),dk 0 (dR r j-aO (r7 r.ts j).d 12),dR r j+aO (r7 r.ts j).e 12,dR r j+aO (r7 r.ts j).e 12+aO (r7 r.ts j).f 9,0⟩
def nT(r:Raw):Nat:=if nR r=0 then 0 else min r.ts.length 8
def gR(r:Raw)(m:Nat):List Ret:=(List.range m).map (tM r)
def js(r:Raw)(m:Nat):List Int:=(List.range m).map (dR r)
def eJ(r:Raw)(ss:List Sig):Led:=⟨mps,eG r (nR r),gR r (nT r),ss⟩
def jz(r:Raw)(j:Nat):Int:=aO (r5 r.ss j).d (ef r (nR r)+20)
def mi(r:Raw)(j:Nat):Int:=1+aO (r5 r.ss j).c (cR (r5 r.ss j).b).lv
def mh(r:Raw)(j:Nat)(ss:List Sig):Int:=if (aO (r5 r.ss j).e 4 != 3)=true then i4 (ow (eJ r ss) 900) ⟨(cR (r5 r.ss j).b).id,mi r j⟩ (js r (nT r)) (jz r j)else aO (r5 r.ss j).a 5
def rL(r:Raw)(j:Nat)(ss:List Sig):Sig:=⟨3*j+3,mh r j ss,(cR (r5 r.ss j).b).id,mi r j,jz r j,jz r j+aO (r5 r.ss j).e 30,0⟩
def cU(r:Raw):Nat->List Sig
 | 0=>[]
 |j+1=>cU r j++[rL r j (cU r j)]
def nS(r:Raw):Nat:=min r.ss.length 6
def iH(r:Raw):Led:=eJ r (cU r (nS r))
theorem tW(n:Int):cR n∈mps:=by
 have h:=dj (n:=n) (m:=3) (by decide)
 unfold cR
 have hl:(aO n 3).toNat<mps.length:=by show _<3;omega
 rw[dv hl]
 exact List.getElem_mem hl
theorem tV{p:Pap}(h:p∈mps):dL mps p.id=p.lv/\2<=p.lv/\p.lv<=4/\1<=p.id/\p.id<=5:=by
 unfold mps at h
 simp only[List.mem_cons,List.not_mem_nil,or_false]at h
 rcases h with rfl | rfl | rfl<;>decide
theorem yD(n:Int):∀ m,∀ x∈eR n m,1<=x/\x<=m
 | 0,x,h=>nomatch h
 |m+1,x,h=>by
  rw[eR]at h
  split at h
  ·rcases List.mem_append.1 h with h | h
   ·have:=yD n m x h;omega
   ·simp only[List.mem_singleton]at h;omega
  ·have:=yD n m x h;omega
theorem Di(n:Int):∀ m,(eR n m).Pairwise (· < ·)
 | 0=>List.Pairwise.nil
 |m+1=>by
  rw[eR]
  split
  ·rw[List.pairwise_append]
   refine⟨Di n m,List.pairwise_singleton _ _,fun a ha b hb=>?_⟩
   have :=yD n m a ha
   simp only[List.mem_singleton]at hb
   omega
  ·exact Di n m
theorem Gr{l:List Int}{m:Int}(h0:l≠[])(hp:l.Pairwise (· < ·))(hm:∀ x∈l,1<=x/\x<=m)(JM:m<=30):jJ l=true:=by
 have cp:0<l.length:=List.length_pos_iff.2 h0
 have ae:l.length-1<l.length:=by omega
 have h1:=hm _ (List.getElem_mem cp)
 have h2:=hm _ (List.getElem_mem ae)
 unfold jJ b8
 rw[dv cp,dv ae]
 simp only[Bool.and_eq_true,decide_eq_true_eq]
 refine⟨⟨⟨cp,?_⟩,by omega⟩,by omega⟩
 rw[wm]
 intro j hj cj
 rw[List.pairwise_iff_getElem]at hp
 exact hp (j-1) j (by omega) hj (by omega)
theorem KW(n:Int){m:Int}(h1:1<=m)(h2:m<=30):jJ (gM n m)=true/\∀ x∈gM n m,1<=x/\x<=m:=by
 unfold gM
 split
 ·refine⟨Gr (m:=1) (by simp) (List.pairwise_singleton _ _) (fun x hx=>?_) (by decide),fun x hx=>?_⟩
  ·simp only[List.mem_singleton]at hx;omega
  ·simp only[List.mem_singleton]at hx;omega
 ·rename_i h0
  have hm:∀ x∈eR n m.toNat,1<=x/\x<=m:=fun x hx=>by have:=yD n _ x hx;omega
  exact⟨Gr h0 (Di n _) hm h2,hm⟩
theorem vk(r:Raw):∀ i,0<=ef r i/\ef r i<=20*i
 | 0=>by exact⟨Int.le_refl _,Int.le_refl _⟩
 |i+1=>by
  have :=vk r i
  have h:=dj (n:=(r5 r.rs i).d) (m:=20) (by decide)
  rw[ef]
  omega
theorem gY{n lo hi:Int}(h1:lo<=n)(h2:n<=hi):b8 n lo hi=true:=by
 unfold b8
 rw[decide_eq_true h1,decide_eq_true h2];rfl
theorem zC{k:Int}(h1:0<=k)(h2:k<=100000):kf k 0=true:=by
 unfold kf dayB
 rw[gY h1 h2];rfl
theorem tK(r:Raw){i:Nat}(hi:i<8):dK (ff r i)=true/\nC (ff r i).lv<=dL mps (ff r i).pa/\(ff r i).da<=160/\(ff r i).bo<=4/\1<=(ff r i).bo/\0<=(ff r i).da/\2<=dL mps (ff r i).pa/\dL mps (ff r i).pa<=4:=by
 obtain⟨e,l1,l2,p1,p2⟩:=tV (tW (r5 r.rs i).b)
 obtain⟨b1,b2⟩:=KW (r5 r.rs i).c (m:=(cR (r5 r.rs i).b).lv) (by omega) (by omega)
 have h4:=dj (n:=(r5 r.rs i).a) (m:=4) (by decide)
 have h5:=dj (n:=(r5 r.rs i).e) (m:=5) (by decide)
 have hd:=vk r (i+1)
 have TB:nC (ff r i).lv<=(cR (r5 r.rs i).b).lv:=by
  show nC (gM _ _)<=_
  unfold nC
  have hb:=b1
  unfold jJ at hb
  simp only[Bool.and_eq_true,decide_eq_true_eq]at hb
  have ae:(gM (r5 r.rs i).c (cR (r5 r.rs i).b).lv).length-1<(gM (r5 r.rs i).c (cR (r5 r.rs i).b).lv).length:=by omega
  rw[dv ae]
  exact(b2 _ (List.getElem_mem ae)).2
 refine⟨?_,by show _<=dL mps (cR _).id;rw[e];exact TB,?_,?_,?_,hd.1,by show _<=dL mps (cR _).id;omega,by show dL mps (cR _).id<=_;omega⟩
 ·have ht:kf (ef r (i+1)+aO (r5 r.rs i).e 5) 0=true:=zC (by omega) (by omega)
  have hb:dK (ff r i)=(b8 (3*(i:Int)+1) 1 99999&&b8 (1+aO (r5 r.rs i).a 4) 1 99&&b8 (cR (r5 r.rs i).b).id 1 999&&jJ (gM (r5 r.rs i).c (cR (r5 r.rs i).b).lv)&&dayB (ef r (i+1))&&kf (ef r (i+1)+aO (r5 r.rs i).e 5) 0):=rfl
  rw[hb,ht,b1,gY (by omega) (by omega),gY (by omega) (by omega),gY (by omega) (by omega)]
  unfold dayB
  rw[gY (by omega) (by omega)]
  rfl
 ·show ef r (i+1)<=160;omega
 ·show 1+aO _ 4<=4;omega
 ·show 1<=1+aO _ 4;omega
theorem iA(r:Raw)(m:Nat):(eG r m).length=m:=by unfold eG;simp
theorem z5{r:Raw}{m i:Nat}(h:i<(eG r m).length):(eG r m)[i]=ff r i:=by
 have e:(eG r m)[i]=ff r ((List.range m)[i]'(by simpa[eG]using h)):=List.getElem_map (ff r) (h:=h)
 rw[e,List.getElem_range]
theorem pR(r:Raw):nR r<=8:=Nat.min_le_right _ _
theorem D1{r:Raw}(h:nR r≠0)(j:Nat):∃ i,i<nR r/\xT r j=ff r i:=by
 have hm:=dj (n:=(r7 r.ts j).a) (m:=(nR r:Int)) (by omega)
 refine⟨(aO (r7 r.ts j).a (nR r)).toNat,by omega,?_⟩
 unfold xT
 rw[dv (by rw[iA];omega),z5]
theorem Ek{r:Raw}(h:nR r≠0){j:Nat}(hj:j<8):i7 (tM r j)=true/\0<=dR r j/\dR r j<=200:=by
 obtain⟨i,hi,e⟩:=D1 h j
 have h8:=pR r
 obtain⟨c1,-,c3,-,-,c6,c7,c8⟩:=tK r (show i<8 by omega)
 have II:(xT r j).so=3*(i:Int)+1:=by rw[e];rfl
 have AL:=dj (n:=(r7 r.ts j).c) (m:=30) (by decide)
 have m4:=dj (n:=(r7 r.ts j).g) (m:=4) (by decide)
 have Qg:=dj (n:=(r7 r.ts j).d) (m:=12) (by decide)
 have Qf:=dj (n:=(r7 r.ts j).e) (m:=12) (by decide)
 have m9:=dj (n:=(r7 r.ts j).f) (m:=9) (by decide)
 have aq:dR r j=(ff r i).da+aO (r7 r.ts j).c 30:=by unfold dR;rw[e]
 obtain⟨b1,-⟩:=KW (r7 r.ts j).b (m:=dL mps (xT r j).pa) (by rw[e];omega) (by rw[e];omega)
 have jO:0<=dk 0 (dR r j-aO (r7 r.ts j).d 12)/\dk 0 (dR r j-aO (r7 r.ts j).d 12)<=dR r j:=by unfold dk;split<;>omega
 refine⟨?_,by omega,by omega⟩
 have hb:i7 (tM r j)=(b8 (3*(j:Int)+2) 1 99999&&b8 (xT r j).so 1 99999&&b8 (1+aO (r7 r.ts j).g 4) 1 99&&jJ (gM (r7 r.ts j).b (dL mps (xT r j).pa))&&b8 (dk 0 (dR r j-aO (r7 r.ts j).d 12)) 0 (dR r j+aO (r7 r.ts j).e 12)&&dayB (dR r j+aO (r7 r.ts j).e 12)&&kf (dR r j+aO (r7 r.ts j).e 12+aO (r7 r.ts j).f 9) 0):=rfl
 rw[hb,b1,zC (by omega) (by omega),gY (by omega) (by omega),gY (by omega) (by omega),gY (by omega) (by omega),gY (by omega) (by omega)]
 unfold dayB
 rw[gY (by omega) (by omega)]
 rfl
theorem wQ(r:Raw):nT r<=8:=by unfold nT;split<;>omega
theorem F1{r:Raw}{j:Nat}(h:j<nT r):nR r≠0:=by
 intro h0
 unfold nT at h
 rw[if_pos h0]at h
 omega
theorem Mv{r:Raw}{ss:List Sig}(f:Fol)(az:List Int)(day:Int):0<=i4 (ow (eJ r ss) 900) f az day/\i4 (ow (eJ r ss) 900) f az day<=4:=by
 have Uv:∀ q:Nat,0<=(bS (eJ r ss) q).bo/\(bS (eJ r ss) q).bo<=4:=fun q=>by
  by_cases hq:q<(eJ r ss).rs.length
  ·rw[ki hq]
   have e:(eJ r ss).rs[q]=ff r q:=z5 hq
   have hl:(eJ r ss).rs.length=nR r:=iA _ _
   have h8:=pR r
   rw[e]
   obtain⟨-,-,-,c4,c5,-⟩:=tK r (show q<8 by omega)
   omega
  ·have:bS (eJ r ss) q=zeroR:=by
     unfold bS
     rw[List.getD_eq_getElem?_getD,List.getElem?_eq_none (by omega)];rfl
   rw[this]
   decide
 unfold i4
 split
 ·decide
 ·split
  ·decide
  ·exact Uv _
theorem Nd(r:Raw){j:Nat}(hj:j<6)(ss:List Sig):kh (rL r j ss)=true/\(rL r j ss).le<=dL mps (rL r j ss).pa:=by
 obtain⟨e,l1,l2,p1,p2⟩:=tV (tW (r5 r.ss j).b)
 have ml:=dj (n:=(r5 r.ss j).c) (m:=(cR (r5 r.ss j).b).lv) (by omega)
 have hd:=vk r (nR r)
 have h8:=pR r
 have md:=dj (n:=(r5 r.ss j).d) (m:=ef r (nR r)+20) (by omega)
 have AL:=dj (n:=(r5 r.ss j).e) (m:=30) (by decide)
 have m5:=dj (n:=(r5 r.ss j).a) (m:=5) (by decide)
 have xq:0<=mh r j ss/\mh r j ss<=4:=by
  unfold mh
  split
  ·exact Mv _ _ _
  ·omega
 have ji:mi r j=1+aO (r5 r.ss j).c (cR (r5 r.ss j).b).lv:=rfl
 have su:jz r j=aO (r5 r.ss j).d (ef r (nR r)+20):=rfl
 refine⟨?_,?_⟩
 ·have hb:kh (rL r j ss)=(b8 (3*(j:Int)+3) 1 99999&&b8 (mh r j ss) 0 99&&b8 (cR (r5 r.ss j).b).id 1 999&&b8 (mi r j) 1 30&&dayB (jz r j)&&kf (jz r j+aO (r5 r.ss j).e 30) 0):=rfl
  rw[hb,zC (by omega) (by omega),gY (by omega) (by omega),gY (by omega) (by omega),gY (by omega) (by omega),gY (by omega) (by omega)]
  unfold dayB
  rw[gY (by omega) (by omega)]
  rfl
 ·show mi r j<=dL mps (cR (r5 r.ss j).b).id
  rw[e];omega
theorem zI(r:Raw):∀ s,(cU r s).length=s
 | 0=>rfl
 |s+1=>by rw[cU,List.length_append,zI];rfl
theorem v7(r:Raw):∀ s,s<=6->(∀ x∈cU r s,(kh x=true/\x.le<=dL mps x.pa)/\∃ j:Nat,j<s/\x.so=3*(j:Int)+3)/\(cU r s).Pairwise (fun a b=>a.so<b.so)
 | 0,_=>⟨fun x h=>(nomatch h),List.Pairwise.nil⟩
 |s+1,hs=>by
  obtain⟨h1,h2⟩:=v7 r s (by omega)
  rw[cU]
  refine⟨fun x hx=>?_,?_⟩
  ·rcases List.mem_append.1 hx with hx | hx
   ·obtain⟨a,j,hj,b⟩:=h1 x hx
    exact⟨a,j,by omega,b⟩
   ·simp only[List.mem_singleton]at hx
    subst hx
    exact⟨Nd r (by omega) _,s,by omega,rfl⟩
  ·rw[List.pairwise_append]
   refine⟨h2,List.pairwise_singleton _ _,fun a ha b hb=>?_⟩
   obtain⟨-,j,hj,e⟩:=h1 a ha
   simp only[List.mem_singleton]at hb
   subst hb
   show a.so<3*(s:Int)+3
   omega
theorem F8(r:Raw){s:Nat}(hs:s<=6):b7 (eJ r (cU r s)) where
 ps:=by
  rw[vA]
  show (∀ x∈mps,ni x=true)/\mps.Pairwise (fun a b=>a.id<b.id)
  exact⟨by decide,by decide⟩
 psn:=by show 3<=12;decide
 rs:=by
  have h8:=pR r
  rw[vA]
  refine⟨fun x hx=>?_,?_⟩
  ·obtain⟨i,hi,rfl⟩:=List.mem_map.1 hx
   have bu:i<nR r:=List.mem_range.1 hi
   exact(tK r (by omega)).1
  ·show (eG r (nR r)).Pairwise _
   unfold eG
   rw[List.pairwise_map]
   refine List.pairwise_lt_range.imp fun {a b} qw=>?_
   show 3*(a:Int)+1<3*(b:Int)+1
   omega
 rsn:=by have:=pR r;show (eG r (nR r)).length<=60;rw[iA];omega
 ts:=by
  have h8:=wQ r
  rw[vA]
  refine⟨fun x hx=>?_,?_⟩
  ·obtain⟨i,hi,rfl⟩:=List.mem_map.1 hx
   have bu:i<nT r:=List.mem_range.1 hi
   exact(Ek (F1 bu) (by omega)).1
  ·show (gR r (nT r)).Pairwise _
   unfold gR
   rw[List.pairwise_map]
   refine List.pairwise_lt_range.imp fun {a b} qw=>?_
   show 3*(a:Int)+2<3*(b:Int)+2
   omega
 tsn:=by have:=wQ r;show ((List.range (nT r)).map _).length<=60;rw[List.length_map,List.length_range];omega
 ss:=by
  obtain⟨h1,h2⟩:=v7 r s hs
  rw[vA]
  exact⟨fun x hx=>(h1 x hx).1.1,h2⟩
 ssn:=by show (cU r s).length<=60;rw[zI];omega
 rl:=fun j hj=>by
  have e:(eJ r (cU r s)).rs[j]=ff r j:=z5 hj
  have hl:(eJ r (cU r s)).rs.length=nR r:=iA _ _
  have h8:=pR r
  rw[e]
  exact(tK r (by omega)).2.1
 sl:=fun j hj=>by
  obtain⟨h1,-⟩:=v7 r s hs
  exact(h1 _ (List.getElem_mem hj)).1.2
 nd:=by
  obtain⟨h1,h2⟩:=v7 r s hs
  unfold tv
  rw[List.nodup_append,List.nodup_append]
  have m1:∀ x∈(eJ r (cU r s)).rs.map Rec.so,∃ i:Nat,x=3*(i:Int)+1:=fun x hx=>by
   obtain⟨y,hy,rfl⟩:=List.mem_map.1 hx
   obtain⟨i,-,rfl⟩:=List.mem_map.1 hy
   exact⟨i,rfl⟩
  have m2:∀ x∈(eJ r (cU r s)).ts.map Ret.so,∃ i:Nat,x=3*(i:Int)+2:=fun x hx=>by
   obtain⟨y,hy,rfl⟩:=List.mem_map.1 hx
   obtain⟨i,-,rfl⟩:=List.mem_map.1 hy
   exact⟨i,rfl⟩
  have m3:∀ x∈(eJ r (cU r s)).ss.map Sig.so,∃ i:Nat,x=3*(i:Int)+3:=fun x hx=>by
   obtain⟨y,hy,rfl⟩:=List.mem_map.1 hx
   obtain⟨-,j,-,e⟩:=h1 y hy
   exact⟨j,e⟩
  have n1:((eJ r (cU r s)).rs.map Rec.so).Nodup:=by
   show ((eG r (nR r)).map Rec.so).Nodup
   unfold eG
   rw[List.map_map,List.nodup_iff_pairwise_ne,List.pairwise_map]
   refine List.pairwise_lt_range.imp fun {a b} qw=>?_
   show 3*(a:Int)+1≠3*(b:Int)+1
   omega
  have n2:((eJ r (cU r s)).ts.map Ret.so).Nodup:=by
   show ((gR r (nT r)).map Ret.so).Nodup
   unfold gR
   rw[List.map_map,List.nodup_iff_pairwise_ne,List.pairwise_map]
   refine List.pairwise_lt_range.imp fun {a b} qw=>?_
   show 3*(a:Int)+2≠3*(b:Int)+2
   omega
  have n3:((eJ r (cU r s)).ss.map Sig.so).Nodup:=by
   show ((cU r s).map Sig.so).Nodup
   rw[List.nodup_iff_pairwise_ne,List.pairwise_map]
   exact h2.imp fun {a b} qw=>by omega
  refine⟨⟨n1,n2,fun a ha b hb=>?_⟩,n3,fun a ha b hb=>?_⟩
  ·obtain⟨i,rfl⟩:=m1 a ha
   obtain⟨j,rfl⟩:=m2 b hb
   omega
  ·obtain⟨j,rfl⟩:=m3 b hb
   rcases List.mem_append.1 ha with ha | ha
   ·obtain⟨i,rfl⟩:=m1 a ha;omega
   ·obtain⟨i,rfl⟩:=m2 a ha;omega
open Go
def It:V->Bool
 | .int _ _=>true
 |_=>false
def xc(l:List V):Bool:=l.all fun x=>x.cells.all It
def lx(obj:Name->Option O):D->V
 | .v x=>x
 | .msl nm _=>match obj nm with
   |some (.arr _ l)=>.sl l
   |_=>default
 |_=>default
def lB(obj:Name->Option O):D->Bool
 | .v _=>true
 | .msl nm k=>match obj nm with
   |some (.arr _ l)=>decide (k=l.length)&&xc l
   |_=>false
 |_=>false
def wN:D->List Name
 | .msl nm _=>[nm]
 |_=>[]
def gT(obj:Name->Option O):D->V
 | .agg l=>.agg (l.map (lx obj))
 |d=>lx obj d
def nl(obj:Name->Option O):D->Bool
 | .agg l=>l.all (lB obj)
 |d=>lB obj d
def FW:D->List Name
 | .agg l=>l.flatMap wN
 |d=>wN d
def WK:V->Bool
 | .bool _=>true
 |_=>false
def PSpec.toSpecU(s:PSpec):Spec:=
 ⟨fun obj _ ds=>⟨(∀ d∈ds,nl obj d=true)/\s.pre (ds.map (gT obj)),.v (s.fn (ds.map (gT obj))),obj⟩,fun _ _ ds=>ds.flatMap FW,fun _ _ _=>[]⟩
theorem ko{obj obj2:Name->Option O}{d:D}(h:bC (wN d) obj obj2):lx obj2 d=lx obj d/\lB obj2 d=lB obj d:=by
 cases d<;>try exact⟨rfl,rfl⟩
 rename_i nm k
 have :=h nm (by simp[wN])
 simp only[lx,lB,this,and_self]
theorem Pe{obj obj2:Name->Option O}{d:D}(h:bC (FW d) obj obj2):gT obj2 d=gT obj d/\nl obj2 d=nl obj d:=by
 cases d with
 |agg l=>
  have hx:∀ x∈l,lx obj2 x=lx obj x/\lB obj2 x=lB obj x:=fun x hx=>ko fun nm hn=>h nm (List.mem_flatMap.2 ⟨x,hx,hn⟩)
  simp only[gT,nl]
  refine⟨congrArg V.agg (List.map_congr_left fun x h=>(hx x h).1),?_⟩
  rw[Bool.eq_iff_iff,List.all_eq_true,List.all_eq_true]
  exact⟨fun k x h=>(hx x h).2▸k x h,fun k x h=>(hx x h).2.symm▸k x h⟩
 |v x=>exact ko (d:=.v x) h
 |nilsl=>exact ko (d:=.nilsl) h
 |nilmap=>exact ko (d:=.nilmap) h
 |ref a b=>exact ko (d:=.ref a b) h
 |msl a b=>exact ko (d:=.msl a b) h
 |aref a b c e=>exact ko (d:=.aref a b c e) h
 |map a=>exact ko (d:=.map a) h
 |yld a=>exact ko (d:=.yld a) h
 |clo a b c=>exact ko (d:=.clo a b c) h
 |tup a=>exact ko (d:=.tup a) h
 |any=>exact ko (d:=.any) h
theorem PSpec.nearU(s:PSpec):s.toSpecU.Near:=by
 refine⟨fun obj obj2 t ds h=>?_,fun obj obj2 t ds h=>rfl,fun obj t ds nm hn=>(nomatch hn),fun obj obj2 t ds h=>rfl⟩
 have hx:∀ x∈ds,gT obj2 x=gT obj x/\nl obj2 x=nl obj x:=fun x hx=>Pe fun nm hn=>h nm (List.mem_flatMap.2 ⟨x,hx,hn⟩)
 have e:ds.map (gT obj2)=ds.map (gT obj):=List.map_congr_left fun x h=>(hx x h).1
 refine bG.same ?_ (by simp only[PSpec.toSpecU,e]) rfl rfl
 simp only[PSpec.toSpecU,e]
 exact congrArg (· /\_) (propext ⟨fun k x h=>(hx x h).2▸k x h,fun k x h=>(hx x h).2.symm▸k x h⟩)
noncomputable def lF(m:Mem)(w:World):Mem:=fun b off=>match m b off with
 |some v=>some v
 |none=>match w.cell? ⟨b,off,none⟩with
  |some (.int k n)=>some (.int k n)
  |_=>none
theorem Bj(m:Mem)(w:World):Mem.le m (lF m w):=fun b off v h=>by simp only[lF,h]
theorem Is{m:Mem}{w:World}{b off:Nat}{v:Value}(h:lF m w b off=some v):m b off=some v\/∃ k n,v=.int k n/\w.cell? ⟨b,off,none⟩=some v:=by
 unfold lF at h
 split at h
 ·rename_i e;cases h;exact .inl e
 ·split at h
  ·rename_i e;cases h;exact .inr ⟨_,_,rfl,e⟩
  ·cases h
theorem SD{m:Mem}{w:World}(hm:∀ b off v,m b off=some v->w.cell? ⟨b,off,none⟩=some v){b off:Nat}{k:IntKind}{n:Int}(h:w.cell? ⟨b,off,none⟩=some (.int k n)):lF m w b off=some (.int k n):=by
 unfold lF
 cases e:m b off with
 |some v=>have:=hm _ _ _ e;rw[h]at this;simpa using this.symm
 |none=>simp only[h]
theorem jB{G:Ghost}{φ:Name->Loc}{m:Mem}{σ:S}{a:Act}{w:World}(hC:aM G φ m σ a w){d:D}{u:Value}(hd:aA φ σ.obj m d u)(aa:lB σ.obj d=true):
 aK (lF m w) (lx σ.obj d) u/\(d.one=true->(lx σ.obj d).one=true):=by
 cases hd with
 |v x u h=>exact⟨h.mono (Bj m w),id⟩
 |msl nm k u hx hu=>
  obtain⟨o,n,ax,hlen,hk,cO⟩:=hx
  cases o with
  |arr sz l=>
   simp only[lB,ax,Bool.and_eq_true,decide_eq_true_eq]at aa
   simp only[lx,ax]
   refine⟨?_,fun _=>rfl⟩
   simp only[O.len?,Option.some.injEq]at hlen
   subst hlen
   obtain⟨Jb,hint⟩:=aa
   have e:=cO Jb
   subst e
   rcases hC.objs nm _ ax with⟨h,h'⟩ | ⟨h0,h1,h2,h3,h4,us,T,f,h5,h6,h7,h8⟩
   ·subst h'
    simp only[Loc.slice,h,if_true]
    exact .slnil _ _
   ·simp only[Loc.slice,h0,Bool.false_eq_true,if_false]
    rw[Jb]
    by_cases hl:l=[]
    ·subst hl;exact .slnil _ _
    ·have key:∀ i j (hi:i<l.length) (hj:j<(l[i].cells).length),∃ c,lF m w (φ nm).blk ((φ nm).off+i*sz+j)=some c/\us[(φ nm).off+i*sz+j]?=some c/\aK m (l[i].cells)[j] c:=by
       intro i j hi hj
       obtain⟨c,x,y⟩:=h8 i j hi hj
       refine⟨c,?_,x,y⟩
       have hc:It (l[i].cells)[j]=true:=by
        unfold xc at hint
        rw[List.all_eq_true]at hint
        have :=hint _ (List.getElem_mem hi)
        rw[List.all_eq_true]at this
        exact this _ (List.getElem_mem hj)
       have hw:w.cell? ⟨(φ nm).blk,(φ nm).off+i*sz+j,none⟩=some c:=by
        unfold World.cell?
        simp only[h5]
        exact x
       cases hv:(l[i].cells)[j]<;>rw[hv]at hc y<;>first | (cases hc;done) | skip
       cases y
       exact SD hC.mem hw
     refine .sl l _ _ _ sz (fun i j=>(us[(φ nm).off+i*sz+j]?).getD undef) hl (by omega) h1 h3 (fun i j hi hj=>?_) (fun i j hi hj=>?_) h4
     ·obtain⟨c,x,y,_⟩:=key i j hi (by rw[h3];exact hj)
      rw[x,y];rfl
     ·obtain⟨c,_,y,z⟩:=key i j hi hj
      rw[y];exact z.mono (Bj m w)
  |_=>simp[lB,ax]at aa
 |_=>cases aa
theorem Pd{G:Ghost}{φ:Name->Loc}{m:Mem}{σ:S}{a:Act}{w:World}(hC:aM G φ m σ a w){d:D}{u:Value}(hd:aA φ σ.obj m d u)(aa:nl σ.obj d=true):
 aK (lF m w) (gT σ.obj d) u:=by
 cases d with
 |agg l=>
  cases hd with
  |agg _ us h ho hr=>
   simp only[nl,List.all_eq_true]at aa
   simp only[gT]
   refine .agg _ us (by simpa using h) (fun x hx=>?_) fun i hi bu=>?_
   ·obtain⟨d,hd,rfl⟩:=List.mem_map.1 hx
    obtain⟨j,hj,rfl⟩:=List.getElem_of_mem hd
    exact(jB hC (hr j hj (by omega)) (aa _ (List.getElem_mem hj))).2 (ho _ (List.getElem_mem hj))
   ·simp only[List.length_map]at hi
    rw[List.getElem_map]
    exact(jB hC (hr i hi bu) (aa _ (List.getElem_mem hi))).1
 |v x=>exact(jB (d:=.v x) hC hd aa).1
 |nilsl=>exact(jB (d:=.nilsl) hC hd aa).1
 |nilmap=>exact(jB (d:=.nilmap) hC hd aa).1
 |ref a b=>exact(jB (d:=.ref a b) hC hd aa).1
 |msl a b=>exact(jB (d:=.msl a b) hC hd aa).1
 |aref a b c e=>exact(jB (d:=.aref a b c e) hC hd aa).1
 |map a=>exact(jB (d:=.map a) hC hd aa).1
 |yld a=>exact(jB (d:=.yld a) hC hd aa).1
 |clo a b c=>exact(jB (d:=.clo a b c) hC hd aa).1
 |tup a=>exact(jB (d:=.tup a) hC hd aa).1
 |any=>exact(jB (d:=.any) hC hd aa).1
theorem aU.soundU{P:Program}{f:FuncId}{s:PSpec}(h:aU P f s)(hb:∀ xs,s.pre xs->∃ l,s.fn xs=.sl l/\l.all WK=true):aL P f s.toSpecU:=by
 obtain⟨hy,jQ,_,qv⟩:=h
 refine⟨s.nearU,fun _=>jQ,fun _ G φ m σ a w hC t ds us _ hl hr aa=>?_,fun e=>(hy e).elim⟩
 obtain⟨uL,mA⟩:=aa
 have mC:∀ b off v,lF m w b off=some v->w.cell? ⟨b,off,none⟩=some v:=fun b off v h=>by
  rcases Is h with h | ⟨_,_,_,h⟩
  ·exact hC.mem _ _ _ h
  ·exact h
 refine(qv (lF m w) w (ds.map (gT σ.obj)) us mC ⟨by simpa using hl,fun i h h'=>?_⟩ mA).mono ?_
 ·simp only[List.length_map]at h
  rw[List.getElem_map,Array.getElem_toList]
  exact Pd hC (hr i h (by simpa using h')) (uL _ (List.getElem_mem h))
 rintro e w' ⟨v,m',rfl,sE,hm,hn,hv⟩
 obtain⟨l,fH,dO⟩:=hb _ mA
 let m2:Mem:=fun b off=>if w.heap.size<=b then m' b off else m b off
 have hle:Mem.le m m2:=fun b off v h=>by
  show (if w.heap.size<=b then m' b off else m b off)=some v
  split
  ·exact hm _ _ _ (Bj m w _ _ _ h)
  ·exact h
 have xi:aK m2 (s.fn (ds.map (gT σ.obj))) v:=by
  rw[fH]at hv |-
  rw[List.all_eq_true]at dO
  have uX:∀ i (h:i<l.length),l[i].cells=[l[i]]:=fun i h=>by
   have :=dO _ (List.getElem_mem h)
   cases hv:l[i]<;>rw[hv]at this<;>first | (cases this;done) | rfl
  cases hv with
  |slnil a cap=>exact .slnil _ _
  |sl _ b o cap sz c I2 xI hU hs hc hr ho=>
   have dd:sz=1:=by
    have h0:0<l.length:=List.length_pos_iff.2 I2
    rw[<-hs 0 h0,uX 0 h0];rfl
   subst dd
   have Jv:∀ i (h:i<l.length),∃ x,l[i]=.bool x/\c i 0=.bool x:=fun i h=>by
    have h1:=hr i 0 h (by rw[uX i h];exact Nat.zero_lt_one)
    have h2:=dO _ (List.getElem_mem h)
    simp only[uX i h,List.getElem_cons_zero]at h1
    cases hv:l[i]<;>rw[hv]at h2<;>first | (cases h2;done) | skip
    rw[hv]at h1
    generalize hc0:c i 0=cc at h1
    cases h1
    exact⟨_,rfl,rfl⟩
   refine .sl l b o cap 1 c I2 xI hU hs (fun i j hi hj=>?_) (fun i j hi hj=>?_) ho
   ·have cj:j=0:=by omega
    subst cj
    have h1:=hc i 0 hi hj
    show (if w.heap.size<=b then m' b (o+i*1+0)else m b (o+i*1+0))=_
    split
    ·exact h1
    ·rename_i ae
     obtain⟨x,_,hx⟩:=Jv i hi
     rcases hn _ _ _ h1 with h2 | ⟨h2,_⟩
     ·rcases Is h2 with h3 | ⟨k,n,h3,_⟩
      ·exact h3
      ·rw[hx]at h3;cases h3
     ·exact(ae h2).elim
   ·obtain⟨x,h1,h2⟩:=Jv i hi
    have cj:j=0:=by rw[uX i hi]at hj;simpa using hj
    subst cj
    simp only[uX i hi,List.getElem_cons_zero]
    rw[h1,h2]
    exact .bool x
 refine⟨v,φ,m2,rfl,?_,.v _ _ xi,.refl _ _⟩
 simp only[PSpec.toSpecU]
 refine hC.imm hle ⟨sE.os,sE.tape,sE.output,sE.size⟩ sE.block fun b off v h=>?_
 have h':(if w.heap.size<=b then m' b off else m b off)=some v:=h
 split at h'
 ·rename_i bw
  rcases hn _ _ _ h' with h2 | h2
  ·have:=mQ (mC _ _ _ h2);omega
  ·exact .inr h2
 ·exact .inl h'
structure Rn (α:Type) where
 m:Nat
 fam:α->List Name->List O
 args:α->List Name->List D
 ok:α->Prop
 val:α->List Name->D
structure Rn.Ok {α:Type} (r:Rn α):Prop where
 len:∀ a Ls,Ls.length=r.m->(r.fam a Ls).length=r.m
 renF:∀ a f Ls,Ls.length=r.m->(r.fam a Ls).map (O.ren f)=r.fam a (Ls.map f)
 renA:∀ a f Ls,Ls.length=r.m->D.renL f (r.args a Ls)=r.args a (Ls.map f)
 reach:∀ a Ls obj,Ls.length=r.m->Ls.Nodup->cD obj Ls (r.fam a Ls)->reach obj (r.args a Ls)=Ls
 closF:∀ a dom Ls,Ls.length=r.m->(∀ x∈Ls,dom x=true)->∀ o∈r.fam a Ls,O.clos dom o=true
 closA:∀ a dom Ls,Ls.length=r.m->(∀ x∈Ls,dom x=true)->D.closL dom (r.args a Ls)=true
 det:∀ a b,r.ok a->r.ok b->r.fam a (LR r.m)=r.fam b (LR r.m)->r.args a (LR r.m)=r.args b (LR r.m)->r.val a (LR r.m)=r.val b (LR r.m)
 vcl:∀ a dom Ls,Ls.length=r.m->(∀ x∈Ls,dom x=true)->D.clos dom (r.val a Ls)=true
 vren:∀ a f Ls,Ls.length=r.m->(r.val a Ls).ren f=r.val a (Ls.map f)
variable {α:Type}
noncomputable def Rn.c(r:Rn α):CSpec where
 pre:=fun os ds=>∃ a,r.ok a/\os=r.fam a (LR r.m)/\ds=r.args a (LR r.m)
 out:=fun os ds=>⟨[],[],by classical exact if h:∃ a,r.ok a/\os=r.fam a (LR r.m)/\ds=r.args a (LR r.m)then r.val h.choose (LR r.m)else .any⟩
theorem Rn.c_out{r:Rn α}(hr:r.Ok){a:α}(ha:r.ok a):r.c.out (r.fam a (LR r.m)) (r.args a (LR r.m))=⟨[],[],r.val a (LR r.m)⟩:=by
 have h:∃ b,r.ok b/\r.fam a (LR r.m)=r.fam b (LR r.m)/\r.args a (LR r.m)=r.args b (LR r.m):=⟨a,ha,rfl,rfl⟩
 have e:r.val h.choose (LR r.m)=r.val a (LR r.m):=(hr.det _ _ ha h.choose_spec.1 h.choose_spec.2.1 h.choose_spec.2.2).symm
 simp only[Rn.c]
 rw[dif_pos h,e]
theorem Rn.c_app{r:Rn α}(hr:r.Ok){a:α}(ha:r.ok a){obj:Name->Option O}{t:Name}{Ls:List Name}(hl:Ls.length=r.m)(hn:Ls.Nodup)(hF:cD obj Ls (r.fam a Ls)):
 r.c.toSpec.app obj t (r.args a Ls)=⟨True,r.val a Ls,obj⟩:=by
 have iO:=hr.reach a Ls obj hl hn hF
 have qu:Ls.map (cin Ls)=LR r.m:=by rw[yz hn,hl]
 have e1:cb obj (r.args a Ls)=r.fam a (LR r.m):=by
  unfold cb
  rw[iO]
  have lX:=hF
  rw[jE]at lX
  have :Ls.map (ck Ls obj)=(r.fam a Ls).map (O.ren (cin Ls)):=by
   refine List.ext_getElem (by simp[hr.len _ _ hl,hl]) fun i h1 h2=>?_
   have h3:i<Ls.length:=by simpa using h1
   have h4:i<(r.fam a Ls).length:=by rw[hr.len _ _ hl,<-hl];exact h3
   have h5:=congrArg (fun l=>l[i]?) lX
   have h6:obj Ls[i]=some (r.fam a Ls)[i]:=by simpa[h3,h4]using h5
   simp only[List.getElem_map,ck,h6]
  rw[this,hr.renF _ _ _ hl,qu]
 have e2:cH obj (r.args a Ls)=r.args a (LR r.m):=by
  unfold cH
  rw[iO,hr.renA _ _ _ hl,qu]
 have jm:∀ x∈Ls,cE Ls x=true:=fun x hx=>fD.2 hx
 have iM:shut obj Ls=true:=by
  unfold shut
  rw[List.all_eq_true]
  intro x hx
  obtain⟨i,hi,rfl⟩:=List.getElem_of_mem hx
  have lX:=hF
  rw[jE]at lX
  have h4:i<(r.fam a Ls).length:=by rw[hr.len _ _ hl,<-hl];exact hi
  have h5:=congrArg (fun l=>l[i]?) lX
  have h6:obj Ls[i]=some (r.fam a Ls)[i]:=by simpa[hi,h4]using h5
  rw[h6]
  exact hr.closF _ _ _ hl jm _ (List.getElem_mem h4)
 have dn:r.c.pre (r.fam a (LR r.m)) (r.args a (LR r.m)):=⟨a,ha,rfl,rfl⟩
 simp only[CSpec.toSpec,e1,e2,iO,Rn.c_out hr ha,iM,hr.closA _ _ _ hl jm,fresh,List.all_nil,Bool.and_self,dn,and_self,cV,cf]
 rw[hr.vren _ _ _ (mV _)]
 have :(LR r.m).map (cout Ls t)=Ls:=by rw[<-hl];exact KE Ls t
 rw[this]
def EW(P:Program)(rs:List ResultVar)(v:D)(H:Name->Option O)(e:Exit)(σ:S):Prop:=
 (e=.normal\/e=.ret)/\(bF P σ rs).ok/\(bF P σ rs).d=v/\∀ i,σ.obj [i,1]=H [i,1]
theorem Rn.sound{P:Program}{r:Rn α}(hr:r.Ok){f:FuncId}{fn:Func}{nt:Nat}{rs:List ResultVar}(hf:P.funcs[f]?=some fn)(cG:fn.ntmps=nt)(bW:fn.results.toList=rs)(hn:(fn.name== "runtime.NumGoroutine")=false)(hy:f<1000000000)
 (hw:∃ c,fn.body=some c/\∀ a,r.ok a->(r.args a (LR r.m)).length<=nt/\CL P [c] (ba nt [0] (aS (r.fam a (LR r.m))) (cN 0 (r.args a (LR r.m))) []) (EW P rs (r.val a (LR r.m)) (aS (r.fam a (LR r.m))))):aL P f r.c.toSpec:=by
 obtain⟨c,hc,hw⟩:=hw
 refine mM hf hc cG bW (gK hf hc hn) (Nat.ne_of_lt (show f<yid from hy)) ?_
 rintro os ds ⟨a,ha,rfl,rfl⟩
 obtain⟨hl,h⟩:=hw a ha
 refine⟨hl,?_⟩
 rw[Rn.c_out hr ha]
 refine CW.mono (il h) ?_
 rintro e σ ⟨he,h1,h2,h3⟩
 have fin:(bF P σ rs).ok/\(bF P σ rs).d=r.val a (LR r.m)/\ft (r.fam a (LR r.m)) ⟨[],[],r.val a (LR r.m)⟩ σ:=by
  refine⟨h1,h2,Aq fun i hi=>?_,trivial,?_⟩
  ·rw[Nat.zero_add,h3]
   show (r.fam a (LR r.m))[i]?=_
   rw[List.getElem?_eq_getElem hi]
  ·have hv:D.clos (cL (r.fam a (LR r.m)).length []) (r.val a (LR r.m))=true:=hr.vcl _ _ _ (mV _) fun x hx=>by
     obtain⟨i,hi,rfl⟩:=List.mem_map.1 hx
     rw[hr.len _ _ (mV _)]
     simpa[cL]using hi
   simp[hv,distinct]
 rcases he with rfl | rfl
 ·exact fin
 ·exact fin
theorem Rn.outC{r:Rn α}(hr:r.Ok)(a:α):∀ hs,bP [0] (bL [0] hs) (aS (r.fam a (LR r.m)))=True:=fun hs=>eq_true (nj (fun o ho dom hd=>hr.closF a dom _ (mV _) (fun x hx=>by
 obtain⟨i,_,rfl⟩:=List.mem_map.1 hx
 exact hd i) o ho) hs)
noncomputable section
attribute [go_sem] EW
def S71u:Spec:=P71.toSpecU
theorem Sp:aL Tryz.prog 71 S71u:=NV.soundU fun xs hp=>by
 obtain⟨l,hl⟩:∃ l:List Bool,P71.fn xs=.sl (l.map .bool):=by
  match xs,hp with
  |[a,b],_=>exact⟨_,rfl⟩
 refine⟨_,hl,?_⟩
 rw[List.all_eq_true]
 intro x hx
 obtain⟨y,_,rfl⟩:=List.mem_map.1 hx
 rfl
theorem SE(l:List Sig):xc (l.map encS)=true:=by
 unfold xc
 rw[List.all_eq_true]
 intro x hx
 obtain⟨y,_,rfl⟩:=List.mem_map.1 hx
 rfl
def wi(l:Led)(k:Int)(nm:Name):D:=.agg [.v (.sl (l.ps.map cK)),.v (.sl (l.rs.map encR)),.v (.sl (l.ts.map c9)),.msl nm l.ss.length,.v (vInt k),.v (.sl ((br l k l.ts.length).map .bool)),.nilsl]
def iJ:Rn (Led×Int) where
 m:=1
 fam:=fun a _=>[.arr 7 (a.1.ss.map encS)]
 args:=fun a Ls=>[.agg [.v (.sl (a.1.ps.map cK)),.v (.sl (a.1.rs.map encR)),.v (.sl (a.1.ts.map c9)),.msl (Ls.getD 0 []) a.1.ss.length],.v (vInt a.2)]
 ok:=fun a=>b7 a.1
 val:=fun a Ls=>wi a.1 a.2 (Ls.getD 0 [])
theorem se{Ls:List Name}(h:Ls.length=1):∃ a,Ls=[a]:=by
 match Ls,h with
 |[a],_=>exact⟨a,rfl⟩
theorem AU:iJ.Ok where
 len:=fun _ _ h=>by obtain⟨a,rfl⟩:=se h;rfl
 renF:=fun a f Ls h=>rfl
 renA:=fun a f Ls h=>by obtain⟨a,rfl⟩:=se h;rfl
 reach:=fun x Ls obj h b9 hF=>by
  obtain⟨a,rfl⟩:=se h
  obtain⟨h1,_⟩:=hF
  have en:cI (iJ.args x [a])=[a]:=rfl
  unfold Go.Eng.reach
  rw[en]
  show cY obj (2993+1+1+1+1+1+1+1) _ []=_
  simp[cY,fD,h1,kx]
 closF:=fun x dom Ls h hd o ho=>by
  simp only[iJ,List.mem_cons,List.not_mem_nil,or_false]at ho
  subst ho;rfl
 closA:=fun x dom Ls h hd=>by
  obtain⟨a,rfl⟩:=se h
  have h1:=hd a (by simp)
  simp[iJ,D.closL,D.clos,h1]
 det:=fun a b _ _ h1 h2=>by
  obtain⟨⟨p,r,t,s⟩,k⟩:=a
  obtain⟨⟨p2,r2,t2,s2⟩,k2⟩:=b
  simp only[iJ,List.cons.injEq,D.agg.injEq,D.v.injEq,V.sl.injEq,O.arr.injEq,and_true,true_and]at h1 h2
  obtain⟨⟨e1,e2,e3,_⟩,e4⟩:=h2
  have e1:=congrArg (List.map pc) e1
  have e2:=congrArg (List.map jt) e2
  have e3:=congrArg (List.map kL) e3
  have e5:=congrArg (List.map ig) h1
  simp only[Kq,yn,Ko,sQ]at e1 e2 e3 e5
  have e6:k=k2:=by simpa[vInt]using e4
  subst e1 e2 e3 e5 e6
  rfl
 vcl:=fun x dom Ls h hd=>by
  obtain⟨a,rfl⟩:=se h
  have h1:=hd a (by simp)
  simp[iJ,wi,D.closL,D.clos,h1]
 vren:=fun x f Ls h=>by obtain⟨a,rfl⟩:=se h;rfl
def S73m:Spec:=iJ.c.toSpec
theorem NT(l:Led)(k:Int)(obj:Name->Option O)(t nm:Name)(H:Name->Option O)(cF:obj nm=H nm)(h0:H nm=some (.arr 7 (l.ss.map encS)))(hl:b7 l):
 S71u.app obj t [.agg [.v (.sl (l.ps.map cK)),.v (.sl (l.rs.map encR)),.v (.sl (l.ts.map c9)),.msl nm l.ss.length],.v (vInt k)]=⟨True,.v (.sl ((br l k l.ts.length).map .bool)),obj⟩:=by
 have ho:=cF.trans h0
 have e:gT obj (.agg [.v (.sl (l.ps.map cK)),.v (.sl (l.rs.map encR)),.v (.sl (l.ts.map c9)),.msl nm l.ss.length])=fY l:=by
  simp[gT,lx,ho,fY]
 have e2:P71.fn [fY l,vInt k]=.sl ((br l k l.ts.length).map .bool):=by
  simp only[go_sem]
 have e3:P71.pre [fY l,vInt k]:=by
  simp only[go_sem]
  exact hl
 simp only[S71u,PSpec.toSpecU,List.map_cons,List.map_nil,e,show gT obj (.v (vInt k))=vInt k from rfl,e2,R.mk.injEq,and_true,eq_iff_iff,iff_true]
 refine⟨fun d hd=>?_,e3⟩
 simp only[List.mem_cons,List.not_mem_nil,or_false]at hd
 rcases hd with rfl | rfl
 ·simp[nl,lB,ho,SE]
 ·rfl
theorem NU(l:Led)(k:Int)(t:Name){F H:Name->Option O}(h0:H [0,1]=some (.arr 7 (l.ss.map encS)))(hl:b7 l):
 S71u.app (fun nm=>if own [0] nm=true then F nm else H nm) t [.agg [.v (.sl (l.ps.map cK)),.v (.sl (l.rs.map encR)),.v (.sl (l.ts.map c9)),.msl [0,1] l.ss.length],.v (vInt k)]=⟨True,.v (.sl ((br l k l.ts.length).map .bool)),fun nm=>if own [0] nm=true then F nm else H nm⟩:=
 NT l k _ t [0,1] H rfl h0 hl
def DT:FuncId->Option Spec:=fun f=>if f=71 then some S71u else none
theorem Ya:∀ f s,DT f=some s->aL Tryz.prog f s:=fun f s h=>by
 unfold DT at h
 split at h
 ·rename_i e;cases h;subst e;exact Sp
 ·cases h
@[go_sem] theorem adJ:DT 71=some S71u:=rfl
set_option maxHeartbeats 4000000 in
theorem So:aL Tryz.prog 73 S73m:=by
 refine Rn.sound AU (rs:=[.cell 4 108]) Tryz.func73 Tryz.ntmps73 (by rfl) (by kernel_rfl) (by decide) ⟨_,rfl,?_⟩
 rintro⟨l,k⟩ hp
 refine⟨lb rfl,?_⟩
 have hΓ:=Ya
 have hP:=fB
 have hO:=Rn.outC AU (l,k)
 have h0:aS (iJ.fam (l,k) (LR iJ.m)) [0,1]=some (.arr 7 (l.ss.map encS)):=rfl
 generalize aS (iJ.fam (l,k) (LR iJ.m))=H at *
 have ha:iJ.args (l,k) (LR iJ.m)=[.agg [.v (.sl (l.ps.map cK)),.v (.sl (l.rs.map encR)),.v (.sl (l.ts.map c9)),.msl [0,1] l.ss.length],.v (vInt k)]:=rfl
 have hv:iJ.val (l,k) (LR iJ.m)=wi l k [0,1]:=rfl
 rw[ha,hv]
 simp only[wi,cN,Nat.zero_add]at h0 |-
 repeat refine sq ?_
 refine rx hΓ [1,2,4] [[2,0],[4,0]] (fun K' hK=>by simp only[go_sem,hO,h0];(repeat (refine⟨ak,?_⟩));exact hK _ (by simp only[go_sem,hO,h0]) (by simp only[go_sem,hO,h0]<;>rfl)) ?_
 repeat refine sq ?_
 refine dx hΓ hP [[],[],[],[],[2,3],u5,u6] [4] [[4,0]] (by kernel_rfl) (fun K' hK=>by simp only[go_sem,hO,h0];rw[NU l k _ h0 hp];simp only[go_sem,hO,h0];(repeat (refine⟨ak,?_⟩));(first | refine⟨by rfl,?_⟩ | skip);exact hK _ (by simp only[go_sem,hO,h0]) (by simp only[go_sem,hO,h0]<;>rfl)) ?_
 refine ay ?_
 simp only[go_sem,hO,h0]
 exact .inr trivial
theorem NS{p:List Pap}{rr:List Rec}{tt:List Ret}{ss:List Sig}{k:Int}{n:Nat}{obj:Name->Option O}{t nm:Name}(ho:obj nm=some (.arr 7 (ss.map encS)))(hl:b7 ⟨p,rr,tt,ss⟩)(hn:n=ss.length):
 S73m.app obj t [.agg [.v (.sl (p.map cK)),.v (.sl (rr.map encR)),.v (.sl (tt.map c9)),.msl nm n],.v (.int .i64 k)]=
  ⟨True,.agg [.v (.sl (p.map cK)),.v (.sl (rr.map encR)),.v (.sl (tt.map c9)),.msl nm ss.length,.v (.int .i64 k),.v (.sl ((br ⟨p,rr,tt,ss⟩ k tt.length).map .bool)),.nilsl],obj⟩:=by
 subst hn
 exact Rn.c_app AU (a:=(⟨p,rr,tt,ss⟩,k)) hl (t:=t) (obj:=obj) (Ls:=[nm]) rfl (by simp) ⟨ho,trivial⟩
end
noncomputable section
def qK(x:R5):V:=.agg [vInt x.a,vInt x.b,vInt x.c,vInt x.d,vInt x.e]
def sL(x:R7):V:=.agg [vInt x.a,vInt x.b,vInt x.c,vInt x.d,vInt x.e,vInt x.f,vInt x.g]
def vl:V->R5
 | .agg [.int _ a,.int _ b,.int _ c,.int _ d,.int _ e]=>⟨a,b,c,d,e⟩
 |_=>default
def yo:V->R7
 | .agg [.int _ a,.int _ b,.int _ c,.int _ d,.int _ e,.int _ f,.int _ g]=>⟨a,b,c,d,e,f,g⟩
 |_=>default
def qJ(r:Raw):V:=.agg [.sl (r.rs.map qK),.sl (r.ts.map sL),.sl (r.ss.map qK)]
def ym:V->Raw
 | .agg [.sl a,.sl b,.sl c]=>⟨a.map vl,b.map yo,c.map vl⟩
 |_=>default
def uu:En Raw:=⟨qJ,ym⟩
theorem VY(x:R5):vl (qK x)=x:=rfl
theorem VW(x:R7):yo (sL x)=x:=rfl
@[go_sem] theorem VX(l:List R5):(l.map qK).map vl=l:=oH VY l
@[go_sem] theorem VV(l:List R7):(l.map sL).map yo=l:=oH VW l
attribute [go_sem] qK vl sL yo qJ ym uu
@[go_sem] theorem adt(x:Raw):(⟨x.rs,x.ts,x.ss⟩:Raw)=x:=rfl
def K73:List (Nat×Spec):=[(20,DH),(83,Xt),(84,zf),(73,S73m),(74,LV)]
theorem Yj:KS K73:=tc EK.sound<|tc NQ.sound<|tc NP.sound<|tc So<|tc NR.sound<|tn
attribute [go_sem] K73
@[go_sem] def P19:PSpec:=p1 uu (fun _=>True) (fun r=>.tup [fY (iH r),.sl ((js r (nT r)).map vInt)]) false
@[go_sem] def L0:Spec:=P19.toSpec
set_option maxHeartbeats 1000000 in
theorem N':aU Tryz.prog 19 P19:=by
 refine fw (rs:=[.cell 2 31,.tmp 3]) Tryz.func19 Tryz.ntmps19 fun r hp hw=>?_
 have hP:=fB
 simp only[uu]at hw |-
 have hΓ:=Yj
 have h8:=pR r
 have hl:nR r<=maxLen:=by unfold maxLen;omega
 repeat refine sq ?_
 refine rx hΓ [1,2] [[1,0],[2,0],[77,0],[158,0],[235,0]] (fun K' hK=>by simp only[go_sem];exact ao) ?_
 repeat refine sq ?_
 refine rx hΓ [1,2,4] [[1,0],[2,0],[4,0],[77,0],[158,0],[235,0]] (fun K' hK=>by simp only[go_sem];exact ao) ?_
 repeat refine sq ?_
 refine rx hΓ [1,2,4,5] [[1,0],[2,0],[4,0],[77,0],[158,0],[163,0],[235,0]] (fun K' hK=>by simp only[go_sem];exact ao) ?_
 refine bU (vO 5 [163,0] 1 (by simp only[go_sem]) (by simp only[go_sem]) [1,2,4,5] [[1,0],[2,0],[4,0],[77,0],[158,0],[163,0],[235,0]] ?_ rfl) ?_
 ·simp only[go_sem]
 simp only[go_sem]
 repeat refine sq ?_
 refine rx hΓ [1,2,4,5,6] [[1,0],[2,0],[4,0],[77,0],[158,0],[163,0],[235,0]] (fun K' hK=>by simp only[go_sem];exact ao) ?_
 refine bU (oh [4,0] [77,0] 1 7 _ rfl rfl rfl [1,2,4,5,6] [[1,0],[2,0],[4,0],[77,0],[158,0],[163,0],[235,0]] ?_ rfl) ?_
 ·simp only[go_sem,List.set_cons_succ,List.set_cons_zero]
 simp only[go_sem,List.set_cons_succ,List.set_cons_zero]
 refine bU (oh [4,0] [158,0] 2 8 _ rfl rfl rfl [1,2,4,5,6] [[1,0],[2,0],[4,0],[77,0],[158,0],[163,0],[235,0]] ?_ rfl) ?_
 ·simp only[go_sem,List.set_cons_succ,List.set_cons_zero]
 simp only[go_sem,List.set_cons_succ,List.set_cons_zero]
 repeat refine sq ?_
 refine rx hΓ [1,2,4,5,6,7] [[1,0],[2,0],[4,0],[77,0],[158,0],[163,0],[235,0]] (fun K' hK=>by simp only[go_sem];exact ao) ?_
 refine bU (oh [4,0] [235,0] 3 7 _ rfl rfl rfl [1,2,4,5,6,7] [[1,0],[2,0],[4,0],[77,0],[158,0],[163,0],[235,0]] ?_ rfl) ?_
 ·simp only[go_sem,List.set_cons_succ,List.set_cons_zero]
 simp only[go_sem,List.set_cons_succ,List.set_cons_zero]
 repeat refine sq ?_
 refine aQ ?_
 repeat refine sq ?_
 refine cr (fun s:Nat=>[(7,⟨true,.v (vInt s)⟩),(6,⟨true,.v (vInt (ef r s))⟩)]) (fun s=>[([4,0],.box [.v (.sl (mps.map cK)),.msl [77,0] (eG r s).length,.msl [158,0] 0,.msl [235,0] 0]),([77,0],.arr 7 ((eG r s).map encR))]) (fun s=>s<=(nR r)) (fun s=>(nR r)-s) 0 ?_ ?_ ?_ ?_
 ·exact Nat.zero_le _
 ·rfl
 ·rfl
 rintro i hi
 simp only[go_sem]
 repeat refine sq ?_
 refine rx hΓ [1,2,4,5,6,7,33] [[1,0],[2,0],[4,0],[77,0],[158,0],[163,0],[235,0]] (fun K' hK=>by simp only[go_sem];exact ao) ?_
 repeat refine sq ?_
 refine aB (fun hb=>?_) fun hb=>?_
 ·repeat refine sq ?_
  have ae:i<nR r:=by simp at hb;unfold nR;omega
  have Jk:i<r.rs.length:=by have h:=ae;unfold nR at h;omega
  have TO:(i:Int)<r.rs.length:=by omega
  have e5:r5 r.rs i=r.rs[i]:=dv Jk
  have m3:=dj (n:=r.rs[i].b) (m:=3) (by decide)
  have ql:0<=aO r.rs[i].b 3:=m3.1
  have I8:(mps.length:Int)=3:=rfl
  have mD:aO r.rs[i].b 3<(mps.length:Int):=by omega
  have uU:(mps.map cK).getD (aO r.rs[i].b 3).toNat default=cK (cR r.rs[i].b):=by
   have hl:(aO r.rs[i].b 3).toNat<mps.length:=by omega
   rw[ah hl];unfold cR;rw[dv hl]
  obtain⟨-,l1,l2,p1,p2⟩:=tV (tW r.rs[i].b)
  have d0:=vk r i
  have ed:ef r (i+1)=ef r i+aO r.rs[i].d 20:=by rw[ef,e5]
  have m20:=dj (n:=r.rs[i].d) (m:=20) (by decide)
  have m4:=dj (n:=r.rs[i].a) (m:=4) (by decide)
  have m5:=dj (n:=r.rs[i].e) (m:=5) (by decide)
  have fS:IntKind.i64.wrap (ef r i+aO r.rs[i].d 20)=ef r (i+1):=by rw[wrap_i64 (by omega) (by omega)];exact ed.symm
  have uE:IntKind.i64.wrap (3*(i:Int))=3*(i:Int):=wrap_i64 (by omega) (by omega)
  have S1:IntKind.i64.wrap (3*(i:Int)+1)=3*(i:Int)+1:=wrap_i64 (by omega) (by omega)
  have SX:IntKind.i64.wrap (1+aO r.rs[i].a 4)=1+aO r.rs[i].a 4:=wrap_i64 (by omega) (by omega)
  have sp:IntKind.i64.wrap (ef r (i+1)+aO r.rs[i].e 5)=ef r (i+1)+aO r.rs[i].e 5:=wrap_i64 (by omega) (by omega)
  have eS:eG r (i+1)=eG r i++[⟨3*(i:Int)+1,1+aO r.rs[i].a 4,(cR r.rs[i].b).id,gM r.rs[i].c (cR r.rs[i].b).lv,ef r (i+1),ef r (i+1)+aO r.rs[i].e 5,0⟩]:=by
   unfold eG
   rw[List.range_succ,List.map_append]
   show _++[ff r i]=_
   unfold ff
   rw[e5]
  have oR:=iA r i
  refine aG ?_
  repeat refine sq ?_
  refine aQ ?_
  repeat refine sq ?_
  refine rx hΓ [1,2,4,5,6,7,8] [[1,0],[2,0],[4,0],[8,0],[77,0],[158,0],[163,0],[235,0]] (fun K' hK=>by simp only[go_sem,ah Jk,TO,ai,aj,List.length_map];exact ao) ?_
  repeat refine sq ?_
  refine dx hΓ hP [[],[0],[],[2],[2,3],u5,u6,[],u8] [1,2,4,5,6,7,8,9] [[1,0],[2,0],[4,0],[8,0],[9,0],[77,0],[158,0],[163,0],[235,0]] (by kernel_rfl) (fun K' hK=>by simp only[go_sem,Int.cast_ofNat_Int,Int.reduceToNat,Int.toNat_zero,Int.toNat_one,Nat.reduceMul,Nat.zero_mul,Nat.one_mul,List.getD_cons_succ,List.getD_cons_zero,uU,ql,mD,List.length_map];(repeat (refine⟨by first | exact ak | exact⟨by decide,by decide⟩,?_⟩));exact gH) ?_
  repeat refine sq ?_
  refine rx hΓ [1,2,4,5,6,7,8,9] [[1,0],[2,0],[4,0],[8,0],[9,0],[77,0],[158,0],[163,0],[235,0]] (fun K' hK=>by simp only[go_sem,Int.cast_ofNat_Int,Int.reduceToNat,Int.toNat_zero,Int.toNat_one,Nat.reduceMul,Nat.zero_mul,Nat.one_mul,List.getD_cons_succ,List.getD_cons_zero,fS];(repeat (refine⟨by first | exact ak | exact⟨by decide,by decide⟩,?_⟩));exact fe) ?_
  repeat refine sq ?_
  refine nY hΓ hP [[],[0],[],[2],[2,3],[],[5],[5,6],[5,6,7],[],[9],[],[11],[],[13],[5,6,7,11,12,13,14],[],[],[],[18],[5,6,7,11,12,13,14,15,18,19],[5,6,7,11,12,13,14,15,17,18,19,20],[2,3,4,5,6,7,8,9,10,11,12,13,14,15,16,17,18,19,20,21],[2,3,4,5,6,7,8,9,10,11,12,13,14,15,16,17,18,19,20,21,22],Ea,vV,MO] (by kernel_rfl) fun K' hK=>?_
  simp only[go_sem,Int.cast_ofNat_Int,Int.reduceToNat,Int.toNat_zero,Int.toNat_one,Nat.reduceMul,Nat.zero_mul,Nat.one_mul,List.getD_cons_succ,List.getD_cons_zero,uE,S1,SX,sp]
  repeat (refine⟨by first | exact ak | exact⟨by decide,by decide⟩ | exact⟨by omega,by omega⟩,?_⟩)
  first | refine⟨by rfl,?_⟩ | skip
  refine hK _ ?_
  clear K' hK
  simp only[go_sem]
  refine kp [1,2,4,5,6,7] [[1,0],[2,0],[4,0],[77,0],[158,0],[163,0],[235,0]] ?_
  repeat refine sq ?_
  refine aY hΓ fun K' hK=>?_
  simp only[go_sem]
  repeat (refine⟨ak,?_⟩)
  refine hK _ ?_
  clear K' hK
  simp only[go_sem]
  refine⟨i+1,ae,by(show (nR r)-(i+1)<(nR r)-i;omega),?_⟩
  refine bq [1,2,4,5,6,7] [[1,0],[2,0],[4,0],[77,0],[158,0],[163,0],[235,0]] ?_ ?_<;>simp only[go_sem,be ae hl,bj,eS,List.map_append,List.length_append,List.map_cons,List.map_nil,List.length_cons,List.length_nil]
 ·repeat refine sq ?_
  have bw:i=nR r:=by
   simp at hb
   have h:=hi
   unfold nR at h |-
   omega
  subst bw
  have sy:nT r<=maxLen:=by have:=wQ r;unfold maxLen;omega
  refine bM ?_
  simp only[go_sem]
  refine kp [1,2,4,5,6] [[1,0],[2,0],[4,0],[77,0],[158,0],[163,0],[235,0]] ?_
  repeat refine sq ?_
  refine rx hΓ [1,2,4,5,6,10] [[1,0],[2,0],[4,0],[77,0],[158,0],[163,0],[235,0]] (fun K' hK=>by simp only[go_sem];exact ao) ?_
  repeat refine sq ?_
  refine aQ ?_
  repeat refine sq ?_
  refine cr (fun s:Nat=>[(10,⟨true,.v (vInt s)⟩),(5,⟨true,.msl [163,0] (js r s).length⟩)]) (fun s=>[([4,0],.box [.v (.sl (mps.map cK)),.msl [77,0] (eG r (nR r)).length,.msl [158,0] (gR r s).length,.msl [235,0] 0]),([158,0],.arr 8 ((gR r s).map c9)),([163,0],.arr 1 ((js r s).map vInt))]) (fun s=>s<=(nT r)) (fun s=>(nT r)-s) 0 ?_ ?_ ?_ ?_
  ·exact Nat.zero_le _
  ·rfl
  ·rfl
  rintro i1 hi
  simp only[go_sem]
  repeat refine sq ?_
  refine rx hΓ [1,2,4,5,6,10,93] [[1,0],[2,0],[4,0],[77,0],[158,0],[163,0],[235,0]] (fun K' hK=>by simp only[go_sem,iA];exact ao) ?_
  repeat refine sq ?_
  refine aB (fun hb=>?_) fun hb=>?_
  ·repeat refine sq ?_
   have aJ:i1<nT r:=by simp at hb;unfold nT;split<;>omega
   have BP:nR r≠0:=F1 aJ
   have Ji:i1<r.ts.length:=by have h:=aJ;unfold nT at h;rw[if_neg BP]at h;omega
   have TM:(i1:Int)<r.ts.length:=by omega
   have h8t:=wQ r
   have e7:r7 r.ts i1=r.ts[i1]:=dv Ji
   have mx:=dj (n:=r.ts[i1].a) (m:=(nR r:Int)) (by omega)
   have SU:0<=aO r.ts[i1].a (nR r):=mx.1
   have nH:aO r.ts[i1].a (nR r)<nR r:=mx.2
   have uT:((eG r (nR r)).map encR).getD (aO r.ts[i1].a (nR r)).toNat default=encR (xT r i1):=by
    have hl:(aO r.ts[i1].a (nR r)).toNat<(eG r (nR r)).length:=by rw[iA];omega
    rw[ah hl];unfold xT;rw[e7,dv hl]
   obtain⟨ix,hix,ex⟩:=D1 BP i1
   obtain⟨-,-,x3,-,-,x6,x7,x8⟩:=tK r (show ix<8 by omega)
   rw[<-ex]at x3 x6 x7 x8
   obtain⟨-,a0,a1⟩:=Ek BP (show i1<8 by omega)
   have ea:dR r i1=(xT r i1).da+aO r.ts[i1].c 30:=by unfold dR;rw[e7]
   have eS:gR r (i1+1)=gR r i1++[⟨3*(i1:Int)+2,(xT r i1).so,1+aO r.ts[i1].g 4,gM r.ts[i1].b (dL mps (xT r i1).pa),if dR r i1-aO r.ts[i1].d 12>0 then dR r i1-aO r.ts[i1].d 12 else 0,dR r i1+aO r.ts[i1].e 12,dR r i1+aO r.ts[i1].e 12+aO r.ts[i1].f 9,0⟩]:=by
    unfold gR
    rw[List.range_succ,List.map_append]
    show _++[tM r i1]=_
    unfold tM
    rw[e7,P1]
   have eD:js r (i1+1)=js r i1++[dR r i1]:=by
    unfold js
    rw[List.range_succ,List.map_append];rfl
   have ji:(gR r i1).length=i1:=by unfold gR;simp
   have o3:(js r i1).length=i1:=by unfold js;simp
   generalize xT r i1=xx at *
   have AL:=dj (n:=r.ts[i1].c) (m:=30) (by decide)
   have m4:=dj (n:=r.ts[i1].g) (m:=4) (by decide)
   have Qg:=dj (n:=r.ts[i1].d) (m:=12) (by decide)
   have Qf:=dj (n:=r.ts[i1].e) (m:=12) (by decide)
   have m9:=dj (n:=r.ts[i1].f) (m:=9) (by decide)
   have SY:IntKind.i64.wrap (xx.da+aO r.ts[i1].c 30)=dR r i1:=by rw[wrap_i64 (by omega) (by omega)];exact ea.symm
   have uE:IntKind.i64.wrap (3*(i1:Int))=3*(i1:Int):=wrap_i64 (by omega) (by omega)
   have S0:IntKind.i64.wrap (3*(i1:Int)+2)=3*(i1:Int)+2:=wrap_i64 (by omega) (by omega)
   have uB:IntKind.i64.wrap (1+aO r.ts[i1].g 4)=1+aO r.ts[i1].g 4:=wrap_i64 (by omega) (by omega)
   have SV:IntKind.i64.wrap (dR r i1-aO r.ts[i1].d 12)=dR r i1-aO r.ts[i1].d 12:=wrap_i64 (by omega) (by omega)
   have SW:IntKind.i64.wrap (dR r i1+aO r.ts[i1].e 12)=dR r i1+aO r.ts[i1].e 12:=wrap_i64 (by omega) (by omega)
   have sp:IntKind.i64.wrap (dR r i1+aO r.ts[i1].e 12+aO r.ts[i1].f 9)=dR r i1+aO r.ts[i1].e 12+aO r.ts[i1].f 9:=wrap_i64 (by omega) (by omega)
   refine aG ?_
   repeat refine sq ?_
   refine aQ ?_
   repeat refine sq ?_
   refine rx hΓ [1,2,4,5,6,10,11] [[1,0],[2,0],[4,0],[11,0],[77,0],[158,0],[163,0],[235,0]] (fun K' hK=>by simp only[go_sem,ah Ji,TM,ai,aj,List.length_map];exact ao) ?_
   repeat refine sq ?_
   refine dx hΓ hP [[],[0],[],[2],[],[4],[4,5],[2,3,4,5,6],u8,u9,[],fO] [1,2,4,5,6,10,11,12] [[1,0],[2,0],[4,0],[11,0],[12,0],[77,0],[158,0],[163,0],[235,0]] (by kernel_rfl) (fun K' hK=>by simp only[go_sem,Int.cast_ofNat_Int,Int.reduceToNat,Int.toNat_zero,Int.toNat_one,Nat.reduceMul,Nat.zero_mul,Nat.one_mul,List.getD_cons_succ,List.getD_cons_zero,uT,SU,nH,iA,List.length_map];(repeat (refine⟨by first | exact ak | exact⟨by omega,by omega⟩,?_⟩));exact gH) ?_
   repeat refine sq ?_
   refine dx hΓ hP [[],[0],[],[2],[2,3],u5,u6] [1,2,4,5,6,10,11,12,13] [[1,0],[2,0],[4,0],[11,0],[12,0],[77,0],[158,0],[163,0],[235,0]] (by kernel_rfl) (fun K' hK=>by simp only[go_sem,Int.cast_ofNat_Int,Int.reduceToNat,Int.toNat_zero,Int.toNat_one,Nat.reduceMul,Nat.zero_mul,Nat.one_mul,List.getD_cons_succ,List.getD_cons_zero,SY];(repeat (refine⟨by first | exact ak | exact⟨by decide,by decide⟩,?_⟩));exact gH) ?_
   repeat refine sq ?_
   refine dx hΓ hP [[],[0],[0,1],[],[3],[],[5],[5,6],[5,6,7],[],[9],[],[],[12],[5,6,7,11,12,13],[5,6,7,9,10,11,12,13,14],[],[],[17],[5,6,7,9,10,11,12,13,14,15,17,18],[5,6,7,9,10,11,12,13,14,15,16,17,18,19],[5,6,7,9,10,11,12,13,14,15,16,17,18,19,20],[],[],[23],[5,6,7,9,10,11,12,13,14,15,17,18,19,23,24],[5,6,7,9,10,11,12,13,14,15,17,18,19,22,23,24,25],[5,6,7,9,10,11,12,13,14,15,16,17,18,19,20,21,22,23,24,25,26],vU,[],D9] [1,2,4,5,6,10,11,13,14] [[1,0],[2,0],[4,0],[11,0],[14,0],[77,0],[158,0],[163,0],[235,0]] (by kernel_rfl) (fun K' hK=>by simp only[go_sem,Int.cast_ofNat_Int,Int.reduceToNat,Int.toNat_zero,Int.toNat_one,Nat.reduceMul,Nat.zero_mul,Nat.one_mul,List.getD_cons_succ,List.getD_cons_zero,uE,S0,uB,SV,SW];(repeat (refine⟨by first | exact ak | exact(iA _ _).symm | exact⟨by decide,by decide⟩ | exact⟨by omega,by omega⟩,?_⟩));exact gH) ?_
   repeat refine sq ?_
   refine dx hΓ hP [[],[0],[0,1],[],[3],[3,4],u6,u7,u8] [1,2,4,5,6,10,13,14] [[1,0],[2,0],[4,0],[14,0],[77,0],[158,0],[163,0],[235,0]] (by kernel_rfl) (fun K' hK=>by simp only[go_sem,Int.cast_ofNat_Int,Int.reduceToNat,Int.toNat_zero,Int.toNat_one,Nat.reduceMul,Nat.zero_mul,Nat.one_mul,List.getD_cons_succ,List.getD_cons_zero,sp];(repeat (refine⟨by first | exact ak | exact⟨by decide,by decide⟩,?_⟩));exact gH) ?_
   repeat refine sq ?_
   refine rx hΓ [1,2,4,5,6,10,13] [[1,0],[2,0],[4,0],[77,0],[158,0],[163,0],[235,0]] (fun K' hK=>by simp only[go_sem];exact ao) ?_
   repeat refine sq ?_
   refine aY hΓ fun K' hK=>?_
   simp only[go_sem]
   repeat (refine⟨ak,?_⟩)
   refine hK _ ?_
   clear K' hK
   simp only[go_sem]
   refine kp [1,2,4,5,6,10] [[1,0],[2,0],[4,0],[77,0],[158,0],[163,0],[235,0]] ?_
   repeat refine sq ?_
   refine aY hΓ fun K' hK=>?_
   simp only[go_sem]
   repeat (refine⟨ak,?_⟩)
   refine hK _ ?_
   clear K' hK
   simp only[go_sem]
   refine⟨i1+1,aJ,by(show (nT r)-(i1+1)<(nT r)-i1;omega),?_⟩
   refine bq [1,2,4,5,6,10] [[1,0],[2,0],[4,0],[77,0],[158,0],[163,0],[235,0]] ?_ ?_<;>simp only[go_sem,be aJ sy,bj,iA,eS,eD,List.map_append,List.length_append,List.map_cons,List.map_nil,List.length_cons,List.length_nil]
  ·repeat refine sq ?_
   have iQ:i1=nT r:=by
    simp at hb
    have h:=hi
    unfold nT at h |-
    split at h
    ·rename_i h0;rw[if_pos h0];omega
    ·rename_i h0;rw[if_neg h0];omega
   subst iQ
   have fH:nS r<=maxLen:=by have:nS r<=6:=Nat.min_le_right _ _;unfold maxLen;omega
   refine bM ?_
   simp only[go_sem]
   refine kp [1,2,4,5,6] [[1,0],[2,0],[4,0],[77,0],[158,0],[163,0],[235,0]] ?_
   repeat refine sq ?_
   refine rx hΓ [1,2,4,5,6,15] [[1,0],[2,0],[4,0],[77,0],[158,0],[163,0],[235,0]] (fun K' hK=>by simp only[go_sem];exact ao) ?_
   refine bU (dH 5 (.msl [163,0] (js r (nT r)).length) (by simp only[go_sem]) (by simp only[go_sem]) [1,2,4,5,6,15] [[1,0],[2,0],[4,0],[77,0],[158,0],[163,0],[235,0]] ?_ rfl) ?_
   ·simp only[go_sem]
   simp only[go_sem]
   refine bU (vP [4,0] [77,0] 1 _ _ _ _ rfl rfl rfl (by first | rfl | (simp only[List.length_map,iA];done)) [1,2,4,5,6,15] [[1,0],[2,0],[4,0],[77,0],[158,0],[163,0],[235,0]] ?_ rfl) ?_
   ·simp only[go_sem,List.set_cons_succ,List.set_cons_zero,iA]
   simp only[go_sem,List.set_cons_succ,List.set_cons_zero,iA]
   refine bU (vP [4,0] [158,0] 2 _ _ _ _ rfl rfl rfl (by first | rfl | (simp only[List.length_map];done)) [1,2,4,5,6,15] [[1,0],[2,0],[4,0],[77,0],[158,0],[163,0],[235,0]] ?_ rfl) ?_
   ·simp only[go_sem,List.set_cons_succ,List.set_cons_zero]
   simp only[go_sem,List.set_cons_succ,List.set_cons_zero]
   repeat refine sq ?_
   refine aQ ?_
   repeat refine sq ?_
   refine cr (fun s:Nat=>[(15,⟨true,.v (vInt s)⟩)]) (fun s=>[([4,0],.box [.v (.sl (mps.map cK)),.v (.sl ((eG r (nR r)).map encR)),.v (.sl ((gR r (nT r)).map c9)),.msl [235,0] (cU r s).length]),([235,0],.arr 7 ((cU r s).map encS))]) (fun s=>s<=(nS r)) (fun s=>(nS r)-s) 0 ?_ ?_ ?_ ?_
   ·exact Nat.zero_le _
   ·rfl
   ·rfl
   rintro i2 hi
   simp only[go_sem]
   repeat refine sq ?_
   refine rx hΓ [1,2,4,5,6,15,172] [[1,0],[2,0],[4,0],[77,0],[158,0],[163,0],[235,0]] (fun K' hK=>by simp only[go_sem];exact ao) ?_
   repeat refine sq ?_
   refine aB (fun hb=>?_) fun hb=>?_
   ·repeat refine sq ?_
    have bN:i2<nS r:=by simp at hb;unfold nS;omega
    have Jj:i2<r.ss.length:=by have h:=bN;unfold nS at h;omega
    have TN:(i2:Int)<r.ss.length:=by omega
    have h6:i2<6:=by have h:=bN;unfold nS at h;omega
    have e6:r5 r.ss i2=r.ss[i2]:=dv Jj
    have m3:=dj (n:=r.ss[i2].b) (m:=3) (by decide)
    have ql:0<=aO r.ss[i2].b 3:=m3.1
    have I8:(mps.length:Int)=3:=rfl
    have mD:aO r.ss[i2].b 3<(mps.length:Int):=by omega
    have uU:(mps.map cK).getD (aO r.ss[i2].b 3).toNat default=cK (cR r.ss[i2].b):=by
     have hl:(aO r.ss[i2].b 3).toNat<mps.length:=by omega
     rw[ah hl];unfold cR;rw[dv hl]
    obtain⟨-,l1,l2,p1,p2⟩:=tV (tW r.ss[i2].b)
    have d0:=vk r (nR r)
    have ml:=dj (n:=r.ss[i2].c) (m:=(cR r.ss[i2].b).lv) (by omega)
    have md:=dj (n:=r.ss[i2].d) (m:=ef r (nR r)+20) (by omega)
    have AL:=dj (n:=r.ss[i2].e) (m:=30) (by decide)
    have ji:mi r i2=1+aO r.ss[i2].c (cR r.ss[i2].b).lv:=by unfold mi;rw[e6]
    have su:jz r i2=aO r.ss[i2].d (ef r (nR r)+20):=by unfold jz;rw[e6]
    have uE:IntKind.i64.wrap (3*(i2:Int))=3*(i2:Int):=wrap_i64 (by omega) (by omega)
    have SZ:IntKind.i64.wrap (3*(i2:Int)+3)=3*(i2:Int)+3:=wrap_i64 (by omega) (by omega)
    have uC:IntKind.i64.wrap (1+aO r.ss[i2].c (cR r.ss[i2].b).lv)=mi r i2:=by rw[wrap_i64 (by omega) (by omega)];exact ji.symm
    have fS:IntKind.i64.wrap (ef r (nR r)+20)=ef r (nR r)+20:=wrap_i64 (by omega) (by omega)
    have sp:IntKind.i64.wrap (jz r i2+aO r.ss[i2].e 30)=jz r i2+aO r.ss[i2].e 30:=wrap_i64 (by omega) (by omega)
    have Bx:=zI r i2
    have aa:=F8 r (s:=i2) (by omega)
    have o3:(js r (nT r)).length=(ow (eJ r (cU r i2)) 900).ts.length:=by
     show _=(br _ _ _).length
     rw[pH]
     show ((List.range (nT r)).map _).length=((List.range (nT r)).map _).length
     rw[List.length_map,List.length_map]
    have eS:cU r (i2+1)=cU r i2++[⟨3*(i2:Int)+3,mh r i2 (cU r i2),(cR r.ss[i2].b).id,mi r i2,jz r i2,jz r i2+aO r.ss[i2].e 30,0⟩]:=by
     rw[cU]
     unfold rL
     rw[e6]
    have Jq:(⟨mps,eG r (nR r),gR r (nT r),cU r i2⟩:Led)=eJ r (cU r i2):=rfl
    have JB:(⟨⟨mps,eG r (nR r),gR r (nT r),cU r i2⟩,900,br (eJ r (cU r i2)) 900 (gR r (nT r)).length,[]⟩:RV)=ow (eJ r (cU r i2)) 900:=rfl
    refine aG ?_
    repeat refine sq ?_
    refine aQ ?_
    repeat refine sq ?_
    refine rx hΓ [1,2,4,5,6,15,16] [[1,0],[2,0],[4,0],[16,0],[77,0],[158,0],[163,0],[235,0]] (fun K' hK=>by simp only[go_sem,ah Jj,TN,ai,aj,List.length_map];exact ao) ?_
    repeat refine sq ?_
    refine dx hΓ hP [[],[0],[],[2],[2,3],u5,u6,[],u8] [1,2,4,5,6,15,16,17] [[1,0],[2,0],[4,0],[16,0],[17,0],[77,0],[158,0],[163,0],[235,0]] (by kernel_rfl) (fun K' hK=>by simp only[go_sem,Int.cast_ofNat_Int,Int.reduceToNat,Int.toNat_zero,Int.toNat_one,Nat.reduceMul,Nat.zero_mul,Nat.one_mul,List.getD_cons_succ,List.getD_cons_zero,uU,ql,mD,List.length_map];(repeat (refine⟨by first | exact ak | exact⟨by decide,by decide⟩,?_⟩));exact gH) ?_
    repeat refine sq ?_
    refine dx hΓ hP [[],[0],[0,1],[],[3],[],[5],[],[7],[5,6,7,8],[5,6,7,8,9],[],[11],[],[13],[5,6,7,8,9,11,12,13,14],[],[16],[5,6,7,8,9,11,12,13,14,15,16,17],oq,[],tj] [1,2,4,5,6,15,16,18] [[1,0],[2,0],[4,0],[16,0],[18,0],[77,0],[158,0],[163,0],[235,0]] (by kernel_rfl) (fun K' hK=>by simp only[go_sem,Int.cast_ofNat_Int,Int.reduceToNat,Int.toNat_zero,Int.toNat_one,Nat.reduceMul,Nat.zero_mul,Nat.one_mul,List.getD_cons_succ,List.getD_cons_zero,uE,SZ,uC,fS,<-su];(repeat (refine⟨by first | exact ak | exact⟨by decide,by decide⟩ | exact⟨by omega,by omega⟩,?_⟩));exact gH) ?_
    repeat refine sq ?_
    refine rx hΓ [1,2,4,5,6,15,16,18,210] [[1,0],[2,0],[4,0],[16,0],[18,0],[77,0],[158,0],[163,0],[235,0]] (fun K' hK=>by simp only[go_sem,Int.cast_ofNat_Int,Int.reduceToNat,Int.toNat_zero,Int.toNat_one,Nat.reduceMul,Nat.zero_mul,Nat.one_mul,List.getD_cons_succ,List.getD_cons_zero];(repeat (refine⟨by first | exact ak | exact⟨by decide,by decide⟩,?_⟩));exact fe) ?_
    repeat refine sq ?_
    refine aB (fun hb=>?_) fun hb=>?_
    ·repeat refine sq ?_
     have ep:mh r i2 (cU r i2)=i4 (ow (eJ r (cU r i2)) 900) ⟨(cR r.ss[i2].b).id,mi r i2⟩ (js r (nT r)) (jz r i2):=by unfold mh;rw[e6,if_pos hb]
     repeat refine sq ?_
     refine rx hΓ [1,2,4,5,6,15,16,18,19] [[1,0],[2,0],[4,0],[16,0],[18,0],[19,0],[77,0],[158,0],[163,0],[235,0]] (fun K' hK=>by simp only[go_sem,Jq];rw[NS (ss:=cU r i2) rfl aa rfl];simp only[go_sem,Jq];exact ao) ?_
     repeat refine sq ?_
     refine rx hΓ [1,2,4,5,6,15,16,18] [[1,0],[2,0],[4,0],[16,0],[18,0],[77,0],[158,0],[163,0],[235,0]] (fun K' hK=>by simp only[go_sem];(repeat (refine⟨by first | exact ak | exact⟨OK aa 900,o3⟩,?_⟩));exact fe) ?_
     repeat refine sq ?_
     refine dx hΓ hP [[],[0],[],[2],[2,3],u5,u6,u7] [1,2,4,5,6,15,18] [[1,0],[2,0],[4,0],[18,0],[77,0],[158,0],[163,0],[235,0]] (by kernel_rfl) (fun K' hK=>by simp only[go_sem,Int.cast_ofNat_Int,Int.reduceToNat,Int.toNat_zero,Int.toNat_one,Nat.reduceMul,Nat.zero_mul,Nat.one_mul,List.getD_cons_succ,List.getD_cons_zero,sp];(repeat (refine⟨by first | exact ak | exact⟨by decide,by decide⟩,?_⟩));exact gH) ?_
     repeat refine sq ?_
     refine aY hΓ fun K' hK=>?_
     simp only[go_sem]
     repeat (refine⟨ak,?_⟩)
     refine hK _ ?_
     clear K' hK
     simp only[go_sem]
     refine kp [1,2,4,5,6,15] [[1,0],[2,0],[4,0],[77,0],[158,0],[163,0],[235,0]] ?_
     repeat refine sq ?_
     refine aY hΓ fun K' hK=>?_
     simp only[go_sem]
     repeat (refine⟨ak,?_⟩)
     refine hK _ ?_
     clear K' hK
     simp only[go_sem]
     refine⟨i2+1,bN,by(show (nS r)-(i2+1)<(nS r)-i2;omega),?_⟩
     refine bq [1,2,4,5,6,15] [[1,0],[2,0],[4,0],[77,0],[158,0],[163,0],[235,0]] ?_ ?_<;>simp only[go_sem,be bN fH,bj,iA,eS,ep,JB,List.map_append,List.length_append,List.map_cons,List.map_nil,List.length_cons,List.length_nil]
    ·repeat refine sq ?_
     have ep:mh r i2 (cU r i2)=aO r.ss[i2].a 5:=by unfold mh;rw[e6,if_neg (by rw[hb];decide)]
     refine aG ?_
     repeat refine sq ?_
     refine dx hΓ hP [[],[0],[],[2],[2,3],u5,u6,u7] [1,2,4,5,6,15,18] [[1,0],[2,0],[4,0],[18,0],[77,0],[158,0],[163,0],[235,0]] (by kernel_rfl) (fun K' hK=>by simp only[go_sem,Int.cast_ofNat_Int,Int.reduceToNat,Int.toNat_zero,Int.toNat_one,Nat.reduceMul,Nat.zero_mul,Nat.one_mul,List.getD_cons_succ,List.getD_cons_zero,sp];(repeat (refine⟨by first | exact ak | exact⟨by decide,by decide⟩,?_⟩));exact gH) ?_
     repeat refine sq ?_
     refine aY hΓ fun K' hK=>?_
     simp only[go_sem]
     repeat (refine⟨ak,?_⟩)
     refine hK _ ?_
     clear K' hK
     simp only[go_sem]
     refine kp [1,2,4,5,6,15] [[1,0],[2,0],[4,0],[77,0],[158,0],[163,0],[235,0]] ?_
     repeat refine sq ?_
     refine aY hΓ fun K' hK=>?_
     simp only[go_sem]
     repeat (refine⟨ak,?_⟩)
     refine hK _ ?_
     clear K' hK
     simp only[go_sem]
     refine⟨i2+1,bN,by(show (nS r)-(i2+1)<(nS r)-i2;omega),?_⟩
     refine bq [1,2,4,5,6,15] [[1,0],[2,0],[4,0],[77,0],[158,0],[163,0],[235,0]] ?_ ?_<;>simp only[go_sem,be bN fH,bj,iA,eS,ep,JB,List.map_append,List.length_append,List.map_cons,List.map_nil,List.length_cons,List.length_nil]
   ·repeat refine sq ?_
    have lR:i2=nS r:=by
     simp at hb
     have h:=hi
     unfold nS at h |-
     omega
    subst lR
    refine bM ?_
    simp only[go_sem]
    refine kp [2,4,5] [[2,0],[4,0],[77,0],[158,0],[163,0],[235,0]] ?_
    repeat refine sq ?_
    refine rx hΓ [2,3] [[2,0],[77,0],[158,0],[163,0],[235,0]] (fun K' hK=>by simp only[go_sem];exact ao) ?_
    refine ay ?_
    simp only[go_sem]
    first | rfl | trace_state
end
theorem Vv{α:Type}(p:α->Bool)(l:List α):l.find? p=if db p l<0 then none else l[(db p l).toNat]?:=by
 unfold db
 by_cases h:l.any p=true
 ·rw[if_pos h]
  have ae:l.findIdx p<l.length:=List.findIdx_lt_length_of_exists (by obtain⟨x,hx,hp⟩:=List.any_eq_true.1 h;exact⟨x,hx,hp⟩)
  rw[if_neg (by omega),Int.toNat_natCast,List.getElem?_eq_getElem ae]
  exact List.find?_eq_some_iff_getElem.2 ⟨List.findIdx_getElem (w:=ae),_,ae,rfl,fun j hj=>by simpa using List.not_of_lt_findIdx hj⟩
 ·rw[if_neg h,if_pos (by omega)]
  rw[List.find?_eq_none]
  intro x hx hp
  exact h (List.any_eq_true.2 ⟨x,hx,hp⟩)
theorem Pf(l:Led)(k so:Int):dC (bB l k) so=if dB l so k<0 then none else some (bS l (dB l so k).toNat):=by
 unfold dC bB
 rw[List.find?_filter]
 have e:(fun a:Rec=>decide (cQ a.kn a.un k=true/\(a.so==so)=true))=fun r=>r.so==so&&cQ r.kn r.un k:=by
  funext a
  cases cQ a.kn a.un k<;>cases (a.so==so)<;>rfl
 rw[e,Vv]
 show (if dB l so k<0 then none else l.rs[(dB l so k).toNat]?)=_
 rcases zX l so k with h | ⟨j,hj,h,-⟩
 ·rw[h];rfl
 ·rw[h,if_neg (by omega),if_neg (by omega),Int.toNat_natCast,ki hj,List.getElem?_eq_getElem hj]
theorem Ef(l:Led)(k:Int){s j:Nat}(h:s<l.ts.length):(br l k (s+1)).getD j false=if j=s then gf l k (br l k s) s else(br l k s).getD j false:=by
 rw[<-Eg l k h]
 by_cases hj:j=s
 ·subst hj
  rw[if_pos rfl,List.getD_eq_getElem?_getD,List.getElem?_set_self (by rw[pH];exact h)]
  rfl
 ·rw[if_neg hj,List.getD_eq_getElem?_getD,List.getElem?_set_ne (by omega),<-List.getD_eq_getElem?_getD]
theorem zD{l:Led}{k:Int}{s j:Nat}(h:(br l k s).getD j false=true):j<s:=(Ei l k h).1
structure ze (l:Led) (k:Int) (s:Nat):Prop where
 ts:∀ j:Nat,(br l k s).getD j false=true↔(j:Int)∈(aw l k s).ts
 tn:(aw l k s).ts.Nodup
 tl:∀ j∈(aw l k s).ts,0<=j/\j<s
 bk1:∀ so f i,bt (aw l k s).bk (so,f)=some i->∃ j:Nat,i=j/\(br l k s).getD j false=true/\(aI l j).re=so/\f∈(aI l j).lv
 bk2:∀ j:Nat,(br l k s).getD j false=true->∀ f∈(aI l j).lv,bt (aw l k s).bk ((aI l j).re,f)=some (j:Int)
 ds:∀ j:Nat,(br l k s).getD j false=true->bI (aw l k s).ds j=(dk (aI l j).lo ((mj (bB l k) (aI l j).re).da+1),(aI l j).hi)
theorem qL(d:Ds)(i j:Int)(v:Int×Int):bI (jW d i v) j=if i=j then v else bI d j:=by
 induction d with
 |nil=>rfl
 |cons e r ih=>
  obtain⟨k,x⟩:=e
  simp only[jW]
  by_cases h:k=i
  ·rw[if_pos h]
   subst h
   simp only[bI]
   split<;>rfl
  ·rw[if_neg h]
   simp only[bI,ih]
   by_cases h2:k=j
   ·subst h2
    rw[if_pos rfl,if_pos rfl,if_neg (fun e=>h e.symm)]
   ·rw[if_neg h2,if_neg h2]
theorem Xd{l:Led}{k:Int}{s:Nat}(h:ze l k s)(x:Ret)(f:Int):(bt (aw l k s).bk (x.re,f)).isSome=!j6 (lh l (br l k s) x f) s:=by
 cases hb:bt (aw l k s).bk (x.re,f)with
 |none=>
  have :j6 (lh l (br l k s) x f) s=true:=by
   unfold j6
   rw[List.all_eq_true]
   intro j _
   unfold lh
   cases hj:((br l k s).getD j false&&(aI l j).re==x.re&&(aI l j).lv.contains f)with
   |false=>rfl
   |true=>
    simp only[Bool.and_eq_true,beq_iff_eq,List.contains_iff_mem]at hj
    have :=h.bk2 j hj.1.1 f hj.2
    rw[hj.1.2,hb]at this
    cases this
  rw[this];rfl
 |some i=>
  obtain⟨j,rfl,h1,h2,h3⟩:=h.bk1 _ _ _ hb
  have :j6 (lh l (br l k s) x f) s=false:=by
   unfold j6
   rw[List.all_eq_false]
   refine⟨j,List.mem_range.2 (zD h1),?_⟩
   unfold lh
   rw[h1,h2]
   simp[h3]
  rw[this];rfl
theorem FZ{l:Led}{k:Int}{s:Nat}(h:ze l k s):eH k (bB l k) (aw l k s).bk (aI l s)=if gf l k (br l k s) s=true then some (bS l (dB l (aI l s).re k).toNat)else none:=by
 unfold eH gf
 rw[Pf]
 by_cases hx:dB l (aI l s).re k<0
 ·rw[if_pos hx,if_pos hx];rfl
 ·rw[if_neg hx,if_neg hx]
  have II:(bS l (dB l (aI l s).re k).toNat).so=(aI l s).re:=by
   rcases zX l (aI l s).re k with h | ⟨j,hj,h,hr⟩
   ·rw[h]at hx;exact absurd (by decide) hx
   ·rw[h,Int.toNat_natCast,ki hj]
    unfold nD at hr
    simp only[Bool.and_eq_true,beq_iff_eq]at hr
    exact hr.1
  have iV:((aI l s).lv.any fun f=>(bt (aw l k s).bk ((bS l (dB l (aI l s).re k).toNat).so,f)).isSome||!(bS l (dB l (aI l s).re k).toNat).lv.contains f)=!(aI l s).lv.all (nA l (br l k s) s (bS l (dB l (aI l s).re k).toNat) (aI l s)):=by
   rw[II,List.not_all_eq_any_not]
   congr 1
   funext f
   rw[Xd h]
   unfold nA
   rw[Bool.not_and,Bool.or_comm]
  show (if (cQ (aI l s).kn (aI l s).un k&&!(decide (dk (aI l s).lo ((bS l (dB l (aI l s).re k).toNat).da+1)>(aI l s).hi)||(aI l s).lv.any fun f=>(bt (aw l k s).bk ((bS l (dB l (aI l s).re k).toNat).so,f)).isSome||!(bS l (dB l (aI l s).re k).toNat).lv.contains f))=true then _ else _)=_
  rw[iV]
  unfold vj
  cases cQ (aI l s).kn (aI l s).un k<;>cases decide (dk (aI l s).lo ((bS l (dB l (aI l s).re k).toNat).da+1)>(aI l s).hi)<;>cases (aI l s).lv.all (nA l (br l k s) s (bS l (dB l (aI l s).re k).toNat) (aI l s))<;>rfl
theorem zE(l:Led)(k:Int):∀ s,s<=l.ts.length->ze l k s
 | 0,_=>by
   have hf:∀ j,¬ (br l k 0).getD j false=true:=fun j h=>absurd (zD h) (Nat.not_lt_zero j)
   exact⟨fun j=>⟨fun h=>(hf j h).elim,fun h=>(nomatch h)⟩,List.nodup_nil,fun j h=>(nomatch h),fun so f i h=>(nomatch h),fun j h=>(hf j h).elim,fun j h=>(hf j h).elim⟩
 |s+1,hs=>by
  have ih:=zE l k s (by omega)
  have hn:=FZ ih
  have cP:=fun j=>Ef l k (s:=s) (j:=j) (by omega)
  by_cases hb:gf l k (br l k s) s=true
  ·rw[if_pos hb]at hn
   have e:=ub hn
   obtain⟨uJ,-,-,p9⟩:=F0 hn
   obtain⟨IL,bW⟩:=Fi uJ
   have lL:mj (bB l k) (aI l s).re=bS l (dB l (aI l s).re k).toNat:=by unfold mj;rw[uJ];rfl
   generalize bS l (dB l (aI l s).re k).toNat=r at *
   have fG:∀ f∈(aI l s).lv,bt (aw l k s).bk (r.so,f)=none:=fun f hf=>by
    have :=List.any_eq_false.1 p9 f hf
    unfold gy at this
    simp only[Bool.or_eq_true,not_or,Option.isSome_iff_ne_none,ne_eq,Decidable.not_not]at this
    exact this.1
   rw[hb]at cP
   have my:∀ j:Nat,(br l k (s+1)).getD j false=true↔(j:Int)∈(aw l k (s+1)).ts:=fun j=>by
    rw[cP,e]
    show _↔(j:Int)∈(aw l k s).ts++[(s:Int)]
    rw[List.mem_append,List.mem_singleton]
    by_cases hj:j=s
    ·subst hj;simp
    ·rw[if_neg hj,ih.ts j]
     constructor
     ·exact .inl
     ·rintro(h | h)
      ·exact h
      ·exact(hj (by omega)).elim
   refine⟨my,?_,?_,?_,?_,?_⟩
   ·rw[e]
    refine List.nodup_append.2 ⟨ih.tn,by simp,fun a ha b cX qw=>?_⟩
    have :=ih.tl a ha
    simp only[List.mem_singleton]at cX
    omega
   ·intro j hj
    rw[e]at hj
    rcases List.mem_append.1 hj with hj | hj
    ·have:=ih.tl j hj;omega
    ·simp only[List.mem_singleton]at hj;omega
   ·intro so f i h
    rw[e]at h
    simp only[yE]at h
    split at h
    ·rename_i hc
     cases h
     refine⟨s,rfl,by rw[cP,if_pos rfl],?_,hc.2⟩
     rw[<-bW];exact hc.1.symm
    ·obtain⟨j,rfl,h1,h2,h3⟩:=ih.bk1 so f i h
     have :=zD h1
     exact⟨j,rfl,by rw[cP,if_neg (by omega)];exact h1,h2,h3⟩
   ·intro j h1 f hf
    rw[cP]at h1
    rw[e]
    simp only[yE]
    by_cases hj:j=s
    ·subst hj
     rw[if_pos ⟨bW.symm,hf⟩]
    ·rw[if_neg hj]at h1
     have h4:=ih.bk2 j h1 f hf
     rw[if_neg,h4]
     rintro⟨h5,h6⟩
     have :=fG f h6
     rw[<-h5,h4]at this
     cases this
   ·intro j h1
    rw[cP]at h1
    rw[e]
    show bI (jW (aw l k s).ds s (dk (aI l s).lo (r.da+1),(aI l s).hi)) j=_
    rw[qL]
    by_cases hj:j=s
    ·subst hj
     rw[if_pos rfl,lL]
    ·rw[if_neg hj]at h1
     rw[if_neg (by omega)]
     exact ih.ds j h1
  ·rw[if_neg hb]at hn
   have e:=oJ hn
   have e2:br l k (s+1)=br l k s:=vY l k (by simpa using hb)
   exact⟨by rw[e,e2];exact ih.ts,by rw[e];exact ih.tn,fun j hj=>by rw[e]at hj;have:=ih.tl j hj;omega,by rw[e,e2];exact ih.bk1,by rw[e,e2];exact ih.bk2,by rw[e,e2];exact ih.ds⟩
theorem tk(l:Led)(k:Int):ze l k l.ts.length:=zE l k _ (Nat.le_refl _)
def Az(v:Int×Int)(da:Int)(os:List Rec):Int×Int:=os.foldl (fun v o=>if o.da>da then(dk v.1 0,wU v.2 o.da)else v) v
theorem PS(d:Ds)(i da:Int)(os:List Rec)(j:Int):bI (jF d i da os) j=if i=j then Az (bI d i) da os else bI d j:=by
 induction os generalizing d with
 |nil=>
  show bI d j=if i=j then bI d i else bI d j
  split
  ·rename_i h;rw[h]
  ·rfl
 |cons o r ih=>
  show bI (jF (if o.da>da then nu d i ⟨0,o.da⟩else d) i da r) j=if i=j then Az (if o.da>da then(dk (bI d i).1 0,wU (bI d i).2 o.da)else bI d i) da r else bI d j
  rw[ih]
  by_cases hc:o.da>da
  ·rw[if_pos hc,if_pos hc]
   unfold nu
   rw[qL,if_pos rfl,qL]
   by_cases fb:i=j
   ·rw[if_pos fb,if_pos fb]
   ·rw[if_neg fb,if_neg fb,if_neg fb]
  ·rw[if_neg hc,if_neg hc]
theorem JO{ts:List Int}{m:Nat}(h:m<ts.length):ts.take (m+1)=ts.take m++[ts.getD m 0]:=by
 rw[List.take_add_one,List.getD_eq_getElem?_getD,List.getElem?_eq_getElem h];rfl
theorem AX(l:Led)(rs:List Rec)(ts:List Int)(d:Ds)(hn:ts.Nodup):∀ m,m<=ts.length->∀ j,bI (gj l rs ts d m) j=
 if j∈ts.take m then Az (bI d j) (mj rs (aI l j.toNat).re).da (dU rs (mj rs (aI l j.toNat).re).pa (aI l j.toNat).lv)else bI d j
 | 0,_,j=>by rw[if_neg (by simp)];rfl
 |m+1,hm,j=>by
  have ih:=AX l rs ts d hn m (by omega)
  rw[gj,PS,JO (by omega)]
  have xA:ts.getD m 0∉ts.take m:=by
   have h1:(ts.take (m+1)).Nodup:=hn.sublist (List.take_sublist _ _)
   rw[JO (by omega)]at h1
   have :=(List.nodup_append.1 h1).2.2
   exact fun h=>this _ h _ (List.mem_singleton.2 rfl) rfl
  by_cases hj:ts.getD m 0=j
  ·subst hj
   rw[if_pos rfl,ih,if_neg xA,if_pos (by simp)]
  ·rw[if_neg hj,ih]
   have e:(j∈ts.take m++[ts.getD m 0])↔j∈ts.take m:=by
    rw[List.mem_append,List.mem_singleton]
    exact⟨fun h=>h.elim id fun h=>(hj h.symm).elim,.inl⟩
   simp only[e]
def MU(l:Led)(k:Int)(j:Nat):Prop:=(br l k l.ts.length).getD j false=true
theorem Gi(l:Led)(k:Int):(aC l k).rs=bB l k:=(pU l k l.ts.length).2
noncomputable section
def Yi:List (Nat×Spec):=[]
attribute [go_sem] Yi
def Yh:List (Nat×Spec):=[(71,DE)]
attribute [go_sem] Yh
def Yg:List (Nat×Spec):=[(73,zg)]
attribute [go_sem] Yg
end
noncomputable section
def Yf:List (Nat×Spec):=[]
attribute [go_sem] Yf
end
noncomputable section
def mn(S:List Sig)(p:Sig->Sig->Bool)(i:Nat):Option (Sig×Sig):=((S.drop (i+1)).find? (p (S.getD i default))).map fun t=>(S.getD i default,t)
def tN(S:List Sig)(p:Sig->Sig->Bool):Option (Sig×Sig):=(List.range S.length).findSome? (mn S p)
theorem Pm{S:List Sig}{p:Sig->Sig->Bool}{i:Nat}(h:i<S.length)(hn:∀ k (hk:k<(S.drop (i+1)).length),p S[i] (S.drop (i+1))[k]=false):mn S p i=none:=by
 unfold mn
 have e:(S.drop (i+1)).find? (p S[i])=none:=List.find?_eq_none.2 fun y hy=>by
  obtain⟨k,hk,rfl⟩:=List.getElem_of_mem hy
  rw[hn k hk];decide
 rw[dv h,e]
 rfl
theorem Pl{S:List Sig}{p:Sig->Sig->Bool}{i k:Nat}(h:i<S.length)(hk:k<(S.drop (i+1)).length)(hn:∀ j (hj:j<(S.drop (i+1)).length),j<k->p S[i] (S.drop (i+1))[j]=false)(hb:p S[i] (S.drop (i+1))[k]=true):
 mn S p i=some (S[i],(S.drop (i+1))[k]):=by
 unfold mn
 have e:(S.drop (i+1)).find? (p S[i])=some (S.drop (i+1))[k]:=List.find?_eq_some_iff_getElem.2 ⟨hb,k,hk,rfl,fun j hj=>by rw[hn j (by omega) hj];rfl⟩
 rw[dv h,e]
 rfl
theorem Pj{S:List Sig}{p:Sig->Sig->Bool}{i:Nat}{q:Sig×Sig}(h:i<S.length)(hn:∀ k,k<i->mn S p k=none)(hp:mn S p i=some q):tN S p=some q:=by
 unfold tN
 rw[List.findSome?_eq_some_iff]
 refine⟨List.range i,i,(List.range' (i+1) (S.length-(i+1))),?_,hp,fun a ha=>hn a (List.mem_range.1 ha)⟩
 rw[List.range_eq_range',List.range_eq_range']
 have :S.length=i+(1+(S.length-(i+1))):=by omega
 conv=>lhs;rw[this]
 rw[<-List.range'_append_1,<-List.range'_append_1,Nat.zero_add]
 rfl
theorem Pk{S:List Sig}{p:Sig->Sig->Bool}(hn:∀ k,k<S.length->mn S p k=none):tN S p=none:=by
 unfold tN
 rw[List.findSome?_eq_none_iff]
 exact fun a ha=>hn a (List.mem_range.1 ha)
def qU(l:Led)(k:Int)(s:Sig):Bool:=!fM (aC l k) [s]
def nZ(l:Led)(k:Int)(s t:Sig):Bool:=!fM (aC l k) [s,t]
def kN(l:Led)(k:Int):List Int:=match (bm l k).find? (qU l k)with
 |some s=>[s.so]
 |none=>match tN (bm l k) (nZ l k)with
  |some q=>[q.1.so,q.2.so]
  |none=>[]
def kr(l:Led)(k:Int):Int:=if cM l [k]=0 then(if (ek (aC l k)).isSome=true then 25 else 0)else cM l [k]
def ju(l:Led)(k:Int):Int:=if kr l k=0 then(if kN l k=[]then 28 else 0)else kr l k
def mO(l:Led)(k:Int):List Int:=if kr l k=0 then kN l k else[]
theorem Vx{p:Sig->Bool}{l:List Sig}{i:Nat}(h:i<l.length)(hp:p l[i]=true)(hn:∀ j (hj:j<l.length),j<i->p l[j]=false):l.find? p=some l[i]:=
 List.find?_eq_some_iff_getElem.2 ⟨hp,i,h,rfl,fun j hj=>by rw[hn j (by omega) hj];rfl⟩
theorem Vu{p:Sig->Bool}{l:List Sig}(hn:∀ j (hj:j<l.length),j<l.length->p l[j]=false):l.find? p=none:=by
 rw[List.find?_eq_none]
 intro x hx
 obtain⟨j,hj,rfl⟩:=List.getElem_of_mem hx
 rw[hn j hj hj];decide
def K77:List (Nat×Spec):=[(75,ma),(121,S121),(122,S122),(123,Ma)]
theorem Ye:KS K77:=tc zR.sound<|tc Bh<|tc Bg<|tc Oy.sound<|tn
attribute [go_sem] K77
@[go_sem] def P43:PSpec:=p2 iL iI (fun _ _=>True) (fun l k=>.tup [.sl ((mO l k).map vInt),vInt (ju l k)]) false
@[go_sem] def Xx:Spec:=P43.toSpec
set_option maxHeartbeats 8000000 in
theorem N1:aU Tryz.prog 43 P43:=by
 refine dV (rs:=[.tmp 4,.tmp 5]) Tryz.func43 Tryz.ntmps43 fun l k hp hw=>?_
 simp only[iI,iL,fY]at hw |-
 have hΓ:=Ye
 repeat refine sq ?_
 refine rx hΓ [1,2] [[2,0]] (fun K' hK=>by simp only[go_sem];exact ao) ?_
 refine bU (dH 2 (.ref [2,0] 0) (by simp only[go_sem]) (by simp only[go_sem]) [1,2] [[2,0]] ?_ rfl) ?_
 ·simp only[go_sem]
 simp only[go_sem]
 repeat refine sq ?_
 refine rx hΓ [1,2,6] [[2,0]] (fun K' hK=>by simp only[go_sem];exact ao) ?_
 repeat refine sq ?_
 refine rx hΓ [1,2,6,21] [[2,0]] (fun K' hK=>by simp only[go_sem];exact ao) ?_
 repeat refine sq ?_
 refine aB (fun hb=>?_) fun hb=>?_
 ·repeat refine sq ?_
  have hc:¬ cM l [k]=0:=by simpa using hb
  have h1:kr l k=cM l [k]:=by unfold kr;rw[if_neg hc]
  have e:ju l k=cM l [k]:=by unfold ju;rw[h1,if_neg hc]
  have e2:mO l k=[]:=by unfold mO;rw[h1,if_neg hc]
  repeat refine sq ?_
  refine rx hΓ [4,5] [] (fun K' hK=>by simp only[go_sem];exact ao) ?_
  refine ay ?_
  simp only[go_sem]
  first | (rw[e,e2];done) | (rw[e,e2];rfl) | trace_state
 ·repeat refine sq ?_
  have hc:cM l [k]=0:=by simpa using hb
  obtain⟨aa,_⟩:=vm hc
  refine aG ?_
  rcases bR:ek (aC l k)with _ | p
  ·have h1:kr l k=0:=by unfold kr;rw[if_pos hc,bR];rfl
   have e2:mO l k=kN l k:=by unfold mO;rw[if_pos h1]
   obtain⟨hv,b9⟩:=nw aa k
   obtain⟨uI,sv⟩:=EB hv.ok k
   rw[mu]at uI sv
   have Bx:=aa.ssn
   have hl:(bm l k).length<=maxLen:=by unfold maxLen;omega
   repeat refine sq ?_
   refine rx hΓ [1,2,7,8] [[2,0],[26,0,11,0,25,0],[23,0,11,0,25,0],[24,0,11,0,25,0]] (fun K' hK=>by simp only[go_sem,bR,ej,ei];(repeat (refine⟨by first | exact ak | exact aa,?_⟩));exact fe) ?_
   repeat refine sq ?_
   refine rx hΓ [1,2,7,8,29] [[2,0],[26,0,11,0,25,0],[23,0,11,0,25,0],[24,0,11,0,25,0]] (fun K' hK=>by simp only[go_sem,bR,ej,ei];exact ao) ?_
   repeat refine sq ?_
   refine aB (fun hb=>?_) fun hb=>?_
   ·cases hb
   ·repeat refine sq ?_
    refine aG ?_
    repeat refine sq ?_
    refine rx hΓ [1,2,9] [[2,0]] (fun K' hK=>by simp only[go_sem,bR,ej,ei,mu];(repeat (refine⟨by first | exact ak | rw[mu];exact Bx,?_⟩));exact fe) ?_
    repeat refine sq ?_
    refine rx hΓ [1,2,9,34,35,36] [[2,0]] (fun K' hK=>by simp only[go_sem,bR,ej,ei];exact ao) ?_
    repeat refine sq ?_
    refine aQ ?_
    repeat refine sq ?_
    refine cr (fun s:Nat=>[(36,⟨true,.v (vInt s)⟩)]) (fun s=>[]) (fun s=>s<=(bm l k).length/\∀ j (hj:j<(bm l k).length),j<s->qU l k (bm l k)[j]=false) (fun s=>(bm l k).length-s) 0 ?_ ?_ ?_ ?_
    ·exact⟨Nat.zero_le _,fun j _ h=>by omega⟩
    ·rfl
    ·rfl
    rintro i ⟨hi,hR⟩
    simp only[go_sem]
    repeat refine sq ?_
    refine rx hΓ [1,2,9,34,35,36,37] [[2,0]] (fun K' hK=>by simp only[go_sem,bR,ej,ei];exact ao) ?_
    repeat refine sq ?_
    refine aB (fun hb=>?_) fun hb=>?_
    ·have ae:i<(bm l k).length:=by simpa using hb
     have au:(i:Int)<(bm l k).length:=by omega
     clear hb
     have hd:=sv (bm l k)[i] (List.getElem_mem ae)
     repeat refine sq ?_
     refine aG ?_
     repeat refine sq ?_
     refine aQ ?_
     repeat refine sq ?_
     refine rx hΓ [1,2,9,11,34,35,36] [[2,0],[11,0]] (fun K' hK=>by simp only[go_sem,bR,ej,ei,ah ae,ai,aj,au];exact ao) ?_
     repeat refine sq ?_
     refine rx hΓ [1,2,9,11,34,35,36,44] [[2,0],[11,0]] (fun K' hK=>by simp only[go_sem,bR,ej,ei,ah ae,ai,aj,au];(repeat (refine⟨by first | exact ak | exact⟨⟨aa,by simp⟩,fun s hs=>by simp only[List.mem_singleton]at hs;subst hs;exact hd⟩,?_⟩));exact fe) ?_
     repeat refine sq ?_
     refine aB (fun hb=>?_) fun hb=>?_
     ·repeat refine sq ?_
      have h2:qU l k (bm l k)[i]=true:=hb
      have e3:kN l k=[(bm l k)[i].so]:=by unfold kN;rw[Vx ae h2 hR]
      have e:ju l k=0:=by unfold ju;rw[if_pos h1,if_neg (by rw[e3];simp)]
      rw[e3]at e2
      repeat refine sq ?_
      refine rx hΓ [4,5] [] (fun K' hK=>by simp only[go_sem,bR,ej,ei,ah ae,ai,aj,au];exact ao) ?_
      refine ay ?_
      simp only[go_sem]
      first | (rw[e,e2];done) | (rw[e,e2];rfl) | trace_state
     ·repeat refine sq ?_
      have h2:qU l k (bm l k)[i]=false:=hb
      refine aG ?_
      refine bV ?_
      simp only[go_sem]
      refine kp [1,2,9,34,35,36] [[2,0]] ?_
      repeat refine sq ?_
      refine aY hΓ fun K' hK=>?_
      simp only[go_sem,bR,ej,ei,ah ae,ai,aj,au]
      repeat (refine⟨ak,?_⟩)
      refine hK _ ?_
      clear K' hK
      simp only[go_sem]
      refine⟨i+1,⟨ae,?_⟩,by(show (bm l k).length-(i+1)<(bm l k).length-i;omega),?_⟩
      ·intro j hj du
       rcases Nat.lt_succ_iff_lt_or_eq.1 du with h5 | rfl
       ·exact hR j hj h5
       ·exact h2
      refine bq [1,2,9,34,35,36] [[2,0]] ?_ ?_<;>simp only[go_sem,be ae hl,bj]
    ·have bw:i=(bm l k).length:=by
      have :¬ (i:Int)<(bm l k).length:=by simpa using hb
      omega
     clear hb
     subst bw
     have f1:=Vu hR
     repeat refine sq ?_
     refine bM ?_
     simp only[go_sem]
     refine kp [1,2,9] [[2,0]] ?_
     repeat refine sq ?_
     refine rx hΓ [1,2,9,49,50,51] [[2,0]] (fun K' hK=>by simp only[go_sem,bR,ej,ei];exact ao) ?_
     repeat refine sq ?_
     refine aQ ?_
     repeat refine sq ?_
     refine cr (fun s:Nat=>[(51,⟨true,.v (vInt s)⟩)]) (fun s=>[]) (fun s=>s<=(bm l k).length/\∀ a,a<s->mn (bm l k) (nZ l k) a=none) (fun s=>(bm l k).length-s) 0 ?_ ?_ ?_ ?_
     ·exact⟨Nat.zero_le _,fun a h=>by omega⟩
     ·rfl
     ·rfl
     rintro i1 ⟨hi,hR⟩
     simp only[go_sem]
     repeat refine sq ?_
     refine rx hΓ [1,2,9,49,50,51,52] [[2,0]] (fun K' hK=>by simp only[go_sem,bR,ej,ei];exact ao) ?_
     repeat refine sq ?_
     refine aB (fun hb=>?_) fun hb=>?_
     ·have aJ:i1<(bm l k).length:=by simpa using hb
      have bh:(i1:Int)<(bm l k).length:=by omega
      clear hb
      have hd:=sv (bm l k)[i1] (List.getElem_mem aJ)
      have uD:IntKind.i64.wrap ((i1:Int)+1)=((i1+1:Nat):Int):=be aJ hl
      have o3:(bm l k).length-(i1+1)<=maxLen:=by omega
      have p9:List.take ((bm l k).length-(i1+1)) (((bm l k).drop (i1+1)).map encS)=((bm l k).drop (i1+1)).map encS:=List.take_of_length_le (by simp)
      repeat refine sq ?_
      refine aG ?_
      repeat refine sq ?_
      refine aQ ?_
      repeat refine sq ?_
      refine rx hΓ [1,2,9,12,13,49,50,51] [[2,0],[13,0]] (fun K' hK=>by simp only[go_sem,bR,ej,ei,ah aJ,ai,aj,bh];exact ao) ?_
      repeat refine sq ?_
      refine rx hΓ [1,2,9,13,49,50,51,59,60,61] [[2,0],[13,0]] (fun K' hK=>by simp only[go_sem,bR,ej,ei,ah aJ,ai,aj,bh,uD,<-List.map_drop,p9];(repeat (refine⟨by first | exact ak | exact⟨by omega,Int.le_refl _,fun y hy=>(Am _ y hy).1⟩,?_⟩));exact fe) ?_
      repeat refine sq ?_
      refine aQ ?_
      repeat refine sq ?_
      refine cr (fun s:Nat=>[(61,⟨true,.v (vInt s)⟩)]) (fun s=>[]) (fun s=>s<=((bm l k).drop (i1+1)).length/\∀ j (hj:j<((bm l k).drop (i1+1)).length),j<s->nZ l k (bm l k)[i1] ((bm l k).drop (i1+1))[j]=false) (fun s=>((bm l k).drop (i1+1)).length-s) 0 ?_ ?_ ?_ ?_
      ·exact⟨Nat.zero_le _,fun j _ h=>by omega⟩
      ·rfl
      ·rfl
      rintro i2 ⟨hi,hR⟩
      simp only[go_sem]
      repeat refine sq ?_
      refine rx hΓ [1,2,9,13,49,50,51,59,60,61,62] [[2,0],[13,0]] (fun K' hK=>by simp only[go_sem,bR,ej,ei,ah aJ,ai,aj,bh];exact ao) ?_
      repeat refine sq ?_
      refine aB (fun hb=>?_) fun hb=>?_
      ·have bN:i2<((bm l k).drop (i1+1)).length:=by simpa using hb
       have fk:(i2:Int)<((bm l k).drop (i1+1)).length:=by omega
       clear hb
       have jS:=sv ((bm l k).drop (i1+1))[i2] (List.mem_of_mem_drop (List.getElem_mem bN))
       repeat refine sq ?_
       refine aG ?_
       repeat refine sq ?_
       refine aQ ?_
       repeat refine sq ?_
       refine rx hΓ [1,2,9,13,15,49,50,51,59,60,61] [[2,0],[13,0],[15,0]] (fun K' hK=>by simp only[go_sem,bR,ej,ei,ah aJ,ai,aj,bh,ah bN,ai,aj,fk];exact ao) ?_
       repeat refine sq ?_
       refine rx hΓ [1,2,9,13,15,49,50,51,59,60,61,70] [[2,0],[13,0],[15,0]] (fun K' hK=>by simp only[go_sem,bR,ej,ei,ah aJ,ai,aj,bh,ah bN,ai,aj,fk];(repeat (refine⟨by first | exact ak | exact⟨⟨aa,by simp⟩,fun s hs=>by simp only[List.mem_cons,List.not_mem_nil,or_false]at hs;rcases hs with rfl | rfl; · exact hd; · exact jS⟩,?_⟩));exact fe) ?_
       repeat refine sq ?_
       refine aB (fun hb=>?_) fun hb=>?_
       ·repeat refine sq ?_
        have h2:nZ l k (bm l k)[i1] ((bm l k).drop (i1+1))[i2]=true:=hb
        have e3:kN l k=[(bm l k)[i1].so,((bm l k).drop (i1+1))[i2].so]:=by
         unfold kN;rw[f1];simp only[]
         rw[Pj aJ (by assumption) (Pl aJ bN hR h2)]
        have e:ju l k=0:=by unfold ju;rw[if_pos h1,if_neg (by rw[e3];simp)]
        rw[e3]at e2
        repeat refine sq ?_
        refine rx hΓ [4,5] [] (fun K' hK=>by simp only[go_sem,bR,ej,ei,ah aJ,ai,aj,bh,ah bN,ai,aj,fk];exact ao) ?_
        refine ay ?_
        simp only[go_sem]
        first | (rw[e,e2];done) | (rw[e,e2];rfl) | trace_state
       ·repeat refine sq ?_
        have h2:nZ l k (bm l k)[i1] ((bm l k).drop (i1+1))[i2]=false:=hb
        refine aG ?_
        refine bV ?_
        simp only[go_sem]
        refine kp [1,2,9,13,49,50,51,59,60,61] [[2,0],[13,0]] ?_
        repeat refine sq ?_
        refine aY hΓ fun K' hK=>?_
        simp only[go_sem,bR,ej,ei,ah aJ,ai,aj,bh,ah bN,ai,aj,fk]
        repeat (refine⟨ak,?_⟩)
        refine hK _ ?_
        clear K' hK
        simp only[go_sem]
        refine⟨i2+1,⟨bN,?_⟩,by(show ((bm l k).drop (i1+1)).length-(i2+1)<((bm l k).drop (i1+1)).length-i2;omega),?_⟩
        ·intro j hj du
         rcases Nat.lt_succ_iff_lt_or_eq.1 du with h5 | rfl
         ·exact hR j hj h5
         ·exact h2
        refine bq [1,2,9,13,49,50,51,59,60,61] [[2,0],[13,0]] ?_ ?_<;>simp only[go_sem,be bN (by rw[List.length_drop];omega:((bm l k).drop (i1+1)).length<=maxLen),bj]
      ·have lR:i2=((bm l k).drop (i1+1)).length:=by
        have :¬ (i2:Int)<((bm l k).drop (i1+1)).length:=by simpa using hb
        omega
       clear hb
       subst lR
       repeat refine sq ?_
       refine bM ?_
       simp only[go_sem]
       refine kp [1,2,9,49,50,51] [[2,0]] ?_
       repeat refine sq ?_
       refine aY hΓ fun K' hK=>?_
       simp only[go_sem,bR,ej,ei,ah aJ,ai,aj,bh]
       repeat (refine⟨ak,?_⟩)
       refine hK _ ?_
       clear K' hK
       simp only[go_sem]
       refine⟨i1+1,⟨aJ,?_⟩,by(show (bm l k).length-(i1+1)<(bm l k).length-i1;omega),?_⟩
       ·intro a ha
        rcases Nat.lt_succ_iff_lt_or_eq.1 ha with h5 | rfl
        ·exact(by assumption:∀ a,a<i1->mn (bm l k) (nZ l k) a=none) a h5
        ·exact Pm aJ fun j hj=>hR j hj hj
       refine bq [1,2,9,49,50,51] [[2,0]] ?_ ?_<;>simp only[go_sem,be aJ hl,bj]
     ·have iQ:i1=(bm l k).length:=by
       have :¬ (i1:Int)<(bm l k).length:=by simpa using hb
       omega
      clear hb
      subst iQ
      have e3:kN l k=[]:=by unfold kN;rw[f1];simp only[];rw[Pk hR]
      have e:ju l k=28:=by unfold ju;rw[if_pos h1,if_pos e3]
      rw[e3]at e2
      repeat refine sq ?_
      refine bM ?_
      simp only[go_sem]
      refine kp [] [] ?_
      repeat refine sq ?_
      refine rx hΓ [4,5] [] (fun K' hK=>by simp only[go_sem,bR,ej,ei];exact ao) ?_
      refine ay ?_
      simp only[go_sem]
      first | (rw[e,e2];done) | (rw[e,e2];rfl) | trace_state
  ·have h1:kr l k=25:=by unfold kr;rw[if_pos hc,bR];rfl
   have e:ju l k=25:=by unfold ju;rw[h1];rfl
   have e2:mO l k=[]:=by unfold mO;rw[h1];rfl
   repeat refine sq ?_
   refine rx hΓ [1,2,7,8] [[2,0],[26,0,11,0,25,0],[23,0,11,0,25,0],[24,0,11,0,25,0]] (fun K' hK=>by simp only[go_sem,bR,pt,pr];(repeat (refine⟨by first | exact ak | exact aa,?_⟩));exact fe) ?_
   repeat refine sq ?_
   refine rx hΓ [1,2,7,8,29] [[2,0],[26,0,11,0,25,0],[23,0,11,0,25,0],[24,0,11,0,25,0]] (fun K' hK=>by simp only[go_sem,bR,pt,pr];exact ao) ?_
   repeat refine sq ?_
   refine aB (fun hb=>?_) fun hb=>?_
   ·repeat refine sq ?_
    refine rx hΓ [4,5] [] (fun K' hK=>by simp only[go_sem,bR,pt,pr];exact ao) ?_
    refine ay ?_
    simp only[go_sem]
    first | (rw[e,e2];done) | (rw[e,e2];rfl) | trace_state
   ·cases hb
end
noncomputable section
def Yd:List (Nat×Spec):=[(70,zh),(73,zg)]
attribute [go_sem] Yd
end
theorem Eh{l:Led}{k:Int}{s:Nat}:∀ n,s<n->n<=l.ts.length->(br l k n).getD s false=gf l k (br l k s) s
 | 0,h,_=>absurd h (Nat.not_lt_zero s)
 |n+1,h,hn=>by
  rw[Ef l k (by omega)]
  by_cases hs:s=n
  ·subst hs;rw[if_pos rfl]
  ·rw[if_neg hs];exact Eh n (by omega) (by omega)
noncomputable section
def YE:List (Nat×Spec):=[(71,DE)]
attribute [go_sem] YE
end
noncomputable section
def YD:List (Nat×Spec):=[(15,px)]
attribute [go_sem] YD
def YC:List (Nat×Spec):=[]
attribute [go_sem] YC
end
noncomputable section
def YB:List (Nat×Spec):=[(84,zf)]
attribute [go_sem] YB
end
noncomputable section
def YA:List (Nat×Spec):=[(70,zh),(103,vF)]
attribute [go_sem] YA
end
theorem Lu(l:Led)(ds:List Int):y8 l ds=cM l ds:=by
 unfold y8 cM mP
 cases h:tQ l with
 |false=>rfl
 |true=>
  have h0:(true=false)=False:=by simp
  rw[if_neg (by decide),if_pos (show fW true 24=0 from rfl)]
  have :(!ds.any fun d=>!dayB d)=ds.all dayB:=by
   rw[List.not_any_eq_all_not]
   simp
  rw[this]
  unfold fW
  rfl
noncomputable section
def Yz:List (Nat×Spec):=[(78,S78),(160,S160),(96,qZ)]
attribute [go_sem] Yz
def Yy:List (Nat×Spec):=[(75,ma)]
attribute [go_sem] Yy
end
noncomputable section
def Yx:List (Nat×Spec):=[(75,ma),(79,vD),(76,S76),(119,S119)]
attribute [go_sem] Yx
end
noncomputable section
def Yt:List (Nat×Spec):=[(84,zf),(73,zg),(74,LV)]
attribute [go_sem] Yt
end
noncomputable section
def VF(w:List Int):V:=.sl (w.map vInt)
theorem adj(L:List (List Int)):∀ y∈L.map VF,y.cells.length=1/\y.okc=true:=fun y hy=>by
 obtain⟨x,_,rfl⟩:=List.mem_map.1 hy
 exact⟨rfl,rfl⟩
def Yr:List (Nat×Spec):=[]
attribute [go_sem] Yr
end
noncomputable section
def Yq:List (Nat×Spec):=[(15,px),(24,DG)]
attribute [go_sem] Yq
end
noncomputable section
def Yp:List (Nat×Spec):=[(78,S78)]
attribute [go_sem] Yp
end
noncomputable section
def Yo:List (Nat×Spec):=[(80,S80)]
attribute [go_sem] Yo
end
noncomputable section
def Yk:List (Nat×Spec):=[(75,ma),(91,S91),(78,S78)]
attribute [go_sem] Yk
end
instance acd (l:Led) (k:Int) (j:Nat):Decidable (MU l k j):=inferInstanceAs (Decidable ((br l k l.ts.length).getD j false=true))
noncomputable section
def X':List (Nat×Spec):=[]
attribute [go_sem] X'
end
end Go.Eng
set_option linter.unusedVariables false
namespace Go.Eng
open Go Go.Proofs Go.RowKit Go.Lib Go.Shelf
def zS:V:=.agg [.int .i64 0,.int .i64 0,.int .i64 0,.int .i64 0,.int .i64 0,.int .i64 0,.int .i64 0]
def LG(obj:Name->Option O):List D->R
 |[.msl nm k,.v (.int .i64 i),.v (.int .i64 j)]=>match obj nm with
  |some (.arr sz l)=>⟨k=l.length/\sz=7/\0<=i/\j=i+1/\i.toNat<l.length,.v (.sl (l.eraseIdx i.toNat)),upd obj nm (some (.farr sz (l.eraseIdx i.toNat++[zS])))⟩
  |_=>.bad obj
 |_=>.bad obj
def Kn:List D->List Name
 |[.msl nm _,_,_]=>[nm]
 |_=>[]
def XK:Spec:=⟨fun obj _ ds=>LG obj ds,fun _ _ ds=>Kn ds,fun _ _ ds=>Kn ds⟩
open Go Go.Proofs
set_option maxRecDepth 10000
noncomputable section
attribute [go_sem] XK LG
def X9:List (Nat×Spec):=[(75,ma),(121,S121),(122,S122),(108,vE),(130,L'),(123,Ma),(132,S132)]
attribute [go_sem] X9
end
structure Lim (x:Vw) (d:Ds) (L:List Sig) (i:Int) (e:Int×Int):Prop where
 b1:(bI d i).1<=e.1
 b2:e.2<=(bI d i).2
 s1:∀ s∈L,(bf x s).1=i->(bf x s).2.lo<=e.1/\e.2<=(bf x s).2.hi
 a1:e.1=(bI d i).1\/∃ s∈L,(bf x s).1=i/\(bf x s).2.lo=e.1
 a2:e.2=(bI d i).2\/∃ s∈L,(bf x s).1=i/\(bf x s).2.hi=e.2
variable {x:Vw}
noncomputable section
def Gk(f:FuncId):Option SpecB:=
 match Nat.beq f 132 with
 |true=>some (yw Tryz.prog 29)
 |false=>match Nat.beq f 176 with
  |true=>some (yw Tryz.prog 26)
  |false=>match Nat.beq f 177 with
   |true=>some (yw Tryz.prog 27)
   |false=>match Nat.beq f 178 with
    |true=>some (yw Tryz.prog 28)
    |false=>match Nat.beq f 179 with
     |true=>some Wh
     |false=>none
def A'(_:FuncId->Option SpecB)(f:FuncId):Option SpecB:=Gk f
theorem Wk:aU Tryz.prog 179 pCloneI:=Wg Wn rfl
theorem Ru:∀ Γ:FuncId->Option SpecB,(∀ f s,bb Γ f=some s->aL Tryz.prog f s)->∀ f s,A' Γ f=some s->aL Tryz.prog f s.spec:=by
 intro Γ _ f s h
 unfold A' Gk at h
 split at h
 ·rename_i hb;have:=Nat.eq_of_beq_eq_true hb;subst this;cases h;exact sU KJ
 ·split at h
  ·rename_i hb;have:=Nat.eq_of_beq_eq_true hb;subst this;cases h;exact sU Ww
  ·split at h
   ·rename_i hb;have:=Nat.eq_of_beq_eq_true hb;subst this;cases h;exact sU Wt
   ·split at h
    ·rename_i hb;have:=Nat.eq_of_beq_eq_true hb;subst this;cases h;exact sU Wq
    ·split at h
     ·rename_i hb;have:=Nat.eq_of_beq_eq_true hb;subst this;cases h;exact Wk.sound
     ·cases h
def GO(F:List Nat)(T:List Ent):FuncId->Option SpecB:=ΓB Tryz.prog (Dk Tryz.prog A' 100000 F T) 100000 24
theorem Rr{F:List Nat}{T:List Ent}(hT:∀ e∈T,aR Tryz.prog e):∀ f s,bb (GO F T) f=some s->aL Tryz.prog f s:=
 DZ (WR (fun Γ h f s=>Ru Γ h f s) hT) 24
theorem cl{F:List Nat}{T:List Ent}(hT:∀ e∈T,aR Tryz.prog e){e:Ent}(h:z2 Tryz.prog (GO F T) 100000 e=true):aR Tryz.prog e:=OS (Rr hT) h
theorem cw{P:Program}{e:Ent}{T:List Ent}(h:aR P e)(hT:∀ e∈T,aR P e):∀ x∈e::T,aR P x:=by
 intro x hx
 rcases List.mem_cons.1 hx with rfl | hx
 ·exact h
 ·exact hT x hx
def Hv:List Ent:=[]
theorem Ig:∀ e∈Hv,aR Tryz.prog e:=fun e h=>by cases h
end
end Go.Eng
