import Derived.Test.YtepaolcgegdpoaaGreatK7
/- Texts L5 to LW75. -/
set_option linter.all false
namespace Go.Eng
open Go
def p5{α β γ δ ε:Type}(A:En α)(B:En β)(C:En γ)(D:En δ)(E':En ε)(p:α->β->γ->δ->ε->Prop)(g:α->β->γ->δ->ε->V)(fl:Bool):PSpec:=
 ⟨fun xs=>match xs with | [x,y,z,u,v]=>A.enc (A.dec x)=x/\B.enc (B.dec y)=y/\C.enc (C.dec z)=z/\D.enc (D.dec u)=u/\E'.enc (E'.dec v)=v/\p (A.dec x) (B.dec y) (C.dec z) (D.dec u) (E'.dec v) | _=>False,
  fun xs=>match xs with | [x,y,z,u,v]=>g (A.dec x) (B.dec y) (C.dec z) (D.dec u) (E'.dec v) | _=>.bool false,fl⟩
attribute [go_sem] p5
open Go Go.Proofs
set_option maxRecDepth 10000
noncomputable section
def aaF:List (Nat×Spec):=[(108,wO)]
attribute [go_sem] aaF
def aaE:List (Nat×Spec):=[]
attribute [go_sem] aaE
theorem ad0(l:List Fol):∀ y∈l.map se,y.cells.length=2/\y.okc=true:=by
 intro y hy;obtain⟨x,_,rfl⟩:=List.mem_map.1 hy;exact⟨rfl,rfl⟩
end
noncomputable section
def K38:List (Nat×Spec):=[(37,Et),(96,sB),(75,m5)]
attribute [go_sem] K38
def aaD:List (Nat×Spec):=[]
attribute [go_sem] aaD
end
set_option maxHeartbeats 8000000
noncomputable section
def b8(l:Led)(so k:Int):Int:=dE (fun r=>r.so==so&&bJ r.kn r.un k) l.rs
def kK(so k:Int)(r:Rec):Bool:=r.so==so&&bJ r.kn r.un k
theorem Qu{l:Led}{so k:Int}{i:Nat}(h:i<l.rs.length)(hp:kK so k l.rs[i]=true)(hn:∀ j (hj:j<l.rs.length),j<i->kK so k l.rs[j]=false):b8 l so k=i:=rm h hp hn
theorem Qt{l:Led}{so k:Int}(hn:∀ j (hj:j<l.rs.length),j<l.rs.length->kK so k l.rs[j]=false):b8 l so k= -1:=by
 unfold b8 dE
 rw[if_neg]
 intro h
 obtain⟨x,hx,hp⟩:=List.any_eq_true.1 h
 obtain⟨j,hj,rfl⟩:=List.getElem_of_mem hx
 have :=hn j hj hj
 unfold kK at this
 rw[this]at hp
 exact absurd hp (by decide)
def K39:List (Nat×Spec):=[(157,zP)]
theorem aaC:KS K39:=tc xg.sound<|tn
attribute [go_sem] K39
@[go_sem] def P70:PSpec:=p3 iL iI iI (fun l _ _=>l.rs.length<=60) (fun l so k=>vInt (b8 l so k)) true
@[go_sem] def zO:Spec:=P70.toSpec
theorem Au:aN Tryz.prog 70 P70:=by
 refine gO (rs:=[.tmp 6]) Tryz.func70 Tryz.ntmps70 fun l so k hp hw=>?_
 simp only[iI,iL,dA]at hw |-
 have hΓ:=aaC
 have hl:l.rs.length<=maxLen:=by unfold maxLen;omega
 repeat refine sq ?_
 refine rx hΓ [1,2,3] [[3,0]] (fun K' hK=>by simp only[go_sem];exact ak) ?_
 repeat refine sq ?_
 refine rx hΓ [1,2,3,7] [[3,0]] (fun K' hK=>by simp only[go_sem];exact ak) ?_
 repeat refine sq ?_
 refine aH ?_
 repeat refine sq ?_
 refine bB (fun s:Nat=>[(7,⟨true,.v (vInt s)⟩)]) (fun s=>[]) (fun s=>s<=l.rs.length/\∀ j (hj:j<l.rs.length),j<s->kK so k l.rs[j]=false) (fun s=>l.rs.length-s) 0 ?_ ?_ ?_ ?_
 ·exact⟨Nat.zero_le _,by simp⟩
 ·rfl
 ·rfl
 rintro i ⟨hi,hR⟩
 simp only[go_sem]
 repeat refine sq ?_
 refine rx hΓ [1,2,3,7,13] [[3,0]] (fun K' hK=>by simp only[go_sem];exact ak) ?_
 repeat refine sq ?_
 refine av (fun hb=>?_) fun hb=>?_
 ·have ab:i<l.rs.length:=by simpa using hb
  have an:(i:Int)<l.rs.length:=by omega
  clear hb
  repeat refine sq ?_
  refine ax ?_
  repeat refine sq ?_
  refine aH ?_
  repeat refine sq ?_
  refine rx hΓ [1,2,3,7,8] [[3,0],[8,0]] (fun K' hK=>by simp only[go_sem,ae ab,ah,ai,an];exact ak) ?_
  repeat refine sq ?_
  refine rx hΓ [1,2,3,7,32] [[3,0]] (fun K' hK=>by simp only[go_sem,ae ab,ah,ai,an];exact ak) ?_
  repeat refine sq ?_
  refine av (fun hb=>?_) fun hb=>?_
  ·repeat refine sq ?_
   have e:b8 l so k=i:=Qu ab (by unfold kK;simpa using hb) (fun j hj c6=>hR j hj c6)
   repeat refine sq ?_
   refine rx hΓ [6] [] (fun K' hK=>by simp only[go_sem,ae ab,ah,ai,an];exact ak) ?_
   refine au ?_
   simp only[go_sem]
   rw[e]
  ·repeat refine sq ?_
   refine ax ?_
   refine bE ?_
   simp only[go_sem]
   refine kp [1,2,3,7] [[3,0]] ?_
   repeat refine sq ?_
   refine aM hΓ fun K' hK=>?_
   simp only[go_sem,ae ab,ah,ai,an]
   repeat (refine⟨ao,?_⟩)
   refine hK _ ?_
   clear K' hK
   simp only[go_sem]
   refine⟨i+1,⟨ab,?_⟩,by(show l.rs.length-(i+1)<l.rs.length-i;omega),?_⟩
   ·intro j hj c6
    rcases Nat.lt_succ_iff_lt_or_eq.1 c6 with h5 | rfl
    ·exact hR j hj h5
    ·unfold kK;simpa using hb
   refine aY [1,2,3,7] [[3,0]] ?_ ?_<;>simp only[go_sem,aT ab hl,aU]
 ·have be:i=l.rs.length:=by
   have :¬ (i:Int)<l.rs.length:=by simpa using hb
   omega
  clear hb
  subst be
  repeat refine sq ?_
  refine bp ?_
  simp only[go_sem]
  refine kp [] [] ?_
  repeat refine sq ?_
  refine rx hΓ [6] [] (fun K' hK=>by simp only[go_sem];exact ak) ?_
  refine au ?_
  simp only[go_sem]
  rw[Qt hR]
def kq(t:Ret)(r:Rec):Int:=cg t.lo (r.da+1)
def Gt(r:Rec):Prop:=0<=r.da/\r.da<=100000
@[go_sem] def P158:PSpec:=p2 iT iR (fun _ r=>Gt r) (fun t r=>vInt (kq t r)) true
@[go_sem] def Ey:Spec:=P158.toSpec
theorem Aw:aN Tryz.prog 158 P158:=by
 refine cX (rs:=[.tmp 4]) Tryz.func158 Tryz.ntmps158 fun t r hp hw=>?_
 simp only[iR,iT,encR,fv]at hw |-
 have hΓ:=@fg Tryz.prog
 have ix:=uL hp
 repeat refine sq ?_
 refine rx hΓ [2,3] [[2,0],[3,0]] (fun K' hK=>by simp only[go_sem];exact ak) ?_
 repeat refine sq ?_
 refine rx hΓ [4] [] (fun K' hK=>by simp only[go_sem,ix];exact ak) ?_
 refine au ?_
 simp only[go_sem]
 all_goals exact c9
def dB(l:Led)(ds:List Int):Int:=if n9 l=false then 24 else if ds.all dayB then 0 else 6
def K39b:List (Nat×Spec):=[(69,Es),(154,Ez)]
theorem aaB:KS K39b:=tc Pw.sound<|tc Ax.sound<|tn
attribute [go_sem] K39b
@[go_sem] def P98:PSpec:=p2 iL cH (fun _ ds=>ds.length<=60) (fun l ds=>vInt (dB l ds)) true
@[go_sem] def m4:Spec:=P98.toSpec
theorem Aq:aN Tryz.prog 98 P98:=by
 refine cX (rs:=[.tmp 4]) Tryz.func98 Tryz.ntmps98 fun l ds hp hw=>?_
 simp only[cH,iL,dA]at hw |-
 have hΓ:=aaB
 have hl:ds.length<=maxLen:=by unfold maxLen;omega
 repeat refine sq ?_
 refine rx hΓ [1,2] [[2,0]] (fun K' hK=>by simp only[go_sem];exact ak) ?_
 repeat refine sq ?_
 refine rx hΓ [1,8] [] (fun K' hK=>by simp only[go_sem,Yb];exact ak) ?_
 repeat refine sq ?_
 refine av (fun hb=>?_) fun hb=>?_
 ·repeat refine sq ?_
  have ho:n9 l=false:=by simpa using hb
  repeat refine sq ?_
  refine rx hΓ [4] [] (fun K' hK=>by simp only[go_sem];exact ak) ?_
  refine au ?_
  simp only[go_sem]
  unfold dB;rw[if_pos ho]
 ·repeat refine sq ?_
  have ho:n9 l=true:=by simpa using hb
  refine ax ?_
  repeat refine sq ?_
  refine rx hΓ [1,5] [] (fun K' hK=>by simp only[go_sem];exact ak) ?_
  repeat refine sq ?_
  refine aH ?_
  repeat refine sq ?_
  refine bB (fun s:Nat=>[(5,⟨true,.v (vInt s)⟩)]) (fun s=>[]) (fun s=>s<=ds.length/\∀ j (hj:j<ds.length),j<s->dayB ds[j]=true) (fun s=>ds.length-s) 0 ?_ ?_ ?_ ?_
  ·exact⟨Nat.zero_le _,by simp⟩
  ·rfl
  ·rfl
  rintro i ⟨hi,hR⟩
  simp only[go_sem]
  repeat refine sq ?_
  refine rx hΓ [1,5,12] [] (fun K' hK=>by simp only[go_sem];exact ak) ?_
  repeat refine sq ?_
  refine av (fun hb=>?_) fun hb=>?_
  ·have ab:i<ds.length:=by simpa using hb
   have an:(i:Int)<ds.length:=by omega
   clear hb
   repeat refine sq ?_
   refine ax ?_
   repeat refine sq ?_
   refine aH ?_
   repeat refine sq ?_
   refine rx hΓ [1,5,20] [] (fun K' hK=>by simp only[go_sem,ae ab,ah,ai,an];exact ak) ?_
   repeat refine sq ?_
   refine av (fun hb=>?_) fun hb=>?_
   ·repeat refine sq ?_
    have e:dB l ds=6:=by
     unfold dB
     rw[if_neg (by simp[ho]),if_neg]
     intro h
     have :=List.all_eq_true.1 h _ (List.getElem_mem ab)
     simp[this]at hb
    repeat refine sq ?_
    refine rx hΓ [4] [] (fun K' hK=>by simp only[go_sem,ae ab,ah,ai,an];exact ak) ?_
    refine au ?_
    simp only[go_sem]
    rw[e]
   ·repeat refine sq ?_
    refine ax ?_
    refine bE ?_
    simp only[go_sem]
    refine kp [1,5] [] ?_
    repeat refine sq ?_
    refine aM hΓ fun K' hK=>?_
    simp only[go_sem,ae ab,ah,ai,an]
    repeat (refine⟨ao,?_⟩)
    refine hK _ ?_
    clear K' hK
    simp only[go_sem]
    refine⟨i+1,⟨ab,?_⟩,by(show ds.length-(i+1)<ds.length-i;omega),?_⟩
    ·intro j hj c6
     rcases Nat.lt_succ_iff_lt_or_eq.1 c6 with h5 | rfl
     ·exact hR j hj h5
     ·simpa using hb
    refine aY [1,5] [] ?_ ?_<;>simp only[go_sem,aT ab hl,aU]
  ·have be:i=ds.length:=by
    have :¬ (i:Int)<ds.length:=by simpa using hb
    omega
   clear hb
   subst be
   repeat refine sq ?_
   refine bp ?_
   simp only[go_sem]
   refine kp [] [] ?_
   repeat refine sq ?_
   refine rx hΓ [4] [] (fun K' hK=>by simp only[go_sem];exact ak) ?_
   refine au ?_
   simp only[go_sem]
   unfold dB;rw[if_neg (by simp[ho]),if_pos (List.all_eq_true.2 fun x hx=>by obtain⟨j,hj,rfl⟩:=List.getElem_of_mem hx;exact hR j hj hj)]
end
noncomputable section
theorem qW{l:Led}(h:bx l){r:Rec}(hr:r∈l.rs):Gt r:=by
 obtain⟨j,hj,rfl⟩:=List.getElem_of_mem hr
 have :=nL h.rs hj
 unfold dd at this
 simp only[Bool.and_eq_true]at this
 have hd:=this.1.2
 unfold dayB cj at hd
 simp at hd
 exact hd
theorem Hd{l:Led}(h:bx l){i:Nat}(hi:i<l.ts.length):l.ts[i].lv.length<=30:=by
 have :=nL h.ts hi
 unfold gA at this
 simp only[Bool.and_eq_true]at this
 exact(mj.1 this.1.1.1.2).2.1
def aw(l:Led)(i:Nat):Rec:=l.rs.getD i fP
theorem nZ(l:Led)(so k:Int):b8 l so k= -1\/∃ j,∃ h:j<l.rs.length,b8 l so k=(j:Int)/\kK so k l.rs[j]=true:=by
 unfold b8 dE
 by_cases h:(l.rs.any fun r=>r.so==so&&bJ r.kn r.un k)=true
 ·rw[if_pos h]
  have ab:l.rs.findIdx (fun r=>r.so==so&&bJ r.kn r.un k)<l.rs.length:=List.findIdx_lt_length_of_exists (by obtain⟨x,hx,hp⟩:=List.any_eq_true.1 h;exact⟨x,hx,hp⟩)
  exact .inr ⟨_,ab,rfl,List.findIdx_getElem (w:=ab)⟩
 ·rw[if_neg h];exact .inl rfl
def l5(l:Led)(row:List Bool)(x:Ret)(f:Int)(j:Nat):Bool:=!(row.getD j false&&(aK l j).re==x.re&&(aK l j).lv.contains f)
def ld(p:Nat->Bool)(j:Nat):Bool:=(List.range j).all p
def nl(l:Led)(row:List Bool)(i:Nat)(r:Rec)(x:Ret)(f:Int):Bool:=r.lv.contains f&&ld (l5 l row x f) i
def gd(l:Led)(k:Int)(row:List Bool)(i:Nat):Bool:=
 if b8 l (aK l i).re k<0 then false else
   (bJ (aK l i).kn (aK l i).un k&&!decide (kq (aK l i) (aw l (b8 l (aK l i).re k).toNat)>(aK l i).hi))&&
     (aK l i).lv.all (nl l row i (aw l (b8 l (aK l i).re k).toNat) (aK l i))
def bw(l:Led)(k:Int):Nat->List Bool
 | 0=>List.replicate l.ts.length false
 |s+1=>if gd l k (bw l k s) s=true then(bw l k s).set s true else bw l k s
theorem pr(l:Led)(k:Int)(s:Nat):(bw l k s).length=l.ts.length:=by
 induction s with
 |zero=>simp[bw]
 |succ s ih=>unfold bw;split<;>simp[ih]
theorem w8(l:Led)(k:Int){s j:Nat}(h:s<=j):(bw l k s).getD j false=false:=by
 induction s with
 |zero=>
  simp only[bw,List.getD_eq_getElem?_getD,List.getElem?_replicate]
  split<;>rfl
 |succ s ih=>
  unfold bw
  split
  ·rw[List.getD_eq_getElem?_getD,List.getElem?_set_ne (by omega),<-List.getD_eq_getElem?_getD];exact ih (by omega)
  ·exact ih (by omega)
theorem Fa(l:Led)(k:Int){s:Nat}(h:s<l.ts.length):(bw l k s).set s (gd l k (bw l k s) s)=bw l k (s+1):=by
 rw[bw]
 split
 ·rename_i e;rw[e]
 ·rename_i e
  have e2:gd l k (bw l k s) s=false:=by simpa using e
  have e3:=w8 l k (Nat.le_refl s)
  rw[List.getD_eq_getElem?_getD,List.getElem?_eq_getElem (by rw[pr];exact h)]at e3
  have e4:(bw l k s)[s]'(by rw[pr];exact h)=false:=e3
  rw[e2,<-e4]
  exact List.set_getElem_self _
theorem w7(l:Led)(k:Int){s:Nat}(e:gd l k (bw l k s) s=false):bw l k (s+1)=bw l k s:=by
 rw[bw,if_neg (by rw[e];decide)]
theorem QR(l:Led)(k:Int):List.replicate l.ts.length (V.bool false)=(bw l k 0).map V.bool:=by rw[bw,List.map_replicate]
theorem dj{l:Led}{i:Nat}(h:i<l.rs.length):aw l i=l.rs[i]:=by unfold aw;rw[List.getD_eq_getElem?_getD,List.getElem?_eq_getElem h];rfl
theorem nk{L:List Bool}{j:Nat}{d:V}(h:j<L.length):(L.map V.bool).getD j d=.bool (L.getD j false):=by
 simp[List.getD_eq_getElem?_getD,h]
theorem YX(p:Nat->Bool)(j:Nat):ld p (j+1)=(ld p j&&p j):=by
 unfold ld
 rw[List.range_succ,List.all_append];simp
theorem fw:decide ((-1:Int)<0)=true:=rfl
theorem OV(row:List Bool)(i:Nat)(b:Bool):(row.map V.bool).set i (.bool b)=(row.set i b).map V.bool:=List.map_set.symm
def K40:List (Nat×Spec):=[(70,zO),(157,zP),(158,Ey),(15,uH)]
theorem aaA:KS K40:=tc Au.sound<|tc xg.sound<|tc Aw.sound<|tc Az.sound<|tn
attribute [go_sem] K40
@[go_sem] def P71:PSpec:=p2 iL iI (fun l _=>bx l) (fun l k=>.sl ((bw l k l.ts.length).map .bool)) false
@[go_sem] def Er:Spec:=P71.toSpec
set_option maxHeartbeats 8000000 in
theorem FM:aN Tryz.prog 71 P71:=by
 refine cX (rs:=[.tmp 4]) Tryz.func71 Tryz.ntmps71 fun l k hp hw=>?_
 have hP:=dL
 simp only[iI,iL,dA]at hw |-
 have hΓ:=aaA
 have fm:=hp.rsn
 have oB:=hp.tsn
 have i6:l.ts.length<=maxLen:=by unfold maxLen;omega
 repeat refine sq ?_
 refine rx hΓ [1,2] [[2,0]] (fun K' hK=>by simp only[go_sem];exact ak) ?_
 repeat refine sq ?_
 refine rx hΓ [1,2,5] [[2,0],[15,0]] (fun K' hK=>by simp only[go_sem,ah,QR l k];exact ak) ?_
 repeat refine sq ?_
 refine rx hΓ [1,2,5,6] [[2,0],[15,0]] (fun K' hK=>by simp only[go_sem];exact ak) ?_
 repeat refine sq ?_
 refine aH ?_
 repeat refine sq ?_
 refine bB (fun s:Nat=>[(6,⟨true,.v (vInt s)⟩)]) (fun s=>[([15,0],.arr 1 ((bw l k s).map .bool))]) (fun s=>s<=l.ts.length) (fun s=>l.ts.length-s) 0 ?_ ?_ ?_ ?_
 ·exact Nat.zero_le _
 ·rfl
 ·rfl
 rintro i hi
 simp only[go_sem]
 repeat refine sq ?_
 refine rx hΓ [1,2,5,6,20] [[2,0],[15,0]] (fun K' hK=>by simp only[go_sem];exact ak) ?_
 repeat refine sq ?_
 refine av (fun hb=>?_) fun hb=>?_
 ·have ab:i<l.ts.length:=by simpa using hb
  have an:(i:Int)<l.ts.length:=by omega
  clear hb
  have p9:=pr l k i
  generalize B0:bw l k i=row at p9
  repeat refine sq ?_
  refine ax ?_
  repeat refine sq ?_
  refine aH ?_
  repeat refine sq ?_
  refine rx hΓ [1,2,5,6,7] [[2,0],[7,0],[15,0]] (fun K' hK=>by simp only[go_sem,ae ab,ah,ai,an];exact ak) ?_
  repeat refine sq ?_
  refine rx hΓ [1,2,5,6,7,8] [[2,0],[7,0],[15,0]] (fun K' hK=>by simp only[go_sem,ae ab,ah,ai,an,fm];exact ak) ?_
  rcases nZ l l.ts[i].re k with fM | ⟨j0,cO,fM,hrp⟩
  ·repeat refine sq ?_
   refine dx hΓ hP [[],[0],[0,1],[0,1,2],u4,[0,1,2],[0,1,2,5],[0,1,2],u8,u9,bO,cK,eU,eU,[0,1,2,3,4,5,6,7,8,9,10,11,13],eU,[0,1,2,3,4,5,6,7,8,9,10,11,13,14,15],[0,1,2,3,4,5,6,7,8,9,10,11,13,14,15,16],ie,eU,[0,1,2,3,4,5,6,7,8,9,10,11,19],[0,1,2,3,4,5,6,7,8,9,10,11,19,20],sQ,qL] [1,2,5,6,7,8,56] [[2,0],[7,0],[15,0]] (by kernel_rfl) (fun K' hK=>by simp only[go_sem,ae ab,ah,ai,an,fM,List.length_map];(repeat (refine⟨by first | exact ao | exact fun h=>⟨h,qW hp (List.getElem_mem cO)⟩ | (cases bJ l.ts[i].kn l.ts[i].un k<;>rfl),?_⟩));exact e8) ?_
   repeat refine sq ?_
   refine av (fun hb=>?_) fun hb=>?_
   ·repeat refine sq ?_
    have e0:bw l k (i+1)=row:=by
     rw[w7 l k (by unfold gd;rw[jQ ab,fM];rfl),B0]
    refine bp ?_
    simp only[go_sem]
    refine kp [1,2,5,6] [[2,0],[15,0]] ?_
    repeat refine sq ?_
    refine aM hΓ fun K' hK=>?_
    simp only[go_sem,ae ab,ah,ai,an,fM]
    repeat (refine⟨ao,?_⟩)
    refine hK _ ?_
    clear K' hK
    simp only[go_sem]
    refine⟨i+1,ab,by(show l.ts.length-(i+1)<l.ts.length-i;omega),?_⟩
    refine aY [1,2,5,6] [[2,0],[15,0]] ?_ ?_<;>simp only[go_sem,aT ab i6,aU,e0]
   ·cases hb
  ·have dO:decide ((j0:Int)<0)=false:=by simp
   have Cx:(j0:Int)<l.rs.length:=by omega
   repeat refine sq ?_
   refine dx hΓ hP [[],[0],[0,1],[0,1,2],u4,[0,1,2],[0,1,2,5],[0,1,2],u8,u9,bO,cK,eU,eU,[0,1,2,3,4,5,6,7,8,9,10,11,13],eU,[0,1,2,3,4,5,6,7,8,9,10,11,13,14,15],[0,1,2,3,4,5,6,7,8,9,10,11,13,14,15,16],ie,eU,[0,1,2,3,4,5,6,7,8,9,10,11,19],[0,1,2,3,4,5,6,7,8,9,10,11,19,20],sQ,qL] [1,2,5,6,7,8,56] [[2,0],[7,0],[15,0]] (by kernel_rfl) (fun K' hK=>by simp only[go_sem,ae ab,ah,ai,an,fM,ae cO,dO,List.length_map];(repeat (refine⟨by first | exact ao | exact fun h=>⟨h,qW hp (List.getElem_mem cO)⟩ | (cases bJ l.ts[i].kn l.ts[i].un k<;>rfl),?_⟩));exact e8) ?_
   repeat refine sq ?_
   refine av (fun hb=>?_) fun hb=>?_
   ·repeat refine sq ?_
    have e0:bw l k (i+1)=row:=by
     rw[w7 l k (by unfold gd;rw[jQ ab,fM,if_neg (by omega),ah,dj cO];simp only[Bool.and_eq_false_iff];exact .inl (by simpa[Bool.and_eq_false_iff]using hb)),B0]
    refine bp ?_
    simp only[go_sem]
    refine kp [1,2,5,6] [[2,0],[15,0]] ?_
    repeat refine sq ?_
    refine aM hΓ fun K' hK=>?_
    simp only[go_sem,ae ab,ah,ai,an,fM,ae cO,dO]
    repeat (refine⟨ao,?_⟩)
    refine hK _ ?_
    clear K' hK
    simp only[go_sem]
    refine⟨i+1,ab,by(show l.ts.length-(i+1)<l.ts.length-i;omega),?_⟩
    refine aY [1,2,5,6] [[2,0],[15,0]] ?_ ?_<;>simp only[go_sem,aT ab i6,aU,e0]
   ·repeat refine sq ?_
    have KN:bJ l.ts[i].kn l.ts[i].un k=true:=by cases VR:bJ l.ts[i].kn l.ts[i].un k with | true=>rfl | false=>rw[VR]at hb;simp at hb
    have VE:¬ kq l.ts[i] l.rs[j0]>l.ts[i].hi:=by rw[KN]at hb;simpa using hb
    have UA:gd l k row i=l.ts[i].lv.all (nl l row i l.rs[j0] l.ts[i]):=by
     unfold gd
     rw[jQ ab,fM,if_neg (by omega),ah,dj cO,KN,decide_eq_false VE]
     rfl
    have tJ:=Hd hp ab
    have rr:l.ts[i].lv.length<=maxLen:=by unfold maxLen;omega
    clear hb
    refine ax ?_
    repeat refine sq ?_
    refine rx hΓ [1,2,5,6,7,8,9] [[2,0],[7,0],[15,0]] (fun K' hK=>by simp only[go_sem,ae ab,ah,ai,an,fM,ae cO,dO];exact ak) ?_
    repeat refine sq ?_
    refine rx hΓ [1,2,5,6,7,8,9,10] [[2,0],[7,0],[15,0]] (fun K' hK=>by simp only[go_sem,ae ab,ah,ai,an,fM,ae cO,dO];exact ak) ?_
    repeat refine sq ?_
    refine aH ?_
    repeat refine sq ?_
    refine bB (fun s:Nat=>[(10,⟨true,.v (vInt s)⟩),(9,⟨true,.v (.bool ((l.ts[i].lv.take s).all (nl l row i l.rs[j0] l.ts[i])))⟩)]) (fun s=>[]) (fun s=>s<=l.ts[i].lv.length) (fun s=>l.ts[i].lv.length-s) 0 ?_ ?_ ?_ ?_
    ·exact Nat.zero_le _
    ·rfl
    ·rfl
    rintro i1 hi
    generalize hB:(l.ts[i].lv.take i1).all (nl l row i l.rs[j0] l.ts[i])=B
    simp only[go_sem]
    repeat refine sq ?_
    refine rx hΓ [1,2,5,6,7,8,9,10,61] [[2,0],[7,0],[15,0]] (fun K' hK=>by simp only[go_sem,ae ab,ah,ai,an,fM,ae cO,dO];exact ak) ?_
    repeat refine sq ?_
    refine av (fun hb=>?_) fun hb=>?_
    ·have ay:i1<l.ts[i].lv.length:=by simpa using hb
     have aQ:(i1:Int)<l.ts[i].lv.length:=by omega
     clear hb
     have hA:(l.ts[i].lv.take (i1+1)).all (nl l row i l.rs[j0] l.ts[i])=(ld (l5 l row l.ts[i] l.ts[i].lv[i1]) i&&(B&&l.rs[j0].lv.contains l.ts[i].lv[i1])):=by rw[<-hB,wK ay,nl,<-Bool.and_assoc,Bool.and_comm]
     repeat refine sq ?_
     refine ax ?_
     repeat refine sq ?_
     refine aH ?_
     repeat refine sq ?_
     refine dx hΓ hP [[],[0],[0,1],[0,1,2],[0,1],u5,u6,u7,[0,1],[0,1,8],[0,1],[0,1,8,9,10],[0,1,8,9,10,11],gP,jP,l4] [1,2,5,6,7,8,9,10] [[2,0],[7,0],[15,0]] (by kernel_rfl) (fun K' hK=>by simp only[go_sem,ae ab,ah,ai,an,fM,ae cO,dO,ae ay,ah,ai,aQ,ae cO,Cx];exact eT) ?_
     repeat refine sq ?_
     refine rx hΓ [1,2,5,6,7,8,9,10,11] [[2,0],[7,0],[15,0]] (fun K' hK=>by simp only[go_sem,ae ab,ah,ai,an,fM,ae cO,dO,ae ay,ah,ai,aQ];exact ak) ?_
     repeat refine sq ?_
     refine aH ?_
     repeat refine sq ?_
     refine bB (fun s:Nat=>[(11,⟨true,.v (vInt s)⟩),(9,⟨true,.v (.bool (ld (l5 l row l.ts[i] l.ts[i].lv[i1]) s&&(B&&l.rs[j0].lv.contains l.ts[i].lv[i1])))⟩)]) (fun s=>[]) (fun s=>s<=i) (fun s=>i-s) 0 ?_ ?_ ?_ ?_
     ·exact Nat.zero_le _
     ·rfl
     ·rfl
     rintro j hi
     generalize hC:(ld (l5 l row l.ts[i] l.ts[i].lv[i1]) j&&(B&&l.rs[j0].lv.contains l.ts[i].lv[i1]))=C
     simp only[go_sem]
     repeat refine sq ?_
     refine rx hΓ [1,2,5,6,7,8,9,10,11,81] [[2,0],[7,0],[15,0]] (fun K' hK=>by simp only[go_sem,ae ab,ah,ai,an,fM,ae cO,dO,ae ay,ah,ai,aQ];exact ak) ?_
     repeat refine sq ?_
     refine av (fun hb=>?_) fun hb=>?_
     ·have br:j<i:=by simpa using hb
      have dg:(j:Int)<i:=by omega
      clear hb
      have oH:j<l.ts.length:=by omega
      have Kx:j<row.length:=by omega
      have tQ:(j:Int)<l.ts.length:=by omega
      have hT:(ld (l5 l row l.ts[i] l.ts[i].lv[i1]) (j+1)&&(B&&l.rs[j0].lv.contains l.ts[i].lv[i1]))=(C&&!((row.getD j false&&l.ts[j].re==l.ts[i].re)&&l.ts[j].lv.contains l.ts[i].lv[i1])):=by
       rw[<-hC,YX,l5,jQ oH,Bool.and_right_comm]
      repeat refine sq ?_
      refine ax ?_
      repeat refine sq ?_
      refine aH ?_
      repeat refine sq ?_
      refine uz hΓ hP [[],[0],[0,1],[0,1],u4,u5,u6,u7,u8,u7,bO,cK,eU,u7,[0,1,2,3,4,5,6,13],l4,u16,jk,ie,lk,ie,nU,sQ,qL,ie,[0,1,2,3,4,5,6,7,8,9,10,11,12,13,14,15,16,17,24],ie,[0,1,2,3,4,5,6,7,8,9,10,11,12,13,14,15,16,17,24,25,26],[0,1,2,3,4,5,6,7,8,9,10,11,12,13,14,15,16,17,24,25,26,27],w5,Oi,E0,u32,EZ] (by kernel_rfl) fun K' hK=>?_
      simp only[go_sem,ae ab,ah,ai,an,fM,ae cO,dO,ae ay,ah,ai,aQ,ae ab,ae ay,ae cO,Cx,nk Kx,ae oH,tQ,aQ,an,ah,ai,List.length_map,Bool.decide_and,Bool.decide_eq_true]
      repeat (refine⟨ao,?_⟩)
      first | refine⟨by rfl,?_⟩ | skip
      refine hK _ ?_
      clear K' hK
      simp only[go_sem]
      refine kp [1,2,5,6,7,8,9,10,11] [[2,0],[7,0],[15,0]] ?_
      repeat refine sq ?_
      refine aM hΓ fun K' hK=>?_
      simp only[go_sem,ae ab,ah,ai,an,fM,ae cO,dO,ae ay,ah,ai,aQ,ae ab,ae ay,ae cO,Cx,nk Kx,ae oH,tQ,aQ,an,ah,ai,List.length_map]
      repeat (refine⟨ao,?_⟩)
      refine hK _ ?_
      clear K' hK
      simp only[go_sem]
      refine⟨j+1,br,by(show i-(j+1)<i-j;omega),?_⟩
      refine aY [1,2,5,6,7,8,9,10,11] [[2,0],[7,0],[15,0]] ?_ ?_<;>simp only[go_sem,aT br (by omega),aU,hT]
     ·have jB:j=i:=by
       have :¬ (j:Int)<i:=by simpa using hb
       omega
      clear hb
      rw[jB]at hC
      repeat refine sq ?_
      refine bp ?_
      simp only[go_sem]
      refine kp [1,2,5,6,7,8,9,10] [[2,0],[7,0],[15,0]] ?_
      repeat refine sq ?_
      refine aM hΓ fun K' hK=>?_
      simp only[go_sem,ae ab,ah,ai,an,fM,ae cO,dO,ae ay,ah,ai,aQ]
      repeat (refine⟨ao,?_⟩)
      refine hK _ ?_
      clear K' hK
      simp only[go_sem]
      refine⟨i1+1,ay,by(show l.ts[i].lv.length-(i1+1)<l.ts[i].lv.length-i1;omega),?_⟩
      refine aY [1,2,5,6,7,8,9,10] [[2,0],[7,0],[15,0]] ?_ ?_<;>simp only[go_sem,aT ay rr,aU,hA,hC]
    ·have er:i1=l.ts[i].lv.length:=by
      have :¬ (i1:Int)<l.ts[i].lv.length:=by simpa using hb
      omega
     clear hb
     subst er
     repeat refine sq ?_
     refine bp ?_
     simp only[go_sem]
     refine kp [1,2,5,6,9] [[2,0],[15,0]] ?_
     have e0:bw l k (i+1)=row.set i B:=by
      rw[<-Fa l k ab,B0,UA,<-hB,List.take_length]
     repeat refine sq ?_
     refine aM hΓ fun K' hK=>?_
     simp only[go_sem,ae ab,ah,ai,an,fM,ae cO,dO,OV]
     repeat (refine⟨ao,?_⟩)
     refine hK _ ?_
     clear K' hK
     simp only[go_sem]
     refine kp [1,2,5,6] [[2,0],[15,0]] ?_
     repeat refine sq ?_
     refine aM hΓ fun K' hK=>?_
     simp only[go_sem,ae ab,ah,ai,an,fM,ae cO,dO]
     repeat (refine⟨ao,?_⟩)
     refine hK _ ?_
     clear K' hK
     simp only[go_sem]
     refine⟨i+1,ab,by(show l.ts.length-(i+1)<l.ts.length-i;omega),?_⟩
     refine aY [1,2,5,6] [[2,0],[15,0]] ?_ ?_<;>simp only[go_sem,aT ab i6,aU,e0]
 ·have be:i=l.ts.length:=by
   have :¬ (i:Int)<l.ts.length:=by simpa using hb
   omega
  clear hb
  subst be
  repeat refine sq ?_
  refine bp ?_
  simp only[go_sem]
  refine kp [5] [[15,0]] ?_
  repeat refine sq ?_
  refine rx hΓ [4] [[15,0]] (fun K' hK=>by simp only[go_sem];exact ak) ?_
  refine au ?_
  simp only[go_sem]
  rw[pr]
end
noncomputable section
structure RV where
 l:Led
 k:Int
 ts:List Bool
 ds:List Rg
 deriving Inhabited
def sd(x:RV):V:=.agg [.sl (x.l.ps.map gJ),.sl (x.l.rs.map encR),.sl (x.l.ts.map fv),.sl (x.l.ss.map encS),vInt x.k,.sl (x.ts.map .bool),.sl (x.ds.map encRg)]
def LY:V->RV
 | .agg [.sl a,.sl b,.sl c,.sl d,.int _ k,.sl t,.sl g]=>⟨⟨a.map sh,b.map kV,c.map mL,d.map jI⟩,k,t.map y8,g.map uj⟩
 |_=>default
theorem Xl(r:Rg):uj (encRg r)=r:=rfl
@[go_sem] theorem aei(l:List Rg):(l.map encRg).map uj=l:=vt Xl l
def eO:En RV:=⟨sd,LY⟩
attribute [go_sem] sd LY eO encRg uj
@[go_sem] theorem aec(x:RV):(⟨x.l,x.k,x.ts,x.ds⟩:RV)=x:=rfl
def jn(x:RV)(so f:Int)(j:Nat):Bool:=(x.ts.getD j false&&(aK x.l j).re==so)&&(aK x.l j).lv.contains f
def eo(x:RV)(i:Nat)(f:Int):Int:=if (List.range x.ts.length).any (jn x (aw x.l i).so f)=true then((List.range x.ts.length).findIdx (jn x (aw x.l i).so f):Int)else -1
theorem Ge{x:RV}{i:Nat}{f:Int}{j:Nat}(h:j<x.ts.length)(hp:jn x (aw x.l i).so f j=true)(hn:∀ m,m<x.ts.length->m<j->jn x (aw x.l i).so f m=false):eo x i f=j:=by
 have :=rm (p:=jn x (aw x.l i).so f) (l:=List.range x.ts.length) (i:=j) (by simpa using h) (by simpa using hp) (fun m hm oF=>by simpa using hn m (by simpa using hm) oF)
 exact this
theorem Gd{x:RV}{i:Nat}{f:Int}(hn:∀ m,m<x.ts.length->m<x.ts.length->jn x (aw x.l i).so f m=false):eo x i f= -1:=by
 unfold eo
 rw[if_neg]
 intro h
 obtain⟨m,hm,hp⟩:=List.any_eq_true.1 h
 have gn:m<x.ts.length:=by simpa using hm
 rw[hn m gn gn]at hp
 exact absurd hp (by decide)
def K41:List (Nat×Spec):=[(15,uH)]
theorem aaz:KS K41:=tc Az.sound<|tn
attribute [go_sem] K41
@[go_sem] def P103:PSpec:=p3 eO iI iI (fun x a _=>(bx x.l/\x.ts.length=x.l.ts.length)/\0<=a/\a<x.l.rs.length) (fun x a f=>vInt (eo x a.toNat f)) true
@[go_sem] def wP:Spec:=P103.toSpec
set_option maxHeartbeats 8000000 in
theorem F2:aN Tryz.prog 103 P103:=by
 refine gO (rs:=[.tmp 6]) Tryz.func103 Tryz.ntmps103 fun x a f hp hw=>?_
 have hP:=dL
 simp only[iI,eO]at hw |-
 have hΓ:=aaz
 obtain⟨⟨aa,gT⟩,yD,jG⟩:=hp
 have oB:=aa.tsn
 have hl:x.ts.length<=maxLen:=by unfold maxLen;omega
 obtain⟨n,rfl⟩:∃ n:Nat,a=n:=⟨a.toNat,by omega⟩
 have hn:n<x.l.rs.length:=by omega
 rw[ah]
 repeat refine sq ?_
 refine rx hΓ [1,2,3] [[3,0]] (fun K' hK=>by simp only[go_sem];exact ak) ?_
 repeat refine sq ?_
 refine rx hΓ [1,2,3,7] [[3,0]] (fun K' hK=>by simp only[go_sem];exact ak) ?_
 repeat refine sq ?_
 refine aH ?_
 repeat refine sq ?_
 refine bB (fun s:Nat=>[(7,⟨true,.v (vInt s)⟩)]) (fun s=>[]) (fun s=>s<=x.ts.length/\∀ m,m<x.ts.length->m<s->jn x (aw x.l n).so f m=false) (fun s=>x.ts.length-s) 0 ?_ ?_ ?_ ?_
 ·exact⟨Nat.zero_le _,fun m _ h=>by omega⟩
 ·rfl
 ·rfl
 rintro i ⟨hi,hR⟩
 simp only[go_sem]
 repeat refine sq ?_
 refine rx hΓ [1,2,3,7,12] [[3,0]] (fun K' hK=>by simp only[go_sem];exact ak) ?_
 repeat refine sq ?_
 refine av (fun hb=>?_) fun hb=>?_
 ·have ab:i<x.ts.length:=by simpa using hb
  have an:(i:Int)<x.ts.length:=by omega
  clear hb
  have ny:i<x.l.ts.length:=by omega
  have Cn:(i:Int)<x.l.ts.length:=by omega
  have rL:(n:Int)<x.l.rs.length:=by omega
  repeat refine sq ?_
  refine ax ?_
  repeat refine sq ?_
  refine aH ?_
  repeat refine sq ?_
  refine dx hΓ hP [[],[0],[],[0,1,2],u4,u5,u6,u7,u8,u6,bO,cK,eU,u6,[0,1,2,3,4,5,13],[0,1,2,3,4,5,13,14],u6,[0,1,2,3,4,5,13,14,15,16],[0,1,2,3,4,5,13,14,15,16,17],[0,1,2,3,4,5,13,14,15,16,17,18],gz,nU,sQ,qL,Ab,uQ,qL,E1,w6,w5,qL,E0,u32] [1,2,3,7,47] [[3,0]] (by kernel_rfl) (fun K' hK=>by simp only[go_sem,nk ab,ae hn,ae ny,rL,Cn,ah,ai,an,List.length_map];exact eT) ?_
  repeat refine sq ?_
  refine av (fun hb=>?_) fun hb=>?_
  ·repeat refine sq ?_
   have e:eo x n f=i:=Ge ab (by unfold jn;rw[jQ ny,dj hn];simpa using hb) hR
   repeat refine sq ?_
   refine rx hΓ [6] [] (fun K' hK=>by simp only[go_sem,nk ab,ae hn,ae ny,rL,Cn,ah,ai,an,List.length_map];exact ak) ?_
   refine au ?_
   simp only[go_sem]
   rw[e]
  ·repeat refine sq ?_
   refine ax ?_
   refine bE ?_
   simp only[go_sem]
   refine kp [1,2,3,7] [[3,0]] ?_
   repeat refine sq ?_
   refine aM hΓ fun K' hK=>?_
   simp only[go_sem,nk ab,ae hn,ae ny,rL,Cn,ah,ai,an,List.length_map]
   repeat (refine⟨ao,?_⟩)
   refine hK _ ?_
   clear K' hK
   simp only[go_sem]
   refine⟨i+1,⟨ab,?_⟩,by(show x.ts.length-(i+1)<x.ts.length-i;omega),?_⟩
   ·intro m hm U4
    rcases Nat.lt_succ_iff_lt_or_eq.1 U4 with h5 | rfl
    ·exact hR m hm h5
    ·unfold jn;rw[jQ ny,dj hn];simpa using hb
   refine aY [1,2,3,7] [[3,0]] ?_ ?_<;>simp only[go_sem,aT ab hl,aU]
 ·have be:i=x.ts.length:=by
   have :¬ (i:Int)<x.ts.length:=by simpa using hb
   omega
  clear hb
  subst be
  repeat refine sq ?_
  refine bp ?_
  simp only[go_sem]
  refine kp [] [] ?_
  repeat refine sq ?_
  refine rx hΓ [6] [] (fun K' hK=>by simp only[go_sem];exact ak) ?_
  refine au ?_
  simp only[go_sem]
  rw[Gd hR]
end
set_option maxHeartbeats 8000000
noncomputable section
def cV(k:Int)(f:Fol)(r:Rec):Bool:=(bJ r.kn r.un k&&r.pa==f.pa)&&r.lv.contains f.le
def K42:List (Nat×Spec):=[(157,zP),(15,uH)]
theorem aay:KS K42:=tc xg.sound<|tc Az.sound<|tn
attribute [go_sem] K42
@[go_sem] def P188:PSpec:=p3 eO iI nq (fun x a _=>0<=a/\a<x.l.rs.length) (fun x a f=>.bool (cV x.k f (aw x.l a.toNat))) true
@[go_sem] def Ev:Spec:=P188.toSpec
theorem Av:aN Tryz.prog 188 P188:=by
 refine gO (rs:=[.tmp 6]) Tryz.func188 Tryz.ntmps188 fun x a f hp hw=>?_
 simp only[nq,iI,eO,se]at hw |-
 have hΓ:=aay
 obtain⟨yD,jG⟩:=hp
 obtain⟨n,rfl⟩:∃ n:Nat,a=n:=⟨a.toNat,by omega⟩
 have hn:n<x.l.rs.length:=by omega
 rw[ah,dj hn]
 repeat refine sq ?_
 refine rx hΓ [1,3,5] [[3,0],[5,0]] (fun K' hK=>by simp only[go_sem];exact ak) ?_
 repeat refine sq ?_
 refine rx hΓ [3,5,7] [[3,0],[5,0],[7,0]] (fun K' hK=>by simp only[go_sem,ae hn,ah,ai,jG,List.length_map];exact ak) ?_
 repeat refine sq ?_
 refine rx hΓ [6] [] (fun K' hK=>by simp only[go_sem,Bool.decide_and,Bool.decide_eq_true];exact ak) ?_
 refine au ?_
 simp only[go_sem]
 rfl
def fy(x:RV)(f:Fol)(day:Int):Nat->Int
 | 0=> -1
 |s+1=>if ((cV x.k f (aw x.l s)&&decide ((aw x.l s).da<=day))&&(decide (fy x f day s<0)||decide ((aw x.l s).da>(aw x.l (fy x f day s).toNat).da)))=true then(s:Int)else fy x f day s
theorem HV(x:RV)(f:Fol)(day:Int)(s:Nat):fy x f day s= -1\/∃ j,j<s/\fy x f day s=(j:Int):=by
 induction s with
 |zero=>exact .inl rfl
 |succ s ih=>
  unfold fy
  split
  ·exact .inr ⟨s,by omega,rfl⟩
  ·rcases ih with h | ⟨j,hj,h⟩
   ·exact .inl h
   ·exact .inr ⟨j,by omega,h⟩
def fi(x:RV)(f:Fol)(day:Int):Int:=fy x f day x.l.rs.length
def K42b:List (Nat×Spec):=[(188,Ev)]
theorem aax:KS K42b:=tc Av.sound<|tn
attribute [go_sem] K42b
@[go_sem] def P159:PSpec:=p3 eO nq iI (fun x _ _=>bx x.l) (fun x f day=>vInt (fi x f day)) true
@[go_sem] def Ew:Spec:=P159.toSpec
theorem Qa:aN Tryz.prog 159 P159:=by
 refine gO (rs:=[.tmp 6]) Tryz.func159 Tryz.ntmps159 fun x f day hp hw=>?_
 simp only[nq,iI,eO,se]at hw |-
 have hΓ:=aax
 have fm:=hp.rsn
 have hl:x.l.rs.length<=maxLen:=by unfold maxLen;omega
 repeat refine sq ?_
 refine rx hΓ [2,3,4] [[3,0],[4,0]] (fun K' hK=>by simp only[go_sem];exact ak) ?_
 repeat refine sq ?_
 refine rx hΓ [2,3,4,7] [[3,0],[4,0]] (fun K' hK=>by simp only[go_sem];exact ak) ?_
 repeat refine sq ?_
 refine rx hΓ [2,3,4,7,8] [[3,0],[4,0]] (fun K' hK=>by simp only[go_sem];exact ak) ?_
 repeat refine sq ?_
 refine aH ?_
 repeat refine sq ?_
 refine bB (fun s:Nat=>[(8,⟨true,.v (vInt s)⟩),(7,⟨true,.v (vInt (fy x f day s))⟩)]) (fun s=>[]) (fun s=>s<=x.l.rs.length) (fun s=>x.l.rs.length-s) 0 ?_ ?_ ?_ ?_
 ·exact Nat.zero_le _
 ·rfl
 ·rfl
 rintro i hi
 generalize hL:fy x f day i=L
 simp only[go_sem]
 repeat refine sq ?_
 refine rx hΓ [2,3,4,7,8,15] [[3,0],[4,0]] (fun K' hK=>by simp only[go_sem];exact ak) ?_
 repeat refine sq ?_
 refine av (fun hb=>?_) fun hb=>?_
 ·have ab:i<x.l.rs.length:=by simpa using hb
  have an:(i:Int)<x.l.rs.length:=by omega
  clear hb
  have hc:=HV x f day i
  rw[hL]at hc
  have gH:=dj ab
  have kP:cg (-1) 0=0:=rfl
  have yH:0<x.l.rs.length:=by omega
  have yG:(0:Int)<x.l.rs.length:=by omega
  repeat refine sq ?_
  refine ax ?_
  repeat refine sq ?_
  refine aH ?_
  repeat refine sq ?_
  refine rx hΓ [2,3,4,7,8,9] [[3,0],[4,0]] (fun K' hK=>by simp only[go_sem,ae ab,ah,ai,an];exact ak) ?_
  rcases hc with hc | ⟨j,hj,hc⟩
  ·subst hc
   repeat refine sq ?_
   refine rx hΓ [2,3,4,7,8,49] [[3,0],[4,0]] (fun K' hK=>by simp only[go_sem,ae ab,ah,ai,an,kP,ae yH,yG,ah,fw,gH,Bool.decide_and,Bool.decide_eq_true];exact ak) ?_
   repeat refine sq ?_
   refine av (fun hb=>?_) fun hb=>?_
   ·repeat refine sq ?_
    have eL:fy x f day (i+1)=(i:Int):=by
     rw[fy,hL,gH,if_pos (by simpa using hb)]
    repeat refine sq ?_
    refine aM hΓ fun K' hK=>?_
    simp only[go_sem,ae ab,ah,ai,an,kP,ae yH,yG,ah,fw,gH]
    repeat (refine⟨ao,?_⟩)
    refine hK _ ?_
    clear K' hK
    simp only[go_sem]
    refine kp [2,3,4,7,8] [[3,0],[4,0]] ?_
    repeat refine sq ?_
    refine aM hΓ fun K' hK=>?_
    simp only[go_sem,ae ab,ah,ai,an,kP,ae yH,yG,ah,fw,gH]
    repeat (refine⟨ao,?_⟩)
    refine hK _ ?_
    clear K' hK
    simp only[go_sem]
    refine⟨i+1,ab,by(show x.l.rs.length-(i+1)<x.l.rs.length-i;omega),?_⟩
    refine aY [2,3,4,7,8] [[3,0],[4,0]] ?_ ?_<;>simp only[go_sem,aT ab hl,aU,eL]
   ·repeat refine sq ?_
    have eL:fy x f day (i+1)= -1:=by
     rw[fy,hL,gH,if_neg (by simpa using hb)]
    refine ax ?_
    refine bE ?_
    simp only[go_sem]
    refine kp [2,3,4,7,8] [[3,0],[4,0]] ?_
    repeat refine sq ?_
    refine aM hΓ fun K' hK=>?_
    simp only[go_sem,ae ab,ah,ai,an,kP,ae yH,yG,ah,fw,gH]
    repeat (refine⟨ao,?_⟩)
    refine hK _ ?_
    clear K' hK
    simp only[go_sem]
    refine⟨i+1,ab,by(show x.l.rs.length-(i+1)<x.l.rs.length-i;omega),?_⟩
    refine aY [2,3,4,7,8] [[3,0],[4,0]] ?_ ?_<;>simp only[go_sem,aT ab hl,aU,eL]
  ·subst hc
   have dO:decide ((j:Int)<0)=false:=by simp
   have oF:(if (0:Int)>(j:Int)then(0:Int)else(j:Int))=j:=if_neg (by omega)
   have iz:j<x.l.rs.length:=by omega
   have ym:(j:Int)<x.l.rs.length:=by omega
   repeat refine sq ?_
   refine rx hΓ [2,3,4,7,8,49] [[3,0],[4,0]] (fun K' hK=>by simp only[go_sem,ae ab,ah,ai,an,oF,dO,ae iz,ym,gH,Bool.decide_and,Bool.decide_eq_true];exact ak) ?_
   repeat refine sq ?_
   refine av (fun hb=>?_) fun hb=>?_
   ·repeat refine sq ?_
    have eL:fy x f day (i+1)=(i:Int):=by
     rw[fy,hL,gH,ah,dj iz,dO,Bool.false_or,if_pos (by simpa using hb)]
    repeat refine sq ?_
    refine aM hΓ fun K' hK=>?_
    simp only[go_sem,ae ab,ah,ai,an,oF,dO,ae iz,ym,gH]
    repeat (refine⟨ao,?_⟩)
    refine hK _ ?_
    clear K' hK
    simp only[go_sem]
    refine kp [2,3,4,7,8] [[3,0],[4,0]] ?_
    repeat refine sq ?_
    refine aM hΓ fun K' hK=>?_
    simp only[go_sem,ae ab,ah,ai,an,oF,dO,ae iz,ym,gH]
    repeat (refine⟨ao,?_⟩)
    refine hK _ ?_
    clear K' hK
    simp only[go_sem]
    refine⟨i+1,ab,by(show x.l.rs.length-(i+1)<x.l.rs.length-i;omega),?_⟩
    refine aY [2,3,4,7,8] [[3,0],[4,0]] ?_ ?_<;>simp only[go_sem,aT ab hl,aU,eL]
   ·repeat refine sq ?_
    have eL:fy x f day (i+1)=(j:Int):=by
     rw[fy,hL,gH,ah,dj iz,dO,Bool.false_or,if_neg (by simpa using hb)]
    refine ax ?_
    refine bE ?_
    simp only[go_sem]
    refine kp [2,3,4,7,8] [[3,0],[4,0]] ?_
    repeat refine sq ?_
    refine aM hΓ fun K' hK=>?_
    simp only[go_sem,ae ab,ah,ai,an,oF,dO,ae iz,ym,gH]
    repeat (refine⟨ao,?_⟩)
    refine hK _ ?_
    clear K' hK
    simp only[go_sem]
    refine⟨i+1,ab,by(show x.l.rs.length-(i+1)<x.l.rs.length-i;omega),?_⟩
    refine aY [2,3,4,7,8] [[3,0],[4,0]] ?_ ?_<;>simp only[go_sem,aT ab hl,aU,eL]
 ·have be:i=x.l.rs.length:=by
   have :¬ (i:Int)<x.l.rs.length:=by simpa using hb
   omega
  clear hb
  subst be
  repeat refine sq ?_
  refine bp ?_
  simp only[go_sem]
  refine kp [7] [] ?_
  repeat refine sq ?_
  refine rx hΓ [6] [] (fun K' hK=>by simp only[go_sem];exact ak) ?_
  refine au ?_
  simp only[go_sem]
  rw[<-hL];rfl
def cU(l:Led)(i:Nat):Sig:=l.ss.getD i default
def gg(x:RV):Nat->List Int
 | 0=>[]
 |s+1=>if bJ (cU x.l s).kn (cU x.l s).un x.k=true then gg x s++[(s:Int)]else gg x s
theorem nV{l:Led}{i:Nat}(h:i<l.ss.length):cU l i=l.ss[i]:=by unfold cU;rw[List.getD_eq_getElem?_getD,List.getElem?_eq_getElem h];rfl
theorem xc(x:RV)(s:Nat):(gg x s).length<=s:=by
 induction s with
 |zero=>exact Nat.le_refl _
 |succ s ih=>
  unfold gg
  split
  ·simp only[List.length_append,List.length_cons,List.length_nil];omega
  ·omega
def K42c:List (Nat×Spec):=[(157,zP)]
theorem aaw:KS K42c:=tc xg.sound<|tn
attribute [go_sem] K42c
@[go_sem] def P135:PSpec:=p1 eO (fun x=>bx x.l) (fun x=>.sl ((gg x x.l.ss.length).map vInt)) false
@[go_sem] def EC:Spec:=P135.toSpec
theorem AB:aN Tryz.prog 135 P135:=by
 refine dQ (rs:=[.tmp 2]) Tryz.func135 Tryz.ntmps135 fun x hp hw=>?_
 have hP:=dL
 simp only[eO]at hw |-
 have hΓ:=aaw
 have kM:=hp.ssn
 have hl:x.l.ss.length<=maxLen:=by unfold maxLen;omega
 repeat refine sq ?_
 refine rx hΓ [1] [[1,0]] (fun K' hK=>by simp only[go_sem];exact ak) ?_
 repeat refine sq ?_
 refine rx hΓ [1,3] [[1,0],[33,0]] (fun K' hK=>by simp only[go_sem];exact ak) ?_
 refine dp (pk 3 [33,0] 1 (by simp only[go_sem]) (by simp only[go_sem]) [1,3] [[1,0],[33,0]] ?_ rfl) ?_
 ·simp only[go_sem]
 simp only[go_sem]
 repeat refine sq ?_
 refine rx hΓ [1,3,4] [[1,0],[33,0]] (fun K' hK=>by simp only[go_sem];exact ak) ?_
 repeat refine sq ?_
 refine aH ?_
 repeat refine sq ?_
 refine bB (fun s:Nat=>[(4,⟨true,.v (vInt s)⟩),(3,⟨true,.msl [33,0] (gg x s).length⟩)]) (fun s=>[([33,0],.arr 1 ((gg x s).map vInt))]) (fun s=>s<=x.l.ss.length) (fun s=>x.l.ss.length-s) 0 ?_ ?_ ?_ ?_
 ·exact Nat.zero_le _
 ·rfl
 ·rfl
 rintro i hi
 simp only[go_sem]
 repeat refine sq ?_
 refine rx hΓ [1,3,4,10] [[1,0],[33,0]] (fun K' hK=>by simp only[go_sem];exact ak) ?_
 repeat refine sq ?_
 refine av (fun hb=>?_) fun hb=>?_
 ·have ab:i<x.l.ss.length:=by simpa using hb
  have an:(i:Int)<x.l.ss.length:=by omega
  clear hb
  have ep:=xc x i
  repeat refine sq ?_
  refine ax ?_
  repeat refine sq ?_
  refine aH ?_
  repeat refine sq ?_
  refine dx hΓ hP [[],[0],[0,1],[],u4,u5,u6,[],[7],[7,8],[],[7,8,9,10],[7,8,9,10,11],[7,8,9,10,11,12],[],[14],u16] [1,3,4,29] [[1,0],[33,0]] (by kernel_rfl) (fun K' hK=>by simp only[go_sem,ae ab,ah,ai,an];exact eT) ?_
  repeat refine sq ?_
  refine av (fun hb=>?_) fun hb=>?_
  ·repeat refine sq ?_
   have eS:gg x (i+1)=gg x i++[(i:Int)]:=by rw[gg,nV ab,if_pos (by simpa using hb)]
   repeat refine sq ?_
   refine aM hΓ fun K' hK=>?_
   simp only[go_sem,ae ab,ah,ai,an]
   repeat (refine⟨ao,?_⟩)
   refine hK _ ?_
   clear K' hK
   simp only[go_sem]
   refine kp [1,3,4] [[1,0],[33,0]] ?_
   repeat refine sq ?_
   refine aM hΓ fun K' hK=>?_
   simp only[go_sem,ae ab,ah,ai,an]
   repeat (refine⟨ao,?_⟩)
   refine hK _ ?_
   clear K' hK
   simp only[go_sem]
   refine⟨i+1,ab,by(show x.l.ss.length-(i+1)<x.l.ss.length-i;omega),?_⟩
   refine aY [1,3,4] [[1,0],[33,0]] ?_ ?_<;>simp only[go_sem,aT ab hl,aU,eS,List.map_append,List.length_append,List.map_cons,List.map_nil,List.length_cons,List.length_nil]
  ·repeat refine sq ?_
   have eS:gg x (i+1)=gg x i:=by rw[gg,nV ab,if_neg (by simpa using hb)]
   refine ax ?_
   refine bE ?_
   simp only[go_sem]
   refine kp [1,3,4] [[1,0],[33,0]] ?_
   repeat refine sq ?_
   refine aM hΓ fun K' hK=>?_
   simp only[go_sem,ae ab,ah,ai,an]
   repeat (refine⟨ao,?_⟩)
   refine hK _ ?_
   clear K' hK
   simp only[go_sem]
   refine⟨i+1,ab,by(show x.l.ss.length-(i+1)<x.l.ss.length-i;omega),?_⟩
   refine aY [1,3,4] [[1,0],[33,0]] ?_ ?_<;>simp only[go_sem,aT ab hl,aU,eS,List.map_append,List.length_append,List.map_cons,List.map_nil,List.length_cons,List.length_nil]
 ·have be:i=x.l.ss.length:=by
   have :¬ (i:Int)<x.l.ss.length:=by simpa using hb
   omega
  clear hb
  subst be
  repeat refine sq ?_
  refine bp ?_
  simp only[go_sem]
  refine kp [3] [[33,0]] ?_
  repeat refine sq ?_
  refine rx hΓ [2] [[33,0]] (fun K' hK=>by simp only[go_sem];exact ak) ?_
  refine au ?_
  simp only[go_sem]
  all_goals exact c9
end
noncomputable section
def ra(x:RV)(r:Rec)(lv:List Int)(i:Nat)(j:Nat):Bool:=decide ((aw x.l i).da>r.da)&&cV x.k ⟨r.pa,lv.getD j 0⟩ (aw x.l i)
def mT(x:RV)(r:Rec)(lv:List Int)(i:Nat)(hi:Int):Nat->Int
 | 0=>hi
 |j+1=>if ra x r lv i j=true then dD (mT x r lv i hi j) (aw x.l i).da else mT x r lv i hi j
def mS(x:RV)(r:Rec)(t:Ret):Nat->Int
 | 0=>t.hi
 |i+1=>mT x r t.lv i (mS x r t i) t.lv.length
def mR(x:RV)(i:Nat):Rg:=if x.ts.getD i false=true then⟨kq (aK x.l i) (aw x.l (b8 x.l (aK x.l i).re x.k).toNat),mS x (aw x.l (b8 x.l (aK x.l i).re x.k).toNat) (aK x.l i) x.l.rs.length⟩else⟨0,100000⟩
def pf(x:RV):Prop:=bx x.l/\x.ts.length=x.l.ts.length/\∀ i,x.ts.getD i false=true->¬ b8 x.l (aK x.l i).re x.k<0
theorem iX(a b:Int):dD a b=if b<a then b else a:=rfl
def K43:List (Nat×Spec):=[(70,zO),(158,Ey),(188,Ev)]
theorem aav:KS K43:=tc Au.sound<|tc Aw.sound<|tc Av.sound<|tn
attribute [go_sem] K43
@[go_sem] def P195:PSpec:=p2 eO iI (fun x i=>pf x/\0<=i/\i<x.l.ts.length) (fun x i=>encRg (mR x i.toNat)) false
@[go_sem] def Zx:Spec:=P195.toSpec
set_option maxHeartbeats 8000000 in
theorem PV:aN Tryz.prog 195 P195:=by
 refine cX (rs:=[.cell 4 38]) Tryz.func195 Tryz.ntmps195 fun x a hp hw=>?_
 have hP:=dL
 simp only[iI,eO]at hw |-
 have hΓ:=aav
 obtain⟨⟨aa,gT,UE⟩,yD,jG⟩:=hp
 have fm:=aa.rsn
 have oB:=aa.tsn
 have hl:x.l.rs.length<=maxLen:=by unfold maxLen;omega
 obtain⟨n,rfl⟩:∃ n:Nat,a=n:=⟨a.toNat,by omega⟩
 have hn:n<x.l.ts.length:=by omega
 have cT:n<x.ts.length:=by omega
 have US:(n:Int)<x.ts.length:=by omega
 rw[ah]
 repeat refine sq ?_
 refine rx hΓ [1,2,4] [[2,0],[4,0]] (fun K' hK=>by simp only[go_sem];exact ak) ?_
 repeat refine sq ?_
 refine rx hΓ [1,2,4,15] [[2,0],[4,0]] (fun K' hK=>by simp only[go_sem,nk cT,ah,ai,US,List.length_map];exact ak) ?_
 repeat refine sq ?_
 refine av (fun hb=>?_) fun hb=>?_
 ·repeat refine sq ?_
  have e:mR x n=⟨0,100000⟩:=by unfold mR;rw[if_neg (by simpa using hb)]
  repeat refine sq ?_
  refine rx hΓ [4] [[4,0]] (fun K' hK=>by simp only[go_sem];exact ak) ?_
  refine au ?_
  simp only[go_sem]
  rw[e]
 ·repeat refine sq ?_
  have J7:x.ts.getD n false=true:=by simpa using hb
  obtain⟨q,hq,fM,-⟩:=(nZ x.l x.l.ts[n].re x.k).resolve_left (fun h=>UE n J7 (by rw[jQ hn,h];decide))
  have cp:(q:Int)<x.l.rs.length:=by omega
  have v7:=qW aa (List.getElem_mem hq)
  have e:mR x n=⟨kq x.l.ts[n] x.l.rs[q],mS x x.l.rs[q] x.l.ts[n] x.l.rs.length⟩:=by
   unfold mR;rw[if_pos J7,jQ hn,fM,ah,dj hq]
  have tJ:=Hd aa hn
  have rr:x.l.ts[n].lv.length<=maxLen:=by unfold maxLen;omega
  refine ax ?_
  repeat refine sq ?_
  refine rx hΓ [2,4,5] [[2,0],[4,0],[5,0]] (fun K' hK=>by simp only[go_sem,ae hn,ah,ai,jG,List.length_map];exact ak) ?_
  repeat refine sq ?_
  refine dx hΓ hP [[],[0],[0,1],[],[3],[],[5],[],[7],[3,4,5,6,7,8],bO,cK,[],gP] [2,4,5,6] [[2,0],[4,0],[5,0],[6,0]] (by kernel_rfl) (fun K' hK=>by simp only[go_sem,fm,fM,ae hq,cp,ah,ai,List.length_map];exact eT) ?_
  repeat refine sq ?_
  refine dx hΓ hP [[],[],[0,1],[],[3],[3,4],u6,[],u8] [2,4,5,6,7] [[2,0],[4,0],[5,0],[6,0],[7,0]] (by kernel_rfl) (fun K' hK=>by simp only[go_sem];(repeat (refine⟨by first | exact ao | exact v7,?_⟩));exact e8) ?_
  repeat refine sq ?_
  refine rx hΓ [2,4,5,6,7,8] [[2,0],[4,0],[5,0],[6,0],[7,0]] (fun K' hK=>by simp only[go_sem];exact ak) ?_
  repeat refine sq ?_
  refine aH ?_
  repeat refine sq ?_
  refine bB (fun s:Nat=>[(8,⟨true,.v (vInt s)⟩)]) (fun s=>[([7,0],.box [.v (vInt (kq x.l.ts[n] x.l.rs[q])),.v (vInt (mS x x.l.rs[q] x.l.ts[n] s))])]) (fun s=>s<=x.l.rs.length) (fun s=>x.l.rs.length-s) 0 ?_ ?_ ?_ ?_
  ·exact Nat.zero_le _
  ·rfl
  ·rfl
  rintro i hi
  generalize hB:mS x x.l.rs[q] x.l.ts[n] i=B
  simp only[go_sem]
  repeat refine sq ?_
  refine rx hΓ [2,4,5,6,7,8,47] [[2,0],[4,0],[5,0],[6,0],[7,0]] (fun K' hK=>by simp only[go_sem];exact ak) ?_
  repeat refine sq ?_
  refine av (fun hb=>?_) fun hb=>?_
  ·have ab:i<x.l.rs.length:=by simpa using hb
   have an:(i:Int)<x.l.rs.length:=by omega
   clear hb
   repeat refine sq ?_
   refine ax ?_
   repeat refine sq ?_
   refine aH ?_
   repeat refine sq ?_
   refine rx hΓ [2,4,5,6,7,8,9] [[2,0],[4,0],[5,0],[6,0],[7,0]] (fun K' hK=>by simp only[go_sem,ae ab,ah,ai,an];exact ak) ?_
   repeat refine sq ?_
   refine aH ?_
   repeat refine sq ?_
   refine bB (fun s:Nat=>[(9,⟨true,.v (vInt s)⟩)]) (fun s=>[([7,0],.box [.v (vInt (kq x.l.ts[n] x.l.rs[q])),.v (vInt (mT x x.l.rs[q] x.l.ts[n].lv i B s))])]) (fun s=>s<=x.l.ts[n].lv.length) (fun s=>x.l.ts[n].lv.length-s) 0 ?_ ?_ ?_ ?_
   ·exact Nat.zero_le _
   ·rfl
   ·rfl
   rintro j hi
   generalize hC:mT x x.l.rs[q] x.l.ts[n].lv i B j=C
   simp only[go_sem]
   repeat refine sq ?_
   refine rx hΓ [2,4,5,6,7,8,9,54] [[2,0],[4,0],[5,0],[6,0],[7,0]] (fun K' hK=>by simp only[go_sem,ae ab,ah,ai,an];exact ak) ?_
   repeat refine sq ?_
   refine av (fun hb=>?_) fun hb=>?_
   ·have ay:j<x.l.ts[n].lv.length:=by simpa using hb
    have aQ:(j:Int)<x.l.ts[n].lv.length:=by omega
    clear hb
    have gH:=dj ab
    have ua:x.l.ts[n].lv.getD j 0=x.l.ts[n].lv[j]:=by rw[List.getD_eq_getElem?_getD,List.getElem?_eq_getElem ay];rfl
    repeat refine sq ?_
    refine ax ?_
    repeat refine sq ?_
    refine aH ?_
    repeat refine sq ?_
    refine dx hΓ hP [[],[0],[0,1],[],u4,u5,u6,[],[7],u9,bO,cK,cK,cK,[0,1,2,3,4,5,6,7,8,9,10,13],cK,[0,1,2,3,4,5,6,7,8,9,10,15],cK,[0,1,2,3,4,5,6,7,8,9,10,15,16,17],[0,1,2,3,4,5,6,7,8,9,10,15,16,17,18],[0,1,2,3,4,5,6,7,8,9,10,13,14,15,16,17,18,19],nU,sQ] [2,4,5,6,7,8,9,79] [[2,0],[4,0],[5,0],[6,0],[7,0]] (by kernel_rfl) (fun K' hK=>by simp only[go_sem,ae ab,ah,ai,an,ae hn,ae ay,ae ab,ah,ai,aQ,an,List.length_map,gH,ua,Bool.decide_and,Bool.decide_eq_true];(repeat (refine⟨by first | exact ao | exact⟨ai _,an⟩ | exact fun h=>⟨h,ai _,an⟩,?_⟩));exact e8) ?_
    repeat refine sq ?_
    refine av (fun hb=>?_) fun hb=>?_
    ·repeat refine sq ?_
     have eS:mT x x.l.rs[q] x.l.ts[n].lv i B (j+1)=if x.l.rs[i].da<C then x.l.rs[i].da else C:=by
      rw[mT,hC,ra,gH,ua,if_pos (by simpa using hb),iX]
     repeat refine sq ?_
     refine uz hΓ hP [[],[0],[],[2],[2,3],[],[2,3,4,5],[2,3,4,5,6],[2,3,4,5,6,7],u9,bO,cK] (by kernel_rfl) fun K' hK=>?_
     simp only[go_sem,ae ab,ah,ai,an,ae hn,ae ay,ae ab,ah,ai,aQ,an,List.length_map,gH,ua]
     repeat (refine⟨ao,?_⟩)
     first | refine⟨by rfl,?_⟩ | skip
     refine hK _ ?_
     clear K' hK
     simp only[go_sem]
     refine kp [2,4,5,6,7,8,9] [[2,0],[4,0],[5,0],[6,0],[7,0]] ?_
     repeat refine sq ?_
     refine aM hΓ fun K' hK=>?_
     simp only[go_sem,ae ab,ah,ai,an,ae hn,ae ay,ae ab,ah,ai,aQ,an,List.length_map,gH,ua]
     repeat (refine⟨ao,?_⟩)
     refine hK _ ?_
     clear K' hK
     simp only[go_sem]
     refine⟨j+1,ay,by(show x.l.ts[n].lv.length-(j+1)<x.l.ts[n].lv.length-j;omega),?_⟩
     refine aY [2,4,5,6,7,8,9] [[2,0],[4,0],[5,0],[6,0],[7,0]] ?_ ?_<;>simp only[go_sem,aT ay rr,aU,eS]
    ·repeat refine sq ?_
     have eS:mT x x.l.rs[q] x.l.ts[n].lv i B (j+1)=C:=by
      rw[mT,hC,ra,gH,ua,if_neg (by simpa using hb)]
     refine ax ?_
     refine bE ?_
     simp only[go_sem]
     refine kp [2,4,5,6,7,8,9] [[2,0],[4,0],[5,0],[6,0],[7,0]] ?_
     repeat refine sq ?_
     refine aM hΓ fun K' hK=>?_
     simp only[go_sem,ae ab,ah,ai,an,ae hn,ae ay,ae ab,ah,ai,aQ,an,List.length_map,gH,ua]
     repeat (refine⟨ao,?_⟩)
     refine hK _ ?_
     clear K' hK
     simp only[go_sem]
     refine⟨j+1,ay,by(show x.l.ts[n].lv.length-(j+1)<x.l.ts[n].lv.length-j;omega),?_⟩
     refine aY [2,4,5,6,7,8,9] [[2,0],[4,0],[5,0],[6,0],[7,0]] ?_ ?_<;>simp only[go_sem,aT ay rr,aU,eS]
   ·have er:j=x.l.ts[n].lv.length:=by
     have :¬ (j:Int)<x.l.ts[n].lv.length:=by simpa using hb
     omega
    clear hb
    rw[er]at hC
    repeat refine sq ?_
    refine bp ?_
    simp only[go_sem]
    refine kp [2,4,5,6,7,8] [[2,0],[4,0],[5,0],[6,0],[7,0]] ?_
    repeat refine sq ?_
    refine aM hΓ fun K' hK=>?_
    simp only[go_sem,ae ab,ah,ai,an]
    repeat (refine⟨ao,?_⟩)
    refine hK _ ?_
    clear K' hK
    simp only[go_sem]
    refine⟨i+1,ab,by(show x.l.rs.length-(i+1)<x.l.rs.length-i;omega),?_⟩
    refine aY [2,4,5,6,7,8] [[2,0],[4,0],[5,0],[6,0],[7,0]] ?_ ?_<;>simp only[go_sem,aT ab hl,aU,mS,hB,hC]
  ·have be:i=x.l.rs.length:=by
    have :¬ (i:Int)<x.l.rs.length:=by simpa using hb
    omega
   clear hb
   subst be
   repeat refine sq ?_
   refine bp ?_
   simp only[go_sem]
   refine kp [4,7] [[4,0],[7,0]] ?_
   repeat refine sq ?_
   refine rx hΓ [4] [[4,0]] (fun K' hK=>by simp only[go_sem];exact ak) ?_
   refine au ?_
   simp only[go_sem]
   simp only[e,hB]
end
noncomputable section
theorem Rj(l:List Rg):∀ y∈l.map encRg,y.cells.length=2/\y.okc=true:=fun y hy=>by
 obtain⟨a,-,rfl⟩:=List.mem_map.1 hy
 exact⟨rfl,rfl⟩
theorem Sz(x:RV)(f:Fol)(day:Int):fi x f day= -1\/∃ j,j<x.l.rs.length/\fi x f day=(j:Int):=HV x f day _
theorem Gb(x:RV)(i:Nat)(f:Int):eo x i f= -1\/∃ j,j<x.ts.length/\eo x i f=(j:Int):=by
 unfold eo
 by_cases h:(List.range x.ts.length).any (jn x (aw x.l i).so f)=true
 ·rw[if_pos h]
  have ab:(List.range x.ts.length).findIdx (jn x (aw x.l i).so f)<(List.range x.ts.length).length:=List.findIdx_lt_length_of_exists (by obtain⟨y,hy,hp⟩:=List.any_eq_true.1 h;exact⟨y,hy,hp⟩)
  exact .inr ⟨_,by simpa using ab,rfl⟩
 ·rw[if_neg h];exact .inl rfl
def el(d:List Rg)(i:Nat):Rg:=d.getD i default
def fR(x:RV)(d:List Rg)(s:Sig):List Rg×Bool:=
 if fi x ⟨s.pa,s.le⟩ s.da<0 then(d,s.pe==0)else
 if eo x (fi x ⟨s.pa,s.le⟩ s.da).toNat s.le<0 then(d,s.pe==(aw x.l (fi x ⟨s.pa,s.le⟩ s.da).toNat).bo)else
 if s.pe==(aw x.l (fi x ⟨s.pa,s.le⟩ s.da).toNat).bo then
   (d.set (eo x (fi x ⟨s.pa,s.le⟩ s.da).toNat s.le).toNat ⟨cg (el d (eo x (fi x ⟨s.pa,s.le⟩ s.da).toNat s.le).toNat).lo (s.da+1),(el d (eo x (fi x ⟨s.pa,s.le⟩ s.da).toNat s.le).toNat).hi⟩,
     decide (cg (el d (eo x (fi x ⟨s.pa,s.le⟩ s.da).toNat s.le).toNat).lo (s.da+1)<=(el d (eo x (fi x ⟨s.pa,s.le⟩ s.da).toNat s.le).toNat).hi))
 else if s.pe==0 then
  (d.set (eo x (fi x ⟨s.pa,s.le⟩ s.da).toNat s.le).toNat ⟨(el d (eo x (fi x ⟨s.pa,s.le⟩ s.da).toNat s.le).toNat).lo,dD (el d (eo x (fi x ⟨s.pa,s.le⟩ s.da).toNat s.le).toNat).hi s.da⟩,
    decide ((el d (eo x (fi x ⟨s.pa,s.le⟩ s.da).toNat s.le).toNat).lo<=dD (el d (eo x (fi x ⟨s.pa,s.le⟩ s.da).toNat s.le).toNat).hi s.da))
 else(d,false)
theorem Hr{x:RV}{d:List Rg}{s:Sig}(h:fi x ⟨s.pa,s.le⟩ s.da= -1):fR x d s=(d,s.pe==0):=by unfold fR;rw[h];rfl
theorem Hq{x:RV}{d:List Rg}{s:Sig}{q:Nat}(h:fi x ⟨s.pa,s.le⟩ s.da=q)(hr:eo x q s.le= -1):fR x d s=(d,s.pe==(aw x.l q).bo):=by
 unfold fR;rw[h,if_neg (by omega),ah,hr];rfl
theorem Ht{x:RV}{d:List Rg}{s:Sig}{q j:Nat}(h:fi x ⟨s.pa,s.le⟩ s.da=q)(hr:eo x q s.le=j)(hm:(s.pe==(aw x.l q).bo)=true):
 fR x d s=(d.set j ⟨cg (el d j).lo (s.da+1),(el d j).hi⟩,decide (cg (el d j).lo (s.da+1)<=(el d j).hi)):=by
 unfold fR;rw[h,if_neg (by omega),ah,hr,if_neg (by omega),if_pos hm];rfl
theorem Hu{x:RV}{d:List Rg}{s:Sig}{q j:Nat}(h:fi x ⟨s.pa,s.le⟩ s.da=q)(hr:eo x q s.le=j)(hm:(s.pe==(aw x.l q).bo)=false)(h0:(s.pe==0)=true):
 fR x d s=(d.set j ⟨(el d j).lo,dD (el d j).hi s.da⟩,decide ((el d j).lo<=dD (el d j).hi s.da)):=by
 unfold fR;rw[h,if_neg (by omega),ah,hr,if_neg (by omega),if_neg (by rw[hm];decide),if_pos h0];rfl
theorem Hs{x:RV}{d:List Rg}{s:Sig}{q j:Nat}(h:fi x ⟨s.pa,s.le⟩ s.da=q)(hr:eo x q s.le=j)(hm:(s.pe==(aw x.l q).bo)=false)(h0:(s.pe==0)=false):fR x d s=(d,false):=by
 unfold fR;rw[h,if_neg (by omega),ah,hr,if_neg (by omega),if_neg (by rw[hm];decide),if_neg (by rw[h0];decide)]
theorem js(a b:Int):cg a b=if b>a then b else a:=rfl
theorem jo{d:List Rg}{j:Nat}(h:j<d.length):el d j=d[j]:=by unfold el;rw[List.getD_eq_getElem?_getD,List.getElem?_eq_getElem h];rfl
theorem FD(d:List Rg)(j:Nat)(a b:Int):(d.map encRg).set j (.agg [.int .i64 a,.int .i64 b])=(d.set j ⟨a,b⟩).map encRg:=by rw[List.map_set];rfl
theorem Lh{d:List Rg}{j:Nat}{r:Rg}(h:j<d.length):((d.set j r).map encRg).getD j default=encRg r:=by
 rw[ae (by rw[List.length_set];exact h),List.getElem_set_self]
def K44:List (Nat×Spec):=[(159,Ew),(103,wP)]
theorem aau:KS K44:=tc Qa.sound<|tc F2.sound<|tn
attribute [go_sem] K44
@[go_sem] def P196:PSpec:=p3 eO (eW vE) iS (fun x d so=>(pf x/\d.length=x.ts.length)/\pz so) (fun x d so=>.tup [.sl ((fR x d so).1.map encRg),.bool (fR x d so).2]) false
@[go_sem] def Zw:Spec:=P196.toSpec
set_option maxHeartbeats 8000000 in
theorem PU:aN Tryz.prog 196 P196:=by
 refine gO (rs:=[.tmp 6,.tmp 7]) Tryz.func196 Tryz.ntmps196 fun x d so hp hw=>?_
 have hP:=dL
 simp only[eO,vE,iS,eW,encS]at hw |-
 have hΓ:=aau
 obtain⟨⟨⟨aa,gT,-⟩,rT⟩,vN⟩:=hp
 have fm:=aa.rsn
 have oB:=aa.tsn
 have CO:d.length<=maxLen:=by unfold maxLen;omega
 have ad6:d.length<=60:=by omega
 have ix:=uL vN
 repeat refine sq ?_
 refine rx hΓ [1,3,5] [[3,0],[5,0]] (fun K' hK=>by simp only[go_sem];exact ak) ?_
 repeat refine sq ?_
 refine rx hΓ [3,5,8] [[3,0],[5,0],[14,0]] (fun K' hK=>by simp only[go_sem,CO,List.length_map];(repeat (refine⟨by first | exact ao | exact⟨Rj _,rfl,by omega⟩,?_⟩));exact ct) ?_
 rcases Sz x ⟨so.pa,so.le⟩ so.da with e7 | ⟨q,hq,e7⟩
 ·repeat refine sq ?_
  refine rx hΓ [3,5,8,9] [[3,0],[5,0],[14,0]] (fun K' hK=>by simp only[go_sem,e7];exact ak) ?_
  repeat refine sq ?_
  refine rx hΓ [3,5,8,9,25] [[3,0],[5,0],[14,0]] (fun K' hK=>by simp only[go_sem,e7];exact ak) ?_
  repeat refine sq ?_
  refine av (fun hb=>?_) fun hb=>?_
  ·repeat refine sq ?_
   have e:=Hr (d:=d) e7
   repeat refine sq ?_
   refine dx hΓ hP [[],[],[1],[1,2],[0],u5] [6,7] [[14,0]] (by kernel_rfl) (fun K' hK=>by simp only[go_sem,e7];exact eT) ?_
   refine au ?_
   simp only[go_sem]
   first | (rw[e];done) | (rw[e];simp only[jo fE,js,iX];done) | (rw[e];simp only[jo fE,js,iX];exact⟨rfl,List.length_set⟩) | (rw[e];simp[jo fE,js,iX];trace_state;done)
  ·cases hb
 ·have cp:(q:Int)<x.l.rs.length:=by omega
  have Dn:=dj hq
  repeat refine sq ?_
  refine rx hΓ [3,5,8,9] [[3,0],[5,0],[14,0]] (fun K' hK=>by simp only[go_sem,e7];exact ak) ?_
  repeat refine sq ?_
  refine rx hΓ [3,5,8,9,25] [[3,0],[5,0],[14,0]] (fun K' hK=>by simp only[go_sem,e7];exact ak) ?_
  repeat refine sq ?_
  refine av (fun hb=>?_) fun hb=>?_
  ·cases hb
  ·repeat refine sq ?_
   refine ax ?_
   rcases Gb x q so.le with dw | ⟨j,hj,dw⟩
   ·repeat refine sq ?_
    refine rx hΓ [3,5,8,9,10] [[3,0],[5,0],[14,0]] (fun K' hK=>by simp only[go_sem,e7,dw,ah];(repeat (refine⟨by first | exact ao | exact⟨⟨aa,gT⟩,ai _,cp⟩,?_⟩));exact ct) ?_
    repeat refine sq ?_
    refine dx hΓ hP [[],[0],[],[2],[2,3],[],[2,3,4,5],[2,3,4,5,6],[2,3,4,5,6,7],u9,bO] [5,8,10,11] [[5,0],[14,0]] (by kernel_rfl) (fun K' hK=>by simp only[go_sem,e7,dw,ae hq,cp,ah,ai,List.length_map];exact eT) ?_
    repeat refine sq ?_
    refine rx hΓ [5,8,10,11,46] [[5,0],[14,0]] (fun K' hK=>by simp only[go_sem,e7,dw];exact ak) ?_
    repeat refine sq ?_
    refine av (fun hb=>?_) fun hb=>?_
    ·repeat refine sq ?_
     have e:=Hq (d:=d) e7 dw
     rw[Dn]at e
     repeat refine sq ?_
     refine rx hΓ [6,7] [[14,0]] (fun K' hK=>by simp only[go_sem,e7,dw];exact ak) ?_
     refine au ?_
     simp only[go_sem]
     first | (rw[e];done) | (rw[e];simp only[jo fE,js,iX];done) | (rw[e];simp only[jo fE,js,iX];exact⟨rfl,List.length_set⟩) | (rw[e];simp[jo fE,js,iX];trace_state;done)
    ·cases hb
   ·have fE:j<d.length:=by omega
    have yn:(j:Int)<d.length:=by omega
    repeat refine sq ?_
    refine rx hΓ [3,5,8,9,10] [[3,0],[5,0],[14,0]] (fun K' hK=>by simp only[go_sem,e7,dw,ah];(repeat (refine⟨by first | exact ao | exact⟨⟨aa,gT⟩,ai _,cp⟩,?_⟩));exact ct) ?_
    repeat refine sq ?_
    refine dx hΓ hP [[],[0],[],[2],[2,3],[],[2,3,4,5],[2,3,4,5,6],[2,3,4,5,6,7],u9,bO] [5,8,10,11] [[5,0],[14,0]] (by kernel_rfl) (fun K' hK=>by simp only[go_sem,e7,dw,ae hq,cp,ah,ai,List.length_map];exact eT) ?_
    repeat refine sq ?_
    refine rx hΓ [5,8,10,11,46] [[5,0],[14,0]] (fun K' hK=>by simp only[go_sem,e7,dw];exact ak) ?_
    repeat refine sq ?_
    refine av (fun hb=>?_) fun hb=>?_
    ·cases hb
    ·repeat refine sq ?_
     refine ax ?_
     repeat refine sq ?_
     refine rx hΓ [5,8,10,49] [[5,0],[14,0]] (fun K' hK=>by simp only[go_sem,e7,dw];exact ak) ?_
     repeat refine sq ?_
     refine av (fun hb=>?_) fun hb=>?_
     ·repeat refine sq ?_
      have e:=Ht (d:=d) e7 dw (by rw[Dn];simpa using hb)
      repeat refine sq ?_
      refine dx hΓ hP [[],[],[],[],[2,3],[2,3,4],[2,3,4,5],[],[7],[7,8],[2,3,4,5,6,7,8,9],cK,eU,gP] [8,10] [[14,0]] (by kernel_rfl) (fun K' hK=>by simp only[go_sem,e7,dw,ix,vInt,FD,ae fE,yn,ah,ai,List.length_map];exact eT) ?_
      repeat refine sq ?_
      refine dx hΓ hP [[],[],[],[1,2],[1,2,3],[1,2,3,4],[],[],[6,7],[6,7,8],[6,7,8,9],[1,2,3,4,5,6,7,8,9,10],[0],gP] [6,7] [[14,0]] (by kernel_rfl) (fun K' hK=>by simp only[go_sem,e7,dw,Lh fE,yn,ah,ai,List.length_map,List.length_set];exact eT) ?_
      refine au ?_
      simp only[go_sem]
      first | (rw[e];done) | (rw[e];simp only[jo fE,js,iX];done) | (rw[e];simp only[jo fE,js,iX];exact⟨rfl,List.length_set⟩) | (rw[e];simp[jo fE,js,iX];trace_state;done)
     ·repeat refine sq ?_
      have hm:(so.pe==(aw x.l q).bo)=false:=by rw[Dn];simpa using hb
      repeat refine sq ?_
      refine rx hΓ [5,8,10,65] [[5,0],[14,0]] (fun K' hK=>by simp only[go_sem,e7,dw];exact ak) ?_
      repeat refine sq ?_
      refine av (fun hb=>?_) fun hb=>?_
      ·repeat refine sq ?_
       have e:=Hu (d:=d) e7 dw hm (by simpa using hb)
       repeat refine sq ?_
       refine dx hΓ hP [[],[],[],[],[2,3],[2,3,4],[2,3,4,5],[],[7],[2,3,4,5,6,7,8],bO,cK,eU] [8,10] [[14,0]] (by kernel_rfl) (fun K' hK=>by simp only[go_sem,e7,dw,vInt,FD,ae fE,yn,ah,ai,List.length_map];exact eT) ?_
       repeat refine sq ?_
       refine dx hΓ hP [[],[],[],[1,2],[1,2,3],[1,2,3,4],[],[],[6,7],[6,7,8],[6,7,8,9],[1,2,3,4,5,6,7,8,9,10],[0],gP] [6,7] [[14,0]] (by kernel_rfl) (fun K' hK=>by simp only[go_sem,e7,dw,Lh fE,yn,ah,ai,List.length_map,List.length_set];exact eT) ?_
       refine au ?_
       simp only[go_sem]
       first | (rw[e];done) | (rw[e];simp only[jo fE,js,iX];done) | (rw[e];simp only[jo fE,js,iX];exact⟨rfl,List.length_set⟩) | (rw[e];simp[jo fE,js,iX];trace_state;done)
      ·repeat refine sq ?_
       have e:=Hs (d:=d) e7 dw hm (by simpa using hb)
       repeat refine sq ?_
       refine rx hΓ [6,7] [[14,0]] (fun K' hK=>by simp only[go_sem,e7,dw];exact ak) ?_
       refine au ?_
       simp only[go_sem]
       first | (rw[e];done) | (rw[e];simp only[jo fE,js,iX];done) | (rw[e];simp only[jo fE,js,iX];exact⟨rfl,List.length_set⟩) | (rw[e];simp[jo fE,js,iX];trace_state;done)
end
noncomputable section
def k9(x:RV)(s:Nat):List Rg:=(List.range s).map (mR x)
theorem Ym(x:RV)(s:Nat):k9 x (s+1)=k9 x s++[mR x s]:=by unfold k9;rw[List.range_succ,List.map_append];rfl
theorem DY(x:RV)(s:Nat):(k9 x s).length=s:=by simp[k9]
def fb(x:RV)(is:List Int):Nat->List Rg×Bool
 | 0=>(k9 x x.l.ts.length,true)
 |s+1=>((fR x (fb x is s).1 (cU x.l (is.getD s 0).toNat)).1,(fb x is s).2&&(fR x (fb x is s).1 (cU x.l (is.getD s 0).toNat)).2)
theorem Rw(x:RV)(d:List Rg)(s:Sig):(fR x d s).1.length=d.length:=by
 unfold fR
 split
 ·rfl
 ·split
  ·rfl
  ·split
   ·simp
   ·split
    ·simp
    ·rfl
theorem Xa(x:RV)(is:List Int)(s:Nat):(fb x is s).1.length=x.l.ts.length:=by
 induction s with
 |zero=>exact DY _ _
 |succ s ih=>unfold fb;rw[Rw,ih]
theorem Rk{l:Led}(h:bx l){i:Nat}(hi:i<l.ss.length):pz l.ss[i]:=by
 have :=nL h.ss hi
 unfold iU at this
 simp only[Bool.and_eq_true]at this
 have hd:=this.1.2
 unfold dayB cj at hd
 simp at hd
 exact hd
def K45:List (Nat×Spec):=[(195,Zx),(196,Zw)]
theorem aat:KS K45:=tc PV.sound<|tc PU.sound<|tn
attribute [go_sem] K45
@[go_sem] def P183:PSpec:=p2 eO cH (fun x is=>pf x/\is.length<=60/\∀ a∈is,0<=a/\a<x.l.ss.length) (fun x is=>.tup [.sl ((fb x is is.length).1.map encRg),.bool (fb x is is.length).2]) false
@[go_sem] def Nq:Spec:=P183.toSpec
set_option maxHeartbeats 8000000 in
theorem FO:aN Tryz.prog 183 P183:=by
 refine cX (rs:=[.tmp 4,.tmp 5]) Tryz.func183 Tryz.ntmps183 fun x az hp hw=>?_
 have hP:=dL
 simp only[cH,eO]at hw |-
 have hΓ:=aat
 obtain⟨hv,lD,vV⟩:=hp
 have aa:=hv.1
 have fm:=aa.rsn
 have oB:=aa.tsn
 have gT:=hv.2.1
 have hl:x.l.ts.length<=maxLen:=by unfold maxLen;omega
 have Cq:az.length<=maxLen:=by unfold maxLen;omega
 repeat refine sq ?_
 refine rx hΓ [1,2] [[2,0]] (fun K' hK=>by simp only[go_sem];exact ak) ?_
 repeat refine sq ?_
 refine rx hΓ [1,2,6] [[2,0],[25,0]] (fun K' hK=>by simp only[go_sem];exact ak) ?_
 refine dp (pk 6 [25,0] 2 (by simp only[go_sem]) (by simp only[go_sem]) [1,2,6] [[2,0],[25,0]] ?_ rfl) ?_
 ·simp only[go_sem]
 simp only[go_sem]
 repeat refine sq ?_
 refine rx hΓ [1,2,6,7] [[2,0],[25,0]] (fun K' hK=>by simp only[go_sem];exact ak) ?_
 repeat refine sq ?_
 refine aH ?_
 repeat refine sq ?_
 refine bB (fun s:Nat=>[(7,⟨true,.v (vInt s)⟩),(6,⟨true,.msl [25,0] (k9 x s).length⟩)]) (fun s=>[([25,0],.arr 2 ((k9 x s).map encRg))]) (fun s=>s<=x.l.ts.length) (fun s=>x.l.ts.length-s) 0 ?_ ?_ ?_ ?_
 ·exact Nat.zero_le _
 ·rfl
 ·rfl
 rintro i hi
 simp only[go_sem]
 repeat refine sq ?_
 refine rx hΓ [1,2,6,7,17] [[2,0],[25,0]] (fun K' hK=>by simp only[go_sem];exact ak) ?_
 repeat refine sq ?_
 refine av (fun hb=>?_) fun hb=>?_
 ·have ab:i<x.l.ts.length:=by simpa using hb
  have an:(i:Int)<x.l.ts.length:=by omega
  clear hb
  have hbl:=DY x i
  repeat refine sq ?_
  refine ax ?_
  repeat refine sq ?_
  refine aH ?_
  repeat refine sq ?_
  refine aM hΓ fun K' hK=>?_
  simp only[go_sem,ae ab,ah,ai,an]
  repeat (refine⟨by first | exact ao | exact⟨hv,ai _,an⟩,?_⟩)
  refine hK _ ?_
  clear K' hK
  simp only[go_sem]
  refine kp [1,2,6,7] [[2,0],[25,0]] ?_
  repeat refine sq ?_
  refine aM hΓ fun K' hK=>?_
  simp only[go_sem,ae ab,ah,ai,an]
  repeat (refine⟨ao,?_⟩)
  refine hK _ ?_
  clear K' hK
  simp only[go_sem]
  refine⟨i+1,ab,by(show x.l.ts.length-(i+1)<x.l.ts.length-i;omega),?_⟩
  refine aY [1,2,6,7] [[2,0],[25,0]] ?_ ?_<;>simp only[go_sem,aT ab hl,aU,Ym,List.map_append,List.length_append,List.map_cons,List.map_nil,List.length_cons,List.length_nil]
 ·have be:i=x.l.ts.length:=by
   have :¬ (i:Int)<x.l.ts.length:=by simpa using hb
   omega
  clear hb
  subst be
  repeat refine sq ?_
  refine bp ?_
  simp only[go_sem]
  refine kp [1,2,6] [[2,0],[25,0]] ?_
  repeat refine sq ?_
  refine rx hΓ [1,2,6,8] [[2,0],[25,0]] (fun K' hK=>by simp only[go_sem];exact ak) ?_
  refine dp (gy 6 (.msl [25,0] (k9 x x.l.ts.length).length) (by simp only[go_sem]) (by simp only[go_sem]) [1,2,6,8] [[2,0]] ?_ rfl) ?_
  ·simp only[go_sem]
  simp only[go_sem]
  repeat refine sq ?_
  refine rx hΓ [1,2,6,8,9] [[2,0]] (fun K' hK=>by simp only[go_sem];exact ak) ?_
  repeat refine sq ?_
  refine aH ?_
  repeat refine sq ?_
  refine bB (fun s:Nat=>[(9,⟨true,.v (vInt s)⟩),(6,⟨true,.v (.sl ((fb x az s).1.map encRg))⟩),(8,⟨true,.v (.bool (fb x az s).2)⟩)]) (fun s=>[]) (fun s=>s<=az.length) (fun s=>az.length-s) 0 ?_ ?_ ?_ ?_
  ·exact Nat.zero_le _
  ·rfl
  ·rfl
  rintro i1 hi
  simp only[go_sem]
  repeat refine sq ?_
  refine rx hΓ [1,2,6,8,9,29] [[2,0]] (fun K' hK=>by simp only[go_sem];exact ak) ?_
  repeat refine sq ?_
  refine av (fun hb=>?_) fun hb=>?_
  ·have ay:i1<az.length:=by simpa using hb
   have aQ:(i1:Int)<az.length:=by omega
   clear hb
   obtain⟨pZ,pY⟩:=vV az[i1] (List.getElem_mem ay)
   obtain⟨m,hm⟩:∃ m:Nat,az[i1]=m:=⟨az[i1].toNat,by omega⟩
   have oE:m<x.l.ss.length:=by omega
   have U2:(m:Int)<x.l.ss.length:=by omega
   have rT:=(Xa x az i1).trans gT.symm
   have eD:fb x az (i1+1)=((fR x (fb x az i1).1 x.l.ss[m]).1,(fb x az i1).2&&(fR x (fb x az i1).1 x.l.ss[m]).2):=by
    have ez:az.getD i1 0=(m:Int):=by rw[List.getD_eq_getElem?_getD,List.getElem?_eq_getElem ay];exact hm
    rw[fb,ez,ah,nV oE]
   repeat refine sq ?_
   refine ax ?_
   repeat refine sq ?_
   refine aH ?_
   repeat refine sq ?_
   refine dx hΓ hP [[],[],[],[2],[2,3],[],[],[5,6],[5,6,7],[2,3,4,5,6,7,8],[2,3,4,5,6,7,8,9],cK,eU,gP,gP,jP,u16] [1,2,8,9,10,11] [[2,0]] (by kernel_rfl) (fun K' hK=>by simp only[go_sem,ae ay,ah,ai,aQ,hm,ae oE,U2];(repeat (refine⟨by first | exact ao | exact⟨⟨hv,rT⟩,Rk aa oE⟩,?_⟩));exact e8) ?_
   repeat refine sq ?_
   refine rx hΓ [1,2,6,8,9,11] [[2,0]] (fun K' hK=>by simp only[go_sem,ae ay,ah,ai,aQ];exact ak) ?_
   repeat refine sq ?_
   refine aM hΓ fun K' hK=>?_
   simp only[go_sem,ae ay,ah,ai,aQ]
   repeat (refine⟨ao,?_⟩)
   refine hK _ ?_
   clear K' hK
   simp only[go_sem]
   refine kp [1,2,6,8,9] [[2,0]] ?_
   repeat refine sq ?_
   refine aM hΓ fun K' hK=>?_
   simp only[go_sem,ae ay,ah,ai,aQ]
   repeat (refine⟨ao,?_⟩)
   refine hK _ ?_
   clear K' hK
   simp only[go_sem]
   refine⟨i1+1,ay,by(show az.length-(i1+1)<az.length-i1;omega),?_⟩
   refine aY [1,2,6,8,9] [[2,0]] ?_ ?_<;>simp only[go_sem,aT ay Cq,aU,eD]
  ·have er:i1=az.length:=by
    have :¬ (i1:Int)<az.length:=by simpa using hb
    omega
   clear hb
   subst er
   repeat refine sq ?_
   refine bp ?_
   simp only[go_sem]
   refine kp [6,8] [] ?_
   repeat refine sq ?_
   refine rx hΓ [4,5] [] (fun K' hK=>by simp only[go_sem];exact ak) ?_
   refine au ?_
   simp only[go_sem]
   skip
end
noncomputable section
def aI(l:Led)(k:Int):RV:=⟨l,k,bw l k l.ts.length,[]⟩
def K46:List (Nat×Spec):=[(71,Er)]
theorem aas:KS K46:=tc FM.sound<|tn
attribute [go_sem] K46
@[go_sem] def P73:PSpec:=p2 iL iI (fun l _=>bx l) (fun l k=>sd (aI l k)) false
@[go_sem] def zN:Spec:=P73.toSpec
set_option maxHeartbeats 8000000 in
theorem As:aN Tryz.prog 73 P73:=by
 refine cX (rs:=[.cell 4 108]) Tryz.func73 Tryz.ntmps73 fun l k hp hw=>?_
 have hP:=dL
 simp only[iI,iL,dA]at hw |-
 have hΓ:=aas
 repeat refine sq ?_
 refine rx hΓ [1,2,4] [[2,0],[4,0],[10,0]] (fun K' hK=>by simp only[go_sem];exact ak) ?_
 repeat refine sq ?_
 refine dx hΓ hP [[],[],[],[],[2,3],u5,u6] [4] [[4,0],[10,0]] (by kernel_rfl) (fun K' hK=>by simp only[go_sem];exact eT) ?_
 refine dp (z5 [4,0] [10,0] 6 2 _ rfl rfl rfl [4] [[4,0],[10,0]] ?_ rfl) ?_
 ·simp only[go_sem,List.set_cons_succ,List.set_cons_zero]
 simp only[go_sem,List.set_cons_succ,List.set_cons_zero]
 refine dp (z6 [4,0] [10,0] 6 _ _ _ _ rfl rfl rfl (by first | rfl | (simp only[List.length_map];done)) [4] [[4,0]] ?_ rfl) ?_
 ·simp only[go_sem,List.set_cons_succ,List.set_cons_zero]
 simp only[go_sem,List.set_cons_succ,List.set_cons_zero]
 refine au ?_
 simp only[go_sem]
 first | rfl | trace_state
end
noncomputable section
def jK(x:RV)(a b:Nat)(f:Int):Bool:=(cV x.k ⟨(aw x.l a).pa,f⟩ (aw x.l a)&&cV x.k ⟨(aw x.l a).pa,f⟩ (aw x.l b))&&
 (((aw x.l a).da==(aw x.l b).da||decide (eo x a f<0))||decide (kq (aK x.l (eo x a f).toNat) (aw x.l a)>(aw x.l b).da))
def eI(x:RV)(a b:Nat):Bool:=(aw x.l a).lv.any (jK x a b)
def et(x:RV)(a b:Nat):Bool:=if (aw x.l a).da>(aw x.l b).da then eI x b a else eI x a b
theorem Ej{α:Type}{p:α->Bool}{l:List α}(h:∀ j (hj:j<l.length),j<l.length->p l[j]=false):l.any p=false:=by
 rw[List.any_eq_false]
 intro y hy
 obtain⟨j,hj,rfl⟩:=List.getElem_of_mem hy
 rw[h j hj hj];decide
theorem Rl{l:Led}(h:bx l){i:Nat}(hi:i<l.rs.length):l.rs[i].lv.length<=30:=(mj.1 (Gu (nL h.rs hi))).2.1
def K47:List (Nat×Spec):=[(188,Ev),(103,wP),(158,Ey)]
theorem aar:KS K47:=tc Av.sound<|tc F2.sound<|tc Aw.sound<|tn
attribute [go_sem] K47
def P137d:PSpec:=p3 eO iI iI (fun x a b=>pf x/\(0<=a/\a<x.l.rs.length/\0<=b/\b<x.l.rs.length)/\¬ (aw x.l a.toNat).da>(aw x.l b.toNat).da) (fun x a b=>.bool (eI x a.toNat b.toNat)) true
set_option maxHeartbeats 8000000 in
theorem FV:aN Tryz.prog 137 P137d:=by
 refine gO (rs:=[.tmp 6]) Tryz.func137 Tryz.ntmps137 fun x a b hp hw=>?_
 have hP:=dL
 simp only[eO,iI,sd]at hw |-
 have hΓ:=aar
 obtain⟨hv,⟨yD,jG,VZ,jE⟩,hle⟩:=hp
 have aa:=hv.1
 have gT:=hv.2.1
 obtain⟨n,rfl⟩:∃ n:Nat,a=n:=⟨a.toNat,by omega⟩
 obtain⟨m,rfl⟩:∃ m:Nat,b=m:=⟨b.toNat,by omega⟩
 have hn:n<x.l.rs.length:=by omega
 have hm:m<x.l.rs.length:=by omega
 have ko:=dj hn
 have oW:=dj hm
 simp only[ah,ko,oW]at hle |-
 have Cs:decide (x.l.rs[n].da>x.l.rs[m].da)=false:=decide_eq_false hle
 have tJ:=Rl aa hn
 have rr:x.l.rs[n].lv.length<=maxLen:=by unfold maxLen;omega
 repeat refine sq ?_
 refine rx hΓ [1,2,3] [[3,0]] (fun K' hK=>by simp only[go_sem];exact ak) ?_
 repeat refine sq ?_
 refine rx hΓ [1,2,3,7] [[3,0],[7,0]] (fun K' hK=>by simp only[go_sem,ae hn,ah,ai,jG,List.length_map];exact ak) ?_
 repeat refine sq ?_
 refine rx hΓ [1,2,3,7,8] [[3,0],[7,0],[8,0]] (fun K' hK=>by simp only[go_sem,ae hm,ah,ai,jE,List.length_map];exact ak) ?_
 repeat refine sq ?_
 refine rx hΓ [1,2,3,7,8,28] [[3,0],[7,0],[8,0]] (fun K' hK=>by simp only[go_sem,Cs];exact ak) ?_
 repeat refine sq ?_
 refine av (fun hb=>?_) fun hb=>?_
 ·cases hb
 ·repeat refine sq ?_
  refine ax ?_
  repeat refine sq ?_
  refine rx hΓ [1,2,3,7,8,9] [[3,0],[7,0],[8,0]] (fun K' hK=>by simp only[go_sem];exact ak) ?_
  repeat refine sq ?_
  refine aH ?_
  repeat refine sq ?_
  refine bB (fun s:Nat=>[(9,⟨true,.v (vInt s)⟩)]) (fun s=>[]) (fun s=>s<=x.l.rs[n].lv.length/\∀ j (hj:j<x.l.rs[n].lv.length),j<s->jK x n m x.l.rs[n].lv[j]=false) (fun s=>x.l.rs[n].lv.length-s) 0 ?_ ?_ ?_ ?_
  ·exact⟨Nat.zero_le _,by simp⟩
  ·rfl
  ·rfl
  rintro i ⟨hi,hR⟩
  simp only[go_sem]
  repeat refine sq ?_
  refine rx hΓ [1,2,3,7,8,9,37] [[3,0],[7,0],[8,0]] (fun K' hK=>by simp only[go_sem];exact ak) ?_
  repeat refine sq ?_
  refine av (fun hb=>?_) fun hb=>?_
  ·have ab:i<x.l.rs[n].lv.length:=by simpa using hb
   have an:(i:Int)<x.l.rs[n].lv.length:=by omega
   clear hb
   have elf:x.l.rs[n].lv.getD i 0=x.l.rs[n].lv[i]:=by rw[List.getD_eq_getElem?_getD,List.getElem?_eq_getElem ab];rfl
   repeat refine sq ?_
   refine ax ?_
   repeat refine sq ?_
   refine aH ?_
   repeat refine sq ?_
   refine dx hΓ hP [[],[0],[],[2],[],[2,3,4],[2,3,4,5],u7,[],u9] [1,2,3,7,8,9,10] [[3,0],[7,0],[8,0],[10,0]] (by kernel_rfl) (fun K' hK=>by simp only[go_sem,ae ab,ah,ai,an];exact eT) ?_
   repeat refine sq ?_
   refine rx hΓ [1,2,3,7,8,9,10,59] [[3,0],[7,0],[8,0],[10,0]] (fun K' hK=>by simp only[go_sem,ae ab,ah,ai,an,ah,ko,oW];(repeat (refine⟨by first | exact ao | exact⟨ai _,jG⟩ | exact fun h=>⟨h,ai _,jE⟩,?_⟩));exact ct) ?_
   repeat refine sq ?_
   refine av (fun hb=>?_) fun hb=>?_
   ·repeat refine sq ?_
    have eF:jK x n m x.l.rs[n].lv[i]=false:=by
     unfold jK;rw[ko,oW]
     cases h1:cV x.k ⟨x.l.rs[n].pa,x.l.rs[n].lv[i]⟩ x.l.rs[n]<;>cases h2:cV x.k ⟨x.l.rs[n].pa,x.l.rs[n].lv[i]⟩ x.l.rs[m]<;>rw[h1,h2]at hb<;>first | rfl | (simp at hb;done)
    refine bp ?_
    simp only[go_sem]
    refine kp [1,2,3,7,8,9] [[3,0],[7,0],[8,0]] ?_
    repeat refine sq ?_
    refine aM hΓ fun K' hK=>?_
    simp only[go_sem,ae ab,ah,ai,an]
    repeat (refine⟨ao,?_⟩)
    refine hK _ ?_
    clear K' hK
    simp only[go_sem]
    refine⟨i+1,⟨ab,?_⟩,by(show x.l.rs[n].lv.length-(i+1)<x.l.rs[n].lv.length-i;omega),?_⟩
    ·intro j hj c6
     rcases Nat.lt_succ_iff_lt_or_eq.1 c6 with h5 | rfl
     ·exact hR j hj h5
     ·exact eF
    refine aY [1,2,3,7,8,9] [[3,0],[7,0],[8,0]] ?_ ?_<;>simp only[go_sem,aT ab rr,aU]
   ·repeat refine sq ?_
    have h1:cV x.k ⟨x.l.rs[n].pa,x.l.rs[n].lv[i]⟩ x.l.rs[n]=true:=by
     cases h:cV x.k ⟨x.l.rs[n].pa,x.l.rs[n].lv[i]⟩ x.l.rs[n]with | true=>rfl | false=>rw[h]at hb;simp at hb
    have h2:cV x.k ⟨x.l.rs[n].pa,x.l.rs[n].lv[i]⟩ x.l.rs[m]=true:=by
     cases h:cV x.k ⟨x.l.rs[n].pa,x.l.rs[n].lv[i]⟩ x.l.rs[m]with | true=>rfl | false=>rw[h,h1]at hb;simp at hb
    clear hb
    refine ax ?_
    repeat refine sq ?_
    refine rx hΓ [1,2,3,7,8,9,11] [[3,0],[7,0],[8,0]] (fun K' hK=>by simp only[go_sem,ae ab,ah,ai,an,ah];(repeat (refine⟨by first | exact ao | exact⟨⟨aa,gT⟩,ai _,jG⟩,?_⟩));exact ct) ?_
    rcases Gb x n x.l.rs[n].lv[i]with dw | ⟨j,hj,dw⟩
    ·repeat refine sq ?_
     refine dx hΓ hP [[],[0],[],[2],u4,u5,u6,u7,u8,u9,bO,cK,eU,bO,jP,l4,bO,jk,bO,[0,1,2,3,4,5,6,7,8,9,18],gz,nU] [1,2,3,7,8,9,86] [[3,0],[7,0],[8,0]] (by kernel_rfl) (fun K' hK=>by simp only[go_sem,ae ab,ah,ai,an,dw,fw];(repeat (refine⟨by first | exact ao | exact fun h=>⟨h,qW aa (List.getElem_mem hn)⟩,?_⟩));exact e8) ?_
     repeat refine sq ?_
     refine av (fun hb=>?_) fun hb=>?_
     ·repeat refine sq ?_
      have eF:jK x n m x.l.rs[n].lv[i]=true:=by unfold jK;rw[ko,oW,h1,h2,dw];simp
      have e:eI x n m=true:=by unfold eI;rw[ko];exact List.any_eq_true.2 ⟨_,List.getElem_mem ab,eF⟩
      repeat refine sq ?_
      refine rx hΓ [6] [] (fun K' hK=>by simp only[go_sem,ae ab,ah,ai,an,dw,fw];exact ak) ?_
      refine au ?_
      simp only[go_sem]
      first | (rw[e];done) | (rw[show eI x n m=false from by unfold eI;rw[ko];exact Ej hR])
     ·cases hb
    ·have oH:j<x.l.ts.length:=by omega
     have tQ:(j:Int)<x.l.ts.length:=by omega
     have dO:decide ((j:Int)<0)=false:=by simp
     repeat refine sq ?_
     refine dx hΓ hP [[],[0],[],[2],u4,u5,u6,u7,u8,u9,bO,cK,eU,bO,jP,l4,bO,jk,bO,[0,1,2,3,4,5,6,7,8,9,18],gz,nU] [1,2,3,7,8,9,86] [[3,0],[7,0],[8,0]] (by kernel_rfl) (fun K' hK=>by simp only[go_sem,ae ab,ah,ai,an,dw,dO,ae oH,tQ,ah,ai,List.length_map];(repeat (refine⟨by first | exact ao | exact fun h=>⟨h,qW aa (List.getElem_mem hn)⟩,?_⟩));exact e8) ?_
     repeat refine sq ?_
     refine av (fun hb=>?_) fun hb=>?_
     ·repeat refine sq ?_
      have eF:jK x n m x.l.rs[n].lv[i]=true:=by unfold jK;rw[ko,oW,h1,h2,dw,ah,jQ oH,dO];simpa using hb
      have e:eI x n m=true:=by unfold eI;rw[ko];exact List.any_eq_true.2 ⟨_,List.getElem_mem ab,eF⟩
      repeat refine sq ?_
      refine rx hΓ [6] [] (fun K' hK=>by simp only[go_sem,ae ab,ah,ai,an,dw,dO,ae oH,tQ,ah,ai,List.length_map];exact ak) ?_
      refine au ?_
      simp only[go_sem]
      first | (rw[e];done) | (rw[show eI x n m=false from by unfold eI;rw[ko];exact Ej hR])
     ·repeat refine sq ?_
      have eF:jK x n m x.l.rs[n].lv[i]=false:=by unfold jK;rw[ko,oW,h1,h2,dw,ah,jQ oH,dO];simpa using hb
      refine ax ?_
      refine bE ?_
      simp only[go_sem]
      refine kp [1,2,3,7,8,9] [[3,0],[7,0],[8,0]] ?_
      repeat refine sq ?_
      refine aM hΓ fun K' hK=>?_
      simp only[go_sem,ae ab,ah,ai,an,dw,dO,ae oH,tQ,ah,ai,List.length_map]
      repeat (refine⟨ao,?_⟩)
      refine hK _ ?_
      clear K' hK
      simp only[go_sem]
      refine⟨i+1,⟨ab,?_⟩,by(show x.l.rs[n].lv.length-(i+1)<x.l.rs[n].lv.length-i;omega),?_⟩
      ·intro j hj c6
       rcases Nat.lt_succ_iff_lt_or_eq.1 c6 with h5 | rfl
       ·exact hR j hj h5
       ·exact eF
      refine aY [1,2,3,7,8,9] [[3,0],[7,0],[8,0]] ?_ ?_<;>simp only[go_sem,aT ab rr,aU]
  ·have be:i=x.l.rs[n].lv.length:=by
    have :¬ (i:Int)<x.l.rs[n].lv.length:=by simpa using hb
    omega
   clear hb
   subst be
   repeat refine sq ?_
   refine bp ?_
   simp only[go_sem]
   refine kp [] [] ?_
   repeat refine sq ?_
   refine rx hΓ [6] [] (fun K' hK=>by simp only[go_sem];exact ak) ?_
   refine au ?_
   simp only[go_sem]
   first | (rw[e];done) | (rw[show eI x n m=false from by unfold eI;rw[ko];exact Ej hR])
end
noncomputable section
def Nz:Spec:=P137d.toSpec
attribute [go_sem] P137d Nz
def K48:List (Nat×Spec):=[(137,Nz)]
theorem aaq:KS K48:=tc FV.sound<|tn
attribute [go_sem] K48
def P137u:PSpec:=p3 eO iI iI (fun x a b=>pf x/\(0<=a/\a<x.l.rs.length/\0<=b/\b<x.l.rs.length)/\(aw x.l a.toNat).da>(aw x.l b.toNat).da) (fun x a b=>.bool (eI x b.toNat a.toNat)) true
set_option maxHeartbeats 8000000 in
theorem Qh:aN Tryz.prog 137 P137u:=by
 refine gO (rs:=[.tmp 6]) Tryz.func137 Tryz.ntmps137 fun x a b hp hw=>?_
 simp only[eO,iI,sd]at hw |-
 have hΓ:=aaq
 obtain⟨hv,⟨yD,jG,VZ,jE⟩,hle⟩:=hp
 obtain⟨n,rfl⟩:∃ n:Nat,a=n:=⟨a.toNat,by omega⟩
 obtain⟨m,rfl⟩:∃ m:Nat,b=m:=⟨b.toNat,by omega⟩
 have hn:n<x.l.rs.length:=by omega
 have hm:m<x.l.rs.length:=by omega
 have ko:=dj hn
 have oW:=dj hm
 simp only[ah,ko,oW]at hle |-
 have Cs:decide (x.l.rs[n].da>x.l.rs[m].da)=true:=decide_eq_true hle
 repeat refine sq ?_
 refine rx hΓ [1,2,3] [[3,0]] (fun K' hK=>by simp only[go_sem];exact ak) ?_
 repeat refine sq ?_
 refine rx hΓ [1,2,3,7] [[3,0],[7,0]] (fun K' hK=>by simp only[go_sem,ae hn,ah,ai,jG,List.length_map];exact ak) ?_
 repeat refine sq ?_
 refine rx hΓ [1,2,3,7,8] [[3,0],[7,0],[8,0]] (fun K' hK=>by simp only[go_sem,ae hm,ah,ai,jE,List.length_map];exact ak) ?_
 repeat refine sq ?_
 refine rx hΓ [1,2,3,7,8,28] [[3,0],[7,0],[8,0]] (fun K' hK=>by simp only[go_sem,Cs];exact ak) ?_
 repeat refine sq ?_
 refine av (fun hb=>?_) fun hb=>?_
 ·repeat refine sq ?_
  refine rx hΓ [6] [] (fun K' hK=>by simp only[go_sem,ah];(repeat (refine⟨by first | exact ao | exact⟨hv,⟨ai _,jE,ai _,jG⟩,by simp only[ah,ko,oW];omega⟩,?_⟩));exact ct) ?_
  refine au ?_
  simp only[go_sem]
  skip
 ·cases hb
theorem aN.or{P:Program}{f:FuncId}{s s1 s2:PSpec}(h1:aN P f s1)(h2:aN P f s2)(hs:s.flat=true->s1.flat=true/\s2.flat=true)
 (hc:∀ xs,s.pre xs->(s1.pre xs/\s1.fn xs=s.fn xs)\/(s2.pre xs/\s2.fn xs=s.fn xs)):aN P f s where
 ne:=h1.ne
 enter:=h1.enter
 flat:=fun hf xs hp=>by
  rcases hc xs hp with⟨a,e⟩ | ⟨a,e⟩
  ·rw[<-e];exact h1.flat (hs hf).1 xs a
  ·rw[<-e];exact h2.flat (hs hf).2 xs a
 calls:=fun m w xs args ha hr hp=>by
  rcases hc xs hp with⟨a,e⟩ | ⟨a,e⟩
  ·rw[<-e];exact h1.calls m w xs args ha hr a
  ·rw[<-e];exact h2.calls m w xs args ha hr a
@[go_sem] def P137:PSpec:=p3 eO iI iI (fun x a b=>pf x/\0<=a/\a<x.l.rs.length/\0<=b/\b<x.l.rs.length) (fun x a b=>.bool (et x a.toNat b.toNat)) true
@[go_sem] def NA:Spec:=P137.toSpec
theorem FW:aN Tryz.prog 137 P137:=by
 refine FV.or Qh (fun _=>⟨rfl,rfl⟩) fun xs hp=>?_
 unfold P137 p3 at hp
 dsimp only at hp
 split at hp
 ·rename_i x y z
  by_cases hle:(aw (eO.dec x).l (iI.dec y).toNat).da>(aw (eO.dec x).l (iI.dec z).toNat).da
  ·refine .inr ⟨⟨hp.1,hp.2.1,hp.2.2.1,hp.2.2.2.1,hp.2.2.2.2,hle⟩,?_⟩
   show V.bool (eI _ _ _)=V.bool (et _ _ _)
   rw[et,if_pos hle]
  ·refine .inl ⟨⟨hp.1,hp.2.1,hp.2.2.1,hp.2.2.2.1,hp.2.2.2.2,hle⟩,?_⟩
   show V.bool (eI _ _ _)=V.bool (et _ _ _)
   rw[et,if_neg hle]
 ·exact hp.elim
end
noncomputable section
def K49:List (Nat×Spec):=[(159,Ew),(103,wP)]
attribute [go_sem] K49
end
noncomputable section
def uo(x:RV)(i:Nat):Option (Int×Int):=((List.range x.l.rs.length).find? fun j=>decide (i<j)&&et x i j).map fun j=>((aw x.l i).so,(aw x.l j).so)
def dn(x:RV):Option (Int×Int):=(List.range x.l.rs.length).findSome? (uo x)
def kW(x:RV):List Int:=match dn x with
 |some p=>[p.1,p.2]
 |none=>[]
theorem L'{x:RV}{i:Nat}(h:∀ j,i<j->j<x.l.rs.length->et x i j=false):uo x i=none:=by
 unfold uo
 rw[List.find?_eq_none.2]
 ·rfl
 ·intro j hj
  have eB:j<x.l.rs.length:=by simpa using hj
  by_cases bD:i<j
  ·rw[h j bD eB];simp
  ·simp[bD]
theorem Xv{x:RV}{i j:Nat}(bD:i<j)(hj:j<x.l.rs.length)(h:et x i j=true)(hn:∀ m,i<m->m<j->et x i m=false):uo x i=some ((aw x.l i).so,(aw x.l j).so):=by
 unfold uo
 rw[(List.find?_eq_some_iff_getElem (b:=j)).2 ⟨by simp[bD,h],j,by simpa using hj,by simp,fun m hm=>by
  rw[List.getElem_range]
  by_cases vW:i<m
  ·simp[hn m vW hm]
  ·simp[vW]⟩]
 rfl
theorem L8{x:RV}{i j:Nat}(hi:i<x.l.rs.length)(bD:i<j)(hj:j<x.l.rs.length)(h:et x i j=true)(hn:∀ m,i<m->m<j->et x i m=false)
 (hb:∀ a,a<i->∀ m,a<m->m<x.l.rs.length->et x a m=false):dn x=some ((aw x.l i).so,(aw x.l j).so):=by
 unfold dn
 rw[List.findSome?_eq_some_iff]
 refine⟨List.range i,i,(List.range' (i+1) (x.l.rs.length-(i+1))),?_,Xv bD hj h hn,fun a ha=>L' fun m h1 h2=>hb a (by simpa using ha) m h1 h2⟩
 rw[List.range_eq_range',List.range_eq_range',<-List.range'_succ]
 have h1:=List.range'_append_1 (s:=0) (m:=i) (n:=x.l.rs.length-(i+1)+1)
 rw[Nat.zero_add]at h1
 rw[h1]
 congr 1
 omega
theorem DI{x:RV}(hb:∀ a,a<x.l.rs.length->∀ m,a<m->m<x.l.rs.length->et x a m=false):dn x=none:=by
 unfold dn
 rw[List.findSome?_eq_none_iff]
 exact fun a ha=>L' fun m h1 h2=>hb a (by simpa using ha) m h1 h2
def K50:List (Nat×Spec):=[(137,NA)]
theorem aap:KS K50:=tc FW.sound<|tn
attribute [go_sem] K50
@[go_sem] def P133:PSpec:=p1 eO (fun x=>pf x) (fun x=>.sl ((kW x).map vInt)) false
@[go_sem] def ND:Spec:=P133.toSpec
set_option maxHeartbeats 8000000 in
theorem FZ:aN Tryz.prog 133 P133:=by
 refine dQ (rs:=[.tmp 2]) Tryz.func133 Tryz.ntmps133 fun x hp hw=>?_
 have hP:=dL
 simp only[eO]at hw |-
 have hΓ:=aap
 have fm:=hp.1.rsn
 have hl:x.l.rs.length<=maxLen:=by unfold maxLen;omega
 repeat refine sq ?_
 refine rx hΓ [1] [[1,0]] (fun K' hK=>by simp only[go_sem];exact ak) ?_
 repeat refine sq ?_
 refine rx hΓ [1,3] [[1,0]] (fun K' hK=>by simp only[go_sem];exact ak) ?_
 repeat refine sq ?_
 refine aH ?_
 repeat refine sq ?_
 refine bB (fun s:Nat=>[(3,⟨true,.v (vInt s)⟩)]) (fun s=>[]) (fun s=>s<=x.l.rs.length/\∀ a,a<s->∀ m,a<m->m<x.l.rs.length->et x a m=false) (fun s=>x.l.rs.length-s) 0 ?_ ?_ ?_ ?_
 ·exact⟨Nat.zero_le _,fun a h=>by omega⟩
 ·rfl
 ·rfl
 rintro i ⟨hi,hR⟩
 simp only[go_sem]
 repeat refine sq ?_
 refine rx hΓ [1,3,10] [[1,0]] (fun K' hK=>by simp only[go_sem];exact ak) ?_
 repeat refine sq ?_
 refine av (fun hb=>?_) fun hb=>?_
 ·have ab:i<x.l.rs.length:=by simpa using hb
  have an:(i:Int)<x.l.rs.length:=by omega
  clear hb
  have mr:IntKind.i64.wrap ((i:Int)+1)=((i+1:Nat):Int):=aT ab hl
  have WY:=dj ab
  have bM:(i:Int)<x.l.rs.length:=by omega
  repeat refine sq ?_
  refine ax ?_
  repeat refine sq ?_
  refine aH ?_
  repeat refine sq ?_
  refine rx hΓ [1,3,4] [[1,0]] (fun K' hK=>by simp only[go_sem,ae ab,ah,ai,an,mr];exact ak) ?_
  repeat refine sq ?_
  refine aH ?_
  repeat refine sq ?_
  refine bB (fun s:Nat=>[(4,⟨true,.v (vInt s)⟩)]) (fun s=>[]) (fun s=>s<=x.l.rs.length/\i<s/\∀ m,i<m->m<s->et x i m=false) (fun s=>x.l.rs.length-s) (i+1) ?_ ?_ ?_ ?_
  ·exact⟨ab,Nat.lt_succ_self i,fun m h1 h2=>by omega⟩
  ·rfl
  ·rfl
  rintro i1 ⟨hi,hR⟩
  simp only[go_sem]
  repeat refine sq ?_
  refine rx hΓ [1,3,4,20] [[1,0]] (fun K' hK=>by simp only[go_sem,ae ab,ah,ai,an];exact ak) ?_
  repeat refine sq ?_
  refine av (fun hb=>?_) fun hb=>?_
  ·have ay:i1<x.l.rs.length:=by simpa using hb
   have aQ:(i1:Int)<x.l.rs.length:=by omega
   clear hb
   have WX:=dj ay
   have eB:(i1:Int)<x.l.rs.length:=by omega
   repeat refine sq ?_
   refine ax ?_
   repeat refine sq ?_
   refine aH ?_
   repeat refine sq ?_
   refine rx hΓ [1,3,4,26] [[1,0]] (fun K' hK=>by simp only[go_sem,ae ab,ah,ai,an,ae ay,ah,ai,aQ,ae ab,ae ay,bM,eB,ah,ai,List.length_map];(repeat (refine⟨by first | exact ao | exact⟨hp,ai _,bM,ai _,eB⟩,?_⟩));exact ct) ?_
   repeat refine sq ?_
   refine av (fun hb=>?_) fun hb=>?_
   ·repeat refine sq ?_
    have hd:et x i i1=true:=by simpa using hb
    have e:kW x=[x.l.rs[i].so,x.l.rs[i1].so]:=by unfold kW;rw[L8 ab hR.1 ay hd hR.2 (by assumption),WY,WX]
    repeat refine sq ?_
    refine dx hΓ hP [[],[0],[0,1],[],u4,u5,u6,[],[7],[7,8],[],[7,8,9,10],[7,8,9,10,11],[7,8,9,10,11,12],jP,l4] [2] [] (by kernel_rfl) (fun K' hK=>by simp only[go_sem,ae ab,ah,ai,an,ae ay,ah,ai,aQ,ae ab,ae ay,bM,eB,ah,ai,List.length_map];exact eT) ?_
    refine au ?_
    simp only[go_sem]
    rw[e];rfl
   ·repeat refine sq ?_
    refine ax ?_
    refine bE ?_
    simp only[go_sem]
    refine kp [1,3,4] [[1,0]] ?_
    repeat refine sq ?_
    refine aM hΓ fun K' hK=>?_
    simp only[go_sem,ae ab,ah,ai,an,ae ay,ah,ai,aQ]
    repeat (refine⟨ao,?_⟩)
    refine hK _ ?_
    clear K' hK
    simp only[go_sem]
    refine⟨i1+1,⟨ay,?_⟩,by(show x.l.rs.length-(i1+1)<x.l.rs.length-i1;omega),?_⟩
    ·refine⟨by omega,fun m h1 h2=>?_⟩
     rcases Nat.lt_succ_iff_lt_or_eq.1 h2 with h5 | rfl
     ·exact hR.2 m h1 h5
     ·simpa using hb
    refine aY [1,3,4] [[1,0]] ?_ ?_<;>simp only[go_sem,aT ay hl,aU]
  ·have er:i1=x.l.rs.length:=by
    have :¬ (i1:Int)<x.l.rs.length:=by simpa using hb
    omega
   clear hb
   subst er
   repeat refine sq ?_
   refine bp ?_
   simp only[go_sem]
   refine kp [1,3] [[1,0]] ?_
   repeat refine sq ?_
   refine aM hΓ fun K' hK=>?_
   simp only[go_sem,ae ab,ah,ai,an]
   repeat (refine⟨ao,?_⟩)
   refine hK _ ?_
   clear K' hK
   simp only[go_sem]
   refine⟨i+1,⟨ab,?_⟩,by(show x.l.rs.length-(i+1)<x.l.rs.length-i;omega),?_⟩
   ·intro a ha m h1 h2
    rcases Nat.lt_succ_iff_lt_or_eq.1 ha with h5 | rfl
    ·exact(by assumption:∀ a,a<i->∀ m,a<m->m<x.l.rs.length->et x a m=false) a h5 m h1 h2
    ·exact hR.2 m h1 (by omega)
   refine aY [1,3] [[1,0]] ?_ ?_<;>simp only[go_sem,aT ab hl,aU]
 ·have be:i=x.l.rs.length:=by
   have :¬ (i:Int)<x.l.rs.length:=by simpa using hb
   omega
  clear hb
  subst be
  repeat refine sq ?_
  refine bp ?_
  simp only[go_sem]
  refine kp [] [] ?_
  repeat refine sq ?_
  refine rx hΓ [2] [] (fun K' hK=>by simp only[go_sem];exact ak) ?_
  refine au ?_
  simp only[go_sem]
  have e:kW x=[]:=by unfold kW;rw[DI hR]
  rw[e];rfl
end
noncomputable section
theorem uT(l:Led)(k:Int){s i:Nat}(h:(bw l k s).getD i false=true):i<s/\gd l k (bw l k i) i=true:=by
 induction s with
 |zero=>rw[w8 l k (Nat.zero_le i)]at h;cases h
 |succ s ih=>
  by_cases hi:i<s
  ·have e:(bw l k (s+1)).getD i false=(bw l k s).getD i false:=by
     rw[bw]
     split
     ·rw[List.getD_eq_getElem?_getD,List.getElem?_set_ne (by omega),<-List.getD_eq_getElem?_getD]
     ·rfl
   rw[e]at h
   exact⟨by omega,(ih h).2⟩
  ·by_cases hs:i=s
   ·subst hs
    refine⟨by omega,?_⟩
    cases hb:gd l k (bw l k i) i with
    |true=>rfl
    |false=>rw[w7 l k hb,w8 l k (Nat.le_refl i)]at h;cases h
   ·rw[w8 l k (by omega)]at h;cases h
theorem Fc{l:Led}{k:Int}{row:List Bool}{i:Nat}(h:gd l k row i=true):¬ b8 l (aK l i).re k<0:=by
 unfold gd at h
 split at h
 ·cases h
 ·assumption
theorem sX{l:Led}(h:bx l)(k:Int):pf (aI l k):=⟨h,pr _ _ _,fun _ hi=>Fc (uT l k hi).2⟩
theorem sU(x:RV):∀ s,∀ a∈gg x s,0<=a/\a<s
 | 0,a,h=>nomatch h
 |s+1,a,h=>by
  rw[gg]at h
  split at h
  ·rcases List.mem_append.1 h with h | h
   ·have:=sU x s a h;omega
   ·simp only[List.mem_singleton]at h;omega
  ·have:=sU x s a h;omega
theorem L9(x:RV):decide (((kW x).length:Int)>0)=(dn x).isSome:=by unfold kW;cases dn x<;>rfl
def dt(l:Led)(k:Int):List Int:=gg (aI l k) l.ss.length
def oX(l:Led)(k:Int):List Rg×Bool:=fb (aI l k) (dt l k) (dt l k).length
def kz(l:Led)(k:Int):Int:=if (dn (aI l k)).isSome=true then 25 else if (oX l k).2=true then 0 else 27
def qO(l:Led)(k:Int):RV:=if kz l k=0 then { aI l k with ds:=(oX l k).1 }else aI l k
def K51:List (Nat×Spec):=[(73,zN),(133,ND),(135,EC),(183,Nq)]
theorem aao:KS K51:=tc As.sound<|tc FZ.sound<|tc AB.sound<|tc FO.sound<|tn
attribute [go_sem] K51
@[go_sem] def P99:PSpec:=p2 iL iI (fun l _=>bx l) (fun l k=>.tup [sd (qO l k),vInt (kz l k)]) false
@[go_sem] def qD:Spec:=P99.toSpec
set_option maxHeartbeats 8000000 in
theorem Ps:aN Tryz.prog 99 P99:=by
 refine cX (rs:=[.cell 4 108,.tmp 5]) Tryz.func99 Tryz.ntmps99 fun l k hp hw=>?_
 have hP:=dL
 simp only[iI,iL,dA]at hw |-
 have hΓ:=aao
 have hv:=sX hp k
 have kM:=hp.ssn
 have rR:=sU (aI l k) l.ss.length
 have lE:=xc (aI l k) l.ss.length
 repeat refine sq ?_
 refine rx hΓ [1,2,4] [[2,0],[4,0]] (fun K' hK=>by simp only[go_sem];exact ak) ?_
 repeat refine sq ?_
 refine rx hΓ [4,6] [[4,0],[6,0]] (fun K' hK=>by simp only[go_sem];(repeat (refine⟨by first | exact ao | exact hp,?_⟩));exact ct) ?_
 repeat refine sq ?_
 refine rx hΓ [4,6,15] [[4,0],[6,0]] (fun K' hK=>by simp only[go_sem,List.length_map,L9];(repeat (refine⟨by first | exact ao | exact hv,?_⟩));exact ct) ?_
 repeat refine sq ?_
 refine av (fun hb=>?_) fun hb=>?_
 ·repeat refine sq ?_
  have e:kz l k=25:=by unfold kz;rw[if_pos hb]
  have e2:qO l k=aI l k:=by unfold qO;rw[e];rfl
  repeat refine sq ?_
  refine rx hΓ [4,5] [[4,0]] (fun K' hK=>by simp only[go_sem];exact ak) ?_
  refine au ?_
  simp only[go_sem]
  first | (rw[e,e2];done) | (rw[e,e2];rfl)
 ·repeat refine sq ?_
  have h0:(dn (aI l k)).isSome=false:=by simpa using hb
  refine ax ?_
  repeat refine sq ?_
  refine dx hΓ hP [[],[],[1],[0,1,2],u4,u5,u5,u6,u8] [4,6,7,8] [[4,0],[6,0]] (by kernel_rfl) (fun K' hK=>by simp only[go_sem];(repeat (refine⟨by first | exact ao | first | exact hv | exact hp | exact⟨hv,Nat.le_trans lE kM,rR⟩,?_⟩));exact e8) ?_
  repeat refine sq ?_
  refine rx hΓ [4,6,7,25] [[4,0],[6,0]] (fun K' hK=>by simp only[go_sem];exact ak) ?_
  repeat refine sq ?_
  refine av (fun hb=>?_) fun hb=>?_
  ·repeat refine sq ?_
   have h1:(oX l k).2=false:=by have h:(!(oX l k).2)=true:=hb;simpa using h
   have e:kz l k=27:=by unfold kz;rw[if_neg (by rw[h0];decide),if_neg (by rw[h1];decide)]
   have e2:qO l k=aI l k:=by unfold qO;rw[e];rfl
   repeat refine sq ?_
   refine rx hΓ [4,5] [[4,0]] (fun K' hK=>by simp only[go_sem];exact ak) ?_
   refine au ?_
   simp only[go_sem]
   first | (rw[e,e2];done) | (rw[e,e2];rfl)
  ·repeat refine sq ?_
   have h1:(oX l k).2=true:=by have h:(!(oX l k).2)=false:=hb;simpa using h
   have e:kz l k=0:=by unfold kz;rw[if_neg (by rw[h0];decide),if_pos h1]
   have e2:qO l k={ aI l k with ds:=(oX l k).1 }:=by unfold qO;rw[if_pos e]
   refine ax ?_
   repeat refine sq ?_
   refine rx hΓ [4,6] [[4,0],[6,0]] (fun K' hK=>by simp only[go_sem];exact ak) ?_
   repeat refine sq ?_
   refine rx hΓ [4,5] [[4,0]] (fun K' hK=>by simp only[go_sem];exact ak) ?_
   refine au ?_
   simp only[go_sem]
   first | (rw[e,e2];done) | (rw[e,e2];rfl)
end
theorem WT{α:Type}(p:α->Bool)(l:List α):l.find? p=if dE p l<0 then none else l[(dE p l).toNat]?:=by
 unfold dE
 by_cases h:l.any p=true
 ·rw[if_pos h]
  have ab:l.findIdx p<l.length:=List.findIdx_lt_length_of_exists (by obtain⟨x,hx,hp⟩:=List.any_eq_true.1 h;exact⟨x,hx,hp⟩)
  rw[if_neg (by omega),Int.toNat_natCast,List.getElem?_eq_getElem ab]
  exact List.find?_eq_some_iff_getElem.2 ⟨List.findIdx_getElem (w:=ab),_,ab,rfl,fun j hj=>by simpa using List.not_of_lt_findIdx hj⟩
 ·rw[if_neg h,if_pos (by omega)]
  rw[List.find?_eq_none]
  intro x hx hp
  exact h (List.any_eq_true.2 ⟨x,hx,hp⟩)
theorem AQ(l:Led)(k so:Int):dk (bz l k) so=if b8 l so k<0 then none else some (aw l (b8 l so k).toNat):=by
 unfold dk bz
 rw[List.find?_filter]
 have e:(fun a:Rec=>decide (bJ a.kn a.un k=true/\(a.so==so)=true))=fun r=>r.so==so&&bJ r.kn r.un k:=by
  funext a
  cases bJ a.kn a.un k<;>cases (a.so==so)<;>rfl
 rw[e,WT]
 show (if b8 l so k<0 then none else l.rs[(b8 l so k).toNat]?)=_
 rcases nZ l so k with h | ⟨j,hj,h,-⟩
 ·rw[h];rfl
 ·rw[h,if_neg (by omega),if_neg (by omega),Int.toNat_natCast,dj hj,List.getElem?_eq_getElem hj]
theorem E9(l:Led)(k:Int){s j:Nat}(h:s<l.ts.length):(bw l k (s+1)).getD j false=if j=s then gd l k (bw l k s) s else(bw l k s).getD j false:=by
 rw[<-Fa l k h]
 by_cases hj:j=s
 ·subst hj
  rw[if_pos rfl,List.getD_eq_getElem?_getD,List.getElem?_set_self (by rw[pr];exact h)]
  rfl
 ·rw[if_neg hj,List.getD_eq_getElem?_getD,List.getElem?_set_ne (by omega),<-List.getD_eq_getElem?_getD]
theorem uS{l:Led}{k:Int}{s j:Nat}(h:(bw l k s).getD j false=true):j<s:=(uT l k h).1
structure zM (l:Led) (k:Int) (s:Nat):Prop where
 ts:∀ j:Nat,(bw l k s).getD j false=true↔(j:Int)∈(aB l k s).ts
 tn:(aB l k s).ts.Nodup
 tl:∀ j∈(aB l k s).ts,0<=j/\j<s
 bk1:∀ so f i,bK (aB l k s).bk (so,f)=some i->∃ j:Nat,i=j/\(bw l k s).getD j false=true/\(aK l j).re=so/\f∈(aK l j).lv
 bk2:∀ j:Nat,(bw l k s).getD j false=true->∀ f∈(aK l j).lv,bK (aB l k s).bk ((aK l j).re,f)=some (j:Int)
 ds:∀ j:Nat,(bw l k s).getD j false=true->bA (aB l k s).ds j=(cg (aK l j).lo ((lu (bz l k) (aK l j).re).da+1),(aK l j).hi)
theorem yS(d:Ds)(i j:Int)(v:Int×Int):bA (mK d i v) j=if i=j then v else bA d j:=by
 induction d with
 |nil=>rfl
 |cons e r ih=>
  obtain⟨k,x⟩:=e
  simp only[mK]
  by_cases h:k=i
  ·rw[if_pos h]
   subst h
   simp only[bA]
   split<;>rfl
  ·rw[if_neg h]
   simp only[bA,ih]
   by_cases h2:k=j
   ·subst h2
    rw[if_pos rfl,if_pos rfl,if_neg (fun e=>h e.symm)]
   ·rw[if_neg h2,if_neg h2]
theorem YW{l:Led}{k:Int}{s:Nat}(h:zM l k s)(x:Ret)(f:Int):(bK (aB l k s).bk (x.re,f)).isSome=!ld (l5 l (bw l k s) x f) s:=by
 cases hb:bK (aB l k s).bk (x.re,f)with
 |none=>
  have :ld (l5 l (bw l k s) x f) s=true:=by
   unfold ld
   rw[List.all_eq_true]
   intro j _
   unfold l5
   cases hj:((bw l k s).getD j false&&(aK l j).re==x.re&&(aK l j).lv.contains f)with
   |false=>rfl
   |true=>
    simp only[Bool.and_eq_true,beq_iff_eq,List.contains_iff_mem]at hj
    have :=h.bk2 j hj.1.1 f hj.2
    rw[hj.1.2,hb]at this
    cases this
  rw[this];rfl
 |some i=>
  obtain⟨j,rfl,h1,h2,h3⟩:=h.bk1 _ _ _ hb
  have :ld (l5 l (bw l k s) x f) s=false:=by
   unfold ld
   rw[List.all_eq_false]
   refine⟨j,List.mem_range.2 (uS h1),?_⟩
   unfold l5
   rw[h1,h2]
   simp[h3]
  rw[this];rfl
theorem HA{l:Led}{k:Int}{s:Nat}(h:zM l k s):iq k (bz l k) (aB l k s).bk (aK l s)=if gd l k (bw l k s) s=true then some (aw l (b8 l (aK l s).re k).toNat)else none:=by
 unfold iq gd
 rw[AQ]
 by_cases hx:b8 l (aK l s).re k<0
 ·rw[if_pos hx,if_pos hx];rfl
 ·rw[if_neg hx,if_neg hx]
  have p7:(aw l (b8 l (aK l s).re k).toNat).so=(aK l s).re:=by
   rcases nZ l (aK l s).re k with h | ⟨j,hj,h,hr⟩
   ·rw[h]at hx;exact absurd (by decide) hx
   ·rw[h,Int.toNat_natCast,dj hj]
    unfold kK at hr
    simp only[Bool.and_eq_true,beq_iff_eq]at hr
    exact hr.1
  have jF:((aK l s).lv.any fun f=>(bK (aB l k s).bk ((aw l (b8 l (aK l s).re k).toNat).so,f)).isSome||!(aw l (b8 l (aK l s).re k).toNat).lv.contains f)=!(aK l s).lv.all (nl l (bw l k s) s (aw l (b8 l (aK l s).re k).toNat) (aK l s)):=by
   rw[p7,List.not_all_eq_any_not]
   congr 1
   funext f
   rw[YW h]
   unfold nl
   rw[Bool.not_and,Bool.or_comm]
  show (if (bJ (aK l s).kn (aK l s).un k&&!(decide (cg (aK l s).lo ((aw l (b8 l (aK l s).re k).toNat).da+1)>(aK l s).hi)||(aK l s).lv.any fun f=>(bK (aB l k s).bk ((aw l (b8 l (aK l s).re k).toNat).so,f)).isSome||!(aw l (b8 l (aK l s).re k).toNat).lv.contains f))=true then _ else _)=_
  rw[jF]
  unfold kq
  cases bJ (aK l s).kn (aK l s).un k<;>cases decide (cg (aK l s).lo ((aw l (b8 l (aK l s).re k).toNat).da+1)>(aK l s).hi)<;>cases (aK l s).lv.all (nl l (bw l k s) s (aw l (b8 l (aK l s).re k).toNat) (aK l s))<;>rfl
theorem Ae(l:Led)(k:Int):∀ s,s<=l.ts.length->zM l k s
 | 0,_=>by
   have hf:∀ j,¬ (bw l k 0).getD j false=true:=fun j h=>absurd (uS h) (Nat.not_lt_zero j)
   exact⟨fun j=>⟨fun h=>(hf j h).elim,fun h=>(nomatch h)⟩,List.nodup_nil,fun j h=>(nomatch h),fun so f i h=>(nomatch h),fun j h=>(hf j h).elim,fun j h=>(hf j h).elim⟩
 |s+1,hs=>by
  have ih:=Ae l k s (by omega)
  have hn:=HA ih
  have cS:=fun j=>E9 l k (s:=s) (j:=j) (by omega)
  by_cases hb:gd l k (bw l k s) s=true
  ·rw[if_pos hb]at hn
   have e:=xI hn
   obtain⟨rF,-,-,rz⟩:=HB hn
   obtain⟨xZ,ca⟩:=gR rF
   have mw:lu (bz l k) (aK l s).re=aw l (b8 l (aK l s).re k).toNat:=by unfold lu;rw[rF];rfl
   generalize aw l (b8 l (aK l s).re k).toNat=r at *
   have gm:∀ f∈(aK l s).lv,bK (aB l k s).bk (r.so,f)=none:=fun f hf=>by
    have :=List.any_eq_false.1 rz f hf
    unfold il at this
    simp only[Bool.or_eq_true,not_or,Option.isSome_iff_ne_none,ne_eq,Decidable.not_not]at this
    exact this.1
   rw[hb]at cS
   have ry:∀ j:Nat,(bw l k (s+1)).getD j false=true↔(j:Int)∈(aB l k (s+1)).ts:=fun j=>by
    rw[cS,e]
    show _↔(j:Int)∈(aB l k s).ts++[(s:Int)]
    rw[List.mem_append,List.mem_singleton]
    by_cases hj:j=s
    ·subst hj;simp
    ·rw[if_neg hj,ih.ts j]
     constructor
     ·exact .inl
     ·rintro(h | h)
      ·exact h
      ·exact(hj (by omega)).elim
   refine⟨ry,?_,?_,?_,?_,?_⟩
   ·rw[e]
    refine List.nodup_append.2 ⟨ih.tn,by simp,fun a ha b dh lG=>?_⟩
    have :=ih.tl a ha
    simp only[List.mem_singleton]at dh
    omega
   ·intro j hj
    rw[e]at hj
    rcases List.mem_append.1 hj with hj | hj
    ·have:=ih.tl j hj;omega
    ·simp only[List.mem_singleton]at hj;omega
   ·intro so f i h
    rw[e]at h
    simp only[D2]at h
    split at h
    ·rename_i hc
     cases h
     refine⟨s,rfl,by rw[cS,if_pos rfl],?_,hc.2⟩
     rw[<-ca];exact hc.1.symm
    ·obtain⟨j,rfl,h1,h2,h3⟩:=ih.bk1 so f i h
     have :=uS h1
     exact⟨j,rfl,by rw[cS,if_neg (by omega)];exact h1,h2,h3⟩
   ·intro j h1 f hf
    rw[cS]at h1
    rw[e]
    simp only[D2]
    by_cases hj:j=s
    ·subst hj
     rw[if_pos ⟨ca.symm,hf⟩]
    ·rw[if_neg hj]at h1
     have h4:=ih.bk2 j h1 f hf
     rw[if_neg,h4]
     rintro⟨h5,h6⟩
     have :=gm f h6
     rw[<-h5,h4]at this
     cases this
   ·intro j h1
    rw[cS]at h1
    rw[e]
    show bA (mK (aB l k s).ds s (cg (aK l s).lo (r.da+1),(aK l s).hi)) j=_
    rw[yS]
    by_cases hj:j=s
    ·subst hj
     rw[if_pos rfl,mw]
    ·rw[if_neg hj]at h1
     rw[if_neg (by omega)]
     exact ih.ds j h1
  ·rw[if_neg hb]at hn
   have e:=tD hn
   have e2:bw l k (s+1)=bw l k s:=w7 l k (by simpa using hb)
   exact⟨by rw[e,e2];exact ih.ts,by rw[e];exact ih.tn,fun j hj=>by rw[e]at hj;have:=ih.tl j hj;omega,by rw[e,e2];exact ih.bk1,by rw[e,e2];exact ih.bk2,by rw[e,e2];exact ih.ds⟩
theorem sR(l:Led)(k:Int):zM l k l.ts.length:=Ae l k _ (Nat.le_refl _)
theorem AJ(l:Led)(k:Int)(i:Nat)(f:Int):eo (aI l k) i f=(bK (aF l k).bk ((aw l i).so,f)).getD (-1):=by
 have hi:=sR l k
 show _=(bK (aB l k l.ts.length).bk ((aw l i).so,f)).getD (-1)
 cases hb:bK (aB l k l.ts.length).bk ((aw l i).so,f)with
 |none=>
  refine Gd fun m _ hm=>?_
  show jn (aI l k) (aw l i).so f m=false
  rw[Bool.eq_false_iff]
  intro h
  unfold jn at h
  simp only[Bool.and_eq_true,beq_iff_eq,List.contains_iff_mem]at h
  have h1:(bw l k l.ts.length).getD m false=true:=h.1.1
  have :=hi.bk2 m h1 f h.2
  have h2:(aK l m).re=(aw l i).so:=h.1.2
  rw[h2,hb]at this
  cases this
 |some q=>
  obtain⟨j,rfl,h1,h2,h3⟩:=hi.bk1 _ _ _ hb
  refine Ge (j:=j) ?_ ?_ ?_
  ·show j<(bw l k l.ts.length).length
   rw[pr];exact uS h1
  ·show (((bw l k l.ts.length).getD j false&&(aK l j).re==(aw l i).so)&&(aK l j).lv.contains f)=true
   rw[h1,h2]
   simp[h3]
  ·intro m _ oF
   show jn (aI l k) (aw l i).so f m=false
   rw[Bool.eq_false_iff]
   intro h
   unfold jn at h
   simp only[Bool.and_eq_true,beq_iff_eq,List.contains_iff_mem]at h
   have h4:(bw l k l.ts.length).getD m false=true:=h.1.1
   have :=hi.bk2 m h4 f h.2
   have h5:(aK l m).re=(aw l i).so:=h.1.2
   rw[h5,hb]at this
   have :(j:Int)=m:=Option.some.inj this
   omega
def vn(v:Int×Int)(da:Int)(os:List Rec):Int×Int:=os.foldl (fun v o=>if o.da>da then(cg v.1 0,dD v.2 o.da)else v) v
def nz(h da:Int)(os:List Rec):Int:=os.foldl (fun h o=>if o.da>da then dD h o.da else h) h
theorem Rx{v:Int×Int}{da:Int}(os:List Rec)(h:0<=v.1):vn v da os=(v.1,nz v.2 da os):=by
 induction os generalizing v with
 |nil=>rfl
 |cons o r ih=>
  show vn (if o.da>da then(cg v.1 0,dD v.2 o.da)else v) da r=(v.1,nz (if o.da>da then dD v.2 o.da else v.2) da r)
  by_cases hc:o.da>da
  ·rw[if_pos hc,if_pos hc]
   have :cg v.1 0=v.1:=by unfold cg;rw[if_neg (by omega)]
   rw[this]
   exact ih (v:=(v.1,dD v.2 o.da)) h
  ·rw[if_neg hc,if_neg hc,ih h]
theorem Rz(d:Ds)(i da:Int)(os:List Rec)(j:Int):bA (kG d i da os) j=if i=j then vn (bA d i) da os else bA d j:=by
 induction os generalizing d with
 |nil=>
  show bA d j=if i=j then bA d i else bA d j
  split
  ·rename_i h;rw[h]
  ·rfl
 |cons o r ih=>
  show bA (kG (if o.da>da then jY d i ⟨0,o.da⟩else d) i da r) j=if i=j then vn (if o.da>da then(cg (bA d i).1 0,dD (bA d i).2 o.da)else bA d i) da r else bA d j
  rw[ih]
  by_cases hc:o.da>da
  ·rw[if_pos hc,if_pos hc]
   unfold jY
   rw[yS,if_pos rfl,yS]
   by_cases bD:i=j
   ·rw[if_pos bD,if_pos bD]
   ·rw[if_neg bD,if_neg bD,if_neg bD]
  ·rw[if_neg hc,if_neg hc]
theorem C'{ts:List Int}{m:Nat}(h:m<ts.length):ts.take (m+1)=ts.take m++[ts.getD m 0]:=by
 rw[List.take_add_one,List.getD_eq_getElem?_getD,List.getElem?_eq_getElem h];rfl
theorem HP(l:Led)(rs:List Rec)(ts:List Int)(d:Ds)(hn:ts.Nodup):∀ m,m<=ts.length->∀ j,bA (iv l rs ts d m) j=
 if j∈ts.take m then vn (bA d j) (lu rs (aK l j.toNat).re).da (dq rs (lu rs (aK l j.toNat).re).pa (aK l j.toNat).lv)else bA d j
 | 0,_,j=>by rw[if_neg (by simp)];rfl
 |m+1,hm,j=>by
  have ih:=HP l rs ts d hn m (by omega)
  rw[iv,Rz,C' (by omega)]
  have yf:ts.getD m 0∉ts.take m:=by
   have h1:(ts.take (m+1)).Nodup:=hn.sublist (List.take_sublist _ _)
   rw[C' (by omega)]at h1
   have :=(List.nodup_append.1 h1).2.2
   exact fun h=>this _ h _ (List.mem_singleton.2 rfl) rfl
  by_cases hj:ts.getD m 0=j
  ·subst hj
   rw[if_pos rfl,ih,if_neg yf,if_pos (by simp)]
  ·rw[if_neg hj,ih]
   have e:(j∈ts.take m++[ts.getD m 0])↔j∈ts.take m:=by
    rw[List.mem_append,List.mem_singleton]
    exact⟨fun h=>h.elim id fun h=>(hj h.symm).elim,.inl⟩
   simp only[e]
theorem RT(a b:Int):dD (dD a b) b=dD a b:=by
 unfold dD
 by_cases h:b<a
 ·rw[if_pos h,if_neg (by omega)]
 ·rw[if_neg h,if_neg h]
theorem M7{α:Type}(c:Bool)(p:α->Bool)(l:List α):(l.any fun n=>c&&p n)=(c&&l.any p):=by cases c<;>simp
theorem MA(x:RV)(r:Rec)(lv:List Int)(i:Nat)(hi:Int):∀ m,mT x r lv i hi m=if (List.range m).any (ra x r lv i)=true then dD hi (aw x.l i).da else hi
 | 0=>rfl
 |m+1=>by
  rw[mT,MA x r lv i hi m,List.range_succ,List.any_append]
  by_cases h1:(List.range m).any (ra x r lv i)=true
  ·rw[h1,if_pos rfl,Bool.true_or,if_pos rfl,RT]
   split<;>rfl
  ·rw[if_neg h1]
   have eQ:(List.range m).any (ra x r lv i)=false:=by simpa using h1
   rw[eQ]
   simp only[List.any_cons,List.any_nil,Bool.or_false,Bool.false_or]
theorem YR{α:Type}(p:α->Bool)(lv:List α)(d:α):((List.range lv.length).any fun j=>p (lv.getD j d))=lv.any p:=by
 rw[Bool.eq_iff_iff,List.any_eq_true,List.any_eq_true]
 constructor
 ·rintro⟨j,hj,hp⟩
  have eB:j<lv.length:=by simpa using hj
  rw[ck eB]at hp
  exact⟨_,List.getElem_mem eB,hp⟩
 ·rintro⟨a,ha,hp⟩
  obtain⟨j,hj,rfl⟩:=List.getElem_of_mem ha
  exact⟨j,by simpa using hj,by rw[ck hj];exact hp⟩
def vU(k:Int)(r:Rec)(lv:List Int)(o:Rec):Bool:=decide (o.da>r.da)&&(bJ o.kn o.un k&&gE r.pa lv o)
theorem Ei(a b:List Int):(a.any fun n=>b.contains n)=b.any fun n=>a.contains n:=by
 rw[Bool.eq_iff_iff,List.any_eq_true,List.any_eq_true]
 constructor<;>(rintro⟨n,h1,h2⟩;exact⟨n,List.contains_iff_mem.1 h2,List.contains_iff_mem.2 h1⟩)
theorem RK(x:RV)(r:Rec)(lv:List Int)(i:Nat):(List.range lv.length).any (ra x r lv i)=vU x.k r lv (aw x.l i):=by
 have :=YR (fun n=>decide ((aw x.l i).da>r.da)&&cV x.k ⟨r.pa,n⟩ (aw x.l i)) lv 0
 refine this.trans ?_
 unfold vU gE
 rw[M7,Ei]
 congr 1
 show (lv.any fun n=>(bJ (aw x.l i).kn (aw x.l i).un x.k&&(aw x.l i).pa==r.pa)&&(aw x.l i).lv.contains n)=_
 rw[M7,Bool.and_assoc]
theorem Mz(x:RV)(r:Rec)(t:Ret):∀ m,m<=x.l.rs.length->mS x r t m=(x.l.rs.take m).foldl (fun h o=>if vU x.k r t.lv o=true then dD h o.da else h) t.hi
 | 0,_=>rfl
 |m+1,hm=>by
  rw[mS,MA,RK,Mz x r t m (by omega),List.take_add_one,List.getElem?_eq_getElem (by omega),List.foldl_append,dj (by omega)]
  rfl
theorem My(l:Led)(k:Int)(r:Rec)(t:Ret):mS (aI l k) r t l.rs.length=nz t.hi r.da (dq (bz l k) r.pa t.lv):=by
 have h:=Mz (aI l k) r t l.rs.length (Nat.le_refl _)
 refine h.trans ?_
 show (l.rs.take l.rs.length).foldl _ _=_
 rw[List.take_length]
 unfold nz dq bz
 rw[List.foldl_filter,List.foldl_filter]
 congr 1
 funext h o
 show (if vU k r t.lv o=true then dD h o.da else h)=_
 unfold vU
 by_cases h1:bJ o.kn o.un k=true
 ·rw[if_pos h1]
  by_cases h2:gE r.pa t.lv o=true
  ·rw[if_pos h2,h1,h2];simp
  ·rw[if_neg h2];simp[h2]
 ·rw[if_neg h1];simp[h1]
theorem E7{l:Led}{k:Int}{row:List Bool}{i:Nat}(h:gd l k row i=true):∃ q,∃ hq:q<l.rs.length,b8 l (aK l i).re k=(q:Int)/\kK (aK l i).re k l.rs[q]=true:=by
 rcases nZ l (aK l i).re k with h2 | ⟨q,hq,h2,h3⟩
 ·exact absurd (by rw[h2];decide) (Fc h)
 ·exact⟨q,hq,h2,h3⟩
theorem Mw{l:Led}(aa:bx l)(k:Int){j:Nat}(h:(bw l k l.ts.length).getD j false=true):mR (aI l k) j=⟨(bA (aF l k).ds j).1,(bA (aF l k).ds j).2⟩:=by
 have hi:=sR l k
 obtain⟨dO,jw⟩:=uT l k h
 obtain⟨q,hq,hx,hr⟩:=E7 jw
 have rF:lu (bz l k) (aK l j).re=aw l q:=by
  unfold lu
  rw[AQ,hx,if_neg (by omega),Int.toNat_natCast];rfl
 have v7:0<=(aw l q).da:=by rw[dj hq];exact(qW aa (List.getElem_mem hq)).1
 have h1:bA (aF l k).ds j=(cg (aK l j).lo ((aw l q).da+1),nz (aK l j).hi (aw l q).da (dq (bz l k) (aw l q).pa (aK l j).lv)):=by
  show bA (iv l (bz l k) (aB l k l.ts.length).ts (aB l k l.ts.length).ds (aB l k l.ts.length).ts.length) j=_
  rw[HP _ _ _ _ hi.tn _ (Nat.le_refl _),List.take_length,if_pos ((hi.ts j).1 h),hi.ds j h,Int.toNat_natCast,rF]
  exact Rx _ (by show 0<=cg _ _;unfold cg;split<;>omega)
 rw[h1]
 unfold mR
 rw[if_pos (show (aI l k).ts.getD j false=true from h)]
 show (⟨kq (aK l j) (aw l (b8 l (aK l j).re k).toNat),mS (aI l k) (aw l (b8 l (aK l j).re k).toNat) (aK l j) l.rs.length⟩:Rg)=_
 rw[hx,Int.toNat_natCast,My]
 rfl
theorem Hk{k:Int}{r:Rec}{f:Int}(hc:bJ r.kn r.un k=true)(hf:f∈r.lv):cV k ⟨r.pa,f⟩ r=true:=by
 unfold cV;simp[hc,hf]
theorem L6{l:Led}{k:Int}{i j:Nat}(hi:bJ (aw l i).kn (aw l i).un k=true)(hj:bJ (aw l j).kn (aw l j).un k=true):eI (aI l k) i j=um (aF l k) (aw l i) (aw l j):=by
 unfold eI um
 show (aw l i).lv.any _=_
 rw[Bool.eq_iff_iff,List.any_eq_true,List.any_eq_true]
 have hb:∀ f∈(aw l i).lv,jK (aI l k) i j f=(((aw l i).pa==(aw l j).pa&&(aw l j).lv.contains f)&&((aw l i).da==(aw l j).da||match bK (aF l k).bk ((aw l i).so,f)with
  |none=>true
  |some q=>decide (cg (aK (aF l k).l q.toNat).lo ((aw l i).da+1)>(aw l j).da))):=fun f hf=>by
  unfold jK
  rw[AJ]
  show ((cV k ⟨(aw l i).pa,f⟩ (aw l i)&&cV k ⟨(aw l i).pa,f⟩ (aw l j))&&(((aw l i).da==(aw l j).da||decide ((bK (aF l k).bk ((aw l i).so,f)).getD (-1)<0))||decide (kq (aK l ((bK (aF l k).bk ((aw l i).so,f)).getD (-1)).toNat) (aw l i)>(aw l j).da)))=_
  rw[Hk hi hf]
  have h2:cV k ⟨(aw l i).pa,f⟩ (aw l j)=((aw l i).pa==(aw l j).pa&&(aw l j).lv.contains f):=by
   unfold cV
   rw[hj,Bool.true_and]
   congr 1
   rw[Bool.eq_iff_iff,beq_iff_eq,beq_iff_eq]
   exact eq_comm
  rw[h2,Bool.true_and]
  congr 1
  cases bR:bK (aF l k).bk ((aw l i).so,f)with
  |none=>simp
  |some q=>
   have hq:0<=q:=by
    obtain⟨m,rfl,-⟩:=(sR l k).bk1 _ _ _ bR
    omega
   have hl:(aF l k).l=l:=(ou l k l.ts.length).1
   simp only[Option.getD_some,hl,kq]
   have :decide (q<0)=false:=by simpa using hq
   rw[this,Bool.or_false]
   rfl
 constructor
 ·rintro⟨f,hf,h⟩;exact⟨f,hf,(hb f hf).symm.trans h⟩
 ·rintro⟨f,hf,h⟩;exact⟨f,hf,(hb f hf).trans h⟩
theorem DF(l:Led)(k:Int)(a m:Nat):et (aI l k) a m=if (aw l a).da>(aw l m).da then eI (aI l k) m a else eI (aI l k) a m:=rfl
theorem y9{l:Led}{k:Int}{i j:Nat}(hi:bJ (aw l i).kn (aw l i).un k=true)(hj:bJ (aw l j).kn (aw l j).un k=true):et (aI l k) i j=gK (aF l k) (aw l i) (aw l j):=by
 unfold et gK
 show (if (aw l i).da>(aw l j).da then eI (aI l k) j i else eI (aI l k) i j)=_
 rw[L6 hi hj,L6 hj hi]
theorem L7{l:Led}{k:Int}{i j:Nat}(h:eI (aI l k) i j=true):bJ (aw l i).kn (aw l i).un k=true/\bJ (aw l j).kn (aw l j).un k=true:=by
 unfold eI at h
 obtain⟨f,-,h⟩:=List.any_eq_true.1 h
 unfold jK cV at h
 simp only[Bool.and_eq_true]at h
 exact⟨h.1.1.1.1,h.1.2.1.1⟩
theorem DG{l:Led}{k:Int}{i j:Nat}(h:et (aI l k) i j=true):bJ (aw l i).kn (aw l i).un k=true/\bJ (aw l j).kn (aw l j).un k=true:=by
 unfold et at h
 split at h
 ·exact(L7 h).symm
 ·exact L7 h
theorem za(x:RV):dn x=none↔∀ a,a<x.l.rs.length->∀ m,a<m->m<x.l.rs.length->et x a m=false:=by
 refine⟨fun h a ha m h1 h2=>?_,DI⟩
 unfold dn at h
 rw[List.findSome?_eq_none_iff]at h
 have :=h a (List.mem_range.2 ha)
 unfold uo at this
 rw[Option.map_eq_none_iff,List.find?_eq_none]at this
 have :=this m (List.mem_range.2 h2)
 simpa[h1]using this
theorem Q3(x:Vw):dR x=none↔x.rs.Pairwise fun a b=>gK x a b=false:=by
 rw[List.pairwise_iff_getElem]
 constructor
 ·intro h i j hi hj bD
  unfold dR at h
  rw[List.findSome?_eq_none_iff]at h
  have :=h i (List.mem_range.2 hi)
  unfold me at this
  rw[Option.map_eq_none_iff,List.find?_eq_none]at this
  have hm:x.rs[j]∈x.rs.drop (i+1):=by
   rw[List.mem_iff_getElem]
   exact⟨j-(i+1),by rw[List.length_drop];omega,by rw[List.getElem_drop];congr 1;omega⟩
  have h2:=this _ hm
  rw[ck hi]at h2
  simpa using h2
 ·intro h
  refine AX fun i hi=>xu hi fun m hm=>?_
  rw[List.length_drop]at hm
  rw[List.getElem_drop]
  exact h i (i+1+m) hi (by omega) (by omega)
theorem GV(l:Led)(k:Int):dR (aF l k)=none↔dn (aI l k)=none:=by
 rw[Q3,za]
 have ca:(aF l k).rs=bz l k:=(ou l k l.ts.length).2
 rw[ca]
 unfold bz
 rw[List.pairwise_filter,List.pairwise_iff_getElem]
 constructor
 ·intro h a ha m h1 h2
  show et (aI l k) a m=false
  rw[Bool.eq_false_iff]
  intro hd
  have kg:=hd
  obtain⟨c1,c2⟩:=DG hd
  rw[y9 c1 c2]at kg
  have oN:a<l.rs.length:=ha
  have oQ:m<l.rs.length:=h2
  rw[dj oN]at c1 kg
  rw[dj oQ]at c2 kg
  rw[h a m oN oQ h1 c1 c2]at kg
  cases kg
 ·intro h i j hi hj bD c1 c2
  have :=h i hi j bD hj
  rw[<-dj hi]at c1 |-
  rw[<-dj hj]at c2 |-
  rw[y9 c1 c2]at this
  exact this
theorem RA{l:Led}{k:Int}(h:dn (aI l k)=none)(f:Fol){i j:Nat}(bD:i<j)(hj:j<l.rs.length)(h1:cV k f (aw l i)=true)(h2:cV k f (aw l j)=true):(aw l i).da≠(aw l j).da:=by
 intro he
 have :=(za _).1 h i (by show i<l.rs.length;omega) j bD hj
 rw[DF,if_neg (show ¬ (aw l i).da>(aw l j).da by omega)]at this
 unfold eI at this
 have hf:f.le∈(aw l i).lv:=by unfold cV at h1;simp at h1;exact h1.2
 have hp:(aw l i).pa=f.pa:=by unfold cV at h1;simp at h1;exact h1.1.2
 have h3:=List.any_eq_false.1 this f.le hf
 apply h3
 unfold jK
 show ((cV k ⟨(aw l i).pa,f.le⟩ (aw l i)&&cV k ⟨(aw l i).pa,f.le⟩ (aw l j))&&(((aw l i).da==(aw l j).da||_)||_))=true
 rw[hp]
 have e:(⟨f.pa,f.le⟩:Fol)=f:=rfl
 rw[e,h1,h2,he]
 simp
theorem at_last{l:Led}{k:Int}(h:dn (aI l k)=none)(f:Fol)(day:Int):∀ s,s<=l.rs.length->
 (fy (aI l k) f day s= -1/\((l.rs.take s).filter (cV k f)).foldl (o8 day) none=none)\/
   ∃ q,q<s/\fy (aI l k) f day s=(q:Int)/\cV k f (aw l q)=true/\((l.rs.take s).filter (cV k f)).foldl (o8 day) none=some (aw l q)
 | 0,_=>.inl ⟨rfl,rfl⟩
 |s+1,hs=>by
  have ih:=at_last h f day s (by omega)
  have ep:s<l.rs.length:=by omega
  have e1:l.rs.take (s+1)=l.rs.take s++[aw l s]:=by
   rw[List.take_add_one,List.getElem?_eq_getElem ep,dj ep];rfl
  rw[e1,List.filter_append]
  have e2:fy (aI l k) f day (s+1)=if ((cV k f (aw l s)&&decide ((aw l s).da<=day))&&(decide (fy (aI l k) f day s<0)||decide ((aw l s).da>(aw l (fy (aI l k) f day s).toNat).da)))=true then(s:Int)else fy (aI l k) f day s:=rfl
  rw[e2]
  cases ho:cV k f (aw l s)with
  |false=>
   rw[show [aw l s].filter (cV k f)=[]by simp[ho],List.append_nil]
   simp only[Bool.false_and,Bool.false_eq_true,if_false]
   rcases ih with h | ⟨q,h1,h2⟩
   ·exact .inl h
   ·exact .inr ⟨q,by omega,h2⟩
  |true=>
   rw[show [aw l s].filter (cV k f)=[aw l s]by simp[ho],List.foldl_append]
   simp only[List.foldl_cons,List.foldl_nil,Bool.true_and]
   rcases ih with⟨h1,h2⟩ | ⟨q,h1,h2,h3,h4⟩
   ·rw[h1,h2]
    unfold o8
    by_cases hd:(aw l s).da<=day
    ·exact .inr ⟨s,by omega,by simp[hd],ho,by simp[hd]⟩
    ·exact .inl ⟨by simp[hd],by simp[hd]⟩
   ·rw[h2,h4,Int.toNat_natCast]
    have aE:=RA h f h1 ep h3 ho
    unfold o8
    have Kf:¬ (q:Int)<0:=by omega
    by_cases hd:(aw l s).da<=day
    ·by_cases hg:(aw l s).da>(aw l q).da
     ·refine .inr ⟨s,by omega,by simp[hd,hg],ho,?_⟩
      have :(aw l s).da>=(aw l q).da:=by omega
      simp[hd,this]
     ·refine .inr ⟨q,by omega,by simp[hg,Kf],h3,?_⟩
      have :¬ (aw l s).da>=(aw l q).da:=by omega
      simp[this]
    ·exact .inr ⟨q,by omega,by simp[hd],h3,by simp[hd]⟩
theorem N0(l:Led)(k pa le:Int):dq (bz l k) pa [le]=l.rs.filter (cV k ⟨pa,le⟩):=by
 unfold dq bz
 rw[List.filter_filter]
 congr 1
 funext r
 unfold gE cV
 rw[Ei]
 simp only[List.any_cons,List.any_nil,Bool.or_false]
 cases bJ r.kn r.un k<;>cases (r.pa==pa)<;>cases r.lv.contains le<;>rfl
theorem Sy{l:Led}{k:Int}(h:dn (aI l k)=none)(f:Fol)(day:Int):
 (fi (aI l k) f day= -1/\hG (bz l k) f.pa f.le day=none)\/∃ q,q<l.rs.length/\fi (aI l k) f day=(q:Int)/\cV k f (aw l q)=true/\hG (bz l k) f.pa f.le day=some (aw l q):=by
 have h1:=at_last h f day l.rs.length (Nat.le_refl _)
 rw[List.take_length]at h1
 unfold hG
 rw[N0]
 exact h1
def pt(l:Led)(k:Int)(j:Nat):Prop:=(bw l k l.ts.length).getD j false=true
def Rel(l:Led)(k:Int)(d:List Rg)(D:Ds):Prop:=d.length=l.ts.length/\∀ j:Nat,pt l k j->el d j=⟨(bA D j).1,(bA D j).2⟩/\0<=(bA D j).1/\(bA D j).2<=100000
def ph(l:Led)(k:Int)(D:Ds):Prop:=∀ j:Nat,pt l k j->(bA D j).1<=(bA D j).2
theorem E8{l:Led}{k:Int}{j:Nat}(h:pt l k j):j<l.ts.length:=uS h
theorem Lt(l:Led)(k:Int)(D:Ds):yO (aF l k).ts D=true↔ph l k D:=by
 have hi:=sR l k
 unfold yO ph pt
 rw[List.all_eq_true]
 show (∀ i∈(aB l k l.ts.length).ts,_)↔_
 constructor
 ·intro h j hj
  have :=h j ((hi.ts j).1 hj)
  simpa using this
 ·intro h i hm
  have hb:=hi.tl i hm
  obtain⟨j,rfl⟩:∃ j:Nat,i=j:=⟨i.toNat,by omega⟩
  simpa using h j ((hi.ts j).2 hm)
theorem Yr{l:Led}{k so f i:Int}(h:bK (aF l k).bk (so,f)=some i):∃ j:Nat,i=j/\pt l k j:=by
 obtain⟨j,e,h1,-⟩:=(sR l k).bk1 _ _ _ h
 exact⟨j,e,h1⟩
theorem QK{d:List Rg}{i:Nat}{r:Rg}(h:i<d.length)(j:Nat):el (d.set i r) j=if i=j then r else el d j:=by
 unfold el
 rw[List.getD_eq_getElem?_getD,List.getElem?_set]
 by_cases bD:i=j
 ·subst bD
  simp[h]
 ·rw[if_neg bD,if_neg bD,List.getD_eq_getElem?_getD]
theorem Bq(l:Led)(k:Int):(aF l k).rs=bz l k:=(ou l k l.ts.length).2
theorem Gj{l:Led}{k:Int}{d:List Rg}{D:Ds}(h:Rel l k d D){j:Nat}(hj:pt l k j)(r w:Rg)
 (h1:w=⟨cg (bA D j).1 r.lo,dD (bA D j).2 r.hi⟩):Rel l k (d.set j w) (jY D j r)/\(ph l k (jY D j r)↔(w.lo<=w.hi/\ph l k D)):=by
 have iz:j<d.length:=by rw[h.1];exact E8 hj
 have e:∀ i:Nat,bA (jY D j r) i=if j=i then(w.lo,w.hi)else bA D i:=fun i=>by
  unfold jY
  rw[yS,h1]
  by_cases bD:j=i
  ·subst bD;rw[if_pos rfl,if_pos rfl]
  ·rw[if_neg (by omega),if_neg bD]
 have kP:(bA D j).1<=w.lo:=by rw[h1];show _<=cg _ _;unfold cg;split<;>omega
 have Ck:w.hi<=(bA D j).2:=by rw[h1];show dD _ _<=_;unfold dD;split<;>omega
 refine⟨⟨by rw[List.length_set];exact h.1,fun i hi=>?_⟩,?_⟩
 ·rw[QK iz,e]
  by_cases bD:j=i
  ·subst bD
   rw[if_pos rfl,if_pos rfl]
   have :=h.2 j hj
   exact⟨rfl,by show 0<=w.lo;omega,by show w.hi<=_;omega⟩
  ·rw[if_neg bD,if_neg bD];exact h.2 i hi
 ·constructor
  ·intro hf
   have eB:=hf j hj
   rw[e,if_pos rfl]at eB
   refine⟨eB,fun i hi=>?_⟩
   by_cases bD:j=i
   ·subst bD
    have :w.lo<=w.hi:=eB
    omega
   ·have:=hf i hi
    rw[e,if_neg bD]at this
    exact this
  ·rintro⟨hw,hf⟩ i hi
   rw[e]
   by_cases bD:j=i
   ·rw[if_pos bD];exact hw
   ·rw[if_neg bD];exact hf i hi
theorem Rv{l:Led}(aa:bx l){k:Int}(h0:dn (aI l k)=none){d:List Rg}{D:Ds}(h:Rel l k d D)(s:Sig):
 Rel l k (fR (aI l k) d s).1 (iE (aF l k) D s)/\(((fR (aI l k) d s).2=true/\ph l k D)↔(eV (aF l k) s=true/\ph l k (iE (aF l k) D s))):=by
 have ca:=Bq l k
 rcases Sy h0 ⟨s.pa,s.le⟩ s.da with⟨e1,e2⟩ | ⟨q,hq,e1,-,e2⟩
 ·have ub:hG (aF l k).rs s.pa s.le s.da=none:=by rw[ca];exact e2
  rw[Hr e1]
  have hw:bF (aF l k) s=if s.pe=0 then(-1,cA)else(-1,cm):=by unfold bF;rw[ub]
  have hf:iE (aF l k) D s=D:=by unfold iE;rw[hw];split<;>rfl
  have hm:eV (aF l k) s=(s.pe==0):=by
   unfold eV;rw[hw]
   by_cases hp:s.pe=0
   ·rw[if_pos hp,hp];rfl
   ·rw[if_neg hp]
    have :(s.pe==0)=false:=by simpa using hp
    rw[this];rfl
  rw[hf,hm]
  exact⟨h,Iff.rfl⟩
 ·have ub:hG (aF l k).rs s.pa s.le s.da=some (aw l q):=by rw[ca];exact e2
  have hbo:1<=(aw l q).bo:=by
   rw[dj hq]
   have :=aa.recs _ (List.getElem_mem hq)
   unfold dd cj at this
   simp only[Bool.and_eq_true,decide_eq_true_eq]at this
   exact this.1.1.1.1.2.1
  have dw:=AJ l k q s.le
  cases bR:bK (aF l k).bk ((aw l q).so,s.le)with
  |none=>
   rw[bR]at dw
   rw[Hq e1 dw]
   have hw:bF (aF l k) s=if s.pe=(aw l q).bo then(-1,cA)else(-1,cm):=by unfold bF;rw[ub];simp only[bR]
   have hf:iE (aF l k) D s=D:=by unfold iE;rw[hw];split<;>rfl
   have hm:eV (aF l k) s=(s.pe==(aw l q).bo):=by
    unfold eV;rw[hw]
    by_cases hp:s.pe=(aw l q).bo
    ·rw[if_pos hp,hp,beq_self_eq_true];rfl
    ·rw[if_neg hp]
     have :(s.pe==(aw l q).bo)=false:=by simpa using hp
     rw[this];rfl
   rw[hf,hm]
   exact⟨h,Iff.rfl⟩
  |some i=>
   obtain⟨j,rfl,hj⟩:=Yr bR
   rw[bR]at dw
   have B2:eo (aI l k) q s.le=(j:Int):=dw
   have hw:bF (aF l k) s=if s.pe=0 then((j:Int),(⟨0,s.da⟩:Rg))else if s.pe=(aw l q).bo then((j:Int),(⟨s.da+1,100000⟩:Rg))else(-1,cm):=by unfold bF;rw[ub];simp only[bR]
   obtain⟨dm,fB,UJ⟩:=h.2 j hj
   have cO:(j:Int)>=0:=by omega
   by_cases jA:s.pe=0
   ·have vR:(s.pe==(aw l q).bo)=false:=by rw[beq_eq_false_iff_ne];omega
    rw[Hu e1 B2 vR (by rw[jA];rfl)]
    have hf:iE (aF l k) D s=jY D j ⟨0,s.da⟩:=by unfold iE;rw[hw,if_pos jA];exact if_pos cO
    have hm:eV (aF l k) s=true:=by unfold eV;rw[hw,if_pos jA];simp
    rw[hf,hm]
    obtain⟨g1,g2⟩:=Gj h hj ⟨0,s.da⟩ ⟨(el d j).lo,dD (el d j).hi s.da⟩ (by rw[dm];show (⟨(bA D j).1,dD (bA D j).2 s.da⟩:Rg)=⟨cg (bA D j).1 0,dD (bA D j).2 s.da⟩;unfold cg;rw[if_neg (by omega)])
    refine⟨g1,?_⟩
    rw[g2]
    simp
   ·by_cases tK:s.pe=(aw l q).bo
    ·have vR:(s.pe==(aw l q).bo)=true:=by rw[beq_iff_eq];exact tK
     rw[Ht e1 B2 vR]
     have hf:iE (aF l k) D s=jY D j ⟨s.da+1,100000⟩:=by unfold iE;rw[hw,if_neg jA,if_pos tK];exact if_pos cO
     have hm:eV (aF l k) s=true:=by unfold eV;rw[hw,if_neg jA,if_pos tK];simp
     rw[hf,hm]
     obtain⟨g1,g2⟩:=Gj h hj ⟨s.da+1,100000⟩ ⟨cg (el d j).lo (s.da+1),(el d j).hi⟩ (by rw[dm];show (⟨cg (bA D j).1 (s.da+1),(bA D j).2⟩:Rg)=⟨cg (bA D j).1 (s.da+1),dD (bA D j).2 100000⟩;unfold dD;rw[if_neg (by omega)])
     refine⟨g1,?_⟩
     rw[g2]
     simp
    ·have vR:(s.pe==(aw l q).bo)=false:=by rw[beq_eq_false_iff_ne];exact tK
     rw[Hs e1 B2 vR (by rw[beq_eq_false_iff_ne];exact jA)]
     have hf:iE (aF l k) D s=D:=by unfold iE;rw[hw,if_neg jA,if_neg tK];rfl
     have hm:eV (aF l k) s=false:=by unfold eV;rw[hw,if_neg jA,if_neg tK];rfl
     rw[hf,hm]
     exact⟨h,by simp⟩
theorem FB(l:Led)(k:Int):∀ n,n<=l.ss.length->(gg (aI l k) n).map (fun i=>cU l i.toNat)=(l.ss.take n).filter fun s=>bJ s.kn s.un k
 | 0,_=>rfl
 |n+1,hn=>by
  rw[gg,List.take_add_one,List.getElem?_eq_getElem (by omega),List.filter_append,<-FB l k n (by omega)]
  have e:cU (aI l k).l n=l.ss[n]'(by omega):=nV (l:=l) (by omega)
  rw[e]
  show (if bJ _ _ k=true then _ else _:List Int).map _=_
  by_cases hc:bJ (l.ss[n]'(by omega)).kn (l.ss[n]'(by omega)).un k=true
  ·rw[if_pos hc,List.map_append]
   simp only[Option.toList,List.filter_cons,hc,if_true,List.filter_nil,List.map_cons,List.map_nil,Int.toNat_natCast,nV (show n<l.ss.length by omega)]
  ·rw[if_neg hc]
   simp[hc]
theorem xd(l:Led)(k:Int):(dt l k).map (fun i=>cU l i.toNat)=aX l k:=by
 unfold dt aX
 rw[FB l k _ (Nat.le_refl _),List.take_length]
theorem Du{l:Led}(aa:bx l){k:Int}(h0:dn (aI l k)=none){D0:Ds}(hD:D0=(aF l k).ds)(hr:Rel l k (k9 (aI l k) l.ts.length) D0)(hf:ph l k D0)(is:List Int):∀ m,m<=is.length->
 Rel l k (fb (aI l k) is m).1 (ft (aF l k) D0 ((is.take m).map fun i=>cU l i.toNat))/\
  ((fb (aI l k) is m).2=true↔(((is.take m).map fun i=>cU l i.toNat).all (eV (aF l k))=true/\ph l k (ft (aF l k) D0 ((is.take m).map fun i=>cU l i.toNat))))
 | 0,_=>⟨hr,⟨fun _=>⟨rfl,hf⟩,fun _=>rfl⟩⟩
 |m+1,hm=>by
  obtain⟨i1,i2⟩:=Du aa h0 hD hr hf is m (by omega)
  have e:(is.take (m+1)).map (fun i=>cU l i.toNat)=(is.take m).map (fun i=>cU l i.toNat)++[cU l (is.getD m 0).toNat]:=by
   rw[C' (by omega),List.map_append];rfl
  rw[e,List.all_append,fb]
  have e2:ft (aF l k) D0 ((is.take m).map (fun i=>cU l i.toNat)++[cU l (is.getD m 0).toNat])=iE (aF l k) (ft (aF l k) D0 ((is.take m).map fun i=>cU l i.toNat)) (cU l (is.getD m 0).toNat):=by
   unfold ft
   rw[List.foldl_append];rfl
  rw[e2]
  obtain⟨s1,s2⟩:=Rv aa h0 i1 (cU l (is.getD m 0).toNat)
  refine⟨s1,?_⟩
  show ((fb (aI l k) is m).2&&(fR (aI l k) (fb (aI l k) is m).1 (cU l (is.getD m 0).toNat)).2)=true↔_
  rw[Bool.and_eq_true,i2,Bool.and_eq_true]
  simp only[List.all_cons,List.all_nil,Bool.and_true]
  constructor
  ·rintro⟨⟨a,b⟩,c⟩
   obtain⟨d1,d2⟩:=s2.1 ⟨c,b⟩
   exact⟨⟨a,d1⟩,d2⟩
  ·rintro⟨⟨a,b⟩,c⟩
   obtain⟨d1,d2⟩:=s2.2 ⟨b,c⟩
   exact⟨⟨a,d2⟩,d1⟩
theorem Vi(b h da:Int)(os:List Rec)(h1:b<=h)(h2:∀ o∈os,o.da>da->b<=o.da):b<=nz h da os:=by
 induction os generalizing h with
 |nil=>exact h1
 |cons o r ih=>
  show b<=nz (if o.da>da then dD h o.da else h) da r
  refine ih _ ?_ fun o' h'=>h2 o' (by simp[h'])
  split
  ·rename_i hc
   have :=h2 o (by simp) hc
   unfold dD
   split<;>omega
  ·exact h1
theorem Vh(h da:Int)(os:List Rec):nz h da os<=h:=by
 induction os generalizing h with
 |nil=>exact Int.le_refl _
 |cons o r ih=>
  show nz (if o.da>da then dD h o.da else h) da r<=h
  refine Int.le_trans (ih _) ?_
  split
  ·unfold dD;split<;>omega
  ·exact Int.le_refl _
theorem LV{l:Led}(aa:bx l){k:Int}{j:Nat}(h:pt l k j):∃ q,∃ hq:q<l.rs.length,b8 l (aK l j).re k=(q:Int)/\kK (aK l j).re k (aw l q)=true/\
 bA (aF l k).ds j=(kq (aK l j) (aw l q),nz (aK l j).hi (aw l q).da (dq (bz l k) (aw l q).pa (aK l j).lv)):=by
 obtain⟨dO,jw⟩:=uT l k h
 obtain⟨q,hq,hx,hr⟩:=E7 jw
 refine⟨q,hq,hx,by rw[dj hq];exact hr,?_⟩
 have e:=Mw aa k h
 unfold mR at e
 rw[if_pos (show (aI l k).ts.getD j false=true from h)]at e
 have e':(⟨kq (aK l j) (aw l (b8 l (aK l j).re k).toNat),mS (aI l k) (aw l (b8 l (aK l j).re k).toNat) (aK l j) l.rs.length⟩:Rg)=⟨(bA (aF l k).ds j).1,(bA (aF l k).ds j).2⟩:=e
 rw[hx,Int.toNat_natCast,My]at e'
 injection e' with a b
 exact Prod.ext a.symm b.symm
theorem MC{l:Led}(aa:bx l)(k:Int):Rel l k (k9 (aI l k) l.ts.length) (aF l k).ds:=by
 refine⟨DY _ _,fun j hj=>?_⟩
 have iz:=E8 hj
 obtain⟨q,hq,-,-,hd⟩:=LV aa hj
 refine⟨?_,?_,?_⟩
 ·have:el (k9 (aI l k) l.ts.length) j=mR (aI l k) j:=by
    unfold el k9
    rw[List.getD_eq_getElem?_getD,List.getElem?_map,List.getElem?_range iz];rfl
  rw[this]
  exact Mw aa k hj
 ·rw[hd]
  have :0<=(aw l q).da:=by rw[dj hq];exact(qW aa (List.getElem_mem hq)).1
  show 0<=cg _ _
  unfold cg;split<;>omega
 ·rw[hd]
  refine Int.le_trans (Vh _ _ _) ?_
  have e:aK l j=l.ts[j]:=ck iz
  have :=nL aa.ts iz
  unfold gA dayB cj at this
  simp only[Bool.and_eq_true,decide_eq_true_eq]at this
  rw[e]
  exact this.1.2.2
theorem MD{l:Led}(aa:bx l){k:Int}(h0:dn (aI l k)=none):ph l k (aF l k).ds:=by
 intro j hj
 obtain⟨q,hq,hx,hr,hd⟩:=LV aa hj
 obtain⟨dO,jw⟩:=uT l k hj
 rw[hd]
 unfold gd at jw
 rw[if_neg (by rw[hx];omega),hx,Int.toNat_natCast]at jw
 simp only[Bool.and_eq_true,Bool.not_eq_true',decide_eq_false_iff_not,List.all_eq_true]at jw
 obtain⟨⟨-,ad5⟩,qd⟩:=jw
 refine Vi _ _ _ _ (by omega) fun o ho v7=>?_
 unfold dq bz at ho
 simp only[List.mem_filter]at ho
 obtain⟨⟨UQ,Kl⟩,mC⟩:=ho
 obtain⟨m,hm,rfl⟩:=List.getElem_of_mem UQ
 rw[<-dj hm]at Kl mC v7 |-
 unfold gE at mC
 rw[Ei]at mC
 simp only[Bool.and_eq_true,List.any_eq_true,beq_iff_eq]at mC
 obtain⟨tL,f,KE,Vr⟩:=mC
 have yp:=qd f KE
 unfold nl at yp
 simp only[Bool.and_eq_true,List.contains_iff_mem]at yp
 unfold kK at hr
 simp only[Bool.and_eq_true,beq_iff_eq]at hr
 have aE:m≠q:=fun e=>by subst e;omega
 have kQ:eI (aI l k) q m=false:=by
  rcases Nat.lt_or_gt_of_ne aE with ab | KC
  ·have:=(za _).1 h0 m hm q ab hq
   rw[DF,if_pos (show (aw l m).da>(aw l q).da from v7)]at this
   exact this
  ·have:=(za _).1 h0 q hq m KC hm
   rw[DF,if_neg (show ¬ (aw l q).da>(aw l m).da by omega)]at this
   exact this
 unfold eI at kQ
 have h3:=List.any_eq_false.1 kQ f yp.1
 unfold jK at h3
 have h4:eo (aI l k) q f=(j:Int):=by
  rw[AJ]
  have :=(sR l k).bk2 j hj f KE
  rw[<-hr.1]at this
  show (bK (aB l k l.ts.length).bk ((aw l q).so,f)).getD (-1)=_
  rw[this];rfl
 rw[h4]at h3
 have e1:cV (aI l k).k ⟨(aw (aI l k).l q).pa,f⟩ (aw (aI l k).l q)=true:=Hk hr.2 yp.1
 have e2:cV (aI l k).k ⟨(aw (aI l k).l q).pa,f⟩ (aw (aI l k).l m)=true:=by
  show cV k ⟨(aw l q).pa,f⟩ (aw l m)=true
  unfold cV
  simp[Kl,tL,List.contains_iff_mem.1 Vr]
 rw[e1,e2,Int.toNat_natCast]at h3
 simp only[Bool.true_and,Bool.or_eq_true,decide_eq_true_eq,not_or]at h3
 exact Int.not_lt.1 h3.2
theorem W9{l:Led}(aa:bx l){k:Int}(h0:dn (aI l k)=none):Rel l k (oX l k).1 (uV (aF l k) k).ds/\(oX l k).2=ei (aF l k) (aX l k):=by
 have h:=Du aa h0 rfl (MC aa k) (MD aa h0) (dt l k) _ (Nat.le_refl _)
 rw[List.take_length,xd]at h
 have hs:(uV (aF l k) k).ds=ft (aF l k) (aF l k).ds (aX l k):=by
  unfold uV;rw[oh]
 rw[hs]
 refine⟨h.1,?_⟩
 rw[Bool.eq_iff_iff]
 unfold ei
 rw[Bool.and_eq_true,Lt]
 exact h.2
theorem OJ{l:Led}(aa:bx l)(k:Int):kz l k=eS l k:=by
 unfold kz eS
 rw[oh]
 cases hp:dR (aF l k)with
 |none=>
  have h0:=(GV l k).1 hp
  rw[h0,(W9 aa h0).2]
  cases ei (aF l k) (aX l k)<;>rfl
 |some p=>
  have h0:dn (aI l k)≠none:=fun h=>by rw[(GV l k).2 h]at hp;cases hp
  have :(dn (aI l k)).isSome=true:=by rw[Option.isSome_iff_ne_none];exact h0
  rw[this]
  rfl
noncomputable section
structure Ask where
 (da kn pa le pe so:Int)
 deriving Inhabited
def LU(x:Ask):V:=.agg [vInt x.da,vInt x.kn,vInt x.pa,vInt x.le,vInt x.pe,vInt x.so]
def L5:V->Ask
 | .agg [.int _ a,.int _ b,.int _ c,.int _ d,.int _ e,.int _ f]=>⟨a,b,c,d,e,f⟩
 |_=>default
def Uk:En Ask:=⟨LU,L5⟩
attribute [go_sem] LU L5 Uk
@[go_sem] theorem aeh(x:Ask):(⟨x.da,x.kn,x.pa,x.le,x.pe,x.so⟩:Ask)=x:=rfl
theorem uD{l:Led}{ds:List Int}(h:dB l ds=0):bx l/\∀ d∈ds,dayB d=true:=by
 unfold dB at h
 split at h
 ·cases h
 ·rename_i h1
  have eQ:n9 l=true:=by simpa using h1
  refine⟨A4.1 eQ,?_⟩
  split at h
  ·rename_i h2;exact List.all_eq_true.1 h2
  ·cases h
def K52:List (Nat×Spec):=[(98,m4),(100,EE),(99,qD)]
attribute [go_sem] K52
end
set_option maxHeartbeats 8000000
noncomputable section
def K75a:List (Nat×Spec):=[(183,Nq)]
theorem aaf:KS K75a:=tc FO.sound<|tn
attribute [go_sem] K75a
@[go_sem] def P136:PSpec:=p2 eO cH (fun x is=>pf x/\is.length<=60/\∀ a∈is,0<=a/\a<x.l.ss.length) (fun x is=>.bool (!(fb x is is.length).2)) true
@[go_sem] def NB:Spec:=P136.toSpec
theorem FX:aN Tryz.prog 136 P136:=by
 refine cX (rs:=[.tmp 4]) Tryz.func136 Tryz.ntmps136 fun x az hp hw=>?_
 simp only[cH,eO]at hw |-
 have hΓ:=aaf
 repeat refine sq ?_
 refine rx hΓ [1,2] [[2,0]] (fun K' hK=>by simp only[go_sem];exact ak) ?_
 repeat refine sq ?_
 refine rx hΓ [6] [] (fun K' hK=>by simp only[go_sem];(repeat (refine⟨by first | exact ao | exact hp,?_⟩));exact ct) ?_
 repeat refine sq ?_
 refine rx hΓ [4] [] (fun K' hK=>by simp only[go_sem];exact ak) ?_
 refine au ?_
 simp only[go_sem]
 all_goals exact c9
def ig(l:Led)(k:Int):Nat->List Int
 | 0=>[]
 |s+1=>if (bw l k l.ts.length).getD s false=true then ig l k s++[(aK l s).so]else ig l k s
theorem E4(l:Led)(k:Int):∀ s,(ig l k s).length<=s
 | 0=>Nat.le_refl _
 |s+1=>by
  have :=E4 l k s
  rw[ig]
  split
  ·rw[List.length_append];simp;omega
  ·omega
def po(l:Led)(k:Int):List Int:=if dB l [k]=0 then ig l k l.ts.length else[]
def K75b:List (Nat×Spec):=[(98,m4),(71,Er)]
theorem aae:KS K75b:=tc Aq.sound<|tc FM.sound<|tn
attribute [go_sem] K75b
@[go_sem] def P52:PSpec:=p2 iL iI (fun _ _=>True) (fun l k=>.tup [.sl ((po l k).map vInt),vInt (dB l [k])]) false
@[go_sem] def Zp:Spec:=P52.toSpec
theorem PK:aN Tryz.prog 52 P52:=by
 refine cX (rs:=[.tmp 4,.tmp 5]) Tryz.func52 Tryz.ntmps52 fun l k hp hw=>?_
 simp only[iI,iL,dA]at hw |-
 have hΓ:=aae
 repeat refine sq ?_
 refine rx hΓ [1,2] [[2,0]] (fun K' hK=>by simp only[go_sem];exact ak) ?_
 repeat refine sq ?_
 refine rx hΓ [1,2,6] [[2,0]] (fun K' hK=>by simp only[go_sem];exact ak) ?_
 repeat refine sq ?_
 refine rx hΓ [1,2,6,15] [[2,0]] (fun K' hK=>by simp only[go_sem];exact ak) ?_
 repeat refine sq ?_
 refine av (fun hb=>?_) fun hb=>?_
 ·repeat refine sq ?_
  have hc:¬ dB l [k]=0:=by simpa using hb
  have e2:po l k=[]:=by unfold po;rw[if_neg hc]
  repeat refine sq ?_
  refine rx hΓ [4,5] [[38,0]] (fun K' hK=>by simp only[go_sem];exact ak) ?_
  refine au ?_
  simp only[go_sem]
  first | (rw[e2];done) | (rw[e2];rfl) | (rw[e2,hc];done) | (rw[e2,hc];rfl) | trace_state
 ·repeat refine sq ?_
  have hc:dB l [k]=0:=by simpa using hb
  have e2:po l k=ig l k l.ts.length:=by unfold po;rw[if_pos hc]
  obtain⟨aa,_⟩:=uD hc
  have oB:=aa.tsn
  have gT:=pr l k l.ts.length
  have hl:l.ts.length<=maxLen:=by unfold maxLen;omega
  refine ax ?_
  repeat refine sq ?_
  refine rx hΓ [2,7] [[2,0]] (fun K' hK=>by simp only[go_sem];(repeat (refine⟨by first | exact ao | exact aa,?_⟩));exact ct) ?_
  repeat refine sq ?_
  refine rx hΓ [2,7,8] [[2,0],[38,0]] (fun K' hK=>by simp only[go_sem];exact ak) ?_
  refine dp (pk 8 [38,0] 1 (by simp only[go_sem]) (by simp only[go_sem]) [2,7,8] [[2,0],[38,0]] ?_ rfl) ?_
  ·simp only[go_sem]
  simp only[go_sem]
  repeat refine sq ?_
  refine rx hΓ [2,7,8,9] [[2,0],[38,0]] (fun K' hK=>by simp only[go_sem];exact ak) ?_
  repeat refine sq ?_
  refine aH ?_
  repeat refine sq ?_
  refine bB (fun s:Nat=>[(9,⟨true,.v (vInt s)⟩),(8,⟨true,.msl [38,0] (ig l k s).length⟩)]) (fun s=>[([38,0],.arr 1 ((ig l k s).map vInt))]) (fun s=>s<=l.ts.length) (fun s=>l.ts.length-s) 0 ?_ ?_ ?_ ?_
  ·exact Nat.zero_le _
  ·rfl
  ·rfl
  rintro i hi
  simp only[go_sem]
  repeat refine sq ?_
  refine rx hΓ [2,7,8,9,23] [[2,0],[38,0]] (fun K' hK=>by simp only[go_sem,List.length_map,gT];exact ak) ?_
  repeat refine sq ?_
  refine av (fun hb=>?_) fun hb=>?_
  ·have ab:i<l.ts.length:=by simpa using hb
   have an:(i:Int)<l.ts.length:=by omega
   clear hb
   have ny:i<(bw l k l.ts.length).length:=by omega
   have e0:=jQ ab
   have ep:=E4 l k i
   repeat refine sq ?_
   refine ax ?_
   repeat refine sq ?_
   refine aH ?_
   repeat refine sq ?_
   refine rx hΓ [2,7,8,9,29] [[2,0],[38,0]] (fun K' hK=>by simp only[go_sem,nk ny,ae ab,ah,ai,an,List.length_map,gT];exact ak) ?_
   repeat refine sq ?_
   refine av (fun hb=>?_) fun hb=>?_
   ·repeat refine sq ?_
    have eS:ig l k (i+1)=ig l k i++[l.ts[i].so]:=by rw[ig,if_pos hb,e0]
    repeat refine sq ?_
    refine aM hΓ fun K' hK=>?_
    simp only[go_sem,nk ny,ae ab,ah,ai,an,List.length_map,gT]
    repeat (refine⟨ao,?_⟩)
    refine hK _ ?_
    clear K' hK
    simp only[go_sem]
    refine kp [2,7,8,9] [[2,0],[38,0]] ?_
    repeat refine sq ?_
    refine aM hΓ fun K' hK=>?_
    simp only[go_sem,nk ny,ae ab,ah,ai,an,List.length_map,gT]
    repeat (refine⟨ao,?_⟩)
    refine hK _ ?_
    clear K' hK
    simp only[go_sem]
    refine⟨i+1,ab,by(show l.ts.length-(i+1)<l.ts.length-i;omega),?_⟩
    refine aY [2,7,8,9] [[2,0],[38,0]] ?_ ?_<;>simp only[go_sem,aT ab hl,aU,eS,List.map_append,List.length_append,List.map_cons,List.map_nil,List.length_cons,List.length_nil]
   ·repeat refine sq ?_
    have eS:ig l k (i+1)=ig l k i:=by rw[ig,if_neg (by rw[hb];decide)]
    refine ax ?_
    refine bE ?_
    simp only[go_sem]
    refine kp [2,7,8,9] [[2,0],[38,0]] ?_
    repeat refine sq ?_
    refine aM hΓ fun K' hK=>?_
    simp only[go_sem,nk ny,ae ab,ah,ai,an,List.length_map,gT]
    repeat (refine⟨ao,?_⟩)
    refine hK _ ?_
    clear K' hK
    simp only[go_sem]
    refine⟨i+1,ab,by(show l.ts.length-(i+1)<l.ts.length-i;omega),?_⟩
    refine aY [2,7,8,9] [[2,0],[38,0]] ?_ ?_<;>simp only[go_sem,aT ab hl,aU,eS,List.map_append,List.length_append,List.map_cons,List.map_nil,List.length_cons,List.length_nil]
  ·have be:i=l.ts.length:=by
    have :¬ (i:Int)<l.ts.length:=by simpa using hb
    omega
   clear hb
   subst be
   repeat refine sq ?_
   refine bp ?_
   simp only[go_sem]
   refine kp [8] [[38,0]] ?_
   repeat refine sq ?_
   refine rx hΓ [4,5] [[38,0]] (fun K' hK=>by simp only[go_sem];exact ak) ?_
   refine au ?_
   simp only[go_sem]
   first | (rw[e2];done) | (rw[e2];rfl) | (rw[e2,hc];done) | (rw[e2,hc];rfl) | trace_state
theorem Xu(x:RV):(((kW x).length:Int)==0)=(dn x).isNone:=by unfold kW;cases dn x<;>rfl
def nH(l:Led)(k:Int):Int:=if dB l [k]=0 then(if (dn (aI l k)).isNone=true then 28 else 0)else dB l [k]
def qq(l:Led)(k:Int):List Int:=if dB l [k]=0 then kW (aI l k)else[]
def K75c:List (Nat×Spec):=[(98,m4),(73,zN),(133,ND),(99,qD)]
theorem EJ:KS K75c:=tc Aq.sound<|tc As.sound<|tc FZ.sound<|tc Ps.sound<|tn
attribute [go_sem] K75c
@[go_sem] def P53:PSpec:=p2 iL iI (fun _ _=>True) (fun l k=>.tup [.sl ((qq l k).map vInt),vInt (nH l k)]) false
@[go_sem] def Zo:Spec:=P53.toSpec
theorem PJ:aN Tryz.prog 53 P53:=by
 refine cX (rs:=[.tmp 4,.tmp 5]) Tryz.func53 Tryz.ntmps53 fun l k hp hw=>?_
 simp only[iI,iL,dA]at hw |-
 have hΓ:=EJ
 repeat refine sq ?_
 refine rx hΓ [1,2] [[2,0]] (fun K' hK=>by simp only[go_sem];exact ak) ?_
 repeat refine sq ?_
 refine rx hΓ [1,2,6] [[2,0]] (fun K' hK=>by simp only[go_sem];exact ak) ?_
 repeat refine sq ?_
 refine rx hΓ [1,2,6,13] [[2,0]] (fun K' hK=>by simp only[go_sem];exact ak) ?_
 repeat refine sq ?_
 refine av (fun hb=>?_) fun hb=>?_
 ·repeat refine sq ?_
  have hc:¬ dB l [k]=0:=by simpa using hb
  have e:nH l k=dB l [k]:=by unfold nH;rw[if_neg hc]
  have e2:qq l k=[]:=by unfold qq;rw[if_neg hc]
  repeat refine sq ?_
  refine rx hΓ [4,5] [] (fun K' hK=>by simp only[go_sem];exact ak) ?_
  refine au ?_
  simp only[go_sem]
  first | (rw[e,e2];done) | (rw[e,e2];rfl) | trace_state
 ·repeat refine sq ?_
  have hc:dB l [k]=0:=by simpa using hb
  have e2:qq l k=kW (aI l k):=by unfold qq;rw[if_pos hc]
  obtain⟨aa,_⟩:=uD hc
  refine ax ?_
  repeat refine sq ?_
  refine rx hΓ [7] [] (fun K' hK=>by simp only[go_sem];(repeat (refine⟨by first | exact ao | exact aa | exact sX aa k,?_⟩));exact ct) ?_
  repeat refine sq ?_
  refine rx hΓ [7,21] [] (fun K' hK=>by simp only[go_sem,List.length_map,Xu];exact ak) ?_
  repeat refine sq ?_
  refine av (fun hb=>?_) fun hb=>?_
  ·repeat refine sq ?_
   have e:nH l k=28:=by unfold nH;rw[if_pos hc,if_pos hb]
   have e3:kW (aI l k)=[]:=by unfold kW;rw[Option.isNone_iff_eq_none.1 hb]
   rw[e3]at e2
   repeat refine sq ?_
   refine rx hΓ [4,5] [] (fun K' hK=>by simp only[go_sem];exact ak) ?_
   refine au ?_
   simp only[go_sem]
   first | (rw[e,e2];done) | (rw[e,e2];rfl) | trace_state
  ·repeat refine sq ?_
   have e:nH l k=0:=by unfold nH;rw[if_pos hc,if_neg (by rw[hb];decide)]
   refine ax ?_
   repeat refine sq ?_
   refine rx hΓ [4,5] [] (fun K' hK=>by simp only[go_sem];exact ak) ?_
   refine au ?_
   simp only[go_sem]
   first | (rw[e,e2];done) | (rw[e,e2];rfl) | trace_state
def py(l:Led)(k:Int):Bool:=dB l [k]==0&&kz l k==0
@[go_sem] def P55:PSpec:=p2 iL iI (fun _ _=>True) (fun l k=>.tup [.bool (py l k),vInt (dB l [k])]) true
@[go_sem] def Zm:Spec:=P55.toSpec
theorem PH:aN Tryz.prog 55 P55:=by
 refine cX (rs:=[.tmp 4,.tmp 5]) Tryz.func55 Tryz.ntmps55 fun l k hp hw=>?_
 simp only[iI,iL,dA]at hw |-
 have hΓ:=EJ
 repeat refine sq ?_
 refine rx hΓ [1,2] [[2,0]] (fun K' hK=>by simp only[go_sem];exact ak) ?_
 repeat refine sq ?_
 refine rx hΓ [1,2,6] [[2,0]] (fun K' hK=>by simp only[go_sem];exact ak) ?_
 repeat refine sq ?_
 refine rx hΓ [1,2,6,14] [[2,0]] (fun K' hK=>by simp only[go_sem];exact ak) ?_
 repeat refine sq ?_
 refine av (fun hb=>?_) fun hb=>?_
 ·repeat refine sq ?_
  have hc:¬ dB l [k]=0:=by simpa using hb
  have e:py l k=false:=by unfold py;rw[beq_eq_false_iff_ne.2 hc];rfl
  repeat refine sq ?_
  refine rx hΓ [4,5] [] (fun K' hK=>by simp only[go_sem];exact ak) ?_
  refine au ?_
  simp only[go_sem]
  first | (rw[e];done) | (rw[e];rfl) | (rw[e,hc];done) | (rw[e,hc];rfl) | trace_state
 ·repeat refine sq ?_
  have hc:dB l [k]=0:=by simpa using hb
  have e:py l k=(kz l k==0):=by unfold py;rw[hc];rfl
  obtain⟨aa,_⟩:=uD hc
  refine ax ?_
  repeat refine sq ?_
  refine rx hΓ [8] [] (fun K' hK=>by simp only[go_sem];(repeat (refine⟨by first | exact ao | exact aa,?_⟩));exact ct) ?_
  repeat refine sq ?_
  refine rx hΓ [4,5] [] (fun K' hK=>by simp only[go_sem];exact ak) ?_
  refine au ?_
  simp only[go_sem]
  first | (rw[e];done) | (rw[e];rfl) | (rw[e,hc];done) | (rw[e,hc];rfl) | trace_state
def zeroRV:RV:=⟨⟨[],[],[],[]⟩,0,[],[]⟩
def fI(l:Led)(k:Int):Int:=if dB l [k]=0 then(if (dn (aI l k)).isSome=true then 25 else 0)else dB l [k]
def mU(l:Led)(k:Int):RV:=if fI l k=0 then aI l k else zeroRV
@[go_sem] def P134:PSpec:=p2 iL iI (fun _ _=>True) (fun l k=>.tup [sd (mU l k),vInt (fI l k)]) false
@[go_sem] def NC:Spec:=P134.toSpec
theorem FY:aN Tryz.prog 134 P134:=by
 refine cX (rs:=[.cell 4 108,.tmp 5]) Tryz.func134 Tryz.ntmps134 fun l k hp hw=>?_
 simp only[iI,iL,dA]at hw |-
 have hΓ:=EJ
 repeat refine sq ?_
 refine rx hΓ [1,2,4] [[2,0],[4,0]] (fun K' hK=>by simp only[go_sem];exact ak) ?_
 repeat refine sq ?_
 refine rx hΓ [1,2,4,6] [[2,0],[4,0]] (fun K' hK=>by simp only[go_sem];exact ak) ?_
 repeat refine sq ?_
 refine rx hΓ [1,2,4,6,13] [[2,0],[4,0]] (fun K' hK=>by simp only[go_sem];exact ak) ?_
 repeat refine sq ?_
 refine av (fun hb=>?_) fun hb=>?_
 ·repeat refine sq ?_
  have hc:¬ dB l [k]=0:=by simpa using hb
  have e:fI l k=dB l [k]:=by unfold fI;rw[if_neg hc]
  have e2:mU l k=zeroRV:=by unfold mU;rw[e,if_neg hc]
  repeat refine sq ?_
  refine rx hΓ [4,5] [[4,0]] (fun K' hK=>by simp only[go_sem];exact ak) ?_
  refine au ?_
  simp only[go_sem]
  first | (rw[e,e2];done) | (rw[e,e2];rfl) | trace_state
 ·repeat refine sq ?_
  have hc:dB l [k]=0:=by simpa using hb
  obtain⟨aa,_⟩:=uD hc
  refine ax ?_
  repeat refine sq ?_
  refine rx hΓ [4,7] [[4,0],[7,0]] (fun K' hK=>by simp only[go_sem];(repeat (refine⟨by first | exact ao | exact aa,?_⟩));exact ct) ?_
  repeat refine sq ?_
  refine rx hΓ [4,7,22] [[4,0],[7,0]] (fun K' hK=>by simp only[go_sem,List.length_map,L9];(repeat (refine⟨by first | exact ao | exact sX aa k,?_⟩));exact ct) ?_
  repeat refine sq ?_
  refine av (fun hb=>?_) fun hb=>?_
  ·repeat refine sq ?_
   have e:fI l k=25:=by unfold fI;rw[if_pos hc,if_pos hb]
   have e2:mU l k=zeroRV:=by unfold mU;rw[e];rfl
   repeat refine sq ?_
   refine rx hΓ [4,5] [[4,0]] (fun K' hK=>by simp only[go_sem];exact ak) ?_
   refine au ?_
   simp only[go_sem]
   first | (rw[e,e2];done) | (rw[e,e2];rfl) | trace_state
  ·repeat refine sq ?_
   have e:fI l k=0:=by unfold fI;rw[if_pos hc,if_neg (by rw[hb];decide)]
   have e2:mU l k=aI l k:=by unfold mU;rw[if_pos e]
   refine ax ?_
   repeat refine sq ?_
   refine rx hΓ [4,5] [[4,0]] (fun K' hK=>by simp only[go_sem];exact ak) ?_
   refine au ?_
   simp only[go_sem]
   first | (rw[e,e2];done) | (rw[e,e2];rfl) | trace_state
end
end Go.Eng
