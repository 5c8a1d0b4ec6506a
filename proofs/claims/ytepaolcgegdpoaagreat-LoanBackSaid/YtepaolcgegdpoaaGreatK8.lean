import Derived.Test.YtepaolcgegdpoaaGreatK7
/- Texts LW40 to LM5. -/
set_option linter.all false
namespace Go.Eng
open Go Go.Proofs
set_option maxRecDepth 10000
noncomputable section
theorem zh{l:Led}(h:bE l){r:Rec}(hr:r∈l.rs):Iz r:=by
 obtain⟨j,hj,rfl⟩:=List.getElem_of_mem hr
 have :=mA h.rs hj
 unfold dJ at this
 simp only[Bool.and_eq_true]at this
 have hd:=this.1.2
 unfold dayB cb at hd
 simp at hd
 exact hd
theorem TI{l:Led}(h:bE l){i:Nat}(hi:i<l.ts.length):l.ts[i].lv.length<=30:=by
 have :=mA h.ts hi
 unfold jR at this
 simp only[Bool.and_eq_true]at this
 exact(ov.1 this.1.1.1.2).2.1
def an(l:Led)(i:Nat):Rec:=l.rs.getD i zeroR
theorem um(l:Led)(so k:Int):b9 l so k= -1\/∃ j,∃ h:j<l.rs.length,b9 l so k=(j:Int)/\iJ so k l.rs[j]=true:=by
 unfold b9 dE
 by_cases h:(l.rs.any fun r=>r.so==so&&bG r.kn r.un k)=true
 ·rw[if_pos h]
  have ab:l.rs.findIdx (fun r=>r.so==so&&bG r.kn r.un k)<l.rs.length:=List.findIdx_lt_length_of_exists (by obtain⟨x,hx,hp⟩:=List.any_eq_true.1 h;exact⟨x,hx,hp⟩)
  exact .inr ⟨_,ab,rfl,List.findIdx_getElem (w:=ab)⟩
 ·rw[if_neg h];exact .inl rfl
def mR(l:Led)(row:List Bool)(x:Ret)(f:Int)(j:Nat):Bool:=!(row.getD j false&&(aD l j).re==x.re&&(aD l j).lv.contains f)
def lM(p:Nat->Bool)(j:Nat):Bool:=(List.range j).all p
def ou(l:Led)(row:List Bool)(i:Nat)(r:Rec)(x:Ret)(f:Int):Bool:=r.lv.contains f&&lM (mR l row x f) i
def gg(l:Led)(k:Int)(row:List Bool)(i:Nat):Bool:=
 if b9 l (aD l i).re k<0 then false else
   (bG (aD l i).kn (aD l i).un k&&!decide (lH (aD l i) (an l (b9 l (aD l i).re k).toNat)>(aD l i).hi))&&
     (aD l i).lv.all (ou l row i (an l (b9 l (aD l i).re k).toNat) (aD l i))
def bn(l:Led)(k:Int):Nat->List Bool
 | 0=>List.replicate l.ts.length false
 |s+1=>if gg l k (bn l k s) s=true then(bn l k s).set s true else bn l k s
theorem k9(l:Led)(k:Int)(s:Nat):(bn l k s).length=l.ts.length:=by
 induction s with
 |zero=>simp[bn]
 |succ s ih=>unfold bn;split<;>simp[ih]
theorem yH(l:Led)(k:Int){s j:Nat}(h:s<=j):(bn l k s).getD j false=false:=by
 induction s with
 |zero=>
  simp only[bn,List.getD_eq_getElem?_getD,List.getElem?_replicate]
  split<;>rfl
 |succ s ih=>
  unfold bn
  split
  ·rw[List.getD_eq_getElem?_getD,List.getElem?_set_ne (by omega),<-List.getD_eq_getElem?_getD];exact ih (by omega)
  ·exact ih (by omega)
theorem Hq(l:Led)(k:Int){s:Nat}(h:s<l.ts.length):(bn l k s).set s (gg l k (bn l k s) s)=bn l k (s+1):=by
 rw[bn]
 split
 ·rename_i e;rw[e]
 ·rename_i e
  have e2:gg l k (bn l k s) s=false:=by simpa using e
  have e3:=yH l k (Nat.le_refl s)
  rw[List.getD_eq_getElem?_getD,List.getElem?_eq_getElem (by rw[k9];exact h)]at e3
  have e4:(bn l k s)[s]'(by rw[k9];exact h)=false:=e3
  rw[e2,<-e4]
  exact List.set_getElem_self _
theorem yG(l:Led)(k:Int){s:Nat}(e:gg l k (bn l k s) s=false):bn l k (s+1)=bn l k s:=by
 rw[bn,if_neg (by rw[e];decide)]
theorem SX(l:Led)(k:Int):List.replicate l.ts.length (V.bool false)=(bn l k 0).map V.bool:=by rw[bn,List.map_replicate]
theorem cE{l:Led}{i:Nat}(h:i<l.rs.length):an l i=l.rs[i]:=by unfold an;rw[List.getD_eq_getElem?_getD,List.getElem?_eq_getElem h];rfl
theorem wH{L:List Bool}{j:Nat}{d:V}(h:j<L.length):(L.map V.bool).getD j d=.bool (L.getD j false):=by
 simp[List.getD_eq_getElem?_getD,h]
theorem abO(p:Nat->Bool)(j:Nat):lM p (j+1)=(lM p j&&p j):=by
 unfold lM
 rw[List.range_succ,List.all_append];simp
theorem uG:decide ((-1:Int)<0)=true:=rfl
theorem Rb(row:List Bool)(i:Nat)(b:Bool):(row.map V.bool).set i (.bool b)=(row.set i b).map V.bool:=List.map_set.symm
def K40:List (Nat×Spec):=[(70,ym),(157,BE),(158,GK),(15,pR)]
theorem acT:KS K40:=tc H4.sound<|tc Cb.sound<|tc Si.sound<|tc wh.sound<|tn
attribute [go_sem] K40
@[go_sem] def P71:PSpec:=p2 iL iI (fun l _=>bE l) (fun l k=>.sl ((bn l k l.ts.length).map .bool)) false
@[go_sem] def BD:Spec:=P71.toSpec
set_option maxHeartbeats 8000000 in
theorem Ca:aZ Tryz.prog 71 P71:=by
 refine fD (rs:=[.tmp 4]) Tryz.func71 Tryz.ntmps71 fun l k hp hw=>?_
 have hP:=fU
 simp only[iI,iL,gM]at hw |-
 have hΓ:=acT
 have nx:=hp.rsn
 have DX:=hp.tsn
 have kb:l.ts.length<=maxLen:=by unfold maxLen;omega
 repeat refine sq ?_
 refine rx hΓ [1,2] [[2,0]] (fun K' hK=>by simp only[go_sem];exact aq) ?_
 repeat refine sq ?_
 refine rx hΓ [1,2,5] [[2,0],[15,0]] (fun K' hK=>by simp only[go_sem,ai,SX l k];exact aq) ?_
 repeat refine sq ?_
 refine rx hΓ [1,2,5,6] [[2,0],[15,0]] (fun K' hK=>by simp only[go_sem];exact aq) ?_
 repeat refine sq ?_
 refine aR ?_
 repeat refine sq ?_
 refine cr (fun s:Nat=>[(6,⟨true,.v (vInt s)⟩)]) (fun s=>[([15,0],.arr 1 ((bn l k s).map .bool))]) (fun s=>s<=l.ts.length) (fun s=>l.ts.length-s) 0 ?_ ?_ ?_ ?_
 ·exact Nat.zero_le _
 ·rfl
 ·rfl
 rintro i hi
 simp only[go_sem]
 repeat refine sq ?_
 refine rx hΓ [1,2,5,6,20] [[2,0],[15,0]] (fun K' hK=>by simp only[go_sem];exact aq) ?_
 repeat refine sq ?_
 refine aB (fun hb=>?_) fun hb=>?_
 ·have ab:i<l.ts.length:=by simpa using hb
  have ao:(i:Int)<l.ts.length:=by omega
  clear hb
  have l8:=k9 l k i
  generalize D2:bn l k i=row at l8
  repeat refine sq ?_
  refine aJ ?_
  repeat refine sq ?_
  refine aR ?_
  repeat refine sq ?_
  refine rx hΓ [1,2,5,6,7] [[2,0],[7,0],[15,0]] (fun K' hK=>by simp only[go_sem,ah ab,ai,aj,ao];exact aq) ?_
  repeat refine sq ?_
  refine rx hΓ [1,2,5,6,7,8] [[2,0],[7,0],[15,0]] (fun K' hK=>by simp only[go_sem,ah ab,ai,aj,ao,nx];exact aq) ?_
  rcases um l l.ts[i].re k with gp | ⟨j0,cG,gp,hrp⟩
  ·repeat refine sq ?_
   refine dx hΓ hP [[],[0],[0,1],[0,1,2],u4,[0,1,2],[0,1,2,5],[0,1,2],u8,u9,cB,fm,dO,dO,[0,1,2,3,4,5,6,7,8,9,10,11,13],dO,[0,1,2,3,4,5,6,7,8,9,10,11,13,14,15],[0,1,2,3,4,5,6,7,8,9,10,11,13,14,15,16],iA,dO,[0,1,2,3,4,5,6,7,8,9,10,11,19],[0,1,2,3,4,5,6,7,8,9,10,11,19,20],yC,rD] [1,2,5,6,7,8,56] [[2,0],[7,0],[15,0]] (by kernel_rfl) (fun K' hK=>by simp only[go_sem,ah ab,ai,aj,ao,gp,List.length_map];(repeat (refine⟨by first | exact ak | exact fun h=>⟨h,zh hp (List.getElem_mem cG)⟩ | (cases bG l.ts[i].kn l.ts[i].un k<;>rfl),?_⟩));exact fM) ?_
   repeat refine sq ?_
   refine aB (fun hb=>?_) fun hb=>?_
   ·repeat refine sq ?_
    have e0:bn l k (i+1)=row:=by
     rw[yG l k (by unfold gg;rw[jL ab,gp];rfl),D2]
    refine bR ?_
    simp only[go_sem]
    refine kp [1,2,5,6] [[2,0],[15,0]] ?_
    repeat refine sq ?_
    refine aS hΓ fun K' hK=>?_
    simp only[go_sem,ah ab,ai,aj,ao,gp]
    repeat (refine⟨ak,?_⟩)
    refine hK _ ?_
    clear K' hK
    simp only[go_sem]
    refine⟨i+1,ab,by(show l.ts.length-(i+1)<l.ts.length-i;omega),?_⟩
    refine bg [1,2,5,6] [[2,0],[15,0]] ?_ ?_<;>simp only[go_sem,a7 ab kb,bb,e0]
   ·cases hb
  ·have dM:decide ((j0:Int)<0)=false:=by simp
   have EI:(j0:Int)<l.rs.length:=by omega
   repeat refine sq ?_
   refine dx hΓ hP [[],[0],[0,1],[0,1,2],u4,[0,1,2],[0,1,2,5],[0,1,2],u8,u9,cB,fm,dO,dO,[0,1,2,3,4,5,6,7,8,9,10,11,13],dO,[0,1,2,3,4,5,6,7,8,9,10,11,13,14,15],[0,1,2,3,4,5,6,7,8,9,10,11,13,14,15,16],iA,dO,[0,1,2,3,4,5,6,7,8,9,10,11,19],[0,1,2,3,4,5,6,7,8,9,10,11,19,20],yC,rD] [1,2,5,6,7,8,56] [[2,0],[7,0],[15,0]] (by kernel_rfl) (fun K' hK=>by simp only[go_sem,ah ab,ai,aj,ao,gp,ah cG,dM,List.length_map];(repeat (refine⟨by first | exact ak | exact fun h=>⟨h,zh hp (List.getElem_mem cG)⟩ | (cases bG l.ts[i].kn l.ts[i].un k<;>rfl),?_⟩));exact fM) ?_
   repeat refine sq ?_
   refine aB (fun hb=>?_) fun hb=>?_
   ·repeat refine sq ?_
    have e0:bn l k (i+1)=row:=by
     rw[yG l k (by unfold gg;rw[jL ab,gp,if_neg (by omega),ai,cE cG];simp only[Bool.and_eq_false_iff];exact .inl (by simpa[Bool.and_eq_false_iff]using hb)),D2]
    refine bR ?_
    simp only[go_sem]
    refine kp [1,2,5,6] [[2,0],[15,0]] ?_
    repeat refine sq ?_
    refine aS hΓ fun K' hK=>?_
    simp only[go_sem,ah ab,ai,aj,ao,gp,ah cG,dM]
    repeat (refine⟨ak,?_⟩)
    refine hK _ ?_
    clear K' hK
    simp only[go_sem]
    refine⟨i+1,ab,by(show l.ts.length-(i+1)<l.ts.length-i;omega),?_⟩
    refine bg [1,2,5,6] [[2,0],[15,0]] ?_ ?_<;>simp only[go_sem,a7 ab kb,bb,e0]
   ·repeat refine sq ?_
    have M':bG l.ts[i].kn l.ts[i].un k=true:=by cases YW:bG l.ts[i].kn l.ts[i].un k with | true=>rfl | false=>rw[YW]at hb;simp at hb
    have YJ:¬ lH l.ts[i] l.rs[j0]>l.ts[i].hi:=by rw[M']at hb;simpa using hb
    have Xo:gg l k row i=l.ts[i].lv.all (ou l row i l.rs[j0] l.ts[i]):=by
     unfold gg
     rw[jL ab,gp,if_neg (by omega),ai,cE cG,M',decide_eq_false YJ]
     rfl
    have zM:=TI hp ab
    have Xi:l.ts[i].lv.length<=maxLen:=by unfold maxLen;omega
    clear hb
    refine aJ ?_
    repeat refine sq ?_
    refine rx hΓ [1,2,5,6,7,8,9] [[2,0],[7,0],[15,0]] (fun K' hK=>by simp only[go_sem,ah ab,ai,aj,ao,gp,ah cG,dM];exact aq) ?_
    repeat refine sq ?_
    refine rx hΓ [1,2,5,6,7,8,9,10] [[2,0],[7,0],[15,0]] (fun K' hK=>by simp only[go_sem,ah ab,ai,aj,ao,gp,ah cG,dM];exact aq) ?_
    repeat refine sq ?_
    refine aR ?_
    repeat refine sq ?_
    refine cr (fun s:Nat=>[(10,⟨true,.v (vInt s)⟩),(9,⟨true,.v (.bool ((l.ts[i].lv.take s).all (ou l row i l.rs[j0] l.ts[i])))⟩)]) (fun s=>[]) (fun s=>s<=l.ts[i].lv.length) (fun s=>l.ts[i].lv.length-s) 0 ?_ ?_ ?_ ?_
    ·exact Nat.zero_le _
    ·rfl
    ·rfl
    rintro i1 hi
    generalize hB:(l.ts[i].lv.take i1).all (ou l row i l.rs[j0] l.ts[i])=B
    simp only[go_sem]
    repeat refine sq ?_
    refine rx hΓ [1,2,5,6,7,8,9,10,61] [[2,0],[7,0],[15,0]] (fun K' hK=>by simp only[go_sem,ah ab,ai,aj,ao,gp,ah cG,dM];exact aq) ?_
    repeat refine sq ?_
    refine aB (fun hb=>?_) fun hb=>?_
    ·have aK:i1<l.ts[i].lv.length:=by simpa using hb
     have ba:(i1:Int)<l.ts[i].lv.length:=by omega
     clear hb
     have hA:(l.ts[i].lv.take (i1+1)).all (ou l row i l.rs[j0] l.ts[i])=(lM (mR l row l.ts[i] l.ts[i].lv[i1]) i&&(B&&l.rs[j0].lv.contains l.ts[i].lv[i1])):=by rw[<-hB,yg aK,ou,<-Bool.and_assoc,Bool.and_comm]
     repeat refine sq ?_
     refine aJ ?_
     repeat refine sq ?_
     refine aR ?_
     repeat refine sq ?_
     refine dx hΓ hP [[],[0],[0,1],[0,1,2],[0,1],u5,u6,u7,[0,1],[0,1,8],[0,1],[0,1,8,9,10],[0,1,8,9,10,11],kx,jK,vV] [1,2,5,6,7,8,9,10] [[2,0],[7,0],[15,0]] (by kernel_rfl) (fun K' hK=>by simp only[go_sem,ah ab,ai,aj,ao,gp,ah cG,dM,ah aK,ai,aj,ba,ah cG,EI];exact jC) ?_
     repeat refine sq ?_
     refine rx hΓ [1,2,5,6,7,8,9,10,11] [[2,0],[7,0],[15,0]] (fun K' hK=>by simp only[go_sem,ah ab,ai,aj,ao,gp,ah cG,dM,ah aK,ai,aj,ba];exact aq) ?_
     repeat refine sq ?_
     refine aR ?_
     repeat refine sq ?_
     refine cr (fun s:Nat=>[(11,⟨true,.v (vInt s)⟩),(9,⟨true,.v (.bool (lM (mR l row l.ts[i] l.ts[i].lv[i1]) s&&(B&&l.rs[j0].lv.contains l.ts[i].lv[i1])))⟩)]) (fun s=>[]) (fun s=>s<=i) (fun s=>i-s) 0 ?_ ?_ ?_ ?_
     ·exact Nat.zero_le _
     ·rfl
     ·rfl
     rintro j hi
     generalize hC:(lM (mR l row l.ts[i] l.ts[i].lv[i1]) j&&(B&&l.rs[j0].lv.contains l.ts[i].lv[i1]))=C
     simp only[go_sem]
     repeat refine sq ?_
     refine rx hΓ [1,2,5,6,7,8,9,10,11,81] [[2,0],[7,0],[15,0]] (fun K' hK=>by simp only[go_sem,ah ab,ai,aj,ao,gp,ah cG,dM,ah aK,ai,aj,ba];exact aq) ?_
     repeat refine sq ?_
     refine aB (fun hb=>?_) fun hb=>?_
     ·have bN:j<i:=by simpa using hb
      have dZ:(j:Int)<i:=by omega
      clear hb
      have EG:j<l.ts.length:=by omega
      have MN:j<row.length:=by omega
      have MM:(j:Int)<l.ts.length:=by omega
      have hT:(lM (mR l row l.ts[i] l.ts[i].lv[i1]) (j+1)&&(B&&l.rs[j0].lv.contains l.ts[i].lv[i1]))=(C&&!((row.getD j false&&l.ts[j].re==l.ts[i].re)&&l.ts[j].lv.contains l.ts[i].lv[i1])):=by
       rw[<-hC,abO,mR,jL EG,Bool.and_right_comm]
      repeat refine sq ?_
      refine aJ ?_
      repeat refine sq ?_
      refine aR ?_
      repeat refine sq ?_
      refine oM hΓ hP [[],[0],[0,1],[0,1],u4,u5,u6,u7,u8,u7,cB,fm,dO,u7,[0,1,2,3,4,5,6,13],vV,u16,lR,iA,mQ,iA,vU,yC,rD,iA,[0,1,2,3,4,5,6,7,8,9,10,11,12,13,14,15,16,17,24],iA,[0,1,2,3,4,5,6,7,8,9,10,11,12,13,14,15,16,17,24,25,26],[0,1,2,3,4,5,6,7,8,9,10,11,12,13,14,15,16,17,24,25,26,27],yz,Hd,Hb,u32,QI] (by kernel_rfl) fun K' hK=>?_
      simp only[go_sem,ah ab,ai,aj,ao,gp,ah cG,dM,ah aK,ai,aj,ba,ah ab,ah aK,ah cG,EI,wH MN,ah EG,MM,ba,ao,ai,aj,List.length_map,Bool.decide_and,Bool.decide_eq_true]
      repeat (refine⟨ak,?_⟩)
      first | refine⟨by rfl,?_⟩ | skip
      refine hK _ ?_
      clear K' hK
      simp only[go_sem]
      refine kp [1,2,5,6,7,8,9,10,11] [[2,0],[7,0],[15,0]] ?_
      repeat refine sq ?_
      refine aS hΓ fun K' hK=>?_
      simp only[go_sem,ah ab,ai,aj,ao,gp,ah cG,dM,ah aK,ai,aj,ba,ah ab,ah aK,ah cG,EI,wH MN,ah EG,MM,ba,ao,ai,aj,List.length_map]
      repeat (refine⟨ak,?_⟩)
      refine hK _ ?_
      clear K' hK
      simp only[go_sem]
      refine⟨j+1,bN,by(show i-(j+1)<i-j;omega),?_⟩
      refine bg [1,2,5,6,7,8,9,10,11] [[2,0],[7,0],[15,0]] ?_ ?_<;>simp only[go_sem,a7 bN (by omega),bb,hT]
     ·have nD:j=i:=by
       have :¬ (j:Int)<i:=by simpa using hb
       omega
      clear hb
      rw[nD]at hC
      repeat refine sq ?_
      refine bR ?_
      simp only[go_sem]
      refine kp [1,2,5,6,7,8,9,10] [[2,0],[7,0],[15,0]] ?_
      repeat refine sq ?_
      refine aS hΓ fun K' hK=>?_
      simp only[go_sem,ah ab,ai,aj,ao,gp,ah cG,dM,ah aK,ai,aj,ba]
      repeat (refine⟨ak,?_⟩)
      refine hK _ ?_
      clear K' hK
      simp only[go_sem]
      refine⟨i1+1,aK,by(show l.ts[i].lv.length-(i1+1)<l.ts[i].lv.length-i1;omega),?_⟩
      refine bg [1,2,5,6,7,8,9,10] [[2,0],[7,0],[15,0]] ?_ ?_<;>simp only[go_sem,a7 aK Xi,bb,hA,hC]
    ·have ke:i1=l.ts[i].lv.length:=by
      have :¬ (i1:Int)<l.ts[i].lv.length:=by simpa using hb
      omega
     clear hb
     subst ke
     repeat refine sq ?_
     refine bR ?_
     simp only[go_sem]
     refine kp [1,2,5,6,9] [[2,0],[15,0]] ?_
     have e0:bn l k (i+1)=row.set i B:=by
      rw[<-Hq l k ab,D2,Xo,<-hB,List.take_length]
     repeat refine sq ?_
     refine aS hΓ fun K' hK=>?_
     simp only[go_sem,ah ab,ai,aj,ao,gp,ah cG,dM,Rb]
     repeat (refine⟨ak,?_⟩)
     refine hK _ ?_
     clear K' hK
     simp only[go_sem]
     refine kp [1,2,5,6] [[2,0],[15,0]] ?_
     repeat refine sq ?_
     refine aS hΓ fun K' hK=>?_
     simp only[go_sem,ah ab,ai,aj,ao,gp,ah cG,dM]
     repeat (refine⟨ak,?_⟩)
     refine hK _ ?_
     clear K' hK
     simp only[go_sem]
     refine⟨i+1,ab,by(show l.ts.length-(i+1)<l.ts.length-i;omega),?_⟩
     refine bg [1,2,5,6] [[2,0],[15,0]] ?_ ?_<;>simp only[go_sem,a7 ab kb,bb,e0]
 ·have bF:i=l.ts.length:=by
   have :¬ (i:Int)<l.ts.length:=by simpa using hb
   omega
  clear hb
  subst bF
  repeat refine sq ?_
  refine bR ?_
  simp only[go_sem]
  refine kp [5] [[15,0]] ?_
  repeat refine sq ?_
  refine rx hΓ [4] [[15,0]] (fun K' hK=>by simp only[go_sem];exact aq) ?_
  refine aC ?_
  simp only[go_sem]
  rw[k9]
end
noncomputable section
structure RV where
 l:Led
 k:Int
 ts:List Bool
 ds:List Rg
 deriving Inhabited
def FG(x:RV):V:=.agg [.sl (x.l.ps.map c9),.sl (x.l.rs.map encR),.sl (x.l.ts.map cT),.sl (x.l.ss.map encS),vInt x.k,.sl (x.ts.map .bool),.sl (x.ds.map s8)]
def Of:V->RV
 | .agg [.sl a,.sl b,.sl c,.sl d,.int _ k,.sl t,.sl g]=>⟨⟨a.map qS,b.map kU,c.map mr,d.map jD⟩,k,t.map AW,g.map vw⟩
 |_=>default
theorem aaf(r:Rg):vw (s8 r)=r:=rfl
@[go_sem] theorem ag0(l:List Rg):(l.map s8).map vw=l:=rY aaf l
def oy:En RV:=⟨FG,Of⟩
attribute [go_sem] FG Of oy s8 vw
@[go_sem] theorem agT(x:RV):(⟨x.l,x.k,x.ts,x.ds⟩:RV)=x:=rfl
def ji(x:RV)(so f:Int)(j:Nat):Bool:=(x.ts.getD j false&&(aD x.l j).re==so)&&(aD x.l j).lv.contains f
def dn(x:RV)(i:Nat)(f:Int):Int:=if (List.range x.ts.length).any (ji x (an x.l i).so f)=true then((List.range x.ts.length).findIdx (ji x (an x.l i).so f):Int)else -1
theorem Il{x:RV}{i:Nat}{f:Int}{j:Nat}(h:j<x.ts.length)(hp:ji x (an x.l i).so f j=true)(hn:∀ m,m<x.ts.length->m<j->ji x (an x.l i).so f m=false):dn x i f=j:=by
 have :=sc (p:=ji x (an x.l i).so f) (l:=List.range x.ts.length) (i:=j) (by simpa using h) (by simpa using hp) (fun m hm mg=>by simpa using hn m (by simpa using hm) mg)
 exact this
theorem Ik{x:RV}{i:Nat}{f:Int}(hn:∀ m,m<x.ts.length->m<x.ts.length->ji x (an x.l i).so f m=false):dn x i f= -1:=by
 unfold dn
 rw[if_neg]
 intro h
 obtain⟨m,hm,hp⟩:=List.any_eq_true.1 h
 have kM:m<x.ts.length:=by simpa using hm
 rw[hn m kM kM]at hp
 exact absurd hp (by decide)
def K41:List (Nat×Spec):=[(15,pR)]
theorem acS:KS K41:=tc wh.sound<|tn
attribute [go_sem] K41
@[go_sem] def P103:PSpec:=p3 oy iI iI (fun x a _=>(bE x.l/\x.ts.length=x.l.ts.length)/\0<=a/\a<x.l.rs.length) (fun x a f=>vInt (dn x a.toNat f)) true
@[go_sem] def vL:Spec:=P103.toSpec
set_option maxHeartbeats 8000000 in
theorem Ia:aZ Tryz.prog 103 P103:=by
 refine n7 (rs:=[.tmp 6]) Tryz.func103 Tryz.ntmps103 fun x a f hp hw=>?_
 have hP:=fU
 simp only[iI,oy]at hw |-
 have hΓ:=acS
 obtain⟨⟨aa,w9⟩,Za,vi⟩:=hp
 have DX:=aa.tsn
 have hl:x.ts.length<=maxLen:=by unfold maxLen;omega
 obtain⟨n,rfl⟩:∃ n:Nat,a=n:=⟨a.toNat,by omega⟩
 have hn:n<x.l.rs.length:=by omega
 rw[ai]
 repeat refine sq ?_
 refine rx hΓ [1,2,3] [[3,0]] (fun K' hK=>by simp only[go_sem];exact aq) ?_
 repeat refine sq ?_
 refine rx hΓ [1,2,3,7] [[3,0]] (fun K' hK=>by simp only[go_sem];exact aq) ?_
 repeat refine sq ?_
 refine aR ?_
 repeat refine sq ?_
 refine cr (fun s:Nat=>[(7,⟨true,.v (vInt s)⟩)]) (fun s=>[]) (fun s=>s<=x.ts.length/\∀ m,m<x.ts.length->m<s->ji x (an x.l n).so f m=false) (fun s=>x.ts.length-s) 0 ?_ ?_ ?_ ?_
 ·exact⟨Nat.zero_le _,fun m _ h=>by omega⟩
 ·rfl
 ·rfl
 rintro i ⟨hi,hR⟩
 simp only[go_sem]
 repeat refine sq ?_
 refine rx hΓ [1,2,3,7,12] [[3,0]] (fun K' hK=>by simp only[go_sem];exact aq) ?_
 repeat refine sq ?_
 refine aB (fun hb=>?_) fun hb=>?_
 ·have ab:i<x.ts.length:=by simpa using hb
  have ao:(i:Int)<x.ts.length:=by omega
  clear hb
  have xi:i<x.l.ts.length:=by omega
  have Ey:(i:Int)<x.l.ts.length:=by omega
  have sD:(n:Int)<x.l.rs.length:=by omega
  repeat refine sq ?_
  refine aJ ?_
  repeat refine sq ?_
  refine aR ?_
  repeat refine sq ?_
  refine dx hΓ hP [[],[0],[],[0,1,2],u4,u5,u6,u7,u8,u6,cB,fm,dO,u6,[0,1,2,3,4,5,13],[0,1,2,3,4,5,13,14],u6,[0,1,2,3,4,5,13,14,15,16],[0,1,2,3,4,5,13,14,15,16,17],[0,1,2,3,4,5,13,14,15,16,17,18],oZ,vU,yC,rD,BS,vT,rD,QJ,yA,yz,rD,Hb,u32] [1,2,3,7,47] [[3,0]] (by kernel_rfl) (fun K' hK=>by simp only[go_sem,wH ab,ah hn,ah xi,sD,Ey,ai,aj,ao,List.length_map];exact jC) ?_
  repeat refine sq ?_
  refine aB (fun hb=>?_) fun hb=>?_
  ·repeat refine sq ?_
   have e:dn x n f=i:=Il ab (by unfold ji;rw[jL xi,cE hn];simpa using hb) hR
   repeat refine sq ?_
   refine rx hΓ [6] [] (fun K' hK=>by simp only[go_sem,wH ab,ah hn,ah xi,sD,Ey,ai,aj,ao,List.length_map];exact aq) ?_
   refine aC ?_
   simp only[go_sem]
   rw[e]
  ·repeat refine sq ?_
   refine aJ ?_
   refine bV ?_
   simp only[go_sem]
   refine kp [1,2,3,7] [[3,0]] ?_
   repeat refine sq ?_
   refine aS hΓ fun K' hK=>?_
   simp only[go_sem,wH ab,ah hn,ah xi,sD,Ey,ai,aj,ao,List.length_map]
   repeat (refine⟨ak,?_⟩)
   refine hK _ ?_
   clear K' hK
   simp only[go_sem]
   refine⟨i+1,⟨ab,?_⟩,by(show x.ts.length-(i+1)<x.ts.length-i;omega),?_⟩
   ·intro m hm XZ
    rcases Nat.lt_succ_iff_lt_or_eq.1 XZ with h5 | rfl
    ·exact hR m hm h5
    ·unfold ji;rw[jL xi,cE hn];simpa using hb
   refine bg [1,2,3,7] [[3,0]] ?_ ?_<;>simp only[go_sem,a7 ab hl,bb]
 ·have bF:i=x.ts.length:=by
   have :¬ (i:Int)<x.ts.length:=by simpa using hb
   omega
  clear hb
  subst bF
  repeat refine sq ?_
  refine bR ?_
  simp only[go_sem]
  refine kp [] [] ?_
  repeat refine sq ?_
  refine rx hΓ [6] [] (fun K' hK=>by simp only[go_sem];exact aq) ?_
  refine aC ?_
  simp only[go_sem]
  rw[Ik hR]
end
set_option maxHeartbeats 8000000
noncomputable section
def dK(k:Int)(f:Fol)(r:Rec):Bool:=(bG r.kn r.un k&&r.pa==f.pa)&&r.lv.contains f.le
def K42:List (Nat×Spec):=[(157,BE),(15,pR)]
theorem acR:KS K42:=tc Cb.sound<|tc wh.sound<|tn
attribute [go_sem] K42
@[go_sem] def P188:PSpec:=p3 oy iI np (fun x a _=>0<=a/\a<x.l.rs.length) (fun x a f=>.bool (dK x.k f (an x.l a.toNat))) true
@[go_sem] def GH:Spec:=P188.toSpec
theorem R1:aZ Tryz.prog 188 P188:=by
 refine n7 (rs:=[.tmp 6]) Tryz.func188 Tryz.ntmps188 fun x a f hp hw=>?_
 simp only[np,iI,oy,qQ]at hw |-
 have hΓ:=acR
 obtain⟨Za,vi⟩:=hp
 obtain⟨n,rfl⟩:∃ n:Nat,a=n:=⟨a.toNat,by omega⟩
 have hn:n<x.l.rs.length:=by omega
 rw[ai,cE hn]
 repeat refine sq ?_
 refine rx hΓ [1,3,5] [[3,0],[5,0]] (fun K' hK=>by simp only[go_sem];exact aq) ?_
 repeat refine sq ?_
 refine rx hΓ [3,5,7] [[3,0],[5,0],[7,0]] (fun K' hK=>by simp only[go_sem,ah hn,ai,aj,vi,List.length_map];exact aq) ?_
 repeat refine sq ?_
 refine rx hΓ [6] [] (fun K' hK=>by simp only[go_sem,Bool.decide_and,Bool.decide_eq_true];exact aq) ?_
 refine aC ?_
 simp only[go_sem]
 rfl
def fG(x:RV)(f:Fol)(day:Int):Nat->Int
 | 0=> -1
 |s+1=>if ((dK x.k f (an x.l s)&&decide ((an x.l s).da<=day))&&(decide (fG x f day s<0)||decide ((an x.l s).da>(an x.l (fG x f day s).toNat).da)))=true then(s:Int)else fG x f day s
theorem JT(x:RV)(f:Fol)(day:Int)(s:Nat):fG x f day s= -1\/∃ j,j<s/\fG x f day s=(j:Int):=by
 induction s with
 |zero=>exact .inl rfl
 |succ s ih=>
  unfold fG
  split
  ·exact .inr ⟨s,by omega,rfl⟩
  ·rcases ih with h | ⟨j,hj,h⟩
   ·exact .inl h
   ·exact .inr ⟨j,by omega,h⟩
def dR(x:RV)(f:Fol)(day:Int):Int:=fG x f day x.l.rs.length
def K42b:List (Nat×Spec):=[(188,GH)]
theorem acQ:KS K42b:=tc R1.sound<|tn
attribute [go_sem] K42b
@[go_sem] def P159:PSpec:=p3 oy np iI (fun x _ _=>bE x.l) (fun x f day=>vInt (dR x f day)) true
@[go_sem] def GJ:Spec:=P159.toSpec
theorem Sh:aZ Tryz.prog 159 P159:=by
 refine n7 (rs:=[.tmp 6]) Tryz.func159 Tryz.ntmps159 fun x f day hp hw=>?_
 simp only[np,iI,oy,qQ]at hw |-
 have hΓ:=acQ
 have nx:=hp.rsn
 have hl:x.l.rs.length<=maxLen:=by unfold maxLen;omega
 repeat refine sq ?_
 refine rx hΓ [2,3,4] [[3,0],[4,0]] (fun K' hK=>by simp only[go_sem];exact aq) ?_
 repeat refine sq ?_
 refine rx hΓ [2,3,4,7] [[3,0],[4,0]] (fun K' hK=>by simp only[go_sem];exact aq) ?_
 repeat refine sq ?_
 refine rx hΓ [2,3,4,7,8] [[3,0],[4,0]] (fun K' hK=>by simp only[go_sem];exact aq) ?_
 repeat refine sq ?_
 refine aR ?_
 repeat refine sq ?_
 refine cr (fun s:Nat=>[(8,⟨true,.v (vInt s)⟩),(7,⟨true,.v (vInt (fG x f day s))⟩)]) (fun s=>[]) (fun s=>s<=x.l.rs.length) (fun s=>x.l.rs.length-s) 0 ?_ ?_ ?_ ?_
 ·exact Nat.zero_le _
 ·rfl
 ·rfl
 rintro i hi
 generalize hL:fG x f day i=L
 simp only[go_sem]
 repeat refine sq ?_
 refine rx hΓ [2,3,4,7,8,15] [[3,0],[4,0]] (fun K' hK=>by simp only[go_sem];exact aq) ?_
 repeat refine sq ?_
 refine aB (fun hb=>?_) fun hb=>?_
 ·have ab:i<x.l.rs.length:=by simpa using hb
  have ao:(i:Int)<x.l.rs.length:=by omega
  clear hb
  have hc:=JT x f day i
  rw[hL]at hc
  have mo:=cE ab
  have gH:bH (-1) 0=0:=rfl
  have AE:0<x.l.rs.length:=by omega
  have AD:(0:Int)<x.l.rs.length:=by omega
  repeat refine sq ?_
  refine aJ ?_
  repeat refine sq ?_
  refine aR ?_
  repeat refine sq ?_
  refine rx hΓ [2,3,4,7,8,9] [[3,0],[4,0]] (fun K' hK=>by simp only[go_sem,ah ab,ai,aj,ao];exact aq) ?_
  rcases hc with hc | ⟨j,hj,hc⟩
  ·subst hc
   repeat refine sq ?_
   refine rx hΓ [2,3,4,7,8,49] [[3,0],[4,0]] (fun K' hK=>by simp only[go_sem,ah ab,ai,aj,ao,gH,ah AE,AD,ai,uG,mo,Bool.decide_and,Bool.decide_eq_true];exact aq) ?_
   repeat refine sq ?_
   refine aB (fun hb=>?_) fun hb=>?_
   ·repeat refine sq ?_
    have eL:fG x f day (i+1)=(i:Int):=by
     rw[fG,hL,mo,if_pos (by simpa using hb)]
    repeat refine sq ?_
    refine aS hΓ fun K' hK=>?_
    simp only[go_sem,ah ab,ai,aj,ao,gH,ah AE,AD,ai,uG,mo]
    repeat (refine⟨ak,?_⟩)
    refine hK _ ?_
    clear K' hK
    simp only[go_sem]
    refine kp [2,3,4,7,8] [[3,0],[4,0]] ?_
    repeat refine sq ?_
    refine aS hΓ fun K' hK=>?_
    simp only[go_sem,ah ab,ai,aj,ao,gH,ah AE,AD,ai,uG,mo]
    repeat (refine⟨ak,?_⟩)
    refine hK _ ?_
    clear K' hK
    simp only[go_sem]
    refine⟨i+1,ab,by(show x.l.rs.length-(i+1)<x.l.rs.length-i;omega),?_⟩
    refine bg [2,3,4,7,8] [[3,0],[4,0]] ?_ ?_<;>simp only[go_sem,a7 ab hl,bb,eL]
   ·repeat refine sq ?_
    have eL:fG x f day (i+1)= -1:=by
     rw[fG,hL,mo,if_neg (by simpa using hb)]
    refine aJ ?_
    refine bV ?_
    simp only[go_sem]
    refine kp [2,3,4,7,8] [[3,0],[4,0]] ?_
    repeat refine sq ?_
    refine aS hΓ fun K' hK=>?_
    simp only[go_sem,ah ab,ai,aj,ao,gH,ah AE,AD,ai,uG,mo]
    repeat (refine⟨ak,?_⟩)
    refine hK _ ?_
    clear K' hK
    simp only[go_sem]
    refine⟨i+1,ab,by(show x.l.rs.length-(i+1)<x.l.rs.length-i;omega),?_⟩
    refine bg [2,3,4,7,8] [[3,0],[4,0]] ?_ ?_<;>simp only[go_sem,a7 ab hl,bb,eL]
  ·subst hc
   have dM:decide ((j:Int)<0)=false:=by simp
   have mg:(if (0:Int)>(j:Int)then(0:Int)else(j:Int))=j:=if_neg (by omega)
   have gJ:j<x.l.rs.length:=by omega
   have Af:(j:Int)<x.l.rs.length:=by omega
   repeat refine sq ?_
   refine rx hΓ [2,3,4,7,8,49] [[3,0],[4,0]] (fun K' hK=>by simp only[go_sem,ah ab,ai,aj,ao,mg,dM,ah gJ,Af,mo,Bool.decide_and,Bool.decide_eq_true];exact aq) ?_
   repeat refine sq ?_
   refine aB (fun hb=>?_) fun hb=>?_
   ·repeat refine sq ?_
    have eL:fG x f day (i+1)=(i:Int):=by
     rw[fG,hL,mo,ai,cE gJ,dM,Bool.false_or,if_pos (by simpa using hb)]
    repeat refine sq ?_
    refine aS hΓ fun K' hK=>?_
    simp only[go_sem,ah ab,ai,aj,ao,mg,dM,ah gJ,Af,mo]
    repeat (refine⟨ak,?_⟩)
    refine hK _ ?_
    clear K' hK
    simp only[go_sem]
    refine kp [2,3,4,7,8] [[3,0],[4,0]] ?_
    repeat refine sq ?_
    refine aS hΓ fun K' hK=>?_
    simp only[go_sem,ah ab,ai,aj,ao,mg,dM,ah gJ,Af,mo]
    repeat (refine⟨ak,?_⟩)
    refine hK _ ?_
    clear K' hK
    simp only[go_sem]
    refine⟨i+1,ab,by(show x.l.rs.length-(i+1)<x.l.rs.length-i;omega),?_⟩
    refine bg [2,3,4,7,8] [[3,0],[4,0]] ?_ ?_<;>simp only[go_sem,a7 ab hl,bb,eL]
   ·repeat refine sq ?_
    have eL:fG x f day (i+1)=(j:Int):=by
     rw[fG,hL,mo,ai,cE gJ,dM,Bool.false_or,if_neg (by simpa using hb)]
    refine aJ ?_
    refine bV ?_
    simp only[go_sem]
    refine kp [2,3,4,7,8] [[3,0],[4,0]] ?_
    repeat refine sq ?_
    refine aS hΓ fun K' hK=>?_
    simp only[go_sem,ah ab,ai,aj,ao,mg,dM,ah gJ,Af,mo]
    repeat (refine⟨ak,?_⟩)
    refine hK _ ?_
    clear K' hK
    simp only[go_sem]
    refine⟨i+1,ab,by(show x.l.rs.length-(i+1)<x.l.rs.length-i;omega),?_⟩
    refine bg [2,3,4,7,8] [[3,0],[4,0]] ?_ ?_<;>simp only[go_sem,a7 ab hl,bb,eL]
 ·have bF:i=x.l.rs.length:=by
   have :¬ (i:Int)<x.l.rs.length:=by simpa using hb
   omega
  clear hb
  subst bF
  repeat refine sq ?_
  refine bR ?_
  simp only[go_sem]
  refine kp [7] [] ?_
  repeat refine sq ?_
  refine rx hΓ [6] [] (fun K' hK=>by simp only[go_sem];exact aq) ?_
  refine aC ?_
  simp only[go_sem]
  rw[<-hL];rfl
def gh(l:Led)(i:Nat):Sig:=l.ss.getD i default
def wc(x:RV):Nat->List Int
 | 0=>[]
 |s+1=>if bG (gh x.l s).kn (gh x.l s).un x.k=true then wc x s++[(s:Int)]else wc x s
theorem HD{l:Led}{i:Nat}(h:i<l.ss.length):gh l i=l.ss[i]:=by unfold gh;rw[List.getD_eq_getElem?_getD,List.getElem?_eq_getElem h];rfl
def acP:List (Nat×Spec):=[(157,BE)]
attribute [go_sem] acP
end
noncomputable section
def wG(x:RV)(r:Rec)(lv:List Int)(i:Nat)(j:Nat):Bool:=decide ((an x.l i).da>r.da)&&dK x.k ⟨r.pa,lv.getD j 0⟩ (an x.l i)
def xX(x:RV)(r:Rec)(lv:List Int)(i:Nat)(hi:Int):Nat->Int
 | 0=>hi
 |j+1=>if wG x r lv i j=true then dh (xX x r lv i hi j) (an x.l i).da else xX x r lv i hi j
def tu(x:RV)(r:Rec)(t:Ret):Nat->Int
 | 0=>t.hi
 |i+1=>xX x r t.lv i (tu x r t i) t.lv.length
def xW(x:RV)(i:Nat):Rg:=if x.ts.getD i false=true then⟨lH (aD x.l i) (an x.l (b9 x.l (aD x.l i).re x.k).toNat),tu x (an x.l (b9 x.l (aD x.l i).re x.k).toNat) (aD x.l i) x.l.rs.length⟩else⟨0,100000⟩
def GO(x:RV):Prop:=bE x.l/\x.ts.length=x.l.ts.length/\∀ i,x.ts.getD i false=true->¬ b9 x.l (aD x.l i).re x.k<0
def K43:List (Nat×Spec):=[(70,ym),(158,GK),(188,GH)]
attribute [go_sem] K43
end
noncomputable section
theorem U2(x:RV)(f:Fol)(day:Int):dR x f day= -1\/∃ j,j<x.l.rs.length/\dR x f day=(j:Int):=JT x f day _
theorem SO(x:RV)(i:Nat)(f:Int):dn x i f= -1\/∃ j,j<x.ts.length/\dn x i f=(j:Int):=by
 unfold dn
 by_cases h:(List.range x.ts.length).any (ji x (an x.l i).so f)=true
 ·rw[if_pos h]
  have ab:(List.range x.ts.length).findIdx (ji x (an x.l i).so f)<(List.range x.ts.length).length:=List.findIdx_lt_length_of_exists (by obtain⟨y,hy,hp⟩:=List.any_eq_true.1 h;exact⟨y,hy,hp⟩)
  exact .inr ⟨_,by simpa using ab,rfl⟩
 ·rw[if_neg h];exact .inl rfl
def eV(d:List Rg)(i:Nat):Rg:=d.getD i default
def jU(x:RV)(d:List Rg)(s:Sig):List Rg×Bool:=
 if dR x ⟨s.pa,s.le⟩ s.da<0 then(d,s.pe==0)else
 if dn x (dR x ⟨s.pa,s.le⟩ s.da).toNat s.le<0 then(d,s.pe==(an x.l (dR x ⟨s.pa,s.le⟩ s.da).toNat).bo)else
 if s.pe==(an x.l (dR x ⟨s.pa,s.le⟩ s.da).toNat).bo then
   (d.set (dn x (dR x ⟨s.pa,s.le⟩ s.da).toNat s.le).toNat ⟨bH (eV d (dn x (dR x ⟨s.pa,s.le⟩ s.da).toNat s.le).toNat).lo (s.da+1),(eV d (dn x (dR x ⟨s.pa,s.le⟩ s.da).toNat s.le).toNat).hi⟩,
     decide (bH (eV d (dn x (dR x ⟨s.pa,s.le⟩ s.da).toNat s.le).toNat).lo (s.da+1)<=(eV d (dn x (dR x ⟨s.pa,s.le⟩ s.da).toNat s.le).toNat).hi))
 else if s.pe==0 then
  (d.set (dn x (dR x ⟨s.pa,s.le⟩ s.da).toNat s.le).toNat ⟨(eV d (dn x (dR x ⟨s.pa,s.le⟩ s.da).toNat s.le).toNat).lo,dh (eV d (dn x (dR x ⟨s.pa,s.le⟩ s.da).toNat s.le).toNat).hi s.da⟩,
    decide ((eV d (dn x (dR x ⟨s.pa,s.le⟩ s.da).toNat s.le).toNat).lo<=dh (eV d (dn x (dR x ⟨s.pa,s.le⟩ s.da).toNat s.le).toNat).hi s.da))
 else(d,false)
theorem TS{x:RV}{d:List Rg}{s:Sig}(h:dR x ⟨s.pa,s.le⟩ s.da= -1):jU x d s=(d,s.pe==0):=by unfold jU;rw[h];rfl
theorem TR{x:RV}{d:List Rg}{s:Sig}{q:Nat}(h:dR x ⟨s.pa,s.le⟩ s.da=q)(hr:dn x q s.le= -1):jU x d s=(d,s.pe==(an x.l q).bo):=by
 unfold jU;rw[h,if_neg (by omega),ai,hr];rfl
theorem TU{x:RV}{d:List Rg}{s:Sig}{q j:Nat}(h:dR x ⟨s.pa,s.le⟩ s.da=q)(hr:dn x q s.le=j)(hm:(s.pe==(an x.l q).bo)=true):
 jU x d s=(d.set j ⟨bH (eV d j).lo (s.da+1),(eV d j).hi⟩,decide (bH (eV d j).lo (s.da+1)<=(eV d j).hi)):=by
 unfold jU;rw[h,if_neg (by omega),ai,hr,if_neg (by omega),if_pos hm];rfl
theorem TV{x:RV}{d:List Rg}{s:Sig}{q j:Nat}(h:dR x ⟨s.pa,s.le⟩ s.da=q)(hr:dn x q s.le=j)(hm:(s.pe==(an x.l q).bo)=false)(h0:(s.pe==0)=true):
 jU x d s=(d.set j ⟨(eV d j).lo,dh (eV d j).hi s.da⟩,decide ((eV d j).lo<=dh (eV d j).hi s.da)):=by
 unfold jU;rw[h,if_neg (by omega),ai,hr,if_neg (by omega),if_neg (by rw[hm];decide),if_pos h0];rfl
theorem TT{x:RV}{d:List Rg}{s:Sig}{q j:Nat}(h:dR x ⟨s.pa,s.le⟩ s.da=q)(hr:dn x q s.le=j)(hm:(s.pe==(an x.l q).bo)=false)(h0:(s.pe==0)=false):jU x d s=(d,false):=by
 unfold jU;rw[h,if_neg (by omega),ai,hr,if_neg (by omega),if_neg (by rw[hm];decide),if_neg (by rw[h0];decide)]
theorem Ub(a b:Int):bH a b=if b>a then b else a:=rfl
def K44:List (Nat×Spec):=[(159,GJ),(103,vL)]
attribute [go_sem] K44
end
noncomputable section
def tr(x:RV)(s:Nat):List Rg:=(List.range s).map (xW x)
theorem aa'(x:RV)(s:Nat):(tr x s).length=s:=by simp[tr]
def pM(x:RV)(is:List Int):Nat->List Rg×Bool
 | 0=>(tr x x.l.ts.length,true)
 |s+1=>((jU x (pM x is s).1 (gh x.l (is.getD s 0).toNat)).1,(pM x is s).2&&(jU x (pM x is s).1 (gh x.l (is.getD s 0).toNat)).2)
def K45:List (Nat×Spec):=[]
attribute [go_sem] K45
end
noncomputable section
def aU(l:Led)(k:Int):RV:=⟨l,k,bn l k l.ts.length,[]⟩
def K46:List (Nat×Spec):=[(71,BD)]
theorem acO:KS K46:=tc Ca.sound<|tn
attribute [go_sem] K46
@[go_sem] def P73:PSpec:=p2 iL iI (fun l _=>bE l) (fun l k=>FG (aU l k)) false
@[go_sem] def vK:Spec:=P73.toSpec
set_option maxHeartbeats 8000000 in
theorem H0:aZ Tryz.prog 73 P73:=by
 refine fD (rs:=[.cell 4 108]) Tryz.func73 Tryz.ntmps73 fun l k hp hw=>?_
 have hP:=fU
 simp only[iI,iL,gM]at hw |-
 have hΓ:=acO
 repeat refine sq ?_
 refine rx hΓ [1,2,4] [[2,0],[4,0],[10,0]] (fun K' hK=>by simp only[go_sem];exact aq) ?_
 repeat refine sq ?_
 refine dx hΓ hP [[],[],[],[],[2,3],u5,u6] [4] [[4,0],[10,0]] (by kernel_rfl) (fun K' hK=>by simp only[go_sem];exact jC) ?_
 refine bP (mP [4,0] [10,0] 6 2 _ rfl rfl rfl [4] [[4,0],[10,0]] ?_ rfl) ?_
 ·simp only[go_sem,List.set_cons_succ,List.set_cons_zero]
 simp only[go_sem,List.set_cons_succ,List.set_cons_zero]
 refine bP (oY [4,0] [10,0] 6 _ _ _ _ rfl rfl rfl (by first | rfl | (simp only[List.length_map];done)) [4] [[4,0]] ?_ rfl) ?_
 ·simp only[go_sem,List.set_cons_succ,List.set_cons_zero]
 simp only[go_sem,List.set_cons_succ,List.set_cons_zero]
 refine aC ?_
 simp only[go_sem]
 first | rfl | trace_state
end
noncomputable section
def vx(x:RV)(a b:Nat)(f:Int):Bool:=(dK x.k ⟨(an x.l a).pa,f⟩ (an x.l a)&&dK x.k ⟨(an x.l a).pa,f⟩ (an x.l b))&&
 (((an x.l a).da==(an x.l b).da||decide (dn x a f<0))||decide (lH (aD x.l (dn x a f).toNat) (an x.l a)>(an x.l b).da))
def kV(x:RV)(a b:Nat):Bool:=(an x.l a).lv.any (vx x a b)
def ir(x:RV)(a b:Nat):Bool:=if (an x.l a).da>(an x.l b).da then kV x b a else kV x a b
def K47:List (Nat×Spec):=[(188,GH),(103,vL),(158,GK)]
attribute [go_sem] K47
def P8:PSpec:=p3 oy iI iI (fun x a b=>GO x/\(0<=a/\a<x.l.rs.length/\0<=b/\b<x.l.rs.length)/\¬ (an x.l a.toNat).da>(an x.l b.toNat).da) (fun x a b=>.bool (kV x a.toNat b.toNat)) true
end
noncomputable section
def aca:Spec:=P8.toSpec
attribute [go_sem] P8 aca
def K48:List (Nat×Spec):=[]
attribute [go_sem] K48
theorem aZ.or{P:Program}{f:FuncId}{s s1 s2:PSpec}(h1:aZ P f s1)(h2:aZ P f s2)(hs:s.flat=true->s1.flat=true/\s2.flat=true)
 (hc:∀ xs,s.pre xs->(s1.pre xs/\s1.fn xs=s.fn xs)\/(s2.pre xs/\s2.fn xs=s.fn xs)):aZ P f s where
 ne:=h1.ne
 enter:=h1.enter
 flat:=fun hf xs hp=>by
  rcases hc xs hp with⟨a,e⟩ | ⟨a,e⟩
  ·rw[<-e];exact h1.flat (hs hf).1 xs a
  ·rw[<-e];exact h2.flat (hs hf).2 xs a
 calls:=fun m w xs args ha hr hp=>by
  rcases hc xs hp with⟨a,e⟩ | ⟨a,e⟩
  ·rw[<-e];exact h1.calls m w xs args ha hr a
  ·rw[<-e];exact h2.calls m w xs args ha hr a
end
noncomputable section
def K49:List (Nat×Spec):=[(159,GJ),(103,vL)]
attribute [go_sem] K49
end
noncomputable section
def vy(x:RV)(i:Nat):Option (Int×Int):=((List.range x.l.rs.length).find? fun j=>decide (i<j)&&ir x i j).map fun j=>((an x.l i).so,(an x.l j).so)
def fB(x:RV):Option (Int×Int):=(List.range x.l.rs.length).findSome? (vy x)
theorem Ov{x:RV}{i:Nat}(h:∀ j,i<j->j<x.l.rs.length->ir x i j=false):vy x i=none:=by
 unfold vy
 rw[List.find?_eq_none.2]
 ·rfl
 ·intro j hj
  have fy:j<x.l.rs.length:=by simpa using hj
  by_cases bD:i<j
  ·rw[h j bD fy];simp
  ·simp[bD]
theorem aar{x:RV}{i j:Nat}(bD:i<j)(hj:j<x.l.rs.length)(h:ir x i j=true)(hn:∀ m,i<m->m<j->ir x i m=false):vy x i=some ((an x.l i).so,(an x.l j).so):=by
 unfold vy
 rw[(List.find?_eq_some_iff_getElem (b:=j)).2 ⟨by simp[bD,h],j,by simpa using hj,by simp,fun m hm=>by
  rw[List.getElem_range]
  by_cases MS:i<m
  ·simp[hn m MS hm]
  ·simp[MS]⟩]
 rfl
theorem aap{x:RV}{i j:Nat}(hi:i<x.l.rs.length)(bD:i<j)(hj:j<x.l.rs.length)(h:ir x i j=true)(hn:∀ m,i<m->m<j->ir x i m=false)
 (hb:∀ a,a<i->∀ m,a<m->m<x.l.rs.length->ir x a m=false):fB x=some ((an x.l i).so,(an x.l j).so):=by
 unfold fB
 rw[List.findSome?_eq_some_iff]
 refine⟨List.range i,i,(List.range' (i+1) (x.l.rs.length-(i+1))),?_,aar bD hj h hn,fun a ha=>Ov fun m h1 h2=>hb a (by simpa using ha) m h1 h2⟩
 rw[List.range_eq_range',List.range_eq_range',<-List.range'_succ]
 have h1:=List.range'_append_1 (s:=0) (m:=i) (n:=x.l.rs.length-(i+1)+1)
 rw[Nat.zero_add]at h1
 rw[h1]
 congr 1
 omega
theorem Ou{x:RV}(hb:∀ a,a<x.l.rs.length->∀ m,a<m->m<x.l.rs.length->ir x a m=false):fB x=none:=by
 unfold fB
 rw[List.findSome?_eq_none_iff]
 exact fun a ha=>Ov fun m h1 h2=>hb a (by simpa using ha) m h1 h2
def K50:List (Nat×Spec):=[]
attribute [go_sem] K50
end
noncomputable section
theorem vX(l:Led)(k:Int){s i:Nat}(h:(bn l k s).getD i false=true):i<s/\gg l k (bn l k i) i=true:=by
 induction s with
 |zero=>rw[yH l k (Nat.zero_le i)]at h;cases h
 |succ s ih=>
  by_cases hi:i<s
  ·have e:(bn l k (s+1)).getD i false=(bn l k s).getD i false:=by
     rw[bn]
     split
     ·rw[List.getD_eq_getElem?_getD,List.getElem?_set_ne (by omega),<-List.getD_eq_getElem?_getD]
     ·rfl
   rw[e]at h
   exact⟨by omega,(ih h).2⟩
  ·by_cases hs:i=s
   ·subst hs
    refine⟨by omega,?_⟩
    cases hb:gg l k (bn l k i) i with
    |true=>rfl
    |false=>rw[yG l k hb,yH l k (Nat.le_refl i)]at h;cases h
   ·rw[yH l k (by omega)]at h;cases h
theorem Ht{l:Led}{k:Int}{row:List Bool}{i:Nat}(h:gg l k row i=true):¬ b9 l (aD l i).re k<0:=by
 unfold gg at h
 split at h
 ·cases h
 ·assumption
theorem Cg{l:Led}(h:bE l)(k:Int):GO (aU l k):=⟨h,k9 _ _ _,fun _ hi=>Ht (vX l k hi).2⟩
def we(l:Led)(k:Int):List Int:=wc (aU l k) l.ss.length
def qR(l:Led)(k:Int):List Rg×Bool:=pM (aU l k) (we l k) (we l k).length
def rH(l:Led)(k:Int):Int:=if (fB (aU l k)).isSome=true then 25 else if (qR l k).2=true then 0 else 27
def HI(l:Led)(k:Int):RV:=if rH l k=0 then { aU l k with ds:=(qR l k).1 }else aU l k
def K51:List (Nat×Spec):=[(73,vK)]
attribute [go_sem] K51
end
noncomputable section
structure Ask where
 (da kn pa le pe so:Int)
 deriving Inhabited
def N8(x:Ask):V:=.agg [vInt x.da,vInt x.kn,vInt x.pa,vInt x.le,vInt x.pe,vInt x.so]
def Oo:V->Ask
 | .agg [.int _ a,.int _ b,.int _ c,.int _ d,.int _ e,.int _ f]=>⟨a,b,c,d,e,f⟩
 |_=>default
def W0:En Ask:=⟨N8,Oo⟩
attribute [go_sem] N8 Oo W0
@[go_sem] theorem agZ(x:Ask):(⟨x.da,x.kn,x.pa,x.le,x.pe,x.so⟩:Ask)=x:=rfl
def K52:List (Nat×Spec):=[]
attribute [go_sem] K52
end
noncomputable section
def K62:List (Nat×Spec):=[]
attribute [go_sem] K62
def acL:List (Nat×Spec):=[]
attribute [go_sem] acL
def ib(x:RV)(f:Fol)(az:List Int)(day:Int):Int:=
 if dR x f day<0 then 0 else
 if(decide (dn x (dR x f day).toNat f.le>=0)&&decide (az.getD (dn x (dR x f day).toNat f.le).toNat 0<=day))=true then 0 else(an x.l (dR x f day).toNat).bo
def K62c:List (Nat×Spec):=[(159,GJ),(103,vL)]
theorem acK:KS K62c:=tc Sh.sound<|tc Ia.sound<|tn
attribute [go_sem] K62c
@[go_sem] def P74:PSpec:=p4 oy np fw iI (fun x _ az _=>GO x/\az.length=x.ts.length) (fun x f az day=>vInt (ib x f az day)) true
@[go_sem] def GD:Spec:=P74.toSpec
set_option maxHeartbeats 8000000 in
theorem HZ:aZ Tryz.prog 74 P74:=by
 refine rC (rs:=[.tmp 8]) Tryz.func74 Tryz.ntmps74 fun x f az day hp hw=>?_
 simp only[np,iI,fw,oy,qQ]at hw |-
 have hΓ:=acK
 obtain⟨⟨aa,w9,-⟩,qI⟩:=hp
 repeat refine sq ?_
 refine rx hΓ [2,3,4,5] [[4,0],[5,0]] (fun K' hK=>by simp only[go_sem];exact aq) ?_
 rcases U2 x f day with iO | ⟨q,hq,iO⟩
 ·repeat refine sq ?_
  refine rx hΓ [2,3,4,5,9] [[4,0],[5,0]] (fun K' hK=>by simp only[go_sem,iO,mn];(repeat (refine⟨by first | exact ak | exact aa,?_⟩));exact ki) ?_
  repeat refine sq ?_
  refine rx hΓ [2,3,4,5,9,16] [[4,0],[5,0]] (fun K' hK=>by simp only[go_sem,iO,mn];exact aq) ?_
  repeat refine sq ?_
  refine aB (fun hb=>?_) fun hb=>?_
  ·repeat refine sq ?_
   have e:ib x f az day=0:=by unfold ib;rw[iO];rfl
   repeat refine sq ?_
   refine rx hΓ [8] [] (fun K' hK=>by simp only[go_sem,iO,mn];exact aq) ?_
   refine aC ?_
   simp only[go_sem]
   rw[e]
  ·cases hb
 ·have bO:(q:Int)<x.l.rs.length:=by omega
  have FD:=cE hq
  repeat refine sq ?_
  refine rx hΓ [2,3,4,5,9] [[4,0],[5,0]] (fun K' hK=>by simp only[go_sem,iO,mn];(repeat (refine⟨by first | exact ak | exact aa,?_⟩));exact ki) ?_
  repeat refine sq ?_
  refine rx hΓ [2,3,4,5,9,16] [[4,0],[5,0]] (fun K' hK=>by simp only[go_sem,iO,mn];exact aq) ?_
  repeat refine sq ?_
  refine aB (fun hb=>?_) fun hb=>?_
  ·cases hb
  ·repeat refine sq ?_
   refine aJ ?_
   rcases SO x q f.le with dX | ⟨j,hj,dX⟩
   ·have xo:decide ((-1:Int)>=0)=false:=rfl
    have fy:=xo
    have mg:=xo
    repeat refine sq ?_
    refine rx hΓ [2,3,4,9,10] [[4,0]] (fun K' hK=>by simp only[go_sem,iO,mn,dX,ah hq,bO,ai,aj,List.length_map,ah hq,bO,ai,aj,List.length_map];(repeat (refine⟨by first | exact ak | exact⟨⟨aa,w9⟩,bO⟩,?_⟩));exact ki) ?_
    repeat refine sq ?_
    refine rx hΓ [4,9,32] [[4,0]] (fun K' hK=>by simp only[go_sem,iO,mn,dX,ah hq,bO,ai,aj,List.length_map,mg,xo,fy,ai,aj,List.length_map,decide_true,Bool.true_and,Bool.decide_and,Bool.decide_eq_true,true_and];exact aq) ?_
    repeat refine sq ?_
    refine aB (fun hb=>?_) fun hb=>?_
    ·cases hb
    ·repeat refine sq ?_
     have e:ib x f az day=x.l.rs[q].bo:=by unfold ib;rw[iO,if_neg (by omega),ai,dX,FD];rfl
     refine aJ ?_
     repeat refine sq ?_
     refine rx hΓ [8] [] (fun K' hK=>by simp only[go_sem,iO,mn,dX,ah hq,bO,ai,aj,List.length_map];exact aq) ?_
     refine aC ?_
     simp only[go_sem]
     rw[e]
   ·have EF:j<az.length:=by omega
    have fy:(j:Int)<az.length:=by omega
    have xo:(az.map vInt).getD j default=vInt az[j]:=ah EF
    have mg:(if (0:Int)>(j:Int)then(0:Int)else(j:Int))=j:=if_neg (by omega)
    have MO:decide ((j:Int)>=0)=true:=by simp
    repeat refine sq ?_
    refine rx hΓ [2,3,4,9,10] [[4,0]] (fun K' hK=>by simp only[go_sem,iO,mn,dX,ah hq,bO,ai,aj,List.length_map,ah hq,bO,ai,aj,List.length_map];(repeat (refine⟨by first | exact ak | exact⟨⟨aa,w9⟩,bO⟩,?_⟩));exact ki) ?_
    repeat refine sq ?_
    refine rx hΓ [4,9,32] [[4,0]] (fun K' hK=>by simp only[go_sem,iO,mn,dX,ah hq,bO,ai,aj,List.length_map,mg,xo,fy,ai,aj,List.length_map,decide_true,Bool.true_and,Bool.decide_and,Bool.decide_eq_true,true_and];exact aq) ?_
    repeat refine sq ?_
    refine aB (fun hb=>?_) fun hb=>?_
    ·repeat refine sq ?_
     have e:ib x f az day=0:=by unfold ib;rw[iO,if_neg (by omega),ai,dX,FD,ai,cz EF,MO,Bool.true_and,if_pos (by simpa using hb)]
     repeat refine sq ?_
     refine rx hΓ [8] [] (fun K' hK=>by simp only[go_sem,iO,mn,dX,ah hq,bO,ai,aj,List.length_map];exact aq) ?_
     refine aC ?_
     simp only[go_sem]
     rw[e]
    ·repeat refine sq ?_
     have e:ib x f az day=x.l.rs[q].bo:=by unfold ib;rw[iO,if_neg (by omega),ai,dX,FD,ai,cz EF,MO,Bool.true_and,if_neg (by simpa using hb)]
     refine aJ ?_
     repeat refine sq ?_
     refine rx hΓ [8] [] (fun K' hK=>by simp only[go_sem,iO,mn,dX,ah hq,bO,ai,aj,List.length_map];exact aq) ?_
     refine aC ?_
     simp only[go_sem]
     rw[e]
end
noncomputable section
def K64:List (Nat×Spec):=[]
attribute [go_sem] K64
end
theorem rj{α:Type}{fj:α->Bool}{num:α->Int}{l:List α}:jd fj num l=true↔(∀ x∈l,fj x=true)/\l.Pairwise (fun a b=>num a<num b):=by
 rw[kq]
 constructor
 ·intro h
  refine⟨fun x hx=>?_,?_⟩
  ·obtain⟨j,hj,rfl⟩:=List.getElem_of_mem hx
   exact(h j hj hj).1
  ·rw[List.pairwise_iff_getElem]
   exact fun i j hi hj bD=>wy h i j hi hj bD
 ·rintro⟨h1,h2⟩ j hj _
  refine⟨h1 _ (List.getElem_mem hj),fun h0=>?_⟩
  rw[List.pairwise_iff_getElem]at h2
  exact h2 (j-1) j (by omega) hj (by omega)
structure R5 where
 (a b c d e:Int)
 deriving Inhabited
structure R7 where
 (a b c d e f g:Int)
 deriving Inhabited
structure Raw where
 rs:List R5
 ts:List R7
 ss:List R5
 deriving Inhabited
def mps:List Pap:=[⟨1,4⟩,⟨2,3⟩,⟨5,2⟩]
def ca(n:Int):Pap:=mps.getD (aQ n 3).toNat default
def r5(l:List R5)(i:Nat):R5:=l.getD i default
def r7(l:List R7)(i:Nat):R7:=l.getD i default
def dU(r:Raw):Nat->Int
 | 0=>0
 |i+1=>dU r i+aQ (r5 r.rs i).d 20
def fR(r:Raw)(i:Nat):Rec:=⟨3*i+1,1+aQ (r5 r.rs i).a 4,(ca (r5 r.rs i).b).id,ja (r5 r.rs i).c (ca (r5 r.rs i).b).lv,dU r (i+1),dU r (i+1)+aQ (r5 r.rs i).e 5,0⟩
def eM(r:Raw)(m:Nat):List Rec:=(List.range m).map (fR r)
def nR(r:Raw):Nat:=min r.rs.length 8
def xT(r:Raw)(j:Nat):Rec:=(eM r (nR r)).getD (aQ (r7 r.ts j).a (nR r)).toNat zeroR
def dk(r:Raw)(j:Nat):Int:=(xT r j).da+aQ (r7 r.ts j).c 30
def tM(r:Raw)(j:Nat):Ret:=⟨3*j+2,(xT r j).so,1+aQ (r7 r.ts j).g 4,ja (r7 r.ts j).b (bW mps (xT r j).pa),bH 0 (dk r j-aQ (r7 r.ts j).d 12),dk r j+aQ (r7 r.ts j).e 12,dk r j+aQ (r7 r.ts j).e 12+aQ (r7 r.ts j).f 9,0⟩
def nT(r:Raw):Nat:=if nR r=0 then 0 else min r.ts.length 8
def jg(r:Raw)(m:Nat):List Ret:=(List.range m).map (tM r)
def gd(r:Raw)(m:Nat):List Int:=(List.range m).map (dk r)
def ft(r:Raw)(ss:List Sig):Led:=⟨mps,eM r (nR r),jg r (nT r),ss⟩
def ld(r:Raw)(j:Nat):Int:=aQ (r5 r.ss j).d (dU r (nR r)+20)
def od(r:Raw)(j:Nat):Int:=1+aQ (r5 r.ss j).c (ca (r5 r.ss j).b).lv
def oc(r:Raw)(j:Nat)(ss:List Sig):Int:=if (aQ (r5 r.ss j).e 4 != 3)=true then ib (aU (ft r ss) 900) ⟨(ca (r5 r.ss j).b).id,od r j⟩ (gd r (nT r)) (ld r j)else aQ (r5 r.ss j).a 5
def ug(r:Raw)(j:Nat)(ss:List Sig):Sig:=⟨3*j+3,oc r j ss,(ca (r5 r.ss j).b).id,od r j,ld r j,ld r j+aQ (r5 r.ss j).e 30,0⟩
def dw(r:Raw):Nat->List Sig
 | 0=>[]
 |j+1=>dw r j++[ug r j (dw r j)]
def nS(r:Raw):Nat:=min r.ss.length 6
def l3(r:Raw):Led:=ft r (dw r (nS r))
theorem rV(n:Int):ca n∈mps:=by
 have h:=dg (n:=n) (m:=3) (by decide)
 unfold ca
 have hl:(aQ n 3).toNat<mps.length:=by show _<3;omega
 rw[cz hl]
 exact List.getElem_mem hl
theorem qk{p:Pap}(h:p∈mps):bW mps p.id=p.lv/\2<=p.lv/\p.lv<=4/\1<=p.id/\p.id<=5:=by
 unfold mps at h
 simp only[List.mem_cons,List.not_mem_nil,or_false]at h
 rcases h with rfl | rfl | rfl<;>decide
theorem A9(n:Int):∀ m,∀ x∈fC n m,1<=x/\x<=m
 | 0,x,h=>nomatch h
 |m+1,x,h=>by
  rw[fC]at h
  split at h
  ·rcases List.mem_append.1 h with h | h
   ·have:=A9 n m x h;omega
   ·simp only[List.mem_singleton]at h;omega
  ·have:=A9 n m x h;omega
theorem Gf(n:Int):∀ m,(fC n m).Pairwise (· < ·)
 | 0=>List.Pairwise.nil
 |m+1=>by
  rw[fC]
  split
  ·rw[List.pairwise_append]
   refine⟨Gf n m,List.pairwise_singleton _ _,fun a ha b hb=>?_⟩
   have :=A9 n m a ha
   simp only[List.mem_singleton]at hb
   omega
  ·exact Gf n m
theorem JS{l:List Int}{m:Int}(h0:l≠[])(hp:l.Pairwise (· < ·))(hm:∀ x∈l,1<=x/\x<=m)(Nu:m<=30):lr l=true:=by
 have cL:0<l.length:=List.length_pos_iff.2 h0
 have ab:l.length-1<l.length:=by omega
 have h1:=hm _ (List.getElem_mem cL)
 have h2:=hm _ (List.getElem_mem ab)
 unfold lr cb
 rw[cz cL,cz ab]
 simp only[Bool.and_eq_true,decide_eq_true_eq]
 refine⟨⟨⟨cL,?_⟩,by omega⟩,by omega⟩
 rw[wk]
 intro j hj cG
 rw[List.pairwise_iff_getElem]at hp
 exact hp (j-1) j (by omega) hj (by omega)
theorem O0(n:Int){m:Int}(h1:1<=m)(h2:m<=30):lr (ja n m)=true/\∀ x∈ja n m,1<=x/\x<=m:=by
 unfold ja
 split
 ·refine⟨JS (m:=1) (by simp) (List.pairwise_singleton _ _) (fun x hx=>?_) (by decide),fun x hx=>?_⟩
  ·simp only[List.mem_singleton]at hx;omega
  ·simp only[List.mem_singleton]at hx;omega
 ·rename_i h0
  have hm:∀ x∈fC n m.toNat,1<=x/\x<=m:=fun x hx=>by have:=A9 n _ x hx;omega
  exact⟨JS h0 (Gf n _) hm h2,hm⟩
theorem xN(r:Raw):∀ i,0<=dU r i/\dU r i<=20*i
 | 0=>by exact⟨Int.le_refl _,Int.le_refl _⟩
 |i+1=>by
  have :=xN r i
  have h:=dg (n:=(r5 r.rs i).d) (m:=20) (by decide)
  rw[dU]
  omega
theorem gm{n lo hi:Int}(h1:lo<=n)(h2:n<=hi):cb n lo hi=true:=by
 unfold cb
 rw[decide_eq_true h1,decide_eq_true h2];rfl
theorem yF{k:Int}(h1:0<=k)(h2:k<=100000):kZ k 0=true:=by
 unfold kZ dayB
 rw[gm h1 h2];rfl
theorem p9(r:Raw){i:Nat}(hi:i<8):dJ (fR r i)=true/\ow (fR r i).lv<=bW mps (fR r i).pa/\(fR r i).da<=160/\(fR r i).bo<=4/\1<=(fR r i).bo/\0<=(fR r i).da/\2<=bW mps (fR r i).pa/\bW mps (fR r i).pa<=4:=by
 obtain⟨e,l1,l2,p1,p2⟩:=qk (rV (r5 r.rs i).b)
 obtain⟨b1,b2⟩:=O0 (r5 r.rs i).c (m:=(ca (r5 r.rs i).b).lv) (by omega) (by omega)
 have h4:=dg (n:=(r5 r.rs i).a) (m:=4) (by decide)
 have h5:=dg (n:=(r5 r.rs i).e) (m:=5) (by decide)
 have hd:=xN r (i+1)
 have X6:ow (fR r i).lv<=(ca (r5 r.rs i).b).lv:=by
  show ow (ja _ _)<=_
  unfold ow
  have hb:=b1
  unfold lr at hb
  simp only[Bool.and_eq_true,decide_eq_true_eq]at hb
  have ab:(ja (r5 r.rs i).c (ca (r5 r.rs i).b).lv).length-1<(ja (r5 r.rs i).c (ca (r5 r.rs i).b).lv).length:=by omega
  rw[cz ab]
  exact(b2 _ (List.getElem_mem ab)).2
 refine⟨?_,by show _<=bW mps (ca _).id;rw[e];exact X6,?_,?_,?_,hd.1,by show _<=bW mps (ca _).id;omega,by show bW mps (ca _).id<=_;omega⟩
 ·have ht:kZ (dU r (i+1)+aQ (r5 r.rs i).e 5) 0=true:=yF (by omega) (by omega)
  have hb:dJ (fR r i)=(cb (3*(i:Int)+1) 1 99999&&cb (1+aQ (r5 r.rs i).a 4) 1 99&&cb (ca (r5 r.rs i).b).id 1 999&&lr (ja (r5 r.rs i).c (ca (r5 r.rs i).b).lv)&&dayB (dU r (i+1))&&kZ (dU r (i+1)+aQ (r5 r.rs i).e 5) 0):=rfl
  rw[hb,ht,b1,gm (by omega) (by omega),gm (by omega) (by omega),gm (by omega) (by omega)]
  unfold dayB
  rw[gm (by omega) (by omega)]
  rfl
 ·show dU r (i+1)<=160;omega
 ·show 1+aQ _ 4<=4;omega
 ·show 1<=1+aQ _ 4;omega
theorem iE(r:Raw)(m:Nat):(eM r m).length=m:=by unfold eM;simp
theorem Cl{r:Raw}{m i:Nat}(h:i<(eM r m).length):(eM r m)[i]=fR r i:=by
 have e:(eM r m)[i]=fR r ((List.range m)[i]'(by simpa[eM]using h)):=List.getElem_map (fR r) (h:=h)
 rw[e,List.getElem_range]
theorem ot(r:Raw):nR r<=8:=Nat.min_le_right _ _
theorem G3{r:Raw}(h:nR r≠0)(j:Nat):∃ i,i<nR r/\xT r j=fR r i:=by
 have hm:=dg (n:=(r7 r.ts j).a) (m:=(nR r:Int)) (by omega)
 refine⟨(aQ (r7 r.ts j).a (nR r)).toNat,by omega,?_⟩
 unfold xT
 rw[cz (by rw[iE];omega),Cl]
theorem vY{r:Raw}(h:nR r≠0){j:Nat}(hj:j<8):jR (tM r j)=true/\0<=dk r j/\dk r j<=200:=by
 obtain⟨i,hi,e⟩:=G3 h j
 have h8:=ot r
 obtain⟨c1,-,c3,-,-,c6,c7,c8⟩:=p9 r (show i<8 by omega)
 have nu:(xT r j).so=3*(i:Int)+1:=by rw[e];rfl
 have Df:=dg (n:=(r7 r.ts j).c) (m:=30) (by decide)
 have m4:=dg (n:=(r7 r.ts j).g) (m:=4) (by decide)
 have JD:=dg (n:=(r7 r.ts j).d) (m:=12) (by decide)
 have Dg:=dg (n:=(r7 r.ts j).e) (m:=12) (by decide)
 have m9:=dg (n:=(r7 r.ts j).f) (m:=9) (by decide)
 have av:dk r j=(fR r i).da+aQ (r7 r.ts j).c 30:=by unfold dk;rw[e]
 obtain⟨b1,-⟩:=O0 (r7 r.ts j).b (m:=bW mps (xT r j).pa) (by rw[e];omega) (by rw[e];omega)
 have gH:0<=bH 0 (dk r j-aQ (r7 r.ts j).d 12)/\bH 0 (dk r j-aQ (r7 r.ts j).d 12)<=dk r j:=by unfold bH;split<;>omega
 refine⟨?_,by omega,by omega⟩
 have hb:jR (tM r j)=(cb (3*(j:Int)+2) 1 99999&&cb (xT r j).so 1 99999&&cb (1+aQ (r7 r.ts j).g 4) 1 99&&lr (ja (r7 r.ts j).b (bW mps (xT r j).pa))&&cb (bH 0 (dk r j-aQ (r7 r.ts j).d 12)) 0 (dk r j+aQ (r7 r.ts j).e 12)&&dayB (dk r j+aQ (r7 r.ts j).e 12)&&kZ (dk r j+aQ (r7 r.ts j).e 12+aQ (r7 r.ts j).f 9) 0):=rfl
 rw[hb,b1,yF (by omega) (by omega),gm (by omega) (by omega),gm (by omega) (by omega),gm (by omega) (by omega),gm (by omega) (by omega)]
 unfold dayB
 rw[gm (by omega) (by omega)]
 rfl
theorem rT(r:Raw):nT r<=8:=by unfold nT;split<;>omega
theorem wE{r:Raw}{j:Nat}(h:j<nT r):nR r≠0:=by
 intro h0
 unfold nT at h
 rw[if_pos h0]at h
 omega
theorem Qs{r:Raw}{ss:List Sig}(f:Fol)(az:List Int)(day:Int):0<=ib (aU (ft r ss) 900) f az day/\ib (aU (ft r ss) 900) f az day<=4:=by
 have E2:∀ q:Nat,0<=(an (ft r ss) q).bo/\(an (ft r ss) q).bo<=4:=fun q=>by
  by_cases hq:q<(ft r ss).rs.length
  ·rw[cE hq]
   have e:(ft r ss).rs[q]=fR r q:=Cl hq
   have hl:(ft r ss).rs.length=nR r:=iE _ _
   have h8:=ot r
   rw[e]
   obtain⟨-,-,-,c4,c5,-⟩:=p9 r (show q<8 by omega)
   omega
  ·have:an (ft r ss) q=zeroR:=by
     unfold an
     rw[List.getD_eq_getElem?_getD,List.getElem?_eq_none (by omega)];rfl
   rw[this]
   decide
 unfold ib
 split
 ·decide
 ·split
  ·decide
  ·exact E2 _
theorem Q8(r:Raw){j:Nat}(hj:j<6)(ss:List Sig):kC (ug r j ss)=true/\(ug r j ss).le<=bW mps (ug r j ss).pa:=by
 obtain⟨e,l1,l2,p1,p2⟩:=qk (rV (r5 r.ss j).b)
 have ml:=dg (n:=(r5 r.ss j).c) (m:=(ca (r5 r.ss j).b).lv) (by omega)
 have hd:=xN r (nR r)
 have h8:=ot r
 have md:=dg (n:=(r5 r.ss j).d) (m:=dU r (nR r)+20) (by omega)
 have Df:=dg (n:=(r5 r.ss j).e) (m:=30) (by decide)
 have m5:=dg (n:=(r5 r.ss j).a) (m:=5) (by decide)
 have ez:0<=oc r j ss/\oc r j ss<=4:=by
  unfold oc
  split
  ·exact Qs _ _ _
  ·omega
 have ig:od r j=1+aQ (r5 r.ss j).c (ca (r5 r.ss j).b).lv:=rfl
 have zV:ld r j=aQ (r5 r.ss j).d (dU r (nR r)+20):=rfl
 refine⟨?_,?_⟩
 ·have hb:kC (ug r j ss)=(cb (3*(j:Int)+3) 1 99999&&cb (oc r j ss) 0 99&&cb (ca (r5 r.ss j).b).id 1 999&&cb (od r j) 1 30&&dayB (ld r j)&&kZ (ld r j+aQ (r5 r.ss j).e 30) 0):=rfl
  rw[hb,yF (by omega) (by omega),gm (by omega) (by omega),gm (by omega) (by omega),gm (by omega) (by omega),gm (by omega) (by omega)]
  unfold dayB
  rw[gm (by omega) (by omega)]
  rfl
 ·show od r j<=bW mps (ca (r5 r.ss j).b).id
  rw[e];omega
theorem B0(r:Raw):∀ s,(dw r s).length=s
 | 0=>rfl
 |s+1=>by rw[dw,List.length_append,B0];rfl
theorem yK(r:Raw):∀ s,s<=6->(∀ x∈dw r s,(kC x=true/\x.le<=bW mps x.pa)/\∃ j:Nat,j<s/\x.so=3*(j:Int)+3)/\(dw r s).Pairwise (fun a b=>a.so<b.so)
 | 0,_=>⟨fun x h=>(nomatch h),List.Pairwise.nil⟩
 |s+1,hs=>by
  obtain⟨h1,h2⟩:=yK r s (by omega)
  rw[dw]
  refine⟨fun x hx=>?_,?_⟩
  ·rcases List.mem_append.1 hx with hx | hx
   ·obtain⟨a,j,hj,b⟩:=h1 x hx
    exact⟨a,j,by omega,b⟩
   ·simp only[List.mem_singleton]at hx
    subst hx
    exact⟨Q8 r (by omega) _,s,by omega,rfl⟩
  ·rw[List.pairwise_append]
   refine⟨h2,List.pairwise_singleton _ _,fun a ha b hb=>?_⟩
   obtain⟨-,j,hj,e⟩:=h1 a ha
   simp only[List.mem_singleton]at hb
   subst hb
   show a.so<3*(s:Int)+3
   omega
theorem JB(r:Raw){s:Nat}(hs:s<=6):bE (ft r (dw r s)) where
 ps:=by
  rw[rj]
  show (∀ x∈mps,oe x=true)/\mps.Pairwise (fun a b=>a.id<b.id)
  exact⟨by decide,by decide⟩
 psn:=by show 3<=12;decide
 rs:=by
  have h8:=ot r
  rw[rj]
  refine⟨fun x hx=>?_,?_⟩
  ·obtain⟨i,hi,rfl⟩:=List.mem_map.1 hx
   have bK:i<nR r:=List.mem_range.1 hi
   exact(p9 r (by omega)).1
  ·show (eM r (nR r)).Pairwise _
   unfold eM
   rw[List.pairwise_map]
   refine List.pairwise_lt_range.imp fun {a b} sS=>?_
   show 3*(a:Int)+1<3*(b:Int)+1
   omega
 rsn:=by have:=ot r;show (eM r (nR r)).length<=60;rw[iE];omega
 ts:=by
  have h8:=rT r
  rw[rj]
  refine⟨fun x hx=>?_,?_⟩
  ·obtain⟨i,hi,rfl⟩:=List.mem_map.1 hx
   have bK:i<nT r:=List.mem_range.1 hi
   exact(vY (wE bK) (by omega)).1
  ·show (jg r (nT r)).Pairwise _
   unfold jg
   rw[List.pairwise_map]
   refine List.pairwise_lt_range.imp fun {a b} sS=>?_
   show 3*(a:Int)+2<3*(b:Int)+2
   omega
 tsn:=by have:=rT r;show ((List.range (nT r)).map _).length<=60;rw[List.length_map,List.length_range];omega
 ss:=by
  obtain⟨h1,h2⟩:=yK r s hs
  rw[rj]
  exact⟨fun x hx=>(h1 x hx).1.1,h2⟩
 ssn:=by show (dw r s).length<=60;rw[B0];omega
 rl:=fun j hj=>by
  have e:(ft r (dw r s)).rs[j]=fR r j:=Cl hj
  have hl:(ft r (dw r s)).rs.length=nR r:=iE _ _
  have h8:=ot r
  rw[e]
  exact(p9 r (by omega)).2.1
 sl:=fun j hj=>by
  obtain⟨h1,-⟩:=yK r s hs
  exact(h1 _ (List.getElem_mem hj)).1.2
 nd:=by
  obtain⟨h1,h2⟩:=yK r s hs
  unfold tX
  rw[List.nodup_append,List.nodup_append]
  have m1:∀ x∈(ft r (dw r s)).rs.map Rec.so,∃ i:Nat,x=3*(i:Int)+1:=fun x hx=>by
   obtain⟨y,hy,rfl⟩:=List.mem_map.1 hx
   obtain⟨i,-,rfl⟩:=List.mem_map.1 hy
   exact⟨i,rfl⟩
  have m2:∀ x∈(ft r (dw r s)).ts.map Ret.so,∃ i:Nat,x=3*(i:Int)+2:=fun x hx=>by
   obtain⟨y,hy,rfl⟩:=List.mem_map.1 hx
   obtain⟨i,-,rfl⟩:=List.mem_map.1 hy
   exact⟨i,rfl⟩
  have m3:∀ x∈(ft r (dw r s)).ss.map Sig.so,∃ i:Nat,x=3*(i:Int)+3:=fun x hx=>by
   obtain⟨y,hy,rfl⟩:=List.mem_map.1 hx
   obtain⟨-,j,-,e⟩:=h1 y hy
   exact⟨j,e⟩
  have n1:((ft r (dw r s)).rs.map Rec.so).Nodup:=by
   show ((eM r (nR r)).map Rec.so).Nodup
   unfold eM
   rw[List.map_map,List.nodup_iff_pairwise_ne,List.pairwise_map]
   refine List.pairwise_lt_range.imp fun {a b} sS=>?_
   show 3*(a:Int)+1≠3*(b:Int)+1
   omega
  have n2:((ft r (dw r s)).ts.map Ret.so).Nodup:=by
   show ((jg r (nT r)).map Ret.so).Nodup
   unfold jg
   rw[List.map_map,List.nodup_iff_pairwise_ne,List.pairwise_map]
   refine List.pairwise_lt_range.imp fun {a b} sS=>?_
   show 3*(a:Int)+2≠3*(b:Int)+2
   omega
  have n3:((ft r (dw r s)).ss.map Sig.so).Nodup:=by
   show ((dw r s).map Sig.so).Nodup
   rw[List.nodup_iff_pairwise_ne,List.pairwise_map]
   exact h2.imp fun {a b} sS=>by omega
  refine⟨⟨n1,n2,fun a ha b hb=>?_⟩,n3,fun a ha b hb=>?_⟩
  ·obtain⟨i,rfl⟩:=m1 a ha
   obtain⟨j,rfl⟩:=m2 b hb
   omega
  ·obtain⟨j,rfl⟩:=m3 b hb
   rcases List.mem_append.1 ha with ha | ha
   ·obtain⟨i,rfl⟩:=m1 a ha;omega
   ·obtain⟨i,rfl⟩:=m2 a ha;omega
open Go
def L3:V->Bool
 | .int _ _=>true
 |_=>false
def zF(l:List V):Bool:=l.all fun x=>x.cells.all L3
def mY(obj:Name->Option O):D->V
 | .v x=>x
 | .msl nm _=>match obj nm with
   |some (.arr _ l)=>.sl l
   |_=>default
 |_=>default
def na(obj:Name->Option O):D->Bool
 | .v _=>true
 | .msl nm k=>match obj nm with
   |some (.arr _ l)=>decide (k=l.length)&&zF l
   |_=>false
 |_=>false
def zm:D->List Name
 | .msl nm _=>[nm]
 |_=>[]
def jj(obj:Name->Option O):D->V
 | .agg l=>.agg (l.map (mY obj))
 |d=>mY obj d
def pc(obj:Name->Option O):D->Bool
 | .agg l=>l.all (na obj)
 |d=>na obj d
def Jr:D->List Name
 | .agg l=>l.flatMap zm
 |d=>zm d
def abe:V->Bool
 | .bool _=>true
 |_=>false
def PSpec.toSpecU(s:PSpec):Spec:=
 ⟨fun obj _ ds=>⟨(∀ d∈ds,pc obj d=true)/\s.pre (ds.map (jj obj)),.v (s.fn (ds.map (jj obj))),obj⟩,fun _ _ ds=>ds.flatMap Jr,fun _ _ _=>[]⟩
theorem lV{obj obj2:Name->Option O}{d:D}(h:bQ (zm d) obj obj2):mY obj2 d=mY obj d/\na obj2 d=na obj d:=by
 cases d<;>try exact⟨rfl,rfl⟩
 rename_i nm k
 have :=h nm (by simp[zm])
 simp only[mY,na,this,and_self]
theorem S6{obj obj2:Name->Option O}{d:D}(h:bQ (Jr d) obj obj2):jj obj2 d=jj obj d/\pc obj2 d=pc obj d:=by
 cases d with
 |agg l=>
  have hx:∀ x∈l,mY obj2 x=mY obj x/\na obj2 x=na obj x:=fun x hx=>lV fun nm hn=>h nm (List.mem_flatMap.2 ⟨x,hx,hn⟩)
  simp only[jj,pc]
  refine⟨congrArg V.agg (List.map_congr_left fun x h=>(hx x h).1),?_⟩
  rw[Bool.eq_iff_iff,List.all_eq_true,List.all_eq_true]
  exact⟨fun k x h=>(hx x h).2▸k x h,fun k x h=>(hx x h).2.symm▸k x h⟩
 |v x=>exact lV (d:=.v x) h
 |nilsl=>exact lV (d:=.nilsl) h
 |nilmap=>exact lV (d:=.nilmap) h
 |ref a b=>exact lV (d:=.ref a b) h
 |msl a b=>exact lV (d:=.msl a b) h
 |aref a b c e=>exact lV (d:=.aref a b c e) h
 |map a=>exact lV (d:=.map a) h
 |yld a=>exact lV (d:=.yld a) h
 |clo a b c=>exact lV (d:=.clo a b c) h
 |tup a=>exact lV (d:=.tup a) h
 |any=>exact lV (d:=.any) h
theorem PSpec.nearU(s:PSpec):s.toSpecU.Near:=by
 refine⟨fun obj obj2 t ds h=>?_,fun obj obj2 t ds h=>rfl,fun obj t ds nm hn=>(nomatch hn),fun obj obj2 t ds h=>rfl⟩
 have hx:∀ x∈ds,jj obj2 x=jj obj x/\pc obj2 x=pc obj x:=fun x hx=>S6 fun nm hn=>h nm (List.mem_flatMap.2 ⟨x,hx,hn⟩)
 have e:ds.map (jj obj2)=ds.map (jj obj):=List.map_congr_left fun x h=>(hx x h).1
 refine bX.same ?_ (by simp only[PSpec.toSpecU,e]) rfl rfl
 simp only[PSpec.toSpecU,e]
 exact congrArg (· /\_) (propext ⟨fun k x h=>(hx x h).2▸k x h,fun k x h=>(hx x h).2.symm▸k x h⟩)
noncomputable def nl(m:Mem)(w:World):Mem:=fun b off=>match m b off with
 |some v=>some v
 |none=>match w.cell? ⟨b,off,none⟩with
  |some (.int k n)=>some (.int k n)
  |_=>none
theorem DK(m:Mem)(w:World):Mem.le m (nl m w):=fun b off v h=>by simp only[nl,h]
theorem L0{m:Mem}{w:World}{b off:Nat}{v:Value}(h:nl m w b off=some v):m b off=some v\/∃ k n,v=.int k n/\w.cell? ⟨b,off,none⟩=some v:=by
 unfold nl at h
 split at h
 ·rename_i e;cases h;exact .inl e
 ·split at h
  ·rename_i e;cases h;exact .inr ⟨_,_,rfl,e⟩
  ·cases h
theorem WT{m:Mem}{w:World}(hm:∀ b off v,m b off=some v->w.cell? ⟨b,off,none⟩=some v){b off:Nat}{k:IntKind}{n:Int}(h:w.cell? ⟨b,off,none⟩=some (.int k n)):nl m w b off=some (.int k n):=by
 unfold nl
 cases e:m b off with
 |some v=>have:=hm _ _ _ e;rw[h]at this;simpa using this.symm
 |none=>simp only[h]
theorem lg{G:Ghost}{φ:Name->Loc}{m:Mem}{σ:S}{a:Act}{w:World}(hC:aP G φ m σ a w){d:D}{u:Value}(hd:aF φ σ.obj m d u)(aa:na σ.obj d=true):
 aO (nl m w) (mY σ.obj d) u/\(d.one=true->(mY σ.obj d).one=true):=by
 cases hd with
 |v x u h=>exact⟨h.mono (DK m w),id⟩
 |msl nm k u hx hu=>
  obtain⟨o,n,aA,hlen,hk,dp⟩:=hx
  cases o with
  |arr sz l=>
   simp only[na,aA,Bool.and_eq_true,decide_eq_true_eq]at aa
   simp only[mY,aA]
   refine⟨?_,fun _=>rfl⟩
   simp only[O.len?,Option.some.injEq]at hlen
   subst hlen
   obtain⟨MK,hint⟩:=aa
   have e:=dp MK
   subst e
   rcases hC.objs nm _ aA with⟨h,h'⟩ | ⟨h0,h1,h2,h3,h4,us,T,f,h5,h6,h7,h8⟩
   ·subst h'
    simp only[Loc.slice,h,if_true]
    exact .slnil _ _
   ·simp only[Loc.slice,h0,Bool.false_eq_true,if_false]
    rw[MK]
    by_cases hl:l=[]
    ·subst hl;exact .slnil _ _
    ·have key:∀ i j (hi:i<l.length) (hj:j<(l[i].cells).length),∃ c,nl m w (φ nm).blk ((φ nm).off+i*sz+j)=some c/\us[(φ nm).off+i*sz+j]?=some c/\aO m (l[i].cells)[j] c:=by
       intro i j hi hj
       obtain⟨c,x,y⟩:=h8 i j hi hj
       refine⟨c,?_,x,y⟩
       have hc:L3 (l[i].cells)[j]=true:=by
        unfold zF at hint
        rw[List.all_eq_true]at hint
        have :=hint _ (List.getElem_mem hi)
        rw[List.all_eq_true]at this
        exact this _ (List.getElem_mem hj)
       have hw:w.cell? ⟨(φ nm).blk,(φ nm).off+i*sz+j,none⟩=some c:=by
        unfold World.cell?
        simp only[h5]
        exact x
       cases hv:(l[i].cells)[j]<;>rw[hv]at hc y<;>first | (cases hc;done) | skip
       cases y
       exact WT hC.mem hw
     refine .sl l _ _ _ sz (fun i j=>(us[(φ nm).off+i*sz+j]?).getD undef) hl (by omega) h1 h3 (fun i j hi hj=>?_) (fun i j hi hj=>?_) h4
     ·obtain⟨c,x,y,_⟩:=key i j hi (by rw[h3];exact hj)
      rw[x,y];rfl
     ·obtain⟨c,_,y,z⟩:=key i j hi hj
      rw[y];exact z.mono (DK m w)
  |_=>simp[na,aA]at aa
 |_=>cases aa
theorem S5{G:Ghost}{φ:Name->Loc}{m:Mem}{σ:S}{a:Act}{w:World}(hC:aP G φ m σ a w){d:D}{u:Value}(hd:aF φ σ.obj m d u)(aa:pc σ.obj d=true):
 aO (nl m w) (jj σ.obj d) u:=by
 cases d with
 |agg l=>
  cases hd with
  |agg _ us h ho hr=>
   simp only[pc,List.all_eq_true]at aa
   simp only[jj]
   refine .agg _ us (by simpa using h) (fun x hx=>?_) fun i hi bK=>?_
   ·obtain⟨d,hd,rfl⟩:=List.mem_map.1 hx
    obtain⟨j,hj,rfl⟩:=List.getElem_of_mem hd
    exact(lg hC (hr j hj (by omega)) (aa _ (List.getElem_mem hj))).2 (ho _ (List.getElem_mem hj))
   ·simp only[List.length_map]at hi
    rw[List.getElem_map]
    exact(lg hC (hr i hi bK) (aa _ (List.getElem_mem hi))).1
 |v x=>exact(lg (d:=.v x) hC hd aa).1
 |nilsl=>exact(lg (d:=.nilsl) hC hd aa).1
 |nilmap=>exact(lg (d:=.nilmap) hC hd aa).1
 |ref a b=>exact(lg (d:=.ref a b) hC hd aa).1
 |msl a b=>exact(lg (d:=.msl a b) hC hd aa).1
 |aref a b c e=>exact(lg (d:=.aref a b c e) hC hd aa).1
 |map a=>exact(lg (d:=.map a) hC hd aa).1
 |yld a=>exact(lg (d:=.yld a) hC hd aa).1
 |clo a b c=>exact(lg (d:=.clo a b c) hC hd aa).1
 |tup a=>exact(lg (d:=.tup a) hC hd aa).1
 |any=>exact(lg (d:=.any) hC hd aa).1
theorem aZ.soundU{P:Program}{f:FuncId}{s:PSpec}(h:aZ P f s)(hb:∀ xs,s.pre xs->∃ l,s.fn xs=.sl l/\l.all abe=true):aN P f s.toSpecU:=by
 obtain⟨hy,lC,_,sR⟩:=h
 refine⟨s.nearU,fun _=>lC,fun _ G φ m σ a w hC t ds us _ hl hr aa=>?_,fun e=>(hy e).elim⟩
 obtain⟨xd,qy⟩:=aa
 have j':∀ b off v,nl m w b off=some v->w.cell? ⟨b,off,none⟩=some v:=fun b off v h=>by
  rcases L0 h with h | ⟨_,_,_,h⟩
  ·exact hC.mem _ _ _ h
  ·exact h
 refine(sR (nl m w) w (ds.map (jj σ.obj)) us j' ⟨by simpa using hl,fun i h h'=>?_⟩ qy).mono ?_
 ·simp only[List.length_map]at h
  rw[List.getElem_map,Array.getElem_toList]
  exact S5 hC (hr i h (by simpa using h')) (xd _ (List.getElem_mem h))
 rintro e w' ⟨v,m',rfl,xy,hm,hn,hv⟩
 obtain⟨l,gI,eG⟩:=hb _ qy
 let m2:Mem:=fun b off=>if w.heap.size<=b then m' b off else m b off
 have hle:Mem.le m m2:=fun b off v h=>by
  show (if w.heap.size<=b then m' b off else m b off)=some v
  split
  ·exact hm _ _ _ (DK m w _ _ _ h)
  ·exact h
 have zN:aO m2 (s.fn (ds.map (jj σ.obj))) v:=by
  rw[gI]at hv |-
  rw[List.all_eq_true]at eG
  have xw:∀ i (h:i<l.length),l[i].cells=[l[i]]:=fun i h=>by
   have :=eG _ (List.getElem_mem h)
   cases hv:l[i]<;>rw[hv]at this<;>first | (cases this;done) | rfl
  cases hv with
  |slnil a cap=>exact .slnil _ _
  |sl _ b o cap sz c z' sH jA hs hc hr ho=>
   have dL:sz=1:=by
    have h0:0<l.length:=List.length_pos_iff.2 z'
    rw[<-hs 0 h0,xw 0 h0];rfl
   subst dL
   have Nb:∀ i (h:i<l.length),∃ x,l[i]=.bool x/\c i 0=.bool x:=fun i h=>by
    have h1:=hr i 0 h (by rw[xw i h];exact Nat.zero_lt_one)
    have h2:=eG _ (List.getElem_mem h)
    simp only[xw i h,List.getElem_cons_zero]at h1
    cases hv:l[i]<;>rw[hv]at h2<;>first | (cases h2;done) | skip
    rw[hv]at h1
    generalize hc0:c i 0=cc at h1
    cases h1
    exact⟨_,rfl,rfl⟩
   refine .sl l b o cap 1 c z' sH jA hs (fun i j hi hj=>?_) (fun i j hi hj=>?_) ho
   ·have cG:j=0:=by omega
    subst cG
    have h1:=hc i 0 hi hj
    show (if w.heap.size<=b then m' b (o+i*1+0)else m b (o+i*1+0))=_
    split
    ·exact h1
    ·rename_i ab
     obtain⟨x,_,hx⟩:=Nb i hi
     rcases hn _ _ _ h1 with h2 | ⟨h2,_⟩
     ·rcases L0 h2 with h3 | ⟨k,n,h3,_⟩
      ·exact h3
      ·rw[hx]at h3;cases h3
     ·exact(ab h2).elim
   ·obtain⟨x,h1,h2⟩:=Nb i hi
    have cG:j=0:=by rw[xw i hi]at hj;simpa using hj
    subst cG
    simp only[xw i hi,List.getElem_cons_zero]
    rw[h1,h2]
    exact .bool x
 refine⟨v,φ,m2,rfl,?_,.v _ _ zN,.refl _ _⟩
 simp only[PSpec.toSpecU]
 refine hC.imm hle ⟨xy.os,xy.tape,xy.output,xy.size⟩ xy.block fun b off v h=>?_
 have h':(if w.heap.size<=b then m' b off else m b off)=some v:=h
 split at h'
 ·rename_i bF
  rcases hn _ _ _ h' with h2 | h2
  ·have:=oO (j' _ _ _ h2);omega
  ·exact .inr h2
 ·exact .inl h'
structure Rn (α:Type) where
 m:Nat
 fam:α->List Name->List O
 args:α->List Name->List D
 ok:α->Prop
 val:α->List Name->D
structure Rn.Ok {α:Type} (r:Rn α):Prop where
 len:∀ a Ls,Ls.length=r.m->(r.fam a Ls).length=r.m
 renF:∀ a f Ls,Ls.length=r.m->(r.fam a Ls).map (O.ren f)=r.fam a (Ls.map f)
 renA:∀ a f Ls,Ls.length=r.m->D.renL f (r.args a Ls)=r.args a (Ls.map f)
 reach:∀ a Ls obj,Ls.length=r.m->Ls.Nodup->cW obj Ls (r.fam a Ls)->reach obj (r.args a Ls)=Ls
 closF:∀ a dom Ls,Ls.length=r.m->(∀ x∈Ls,dom x=true)->∀ o∈r.fam a Ls,O.clos dom o=true
 closA:∀ a dom Ls,Ls.length=r.m->(∀ x∈Ls,dom x=true)->D.closL dom (r.args a Ls)=true
 det:∀ a b,r.ok a->r.ok b->r.fam a (LR r.m)=r.fam b (LR r.m)->r.args a (LR r.m)=r.args b (LR r.m)->r.val a (LR r.m)=r.val b (LR r.m)
 vcl:∀ a dom Ls,Ls.length=r.m->(∀ x∈Ls,dom x=true)->D.clos dom (r.val a Ls)=true
 vren:∀ a f Ls,Ls.length=r.m->(r.val a Ls).ren f=r.val a (Ls.map f)
variable {α:Type}
noncomputable def Rn.c(r:Rn α):CSpec where
 pre:=fun os ds=>∃ a,r.ok a/\os=r.fam a (LR r.m)/\ds=r.args a (LR r.m)
 out:=fun os ds=>⟨[],[],by classical exact if h:∃ a,r.ok a/\os=r.fam a (LR r.m)/\ds=r.args a (LR r.m)then r.val h.choose (LR r.m)else .any⟩
theorem Rn.c_out{r:Rn α}(hr:r.Ok){a:α}(ha:r.ok a):r.c.out (r.fam a (LR r.m)) (r.args a (LR r.m))=⟨[],[],r.val a (LR r.m)⟩:=by
 have h:∃ b,r.ok b/\r.fam a (LR r.m)=r.fam b (LR r.m)/\r.args a (LR r.m)=r.args b (LR r.m):=⟨a,ha,rfl,rfl⟩
 have e:r.val h.choose (LR r.m)=r.val a (LR r.m):=(hr.det _ _ ha h.choose_spec.1 h.choose_spec.2.1 h.choose_spec.2.2).symm
 simp only[Rn.c]
 rw[dif_pos h,e]
theorem Rn.c_app{r:Rn α}(hr:r.Ok){a:α}(ha:r.ok a){obj:Name->Option O}{t:Name}{Ls:List Name}(hl:Ls.length=r.m)(hn:Ls.Nodup)(hF:cW obj Ls (r.fam a Ls)):
 r.c.toSpec.app obj t (r.args a Ls)=⟨True,r.val a Ls,obj⟩:=by
 have j8:=hr.reach a Ls obj hl hn hF
 have sQ:Ls.map (cin Ls)=LR r.m:=by rw[A4 hn,hl]
 have e1:cD obj (r.args a Ls)=r.fam a (LR r.m):=by
  unfold cD
  rw[j8]
  have nK:=hF
  rw[lk]at nK
  have :Ls.map (cH Ls obj)=(r.fam a Ls).map (O.ren (cin Ls)):=by
   refine List.ext_getElem (by simp[hr.len _ _ hl,hl]) fun i h1 h2=>?_
   have h3:i<Ls.length:=by simpa using h1
   have h4:i<(r.fam a Ls).length:=by rw[hr.len _ _ hl,<-hl];exact h3
   have h5:=congrArg (fun l=>l[i]?) nK
   have h6:obj Ls[i]=some (r.fam a Ls)[i]:=by simpa[h3,h4]using h5
   simp only[List.getElem_map,cH,h6]
  rw[this,hr.renF _ _ _ hl,sQ]
 have e2:dd obj (r.args a Ls)=r.args a (LR r.m):=by
  unfold dd
  rw[j8,hr.renA _ _ _ hl,sQ]
 have iU:∀ x∈Ls,cX Ls x=true:=fun x hx=>gD.2 hx
 have j6:shut obj Ls=true:=by
  unfold shut
  rw[List.all_eq_true]
  intro x hx
  obtain⟨i,hi,rfl⟩:=List.getElem_of_mem hx
  have nK:=hF
  rw[lk]at nK
  have h4:i<(r.fam a Ls).length:=by rw[hr.len _ _ hl,<-hl];exact hi
  have h5:=congrArg (fun l=>l[i]?) nK
  have h6:obj Ls[i]=some (r.fam a Ls)[i]:=by simpa[hi,h4]using h5
  rw[h6]
  exact hr.closF _ _ _ hl iU _ (List.getElem_mem h4)
 have dT:r.c.pre (r.fam a (LR r.m)) (r.args a (LR r.m)):=⟨a,ha,rfl,rfl⟩
 simp only[CSpec.toSpec,e1,e2,j8,Rn.c_out hr ha,j6,hr.closA _ _ _ hl iU,fresh,List.all_nil,Bool.and_self,dT,and_self,dz,cF]
 rw[hr.vren _ _ _ (oU _)]
 have :(LR r.m).map (cout Ls t)=Ls:=by rw[<-hl];exact OF Ls t
 rw[this]
def Ij(P:Program)(rs:List ResultVar)(v:D)(H:Name->Option O)(e:Exit)(σ:S):Prop:=
 (e=.normal\/e=.ret)/\(bU P σ rs).ok/\(bU P σ rs).d=v/\∀ i,σ.obj [i,1]=H [i,1]
theorem Rn.sound{P:Program}{r:Rn α}(hr:r.Ok){f:FuncId}{fn:Func}{nt:Nat}{rs:List ResultVar}(hf:P.funcs[f]?=some fn)(cZ:fn.ntmps=nt)(cf:fn.results.toList=rs)(hn:(fn.name== "runtime.NumGoroutine")=false)(hy:f<1000000000)
 (hw:∃ c,fn.body=some c/\∀ a,r.ok a->(r.args a (LR r.m)).length<=nt/\CL P [c] (bt nt [0] (aX (r.fam a (LR r.m))) (dm 0 (r.args a (LR r.m))) []) (Ij P rs (r.val a (LR r.m)) (aX (r.fam a (LR r.m))))):aN P f r.c.toSpec:=by
 obtain⟨c,hc,hw⟩:=hw
 refine oK hf hc cZ cf (i6 hf hc hn) (Nat.ne_of_lt (show f<yid from hy)) ?_
 rintro os ds ⟨a,ha,rfl,rfl⟩
 obtain⟨hl,h⟩:=hw a ha
 refine⟨hl,?_⟩
 rw[Rn.c_out hr ha]
 refine CW.mono (jE h) ?_
 rintro e σ ⟨he,h1,h2,h3⟩
 have fin:(bU P σ rs).ok/\(bU P σ rs).d=r.val a (LR r.m)/\gw (r.fam a (LR r.m)) ⟨[],[],r.val a (LR r.m)⟩ σ:=by
  refine⟨h1,h2,CV fun i hi=>?_,trivial,?_⟩
  ·rw[Nat.zero_add,h3]
   show (r.fam a (LR r.m))[i]?=_
   rw[List.getElem?_eq_getElem hi]
  ·have hv:D.clos (dj (r.fam a (LR r.m)).length []) (r.val a (LR r.m))=true:=hr.vcl _ _ _ (oU _) fun x hx=>by
     obtain⟨i,hi,rfl⟩:=List.mem_map.1 hx
     rw[hr.len _ _ (oU _)]
     simpa[dj]using hi
   simp[hv,distinct]
 rcases he with rfl | rfl
 ·exact fin
 ·exact fin
theorem Rn.outC{r:Rn α}(hr:r.Ok)(a:α):∀ hs,ck [0] (b8 [0] hs) (aX (r.fam a (LR r.m)))=True:=fun hs=>eq_true (o8 (fun o ho dom hd=>hr.closF a dom _ (oU _) (fun x hx=>by
 obtain⟨i,_,rfl⟩:=List.mem_map.1 hx
 exact hd i) o ho) hs)
noncomputable section
attribute [go_sem] Ij
def S71u:Spec:=P71.toSpecU
theorem Wz:aN Tryz.prog 71 S71u:=Ca.soundU fun xs hp=>by
 obtain⟨l,hl⟩:∃ l:List Bool,P71.fn xs=.sl (l.map .bool):=by
  match xs,hp with
  |[a,b],_=>exact⟨_,rfl⟩
 refine⟨_,hl,?_⟩
 rw[List.all_eq_true]
 intro x hx
 obtain⟨y,_,rfl⟩:=List.mem_map.1 hx
 rfl
theorem WU(l:List Sig):zF (l.map encS)=true:=by
 unfold zF
 rw[List.all_eq_true]
 intro x hx
 obtain⟨y,_,rfl⟩:=List.mem_map.1 hx
 rfl
def yO(l:Led)(k:Int)(nm:Name):D:=.agg [.v (.sl (l.ps.map c9)),.v (.sl (l.rs.map encR)),.v (.sl (l.ts.map cT)),.msl nm l.ss.length,.v (vInt k),.v (.sl ((bn l k l.ts.length).map .bool)),.nilsl]
def jY:Rn (Led×Int) where
 m:=1
 fam:=fun a _=>[.arr 7 (a.1.ss.map encS)]
 args:=fun a Ls=>[.agg [.v (.sl (a.1.ps.map c9)),.v (.sl (a.1.rs.map encR)),.v (.sl (a.1.ts.map cT)),.msl (Ls.getD 0 []) a.1.ss.length],.v (vInt a.2)]
 ok:=fun a=>bE a.1
 val:=fun a Ls=>yO a.1 a.2 (Ls.getD 0 [])
theorem uJ{Ls:List Name}(h:Ls.length=1):∃ a,Ls=[a]:=by
 match Ls,h with
 |[a],_=>exact⟨a,rfl⟩
theorem Dk:jY.Ok where
 len:=fun _ _ h=>by obtain⟨a,rfl⟩:=uJ h;rfl
 renF:=fun a f Ls h=>rfl
 renA:=fun a f Ls h=>by obtain⟨a,rfl⟩:=uJ h;rfl
 reach:=fun x Ls obj h cM hF=>by
  obtain⟨a,rfl⟩:=uJ h
  obtain⟨h1,_⟩:=hF
  have en:de (jY.args x [a])=[a]:=rfl
  unfold Go.Eng.reach
  rw[en]
  show dC obj (2993+1+1+1+1+1+1+1) _ []=_
  simp[dC,gD,h1,lY]
 closF:=fun x dom Ls h hd o ho=>by
  simp only[jY,List.mem_cons,List.not_mem_nil,or_false]at ho
  subst ho;rfl
 closA:=fun x dom Ls h hd=>by
  obtain⟨a,rfl⟩:=uJ h
  have h1:=hd a (by simp)
  simp[jY,D.closL,D.clos,h1]
 det:=fun a b _ _ h1 h2=>by
  obtain⟨⟨p,r,t,s⟩,k⟩:=a
  obtain⟨⟨p2,r2,t2,s2⟩,k2⟩:=b
  simp only[jY,List.cons.injEq,D.agg.injEq,D.v.injEq,V.sl.injEq,O.arr.injEq,and_true,true_and]at h1 h2
  obtain⟨⟨e1,e2,e3,_⟩,e4⟩:=h2
  have e1:=congrArg (List.map qS) e1
  have e2:=congrArg (List.map kU) e2
  have e3:=congrArg (List.map mr) e3
  have e5:=congrArg (List.map jD) h1
  simp only[Og,AS,Oe,vv]at e1 e2 e3 e5
  have e6:k=k2:=by simpa[vInt]using e4
  subst e1 e2 e3 e5 e6
  rfl
 vcl:=fun x dom Ls h hd=>by
  obtain⟨a,rfl⟩:=uJ h
  have h1:=hd a (by simp)
  simp[jY,yO,D.closL,D.clos,h1]
 vren:=fun x f Ls h=>by obtain⟨a,rfl⟩:=uJ h;rfl
def S73m:Spec:=jY.c.toSpec
theorem RP(l:Led)(k:Int)(obj:Name->Option O)(t nm:Name)(H:Name->Option O)(cY:obj nm=H nm)(h0:H nm=some (.arr 7 (l.ss.map encS)))(hl:bE l):
 S71u.app obj t [.agg [.v (.sl (l.ps.map c9)),.v (.sl (l.rs.map encR)),.v (.sl (l.ts.map cT)),.msl nm l.ss.length],.v (vInt k)]=⟨True,.v (.sl ((bn l k l.ts.length).map .bool)),obj⟩:=by
 have ho:=cY.trans h0
 have e:jj obj (.agg [.v (.sl (l.ps.map c9)),.v (.sl (l.rs.map encR)),.v (.sl (l.ts.map cT)),.msl nm l.ss.length])=gM l:=by
  simp[jj,mY,ho,gM]
 have e2:P71.fn [gM l,vInt k]=.sl ((bn l k l.ts.length).map .bool):=by
  simp only[go_sem]
 have e3:P71.pre [gM l,vInt k]:=by
  simp only[go_sem]
  exact hl
 simp only[S71u,PSpec.toSpecU,List.map_cons,List.map_nil,e,show jj obj (.v (vInt k))=vInt k from rfl,e2,R.mk.injEq,and_true,eq_iff_iff,iff_true]
 refine⟨fun d hd=>?_,e3⟩
 simp only[List.mem_cons,List.not_mem_nil,or_false]at hd
 rcases hd with rfl | rfl
 ·simp[pc,na,ho,WU]
 ·rfl
theorem RQ(l:Led)(k:Int)(t:Name){F H:Name->Option O}(h0:H [0,1]=some (.arr 7 (l.ss.map encS)))(hl:bE l):
 S71u.app (fun nm=>if own [0] nm=true then F nm else H nm) t [.agg [.v (.sl (l.ps.map c9)),.v (.sl (l.rs.map encR)),.v (.sl (l.ts.map cT)),.msl [0,1] l.ss.length],.v (vInt k)]=⟨True,.v (.sl ((bn l k l.ts.length).map .bool)),fun nm=>if own [0] nm=true then F nm else H nm⟩:=
 RP l k _ t [0,1] H rfl h0 hl
def GS:FuncId->Option Spec:=fun f=>if f=71 then some S71u else none
theorem acA:∀ f s,GS f=some s->aN Tryz.prog f s:=fun f s h=>by
 unfold GS at h
 split at h
 ·rename_i e;cases h;subst e;exact Wz
 ·cases h
@[go_sem] theorem ag7:GS 71=some S71u:=rfl
set_option maxHeartbeats 4000000 in
theorem Wy:aN Tryz.prog 73 S73m:=by
 refine Rn.sound Dk (rs:=[.cell 4 108]) Tryz.func73 Tryz.ntmps73 (by rfl) (by kernel_rfl) (by decide) ⟨_,rfl,?_⟩
 rintro⟨l,k⟩ hp
 refine⟨lb rfl,?_⟩
 have hΓ:=acA
 have hP:=fU
 have hO:=Rn.outC Dk (l,k)
 have h0:aX (jY.fam (l,k) (LR jY.m)) [0,1]=some (.arr 7 (l.ss.map encS)):=rfl
 generalize aX (jY.fam (l,k) (LR jY.m))=H at *
 have ha:jY.args (l,k) (LR jY.m)=[.agg [.v (.sl (l.ps.map c9)),.v (.sl (l.rs.map encR)),.v (.sl (l.ts.map cT)),.msl [0,1] l.ss.length],.v (vInt k)]:=rfl
 have hv:jY.val (l,k) (LR jY.m)=yO l k [0,1]:=rfl
 rw[ha,hv]
 simp only[yO,dm,Nat.zero_add]at h0 |-
 repeat refine sq ?_
 refine rx hΓ [1,2,4] [[2,0],[4,0]] (fun K' hK=>by simp only[go_sem,hO,h0];(repeat (refine⟨ak,?_⟩));exact hK _ (by simp only[go_sem,hO,h0]) (by simp only[go_sem,hO,h0]<;>rfl)) ?_
 repeat refine sq ?_
 refine dx hΓ hP [[],[],[],[],[2,3],u5,u6] [4] [[4,0]] (by kernel_rfl) (fun K' hK=>by simp only[go_sem,hO,h0];rw[RQ l k _ h0 hp];simp only[go_sem,hO,h0];(repeat (refine⟨ak,?_⟩));(first | refine⟨by rfl,?_⟩ | skip);exact hK _ (by simp only[go_sem,hO,h0]) (by simp only[go_sem,hO,h0]<;>rfl)) ?_
 refine aC ?_
 simp only[go_sem,hO,h0]
 exact .inr trivial
theorem RN{p:List Pap}{rr:List Rec}{tt:List Ret}{ss:List Sig}{k:Int}{n:Nat}{obj:Name->Option O}{t nm:Name}(ho:obj nm=some (.arr 7 (ss.map encS)))(hl:bE ⟨p,rr,tt,ss⟩)(hn:n=ss.length):
 S73m.app obj t [.agg [.v (.sl (p.map c9)),.v (.sl (rr.map encR)),.v (.sl (tt.map cT)),.msl nm n],.v (.int .i64 k)]=
  ⟨True,.agg [.v (.sl (p.map c9)),.v (.sl (rr.map encR)),.v (.sl (tt.map cT)),.msl nm ss.length,.v (.int .i64 k),.v (.sl ((bn ⟨p,rr,tt,ss⟩ k tt.length).map .bool)),.nilsl],obj⟩:=by
 subst hn
 exact Rn.c_app Dk (a:=(⟨p,rr,tt,ss⟩,k)) hl (t:=t) (obj:=obj) (Ls:=[nm]) rfl (by simp) ⟨ho,trivial⟩
end
noncomputable section
def ta(x:R5):V:=.agg [vInt x.a,vInt x.b,vInt x.c,vInt x.d,vInt x.e]
def vo(x:R7):V:=.agg [vInt x.a,vInt x.b,vInt x.c,vInt x.d,vInt x.e,vInt x.f,vInt x.g]
def xP:V->R5
 | .agg [.int _ a,.int _ b,.int _ c,.int _ d,.int _ e]=>⟨a,b,c,d,e⟩
 |_=>default
def AT:V->R7
 | .agg [.int _ a,.int _ b,.int _ c,.int _ d,.int _ e,.int _ f,.int _ g]=>⟨a,b,c,d,e,f,g⟩
 |_=>default
def s9(r:Raw):V:=.agg [.sl (r.rs.map ta),.sl (r.ts.map vo),.sl (r.ss.map ta)]
def AR:V->Raw
 | .agg [.sl a,.sl b,.sl c]=>⟨a.map xP,b.map AT,c.map xP⟩
 |_=>default
def sd:En Raw:=⟨s9,AR⟩
theorem aal(x:R5):xP (ta x)=x:=rfl
theorem aaj(x:R7):AT (vo x)=x:=rfl
@[go_sem] theorem aak(l:List R5):(l.map ta).map xP=l:=rY aal l
@[go_sem] theorem aai(l:List R7):(l.map vo).map AT=l:=rY aaj l
attribute [go_sem] ta xP vo AT s9 AR sd
@[go_sem] theorem agS(x:Raw):(⟨x.rs,x.ts,x.ss⟩:Raw)=x:=rfl
def K73:List (Nat×Spec):=[(20,GG),(83,S83),(84,BC),(73,S73m),(74,GD)]
theorem acF:KS K73:=tc H5.sound<|tc RL.sound<|tc RK.sound<|tc Wy<|tc HZ.sound<|tn
attribute [go_sem] K73
@[go_sem] def P19:PSpec:=p1 sd (fun _=>True) (fun r=>.tup [gM (l3 r),.sl ((gd r (nT r)).map vInt)]) false
@[go_sem] def PW:Spec:=P19.toSpec
set_option maxHeartbeats 1000000 in
theorem RZ:aZ Tryz.prog 19 P19:=by
 refine fQ (rs:=[.cell 2 31,.tmp 3]) Tryz.func19 Tryz.ntmps19 fun r hp hw=>?_
 have hP:=fU
 simp only[sd]at hw |-
 have hΓ:=acF
 have h8:=ot r
 have hl:nR r<=maxLen:=by unfold maxLen;omega
 repeat refine sq ?_
 refine rx hΓ [1,2] [[1,0],[2,0],[77,0],[158,0],[235,0]] (fun K' hK=>by simp only[go_sem];exact aq) ?_
 repeat refine sq ?_
 refine rx hΓ [1,2,4] [[1,0],[2,0],[4,0],[77,0],[158,0],[235,0]] (fun K' hK=>by simp only[go_sem];exact aq) ?_
 repeat refine sq ?_
 refine rx hΓ [1,2,4,5] [[1,0],[2,0],[4,0],[77,0],[158,0],[163,0],[235,0]] (fun K' hK=>by simp only[go_sem];exact aq) ?_
 refine bP (tS 5 [163,0] 1 (by simp only[go_sem]) (by simp only[go_sem]) [1,2,4,5] [[1,0],[2,0],[4,0],[77,0],[158,0],[163,0],[235,0]] ?_ rfl) ?_
 ·simp only[go_sem]
 simp only[go_sem]
 repeat refine sq ?_
 refine rx hΓ [1,2,4,5,6] [[1,0],[2,0],[4,0],[77,0],[158,0],[163,0],[235,0]] (fun K' hK=>by simp only[go_sem];exact aq) ?_
 refine bP (mP [4,0] [77,0] 1 7 _ rfl rfl rfl [1,2,4,5,6] [[1,0],[2,0],[4,0],[77,0],[158,0],[163,0],[235,0]] ?_ rfl) ?_
 ·simp only[go_sem,List.set_cons_succ,List.set_cons_zero]
 simp only[go_sem,List.set_cons_succ,List.set_cons_zero]
 refine bP (mP [4,0] [158,0] 2 8 _ rfl rfl rfl [1,2,4,5,6] [[1,0],[2,0],[4,0],[77,0],[158,0],[163,0],[235,0]] ?_ rfl) ?_
 ·simp only[go_sem,List.set_cons_succ,List.set_cons_zero]
 simp only[go_sem,List.set_cons_succ,List.set_cons_zero]
 repeat refine sq ?_
 refine rx hΓ [1,2,4,5,6,7] [[1,0],[2,0],[4,0],[77,0],[158,0],[163,0],[235,0]] (fun K' hK=>by simp only[go_sem];exact aq) ?_
 refine bP (mP [4,0] [235,0] 3 7 _ rfl rfl rfl [1,2,4,5,6,7] [[1,0],[2,0],[4,0],[77,0],[158,0],[163,0],[235,0]] ?_ rfl) ?_
 ·simp only[go_sem,List.set_cons_succ,List.set_cons_zero]
 simp only[go_sem,List.set_cons_succ,List.set_cons_zero]
 repeat refine sq ?_
 refine aR ?_
 repeat refine sq ?_
 refine cr (fun s:Nat=>[(7,⟨true,.v (vInt s)⟩),(6,⟨true,.v (vInt (dU r s))⟩)]) (fun s=>[([4,0],.box [.v (.sl (mps.map c9)),.msl [77,0] (eM r s).length,.msl [158,0] 0,.msl [235,0] 0]),([77,0],.arr 7 ((eM r s).map encR))]) (fun s=>s<=(nR r)) (fun s=>(nR r)-s) 0 ?_ ?_ ?_ ?_
 ·exact Nat.zero_le _
 ·rfl
 ·rfl
 rintro i hi
 simp only[go_sem]
 repeat refine sq ?_
 refine rx hΓ [1,2,4,5,6,7,33] [[1,0],[2,0],[4,0],[77,0],[158,0],[163,0],[235,0]] (fun K' hK=>by simp only[go_sem];exact aq) ?_
 repeat refine sq ?_
 refine aB (fun hb=>?_) fun hb=>?_
 ·repeat refine sq ?_
  have ab:i<nR r:=by simp at hb;unfold nR;omega
  have MW:i<r.rs.length:=by have h:=ab;unfold nR at h;omega
  have Yk:(i:Int)<r.rs.length:=by omega
  have e5:r5 r.rs i=r.rs[i]:=cz MW
  have m3:=dg (n:=r.rs[i].b) (m:=3) (by decide)
  have sE:0<=aQ r.rs[i].b 3:=m3.1
  have lz:(mps.length:Int)=3:=rfl
  have iN:aQ r.rs[i].b 3<(mps.length:Int):=by omega
  have xq:(mps.map c9).getD (aQ r.rs[i].b 3).toNat default=c9 (ca r.rs[i].b):=by
   have hl:(aQ r.rs[i].b 3).toNat<mps.length:=by omega
   rw[ah hl];unfold ca;rw[cz hl]
  obtain⟨-,l1,l2,p1,p2⟩:=qk (rV r.rs[i].b)
  have d0:=xN r i
  have ed:dU r (i+1)=dU r i+aQ r.rs[i].d 20:=by rw[dU,e5]
  have m20:=dg (n:=r.rs[i].d) (m:=20) (by decide)
  have m4:=dg (n:=r.rs[i].a) (m:=4) (by decide)
  have m5:=dg (n:=r.rs[i].e) (m:=5) (by decide)
  have gV:IntKind.i64.wrap (dU r i+aQ r.rs[i].d 20)=dU r (i+1):=by rw[wrap_i64 (by omega) (by omega)];exact ed.symm
  have sg:IntKind.i64.wrap (3*(i:Int))=3*(i:Int):=wrap_i64 (by omega) (by omega)
  have Xh:IntKind.i64.wrap (3*(i:Int)+1)=3*(i:Int)+1:=wrap_i64 (by omega) (by omega)
  have oA:IntKind.i64.wrap (1+aQ r.rs[i].a 4)=1+aQ r.rs[i].a 4:=wrap_i64 (by omega) (by omega)
  have uT:IntKind.i64.wrap (dU r (i+1)+aQ r.rs[i].e 5)=dU r (i+1)+aQ r.rs[i].e 5:=wrap_i64 (by omega) (by omega)
  have eS:eM r (i+1)=eM r i++[⟨3*(i:Int)+1,1+aQ r.rs[i].a 4,(ca r.rs[i].b).id,ja r.rs[i].c (ca r.rs[i].b).lv,dU r (i+1),dU r (i+1)+aQ r.rs[i].e 5,0⟩]:=by
   unfold eM
   rw[List.range_succ,List.map_append]
   show _++[fR r i]=_
   unfold fR
   rw[e5]
  have l8:=iE r i
  refine aJ ?_
  repeat refine sq ?_
  refine aR ?_
  repeat refine sq ?_
  refine rx hΓ [1,2,4,5,6,7,8] [[1,0],[2,0],[4,0],[8,0],[77,0],[158,0],[163,0],[235,0]] (fun K' hK=>by simp only[go_sem,ah MW,Yk,ai,aj,List.length_map];exact aq) ?_
  repeat refine sq ?_
  refine dx hΓ hP [[],[0],[],[2],[2,3],u5,u6,[],u8] [1,2,4,5,6,7,8,9] [[1,0],[2,0],[4,0],[8,0],[9,0],[77,0],[158,0],[163,0],[235,0]] (by kernel_rfl) (fun K' hK=>by simp only[go_sem,Int.cast_ofNat_Int,Int.reduceToNat,Int.toNat_zero,Int.toNat_one,Nat.reduceMul,Nat.zero_mul,Nat.one_mul,List.getD_cons_succ,List.getD_cons_zero,xq,sE,iN,List.length_map];(repeat (refine⟨by first | exact ak | exact⟨by decide,by decide⟩,?_⟩));exact fM) ?_
  repeat refine sq ?_
  refine rx hΓ [1,2,4,5,6,7,8,9] [[1,0],[2,0],[4,0],[8,0],[9,0],[77,0],[158,0],[163,0],[235,0]] (fun K' hK=>by simp only[go_sem,Int.cast_ofNat_Int,Int.reduceToNat,Int.toNat_zero,Int.toNat_one,Nat.reduceMul,Nat.zero_mul,Nat.one_mul,List.getD_cons_succ,List.getD_cons_zero,gV];(repeat (refine⟨by first | exact ak | exact⟨by decide,by decide⟩,?_⟩));exact ki) ?_
  repeat refine sq ?_
  refine oM hΓ hP [[],[0],[],[2],[2,3],[],[5],[5,6],[5,6,7],[],[9],[],[11],[],[13],[5,6,7,11,12,13,14],[],[],[],[18],[5,6,7,11,12,13,14,15,18,19],[5,6,7,11,12,13,14,15,17,18,19,20],[2,3,4,5,6,7,8,9,10,11,12,13,14,15,16,17,18,19,20,21],[2,3,4,5,6,7,8,9,10,11,12,13,14,15,16,17,18,19,20,21,22],BS,vT,He] (by kernel_rfl) fun K' hK=>?_
  simp only[go_sem,Int.cast_ofNat_Int,Int.reduceToNat,Int.toNat_zero,Int.toNat_one,Nat.reduceMul,Nat.zero_mul,Nat.one_mul,List.getD_cons_succ,List.getD_cons_zero,sg,Xh,oA,uT]
  repeat (refine⟨by first | exact ak | exact⟨by decide,by decide⟩ | exact⟨by omega,by omega⟩,?_⟩)
  first | refine⟨by rfl,?_⟩ | skip
  refine hK _ ?_
  clear K' hK
  simp only[go_sem]
  refine kp [1,2,4,5,6,7] [[1,0],[2,0],[4,0],[77,0],[158,0],[163,0],[235,0]] ?_
  repeat refine sq ?_
  refine aS hΓ fun K' hK=>?_
  simp only[go_sem]
  repeat (refine⟨ak,?_⟩)
  refine hK _ ?_
  clear K' hK
  simp only[go_sem]
  refine⟨i+1,ab,by(show (nR r)-(i+1)<(nR r)-i;omega),?_⟩
  refine bg [1,2,4,5,6,7] [[1,0],[2,0],[4,0],[77,0],[158,0],[163,0],[235,0]] ?_ ?_<;>simp only[go_sem,a7 ab hl,bb,eS,List.map_append,List.length_append,List.map_cons,List.map_nil,List.length_cons,List.length_nil]
 ·repeat refine sq ?_
  have bF:i=nR r:=by
   simp at hb
   have h:=hi
   unfold nR at h |-
   omega
  subst bF
  have qE:nT r<=maxLen:=by have:=rT r;unfold maxLen;omega
  refine bR ?_
  simp only[go_sem]
  refine kp [1,2,4,5,6] [[1,0],[2,0],[4,0],[77,0],[158,0],[163,0],[235,0]] ?_
  repeat refine sq ?_
  refine rx hΓ [1,2,4,5,6,10] [[1,0],[2,0],[4,0],[77,0],[158,0],[163,0],[235,0]] (fun K' hK=>by simp only[go_sem];exact aq) ?_
  repeat refine sq ?_
  refine aR ?_
  repeat refine sq ?_
  refine cr (fun s:Nat=>[(10,⟨true,.v (vInt s)⟩),(5,⟨true,.msl [163,0] (gd r s).length⟩)]) (fun s=>[([4,0],.box [.v (.sl (mps.map c9)),.msl [77,0] (eM r (nR r)).length,.msl [158,0] (jg r s).length,.msl [235,0] 0]),([158,0],.arr 8 ((jg r s).map cT)),([163,0],.arr 1 ((gd r s).map vInt))]) (fun s=>s<=(nT r)) (fun s=>(nT r)-s) 0 ?_ ?_ ?_ ?_
  ·exact Nat.zero_le _
  ·rfl
  ·rfl
  rintro i1 hi
  simp only[go_sem]
  repeat refine sq ?_
  refine rx hΓ [1,2,4,5,6,10,93] [[1,0],[2,0],[4,0],[77,0],[158,0],[163,0],[235,0]] (fun K' hK=>by simp only[go_sem,iE];exact aq) ?_
  repeat refine sq ?_
  refine aB (fun hb=>?_) fun hb=>?_
  ·repeat refine sq ?_
   have aK:i1<nT r:=by simp at hb;unfold nT;split<;>omega
   have Eo:nR r≠0:=wE aK
   have MV:i1<r.ts.length:=by have h:=aK;unfold nT at h;rw[if_neg Eo]at h;omega
   have Yj:(i1:Int)<r.ts.length:=by omega
   have h8t:=rT r
   have e7:r7 r.ts i1=r.ts[i1]:=cz MV
   have mx:=dg (n:=r.ts[i1].a) (m:=(nR r:Int)) (by omega)
   have Xa:0<=aQ r.ts[i1].a (nR r):=mx.1
   have pw:aQ r.ts[i1].a (nR r)<nR r:=mx.2
   have xp:((eM r (nR r)).map encR).getD (aQ r.ts[i1].a (nR r)).toNat default=encR (xT r i1):=by
    have hl:(aQ r.ts[i1].a (nR r)).toNat<(eM r (nR r)).length:=by rw[iE];omega
    rw[ah hl];unfold xT;rw[e7,cz hl]
   obtain⟨ix,hix,ex⟩:=G3 Eo i1
   obtain⟨-,-,x3,-,-,x6,x7,x8⟩:=p9 r (show ix<8 by omega)
   rw[<-ex]at x3 x6 x7 x8
   obtain⟨-,a0,a1⟩:=vY Eo (show i1<8 by omega)
   have ea:dk r i1=(xT r i1).da+aQ r.ts[i1].c 30:=by unfold dk;rw[e7]
   have eS:jg r (i1+1)=jg r i1++[⟨3*(i1:Int)+2,(xT r i1).so,1+aQ r.ts[i1].g 4,ja r.ts[i1].b (bW mps (xT r i1).pa),if dk r i1-aQ r.ts[i1].d 12>0 then dk r i1-aQ r.ts[i1].d 12 else 0,dk r i1+aQ r.ts[i1].e 12,dk r i1+aQ r.ts[i1].e 12+aQ r.ts[i1].f 9,0⟩]:=by
    unfold jg
    rw[List.range_succ,List.map_append]
    show _++[tM r i1]=_
    unfold tM
    rw[e7,Ub]
   have eD:gd r (i1+1)=gd r i1++[dk r i1]:=by
    unfold gd
    rw[List.range_succ,List.map_append];rfl
   have ig:(jg r i1).length=i1:=by unfold jg;simp
   have qI:(gd r i1).length=i1:=by unfold gd;simp
   generalize xT r i1=xx at *
   have Df:=dg (n:=r.ts[i1].c) (m:=30) (by decide)
   have m4:=dg (n:=r.ts[i1].g) (m:=4) (by decide)
   have JD:=dg (n:=r.ts[i1].d) (m:=12) (by decide)
   have Dg:=dg (n:=r.ts[i1].e) (m:=12) (by decide)
   have m9:=dg (n:=r.ts[i1].f) (m:=9) (by decide)
   have Xd:IntKind.i64.wrap (xx.da+aQ r.ts[i1].c 30)=dk r i1:=by rw[wrap_i64 (by omega) (by omega)];exact ea.symm
   have sg:IntKind.i64.wrap (3*(i1:Int))=3*(i1:Int):=wrap_i64 (by omega) (by omega)
   have Xg:IntKind.i64.wrap (3*(i1:Int)+2)=3*(i1:Int)+2:=wrap_i64 (by omega) (by omega)
   have w5:IntKind.i64.wrap (1+aQ r.ts[i1].g 4)=1+aQ r.ts[i1].g 4:=wrap_i64 (by omega) (by omega)
   have Xb:IntKind.i64.wrap (dk r i1-aQ r.ts[i1].d 12)=dk r i1-aQ r.ts[i1].d 12:=wrap_i64 (by omega) (by omega)
   have Xc:IntKind.i64.wrap (dk r i1+aQ r.ts[i1].e 12)=dk r i1+aQ r.ts[i1].e 12:=wrap_i64 (by omega) (by omega)
   have uT:IntKind.i64.wrap (dk r i1+aQ r.ts[i1].e 12+aQ r.ts[i1].f 9)=dk r i1+aQ r.ts[i1].e 12+aQ r.ts[i1].f 9:=wrap_i64 (by omega) (by omega)
   refine aJ ?_
   repeat refine sq ?_
   refine aR ?_
   repeat refine sq ?_
   refine rx hΓ [1,2,4,5,6,10,11] [[1,0],[2,0],[4,0],[11,0],[77,0],[158,0],[163,0],[235,0]] (fun K' hK=>by simp only[go_sem,ah MV,Yj,ai,aj,List.length_map];exact aq) ?_
   repeat refine sq ?_
   refine dx hΓ hP [[],[0],[],[2],[],[4],[4,5],[2,3,4,5,6],u8,u9,[],fm] [1,2,4,5,6,10,11,12] [[1,0],[2,0],[4,0],[11,0],[12,0],[77,0],[158,0],[163,0],[235,0]] (by kernel_rfl) (fun K' hK=>by simp only[go_sem,Int.cast_ofNat_Int,Int.reduceToNat,Int.toNat_zero,Int.toNat_one,Nat.reduceMul,Nat.zero_mul,Nat.one_mul,List.getD_cons_succ,List.getD_cons_zero,xp,Xa,pw,iE,List.length_map];(repeat (refine⟨by first | exact ak | exact⟨by omega,by omega⟩,?_⟩));exact fM) ?_
   repeat refine sq ?_
   refine dx hΓ hP [[],[0],[],[2],[2,3],u5,u6] [1,2,4,5,6,10,11,12,13] [[1,0],[2,0],[4,0],[11,0],[12,0],[77,0],[158,0],[163,0],[235,0]] (by kernel_rfl) (fun K' hK=>by simp only[go_sem,Int.cast_ofNat_Int,Int.reduceToNat,Int.toNat_zero,Int.toNat_one,Nat.reduceMul,Nat.zero_mul,Nat.one_mul,List.getD_cons_succ,List.getD_cons_zero,Xd];(repeat (refine⟨by first | exact ak | exact⟨by decide,by decide⟩,?_⟩));exact fM) ?_
   repeat refine sq ?_
   refine dx hΓ hP [[],[0],[0,1],[],[3],[],[5],[5,6],[5,6,7],[],[9],[],[],[12],[5,6,7,11,12,13],[5,6,7,9,10,11,12,13,14],[],[],[17],[5,6,7,9,10,11,12,13,14,15,17,18],[5,6,7,9,10,11,12,13,14,15,16,17,18,19],[5,6,7,9,10,11,12,13,14,15,16,17,18,19,20],[],[],[23],[5,6,7,9,10,11,12,13,14,15,17,18,19,23,24],[5,6,7,9,10,11,12,13,14,15,17,18,19,22,23,24,25],[5,6,7,9,10,11,12,13,14,15,16,17,18,19,20,21,22,23,24,25,26],yA,[],Hd] [1,2,4,5,6,10,11,13,14] [[1,0],[2,0],[4,0],[11,0],[14,0],[77,0],[158,0],[163,0],[235,0]] (by kernel_rfl) (fun K' hK=>by simp only[go_sem,Int.cast_ofNat_Int,Int.reduceToNat,Int.toNat_zero,Int.toNat_one,Nat.reduceMul,Nat.zero_mul,Nat.one_mul,List.getD_cons_succ,List.getD_cons_zero,sg,Xg,w5,Xb,Xc];(repeat (refine⟨by first | exact ak | exact(iE _ _).symm | exact⟨by decide,by decide⟩ | exact⟨by omega,by omega⟩,?_⟩));exact fM) ?_
   repeat refine sq ?_
   refine dx hΓ hP [[],[0],[0,1],[],[3],[3,4],u6,u7,u8] [1,2,4,5,6,10,13,14] [[1,0],[2,0],[4,0],[14,0],[77,0],[158,0],[163,0],[235,0]] (by kernel_rfl) (fun K' hK=>by simp only[go_sem,Int.cast_ofNat_Int,Int.reduceToNat,Int.toNat_zero,Int.toNat_one,Nat.reduceMul,Nat.zero_mul,Nat.one_mul,List.getD_cons_succ,List.getD_cons_zero,uT];(repeat (refine⟨by first | exact ak | exact⟨by decide,by decide⟩,?_⟩));exact fM) ?_
   repeat refine sq ?_
   refine rx hΓ [1,2,4,5,6,10,13] [[1,0],[2,0],[4,0],[77,0],[158,0],[163,0],[235,0]] (fun K' hK=>by simp only[go_sem];exact aq) ?_
   repeat refine sq ?_
   refine aS hΓ fun K' hK=>?_
   simp only[go_sem]
   repeat (refine⟨ak,?_⟩)
   refine hK _ ?_
   clear K' hK
   simp only[go_sem]
   refine kp [1,2,4,5,6,10] [[1,0],[2,0],[4,0],[77,0],[158,0],[163,0],[235,0]] ?_
   repeat refine sq ?_
   refine aS hΓ fun K' hK=>?_
   simp only[go_sem]
   repeat (refine⟨ak,?_⟩)
   refine hK _ ?_
   clear K' hK
   simp only[go_sem]
   refine⟨i1+1,aK,by(show (nT r)-(i1+1)<(nT r)-i1;omega),?_⟩
   refine bg [1,2,4,5,6,10] [[1,0],[2,0],[4,0],[77,0],[158,0],[163,0],[235,0]] ?_ ?_<;>simp only[go_sem,a7 aK qE,bb,iE,eS,eD,List.map_append,List.length_append,List.map_cons,List.map_nil,List.length_cons,List.length_nil]
  ·repeat refine sq ?_
   have ke:i1=nT r:=by
    simp at hb
    have h:=hi
    unfold nT at h |-
    split at h
    ·rename_i h0;rw[if_pos h0];omega
    ·rename_i h0;rw[if_neg h0];omega
   subst ke
   have gI:nS r<=maxLen:=by have:nS r<=6:=Nat.min_le_right _ _;unfold maxLen;omega
   refine bR ?_
   simp only[go_sem]
   refine kp [1,2,4,5,6] [[1,0],[2,0],[4,0],[77,0],[158,0],[163,0],[235,0]] ?_
   repeat refine sq ?_
   refine rx hΓ [1,2,4,5,6,15] [[1,0],[2,0],[4,0],[77,0],[158,0],[163,0],[235,0]] (fun K' hK=>by simp only[go_sem];exact aq) ?_
   refine bP (el 5 (.msl [163,0] (gd r (nT r)).length) (by simp only[go_sem]) (by simp only[go_sem]) [1,2,4,5,6,15] [[1,0],[2,0],[4,0],[77,0],[158,0],[163,0],[235,0]] ?_ rfl) ?_
   ·simp only[go_sem]
   simp only[go_sem]
   refine bP (oY [4,0] [77,0] 1 _ _ _ _ rfl rfl rfl (by first | rfl | (simp only[List.length_map,iE];done)) [1,2,4,5,6,15] [[1,0],[2,0],[4,0],[77,0],[158,0],[163,0],[235,0]] ?_ rfl) ?_
   ·simp only[go_sem,List.set_cons_succ,List.set_cons_zero,iE]
   simp only[go_sem,List.set_cons_succ,List.set_cons_zero,iE]
   refine bP (oY [4,0] [158,0] 2 _ _ _ _ rfl rfl rfl (by first | rfl | (simp only[List.length_map];done)) [1,2,4,5,6,15] [[1,0],[2,0],[4,0],[77,0],[158,0],[163,0],[235,0]] ?_ rfl) ?_
   ·simp only[go_sem,List.set_cons_succ,List.set_cons_zero]
   simp only[go_sem,List.set_cons_succ,List.set_cons_zero]
   repeat refine sq ?_
   refine aR ?_
   repeat refine sq ?_
   refine cr (fun s:Nat=>[(15,⟨true,.v (vInt s)⟩)]) (fun s=>[([4,0],.box [.v (.sl (mps.map c9)),.v (.sl ((eM r (nR r)).map encR)),.v (.sl ((jg r (nT r)).map cT)),.msl [235,0] (dw r s).length]),([235,0],.arr 7 ((dw r s).map encS))]) (fun s=>s<=(nS r)) (fun s=>(nS r)-s) 0 ?_ ?_ ?_ ?_
   ·exact Nat.zero_le _
   ·rfl
   ·rfl
   rintro i2 hi
   simp only[go_sem]
   repeat refine sq ?_
   refine rx hΓ [1,2,4,5,6,15,172] [[1,0],[2,0],[4,0],[77,0],[158,0],[163,0],[235,0]] (fun K' hK=>by simp only[go_sem];exact aq) ?_
   repeat refine sq ?_
   refine aB (fun hb=>?_) fun hb=>?_
   ·repeat refine sq ?_
    have bN:i2<nS r:=by simp at hb;unfold nS;omega
    have xn:i2<r.ss.length:=by have h:=bN;unfold nS at h;omega
    have EO:(i2:Int)<r.ss.length:=by omega
    have h6:i2<6:=by have h:=bN;unfold nS at h;omega
    have e6:r5 r.ss i2=r.ss[i2]:=cz xn
    have m3:=dg (n:=r.ss[i2].b) (m:=3) (by decide)
    have sE:0<=aQ r.ss[i2].b 3:=m3.1
    have lz:(mps.length:Int)=3:=rfl
    have iN:aQ r.ss[i2].b 3<(mps.length:Int):=by omega
    have xq:(mps.map c9).getD (aQ r.ss[i2].b 3).toNat default=c9 (ca r.ss[i2].b):=by
     have hl:(aQ r.ss[i2].b 3).toNat<mps.length:=by omega
     rw[ah hl];unfold ca;rw[cz hl]
    obtain⟨-,l1,l2,p1,p2⟩:=qk (rV r.ss[i2].b)
    have d0:=xN r (nR r)
    have ml:=dg (n:=r.ss[i2].c) (m:=(ca r.ss[i2].b).lv) (by omega)
    have md:=dg (n:=r.ss[i2].d) (m:=dU r (nR r)+20) (by omega)
    have Df:=dg (n:=r.ss[i2].e) (m:=30) (by decide)
    have ig:od r i2=1+aQ r.ss[i2].c (ca r.ss[i2].b).lv:=by unfold od;rw[e6]
    have zV:ld r i2=aQ r.ss[i2].d (dU r (nR r)+20):=by unfold ld;rw[e6]
    have sg:IntKind.i64.wrap (3*(i2:Int))=3*(i2:Int):=wrap_i64 (by omega) (by omega)
    have DU:IntKind.i64.wrap (3*(i2:Int)+3)=3*(i2:Int)+3:=wrap_i64 (by omega) (by omega)
    have w6:IntKind.i64.wrap (1+aQ r.ss[i2].c (ca r.ss[i2].b).lv)=od r i2:=by rw[wrap_i64 (by omega) (by omega)];exact ig.symm
    have gV:IntKind.i64.wrap (dU r (nR r)+20)=dU r (nR r)+20:=wrap_i64 (by omega) (by omega)
    have uT:IntKind.i64.wrap (ld r i2+aQ r.ss[i2].e 30)=ld r i2+aQ r.ss[i2].e 30:=wrap_i64 (by omega) (by omega)
    have zT:=B0 r i2
    have aa:=JB r (s:=i2) (by omega)
    have qI:(gd r (nT r)).length=(aU (ft r (dw r i2)) 900).ts.length:=by
     show _=(bn _ _ _).length
     rw[k9]
     show ((List.range (nT r)).map _).length=((List.range (nT r)).map _).length
     rw[List.length_map,List.length_map]
    have eS:dw r (i2+1)=dw r i2++[⟨3*(i2:Int)+3,oc r i2 (dw r i2),(ca r.ss[i2].b).id,od r i2,ld r i2,ld r i2+aQ r.ss[i2].e 30,0⟩]:=by
     rw[dw]
     unfold ug
     rw[e6]
    have M6:(⟨mps,eM r (nR r),jg r (nT r),dw r i2⟩:Led)=ft r (dw r i2):=rfl
    have Ni:(⟨⟨mps,eM r (nR r),jg r (nT r),dw r i2⟩,900,bn (ft r (dw r i2)) 900 (jg r (nT r)).length,[]⟩:RV)=aU (ft r (dw r i2)) 900:=rfl
    refine aJ ?_
    repeat refine sq ?_
    refine aR ?_
    repeat refine sq ?_
    refine rx hΓ [1,2,4,5,6,15,16] [[1,0],[2,0],[4,0],[16,0],[77,0],[158,0],[163,0],[235,0]] (fun K' hK=>by simp only[go_sem,ah xn,EO,ai,aj,List.length_map];exact aq) ?_
    repeat refine sq ?_
    refine dx hΓ hP [[],[0],[],[2],[2,3],u5,u6,[],u8] [1,2,4,5,6,15,16,17] [[1,0],[2,0],[4,0],[16,0],[17,0],[77,0],[158,0],[163,0],[235,0]] (by kernel_rfl) (fun K' hK=>by simp only[go_sem,Int.cast_ofNat_Int,Int.reduceToNat,Int.toNat_zero,Int.toNat_one,Nat.reduceMul,Nat.zero_mul,Nat.one_mul,List.getD_cons_succ,List.getD_cons_zero,xq,sE,iN,List.length_map];(repeat (refine⟨by first | exact ak | exact⟨by decide,by decide⟩,?_⟩));exact fM) ?_
    repeat refine sq ?_
    refine dx hΓ hP [[],[0],[0,1],[],[3],[],[5],[],[7],[5,6,7,8],[5,6,7,8,9],[],[11],[],[13],[5,6,7,8,9,11,12,13,14],[],[16],[5,6,7,8,9,11,12,13,14,15,16,17],mQ,[],vU] [1,2,4,5,6,15,16,18] [[1,0],[2,0],[4,0],[16,0],[18,0],[77,0],[158,0],[163,0],[235,0]] (by kernel_rfl) (fun K' hK=>by simp only[go_sem,Int.cast_ofNat_Int,Int.reduceToNat,Int.toNat_zero,Int.toNat_one,Nat.reduceMul,Nat.zero_mul,Nat.one_mul,List.getD_cons_succ,List.getD_cons_zero,sg,DU,w6,gV,<-zV];(repeat (refine⟨by first | exact ak | exact⟨by decide,by decide⟩ | exact⟨by omega,by omega⟩,?_⟩));exact fM) ?_
    repeat refine sq ?_
    refine rx hΓ [1,2,4,5,6,15,16,18,210] [[1,0],[2,0],[4,0],[16,0],[18,0],[77,0],[158,0],[163,0],[235,0]] (fun K' hK=>by simp only[go_sem,Int.cast_ofNat_Int,Int.reduceToNat,Int.toNat_zero,Int.toNat_one,Nat.reduceMul,Nat.zero_mul,Nat.one_mul,List.getD_cons_succ,List.getD_cons_zero];(repeat (refine⟨by first | exact ak | exact⟨by decide,by decide⟩,?_⟩));exact ki) ?_
    repeat refine sq ?_
    refine aB (fun hb=>?_) fun hb=>?_
    ·repeat refine sq ?_
     have ep:oc r i2 (dw r i2)=ib (aU (ft r (dw r i2)) 900) ⟨(ca r.ss[i2].b).id,od r i2⟩ (gd r (nT r)) (ld r i2):=by unfold oc;rw[e6,if_pos hb]
     repeat refine sq ?_
     refine rx hΓ [1,2,4,5,6,15,16,18,19] [[1,0],[2,0],[4,0],[16,0],[18,0],[19,0],[77,0],[158,0],[163,0],[235,0]] (fun K' hK=>by simp only[go_sem,M6];rw[RN (ss:=dw r i2) rfl aa rfl];simp only[go_sem,M6];exact aq) ?_
     repeat refine sq ?_
     refine rx hΓ [1,2,4,5,6,15,16,18] [[1,0],[2,0],[4,0],[16,0],[18,0],[77,0],[158,0],[163,0],[235,0]] (fun K' hK=>by simp only[go_sem];(repeat (refine⟨by first | exact ak | exact⟨Cg aa 900,qI⟩,?_⟩));exact ki) ?_
     repeat refine sq ?_
     refine dx hΓ hP [[],[0],[],[2],[2,3],u5,u6,u7] [1,2,4,5,6,15,18] [[1,0],[2,0],[4,0],[18,0],[77,0],[158,0],[163,0],[235,0]] (by kernel_rfl) (fun K' hK=>by simp only[go_sem,Int.cast_ofNat_Int,Int.reduceToNat,Int.toNat_zero,Int.toNat_one,Nat.reduceMul,Nat.zero_mul,Nat.one_mul,List.getD_cons_succ,List.getD_cons_zero,uT];(repeat (refine⟨by first | exact ak | exact⟨by decide,by decide⟩,?_⟩));exact fM) ?_
     repeat refine sq ?_
     refine aS hΓ fun K' hK=>?_
     simp only[go_sem]
     repeat (refine⟨ak,?_⟩)
     refine hK _ ?_
     clear K' hK
     simp only[go_sem]
     refine kp [1,2,4,5,6,15] [[1,0],[2,0],[4,0],[77,0],[158,0],[163,0],[235,0]] ?_
     repeat refine sq ?_
     refine aS hΓ fun K' hK=>?_
     simp only[go_sem]
     repeat (refine⟨ak,?_⟩)
     refine hK _ ?_
     clear K' hK
     simp only[go_sem]
     refine⟨i2+1,bN,by(show (nS r)-(i2+1)<(nS r)-i2;omega),?_⟩
     refine bg [1,2,4,5,6,15] [[1,0],[2,0],[4,0],[77,0],[158,0],[163,0],[235,0]] ?_ ?_<;>simp only[go_sem,a7 bN gI,bb,iE,eS,ep,Ni,List.map_append,List.length_append,List.map_cons,List.map_nil,List.length_cons,List.length_nil]
    ·repeat refine sq ?_
     have ep:oc r i2 (dw r i2)=aQ r.ss[i2].a 5:=by unfold oc;rw[e6,if_neg (by rw[hb];decide)]
     refine aJ ?_
     repeat refine sq ?_
     refine dx hΓ hP [[],[0],[],[2],[2,3],u5,u6,u7] [1,2,4,5,6,15,18] [[1,0],[2,0],[4,0],[18,0],[77,0],[158,0],[163,0],[235,0]] (by kernel_rfl) (fun K' hK=>by simp only[go_sem,Int.cast_ofNat_Int,Int.reduceToNat,Int.toNat_zero,Int.toNat_one,Nat.reduceMul,Nat.zero_mul,Nat.one_mul,List.getD_cons_succ,List.getD_cons_zero,uT];(repeat (refine⟨by first | exact ak | exact⟨by decide,by decide⟩,?_⟩));exact fM) ?_
     repeat refine sq ?_
     refine aS hΓ fun K' hK=>?_
     simp only[go_sem]
     repeat (refine⟨ak,?_⟩)
     refine hK _ ?_
     clear K' hK
     simp only[go_sem]
     refine kp [1,2,4,5,6,15] [[1,0],[2,0],[4,0],[77,0],[158,0],[163,0],[235,0]] ?_
     repeat refine sq ?_
     refine aS hΓ fun K' hK=>?_
     simp only[go_sem]
     repeat (refine⟨ak,?_⟩)
     refine hK _ ?_
     clear K' hK
     simp only[go_sem]
     refine⟨i2+1,bN,by(show (nS r)-(i2+1)<(nS r)-i2;omega),?_⟩
     refine bg [1,2,4,5,6,15] [[1,0],[2,0],[4,0],[77,0],[158,0],[163,0],[235,0]] ?_ ?_<;>simp only[go_sem,a7 bN gI,bb,iE,eS,ep,Ni,List.map_append,List.length_append,List.map_cons,List.map_nil,List.length_cons,List.length_nil]
   ·repeat refine sq ?_
    have nD:i2=nS r:=by
     simp at hb
     have h:=hi
     unfold nS at h |-
     omega
    subst nD
    refine bR ?_
    simp only[go_sem]
    refine kp [2,4,5] [[2,0],[4,0],[77,0],[158,0],[163,0],[235,0]] ?_
    repeat refine sq ?_
    refine rx hΓ [2,3] [[2,0],[77,0],[158,0],[163,0],[235,0]] (fun K' hK=>by simp only[go_sem];exact aq) ?_
    refine aC ?_
    simp only[go_sem]
    first | rfl | trace_state
end
noncomputable section
structure N2 where
 (a b:Int)
 deriving Inhabited
def N7(x:N2):V:=.agg [vInt x.a,vInt x.b]
def Oi:V->N2
 | .agg [.int _ a,.int _ b]=>⟨a,b⟩
 |_=>default
def DP:En N2:=⟨N7,Oi⟩
attribute [go_sem] N7 Oi DP
@[go_sem] theorem agX(x:N2):(⟨x.a,x.b⟩:N2)=x:=rfl
def xS(l:Led)(az:List Int)(a b:Nat)(f:Int):Bool:=!(decide (dn (aU l 900) a f<0)||(an l a).da==(an l b).da||decide (az.getD (dn (aU l 900) a f).toNat 0>(an l b).da))
def mv(l:Led)(az:List Int)(a b:Nat)(f:Int):Bool:=!(an l b).lv.contains f||xS l az a b f
def lK(l:Led)(az:List Int)(a b:Nat):Bool:=(an l a).pa != (an l b).pa||(an l a).lv.all (mv l az a b)
theorem PE{p:Int->Bool}{l:List Int}{i:Nat}(h:i<l.length)(hp:p l[i]=false):l.all p=false:=by
 rw[Bool.eq_false_iff]
 intro h2
 rw[List.all_eq_true]at h2
 have :=h2 _ (List.getElem_mem h)
 rw[hp]at this;cases this
theorem abN{p:Int->Bool}{l:List Int}(h:∀ j (hj:j<l.length),p l[j]=true):l.all p=true:=by
 rw[List.all_eq_true]
 intro x hx
 obtain⟨j,hj,rfl⟩:=List.getElem_of_mem hx
 exact h j hj
theorem SR{x:RV}{i:Nat}{f:Int}:dn x i f= -1\/∃ j:Nat,dn x i f=j/\j<x.ts.length:=by
 unfold dn
 split
 ·rename_i h
  right
  refine⟨_,rfl,?_⟩
  have :=List.findIdx_lt_length_of_exists (p:=ji x (an x.l i).so f) (xs:=List.range x.ts.length) (by
   obtain⟨y,hy,hp⟩:=List.any_eq_true.1 h;exact⟨y,hy,hp⟩)
  simpa using this
 ·exact .inl rfl
def K97:List (Nat×Spec):=[(73,vK),(15,pR),(103,vL)]
theorem acz:KS K97:=tc H0.sound<|tc wh.sound<|tc Ia.sound<|tn
attribute [go_sem] K97
@[go_sem] def P72:PSpec:=p3 iL fw DP (fun l az n=>(bE l/\az.length=l.ts.length)/\(0<=n.a/\n.a<l.rs.length)/\0<=n.b/\n.b<l.rs.length) (fun l az n=>.bool (lK l az n.a.toNat n.b.toNat)) true
@[go_sem] def S72:Spec:=P72.toSpec
set_option maxHeartbeats 4000000 in
theorem RO:aZ Tryz.prog 72 P72:=by
 refine n7 (rs:=[.tmp 6]) Tryz.func72 Tryz.ntmps72 fun l az n hp hw=>?_
 have hP:=fU
 simp only[fw,iL,DP,gM]at hw |-
 have hΓ:=acz
 obtain⟨⟨aa,haz⟩,⟨Fk,Fj⟩,ZH,ZG⟩:=hp
 have ha:n.a.toNat<l.rs.length:=by omega
 have Av:n.b.toNat<l.rs.length:=by omega
 have ga:(l.rs.map encR).getD n.a.toNat default=encR (an l n.a.toNat):=by rw[ah ha,cE ha]
 have gb:(l.rs.map encR).getD n.b.toNat default=encR (an l n.b.toNat):=by rw[ah Av,cE Av]
 have ka:(an l n.a.toNat).lv.length<=maxLen:=by
  have h1:=mA aa.rs ha
  rw[cE ha]
  unfold dJ at h1
  simp only[Bool.and_eq_true]at h1
  have :=(ov.1 h1.1.1.2).2.1
  unfold maxLen;omega
 have hv:=Cg aa 900
 have l8:(aU l 900).ts.length=l.ts.length:=by show (bn _ _ _).length=_;rw[k9]
 repeat refine sq ?_
 refine rx hΓ [1,3,5] [[3,0],[5,0]] (fun K' hK=>by simp only[go_sem];exact aq) ?_
 repeat refine sq ?_
 refine rx hΓ [1,3,5,7] [[3,0],[5,0],[7,0]] (fun K' hK=>by simp only[go_sem,Int.cast_ofNat_Int,Int.reduceToNat,Int.toNat_zero,Int.toNat_one,Nat.reduceMul,Nat.zero_mul,Nat.one_mul,List.getD_cons_succ,List.getD_cons_zero,ga,Fk,Fj,List.length_map];exact aq) ?_
 repeat refine sq ?_
 refine rx hΓ [1,3,5,7,8] [[3,0],[5,0],[7,0],[8,0]] (fun K' hK=>by simp only[go_sem,Int.cast_ofNat_Int,Int.reduceToNat,Int.toNat_zero,Int.toNat_one,Nat.reduceMul,Nat.zero_mul,Nat.one_mul,List.getD_cons_succ,List.getD_cons_zero,gb,ZH,ZG,List.length_map];exact aq) ?_
 generalize hA:an l n.a.toNat=A at *
 generalize hB:an l n.b.toNat=B at *
 have Ar:lK l az n.a.toNat n.b.toNat=(A.pa != B.pa||A.lv.all (mv l az n.a.toNat n.b.toNat)):=by unfold lK;rw[hA,hB]
 repeat refine sq ?_
 refine rx hΓ [1,3,5,7,8,28] [[3,0],[5,0],[7,0],[8,0]] (fun K' hK=>by simp only[go_sem];exact aq) ?_
 repeat refine sq ?_
 refine aB (fun hb=>?_) fun hb=>?_
 ·repeat refine sq ?_
  have e:lK l az n.a.toNat n.b.toNat=true:=by rw[Ar,show (A.pa != B.pa)=true from hb];rfl
  repeat refine sq ?_
  refine rx hΓ [6] [] (fun K' hK=>by simp only[go_sem];exact aq) ?_
  refine aC ?_
  simp only[go_sem]
  first | (rw[e];done) | (rw[e];rfl) | trace_state
 ·repeat refine sq ?_
  have iK:(A.pa != B.pa)=false:=hb
  refine aJ ?_
  repeat refine sq ?_
  refine rx hΓ [1,5,7,8,9] [[5,0],[7,0],[8,0],[9,0]] (fun K' hK=>by simp only[go_sem];(repeat (refine⟨by first | exact ak | exact aa,?_⟩));exact ki) ?_
  repeat refine sq ?_
  refine rx hΓ [1,5,7,8,9,10] [[5,0],[7,0],[8,0],[9,0]] (fun K' hK=>by simp only[go_sem];exact aq) ?_
  repeat refine sq ?_
  refine aR ?_
  repeat refine sq ?_
  refine cr (fun s:Nat=>[(10,⟨true,.v (vInt s)⟩)]) (fun s=>[]) (fun s=>s<=A.lv.length/\∀ j (hj:j<A.lv.length),j<s->mv l az n.a.toNat n.b.toNat A.lv[j]=true) (fun s=>A.lv.length-s) 0 ?_ ?_ ?_ ?_
  ·exact⟨Nat.zero_le _,fun j _ h=>by omega⟩
  ·rfl
  ·rfl
  rintro i ⟨hi,hR⟩
  simp only[go_sem]
  repeat refine sq ?_
  refine rx hΓ [1,5,7,8,9,10,35] [[5,0],[7,0],[8,0],[9,0]] (fun K' hK=>by simp only[go_sem];exact aq) ?_
  repeat refine sq ?_
  refine aB (fun hb=>?_) fun hb=>?_
  ·have ab:i<A.lv.length:=by simpa using hb
   have ao:(i:Int)<A.lv.length:=by omega
   clear hb
   repeat refine sq ?_
   refine aJ ?_
   repeat refine sq ?_
   refine aR ?_
   repeat refine sq ?_
   refine dx hΓ hP [[],[0],[],[2],[],[2,3,4],[2,3,4,5],u7,u8] [1,5,7,8,9,10,46] [[5,0],[7,0],[8,0],[9,0]] (by kernel_rfl) (fun K' hK=>by simp only[go_sem,ah ab,ai,aj,ao,ah ab,ao,ai,aj,List.length_map];exact jC) ?_
   repeat refine sq ?_
   refine aB (fun hb=>?_) fun hb=>?_
   ·repeat refine sq ?_
    have hg:mv l az n.a.toNat n.b.toNat A.lv[i]=true:=by unfold mv;rw[hB,show (!B.lv.contains A.lv[i])=true from hb];rfl
    refine bR ?_
    simp only[go_sem]
    refine kp [1,5,7,8,9,10] [[5,0],[7,0],[8,0],[9,0]] ?_
    repeat refine sq ?_
    refine aS hΓ fun K' hK=>?_
    simp only[go_sem,ah ab,ai,aj,ao]
    repeat (refine⟨ak,?_⟩)
    refine hK _ ?_
    clear K' hK
    simp only[go_sem]
    refine⟨i+1,⟨ab,?_⟩,by(show A.lv.length-(i+1)<A.lv.length-i;omega),?_⟩
    ·intro j hj fh
     rcases Nat.lt_succ_iff_lt_or_eq.1 fh with h5 | rfl
     ·exact hR j hj h5
     ·exact hg
    refine bg [1,5,7,8,9,10] [[5,0],[7,0],[8,0],[9,0]] ?_ ?_<;>simp only[go_sem,a7 ab ka,bb]
   ·repeat refine sq ?_
    have E1:(!B.lv.contains A.lv[i])=false:=hb
    refine aJ ?_
    repeat refine sq ?_
    refine dx hΓ hP [[],[],[1],[],[3],[],[3,4,5],[3,4,5,6],u8,u9] [1,5,7,8,9,10,11] [[5,0],[7,0],[8,0],[9,0]] (by kernel_rfl) (fun K' hK=>by simp only[go_sem,ah ab,ai,aj,ao,ah ab,ao,ai,aj,Int.cast_ofNat_Int,Int.reduceToNat,Int.toNat_zero,Nat.reduceMul,Nat.zero_mul,List.getD_cons_zero,List.length_map];(repeat (refine⟨by first | exact ak | exact rfl | exact⟨hv,Fk,Fj⟩ | exact⟨⟨aa,by show (bn _ _ _).length=_;rw[k9]⟩,Fk,Fj⟩,?_⟩));exact fM) ?_
    rcases SR (x:=aU l 900) (i:=n.a.toNat) (f:=A.lv[i])with gq | ⟨q,gq,hq⟩
    ·repeat refine sq ?_
     refine dx hΓ hP [[],[0],[0,1],[0,1,2],u4,[0,1,2],[0,1,2,5],u7,u8,u9,cB,cB,[0,1,2,3,4,5,6,7,8,9,11],kx,jK,cB,[0,1,2,3,4,5,6,7,8,9,15],lR,iA] [1,5,7,8,9,10,74] [[5,0],[7,0],[8,0],[9,0]] (by kernel_rfl) (fun K' hK=>by simp only[go_sem,ah ab,ai,aj,ao,gq,uG,Bool.true_or];exact jC) ?_
     repeat refine sq ?_
     refine aB (fun hb=>?_) fun hb=>?_
     ·repeat refine sq ?_
      have hg:mv l az n.a.toNat n.b.toNat A.lv[i]=false:=by unfold mv xS;rw[hA,hB,E1,gq];rfl
      have e:lK l az n.a.toNat n.b.toNat=false:=by rw[Ar,iK,PE ab hg];rfl
      repeat refine sq ?_
      refine rx hΓ [6] [] (fun K' hK=>by simp only[go_sem,ah ab,ai,aj,ao,gq,uG,Bool.true_or];exact aq) ?_
      refine aC ?_
      simp only[go_sem]
      first | (rw[e];done) | (rw[e];rfl) | trace_state
     ·cases hb
    ·have bO:q<az.length:=by omega
     have gH:(if (0:Int)>(q:Int)then(0:Int)else(q:Int))=q:=by rw[if_neg (by omega)]
     have l9:decide ((q:Int)<0)=false:=by simp
     have qw:(q:Int)<az.length:=by omega
     repeat refine sq ?_
     refine dx hΓ hP [[],[0],[0,1],[0,1,2],u4,[0,1,2],[0,1,2,5],u7,u8,u9,cB,cB,[0,1,2,3,4,5,6,7,8,9,11],kx,jK,cB,[0,1,2,3,4,5,6,7,8,9,15],lR,iA] [1,5,7,8,9,10,74] [[5,0],[7,0],[8,0],[9,0]] (by kernel_rfl) (fun K' hK=>by simp only[go_sem,ah ab,ai,aj,ao,gq,l9,gH,ah bO,qw,ai,aj,List.length_map,Bool.false_or];exact jC) ?_
     repeat refine sq ?_
     refine aB (fun hb=>?_) fun hb=>?_
     ·repeat refine sq ?_
      have hg:mv l az n.a.toNat n.b.toNat A.lv[i]=false:=by unfold mv xS;rw[hA,hB,E1,gq,l9,ai,cz bO,Bool.or_assoc,hb];rfl
      have e:lK l az n.a.toNat n.b.toNat=false:=by rw[Ar,iK,PE ab hg];rfl
      repeat refine sq ?_
      refine rx hΓ [6] [] (fun K' hK=>by simp only[go_sem,ah ab,ai,aj,ao,gq,l9,gH,ah bO,qw,ai,aj,List.length_map,Bool.false_or];exact aq) ?_
      refine aC ?_
      simp only[go_sem]
      first | (rw[e];done) | (rw[e];rfl) | trace_state
     ·repeat refine sq ?_
      have hg:mv l az n.a.toNat n.b.toNat A.lv[i]=true:=by unfold mv xS;rw[hA,hB,E1,gq,l9,ai,cz bO,Bool.or_assoc,hb];rfl
      refine aJ ?_
      refine bV ?_
      simp only[go_sem]
      refine kp [1,5,7,8,9,10] [[5,0],[7,0],[8,0],[9,0]] ?_
      repeat refine sq ?_
      refine aS hΓ fun K' hK=>?_
      simp only[go_sem,ah ab,ai,aj,ao,gq,l9,gH,ah bO,qw,ai,aj,List.length_map,Bool.false_or]
      repeat (refine⟨ak,?_⟩)
      refine hK _ ?_
      clear K' hK
      simp only[go_sem]
      refine⟨i+1,⟨ab,?_⟩,by(show A.lv.length-(i+1)<A.lv.length-i;omega),?_⟩
      ·intro j hj fh
       rcases Nat.lt_succ_iff_lt_or_eq.1 fh with h5 | rfl
       ·exact hR j hj h5
       ·exact hg
      refine bg [1,5,7,8,9,10] [[5,0],[7,0],[8,0],[9,0]] ?_ ?_<;>simp only[go_sem,a7 ab ka,bb]
  ·have bF:i=A.lv.length:=by
    have :¬ (i:Int)<A.lv.length:=by simpa using hb
    omega
   clear hb
   subst bF
   have e:lK l az n.a.toNat n.b.toNat=true:=by rw[Ar,abN (fun j hj=>hR j hj hj),Bool.or_true]
   repeat refine sq ?_
   refine bR ?_
   simp only[go_sem]
   refine kp [] [] ?_
   repeat refine sq ?_
   refine rx hΓ [6] [] (fun K' hK=>by simp only[go_sem];exact aq) ?_
   refine aC ?_
   simp only[go_sem]
   first | (rw[e];done) | (rw[e];rfl) | trace_state
end
theorem CP{l l':Led}(h:bE l)(hp:l'.ps=l.ps)(hr:l'.rs.Sublist l.rs)(ht:l'.ts.Sublist l.ts)(hs:l'.ss.Sublist l.ss):bE l' where
 ps:=by rw[hp];exact h.ps
 psn:=by rw[hp];exact h.psn
 rs:=by
  have :=h.rs
  rw[rj]at this |-
  exact⟨fun x hx=>this.1 x (hr.subset hx),this.2.sublist hr⟩
 rsn:=Nat.le_trans hr.length_le h.rsn
 ts:=by
  have :=h.ts
  rw[rj]at this |-
  exact⟨fun x hx=>this.1 x (ht.subset hx),this.2.sublist ht⟩
 tsn:=Nat.le_trans ht.length_le h.tsn
 ss:=by
  have :=h.ss
  rw[rj]at this |-
  exact⟨fun x hx=>this.1 x (hs.subset hx),this.2.sublist hs⟩
 ssn:=Nat.le_trans hs.length_le h.ssn
 rl:=fun j hj=>by
  obtain⟨i,hi,e⟩:=List.getElem_of_mem (hr.subset (List.getElem_mem hj))
  have :=h.rl i hi
  rw[e]at this
  rw[hp];exact this
 sl:=fun j hj=>by
  obtain⟨i,hi,e⟩:=List.getElem_of_mem (hs.subset (List.getElem_mem hj))
  have :=h.sl i hi
  rw[e]at this
  rw[hp];exact this
 nd:=by
  refine List.Nodup.sublist ?_ h.nd
  unfold tX
  exact((hr.map _).append (ht.map _)).append (hs.map _)
abbrev Pq:=Ret×Int
def ox(l:Led)(q:Pq):Bool:=decide (b9 l q.1.re 900>=0)&&decide (q.2>(an l (b9 l q.1.re 900).toNat).da)
def fS(l:Led)(d:List Int)(s:Nat):List Pq:=((l.ts.zip d).take s).filter (ox l)
def fo(A:List Pq)(t:List Bool):Nat->List Pq
 | 0=>[]
 |s+1=>if t.getD s false=true then fo A t s++[A.getD s default]else fo A t s
def rets(q:List Pq):List Ret:=q.map (·.1)
def cj(q:List Pq):List Int:=q.map (·.2)
def kT(l:Led)(w:List Int)(C:List Rec)(i:Nat):Nat->Bool
 | 0=>true
 |k+1=>kT l w C i k&&(decide (b9 ⟨l.ps,C,[],[]⟩ (an l k).so 900<0)||lK l w k i)
def eU(l:Led)(w:List Int):Nat->List Rec
 | 0=>[]
 |i+1=>if kT l w (eU l w i) i i=true then eU l w i++[an l i]else eU l w i
def qs(ps:List Pap)(C:List Rec)(q:Pq):Bool:=decide (b9 ⟨ps,C,[],[]⟩ q.1.re 900>=0)
def jl(ps:List Pap)(C:List Rec)(T:List Pq)(s:Nat):List Pq:=(T.take s).filter (qs ps C)
theorem CB(A:List Pq)(t:List Bool):∀ s,s<=A.length->(fo A t s).Sublist (A.take s)
 | 0,_=>by simp[fo]
 |s+1,h=>by
  have ih:=CB A t s (by omega)
  have hs:s<A.length:=by omega
  rw[fo,List.take_add_one,List.getElem?_eq_getElem hs,cz hs]
  simp only[Option.toList_some]
  split
  ·exact ih.append (List.Sublist.refl _)
  ·exact ih.trans (List.sublist_append_left _ _)
theorem Gb(l:Led)(w:List Int):∀ s,s<=l.rs.length->(eU l w s).Sublist (l.rs.take s)
 | 0,_=>by simp[eU]
 |s+1,h=>by
  have ih:=Gb l w s (by omega)
  have hs:s<l.rs.length:=by omega
  rw[eU,List.take_add_one,List.getElem?_eq_getElem hs,cE hs]
  simp only[Option.toList_some]
  split
  ·exact ih.append (List.Sublist.refl _)
  ·exact ih.trans (List.sublist_append_left _ _)
def r0(r:Raw):Raw:=⟨r.rs,r.ts,[]⟩
def l0(r:Raw):Led:=l3 (r0 r)
def d0(r:Raw):List Int:=gd (r0 r) (nT (r0 r))
def cm(r:Raw):List Pq:=fS (l0 r) (d0 r) (l0 r).ts.length
def gO(r:Raw):Led:=⟨(l0 r).ps,(l0 r).rs,rets (cm r),[]⟩
def bj(r:Raw):List Pq:=fo (cm r) (bn (gO r) 900 (gO r).ts.length) (gO r).ts.length
def db(r:Raw):Led:=⟨(l0 r).ps,(l0 r).rs,rets (bj r),[]⟩
def bI(r:Raw):List Rec:=eU (db r) (cj (bj r)) (db r).rs.length
def cI(r:Raw):List Pq:=jl (l0 r).ps (bI r) (bj r) (bj r).length
def a8(r:Raw):Led:=⟨(l0 r).ps,bI r,rets (cI r),[]⟩
def jv(r:Raw):List Int:=cj (cI r)
def fc(r:Raw)(j:Nat):Sig:=
 ⟨3*j+3,ib (aU (a8 r) 900) ⟨(ca (r5 r.ss j).b).id,1+aQ (r5 r.ss j).c (ca (r5 r.ss j).b).lv⟩ (jv r) (aQ (r5 r.ss j).d 200),(ca (r5 r.ss j).b).id,1+aQ (r5 r.ss j).c (ca (r5 r.ss j).b).lv,aQ (r5 r.ss j).d 200,aQ (r5 r.ss j).e 300,0⟩
def la(r:Raw)(m:Nat):List Sig:=(List.range m).map (fc r)
def aH(r:Raw):Led:=⟨(l0 r).ps,bI r,rets (cI r),la r (nS r)⟩
theorem qo(r:Raw):bE (l0 r):=by unfold l0 l3;exact JB (r0 r) (Nat.min_le_right _ _)
theorem Ox(r:Raw):(d0 r).length=(l0 r).ts.length:=by
 show ((List.range (nT (r0 r))).map _).length=((List.range (nT (r0 r))).map _).length
 rw[List.length_map,List.length_map]
theorem G1{α β:Type}:∀ (a:List α) (b:List β),a.length=b.length->(a.zip b).map (·.1)=a
 |[],[],_=>rfl
 |x::a,y::b,h=>by
  simp only[List.zip_cons_cons,List.map_cons]
  rw[G1 a b (by simpa using h)]
theorem yY(r:Raw)(s:Nat):(fS (l0 r) (d0 r) s).Sublist ((l0 r).ts.zip (d0 r)):=List.filter_sublist.trans (List.take_sublist _ _)
theorem yR(r:Raw){q:List Pq}(h:q.Sublist ((l0 r).ts.zip (d0 r))):(rets q).Sublist (l0 r).ts:=by
 have :=h.map (·.1)
 rw[G1 _ _ (Ox r).symm]at this
 exact this
theorem abP(r:Raw):bE (gO r):=CP (qo r) rfl (List.Sublist.refl _) (yR r (yY r _)) (List.nil_sublist _)
theorem gR(q:List Pq):(rets q).length=q.length:=by unfold rets;simp
theorem nM(q:List Pq):(cj q).length=q.length:=by unfold cj;simp
theorem vJ(r:Raw):(gO r).ts.length=(cm r).length:=gR _
theorem qa(r:Raw):(bj r).Sublist (cm r):=by
 have :=CB (cm r) (bn (gO r) 900 (gO r).ts.length) (gO r).ts.length (by rw[vJ];exact Nat.le_refl _)
 rw[vJ]at this
 rw[List.take_length]at this
 unfold bj
 rw[vJ]
 exact this
theorem Hi(r:Raw):bE (db r):=CP (qo r) rfl (List.Sublist.refl _) (yR r ((qa r).trans (yY r _))) (List.nil_sublist _)
theorem A6(r:Raw):(bI r).Sublist (l0 r).rs:=(Gb (db r) _ _ (Nat.le_refl _)).trans (List.take_sublist _ _)
theorem qb(r:Raw):(cI r).Sublist (bj r):=List.filter_sublist.trans (List.take_sublist _ _)
theorem jn(r:Raw):bE (a8 r):=CP (qo r) rfl (A6 r) (yR r ((qb r).trans ((qa r).trans (yY r _)))) (List.nil_sublist _)
end Go.Eng
