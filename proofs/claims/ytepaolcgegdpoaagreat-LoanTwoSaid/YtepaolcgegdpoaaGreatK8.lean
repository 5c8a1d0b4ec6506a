import Derived.Test.YtepaolcgegdpoaaGreatK7
/- Texts LM3 to LB. -/
set_option linter.all false
namespace Go.Eng
open Go Go.Proofs
structure R5 where
 (a b c d e:Int)
 deriving Inhabited
structure R7 where
 (a b c d e f g:Int)
 deriving Inhabited
structure Raw where
 rs:List R5
 ts:List R7
 ss:List R5
 deriving Inhabited
def mps:List Pap:=[⟨1,4⟩,⟨2,3⟩,⟨5,2⟩]
def dB(n:Int):Pap:=mps.getD (aV n 3).toNat default
def r5(l:List R5)(i:Nat):R5:=l.getD i default
def r7(l:List R7)(i:Nat):R7:=l.getD i default
def el(r:Raw):Nat->Int
 | 0=>0
 |i+1=>el r i+aV (r5 r.rs i).d 20
def fi(r:Raw)(i:Nat):Rec:=⟨3*i+1,1+aV (r5 r.rs i).a 4,(dB (r5 r.rs i).b).id,gS (r5 r.rs i).c (dB (r5 r.rs i).b).lv,el r (i+1),el r (i+1)+aV (r5 r.rs i).e 5,0⟩
def eG(r:Raw)(m:Nat):List Rec:=(List.range m).map (fi r)
def nR(r:Raw):Nat:=min r.rs.length 8
def xT(r:Raw)(j:Nat):Rec:=(eG r (nR r)).getD (aV (r7 r.ts j).a (nR r)).toNat zeroR
def dX(r:Raw)(j:Nat):Int:=(xT r j).da+aV (r7 r.ts j).c 30
def tM(r:Raw)(j:Nat):Ret:=⟨3*j+2,(xT r j).so,1+aV (r7 r.ts j).g 4,gS (r7 r.ts j).b (dY mps (xT r j).pa),cB 0 (dX r j-aV (r7 r.ts j).d 12),dX r j+aV (r7 r.ts j).e 12,dX r j+aV (r7 r.ts j).e 12+aV (r7 r.ts j).f 9,0⟩
def nT(r:Raw):Nat:=if nR r=0 then 0 else min r.ts.length 8
def gX(r:Raw)(m:Nat):List Ret:=(List.range m).map (tM r)
def kg(r:Raw)(m:Nat):List Int:=(List.range m).map (dX r)
def eI(r:Raw)(ss:List Sig):Led:=⟨mps,eG r (nR r),gX r (nT r),ss⟩
def jO(r:Raw)(j:Nat):Int:=aV (r5 r.ss j).d (el r (nR r)+20)
def my(r:Raw)(j:Nat):Int:=1+aV (r5 r.ss j).c (dB (r5 r.ss j).b).lv
def mw(r:Raw)(j:Nat)(ss:List Sig):Int:=if (aV (r5 r.ss j).e 4 != 3)=true then jh (bV (eI r ss) 900) ⟨(dB (r5 r.ss j).b).id,my r j⟩ (kg r (nT r)) (jO r j)else aV (r5 r.ss j).a 5
def rK(r:Raw)(j:Nat)(ss:List Sig):Sig:=⟨3*j+3,mw r j ss,(dB (r5 r.ss j).b).id,my r j,jO r j,jO r j+aV (r5 r.ss j).e 30,0⟩
def c0(r:Raw):Nat->List Sig
 | 0=>[]
 |j+1=>c0 r j++[rK r j (c0 r j)]
def nS(r:Raw):Nat:=min r.ss.length 6
def uf(r:Raw):Led:=eI r (c0 r (nS r))
theorem w5(n:Int):dB n∈mps:=by
 have h:=dR (n:=n) (m:=3) (by decide)
 unfold dB
 have hl:(aV n 3).toNat<mps.length:=by show _<3;omega
 rw[dt hl]
 exact List.getElem_mem hl
theorem wZ{p:Pap}(h:p∈mps):dY mps p.id=p.lv/\2<=p.lv/\p.lv<=4/\1<=p.id/\p.id<=5:=by
 unfold mps at h
 simp only[List.mem_cons,List.not_mem_nil,or_false]at h
 rcases h with rfl | rfl | rfl<;>decide
theorem yE(n:Int):∀ m,∀ x∈eR n m,1<=x/\x<=m
 | 0,x,h=>nomatch h
 |m+1,x,h=>by
  rw[eR]at h
  split at h
  ·rcases List.mem_append.1 h with h | h
   ·have:=yE n m x h;omega
   ·simp only[List.mem_singleton]at h;omega
  ·have:=yE n m x h;omega
theorem Di(n:Int):∀ m,(eR n m).Pairwise (· < ·)
 | 0=>List.Pairwise.nil
 |m+1=>by
  rw[eR]
  split
  ·rw[List.pairwise_append]
   refine⟨Di n m,List.pairwise_singleton _ _,fun a ha b hb=>?_⟩
   have :=yE n m a ha
   simp only[List.mem_singleton]at hb
   omega
  ·exact Di n m
theorem Gz{l:List Int}{m:Int}(h0:l≠[])(hp:l.Pairwise (· < ·))(hm:∀ x∈l,1<=x/\x<=m)(JV:m<=30):jY l=true:=by
 have cv:0<l.length:=List.length_pos_iff.2 h0
 have ab:l.length-1<l.length:=by omega
 have h1:=hm _ (List.getElem_mem cv)
 have h2:=hm _ (List.getElem_mem ab)
 unfold jY cl
 rw[dt cv,dt ab]
 simp only[Bool.and_eq_true,decide_eq_true_eq]
 refine⟨⟨⟨cv,?_⟩,by omega⟩,by omega⟩
 rw[rP]
 intro j hj cK
 rw[List.pairwise_iff_getElem]at hp
 exact hp (j-1) j (by omega) hj (by omega)
theorem Lf(n:Int){m:Int}(h1:1<=m)(h2:m<=30):jY (gS n m)=true/\∀ x∈gS n m,1<=x/\x<=m:=by
 unfold gS
 split
 ·refine⟨Gz (m:=1) (by simp) (List.pairwise_singleton _ _) (fun x hx=>?_) (by decide),fun x hx=>?_⟩
  ·simp only[List.mem_singleton]at hx;omega
  ·simp only[List.mem_singleton]at hx;omega
 ·rename_i h0
  have hm:∀ x∈eR n m.toNat,1<=x/\x<=m:=fun x hx=>by have:=yE n _ x hx;omega
  exact⟨Gz h0 (Di n _) hm h2,hm⟩
theorem vv(r:Raw):∀ i,0<=el r i/\el r i<=20*i
 | 0=>by exact⟨Int.le_refl _,Int.le_refl _⟩
 |i+1=>by
  have :=vv r i
  have h:=dR (n:=(r5 r.rs i).d) (m:=20) (by decide)
  rw[el]
  omega
theorem hU{n lo hi:Int}(h1:lo<=n)(h2:n<=hi):cl n lo hi=true:=by
 unfold cl
 rw[decide_eq_true h1,decide_eq_true h2];rfl
theorem zD{k:Int}(h1:0<=k)(h2:k<=100000):kD k 0=true:=by
 unfold kD dayB
 rw[hU h1 h2];rfl
theorem tT(r:Raw){i:Nat}(hi:i<8):dQ (fi r i)=true/\nJ (fi r i).lv<=dY mps (fi r i).pa/\(fi r i).da<=160/\(fi r i).bo<=4/\1<=(fi r i).bo/\0<=(fi r i).da/\2<=dY mps (fi r i).pa/\dY mps (fi r i).pa<=4:=by
 obtain⟨e,l1,l2,p1,p2⟩:=wZ (w5 (r5 r.rs i).b)
 obtain⟨b1,b2⟩:=Lf (r5 r.rs i).c (m:=(dB (r5 r.rs i).b).lv) (by omega) (by omega)
 have h4:=dR (n:=(r5 r.rs i).a) (m:=4) (by decide)
 have h5:=dR (n:=(r5 r.rs i).e) (m:=5) (by decide)
 have hd:=vv r (i+1)
 have TE:nJ (fi r i).lv<=(dB (r5 r.rs i).b).lv:=by
  show nJ (gS _ _)<=_
  unfold nJ
  have hb:=b1
  unfold jY at hb
  simp only[Bool.and_eq_true,decide_eq_true_eq]at hb
  have ab:(gS (r5 r.rs i).c (dB (r5 r.rs i).b).lv).length-1<(gS (r5 r.rs i).c (dB (r5 r.rs i).b).lv).length:=by omega
  rw[dt ab]
  exact(b2 _ (List.getElem_mem ab)).2
 refine⟨?_,by show _<=dY mps (dB _).id;rw[e];exact TE,?_,?_,?_,hd.1,by show _<=dY mps (dB _).id;omega,by show dY mps (dB _).id<=_;omega⟩
 ·have ht:kD (el r (i+1)+aV (r5 r.rs i).e 5) 0=true:=zD (by omega) (by omega)
  have hb:dQ (fi r i)=(cl (3*(i:Int)+1) 1 99999&&cl (1+aV (r5 r.rs i).a 4) 1 99&&cl (dB (r5 r.rs i).b).id 1 999&&jY (gS (r5 r.rs i).c (dB (r5 r.rs i).b).lv)&&dayB (el r (i+1))&&kD (el r (i+1)+aV (r5 r.rs i).e 5) 0):=rfl
  rw[hb,ht,b1,hU (by omega) (by omega),hU (by omega) (by omega),hU (by omega) (by omega)]
  unfold dayB
  rw[hU (by omega) (by omega)]
  rfl
 ·show el r (i+1)<=160;omega
 ·show 1+aV _ 4<=4;omega
 ·show 1<=1+aV _ 4;omega
theorem iJ(r:Raw)(m:Nat):(eG r m).length=m:=by unfold eG;simp
theorem z6{r:Raw}{m i:Nat}(h:i<(eG r m).length):(eG r m)[i]=fi r i:=by
 have e:(eG r m)[i]=fi r ((List.range m)[i]'(by simpa[eG]using h)):=List.getElem_map (fi r) (h:=h)
 rw[e,List.getElem_range]
theorem pW(r:Raw):nR r<=8:=Nat.min_le_right _ _
theorem D1{r:Raw}(h:nR r≠0)(j:Nat):∃ i,i<nR r/\xT r j=fi r i:=by
 have hm:=dR (n:=(r7 r.ts j).a) (m:=(nR r:Int)) (by omega)
 refine⟨(aV (r7 r.ts j).a (nR r)).toNat,by omega,?_⟩
 unfold xT
 rw[dt (by rw[iJ];omega),z6]
theorem Em{r:Raw}(h:nR r≠0){j:Nat}(hj:j<8):jo (tM r j)=true/\0<=dX r j/\dX r j<=200:=by
 obtain⟨i,hi,e⟩:=D1 h j
 have h8:=pW r
 obtain⟨c1,-,c3,-,-,c6,c7,c8⟩:=tT r (show i<8 by omega)
 have IP:(xT r j).so=3*(i:Int)+1:=by rw[e];rfl
 have AO:=dR (n:=(r7 r.ts j).c) (m:=30) (by decide)
 have m4:=dR (n:=(r7 r.ts j).g) (m:=4) (by decide)
 have Ql:=dR (n:=(r7 r.ts j).d) (m:=12) (by decide)
 have Qk:=dR (n:=(r7 r.ts j).e) (m:=12) (by decide)
 have m9:=dR (n:=(r7 r.ts j).f) (m:=9) (by decide)
 have aw:dX r j=(fi r i).da+aV (r7 r.ts j).c 30:=by unfold dX;rw[e]
 obtain⟨b1,-⟩:=Lf (r7 r.ts j).b (m:=dY mps (xT r j).pa) (by rw[e];omega) (by rw[e];omega)
 have j6:0<=cB 0 (dX r j-aV (r7 r.ts j).d 12)/\cB 0 (dX r j-aV (r7 r.ts j).d 12)<=dX r j:=by unfold cB;split<;>omega
 refine⟨?_,by omega,by omega⟩
 have hb:jo (tM r j)=(cl (3*(j:Int)+2) 1 99999&&cl (xT r j).so 1 99999&&cl (1+aV (r7 r.ts j).g 4) 1 99&&jY (gS (r7 r.ts j).b (dY mps (xT r j).pa))&&cl (cB 0 (dX r j-aV (r7 r.ts j).d 12)) 0 (dX r j+aV (r7 r.ts j).e 12)&&dayB (dX r j+aV (r7 r.ts j).e 12)&&kD (dX r j+aV (r7 r.ts j).e 12+aV (r7 r.ts j).f 9) 0):=rfl
 rw[hb,b1,zD (by omega) (by omega),hU (by omega) (by omega),hU (by omega) (by omega),hU (by omega) (by omega),hU (by omega) (by omega)]
 unfold dayB
 rw[hU (by omega) (by omega)]
 rfl
theorem wW(r:Raw):nT r<=8:=by unfold nT;split<;>omega
theorem Ge{r:Raw}{j:Nat}(h:j<nT r):nR r≠0:=by
 intro h0
 unfold nT at h
 rw[if_pos h0]at h
 omega
theorem MK{r:Raw}{ss:List Sig}(f:Fol)(az:List Int)(day:Int):0<=jh (bV (eI r ss) 900) f az day/\jh (bV (eI r ss) 900) f az day<=4:=by
 have UB:∀ q:Nat,0<=(ay (eI r ss) q).bo/\(ay (eI r ss) q).bo<=4:=fun q=>by
  by_cases hq:q<(eI r ss).rs.length
  ·rw[fA hq]
   have e:(eI r ss).rs[q]=fi r q:=z6 hq
   have hl:(eI r ss).rs.length=nR r:=iJ _ _
   have h8:=pW r
   rw[e]
   obtain⟨-,-,-,c4,c5,-⟩:=tT r (show q<8 by omega)
   omega
  ·have:ay (eI r ss) q=zeroR:=by
     unfold ay
     rw[List.getD_eq_getElem?_getD,List.getElem?_eq_none (by omega)];rfl
   rw[this]
   decide
 unfold jh
 split
 ·decide
 ·split
  ·decide
  ·exact UB _
theorem Nt(r:Raw){j:Nat}(hj:j<6)(ss:List Sig):kG (rK r j ss)=true/\(rK r j ss).le<=dY mps (rK r j ss).pa:=by
 obtain⟨e,l1,l2,p1,p2⟩:=wZ (w5 (r5 r.ss j).b)
 have ml:=dR (n:=(r5 r.ss j).c) (m:=(dB (r5 r.ss j).b).lv) (by omega)
 have hd:=vv r (nR r)
 have h8:=pW r
 have md:=dR (n:=(r5 r.ss j).d) (m:=el r (nR r)+20) (by omega)
 have AO:=dR (n:=(r5 r.ss j).e) (m:=30) (by decide)
 have m5:=dR (n:=(r5 r.ss j).a) (m:=5) (by decide)
 have xv:0<=mw r j ss/\mw r j ss<=4:=by
  unfold mw
  split
  ·exact MK _ _ _
  ·omega
 have jw:my r j=1+aV (r5 r.ss j).c (dB (r5 r.ss j).b).lv:=rfl
 have sw:jO r j=aV (r5 r.ss j).d (el r (nR r)+20):=rfl
 refine⟨?_,?_⟩
 ·have hb:kG (rK r j ss)=(cl (3*(j:Int)+3) 1 99999&&cl (mw r j ss) 0 99&&cl (dB (r5 r.ss j).b).id 1 999&&cl (my r j) 1 30&&dayB (jO r j)&&kD (jO r j+aV (r5 r.ss j).e 30) 0):=rfl
  rw[hb,zD (by omega) (by omega),hU (by omega) (by omega),hU (by omega) (by omega),hU (by omega) (by omega),hU (by omega) (by omega)]
  unfold dayB
  rw[hU (by omega) (by omega)]
  rfl
 ·show my r j<=dY mps (dB (r5 r.ss j).b).id
  rw[e];omega
theorem zI(r:Raw):∀ s,(c0 r s).length=s
 | 0=>rfl
 |s+1=>by rw[c0,List.length_append,zI];rfl
theorem wm(r:Raw):∀ s,s<=6->(∀ x∈c0 r s,(kG x=true/\x.le<=dY mps x.pa)/\∃ j:Nat,j<s/\x.so=3*(j:Int)+3)/\(c0 r s).Pairwise (fun a b=>a.so<b.so)
 | 0,_=>⟨fun x h=>(nomatch h),List.Pairwise.nil⟩
 |s+1,hs=>by
  obtain⟨h1,h2⟩:=wm r s (by omega)
  rw[c0]
  refine⟨fun x hx=>?_,?_⟩
  ·rcases List.mem_append.1 hx with hx | hx
   ·obtain⟨a,j,hj,b⟩:=h1 x hx
    exact⟨a,j,by omega,b⟩
   ·simp only[List.mem_singleton]at hx
    subst hx
    exact⟨Nt r (by omega) _,s,by omega,rfl⟩
  ·rw[List.pairwise_append]
   refine⟨h2,List.pairwise_singleton _ _,fun a ha b hb=>?_⟩
   obtain⟨-,j,hj,e⟩:=h1 a ha
   simp only[List.mem_singleton]at hb
   subst hb
   show a.so<3*(s:Int)+3
   omega
theorem Gl(r:Raw){s:Nat}(hs:s<=6):bN (eI r (c0 r s)) where
 ps:=by
  rw[zc]
  show (∀ x∈mps,ny x=true)/\mps.Pairwise (fun a b=>a.id<b.id)
  exact⟨by decide,by decide⟩
 psn:=by show 3<=12;decide
 rs:=by
  have h8:=pW r
  rw[zc]
  refine⟨fun x hx=>?_,?_⟩
  ·obtain⟨i,hi,rfl⟩:=List.mem_map.1 hx
   have bA:i<nR r:=List.mem_range.1 hi
   exact(tT r (by omega)).1
  ·show (eG r (nR r)).Pairwise _
   unfold eG
   rw[List.pairwise_map]
   refine List.pairwise_lt_range.imp fun {a b} pk=>?_
   show 3*(a:Int)+1<3*(b:Int)+1
   omega
 rsn:=by have:=pW r;show (eG r (nR r)).length<=60;rw[iJ];omega
 ts:=by
  have h8:=wW r
  rw[zc]
  refine⟨fun x hx=>?_,?_⟩
  ·obtain⟨i,hi,rfl⟩:=List.mem_map.1 hx
   have bA:i<nT r:=List.mem_range.1 hi
   exact(Em (Ge bA) (by omega)).1
  ·show (gX r (nT r)).Pairwise _
   unfold gX
   rw[List.pairwise_map]
   refine List.pairwise_lt_range.imp fun {a b} pk=>?_
   show 3*(a:Int)+2<3*(b:Int)+2
   omega
 tsn:=by have:=wW r;show ((List.range (nT r)).map _).length<=60;rw[List.length_map,List.length_range];omega
 ss:=by
  obtain⟨h1,h2⟩:=wm r s hs
  rw[zc]
  exact⟨fun x hx=>(h1 x hx).1.1,h2⟩
 ssn:=by show (c0 r s).length<=60;rw[zI];omega
 rl:=fun j hj=>by
  have e:(eI r (c0 r s)).rs[j]=fi r j:=z6 hj
  have hl:(eI r (c0 r s)).rs.length=nR r:=iJ _ _
  have h8:=pW r
  rw[e]
  exact(tT r (by omega)).2.1
 sl:=fun j hj=>by
  obtain⟨h1,-⟩:=wm r s hs
  exact(h1 _ (List.getElem_mem hj)).1.2
 nd:=by
  obtain⟨h1,h2⟩:=wm r s hs
  unfold wo
  rw[List.nodup_append,List.nodup_append]
  have m1:∀ x∈(eI r (c0 r s)).rs.map Rec.so,∃ i:Nat,x=3*(i:Int)+1:=fun x hx=>by
   obtain⟨y,hy,rfl⟩:=List.mem_map.1 hx
   obtain⟨i,-,rfl⟩:=List.mem_map.1 hy
   exact⟨i,rfl⟩
  have m2:∀ x∈(eI r (c0 r s)).ts.map Ret.so,∃ i:Nat,x=3*(i:Int)+2:=fun x hx=>by
   obtain⟨y,hy,rfl⟩:=List.mem_map.1 hx
   obtain⟨i,-,rfl⟩:=List.mem_map.1 hy
   exact⟨i,rfl⟩
  have m3:∀ x∈(eI r (c0 r s)).ss.map Sig.so,∃ i:Nat,x=3*(i:Int)+3:=fun x hx=>by
   obtain⟨y,hy,rfl⟩:=List.mem_map.1 hx
   obtain⟨-,j,-,e⟩:=h1 y hy
   exact⟨j,e⟩
  have n1:((eI r (c0 r s)).rs.map Rec.so).Nodup:=by
   show ((eG r (nR r)).map Rec.so).Nodup
   unfold eG
   rw[List.map_map,List.nodup_iff_pairwise_ne,List.pairwise_map]
   refine List.pairwise_lt_range.imp fun {a b} pk=>?_
   show 3*(a:Int)+1≠3*(b:Int)+1
   omega
  have n2:((eI r (c0 r s)).ts.map Ret.so).Nodup:=by
   show ((gX r (nT r)).map Ret.so).Nodup
   unfold gX
   rw[List.map_map,List.nodup_iff_pairwise_ne,List.pairwise_map]
   refine List.pairwise_lt_range.imp fun {a b} pk=>?_
   show 3*(a:Int)+2≠3*(b:Int)+2
   omega
  have n3:((eI r (c0 r s)).ss.map Sig.so).Nodup:=by
   show ((c0 r s).map Sig.so).Nodup
   rw[List.nodup_iff_pairwise_ne,List.pairwise_map]
   exact h2.imp fun {a b} pk=>by omega
  refine⟨⟨n1,n2,fun a ha b hb=>?_⟩,n3,fun a ha b hb=>?_⟩
  ·obtain⟨i,rfl⟩:=m1 a ha
   obtain⟨j,rfl⟩:=m2 b hb
   omega
  ·obtain⟨j,rfl⟩:=m3 b hb
   rcases List.mem_append.1 ha with ha | ha
   ·obtain⟨i,rfl⟩:=m1 a ha;omega
   ·obtain⟨i,rfl⟩:=m2 a ha;omega
open Go
def Iy:V->Bool
 | .int _ _=>true
 |_=>false
def xi(l:List V):Bool:=l.all fun x=>x.cells.all Iy
def lG(obj:Name->Option O):D->V
 | .v x=>x
 | .msl nm _=>match obj nm with
   |some (.arr _ l)=>.sl l
   |_=>default
 |_=>default
def lJ(obj:Name->Option O):D->Bool
 | .v _=>true
 | .msl nm k=>match obj nm with
   |some (.arr _ l)=>decide (k=l.length)&&xi l
   |_=>false
 |_=>false
def wT:D->List Name
 | .msl nm _=>[nm]
 |_=>[]
def gZ(obj:Name->Option O):D->V
 | .agg l=>.agg (l.map (lG obj))
 |d=>lG obj d
def nB(obj:Name->Option O):D->Bool
 | .agg l=>l.all (lJ obj)
 |d=>lJ obj d
def Ga:D->List Name
 | .agg l=>l.flatMap wT
 |d=>wT d
def W0:V->Bool
 | .bool _=>true
 |_=>false
def PSpec.toSpecU(s:PSpec):Spec:=
 ⟨fun obj _ ds=>⟨(∀ d∈ds,nB obj d=true)/\s.pre (ds.map (gZ obj)),.v (s.fn (ds.map (gZ obj))),obj⟩,fun _ _ ds=>ds.flatMap Ga,fun _ _ _=>[]⟩
theorem kH{obj obj2:Name->Option O}{d:D}(h:bE (wT d) obj obj2):lG obj2 d=lG obj d/\lJ obj2 d=lJ obj d:=by
 cases d<;>try exact⟨rfl,rfl⟩
 rename_i nm k
 have :=h nm (by simp[wT])
 simp only[lG,lJ,this,and_self]
theorem Pr{obj obj2:Name->Option O}{d:D}(h:bE (Ga d) obj obj2):gZ obj2 d=gZ obj d/\nB obj2 d=nB obj d:=by
 cases d with
 |agg l=>
  have hx:∀ x∈l,lG obj2 x=lG obj x/\lJ obj2 x=lJ obj x:=fun x hx=>kH fun nm hn=>h nm (List.mem_flatMap.2 ⟨x,hx,hn⟩)
  simp only[gZ,nB]
  refine⟨congrArg V.agg (List.map_congr_left fun x h=>(hx x h).1),?_⟩
  rw[Bool.eq_iff_iff,List.all_eq_true,List.all_eq_true]
  exact⟨fun k x h=>(hx x h).2▸k x h,fun k x h=>(hx x h).2.symm▸k x h⟩
 |v x=>exact kH (d:=.v x) h
 |nilsl=>exact kH (d:=.nilsl) h
 |nilmap=>exact kH (d:=.nilmap) h
 |ref a b=>exact kH (d:=.ref a b) h
 |msl a b=>exact kH (d:=.msl a b) h
 |aref a b c e=>exact kH (d:=.aref a b c e) h
 |map a=>exact kH (d:=.map a) h
 |yld a=>exact kH (d:=.yld a) h
 |clo a b c=>exact kH (d:=.clo a b c) h
 |tup a=>exact kH (d:=.tup a) h
 |any=>exact kH (d:=.any) h
theorem PSpec.nearU(s:PSpec):s.toSpecU.Near:=by
 refine⟨fun obj obj2 t ds h=>?_,fun obj obj2 t ds h=>rfl,fun obj t ds nm hn=>(nomatch hn),fun obj obj2 t ds h=>rfl⟩
 have hx:∀ x∈ds,gZ obj2 x=gZ obj x/\nB obj2 x=nB obj x:=fun x hx=>Pr fun nm hn=>h nm (List.mem_flatMap.2 ⟨x,hx,hn⟩)
 have e:ds.map (gZ obj2)=ds.map (gZ obj):=List.map_congr_left fun x h=>(hx x h).1
 refine bK.same ?_ (by simp only[PSpec.toSpecU,e]) rfl rfl
 simp only[PSpec.toSpecU,e]
 exact congrArg (· /\_) (propext ⟨fun k x h=>(hx x h).2▸k x h,fun k x h=>(hx x h).2.symm▸k x h⟩)
noncomputable def lN(m:Mem)(w:World):Mem:=fun b off=>match m b off with
 |some v=>some v
 |none=>match w.cell? ⟨b,off,none⟩with
  |some (.int k n)=>some (.int k n)
  |_=>none
theorem Bg(m:Mem)(w:World):Mem.le m (lN m w):=fun b off v h=>by simp only[lN,h]
theorem Ix{m:Mem}{w:World}{b off:Nat}{v:Value}(h:lN m w b off=some v):m b off=some v\/∃ k n,v=.int k n/\w.cell? ⟨b,off,none⟩=some v:=by
 unfold lN at h
 split at h
 ·rename_i e;cases h;exact .inl e
 ·split at h
  ·rename_i e;cases h;exact .inr ⟨_,_,rfl,e⟩
  ·cases h
theorem SG{m:Mem}{w:World}(hm:∀ b off v,m b off=some v->w.cell? ⟨b,off,none⟩=some v){b off:Nat}{k:IntKind}{n:Int}(h:w.cell? ⟨b,off,none⟩=some (.int k n)):lN m w b off=some (.int k n):=by
 unfold lN
 cases e:m b off with
 |some v=>have:=hm _ _ _ e;rw[h]at this;simpa using this.symm
 |none=>simp only[h]
theorem jQ{G:Ghost}{φ:Name->Loc}{m:Mem}{σ:S}{a:Act}{w:World}(hC:aL G φ m σ a w){d:D}{u:Value}(hd:aA φ σ.obj m d u)(aa:lJ σ.obj d=true):
 aJ (lN m w) (lG σ.obj d) u/\(d.one=true->(lG σ.obj d).one=true):=by
 cases hd with
 |v x u h=>exact⟨h.mono (Bg m w),id⟩
 |msl nm k u hx hu=>
  obtain⟨o,n,au,hlen,hk,cL⟩:=hx
  cases o with
  |arr sz l=>
   simp only[lJ,au,Bool.and_eq_true,decide_eq_true_eq]at aa
   simp only[lG,au]
   refine⟨?_,fun _=>rfl⟩
   simp only[O.len?,Option.some.injEq]at hlen
   subst hlen
   obtain⟨Je,hint⟩:=aa
   have e:=cL Je
   subst e
   rcases hC.objs nm _ au with⟨h,h'⟩ | ⟨h0,h1,h2,h3,h4,us,T,f,h5,h6,h7,h8⟩
   ·subst h'
    simp only[Loc.slice,h,if_true]
    exact .slnil _ _
   ·simp only[Loc.slice,h0,Bool.false_eq_true,if_false]
    rw[Je]
    by_cases hl:l=[]
    ·subst hl;exact .slnil _ _
    ·have key:∀ i j (hi:i<l.length) (hj:j<(l[i].cells).length),∃ c,lN m w (φ nm).blk ((φ nm).off+i*sz+j)=some c/\us[(φ nm).off+i*sz+j]?=some c/\aJ m (l[i].cells)[j] c:=by
       intro i j hi hj
       obtain⟨c,x,y⟩:=h8 i j hi hj
       refine⟨c,?_,x,y⟩
       have hc:Iy (l[i].cells)[j]=true:=by
        unfold xi at hint
        rw[List.all_eq_true]at hint
        have :=hint _ (List.getElem_mem hi)
        rw[List.all_eq_true]at this
        exact this _ (List.getElem_mem hj)
       have hw:w.cell? ⟨(φ nm).blk,(φ nm).off+i*sz+j,none⟩=some c:=by
        unfold World.cell?
        simp only[h5]
        exact x
       cases hv:(l[i].cells)[j]<;>rw[hv]at hc y<;>first | (cases hc;done) | skip
       cases y
       exact SG hC.mem hw
     refine .sl l _ _ _ sz (fun i j=>(us[(φ nm).off+i*sz+j]?).getD undef) hl (by omega) h1 h3 (fun i j hi hj=>?_) (fun i j hi hj=>?_) h4
     ·obtain⟨c,x,y,_⟩:=key i j hi (by rw[h3];exact hj)
      rw[x,y];rfl
     ·obtain⟨c,_,y,z⟩:=key i j hi hj
      rw[y];exact z.mono (Bg m w)
  |_=>simp[lJ,au]at aa
 |_=>cases aa
theorem Pq{G:Ghost}{φ:Name->Loc}{m:Mem}{σ:S}{a:Act}{w:World}(hC:aL G φ m σ a w){d:D}{u:Value}(hd:aA φ σ.obj m d u)(aa:nB σ.obj d=true):
 aJ (lN m w) (gZ σ.obj d) u:=by
 cases d with
 |agg l=>
  cases hd with
  |agg _ us h ho hr=>
   simp only[nB,List.all_eq_true]at aa
   simp only[gZ]
   refine .agg _ us (by simpa using h) (fun x hx=>?_) fun i hi bA=>?_
   ·obtain⟨d,hd,rfl⟩:=List.mem_map.1 hx
    obtain⟨j,hj,rfl⟩:=List.getElem_of_mem hd
    exact(jQ hC (hr j hj (by omega)) (aa _ (List.getElem_mem hj))).2 (ho _ (List.getElem_mem hj))
   ·simp only[List.length_map]at hi
    rw[List.getElem_map]
    exact(jQ hC (hr i hi bA) (aa _ (List.getElem_mem hi))).1
 |v x=>exact(jQ (d:=.v x) hC hd aa).1
 |nilsl=>exact(jQ (d:=.nilsl) hC hd aa).1
 |nilmap=>exact(jQ (d:=.nilmap) hC hd aa).1
 |ref a b=>exact(jQ (d:=.ref a b) hC hd aa).1
 |msl a b=>exact(jQ (d:=.msl a b) hC hd aa).1
 |aref a b c e=>exact(jQ (d:=.aref a b c e) hC hd aa).1
 |map a=>exact(jQ (d:=.map a) hC hd aa).1
 |yld a=>exact(jQ (d:=.yld a) hC hd aa).1
 |clo a b c=>exact(jQ (d:=.clo a b c) hC hd aa).1
 |tup a=>exact(jQ (d:=.tup a) hC hd aa).1
 |any=>exact(jQ (d:=.any) hC hd aa).1
theorem aT.soundU{P:Program}{f:FuncId}{s:PSpec}(h:aT P f s)(hb:∀ xs,s.pre xs->∃ l,s.fn xs=.sl l/\l.all W0=true):aK P f s.toSpecU:=by
 obtain⟨hy,j',_,qC⟩:=h
 refine⟨s.nearU,fun _=>j',fun _ G φ m σ a w hC t ds us _ hl hr aa=>?_,fun e=>(hy e).elim⟩
 obtain⟨uR,o3⟩:=aa
 have mJ:∀ b off v,lN m w b off=some v->w.cell? ⟨b,off,none⟩=some v:=fun b off v h=>by
  rcases Ix h with h | ⟨_,_,_,h⟩
  ·exact hC.mem _ _ _ h
  ·exact h
 refine(qC (lN m w) w (ds.map (gZ σ.obj)) us mJ ⟨by simpa using hl,fun i h h'=>?_⟩ o3).mono ?_
 ·simp only[List.length_map]at h
  rw[List.getElem_map,Array.getElem_toList]
  exact Pq hC (hr i h (by simpa using h')) (uR _ (List.getElem_mem h))
 rintro e w' ⟨v,m',rfl,vh,hm,hn,hv⟩
 obtain⟨l,eM,dU⟩:=hb _ o3
 let m2:Mem:=fun b off=>if w.heap.size<=b then m' b off else m b off
 have hle:Mem.le m m2:=fun b off v h=>by
  show (if w.heap.size<=b then m' b off else m b off)=some v
  split
  ·exact hm _ _ _ (Bg m w _ _ _ h)
  ·exact h
 have xo:aJ m2 (s.fn (ds.map (gZ σ.obj))) v:=by
  rw[eM]at hv |-
  rw[List.all_eq_true]at dU
  have vg:∀ i (h:i<l.length),l[i].cells=[l[i]]:=fun i h=>by
   have :=dU _ (List.getElem_mem h)
   cases hv:l[i]<;>rw[hv]at this<;>first | (cases this;done) | rfl
  cases hv with
  |slnil a cap=>exact .slnil _ _
  |sl _ b o cap sz c I5 xI iq hs hc hr ho=>
   have db:sz=1:=by
    have h0:0<l.length:=List.length_pos_iff.2 I5
    rw[<-hs 0 h0,vg 0 h0];rfl
   subst db
   have JD:∀ i (h:i<l.length),∃ x,l[i]=.bool x/\c i 0=.bool x:=fun i h=>by
    have h1:=hr i 0 h (by rw[vg i h];exact Nat.zero_lt_one)
    have h2:=dU _ (List.getElem_mem h)
    simp only[vg i h,List.getElem_cons_zero]at h1
    cases hv:l[i]<;>rw[hv]at h2<;>first | (cases h2;done) | skip
    rw[hv]at h1
    generalize hc0:c i 0=cc at h1
    cases h1
    exact⟨_,rfl,rfl⟩
   refine .sl l b o cap 1 c I5 xI iq hs (fun i j hi hj=>?_) (fun i j hi hj=>?_) ho
   ·have cK:j=0:=by omega
    subst cK
    have h1:=hc i 0 hi hj
    show (if w.heap.size<=b then m' b (o+i*1+0)else m b (o+i*1+0))=_
    split
    ·exact h1
    ·rename_i ab
     obtain⟨x,_,hx⟩:=JD i hi
     rcases hn _ _ _ h1 with h2 | ⟨h2,_⟩
     ·rcases Ix h2 with h3 | ⟨k,n,h3,_⟩
      ·exact h3
      ·rw[hx]at h3;cases h3
     ·exact(ab h2).elim
   ·obtain⟨x,h1,h2⟩:=JD i hi
    have cK:j=0:=by rw[vg i hi]at hj;simpa using hj
    subst cK
    simp only[vg i hi,List.getElem_cons_zero]
    rw[h1,h2]
    exact .bool x
 refine⟨v,φ,m2,rfl,?_,.v _ _ xo,.refl _ _⟩
 simp only[PSpec.toSpecU]
 refine hC.imm hle ⟨vh.os,vh.tape,vh.output,vh.size⟩ vh.block fun b off v h=>?_
 have h':(if w.heap.size<=b then m' b off else m b off)=some v:=h
 split at h'
 ·rename_i bF
  rcases hn _ _ _ h' with h2 | h2
  ·have:=mW (mJ _ _ _ h2);omega
  ·exact .inr h2
 ·exact .inl h'
structure Rn (α:Type) where
 m:Nat
 fam:α->List Name->List O
 args:α->List Name->List D
 ok:α->Prop
 val:α->List Name->D
structure Rn.Ok {α:Type} (r:Rn α):Prop where
 len:∀ a Ls,Ls.length=r.m->(r.fam a Ls).length=r.m
 renF:∀ a f Ls,Ls.length=r.m->(r.fam a Ls).map (O.ren f)=r.fam a (Ls.map f)
 renA:∀ a f Ls,Ls.length=r.m->D.renL f (r.args a Ls)=r.args a (Ls.map f)
 reach:∀ a Ls obj,Ls.length=r.m->Ls.Nodup->cF obj Ls (r.fam a Ls)->reach obj (r.args a Ls)=Ls
 closF:∀ a dom Ls,Ls.length=r.m->(∀ x∈Ls,dom x=true)->∀ o∈r.fam a Ls,O.clos dom o=true
 closA:∀ a dom Ls,Ls.length=r.m->(∀ x∈Ls,dom x=true)->D.closL dom (r.args a Ls)=true
 det:∀ a b,r.ok a->r.ok b->r.fam a (LR r.m)=r.fam b (LR r.m)->r.args a (LR r.m)=r.args b (LR r.m)->r.val a (LR r.m)=r.val b (LR r.m)
 vcl:∀ a dom Ls,Ls.length=r.m->(∀ x∈Ls,dom x=true)->D.clos dom (r.val a Ls)=true
 vren:∀ a f Ls,Ls.length=r.m->(r.val a Ls).ren f=r.val a (Ls.map f)
variable {α:Type}
noncomputable def Rn.c(r:Rn α):CSpec where
 pre:=fun os ds=>∃ a,r.ok a/\os=r.fam a (LR r.m)/\ds=r.args a (LR r.m)
 out:=fun os ds=>⟨[],[],by classical exact if h:∃ a,r.ok a/\os=r.fam a (LR r.m)/\ds=r.args a (LR r.m)then r.val h.choose (LR r.m)else .any⟩
theorem Rn.c_out{r:Rn α}(hr:r.Ok){a:α}(ha:r.ok a):r.c.out (r.fam a (LR r.m)) (r.args a (LR r.m))=⟨[],[],r.val a (LR r.m)⟩:=by
 have h:∃ b,r.ok b/\r.fam a (LR r.m)=r.fam b (LR r.m)/\r.args a (LR r.m)=r.args b (LR r.m):=⟨a,ha,rfl,rfl⟩
 have e:r.val h.choose (LR r.m)=r.val a (LR r.m):=(hr.det _ _ ha h.choose_spec.1 h.choose_spec.2.1 h.choose_spec.2.2).symm
 simp only[Rn.c]
 rw[dif_pos h,e]
theorem Rn.c_app{r:Rn α}(hr:r.Ok){a:α}(ha:r.ok a){obj:Name->Option O}{t:Name}{Ls:List Name}(hl:Ls.length=r.m)(hn:Ls.Nodup)(hF:cF obj Ls (r.fam a Ls)):
 r.c.toSpec.app obj t (r.args a Ls)=⟨True,r.val a Ls,obj⟩:=by
 have iW:=hr.reach a Ls obj hl hn hF
 have qB:Ls.map (cin Ls)=LR r.m:=by rw[yA hn,hl]
 have e1:cg obj (r.args a Ls)=r.fam a (LR r.m):=by
  unfold cg
  rw[iW]
  have l9:=hF
  rw[jT]at l9
  have :Ls.map (cm Ls obj)=(r.fam a Ls).map (O.ren (cin Ls)):=by
   refine List.ext_getElem (by simp[hr.len _ _ hl,hl]) fun i h1 h2=>?_
   have h3:i<Ls.length:=by simpa using h1
   have h4:i<(r.fam a Ls).length:=by rw[hr.len _ _ hl,<-hl];exact h3
   have h5:=congrArg (fun l=>l[i]?) l9
   have h6:obj Ls[i]=some (r.fam a Ls)[i]:=by simpa[h3,h4]using h5
   simp only[List.getElem_map,cm,h6]
  rw[this,hr.renF _ _ _ hl,qB]
 have e2:cN obj (r.args a Ls)=r.args a (LR r.m):=by
  unfold cN
  rw[iW,hr.renA _ _ _ hl,qB]
 have jC:∀ x∈Ls,cG Ls x=true:=fun x hx=>fG.2 hx
 have iU:shut obj Ls=true:=by
  unfold shut
  rw[List.all_eq_true]
  intro x hx
  obtain⟨i,hi,rfl⟩:=List.getElem_of_mem hx
  have l9:=hF
  rw[jT]at l9
  have h4:i<(r.fam a Ls).length:=by rw[hr.len _ _ hl,<-hl];exact hi
  have h5:=congrArg (fun l=>l[i]?) l9
  have h6:obj Ls[i]=some (r.fam a Ls)[i]:=by simpa[hi,h4]using h5
  rw[h6]
  exact hr.closF _ _ _ hl jC _ (List.getElem_mem h4)
 have dr:r.c.pre (r.fam a (LR r.m)) (r.args a (LR r.m)):=⟨a,ha,rfl,rfl⟩
 simp only[CSpec.toSpec,e1,e2,iW,Rn.c_out hr ha,iU,hr.closA _ _ _ hl jC,fresh,List.all_nil,Bool.and_self,dr,and_self,c9,cj]
 rw[hr.vren _ _ _ (na _)]
 have :(LR r.m).map (cout Ls t)=Ls:=by rw[<-hl];exact KR Ls t
 rw[this]
def EY(P:Program)(rs:List ResultVar)(v:D)(H:Name->Option O)(e:Exit)(σ:S):Prop:=
 (e=.normal\/e=.ret)/\(bI P σ rs).ok/\(bI P σ rs).d=v/\∀ i,σ.obj [i,1]=H [i,1]
theorem Rn.sound{P:Program}{r:Rn α}(hr:r.Ok){f:FuncId}{fn:Func}{nt:Nat}{rs:List ResultVar}(hf:P.funcs[f]?=some fn)(cJ:fn.ntmps=nt)(bY:fn.results.toList=rs)(hn:(fn.name== "runtime.NumGoroutine")=false)(hy:f<1000000000)
 (hw:∃ c,fn.body=some c/\∀ a,r.ok a->(r.args a (LR r.m)).length<=nt/\CL P [c] (bb nt [0] (aQ (r.fam a (LR r.m))) (cY 0 (r.args a (LR r.m))) []) (EY P rs (r.val a (LR r.m)) (aQ (r.fam a (LR r.m))))):aK P f r.c.toSpec:=by
 obtain⟨c,hc,hw⟩:=hw
 refine mS hf hc cJ bY (gn hf hc hn) (Nat.ne_of_lt (show f<yid from hy)) ?_
 rintro os ds ⟨a,ha,rfl,rfl⟩
 obtain⟨hl,h⟩:=hw a ha
 refine⟨hl,?_⟩
 rw[Rn.c_out hr ha]
 refine CW.mono (iw h) ?_
 rintro e σ ⟨he,h1,h2,h3⟩
 have fin:(bI P σ rs).ok/\(bI P σ rs).d=r.val a (LR r.m)/\fx (r.fam a (LR r.m)) ⟨[],[],r.val a (LR r.m)⟩ σ:=by
  refine⟨h1,h2,Ax fun i hi=>?_,trivial,?_⟩
  ·rw[Nat.zero_add,h3]
   show (r.fam a (LR r.m))[i]?=_
   rw[List.getElem?_eq_getElem hi]
  ·have hv:D.clos (cS (r.fam a (LR r.m)).length []) (r.val a (LR r.m))=true:=hr.vcl _ _ _ (na _) fun x hx=>by
     obtain⟨i,hi,rfl⟩:=List.mem_map.1 hx
     rw[hr.len _ _ (na _)]
     simpa[cS]using hi
   simp[hv,distinct]
 rcases he with rfl | rfl
 ·exact fin
 ·exact fin
theorem Rn.outC{r:Rn α}(hr:r.Ok)(a:α):∀ hs,bU [0] (bP [0] hs) (aQ (r.fam a (LR r.m)))=True:=fun hs=>eq_true (nz (fun o ho dom hd=>hr.closF a dom _ (na _) (fun x hx=>by
 obtain⟨i,_,rfl⟩:=List.mem_map.1 hx
 exact hd i) o ho) hs)
set_option maxRecDepth 10000
noncomputable section
attribute [go_sem] EY
def S71u:Spec:=P71.toSpecU
theorem Sr:aK Tryz.prog 71 S71u:=N8.soundU fun xs hp=>by
 obtain⟨l,hl⟩:∃ l:List Bool,P71.fn xs=.sl (l.map .bool):=by
  match xs,hp with
  |[a,b],_=>exact⟨_,rfl⟩
 refine⟨_,hl,?_⟩
 rw[List.all_eq_true]
 intro x hx
 obtain⟨y,_,rfl⟩:=List.mem_map.1 hx
 rfl
theorem SH(l:List Sig):xi (l.map encS)=true:=by
 unfold xi
 rw[List.all_eq_true]
 intro x hx
 obtain⟨y,_,rfl⟩:=List.mem_map.1 hx
 rfl
def wx(l:Led)(k:Int)(nm:Name):D:=.agg [.v (.sl (l.ps.map dv)),.v (.sl (l.rs.map encR)),.v (.sl (l.ts.map du)),.msl nm l.ss.length,.v (vInt k),.v (.sl ((bp l k l.ts.length).map .bool)),.nilsl]
def iN:Rn (Led×Int) where
 m:=1
 fam:=fun a _=>[.arr 7 (a.1.ss.map encS)]
 args:=fun a Ls=>[.agg [.v (.sl (a.1.ps.map dv)),.v (.sl (a.1.rs.map encR)),.v (.sl (a.1.ts.map du)),.msl (Ls.getD 0 []) a.1.ss.length],.v (vInt a.2)]
 ok:=fun a=>bN a.1
 val:=fun a Ls=>wx a.1 a.2 (Ls.getD 0 [])
theorem sh{Ls:List Name}(h:Ls.length=1):∃ a,Ls=[a]:=by
 match Ls,h with
 |[a],_=>exact⟨a,rfl⟩
theorem AS:iN.Ok where
 len:=fun _ _ h=>by obtain⟨a,rfl⟩:=sh h;rfl
 renF:=fun a f Ls h=>rfl
 renA:=fun a f Ls h=>by obtain⟨a,rfl⟩:=sh h;rfl
 reach:=fun x Ls obj h b7 hF=>by
  obtain⟨a,rfl⟩:=sh h
  obtain⟨h1,_⟩:=hF
  have en:cP (iN.args x [a])=[a]:=rfl
  unfold Go.Eng.reach
  rw[en]
  show dd obj (2993+1+1+1+1+1+1+1) _ []=_
  simp[dd,fG,h1,kK]
 closF:=fun x dom Ls h hd o ho=>by
  simp only[iN,List.mem_cons,List.not_mem_nil,or_false]at ho
  subst ho;rfl
 closA:=fun x dom Ls h hd=>by
  obtain⟨a,rfl⟩:=sh h
  have h1:=hd a (by simp)
  simp[iN,D.closL,D.clos,h1]
 det:=fun a b _ _ h1 h2=>by
  obtain⟨⟨p,r,t,s⟩,k⟩:=a
  obtain⟨⟨p2,r2,t2,s2⟩,k2⟩:=b
  simp only[iN,List.cons.injEq,D.agg.injEq,D.v.injEq,V.sl.injEq,O.arr.injEq,and_true,true_and]at h1 h2
  obtain⟨⟨e1,e2,e3,_⟩,e4⟩:=h2
  have e1:=congrArg (List.map px) e1
  have e2:=congrArg (List.map jH) e2
  have e3:=congrArg (List.map kX) e3
  have e5:=congrArg (List.map iv) h1
  simp only[Kw,yp,Ku,qS]at e1 e2 e3 e5
  have e6:k=k2:=by simpa[vInt]using e4
  subst e1 e2 e3 e5 e6
  rfl
 vcl:=fun x dom Ls h hd=>by
  obtain⟨a,rfl⟩:=sh h
  have h1:=hd a (by simp)
  simp[iN,wx,D.closL,D.clos,h1]
 vren:=fun x f Ls h=>by obtain⟨a,rfl⟩:=sh h;rfl
def S73m:Spec:=iN.c.toSpec
theorem N6(l:Led)(k:Int)(obj:Name->Option O)(t nm:Name)(H:Name->Option O)(cI:obj nm=H nm)(h0:H nm=some (.arr 7 (l.ss.map encS)))(hl:bN l):
 S71u.app obj t [.agg [.v (.sl (l.ps.map dv)),.v (.sl (l.rs.map encR)),.v (.sl (l.ts.map du)),.msl nm l.ss.length],.v (vInt k)]=⟨True,.v (.sl ((bp l k l.ts.length).map .bool)),obj⟩:=by
 have ho:=cI.trans h0
 have e:gZ obj (.agg [.v (.sl (l.ps.map dv)),.v (.sl (l.rs.map encR)),.v (.sl (l.ts.map du)),.msl nm l.ss.length])=fY l:=by
  simp[gZ,lG,ho,fY]
 have e2:P71.fn [fY l,vInt k]=.sl ((bp l k l.ts.length).map .bool):=by
  simp only[go_sem]
 have e3:P71.pre [fY l,vInt k]:=by
  simp only[go_sem]
  exact hl
 simp only[S71u,PSpec.toSpecU,List.map_cons,List.map_nil,e,show gZ obj (.v (vInt k))=vInt k from rfl,e2,R.mk.injEq,and_true,eq_iff_iff,iff_true]
 refine⟨fun d hd=>?_,e3⟩
 simp only[List.mem_cons,List.not_mem_nil,or_false]at hd
 rcases hd with rfl | rfl
 ·simp[nB,lJ,ho,SH]
 ·rfl
theorem N7(l:Led)(k:Int)(t:Name){F H:Name->Option O}(h0:H [0,1]=some (.arr 7 (l.ss.map encS)))(hl:bN l):
 S71u.app (fun nm=>if own [0] nm=true then F nm else H nm) t [.agg [.v (.sl (l.ps.map dv)),.v (.sl (l.rs.map encR)),.v (.sl (l.ts.map du)),.msl [0,1] l.ss.length],.v (vInt k)]=⟨True,.v (.sl ((bp l k l.ts.length).map .bool)),fun nm=>if own [0] nm=true then F nm else H nm⟩:=
 N6 l k _ t [0,1] H rfl h0 hl
def DR:FuncId->Option Spec:=fun f=>if f=71 then some S71u else none
theorem Yz:∀ f s,DR f=some s->aK Tryz.prog f s:=fun f s h=>by
 unfold DR at h
 split at h
 ·rename_i e;cases h;subst e;exact Sr
 ·cases h
@[go_sem] theorem adF:DR 71=some S71u:=rfl
set_option maxHeartbeats 4000000 in
theorem Sq:aK Tryz.prog 73 S73m:=by
 refine Rn.sound AS (rs:=[.cell 4 108]) Tryz.func73 Tryz.ntmps73 (by rfl) (by kernel_rfl) (by decide) ⟨_,rfl,?_⟩
 rintro⟨l,k⟩ hp
 refine⟨lb rfl,?_⟩
 have hΓ:=Yz
 have hP:=gE
 have hO:=Rn.outC AS (l,k)
 have h0:aQ (iN.fam (l,k) (LR iN.m)) [0,1]=some (.arr 7 (l.ss.map encS)):=rfl
 generalize aQ (iN.fam (l,k) (LR iN.m))=H at *
 have ha:iN.args (l,k) (LR iN.m)=[.agg [.v (.sl (l.ps.map dv)),.v (.sl (l.rs.map encR)),.v (.sl (l.ts.map du)),.msl [0,1] l.ss.length],.v (vInt k)]:=rfl
 have hv:iN.val (l,k) (LR iN.m)=wx l k [0,1]:=rfl
 rw[ha,hv]
 simp only[wx,cY,Nat.zero_add]at h0 |-
 repeat refine sq ?_
 refine rx hΓ [1,2,4] [[2,0],[4,0]] (fun K' hK=>by simp only[go_sem,hO,h0];(repeat (refine⟨an,?_⟩));exact hK _ (by simp only[go_sem,hO,h0]) (by simp only[go_sem,hO,h0]<;>rfl)) ?_
 repeat refine sq ?_
 refine dx hΓ hP [[],[],[],[],[2,3],u5,u6] [4] [[4,0]] (by kernel_rfl) (fun K' hK=>by simp only[go_sem,hO,h0];rw[N7 l k _ h0 hp];simp only[go_sem,hO,h0];(repeat (refine⟨an,?_⟩));(first | refine⟨by rfl,?_⟩ | skip);exact hK _ (by simp only[go_sem,hO,h0]) (by simp only[go_sem,hO,h0]<;>rfl)) ?_
 refine av ?_
 simp only[go_sem,hO,h0]
 exact .inr trivial
theorem N5{p:List Pap}{rr:List Rec}{tt:List Ret}{ss:List Sig}{k:Int}{n:Nat}{obj:Name->Option O}{t nm:Name}(ho:obj nm=some (.arr 7 (ss.map encS)))(hl:bN ⟨p,rr,tt,ss⟩)(hn:n=ss.length):
 S73m.app obj t [.agg [.v (.sl (p.map dv)),.v (.sl (rr.map encR)),.v (.sl (tt.map du)),.msl nm n],.v (.int .i64 k)]=
  ⟨True,.agg [.v (.sl (p.map dv)),.v (.sl (rr.map encR)),.v (.sl (tt.map du)),.msl nm ss.length,.v (.int .i64 k),.v (.sl ((bp ⟨p,rr,tt,ss⟩ k tt.length).map .bool)),.nilsl],obj⟩:=by
 subst hn
 exact Rn.c_app AS (a:=(⟨p,rr,tt,ss⟩,k)) hl (t:=t) (obj:=obj) (Ls:=[nm]) rfl (by simp) ⟨ho,trivial⟩
end
noncomputable section
def qP(x:R5):V:=.agg [vInt x.a,vInt x.b,vInt x.c,vInt x.d,vInt x.e]
def sR(x:R7):V:=.agg [vInt x.a,vInt x.b,vInt x.c,vInt x.d,vInt x.e,vInt x.f,vInt x.g]
def vw:V->R5
 | .agg [.int _ a,.int _ b,.int _ c,.int _ d,.int _ e]=>⟨a,b,c,d,e⟩
 |_=>default
def yq:V->R7
 | .agg [.int _ a,.int _ b,.int _ c,.int _ d,.int _ e,.int _ f,.int _ g]=>⟨a,b,c,d,e,f,g⟩
 |_=>default
def qO(r:Raw):V:=.agg [.sl (r.rs.map qP),.sl (r.ts.map sR),.sl (r.ss.map qP)]
def yo:V->Raw
 | .agg [.sl a,.sl b,.sl c]=>⟨a.map vw,b.map yq,c.map vw⟩
 |_=>default
def uC:En Raw:=⟨qO,yo⟩
theorem V2(x:R5):vw (qP x)=x:=rfl
theorem V0(x:R7):yq (sR x)=x:=rfl
@[go_sem] theorem V1(l:List R5):(l.map qP).map vw=l:=pY V2 l
@[go_sem] theorem VZ(l:List R7):(l.map sR).map yq=l:=pY V0 l
attribute [go_sem] qP vw sR yq qO yo uC
@[go_sem] theorem ads(x:Raw):(⟨x.rs,x.ts,x.ss⟩:Raw)=x:=rfl
def K73:List (Nat×Spec):=[(20,Md),(83,XQ),(84,zg),(73,S73m),(74,Mb)]
theorem YI:KS K73:=tc EJ.sound<|tc N2.sound<|tc N1.sound<|tc Sq<|tc N4.sound<|tn
attribute [go_sem] K73
@[go_sem] def P19:PSpec:=p1 uC (fun _=>True) (fun r=>.tup [fY (uf r),.sl ((kg r (nT r)).map vInt)]) false
@[go_sem] def X1:Spec:=P19.toSpec
set_option maxHeartbeats 1000000 in
theorem Om:aT Tryz.prog 19 P19:=by
 refine fz (rs:=[.cell 2 31,.tmp 3]) Tryz.func19 Tryz.ntmps19 fun r hp hw=>?_
 have hP:=gE
 simp only[uC]at hw |-
 have hΓ:=YI
 have h8:=pW r
 have hl:nR r<=maxLen:=by unfold maxLen;omega
 repeat refine sq ?_
 refine rx hΓ [1,2] [[1,0],[2,0],[77,0],[158,0],[235,0]] (fun K' hK=>by simp only[go_sem];exact ak) ?_
 repeat refine sq ?_
 refine rx hΓ [1,2,4] [[1,0],[2,0],[4,0],[77,0],[158,0],[235,0]] (fun K' hK=>by simp only[go_sem];exact ak) ?_
 repeat refine sq ?_
 refine rx hΓ [1,2,4,5] [[1,0],[2,0],[4,0],[77,0],[158,0],[163,0],[235,0]] (fun K' hK=>by simp only[go_sem];exact ak) ?_
 refine dw (zx 5 [163,0] 1 (by simp only[go_sem]) (by simp only[go_sem]) [1,2,4,5] [[1,0],[2,0],[4,0],[77,0],[158,0],[163,0],[235,0]] ?_ rfl) ?_
 ·simp only[go_sem]
 simp only[go_sem]
 repeat refine sq ?_
 refine rx hΓ [1,2,4,5,6] [[1,0],[2,0],[4,0],[77,0],[158,0],[163,0],[235,0]] (fun K' hK=>by simp only[go_sem];exact ak) ?_
 refine dw (tv [4,0] [77,0] 1 7 _ rfl rfl rfl [1,2,4,5,6] [[1,0],[2,0],[4,0],[77,0],[158,0],[163,0],[235,0]] ?_ rfl) ?_
 ·simp only[go_sem,List.set_cons_succ,List.set_cons_zero]
 simp only[go_sem,List.set_cons_succ,List.set_cons_zero]
 refine dw (tv [4,0] [158,0] 2 8 _ rfl rfl rfl [1,2,4,5,6] [[1,0],[2,0],[4,0],[77,0],[158,0],[163,0],[235,0]] ?_ rfl) ?_
 ·simp only[go_sem,List.set_cons_succ,List.set_cons_zero]
 simp only[go_sem,List.set_cons_succ,List.set_cons_zero]
 repeat refine sq ?_
 refine rx hΓ [1,2,4,5,6,7] [[1,0],[2,0],[4,0],[77,0],[158,0],[163,0],[235,0]] (fun K' hK=>by simp only[go_sem];exact ak) ?_
 refine dw (tv [4,0] [235,0] 3 7 _ rfl rfl rfl [1,2,4,5,6,7] [[1,0],[2,0],[4,0],[77,0],[158,0],[163,0],[235,0]] ?_ rfl) ?_
 ·simp only[go_sem,List.set_cons_succ,List.set_cons_zero]
 simp only[go_sem,List.set_cons_succ,List.set_cons_zero]
 repeat refine sq ?_
 refine aS ?_
 repeat refine sq ?_
 refine cM (fun s:Nat=>[(7,⟨true,.v (vInt s)⟩),(6,⟨true,.v (vInt (el r s))⟩)]) (fun s=>[([4,0],.box [.v (.sl (mps.map dv)),.msl [77,0] (eG r s).length,.msl [158,0] 0,.msl [235,0] 0]),([77,0],.arr 7 ((eG r s).map encR))]) (fun s=>s<=(nR r)) (fun s=>(nR r)-s) 0 ?_ ?_ ?_ ?_
 ·exact Nat.zero_le _
 ·rfl
 ·rfl
 rintro i hi
 simp only[go_sem]
 repeat refine sq ?_
 refine rx hΓ [1,2,4,5,6,7,33] [[1,0],[2,0],[4,0],[77,0],[158,0],[163,0],[235,0]] (fun K' hK=>by simp only[go_sem];exact ak) ?_
 repeat refine sq ?_
 refine aB (fun hb=>?_) fun hb=>?_
 ·repeat refine sq ?_
  have ab:i<nR r:=by simp at hb;unfold nR;omega
  have Jo:i<r.rs.length:=by have h:=ab;unfold nR at h;omega
  have TT:(i:Int)<r.rs.length:=by omega
  have e5:r5 r.rs i=r.rs[i]:=dt Jo
  have m3:=dR (n:=r.rs[i].b) (m:=3) (by decide)
  have uU:0<=aV r.rs[i].b 3:=m3.1
  have BR:(mps.length:Int)=3:=rfl
  have o7:aV r.rs[i].b 3<(mps.length:Int):=by omega
  have B9:(mps.map dv).getD (aV r.rs[i].b 3).toNat default=dv (dB r.rs[i].b):=by
   have hl:(aV r.rs[i].b 3).toNat<mps.length:=by omega
   rw[ah hl];unfold dB;rw[dt hl]
  obtain⟨-,l1,l2,p1,p2⟩:=wZ (w5 r.rs[i].b)
  have d0:=vv r i
  have ed:el r (i+1)=el r i+aV r.rs[i].d 20:=by rw[el,e5]
  have m20:=dR (n:=r.rs[i].d) (m:=20) (by decide)
  have m4:=dR (n:=r.rs[i].a) (m:=4) (by decide)
  have m5:=dR (n:=r.rs[i].e) (m:=5) (by decide)
  have fT:IntKind.i64.wrap (el r i+aV r.rs[i].d 20)=el r (i+1):=by rw[wrap_i64 (by omega) (by omega)];exact ed.symm
  have uK:IntKind.i64.wrap (3*(i:Int))=3*(i:Int):=wrap_i64 (by omega) (by omega)
  have S4:IntKind.i64.wrap (3*(i:Int)+1)=3*(i:Int)+1:=wrap_i64 (by omega) (by omega)
  have S0:IntKind.i64.wrap (1+aV r.rs[i].a 4)=1+aV r.rs[i].a 4:=wrap_i64 (by omega) (by omega)
  have sv:IntKind.i64.wrap (el r (i+1)+aV r.rs[i].e 5)=el r (i+1)+aV r.rs[i].e 5:=wrap_i64 (by omega) (by omega)
  have eS:eG r (i+1)=eG r i++[⟨3*(i:Int)+1,1+aV r.rs[i].a 4,(dB r.rs[i].b).id,gS r.rs[i].c (dB r.rs[i].b).lv,el r (i+1),el r (i+1)+aV r.rs[i].e 5,0⟩]:=by
   unfold eG
   rw[List.range_succ,List.map_append]
   show _++[fi r i]=_
   unfold fi
   rw[e5]
  have oZ:=iJ r i
  refine aF ?_
  repeat refine sq ?_
  refine aS ?_
  repeat refine sq ?_
  refine rx hΓ [1,2,4,5,6,7,8] [[1,0],[2,0],[4,0],[8,0],[77,0],[158,0],[163,0],[235,0]] (fun K' hK=>by simp only[go_sem,ah Jo,TT,ai,aj,List.length_map];exact ak) ?_
  repeat refine sq ?_
  refine dx hΓ hP [[],[0],[],[2],[2,3],u5,u6,[],u8] [1,2,4,5,6,7,8,9] [[1,0],[2,0],[4,0],[8,0],[9,0],[77,0],[158,0],[163,0],[235,0]] (by kernel_rfl) (fun K' hK=>by simp only[go_sem,Int.cast_ofNat_Int,Int.reduceToNat,Int.toNat_zero,Int.toNat_one,Nat.reduceMul,Nat.zero_mul,Nat.one_mul,List.getD_cons_succ,List.getD_cons_zero,B9,uU,o7,List.length_map];(repeat (refine⟨by first | exact an | exact⟨by decide,by decide⟩,?_⟩));exact i7) ?_
  repeat refine sq ?_
  refine rx hΓ [1,2,4,5,6,7,8,9] [[1,0],[2,0],[4,0],[8,0],[9,0],[77,0],[158,0],[163,0],[235,0]] (fun K' hK=>by simp only[go_sem,Int.cast_ofNat_Int,Int.reduceToNat,Int.toNat_zero,Int.toNat_one,Nat.reduceMul,Nat.zero_mul,Nat.one_mul,List.getD_cons_succ,List.getD_cons_zero,fT];(repeat (refine⟨by first | exact an | exact⟨by decide,by decide⟩,?_⟩));exact dN) ?_
  repeat refine sq ?_
  refine s9 hΓ hP [[],[0],[],[2],[2,3],[],[5],[5,6],[5,6,7],[],[9],[],[11],[],[13],[5,6,7,11,12,13,14],[],[],[],[18],[5,6,7,11,12,13,14,15,18,19],[5,6,7,11,12,13,14,15,17,18,19,20],[2,3,4,5,6,7,8,9,10,11,12,13,14,15,16,17,18,19,20,21],[2,3,4,5,6,7,8,9,10,11,12,13,14,15,16,17,18,19,20,21,22],Eb,v8,M2] (by kernel_rfl) fun K' hK=>?_
  simp only[go_sem,Int.cast_ofNat_Int,Int.reduceToNat,Int.toNat_zero,Int.toNat_one,Nat.reduceMul,Nat.zero_mul,Nat.one_mul,List.getD_cons_succ,List.getD_cons_zero,uK,S4,S0,sv]
  repeat (refine⟨by first | exact an | exact⟨by decide,by decide⟩ | exact⟨by omega,by omega⟩,?_⟩)
  first | refine⟨by rfl,?_⟩ | skip
  refine hK _ ?_
  clear K' hK
  simp only[go_sem]
  refine kp [1,2,4,5,6,7] [[1,0],[2,0],[4,0],[77,0],[158,0],[163,0],[235,0]] ?_
  repeat refine sq ?_
  refine bc hΓ fun K' hK=>?_
  simp only[go_sem]
  repeat (refine⟨an,?_⟩)
  refine hK _ ?_
  clear K' hK
  simp only[go_sem]
  refine⟨i+1,ab,by(show (nR r)-(i+1)<(nR r)-i;omega),?_⟩
  refine bu [1,2,4,5,6,7] [[1,0],[2,0],[4,0],[77,0],[158,0],[163,0],[235,0]] ?_ ?_<;>simp only[go_sem,bn ab hl,br,eS,List.map_append,List.length_append,List.map_cons,List.map_nil,List.length_cons,List.length_nil]
 ·repeat refine sq ?_
  have bF:i=nR r:=by
   simp at hb
   have h:=hi
   unfold nR at h |-
   omega
  subst bF
  have sD:nT r<=maxLen:=by have:=wW r;unfold maxLen;omega
  refine bW ?_
  simp only[go_sem]
  refine kp [1,2,4,5,6] [[1,0],[2,0],[4,0],[77,0],[158,0],[163,0],[235,0]] ?_
  repeat refine sq ?_
  refine rx hΓ [1,2,4,5,6,10] [[1,0],[2,0],[4,0],[77,0],[158,0],[163,0],[235,0]] (fun K' hK=>by simp only[go_sem];exact ak) ?_
  repeat refine sq ?_
  refine aS ?_
  repeat refine sq ?_
  refine cM (fun s:Nat=>[(10,⟨true,.v (vInt s)⟩),(5,⟨true,.msl [163,0] (kg r s).length⟩)]) (fun s=>[([4,0],.box [.v (.sl (mps.map dv)),.msl [77,0] (eG r (nR r)).length,.msl [158,0] (gX r s).length,.msl [235,0] 0]),([158,0],.arr 8 ((gX r s).map du)),([163,0],.arr 1 ((kg r s).map vInt))]) (fun s=>s<=(nT r)) (fun s=>(nT r)-s) 0 ?_ ?_ ?_ ?_
  ·exact Nat.zero_le _
  ·rfl
  ·rfl
  rintro i1 hi
  simp only[go_sem]
  repeat refine sq ?_
  refine rx hΓ [1,2,4,5,6,10,93] [[1,0],[2,0],[4,0],[77,0],[158,0],[163,0],[235,0]] (fun K' hK=>by simp only[go_sem,iJ];exact ak) ?_
  repeat refine sq ?_
  refine aB (fun hb=>?_) fun hb=>?_
  ·repeat refine sq ?_
   have aI:i1<nT r:=by simp at hb;unfold nT;split<;>omega
   have BL:nR r≠0:=Ge aI
   have Jm:i1<r.ts.length:=by have h:=aI;unfold nT at h;rw[if_neg BL]at h;omega
   have TR:(i1:Int)<r.ts.length:=by omega
   have h8t:=wW r
   have e7:r7 r.ts i1=r.ts[i1]:=dt Jm
   have mx:=dR (n:=r.ts[i1].a) (m:=(nR r:Int)) (by omega)
   have SX:0<=aV r.ts[i1].a (nR r):=mx.1
   have nP:aV r.ts[i1].a (nR r)<nR r:=mx.2
   have vd:((eG r (nR r)).map encR).getD (aV r.ts[i1].a (nR r)).toNat default=encR (xT r i1):=by
    have hl:(aV r.ts[i1].a (nR r)).toNat<(eG r (nR r)).length:=by rw[iJ];omega
    rw[ah hl];unfold xT;rw[e7,dt hl]
   obtain⟨ix,hix,ex⟩:=D1 BL i1
   obtain⟨-,-,x3,-,-,x6,x7,x8⟩:=tT r (show ix<8 by omega)
   rw[<-ex]at x3 x6 x7 x8
   obtain⟨-,a0,a1⟩:=Em BL (show i1<8 by omega)
   have ea:dX r i1=(xT r i1).da+aV r.ts[i1].c 30:=by unfold dX;rw[e7]
   have eS:gX r (i1+1)=gX r i1++[⟨3*(i1:Int)+2,(xT r i1).so,1+aV r.ts[i1].g 4,gS r.ts[i1].b (dY mps (xT r i1).pa),if dX r i1-aV r.ts[i1].d 12>0 then dX r i1-aV r.ts[i1].d 12 else 0,dX r i1+aV r.ts[i1].e 12,dX r i1+aV r.ts[i1].e 12+aV r.ts[i1].f 9,0⟩]:=by
    unfold gX
    rw[List.range_succ,List.map_append]
    show _++[tM r i1]=_
    unfold tM
    rw[e7,P5]
   have eD:kg r (i1+1)=kg r i1++[dX r i1]:=by
    unfold kg
    rw[List.range_succ,List.map_append];rfl
   have jw:(gX r i1).length=i1:=by unfold gX;simp
   have ph:(kg r i1).length=i1:=by unfold kg;simp
   generalize xT r i1=xx at *
   have AO:=dR (n:=r.ts[i1].c) (m:=30) (by decide)
   have m4:=dR (n:=r.ts[i1].g) (m:=4) (by decide)
   have Ql:=dR (n:=r.ts[i1].d) (m:=12) (by decide)
   have Qk:=dR (n:=r.ts[i1].e) (m:=12) (by decide)
   have m9:=dR (n:=r.ts[i1].f) (m:=9) (by decide)
   have S1:IntKind.i64.wrap (xx.da+aV r.ts[i1].c 30)=dX r i1:=by rw[wrap_i64 (by omega) (by omega)];exact ea.symm
   have uK:IntKind.i64.wrap (3*(i1:Int))=3*(i1:Int):=wrap_i64 (by omega) (by omega)
   have S3:IntKind.i64.wrap (3*(i1:Int)+2)=3*(i1:Int)+2:=wrap_i64 (by omega) (by omega)
   have uJ:IntKind.i64.wrap (1+aV r.ts[i1].g 4)=1+aV r.ts[i1].g 4:=wrap_i64 (by omega) (by omega)
   have SY:IntKind.i64.wrap (dX r i1-aV r.ts[i1].d 12)=dX r i1-aV r.ts[i1].d 12:=wrap_i64 (by omega) (by omega)
   have SZ:IntKind.i64.wrap (dX r i1+aV r.ts[i1].e 12)=dX r i1+aV r.ts[i1].e 12:=wrap_i64 (by omega) (by omega)
   have sv:IntKind.i64.wrap (dX r i1+aV r.ts[i1].e 12+aV r.ts[i1].f 9)=dX r i1+aV r.ts[i1].e 12+aV r.ts[i1].f 9:=wrap_i64 (by omega) (by omega)
   refine aF ?_
   repeat refine sq ?_
   refine aS ?_
   repeat refine sq ?_
   refine rx hΓ [1,2,4,5,6,10,11] [[1,0],[2,0],[4,0],[11,0],[77,0],[158,0],[163,0],[235,0]] (fun K' hK=>by simp only[go_sem,ah Jm,TR,ai,aj,List.length_map];exact ak) ?_
   repeat refine sq ?_
   refine dx hΓ hP [[],[0],[],[2],[],[4],[4,5],[2,3,4,5,6],u8,u9,[],gy] [1,2,4,5,6,10,11,12] [[1,0],[2,0],[4,0],[11,0],[12,0],[77,0],[158,0],[163,0],[235,0]] (by kernel_rfl) (fun K' hK=>by simp only[go_sem,Int.cast_ofNat_Int,Int.reduceToNat,Int.toNat_zero,Int.toNat_one,Nat.reduceMul,Nat.zero_mul,Nat.one_mul,List.getD_cons_succ,List.getD_cons_zero,vd,SX,nP,iJ,List.length_map];(repeat (refine⟨by first | exact an | exact⟨by omega,by omega⟩,?_⟩));exact i7) ?_
   repeat refine sq ?_
   refine dx hΓ hP [[],[0],[],[2],[2,3],u5,u6] [1,2,4,5,6,10,11,12,13] [[1,0],[2,0],[4,0],[11,0],[12,0],[77,0],[158,0],[163,0],[235,0]] (by kernel_rfl) (fun K' hK=>by simp only[go_sem,Int.cast_ofNat_Int,Int.reduceToNat,Int.toNat_zero,Int.toNat_one,Nat.reduceMul,Nat.zero_mul,Nat.one_mul,List.getD_cons_succ,List.getD_cons_zero,S1];(repeat (refine⟨by first | exact an | exact⟨by decide,by decide⟩,?_⟩));exact i7) ?_
   repeat refine sq ?_
   refine dx hΓ hP [[],[0],[0,1],[],[3],[],[5],[5,6],[5,6,7],[],[9],[],[],[12],[5,6,7,11,12,13],[5,6,7,9,10,11,12,13,14],[],[],[17],[5,6,7,9,10,11,12,13,14,15,17,18],[5,6,7,9,10,11,12,13,14,15,16,17,18,19],[5,6,7,9,10,11,12,13,14,15,16,17,18,19,20],[],[],[23],[5,6,7,9,10,11,12,13,14,15,17,18,19,23,24],[5,6,7,9,10,11,12,13,14,15,17,18,19,22,23,24,25],[5,6,7,9,10,11,12,13,14,15,16,17,18,19,20,21,22,23,24,25,26],v7,[],Ea] [1,2,4,5,6,10,11,13,14] [[1,0],[2,0],[4,0],[11,0],[14,0],[77,0],[158,0],[163,0],[235,0]] (by kernel_rfl) (fun K' hK=>by simp only[go_sem,Int.cast_ofNat_Int,Int.reduceToNat,Int.toNat_zero,Int.toNat_one,Nat.reduceMul,Nat.zero_mul,Nat.one_mul,List.getD_cons_succ,List.getD_cons_zero,uK,S3,uJ,SY,SZ];(repeat (refine⟨by first | exact an | exact(iJ _ _).symm | exact⟨by decide,by decide⟩ | exact⟨by omega,by omega⟩,?_⟩));exact i7) ?_
   repeat refine sq ?_
   refine dx hΓ hP [[],[0],[0,1],[],[3],[3,4],u6,u7,u8] [1,2,4,5,6,10,13,14] [[1,0],[2,0],[4,0],[14,0],[77,0],[158,0],[163,0],[235,0]] (by kernel_rfl) (fun K' hK=>by simp only[go_sem,Int.cast_ofNat_Int,Int.reduceToNat,Int.toNat_zero,Int.toNat_one,Nat.reduceMul,Nat.zero_mul,Nat.one_mul,List.getD_cons_succ,List.getD_cons_zero,sv];(repeat (refine⟨by first | exact an | exact⟨by decide,by decide⟩,?_⟩));exact i7) ?_
   repeat refine sq ?_
   refine rx hΓ [1,2,4,5,6,10,13] [[1,0],[2,0],[4,0],[77,0],[158,0],[163,0],[235,0]] (fun K' hK=>by simp only[go_sem];exact ak) ?_
   repeat refine sq ?_
   refine bc hΓ fun K' hK=>?_
   simp only[go_sem]
   repeat (refine⟨an,?_⟩)
   refine hK _ ?_
   clear K' hK
   simp only[go_sem]
   refine kp [1,2,4,5,6,10] [[1,0],[2,0],[4,0],[77,0],[158,0],[163,0],[235,0]] ?_
   repeat refine sq ?_
   refine bc hΓ fun K' hK=>?_
   simp only[go_sem]
   repeat (refine⟨an,?_⟩)
   refine hK _ ?_
   clear K' hK
   simp only[go_sem]
   refine⟨i1+1,aI,by(show (nT r)-(i1+1)<(nT r)-i1;omega),?_⟩
   refine bu [1,2,4,5,6,10] [[1,0],[2,0],[4,0],[77,0],[158,0],[163,0],[235,0]] ?_ ?_<;>simp only[go_sem,bn aI sD,br,iJ,eS,eD,List.map_append,List.length_append,List.map_cons,List.map_nil,List.length_cons,List.length_nil]
  ·repeat refine sq ?_
   have iY:i1=nT r:=by
    simp at hb
    have h:=hi
    unfold nT at h |-
    split at h
    ·rename_i h0;rw[if_pos h0];omega
    ·rename_i h0;rw[if_neg h0];omega
   subst iY
   have eM:nS r<=maxLen:=by have:nS r<=6:=Nat.min_le_right _ _;unfold maxLen;omega
   refine bW ?_
   simp only[go_sem]
   refine kp [1,2,4,5,6] [[1,0],[2,0],[4,0],[77,0],[158,0],[163,0],[235,0]] ?_
   repeat refine sq ?_
   refine rx hΓ [1,2,4,5,6,15] [[1,0],[2,0],[4,0],[77,0],[158,0],[163,0],[235,0]] (fun K' hK=>by simp only[go_sem];exact ak) ?_
   refine dw (gg 5 (.msl [163,0] (kg r (nT r)).length) (by simp only[go_sem]) (by simp only[go_sem]) [1,2,4,5,6,15] [[1,0],[2,0],[4,0],[77,0],[158,0],[163,0],[235,0]] ?_ rfl) ?_
   ·simp only[go_sem]
   simp only[go_sem]
   refine dw (vY [4,0] [77,0] 1 _ _ _ _ rfl rfl rfl (by first | rfl | (simp only[List.length_map,iJ];done)) [1,2,4,5,6,15] [[1,0],[2,0],[4,0],[77,0],[158,0],[163,0],[235,0]] ?_ rfl) ?_
   ·simp only[go_sem,List.set_cons_succ,List.set_cons_zero,iJ]
   simp only[go_sem,List.set_cons_succ,List.set_cons_zero,iJ]
   refine dw (vY [4,0] [158,0] 2 _ _ _ _ rfl rfl rfl (by first | rfl | (simp only[List.length_map];done)) [1,2,4,5,6,15] [[1,0],[2,0],[4,0],[77,0],[158,0],[163,0],[235,0]] ?_ rfl) ?_
   ·simp only[go_sem,List.set_cons_succ,List.set_cons_zero]
   simp only[go_sem,List.set_cons_succ,List.set_cons_zero]
   repeat refine sq ?_
   refine aS ?_
   repeat refine sq ?_
   refine cM (fun s:Nat=>[(15,⟨true,.v (vInt s)⟩)]) (fun s=>[([4,0],.box [.v (.sl (mps.map dv)),.v (.sl ((eG r (nR r)).map encR)),.v (.sl ((gX r (nT r)).map du)),.msl [235,0] (c0 r s).length]),([235,0],.arr 7 ((c0 r s).map encS))]) (fun s=>s<=(nS r)) (fun s=>(nS r)-s) 0 ?_ ?_ ?_ ?_
   ·exact Nat.zero_le _
   ·rfl
   ·rfl
   rintro i2 hi
   simp only[go_sem]
   repeat refine sq ?_
   refine rx hΓ [1,2,4,5,6,15,172] [[1,0],[2,0],[4,0],[77,0],[158,0],[163,0],[235,0]] (fun K' hK=>by simp only[go_sem];exact ak) ?_
   repeat refine sq ?_
   refine aB (fun hb=>?_) fun hb=>?_
   ·repeat refine sq ?_
    have cT:i2<nS r:=by simp at hb;unfold nS;omega
    have Jn:i2<r.ss.length:=by have h:=cT;unfold nS at h;omega
    have TS:(i2:Int)<r.ss.length:=by omega
    have h6:i2<6:=by have h:=cT;unfold nS at h;omega
    have e6:r5 r.ss i2=r.ss[i2]:=dt Jn
    have m3:=dR (n:=r.ss[i2].b) (m:=3) (by decide)
    have uU:0<=aV r.ss[i2].b 3:=m3.1
    have BR:(mps.length:Int)=3:=rfl
    have o7:aV r.ss[i2].b 3<(mps.length:Int):=by omega
    have B9:(mps.map dv).getD (aV r.ss[i2].b 3).toNat default=dv (dB r.ss[i2].b):=by
     have hl:(aV r.ss[i2].b 3).toNat<mps.length:=by omega
     rw[ah hl];unfold dB;rw[dt hl]
    obtain⟨-,l1,l2,p1,p2⟩:=wZ (w5 r.ss[i2].b)
    have d0:=vv r (nR r)
    have ml:=dR (n:=r.ss[i2].c) (m:=(dB r.ss[i2].b).lv) (by omega)
    have md:=dR (n:=r.ss[i2].d) (m:=el r (nR r)+20) (by omega)
    have AO:=dR (n:=r.ss[i2].e) (m:=30) (by decide)
    have jw:my r i2=1+aV r.ss[i2].c (dB r.ss[i2].b).lv:=by unfold my;rw[e6]
    have sw:jO r i2=aV r.ss[i2].d (el r (nR r)+20):=by unfold jO;rw[e6]
    have uK:IntKind.i64.wrap (3*(i2:Int))=3*(i2:Int):=wrap_i64 (by omega) (by omega)
    have S2:IntKind.i64.wrap (3*(i2:Int)+3)=3*(i2:Int)+3:=wrap_i64 (by omega) (by omega)
    have Bp:IntKind.i64.wrap (1+aV r.ss[i2].c (dB r.ss[i2].b).lv)=my r i2:=by rw[wrap_i64 (by omega) (by omega)];exact jw.symm
    have fT:IntKind.i64.wrap (el r (nR r)+20)=el r (nR r)+20:=wrap_i64 (by omega) (by omega)
    have sv:IntKind.i64.wrap (jO r i2+aV r.ss[i2].e 30)=jO r i2+aV r.ss[i2].e 30:=wrap_i64 (by omega) (by omega)
    have uP:=zI r i2
    have aa:=Gl r (s:=i2) (by omega)
    have ph:(kg r (nT r)).length=(bV (eI r (c0 r i2)) 900).ts.length:=by
     show _=(bp _ _ _).length
     rw[oA]
     show ((List.range (nT r)).map _).length=((List.range (nT r)).map _).length
     rw[List.length_map,List.length_map]
    have eS:c0 r (i2+1)=c0 r i2++[⟨3*(i2:Int)+3,mw r i2 (c0 r i2),(dB r.ss[i2].b).id,my r i2,jO r i2,jO r i2+aV r.ss[i2].e 30,0⟩]:=by
     rw[c0]
     unfold rK
     rw[e6]
    have Jw:(⟨mps,eG r (nR r),gX r (nT r),c0 r i2⟩:Led)=eI r (c0 r i2):=rfl
    have JK:(⟨⟨mps,eG r (nR r),gX r (nT r),c0 r i2⟩,900,bp (eI r (c0 r i2)) 900 (gX r (nT r)).length,[]⟩:RV)=bV (eI r (c0 r i2)) 900:=rfl
    refine aF ?_
    repeat refine sq ?_
    refine aS ?_
    repeat refine sq ?_
    refine rx hΓ [1,2,4,5,6,15,16] [[1,0],[2,0],[4,0],[16,0],[77,0],[158,0],[163,0],[235,0]] (fun K' hK=>by simp only[go_sem,ah Jn,TS,ai,aj,List.length_map];exact ak) ?_
    repeat refine sq ?_
    refine dx hΓ hP [[],[0],[],[2],[2,3],u5,u6,[],u8] [1,2,4,5,6,15,16,17] [[1,0],[2,0],[4,0],[16,0],[17,0],[77,0],[158,0],[163,0],[235,0]] (by kernel_rfl) (fun K' hK=>by simp only[go_sem,Int.cast_ofNat_Int,Int.reduceToNat,Int.toNat_zero,Int.toNat_one,Nat.reduceMul,Nat.zero_mul,Nat.one_mul,List.getD_cons_succ,List.getD_cons_zero,B9,uU,o7,List.length_map];(repeat (refine⟨by first | exact an | exact⟨by decide,by decide⟩,?_⟩));exact i7) ?_
    repeat refine sq ?_
    refine dx hΓ hP [[],[0],[0,1],[],[3],[],[5],[],[7],[5,6,7,8],[5,6,7,8,9],[],[11],[],[13],[5,6,7,8,9,11,12,13,14],[],[16],[5,6,7,8,9,11,12,13,14,15,16,17],oz,[],tF] [1,2,4,5,6,15,16,18] [[1,0],[2,0],[4,0],[16,0],[18,0],[77,0],[158,0],[163,0],[235,0]] (by kernel_rfl) (fun K' hK=>by simp only[go_sem,Int.cast_ofNat_Int,Int.reduceToNat,Int.toNat_zero,Int.toNat_one,Nat.reduceMul,Nat.zero_mul,Nat.one_mul,List.getD_cons_succ,List.getD_cons_zero,uK,S2,Bp,fT,<-sw];(repeat (refine⟨by first | exact an | exact⟨by decide,by decide⟩ | exact⟨by omega,by omega⟩,?_⟩));exact i7) ?_
    repeat refine sq ?_
    refine rx hΓ [1,2,4,5,6,15,16,18,210] [[1,0],[2,0],[4,0],[16,0],[18,0],[77,0],[158,0],[163,0],[235,0]] (fun K' hK=>by simp only[go_sem,Int.cast_ofNat_Int,Int.reduceToNat,Int.toNat_zero,Int.toNat_one,Nat.reduceMul,Nat.zero_mul,Nat.one_mul,List.getD_cons_succ,List.getD_cons_zero];(repeat (refine⟨by first | exact an | exact⟨by decide,by decide⟩,?_⟩));exact dN) ?_
    repeat refine sq ?_
    refine aB (fun hb=>?_) fun hb=>?_
    ·repeat refine sq ?_
     have ep:mw r i2 (c0 r i2)=jh (bV (eI r (c0 r i2)) 900) ⟨(dB r.ss[i2].b).id,my r i2⟩ (kg r (nT r)) (jO r i2):=by unfold mw;rw[e6,if_pos hb]
     repeat refine sq ?_
     refine rx hΓ [1,2,4,5,6,15,16,18,19] [[1,0],[2,0],[4,0],[16,0],[18,0],[19,0],[77,0],[158,0],[163,0],[235,0]] (fun K' hK=>by simp only[go_sem,Jw];rw[N5 (ss:=c0 r i2) rfl aa rfl];simp only[go_sem,Jw];exact ak) ?_
     repeat refine sq ?_
     refine rx hΓ [1,2,4,5,6,15,16,18] [[1,0],[2,0],[4,0],[16,0],[18,0],[77,0],[158,0],[163,0],[235,0]] (fun K' hK=>by simp only[go_sem];(repeat (refine⟨by first | exact an | exact⟨OV aa 900,ph⟩,?_⟩));exact dN) ?_
     repeat refine sq ?_
     refine dx hΓ hP [[],[0],[],[2],[2,3],u5,u6,u7] [1,2,4,5,6,15,18] [[1,0],[2,0],[4,0],[18,0],[77,0],[158,0],[163,0],[235,0]] (by kernel_rfl) (fun K' hK=>by simp only[go_sem,Int.cast_ofNat_Int,Int.reduceToNat,Int.toNat_zero,Int.toNat_one,Nat.reduceMul,Nat.zero_mul,Nat.one_mul,List.getD_cons_succ,List.getD_cons_zero,sv];(repeat (refine⟨by first | exact an | exact⟨by decide,by decide⟩,?_⟩));exact i7) ?_
     repeat refine sq ?_
     refine bc hΓ fun K' hK=>?_
     simp only[go_sem]
     repeat (refine⟨an,?_⟩)
     refine hK _ ?_
     clear K' hK
     simp only[go_sem]
     refine kp [1,2,4,5,6,15] [[1,0],[2,0],[4,0],[77,0],[158,0],[163,0],[235,0]] ?_
     repeat refine sq ?_
     refine bc hΓ fun K' hK=>?_
     simp only[go_sem]
     repeat (refine⟨an,?_⟩)
     refine hK _ ?_
     clear K' hK
     simp only[go_sem]
     refine⟨i2+1,cT,by(show (nS r)-(i2+1)<(nS r)-i2;omega),?_⟩
     refine bu [1,2,4,5,6,15] [[1,0],[2,0],[4,0],[77,0],[158,0],[163,0],[235,0]] ?_ ?_<;>simp only[go_sem,bn cT eM,br,iJ,eS,ep,JK,List.map_append,List.length_append,List.map_cons,List.map_nil,List.length_cons,List.length_nil]
    ·repeat refine sq ?_
     have ep:mw r i2 (c0 r i2)=aV r.ss[i2].a 5:=by unfold mw;rw[e6,if_neg (by rw[hb];decide)]
     refine aF ?_
     repeat refine sq ?_
     refine dx hΓ hP [[],[0],[],[2],[2,3],u5,u6,u7] [1,2,4,5,6,15,18] [[1,0],[2,0],[4,0],[18,0],[77,0],[158,0],[163,0],[235,0]] (by kernel_rfl) (fun K' hK=>by simp only[go_sem,Int.cast_ofNat_Int,Int.reduceToNat,Int.toNat_zero,Int.toNat_one,Nat.reduceMul,Nat.zero_mul,Nat.one_mul,List.getD_cons_succ,List.getD_cons_zero,sv];(repeat (refine⟨by first | exact an | exact⟨by decide,by decide⟩,?_⟩));exact i7) ?_
     repeat refine sq ?_
     refine bc hΓ fun K' hK=>?_
     simp only[go_sem]
     repeat (refine⟨an,?_⟩)
     refine hK _ ?_
     clear K' hK
     simp only[go_sem]
     refine kp [1,2,4,5,6,15] [[1,0],[2,0],[4,0],[77,0],[158,0],[163,0],[235,0]] ?_
     repeat refine sq ?_
     refine bc hΓ fun K' hK=>?_
     simp only[go_sem]
     repeat (refine⟨an,?_⟩)
     refine hK _ ?_
     clear K' hK
     simp only[go_sem]
     refine⟨i2+1,cT,by(show (nS r)-(i2+1)<(nS r)-i2;omega),?_⟩
     refine bu [1,2,4,5,6,15] [[1,0],[2,0],[4,0],[77,0],[158,0],[163,0],[235,0]] ?_ ?_<;>simp only[go_sem,bn cT eM,br,iJ,eS,ep,JK,List.map_append,List.length_append,List.map_cons,List.map_nil,List.length_cons,List.length_nil]
   ·repeat refine sq ?_
    have nQ:i2=nS r:=by
     simp at hb
     have h:=hi
     unfold nS at h |-
     omega
    subst nQ
    refine bW ?_
    simp only[go_sem]
    refine kp [2,4,5] [[2,0],[4,0],[77,0],[158,0],[163,0],[235,0]] ?_
    repeat refine sq ?_
    refine rx hΓ [2,3] [[2,0],[77,0],[158,0],[163,0],[235,0]] (fun K' hK=>by simp only[go_sem];exact ak) ?_
    refine av ?_
    simp only[go_sem]
    first | rfl | trace_state
end
theorem Vy{α:Type}(p:α->Bool)(l:List α):l.find? p=if di p l<0 then none else l[(di p l).toNat]?:=by
 unfold di
 by_cases h:l.any p=true
 ·rw[if_pos h]
  have ab:l.findIdx p<l.length:=List.findIdx_lt_length_of_exists (by obtain⟨x,hx,hp⟩:=List.any_eq_true.1 h;exact⟨x,hx,hp⟩)
  rw[if_neg (by omega),Int.toNat_natCast,List.getElem?_eq_getElem ab]
  exact List.find?_eq_some_iff_getElem.2 ⟨List.findIdx_getElem (w:=ab),_,ab,rfl,fun j hj=>by simpa using List.not_of_lt_findIdx hj⟩
 ·rw[if_neg h,if_pos (by omega)]
  rw[List.find?_eq_none]
  intro x hx hp
  exact h (List.any_eq_true.2 ⟨x,hx,hp⟩)
theorem Fl(l:Led)(k so:Int):cV (bx l k) so=if cO l so k<0 then none else some (ay l (cO l so k).toNat):=by
 unfold cV bx
 rw[List.find?_filter]
 have e:(fun a:Rec=>decide (bJ a.kn a.un k=true/\(a.so==so)=true))=fun r=>r.so==so&&bJ r.kn r.un k:=by
  funext a
  cases bJ a.kn a.un k<;>cases (a.so==so)<;>rfl
 rw[e,Vy]
 show (if cO l so k<0 then none else l.rs[(cO l so k).toNat]?)=_
 rcases wv l so k with h | ⟨j,hj,h,-⟩
 ·rw[h];rfl
 ·rw[h,if_neg (by omega),if_neg (by omega),Int.toNat_natCast,fA hj,List.getElem?_eq_getElem hj]
theorem M9(l:Led)(k:Int){s j:Nat}(h:s<l.ts.length):(bp l k (s+1)).getD j false=if j=s then gh l k (bp l k s) s else(bp l k s).getD j false:=by
 rw[<-Ei l k h]
 by_cases hj:j=s
 ·subst hj
  rw[if_pos rfl,List.getD_eq_getElem?_getD,List.getElem?_set_self (by rw[oA];exact h)]
  rfl
 ·rw[if_neg hj,List.getD_eq_getElem?_getD,List.getElem?_set_ne (by omega),<-List.getD_eq_getElem?_getD]
theorem wh{l:Led}{k:Int}{s j:Nat}(h:(bp l k s).getD j false=true):j<s:=(tG l k h).1
structure zf (l:Led) (k:Int) (s:Nat):Prop where
 ts:∀ j:Nat,(bp l k s).getD j false=true↔(j:Int)∈(ax l k s).ts
 tn:(ax l k s).ts.Nodup
 tl:∀ j∈(ax l k s).ts,0<=j/\j<s
 bk1:∀ so f i,bD (ax l k s).bk (so,f)=some i->∃ j:Nat,i=j/\(bp l k s).getD j false=true/\(aG l j).re=so/\f∈(aG l j).lv
 bk2:∀ j:Nat,(bp l k s).getD j false=true->∀ f∈(aG l j).lv,bD (ax l k s).bk ((aG l j).re,f)=some (j:Int)
 ds:∀ j:Nat,(bp l k s).getD j false=true->bh (ax l k s).ds j=(cB (aG l j).lo ((kI (bx l k) (aG l j).re).da+1),(aG l j).hi)
theorem yk(d:Ds)(i j:Int)(v:Int×Int):bh (ma d i v) j=if i=j then v else bh d j:=by
 induction d with
 |nil=>rfl
 |cons e r ih=>
  obtain⟨k,x⟩:=e
  simp only[ma]
  by_cases h:k=i
  ·rw[if_pos h]
   subst h
   simp only[bh]
   split<;>rfl
  ·rw[if_neg h]
   simp only[bh,ih]
   by_cases h2:k=j
   ·subst h2
    rw[if_pos rfl,if_pos rfl,if_neg (fun e=>h e.symm)]
   ·rw[if_neg h2,if_neg h2]
theorem Xz{l:Led}{k:Int}{s:Nat}(h:zf l k s)(x:Ret)(f:Int):(bD (ax l k s).bk (x.re,f)).isSome=!kr (ly l (bp l k s) x f) s:=by
 cases hb:bD (ax l k s).bk (x.re,f)with
 |none=>
  have :kr (ly l (bp l k s) x f) s=true:=by
   unfold kr
   rw[List.all_eq_true]
   intro j _
   unfold ly
   cases hj:((bp l k s).getD j false&&(aG l j).re==x.re&&(aG l j).lv.contains f)with
   |false=>rfl
   |true=>
    simp only[Bool.and_eq_true,beq_iff_eq,List.contains_iff_mem]at hj
    have :=h.bk2 j hj.1.1 f hj.2
    rw[hj.1.2,hb]at this
    cases this
  rw[this];rfl
 |some i=>
  obtain⟨j,rfl,h1,h2,h3⟩:=h.bk1 _ _ _ hb
  have :kr (ly l (bp l k s) x f) s=false:=by
   unfold kr
   rw[List.all_eq_false]
   refine⟨j,List.mem_range.2 (wh h1),?_⟩
   unfold ly
   rw[h1,h2]
   simp[h3]
  rw[this];rfl
theorem PX{l:Led}{k:Int}{s:Nat}(h:zf l k s):gD k (bx l k) (ax l k s).bk (aG l s)=if gh l k (bp l k s) s=true then some (ay l (cO l (aG l s).re k).toNat)else none:=by
 unfold gD gh
 rw[Fl]
 by_cases hx:cO l (aG l s).re k<0
 ·rw[if_pos hx,if_pos hx];rfl
 ·rw[if_neg hx,if_neg hx]
  have IP:(ay l (cO l (aG l s).re k).toNat).so=(aG l s).re:=by
   rcases wv l (aG l s).re k with h | ⟨j,hj,h,hr⟩
   ·rw[h]at hx;exact absurd (by decide) hx
   ·rw[h,Int.toNat_natCast,fA hj]
    unfold kN at hr
    simp only[Bool.and_eq_true,beq_iff_eq]at hr
    exact hr.1
  have i6:((aG l s).lv.any fun f=>(bD (ax l k s).bk ((ay l (cO l (aG l s).re k).toNat).so,f)).isSome||!(ay l (cO l (aG l s).re k).toNat).lv.contains f)=!(aG l s).lv.all (mE l (bp l k s) s (ay l (cO l (aG l s).re k).toNat) (aG l s)):=by
   rw[IP,List.not_all_eq_any_not]
   congr 1
   funext f
   rw[Xz h]
   unfold mE
   rw[Bool.not_and,Bool.or_comm]
  show (if (bJ (aG l s).kn (aG l s).un k&&!(decide (cB (aG l s).lo ((ay l (cO l (aG l s).re k).toNat).da+1)>(aG l s).hi)||(aG l s).lv.any fun f=>(bD (ax l k s).bk ((ay l (cO l (aG l s).re k).toNat).so,f)).isSome||!(ay l (cO l (aG l s).re k).toNat).lv.contains f))=true then _ else _)=_
  rw[i6]
  unfold l'
  cases bJ (aG l s).kn (aG l s).un k<;>cases decide (cB (aG l s).lo ((ay l (cO l (aG l s).re k).toNat).da+1)>(aG l s).hi)<;>cases (aG l s).lv.all (mE l (bp l k s) s (ay l (cO l (aG l s).re k).toNat) (aG l s))<;>rfl
theorem Ej(l:Led)(k:Int):∀ s,s<=l.ts.length->zf l k s
 | 0,_=>by
   have hf:∀ j,¬ (bp l k 0).getD j false=true:=fun j h=>absurd (wh h) (Nat.not_lt_zero j)
   exact⟨fun j=>⟨fun h=>(hf j h).elim,fun h=>(nomatch h)⟩,List.nodup_nil,fun j h=>(nomatch h),fun so f i h=>(nomatch h),fun j h=>(hf j h).elim,fun j h=>(hf j h).elim⟩
 |s+1,hs=>by
  have ih:=Ej l k s (by omega)
  have hn:=PX ih
  have cH:=fun j=>M9 l k (s:=s) (j:=j) (by omega)
  by_cases hb:gh l k (bp l k s) s=true
  ·rw[if_pos hb]at hn
   have e:=AV hn
   obtain⟨qo,-,-,qi⟩:=Gd hn
   obtain⟨IQ,bY⟩:=fC qo
   have lS:kI (bx l k) (aG l s).re=ay l (cO l (aG l s).re k).toNat:=by unfold kI;rw[qo];rfl
   generalize ay l (cO l (aG l s).re k).toNat=r at *
   have fJ:∀ f∈(aG l s).lv,bD (ax l k s).bk (r.so,f)=none:=fun f hf=>by
    have :=List.any_eq_false.1 qi f hf
    unfold gz at this
    simp only[Bool.or_eq_true,not_or,Option.isSome_iff_ne_none,ne_eq,Decidable.not_not]at this
    exact this.1
   rw[hb]at cH
   have qh:∀ j:Nat,(bp l k (s+1)).getD j false=true↔(j:Int)∈(ax l k (s+1)).ts:=fun j=>by
    rw[cH,e]
    show _↔(j:Int)∈(ax l k s).ts++[(s:Int)]
    rw[List.mem_append,List.mem_singleton]
    by_cases hj:j=s
    ·subst hj;simp
    ·rw[if_neg hj,ih.ts j]
     constructor
     ·exact .inl
     ·rintro(h | h)
      ·exact h
      ·exact(hj (by omega)).elim
   refine⟨qh,?_,?_,?_,?_,?_⟩
   ·rw[e]
    refine List.nodup_append.2 ⟨ih.tn,by simp,fun a ha b cX pk=>?_⟩
    have :=ih.tl a ha
    simp only[List.mem_singleton]at cX
    omega
   ·intro j hj
    rw[e]at hj
    rcases List.mem_append.1 hj with hj | hj
    ·have:=ih.tl j hj;omega
    ·simp only[List.mem_singleton]at hj;omega
   ·intro so f i h
    rw[e]at h
    simp only[Dk]at h
    split at h
    ·rename_i hc
     cases h
     refine⟨s,rfl,by rw[cH,if_pos rfl],?_,hc.2⟩
     rw[<-bY];exact hc.1.symm
    ·obtain⟨j,rfl,h1,h2,h3⟩:=ih.bk1 so f i h
     have :=wh h1
     exact⟨j,rfl,by rw[cH,if_neg (by omega)];exact h1,h2,h3⟩
   ·intro j h1 f hf
    rw[cH]at h1
    rw[e]
    simp only[Dk]
    by_cases hj:j=s
    ·subst hj
     rw[if_pos ⟨bY.symm,hf⟩]
    ·rw[if_neg hj]at h1
     have h4:=ih.bk2 j h1 f hf
     rw[if_neg,h4]
     rintro⟨h5,h6⟩
     have :=fJ f h6
     rw[<-h5,h4]at this
     cases this
   ·intro j h1
    rw[cH]at h1
    rw[e]
    show bh (ma (ax l k s).ds s (cB (aG l s).lo (r.da+1),(aG l s).hi)) j=_
    rw[yk]
    by_cases hj:j=s
    ·subst hj
     rw[if_pos rfl,lS]
    ·rw[if_neg hj]at h1
     rw[if_neg (by omega)]
     exact ih.ds j h1
  ·rw[if_neg hb]at hn
   have e:=uo hn
   have e2:bp l k (s+1)=bp l k s:=wg l k (by simpa using hb)
   exact⟨by rw[e,e2];exact ih.ts,by rw[e];exact ih.tn,fun j hj=>by rw[e]at hj;have:=ih.tl j hj;omega,by rw[e,e2];exact ih.bk1,by rw[e,e2];exact ih.bk2,by rw[e,e2];exact ih.ds⟩
theorem rH(l:Led)(k:Int):zf l k l.ts.length:=Ej l k _ (Nat.le_refl _)
theorem EW(l:Led)(k:Int)(i:Nat)(f:Int):jn (bV l k) i f=(bD (aW l k).bk ((ay l i).so,f)).getD (-1):=by
 have hi:=rH l k
 show _=(bD (ax l k l.ts.length).bk ((ay l i).so,f)).getD (-1)
 cases hb:bD (ax l k l.ts.length).bk ((ay l i).so,f)with
 |none=>
  refine EZ fun m _ hm=>?_
  show iH (bV l k) (ay l i).so f m=false
  rw[Bool.eq_false_iff]
  intro h
  unfold iH at h
  simp only[Bool.and_eq_true,beq_iff_eq,List.contains_iff_mem]at h
  have h1:(bp l k l.ts.length).getD m false=true:=h.1.1
  have :=hi.bk2 m h1 f h.2
  have h2:(aG l m).re=(ay l i).so:=h.1.2
  rw[h2,hb]at this
  cases this
 |some q=>
  obtain⟨j,rfl,h1,h2,h3⟩:=hi.bk1 _ _ _ hb
  refine E0 (j:=j) ?_ ?_ ?_
  ·show j<(bp l k l.ts.length).length
   rw[oA];exact wh h1
  ·show (((bp l k l.ts.length).getD j false&&(aG l j).re==(ay l i).so)&&(aG l j).lv.contains f)=true
   rw[h1,h2]
   simp[h3]
  ·intro m _ j7
   show iH (bV l k) (ay l i).so f m=false
   rw[Bool.eq_false_iff]
   intro h
   unfold iH at h
   simp only[Bool.and_eq_true,beq_iff_eq,List.contains_iff_mem]at h
   have h4:(bp l k l.ts.length).getD m false=true:=h.1.1
   have :=hi.bk2 m h4 f h.2
   have h5:(aG l m).re=(ay l i).so:=h.1.2
   rw[h5,hb]at this
   have :(j:Int)=m:=Option.some.inj this
   omega
def tX(v:Int×Int)(da:Int)(os:List Rec):Int×Int:=os.foldl (fun v o=>if o.da>da then(cB v.1 0,fE v.2 o.da)else v) v
def pb(h da:Int)(os:List Rec):Int:=os.foldl (fun h o=>if o.da>da then fE h o.da else h) h
theorem PT{v:Int×Int}{da:Int}(os:List Rec)(h:0<=v.1):tX v da os=(v.1,pb v.2 da os):=by
 induction os generalizing v with
 |nil=>rfl
 |cons o r ih=>
  show tX (if o.da>da then(cB v.1 0,fE v.2 o.da)else v) da r=(v.1,pb (if o.da>da then fE v.2 o.da else v.2) da r)
  by_cases hc:o.da>da
  ·rw[if_pos hc,if_pos hc]
   have :cB v.1 0=v.1:=by unfold cB;rw[if_neg (by omega)]
   rw[this]
   exact ih (v:=(v.1,fE v.2 o.da)) h
  ·rw[if_neg hc,if_neg hc,ih h]
theorem PV(d:Ds)(i da:Int)(os:List Rec)(j:Int):bh (jU d i da os) j=if i=j then tX (bh d i) da os else bh d j:=by
 induction os generalizing d with
 |nil=>
  show bh d j=if i=j then bh d i else bh d j
  split
  ·rename_i h;rw[h]
  ·rfl
 |cons o r ih=>
  show bh (jU (if o.da>da then nE d i ⟨0,o.da⟩else d) i da r) j=if i=j then tX (if o.da>da then(cB (bh d i).1 0,fE (bh d i).2 o.da)else bh d i) da r else bh d j
  rw[ih]
  by_cases hc:o.da>da
  ·rw[if_pos hc,if_pos hc]
   unfold nE
   rw[yk,if_pos rfl,yk]
   by_cases bL:i=j
   ·rw[if_pos bL,if_pos bL]
   ·rw[if_neg bL,if_neg bL,if_neg bL]
  ·rw[if_neg hc,if_neg hc]
theorem JY{ts:List Int}{m:Nat}(h:m<ts.length):ts.take (m+1)=ts.take m++[ts.getD m 0]:=by
 rw[List.take_add_one,List.getD_eq_getElem?_getD,List.getElem?_eq_getElem h];rfl
theorem Gu(l:Led)(rs:List Rec)(ts:List Int)(d:Ds)(hn:ts.Nodup):∀ m,m<=ts.length->∀ j,bh (gH l rs ts d m) j=
 if j∈ts.take m then tX (bh d j) (kI rs (aG l j.toNat).re).da (dk rs (kI rs (aG l j.toNat).re).pa (aG l j.toNat).lv)else bh d j
 | 0,_,j=>by rw[if_neg (by simp)];rfl
 |m+1,hm,j=>by
  have ih:=Gu l rs ts d hn m (by omega)
  rw[gH,PV,JY (by omega)]
  have xC:ts.getD m 0∉ts.take m:=by
   have h1:(ts.take (m+1)).Nodup:=hn.sublist (List.take_sublist _ _)
   rw[JY (by omega)]at h1
   have :=(List.nodup_append.1 h1).2.2
   exact fun h=>this _ h _ (List.mem_singleton.2 rfl) rfl
  by_cases hj:ts.getD m 0=j
  ·subst hj
   rw[if_pos rfl,ih,if_neg xC,if_pos (by simp)]
  ·rw[if_neg hj,ih]
   have e:(j∈ts.take m++[ts.getD m 0])↔j∈ts.take m:=by
    rw[List.mem_append,List.mem_singleton]
    exact⟨fun h=>h.elim id fun h=>(hj h.symm).elim,.inl⟩
   simp only[e]
theorem Qf(a b:Int):fE (fE a b) b=fE a b:=by
 unfold fE
 by_cases h:b<a
 ·rw[if_pos h,if_neg (by omega)]
 ·rw[if_neg h,if_neg h]
theorem LW{α:Type}(c:Bool)(p:α->Bool)(l:List α):(l.any fun n=>c&&p n)=(c&&l.any p):=by cases c<;>simp
theorem Li(x:RV)(r:Rec)(lv:List Int)(i:Nat)(hi:Int):∀ m,vB x r lv i hi m=if (List.range m).any (ue x r lv i)=true then fE hi (ay x.l i).da else hi
 | 0=>rfl
 |m+1=>by
  rw[vB,Li x r lv i hi m,List.range_succ,List.any_append]
  by_cases h1:(List.range m).any (ue x r lv i)=true
  ·rw[h1,if_pos rfl,Bool.true_or,if_pos rfl,Qf]
   split<;>rfl
  ·rw[if_neg h1]
   have eB:(List.range m).any (ue x r lv i)=false:=by simpa using h1
   rw[eB]
   simp only[List.any_cons,List.any_nil,Bool.or_false,Bool.false_or]
theorem Xu{α:Type}(p:α->Bool)(lv:List α)(d:α):((List.range lv.length).any fun j=>p (lv.getD j d))=lv.any p:=by
 rw[Bool.eq_iff_iff,List.any_eq_true,List.any_eq_true]
 constructor
 ·rintro⟨j,hj,hp⟩
  have fK:j<lv.length:=by simpa using hj
  rw[dt fK]at hp
  exact⟨_,List.getElem_mem fK,hp⟩
 ·rintro⟨a,ha,hp⟩
  obtain⟨j,hj,rfl⟩:=List.getElem_of_mem ha
  exact⟨j,by simpa using hj,by rw[dt hj];exact hp⟩
def uZ(k:Int)(r:Rec)(lv:List Int)(o:Rec):Bool:=decide (o.da>r.da)&&(bJ o.kn o.un k&&gl r.pa lv o)
theorem LS(a b:List Int):(a.any fun n=>b.contains n)=b.any fun n=>a.contains n:=by
 rw[Bool.eq_iff_iff,List.any_eq_true,List.any_eq_true]
 constructor<;>(rintro⟨n,h1,h2⟩;exact⟨n,List.contains_iff_mem.1 h2,List.contains_iff_mem.2 h1⟩)
theorem P7(x:RV)(r:Rec)(lv:List Int)(i:Nat):(List.range lv.length).any (ue x r lv i)=uZ x.k r lv (ay x.l i):=by
 have :=Xu (fun n=>decide ((ay x.l i).da>r.da)&&gC x.k ⟨r.pa,n⟩ (ay x.l i)) lv 0
 refine this.trans ?_
 unfold uZ gl
 rw[LW,LS]
 congr 1
 show (lv.any fun n=>(bJ (ay x.l i).kn (ay x.l i).un x.k&&(ay x.l i).pa==r.pa)&&(ay x.l i).lv.contains n)=_
 rw[LW,Bool.and_assoc]
theorem Lh(x:RV)(r:Rec)(t:Ret):∀ m,m<=x.l.rs.length->ra x r t m=(x.l.rs.take m).foldl (fun h o=>if uZ x.k r t.lv o=true then fE h o.da else h) t.hi
 | 0,_=>rfl
 |m+1,hm=>by
  rw[ra,Li,P7,Lh x r t m (by omega),List.take_add_one,List.getElem?_eq_getElem (by omega),List.foldl_append,fA (by omega)]
  rfl
theorem Lg(l:Led)(k:Int)(r:Rec)(t:Ret):ra (bV l k) r t l.rs.length=pb t.hi r.da (dk (bx l k) r.pa t.lv):=by
 have h:=Lh (bV l k) r t l.rs.length (Nat.le_refl _)
 refine h.trans ?_
 show (l.rs.take l.rs.length).foldl _ _=_
 rw[List.take_length]
 unfold pb dk bx
 rw[List.foldl_filter,List.foldl_filter]
 congr 1
 funext h o
 show (if uZ k r t.lv o=true then fE h o.da else h)=_
 unfold uZ
 by_cases h1:bJ o.kn o.un k=true
 ·rw[if_pos h1]
  by_cases h2:gl r.pa t.lv o=true
  ·rw[if_pos h2,h1,h2];simp
  ·rw[if_neg h2];simp[h2]
 ·rw[if_neg h1];simp[h1]
theorem Eh{l:Led}{k:Int}{row:List Bool}{i:Nat}(h:gh l k row i=true):∃ q,∃ hq:q<l.rs.length,cO l (aG l i).re k=(q:Int)/\kN (aG l i).re k l.rs[q]=true:=by
 rcases wv l (aG l i).re k with h2 | ⟨q,hq,h2,h3⟩
 ·exact absurd (by rw[h2];decide) (Ek h)
 ·exact⟨q,hq,h2,h3⟩
theorem WW{l:Led}(aa:bN l)(k:Int){j:Nat}(h:(bp l k l.ts.length).getD j false=true):Df (bV l k) j=⟨(bh (aW l k).ds j).1,(bh (aW l k).ds j).2⟩:=by
 have hi:=rH l k
 obtain⟨eN,iQ⟩:=tG l k h
 obtain⟨q,hq,hx,hr⟩:=Eh iQ
 have qo:kI (bx l k) (aG l j).re=ay l q:=by
  unfold kI
  rw[Fl,hx,if_neg (by omega),Int.toNat_natCast];rfl
 have Cf:0<=(ay l q).da:=by rw[fA hq];exact(As aa (List.getElem_mem hq)).1
 have h1:bh (aW l k).ds j=(cB (aG l j).lo ((ay l q).da+1),pb (aG l j).hi (ay l q).da (dk (bx l k) (ay l q).pa (aG l j).lv)):=by
  show bh (gH l (bx l k) (ax l k l.ts.length).ts (ax l k l.ts.length).ds (ax l k l.ts.length).ts.length) j=_
  rw[Gu _ _ _ _ hi.tn _ (Nat.le_refl _),List.take_length,if_pos ((hi.ts j).1 h),hi.ds j h,Int.toNat_natCast,qo]
  exact PT _ (by show 0<=cB _ _;unfold cB;split<;>omega)
 rw[h1]
 unfold Df
 rw[if_pos (show (bV l k).ts.getD j false=true from h)]
 show (⟨l' (aG l j) (ay l (cO l (aG l j).re k).toNat),ra (bV l k) (ay l (cO l (aG l j).re k).toNat) (aG l j) l.rs.length⟩:Rg)=_
 rw[hx,Int.toNat_natCast,Lg]
 rfl
theorem F3{k:Int}{r:Rec}{f:Int}(hc:bJ r.kn r.un k=true)(hf:f∈r.lv):gC k ⟨r.pa,f⟩ r=true:=by
 unfold gC;simp[hc,hf]
theorem KC{l:Led}{k:Int}{i j:Nat}(hi:bJ (ay l i).kn (ay l i).un k=true)(hj:bJ (ay l j).kn (ay l j).un k=true):ki (bV l k) i j=sX (aW l k) (ay l i) (ay l j):=by
 unfold ki sX
 show (ay l i).lv.any _=_
 rw[Bool.eq_iff_iff,List.any_eq_true,List.any_eq_true]
 have hb:∀ f∈(ay l i).lv,vx (bV l k) i j f=(((ay l i).pa==(ay l j).pa&&(ay l j).lv.contains f)&&((ay l i).da==(ay l j).da||match bD (aW l k).bk ((ay l i).so,f)with
  |none=>true
  |some q=>decide (cB (aG (aW l k).l q.toNat).lo ((ay l i).da+1)>(ay l j).da))):=fun f hf=>by
  unfold vx
  rw[EW]
  show ((gC k ⟨(ay l i).pa,f⟩ (ay l i)&&gC k ⟨(ay l i).pa,f⟩ (ay l j))&&(((ay l i).da==(ay l j).da||decide ((bD (aW l k).bk ((ay l i).so,f)).getD (-1)<0))||decide (l' (aG l ((bD (aW l k).bk ((ay l i).so,f)).getD (-1)).toNat) (ay l i)>(ay l j).da)))=_
  rw[F3 hi hf]
  have h2:gC k ⟨(ay l i).pa,f⟩ (ay l j)=((ay l i).pa==(ay l j).pa&&(ay l j).lv.contains f):=by
   unfold gC
   rw[hj,Bool.true_and]
   congr 1
   rw[Bool.eq_iff_iff,beq_iff_eq,beq_iff_eq]
   exact eq_comm
  rw[h2,Bool.true_and]
  congr 1
  cases bX:bD (aW l k).bk ((ay l i).so,f)with
  |none=>simp
  |some q=>
   have hq:0<=q:=by
    obtain⟨m,rfl,-⟩:=(rH l k).bk1 _ _ _ bX
    omega
   have hl:(aW l k).l=l:=(oQ l k l.ts.length).1
   simp only[Option.getD_some,hl,l']
   have :decide (q<0)=false:=by simpa using hq
   rw[this,Bool.or_false]
   rfl
 constructor
 ·rintro⟨f,hf,h⟩;exact⟨f,hf,(hb f hf).symm.trans h⟩
 ·rintro⟨f,hf,h⟩;exact⟨f,hf,(hb f hf).trans h⟩
theorem KE(l:Led)(k:Int)(a m:Nat):gQ (bV l k) a m=if (ay l a).da>(ay l m).da then ki (bV l k) m a else ki (bV l k) a m:=rfl
theorem V4{l:Led}{k:Int}{i j:Nat}(hi:bJ (ay l i).kn (ay l i).un k=true)(hj:bJ (ay l j).kn (ay l j).un k=true):gQ (bV l k) i j=fZ (aW l k) (ay l i) (ay l j):=by
 unfold gQ fZ
 show (if (ay l i).da>(ay l j).da then ki (bV l k) j i else ki (bV l k) i j)=_
 rw[KC hi hj,KC hj hi]
theorem KD{l:Led}{k:Int}{i j:Nat}(h:ki (bV l k) i j=true):bJ (ay l i).kn (ay l i).un k=true/\bJ (ay l j).kn (ay l j).un k=true:=by
 unfold ki at h
 obtain⟨f,-,h⟩:=List.any_eq_true.1 h
 unfold vx gC at h
 simp only[Bool.and_eq_true]at h
 exact⟨h.1.1.1.1,h.1.2.1.1⟩
theorem KF{l:Led}{k:Int}{i j:Nat}(h:gQ (bV l k) i j=true):bJ (ay l i).kn (ay l i).un k=true/\bJ (ay l j).kn (ay l j).un k=true:=by
 unfold gQ at h
 split at h
 ·exact(KD h).symm
 ·exact KD h
theorem KH(x:RV):jI x=none↔∀ a,a<x.l.rs.length->∀ m,a<m->m<x.l.rs.length->gQ x a m=false:=by
 refine⟨fun h a ha m h1 h2=>?_,KG⟩
 unfold jI at h
 rw[List.findSome?_eq_none_iff]at h
 have :=h a (List.mem_range.2 ha)
 unfold sZ at this
 rw[Option.map_eq_none_iff,List.find?_eq_none]at this
 have :=this m (List.mem_range.2 h2)
 simpa[h1]using this
def wj(l:Led)(k:Int)(j:Nat):Prop:=(bp l k l.ts.length).getD j false=true
def DY(l:Led)(k:Int)(D:Ds):Prop:=∀ j:Nat,wj l k j->(bh D j).1<=(bh D j).2
theorem Vv(l:Led)(k:Int)(D:Ds):sN (aW l k).ts D=true↔DY l k D:=by
 have hi:=rH l k
 unfold sN DY wj
 rw[List.all_eq_true]
 show (∀ i∈(ax l k l.ts.length).ts,_)↔_
 constructor
 ·intro h j hj
  have :=h j ((hi.ts j).1 hj)
  simpa using this
 ·intro h i hm
  have hb:=hi.tl i hm
  obtain⟨j,rfl⟩:∃ j:Nat,i=j:=⟨i.toNat,by omega⟩
  simpa using h j ((hi.ts j).2 hm)
theorem uh(l:Led)(k:Int):(aW l k).rs=bx l k:=(oQ l k l.ts.length).2
theorem TP(b h da:Int)(os:List Rec)(h1:b<=h)(h2:∀ o∈os,o.da>da->b<=o.da):b<=pb h da os:=by
 induction os generalizing h with
 |nil=>exact h1
 |cons o r ih=>
  show b<=pb (if o.da>da then fE h o.da else h) da r
  refine ih _ ?_ fun o' h'=>h2 o' (by simp[h'])
  split
  ·rename_i hc
   have :=h2 o (by simp) hc
   unfold fE
   split<;>omega
  ·exact h1
theorem VL{l:Led}(aa:bN l){k:Int}{j:Nat}(h:wj l k j):∃ q,∃ hq:q<l.rs.length,cO l (aG l j).re k=(q:Int)/\kN (aG l j).re k (ay l q)=true/\
 bh (aW l k).ds j=(l' (aG l j) (ay l q),pb (aG l j).hi (ay l q).da (dk (bx l k) (ay l q).pa (aG l j).lv)):=by
 obtain⟨eN,iQ⟩:=tG l k h
 obtain⟨q,hq,hx,hr⟩:=Eh iQ
 refine⟨q,hq,hx,by rw[fA hq];exact hr,?_⟩
 have e:=WW aa k h
 unfold Df at e
 rw[if_pos (show (bV l k).ts.getD j false=true from h)]at e
 have e':(⟨l' (aG l j) (ay l (cO l (aG l j).re k).toNat),ra (bV l k) (ay l (cO l (aG l j).re k).toNat) (aG l j) l.rs.length⟩:Rg)=⟨(bh (aW l k).ds j).1,(bh (aW l k).ds j).2⟩:=e
 rw[hx,Int.toNat_natCast,Lg]at e'
 injection e' with a b
 exact Prod.ext a.symm b.symm
theorem W7{l:Led}(aa:bN l){k:Int}(h0:jI (bV l k)=none):DY l k (aW l k).ds:=by
 intro j hj
 obtain⟨q,hq,hx,hr,hd⟩:=VL aa hj
 obtain⟨eN,iQ⟩:=tG l k hj
 rw[hd]
 unfold gh at iQ
 rw[if_neg (by rw[hx];omega),hx,Int.toNat_natCast]at iQ
 simp only[Bool.and_eq_true,Bool.not_eq_true',decide_eq_false_iff_not,List.all_eq_true]at iQ
 obtain⟨⟨-,adl⟩,o8⟩:=iQ
 refine TP _ _ _ _ (by omega) fun o ho Cf=>?_
 unfold dk bx at ho
 simp only[List.mem_filter]at ho
 obtain⟨⟨Tp,I4⟩,l3⟩:=ho
 obtain⟨m,hm,rfl⟩:=List.getElem_of_mem Tp
 rw[<-fA hm]at I4 l3 Cf |-
 unfold gl at l3
 rw[LS]at l3
 simp only[Bool.and_eq_true,List.any_eq_true,beq_iff_eq]at l3
 obtain⟨sx,f,Jq,T7⟩:=l3
 have xM:=o8 f Jq
 unfold mE at xM
 simp only[Bool.and_eq_true,List.contains_iff_mem]at xM
 unfold kN at hr
 simp only[Bool.and_eq_true,beq_iff_eq]at hr
 have aC:m≠q:=fun e=>by subst e;omega
 have ka:ki (bV l k) q m=false:=by
  rcases Nat.lt_or_gt_of_ne aC with ab | B8
  ·have:=(KH _).1 h0 m hm q ab hq
   rw[KE,if_pos (show (ay l m).da>(ay l q).da from Cf)]at this
   exact this
  ·have:=(KH _).1 h0 q hq m B8 hm
   rw[KE,if_neg (show ¬ (ay l q).da>(ay l m).da by omega)]at this
   exact this
 unfold ki at ka
 have h3:=List.any_eq_false.1 ka f xM.1
 unfold vx at h3
 have h4:jn (bV l k) q f=(j:Int):=by
  rw[EW]
  have :=(rH l k).bk2 j hj f Jq
  rw[<-hr.1]at this
  show (bD (ax l k l.ts.length).bk ((ay l q).so,f)).getD (-1)=_
  rw[this];rfl
 rw[h4]at h3
 have e1:gC (bV l k).k ⟨(ay (bV l k).l q).pa,f⟩ (ay (bV l k).l q)=true:=F3 hr.2 xM.1
 have e2:gC (bV l k).k ⟨(ay (bV l k).l q).pa,f⟩ (ay (bV l k).l m)=true:=by
  show gC k ⟨(ay l q).pa,f⟩ (ay l m)=true
  unfold gC
  simp[I4,sx,List.contains_iff_mem.1 T7]
 rw[e1,e2,Int.toNat_natCast]at h3
 simp only[Bool.true_and,Bool.or_eq_true,decide_eq_true_eq,not_or]at h3
 exact Int.not_lt.1 h3.2
noncomputable section
def YH:List (Nat×Spec):=[]
attribute [go_sem] YH
def YG:List (Nat×Spec):=[(71,DF)]
attribute [go_sem] YG
def YF:List (Nat×Spec):=[(73,zh)]
attribute [go_sem] YF
end
noncomputable section
def YE:List (Nat×Spec):=[]
attribute [go_sem] YE
end
noncomputable section
def mz(S:List Sig)(p:Sig->Sig->Bool)(i:Nat):Option (Sig×Sig):=((S.drop (i+1)).find? (p (S.getD i default))).map fun t=>(S.getD i default,t)
def rX(S:List Sig)(p:Sig->Sig->Bool):Option (Sig×Sig):=(List.range S.length).findSome? (mz S p)
theorem Ai{S:List Sig}{p:Sig->Sig->Bool}{i:Nat}(h:i<S.length)(hn:∀ k (hk:k<(S.drop (i+1)).length),p S[i] (S.drop (i+1))[k]=false):mz S p i=none:=by
 unfold mz
 have e:(S.drop (i+1)).find? (p S[i])=none:=List.find?_eq_none.2 fun y hy=>by
  obtain⟨k,hk,rfl⟩:=List.getElem_of_mem hy
  rw[hn k hk];decide
 rw[dt h,e]
 rfl
theorem FC{S:List Sig}{p:Sig->Sig->Bool}{i k:Nat}(h:i<S.length)(hk:k<(S.drop (i+1)).length)(hn:∀ j (hj:j<(S.drop (i+1)).length),j<k->p S[i] (S.drop (i+1))[j]=false)(hb:p S[i] (S.drop (i+1))[k]=true):
 mz S p i=some (S[i],(S.drop (i+1))[k]):=by
 unfold mz
 have e:(S.drop (i+1)).find? (p S[i])=some (S.drop (i+1))[k]:=List.find?_eq_some_iff_getElem.2 ⟨hb,k,hk,rfl,fun j hj=>by rw[hn j (by omega) hj];rfl⟩
 rw[dt h,e]
 rfl
theorem Fy{S:List Sig}{p:Sig->Sig->Bool}{i:Nat}{q:Sig×Sig}(h:i<S.length)(hn:∀ k,k<i->mz S p k=none)(hp:mz S p i=some q):rX S p=some q:=by
 unfold rX
 rw[List.findSome?_eq_some_iff]
 refine⟨List.range i,i,(List.range' (i+1) (S.length-(i+1))),?_,hp,fun a ha=>hn a (List.mem_range.1 ha)⟩
 rw[List.range_eq_range',List.range_eq_range']
 have :S.length=i+(1+(S.length-(i+1))):=by omega
 conv=>lhs;rw[this]
 rw[<-List.range'_append_1,<-List.range'_append_1,Nat.zero_add]
 rfl
theorem FB{S:List Sig}{p:Sig->Sig->Bool}(hn:∀ k,k<S.length->mz S p k=none):rX S p=none:=by
 unfold rX
 rw[List.findSome?_eq_none_iff]
 exact fun a ha=>hn a (List.mem_range.1 ha)
def om(l:Led)(k:Int)(s:Sig):Bool:=!cU (aW l k) [s]
def km(l:Led)(k:Int)(s t:Sig):Bool:=!cU (aW l k) [s,t]
def gq(l:Led)(k:Int):List Int:=match (aN l k).find? (om l k)with
 |some s=>[s.so]
 |none=>match rX (aN l k) (km l k)with
  |some q=>[q.1.so,q.2.so]
  |none=>[]
def gi(l:Led)(k:Int):Int:=if dE l [k]=0 then(if (fe (aW l k)).isSome=true then 25 else 0)else dE l [k]
def jd(l:Led)(k:Int):Int:=if gi l k=0 then(if gq l k=[]then 28 else 0)else gi l k
def mb(l:Led)(k:Int):List Int:=if gi l k=0 then gq l k else[]
theorem Vz{p:Sig->Bool}{l:List Sig}{i:Nat}(h:i<l.length)(hp:p l[i]=true)(hn:∀ j (hj:j<l.length),j<i->p l[j]=false):l.find? p=some l[i]:=
 List.find?_eq_some_iff_getElem.2 ⟨hp,i,h,rfl,fun j hj=>by rw[hn j (by omega) hj];rfl⟩
theorem Vx{p:Sig->Bool}{l:List Sig}(hn:∀ j (hj:j<l.length),j<l.length->p l[j]=false):l.find? p=none:=by
 rw[List.find?_eq_none]
 intro x hx
 obtain⟨j,hj,rfl⟩:=List.getElem_of_mem hx
 rw[hn j hj hj];decide
def K77:List (Nat×Spec):=[(75,mo),(121,S121),(122,S122),(123,Mo)]
theorem YD:KS K77:=tc zU.sound<|tc Be<|tc Bd<|tc EP.sound<|tn
attribute [go_sem] K77
@[go_sem] def P43:PSpec:=p2 iL iI (fun _ _=>True) (fun l k=>.tup [.sl ((mb l k).map vInt),vInt (jd l k)]) false
@[go_sem] def XY:Spec:=P43.toSpec
set_option maxHeartbeats 8000000 in
theorem Og:aT Tryz.prog 43 P43:=by
 refine ev (rs:=[.tmp 4,.tmp 5]) Tryz.func43 Tryz.ntmps43 fun l k hp hw=>?_
 simp only[iI,iL,fY]at hw |-
 have hΓ:=YD
 repeat refine sq ?_
 refine rx hΓ [1,2] [[2,0]] (fun K' hK=>by simp only[go_sem];exact ak) ?_
 refine dw (gg 2 (.ref [2,0] 0) (by simp only[go_sem]) (by simp only[go_sem]) [1,2] [[2,0]] ?_ rfl) ?_
 ·simp only[go_sem]
 simp only[go_sem]
 repeat refine sq ?_
 refine rx hΓ [1,2,6] [[2,0]] (fun K' hK=>by simp only[go_sem];exact ak) ?_
 repeat refine sq ?_
 refine rx hΓ [1,2,6,21] [[2,0]] (fun K' hK=>by simp only[go_sem];exact ak) ?_
 repeat refine sq ?_
 refine aB (fun hb=>?_) fun hb=>?_
 ·repeat refine sq ?_
  have hc:¬ dE l [k]=0:=by simpa using hb
  have h1:gi l k=dE l [k]:=by unfold gi;rw[if_neg hc]
  have e:jd l k=dE l [k]:=by unfold jd;rw[h1,if_neg hc]
  have e2:mb l k=[]:=by unfold mb;rw[h1,if_neg hc]
  repeat refine sq ?_
  refine rx hΓ [4,5] [] (fun K' hK=>by simp only[go_sem];exact ak) ?_
  refine av ?_
  simp only[go_sem]
  first | (rw[e,e2];done) | (rw[e,e2];rfl) | trace_state
 ·repeat refine sq ?_
  have hc:dE l [k]=0:=by simpa using hb
  obtain⟨aa,_⟩:=s4 hc
  refine aF ?_
  rcases bg:fe (aW l k)with _ | p
  ·have h1:gi l k=0:=by unfold gi;rw[if_pos hc,bg];rfl
   have e2:mb l k=gq l k:=by unfold mb;rw[if_pos h1]
   obtain⟨hv,b7⟩:=oO aa k
   obtain⟨j5,kP⟩:=zQ hv.ok k
   rw[p0]at j5 kP
   have uP:=aa.ssn
   have hl:(aN l k).length<=maxLen:=by unfold maxLen;omega
   repeat refine sq ?_
   refine rx hΓ [1,2,7,8] [[2,0],[26,0,11,0,25,0],[23,0,11,0,25,0],[24,0,11,0,25,0]] (fun K' hK=>by simp only[go_sem,bg,cq,cp];(repeat (refine⟨by first | exact an | exact aa,?_⟩));exact dN) ?_
   repeat refine sq ?_
   refine rx hΓ [1,2,7,8,29] [[2,0],[26,0,11,0,25,0],[23,0,11,0,25,0],[24,0,11,0,25,0]] (fun K' hK=>by simp only[go_sem,bg,cq,cp];exact ak) ?_
   repeat refine sq ?_
   refine aB (fun hb=>?_) fun hb=>?_
   ·cases hb
   ·repeat refine sq ?_
    refine aF ?_
    repeat refine sq ?_
    refine rx hΓ [1,2,9] [[2,0]] (fun K' hK=>by simp only[go_sem,bg,cq,cp,p0];(repeat (refine⟨by first | exact an | rw[p0];exact uP,?_⟩));exact dN) ?_
    repeat refine sq ?_
    refine rx hΓ [1,2,9,34,35,36] [[2,0]] (fun K' hK=>by simp only[go_sem,bg,cq,cp];exact ak) ?_
    repeat refine sq ?_
    refine aS ?_
    repeat refine sq ?_
    refine cM (fun s:Nat=>[(36,⟨true,.v (vInt s)⟩)]) (fun s=>[]) (fun s=>s<=(aN l k).length/\∀ j (hj:j<(aN l k).length),j<s->om l k (aN l k)[j]=false) (fun s=>(aN l k).length-s) 0 ?_ ?_ ?_ ?_
    ·exact⟨Nat.zero_le _,fun j _ h=>by omega⟩
    ·rfl
    ·rfl
    rintro i ⟨hi,hR⟩
    simp only[go_sem]
    repeat refine sq ?_
    refine rx hΓ [1,2,9,34,35,36,37] [[2,0]] (fun K' hK=>by simp only[go_sem,bg,cq,cp];exact ak) ?_
    repeat refine sq ?_
    refine aB (fun hb=>?_) fun hb=>?_
    ·have ab:i<(aN l k).length:=by simpa using hb
     have aq:(i:Int)<(aN l k).length:=by omega
     clear hb
     have hd:=kP (aN l k)[i] (List.getElem_mem ab)
     repeat refine sq ?_
     refine aF ?_
     repeat refine sq ?_
     refine aS ?_
     repeat refine sq ?_
     refine rx hΓ [1,2,9,11,34,35,36] [[2,0],[11,0]] (fun K' hK=>by simp only[go_sem,bg,cq,cp,ah ab,ai,aj,aq];exact ak) ?_
     repeat refine sq ?_
     refine rx hΓ [1,2,9,11,34,35,36,44] [[2,0],[11,0]] (fun K' hK=>by simp only[go_sem,bg,cq,cp,ah ab,ai,aj,aq];(repeat (refine⟨by first | exact an | exact⟨⟨aa,by simp⟩,fun s hs=>by simp only[List.mem_singleton]at hs;subst hs;exact hd⟩,?_⟩));exact dN) ?_
     repeat refine sq ?_
     refine aB (fun hb=>?_) fun hb=>?_
     ·repeat refine sq ?_
      have h2:om l k (aN l k)[i]=true:=hb
      have e3:gq l k=[(aN l k)[i].so]:=by unfold gq;rw[Vz ab h2 hR]
      have e:jd l k=0:=by unfold jd;rw[if_pos h1,if_neg (by rw[e3];simp)]
      rw[e3]at e2
      repeat refine sq ?_
      refine rx hΓ [4,5] [] (fun K' hK=>by simp only[go_sem,bg,cq,cp,ah ab,ai,aj,aq];exact ak) ?_
      refine av ?_
      simp only[go_sem]
      first | (rw[e,e2];done) | (rw[e,e2];rfl) | trace_state
     ·repeat refine sq ?_
      have h2:om l k (aN l k)[i]=false:=hb
      refine aF ?_
      refine b9 ?_
      simp only[go_sem]
      refine kp [1,2,9,34,35,36] [[2,0]] ?_
      repeat refine sq ?_
      refine bc hΓ fun K' hK=>?_
      simp only[go_sem,bg,cq,cp,ah ab,ai,aj,aq]
      repeat (refine⟨an,?_⟩)
      refine hK _ ?_
      clear K' hK
      simp only[go_sem]
      refine⟨i+1,⟨ab,?_⟩,by(show (aN l k).length-(i+1)<(aN l k).length-i;omega),?_⟩
      ·intro j hj eO
       rcases Nat.lt_succ_iff_lt_or_eq.1 eO with h5 | rfl
       ·exact hR j hj h5
       ·exact h2
      refine bu [1,2,9,34,35,36] [[2,0]] ?_ ?_<;>simp only[go_sem,bn ab hl,br]
    ·have bF:i=(aN l k).length:=by
      have :¬ (i:Int)<(aN l k).length:=by simpa using hb
      omega
     clear hb
     subst bF
     have f1:=Vx hR
     repeat refine sq ?_
     refine bW ?_
     simp only[go_sem]
     refine kp [1,2,9] [[2,0]] ?_
     repeat refine sq ?_
     refine rx hΓ [1,2,9,49,50,51] [[2,0]] (fun K' hK=>by simp only[go_sem,bg,cq,cp];exact ak) ?_
     repeat refine sq ?_
     refine aS ?_
     repeat refine sq ?_
     refine cM (fun s:Nat=>[(51,⟨true,.v (vInt s)⟩)]) (fun s=>[]) (fun s=>s<=(aN l k).length/\∀ a,a<s->mz (aN l k) (km l k) a=none) (fun s=>(aN l k).length-s) 0 ?_ ?_ ?_ ?_
     ·exact⟨Nat.zero_le _,fun a h=>by omega⟩
     ·rfl
     ·rfl
     rintro i1 ⟨hi,hR⟩
     simp only[go_sem]
     repeat refine sq ?_
     refine rx hΓ [1,2,9,49,50,51,52] [[2,0]] (fun K' hK=>by simp only[go_sem,bg,cq,cp];exact ak) ?_
     repeat refine sq ?_
     refine aB (fun hb=>?_) fun hb=>?_
     ·have aI:i1<(aN l k).length:=by simpa using hb
      have bj:(i1:Int)<(aN l k).length:=by omega
      clear hb
      have hd:=kP (aN l k)[i1] (List.getElem_mem aI)
      have qe:IntKind.i64.wrap ((i1:Int)+1)=((i1+1:Nat):Int):=bn aI hl
      have ph:(aN l k).length-(i1+1)<=maxLen:=by omega
      have qi:List.take ((aN l k).length-(i1+1)) (((aN l k).drop (i1+1)).map encS)=((aN l k).drop (i1+1)).map encS:=List.take_of_length_le (by simp)
      repeat refine sq ?_
      refine aF ?_
      repeat refine sq ?_
      refine aS ?_
      repeat refine sq ?_
      refine rx hΓ [1,2,9,12,13,49,50,51] [[2,0],[13,0]] (fun K' hK=>by simp only[go_sem,bg,cq,cp,ah aI,ai,aj,bj];exact ak) ?_
      repeat refine sq ?_
      refine rx hΓ [1,2,9,13,49,50,51,59,60,61] [[2,0],[13,0]] (fun K' hK=>by simp only[go_sem,bg,cq,cp,ah aI,ai,aj,bj,qe,<-List.map_drop,qi];(repeat (refine⟨by first | exact an | exact⟨by omega,Int.le_refl _,fun y hy=>(Aq _ y hy).1⟩,?_⟩));exact dN) ?_
      repeat refine sq ?_
      refine aS ?_
      repeat refine sq ?_
      refine cM (fun s:Nat=>[(61,⟨true,.v (vInt s)⟩)]) (fun s=>[]) (fun s=>s<=((aN l k).drop (i1+1)).length/\∀ j (hj:j<((aN l k).drop (i1+1)).length),j<s->km l k (aN l k)[i1] ((aN l k).drop (i1+1))[j]=false) (fun s=>((aN l k).drop (i1+1)).length-s) 0 ?_ ?_ ?_ ?_
      ·exact⟨Nat.zero_le _,fun j _ h=>by omega⟩
      ·rfl
      ·rfl
      rintro i2 ⟨hi,hR⟩
      simp only[go_sem]
      repeat refine sq ?_
      refine rx hΓ [1,2,9,13,49,50,51,59,60,61,62] [[2,0],[13,0]] (fun K' hK=>by simp only[go_sem,bg,cq,cp,ah aI,ai,aj,bj];exact ak) ?_
      repeat refine sq ?_
      refine aB (fun hb=>?_) fun hb=>?_
      ·have cT:i2<((aN l k).drop (i1+1)).length:=by simpa using hb
       have jz:(i2:Int)<((aN l k).drop (i1+1)).length:=by omega
       clear hb
       have ka:=kP ((aN l k).drop (i1+1))[i2] (List.mem_of_mem_drop (List.getElem_mem cT))
       repeat refine sq ?_
       refine aF ?_
       repeat refine sq ?_
       refine aS ?_
       repeat refine sq ?_
       refine rx hΓ [1,2,9,13,15,49,50,51,59,60,61] [[2,0],[13,0],[15,0]] (fun K' hK=>by simp only[go_sem,bg,cq,cp,ah aI,ai,aj,bj,ah cT,ai,aj,jz];exact ak) ?_
       repeat refine sq ?_
       refine rx hΓ [1,2,9,13,15,49,50,51,59,60,61,70] [[2,0],[13,0],[15,0]] (fun K' hK=>by simp only[go_sem,bg,cq,cp,ah aI,ai,aj,bj,ah cT,ai,aj,jz];(repeat (refine⟨by first | exact an | exact⟨⟨aa,by simp⟩,fun s hs=>by simp only[List.mem_cons,List.not_mem_nil,or_false]at hs;rcases hs with rfl | rfl; · exact hd; · exact ka⟩,?_⟩));exact dN) ?_
       repeat refine sq ?_
       refine aB (fun hb=>?_) fun hb=>?_
       ·repeat refine sq ?_
        have h2:km l k (aN l k)[i1] ((aN l k).drop (i1+1))[i2]=true:=hb
        have e3:gq l k=[(aN l k)[i1].so,((aN l k).drop (i1+1))[i2].so]:=by
         unfold gq;rw[f1];simp only[]
         rw[Fy aI (by assumption) (FC aI cT hR h2)]
        have e:jd l k=0:=by unfold jd;rw[if_pos h1,if_neg (by rw[e3];simp)]
        rw[e3]at e2
        repeat refine sq ?_
        refine rx hΓ [4,5] [] (fun K' hK=>by simp only[go_sem,bg,cq,cp,ah aI,ai,aj,bj,ah cT,ai,aj,jz];exact ak) ?_
        refine av ?_
        simp only[go_sem]
        first | (rw[e,e2];done) | (rw[e,e2];rfl) | trace_state
       ·repeat refine sq ?_
        have h2:km l k (aN l k)[i1] ((aN l k).drop (i1+1))[i2]=false:=hb
        refine aF ?_
        refine b9 ?_
        simp only[go_sem]
        refine kp [1,2,9,13,49,50,51,59,60,61] [[2,0],[13,0]] ?_
        repeat refine sq ?_
        refine bc hΓ fun K' hK=>?_
        simp only[go_sem,bg,cq,cp,ah aI,ai,aj,bj,ah cT,ai,aj,jz]
        repeat (refine⟨an,?_⟩)
        refine hK _ ?_
        clear K' hK
        simp only[go_sem]
        refine⟨i2+1,⟨cT,?_⟩,by(show ((aN l k).drop (i1+1)).length-(i2+1)<((aN l k).drop (i1+1)).length-i2;omega),?_⟩
        ·intro j hj eO
         rcases Nat.lt_succ_iff_lt_or_eq.1 eO with h5 | rfl
         ·exact hR j hj h5
         ·exact h2
        refine bu [1,2,9,13,49,50,51,59,60,61] [[2,0],[13,0]] ?_ ?_<;>simp only[go_sem,bn cT (by rw[List.length_drop];omega:((aN l k).drop (i1+1)).length<=maxLen),br]
      ·have nQ:i2=((aN l k).drop (i1+1)).length:=by
        have :¬ (i2:Int)<((aN l k).drop (i1+1)).length:=by simpa using hb
        omega
       clear hb
       subst nQ
       repeat refine sq ?_
       refine bW ?_
       simp only[go_sem]
       refine kp [1,2,9,49,50,51] [[2,0]] ?_
       repeat refine sq ?_
       refine bc hΓ fun K' hK=>?_
       simp only[go_sem,bg,cq,cp,ah aI,ai,aj,bj]
       repeat (refine⟨an,?_⟩)
       refine hK _ ?_
       clear K' hK
       simp only[go_sem]
       refine⟨i1+1,⟨aI,?_⟩,by(show (aN l k).length-(i1+1)<(aN l k).length-i1;omega),?_⟩
       ·intro a ha
        rcases Nat.lt_succ_iff_lt_or_eq.1 ha with h5 | rfl
        ·exact(by assumption:∀ a,a<i1->mz (aN l k) (km l k) a=none) a h5
        ·exact Ai aI fun j hj=>hR j hj hj
       refine bu [1,2,9,49,50,51] [[2,0]] ?_ ?_<;>simp only[go_sem,bn aI hl,br]
     ·have iY:i1=(aN l k).length:=by
       have :¬ (i1:Int)<(aN l k).length:=by simpa using hb
       omega
      clear hb
      subst iY
      have e3:gq l k=[]:=by unfold gq;rw[f1];simp only[];rw[FB hR]
      have e:jd l k=28:=by unfold jd;rw[if_pos h1,if_pos e3]
      rw[e3]at e2
      repeat refine sq ?_
      refine bW ?_
      simp only[go_sem]
      refine kp [] [] ?_
      repeat refine sq ?_
      refine rx hΓ [4,5] [] (fun K' hK=>by simp only[go_sem,bg,cq,cp];exact ak) ?_
      refine av ?_
      simp only[go_sem]
      first | (rw[e,e2];done) | (rw[e,e2];rfl) | trace_state
  ·have h1:gi l k=25:=by unfold gi;rw[if_pos hc,bg];rfl
   have e:jd l k=25:=by unfold jd;rw[h1];rfl
   have e2:mb l k=[]:=by unfold mb;rw[h1];rfl
   repeat refine sq ?_
   refine rx hΓ [1,2,7,8] [[2,0],[26,0,11,0,25,0],[23,0,11,0,25,0],[24,0,11,0,25,0]] (fun K' hK=>by simp only[go_sem,bg,mZ,mY];(repeat (refine⟨by first | exact an | exact aa,?_⟩));exact dN) ?_
   repeat refine sq ?_
   refine rx hΓ [1,2,7,8,29] [[2,0],[26,0,11,0,25,0],[23,0,11,0,25,0],[24,0,11,0,25,0]] (fun K' hK=>by simp only[go_sem,bg,mZ,mY];exact ak) ?_
   repeat refine sq ?_
   refine aB (fun hb=>?_) fun hb=>?_
   ·repeat refine sq ?_
    refine rx hΓ [4,5] [] (fun K' hK=>by simp only[go_sem,bg,mZ,mY];exact ak) ?_
    refine av ?_
    simp only[go_sem]
    first | (rw[e,e2];done) | (rw[e,e2];rfl) | trace_state
   ·cases hb
end
noncomputable section
def YC:List (Nat×Spec):=[(70,zi),(73,zh)]
attribute [go_sem] YC
end
def fQ{α:Type}(p:α->α->Bool):List α->Option (α×α)
 |[]=>none
 |a::r=>match r.find? (p a)with
  |some b=>some (a,b)
  |none=>fQ p r
theorem rV{α:Type}{p:α->α->Bool}:∀ {L:List α},fQ p L=none->∀ i j (hi:i<L.length) (hj:j<L.length),i<j->p L[i] L[j]=false
 |[],_,i,j,hi,_,_=>absurd hi (Nat.not_lt_zero i)
 |a::r,h,i,j,hi,hj,bL=>by
  rw[fQ]at h
  split at h
  ·cases h
  ·rename_i hf
   rw[List.find?_eq_none]at hf
   match i,j,bL with
   | 0,j+1,_=>
     have :=hf (r[j]'(by simpa using hj)) (List.getElem_mem _)
     simpa using this
   |i+1,j+1,bL=>exact rV h i j (by simpa using hi) (by simpa using hj) (by omega)
theorem pS{α:Type}{p:α->α->Bool}:∀ {L:List α} {q:α×α},fQ p L=some q->∃ i j,∃ (hi:i<L.length) (hj:j<L.length),i<j/\q=(L[i],L[j])/\p L[i] L[j]=true/\
 (∀ m (hm:m<L.length),i<m->m<j->p L[i] L[m]=false)/\∀ a (ha:a<L.length),a<i->∀ m (hm:m<L.length),a<m->p L[a] L[m]=false
 |[],q,h=>by cases h
 |a::r,q,h=>by
  rw[fQ]at h
  split at h
  ·rename_i b hf
   cases h
   obtain⟨hp,j,hj,rfl,hn⟩:=List.find?_eq_some_iff_getElem.1 hf
   refine⟨0,j+1,by simp,by simpa using hj,by omega,rfl,hp,fun m hm h1 h2=>?_,fun a ha h=>by omega⟩
   obtain⟨m,rfl⟩:∃ m',m=m'+1:=⟨m-1,by omega⟩
   have :=hn m (by omega)
   simpa using this
  ·rename_i hf
   rw[List.find?_eq_none]at hf
   obtain⟨i,j,hi,hj,bL,hq,hp,h1,h2⟩:=pS h
   refine⟨i+1,j+1,by simpa using hi,by simpa using hj,by omega,hq,hp,fun m hm h3 h4=>?_,fun a' ha h3 m hm h4=>?_⟩
   ·obtain⟨m,rfl⟩:∃ m',m=m'+1:=⟨m-1,by omega⟩
    exact h1 m (by simpa using hm) (by omega) (by omega)
   ·obtain⟨m,rfl⟩:∃ m',m=m'+1:=⟨m-1,by omega⟩
    match a',ha,h3,h4 with
    | 0,_,_,_=>
      have :=hf (r[m]'(by simpa using hm)) (List.getElem_mem _)
      simpa using this
    |a'+1,ha,h3,h4=>exact h2 a' (by simpa using ha) (by omega) m (by simpa using hm) (by omega)
theorem Fx{α:Type}{p:α->α->Bool}{c:α->Bool}:∀ L:List α,fQ p (L.filter c)=fQ (fun a b=>c a&&(c b&&p a b)) L
 |[]=>rfl
 |a::r=>by
  have ih:=Fx (p:=p) (c:=c) r
  by_cases hc:c a=true
  ·rw[List.filter_cons,if_pos hc,fQ,fQ,List.find?_filter,ih]
   have e:(fun b=>decide (c b=true/\p a b=true))=fun b=>c a&&(c b&&p a b):=by
    funext b
    rw[hc,Bool.true_and]
    cases c b<;>cases p a b<;>rfl
   rw[e]
  ·have fW:c a=false:=by simpa using hc
   rw[List.filter_cons,if_neg hc,ih,fQ]
   have e:r.find? (fun b=>c a&&(c b&&p a b))=none:=by
    rw[List.find?_eq_none]
    intro b _
    rw[fW];simp
   rw[e]
theorem Al(x:Vw):fe x=(fQ (fZ x) x.rs).map fun q=>(q.1.so,q.2.so):=by
 cases h:fQ (fZ x) x.rs with
 |none=>
  refine FG fun i hi=>Am hi fun m hm=>?_
  rw[List.length_drop]at hm
  rw[List.getElem_drop]
  exact rV h i (i+1+m) hi (by omega) (by omega)
 |some q=>
  obtain⟨i,j,hi,hj,bL,rfl,hp,h1,h2⟩:=pS h
  have B0:j-(i+1)<(x.rs.drop (i+1)).length:=by rw[List.length_drop];omega
  have ej:(x.rs.drop (i+1))[j-(i+1)]=x.rs[j]:=by rw[List.getElem_drop];congr 1;omega
  show fe x=some (x.rs[i].so,x.rs[j].so)
  rw[<-ej]
  refine FF hi (fun a ha=>Am (by omega) fun m hm=>?_) (FH hi B0 (fun m hm j7=>?_) (by rw[ej];exact hp))
  ·rw[List.length_drop]at hm
   rw[List.getElem_drop]
   exact h2 a (by omega) ha (a+1+m) (by omega) (by omega)
  ·rw[List.length_drop]at hm
   rw[List.getElem_drop]
   exact h1 (i+1+m) (by omega) (by omega) (by omega)
theorem V7(l:Led)(k:Int):jI (bV l k)=(fQ (fun a b=>bJ a.kn a.un k&&(bJ b.kn b.un k&&fZ (aW l k) a b)) l.rs).map fun q=>(q.1.so,q.2.so):=by
 have hQ:∀ i j (hi:i<l.rs.length) (hj:j<l.rs.length),gQ (bV l k) i j=(bJ l.rs[i].kn l.rs[i].un k&&(bJ l.rs[j].kn l.rs[j].un k&&fZ (aW l k) l.rs[i] l.rs[j])):=fun i j hi hj=>by
  rw[<-fA hi,<-fA hj]
  by_cases c1:bJ (ay l i).kn (ay l i).un k=true
  ·by_cases c2:bJ (ay l j).kn (ay l j).un k=true
   ·rw[V4 c1 c2,c1,c2];rfl
   ·have:gQ (bV l k) i j=false:=by
      rw[Bool.eq_false_iff];exact fun h=>c2 (KF h).2
    rw[this]
    have WU:bJ (ay l j).kn (ay l j).un k=false:=by simpa using c2
    rw[WU];simp
  ·have:gQ (bV l k) i j=false:=by
     rw[Bool.eq_false_iff];exact fun h=>c1 (KF h).1
   rw[this]
   have WV:bJ (ay l i).kn (ay l i).un k=false:=by simpa using c1
   rw[WV];rfl
 cases h:fQ (fun a b=>bJ a.kn a.un k&&(bJ b.kn b.un k&&fZ (aW l k) a b)) l.rs with
 |none=>
  refine KG fun a ha m h1 h2=>?_
  have JI:a<l.rs.length:=ha
  have po:m<l.rs.length:=h2
  rw[hQ a m JI po]
  exact rV h a m JI po h1
 |some q=>
  obtain⟨i,j,hi,hj,bL,rfl,hp,h1,h2⟩:=pS h
  have :=V6 (x:=bV l k) (i:=i) (j:=j) hi bL hj (by rw[hQ i j hi hj];exact hp) (fun m h3 h4=>by rw[hQ i m hi (by omega)];exact h1 m (by omega) h3 h4)
   (fun a ha m h3 h4=>by
     have xZ:m<l.rs.length:=h4
     rw[hQ a m (by omega) xZ];exact h2 a (by omega) ha m xZ h3)
  rw[this]
  show some ((ay l i).so,(ay l j).so)=_
  rw[fA hi,fA hj];rfl
theorem Pv(l:Led)(k:Int):fe (aW l k)=jI (bV l k):=by
 rw[Al,V7,uh]
 unfold bx
 rw[Fx]
theorem FA(S:List Sig)(p:Sig->Sig->Bool):rX S p=fQ p S:=by
 cases h:fQ p S with
 |none=>
  refine FB fun i hi=>Ai hi fun m hm=>?_
  rw[List.length_drop]at hm
  rw[List.getElem_drop]
  exact rV h i (i+1+m) hi (by omega) (by omega)
 |some q=>
  obtain⟨i,j,hi,hj,bL,rfl,hp,h1,h2⟩:=pS h
  have B0:j-(i+1)<(S.drop (i+1)).length:=by rw[List.length_drop];omega
  have ej:(S.drop (i+1))[j-(i+1)]=S[j]:=by rw[List.getElem_drop];congr 1;omega
  rw[<-ej]
  refine Fy hi (fun a ha=>Ai (by omega) fun m hm=>?_) (FC hi B0 (fun m hm j7=>?_) (by rw[ej];exact hp))
  ·rw[List.length_drop]at hm
   rw[List.getElem_drop]
   exact h2 a (by omega) ha (a+1+m) (by omega) (by omega)
  ·rw[List.length_drop]at hm
   rw[List.getElem_drop]
   exact h1 (i+1+m) (by omega) (by omega) (by omega)
noncomputable section
def Y3:List (Nat×Spec):=[(71,DF)]
attribute [go_sem] Y3
end
noncomputable section
def Y2:List (Nat×Spec):=[(15,tp)]
attribute [go_sem] Y2
def Y1:List (Nat×Spec):=[]
attribute [go_sem] Y1
end
noncomputable section
def Y0:List (Nat×Spec):=[(84,zg)]
attribute [go_sem] Y0
end
noncomputable section
def YZ:List (Nat×Spec):=[(70,zi),(103,vP)]
attribute [go_sem] YZ
end
theorem Xk(l:Led)(ds:List Int):Dx l ds=dE l ds:=by
 unfold Dx dE mV
 cases h:tW l with
 |false=>rfl
 |true=>
  have h0:(true=false)=False:=by simp
  rw[if_neg (by decide),if_pos (show dh true 24=0 from rfl)]
  have :(!ds.any fun d=>!dayB d)=ds.all dayB:=by
   rw[List.not_any_eq_all_not]
   simp
  rw[this]
  unfold dh
  rfl
noncomputable section
def YY:List (Nat×Spec):=[(160,S160),(96,rm)]
attribute [go_sem] YY
def YX:List (Nat×Spec):=[(75,mo)]
attribute [go_sem] YX
end
noncomputable section
def YW:List (Nat×Spec):=[(75,mo),(79,vN),(76,S76),(119,S119)]
attribute [go_sem] YW
end
noncomputable section
def YS:List (Nat×Spec):=[(84,zg),(73,zh),(74,Mb)]
attribute [go_sem] YS
end
noncomputable section
def VG(w:List Int):V:=.sl (w.map vInt)
theorem adg(L:List (List Int)):∀ y∈L.map VG,y.cells.length=1/\y.okc=true:=fun y hy=>by
 obtain⟨x,_,rfl⟩:=List.mem_map.1 hy
 exact⟨rfl,rfl⟩
def YQ:List (Nat×Spec):=[]
attribute [go_sem] YQ
end
noncomputable section
def YP:List (Nat×Spec):=[(15,tp)]
attribute [go_sem] YP
end
noncomputable section
def YO:List (Nat×Spec):=[]
attribute [go_sem] YO
end
noncomputable section
def YN:List (Nat×Spec):=[]
attribute [go_sem] YN
end
noncomputable section
def YJ:List (Nat×Spec):=[(75,mo),(91,S91)]
attribute [go_sem] YJ
end
instance ab' (l:Led) (k:Int) (j:Nat):Decidable (wj l k j):=inferInstanceAs (Decidable ((bp l k l.ts.length).getD j false=true))
noncomputable section
def Yy:List (Nat×Spec):=[]
attribute [go_sem] Yy
end
end Go.Eng
set_option linter.unusedVariables false
namespace Go.Eng
open Go Go.Proofs Go.RowKit Go.Lib Go.Shelf
theorem O2{P:Program}(w:World)(t e ty:TypeId)(z:Value)(ht:P.underlying t=some (.slice e))(hv:a8 P e=some z)(h1:∀ v∈z.cells.toList,v.oneCell'=true)(b o c:Nat)
 (hc:∀ j,j<z.cells.size->(w.cell? ⟨b,o+j,none⟩).isSome=true) (hf:∀ j,w.frozen? ⟨b,j,none⟩=false):
 (Builtin.clear_ #[t] ty #[.slice (some ⟨b,o,none⟩) 1 c]).run P w=.ok (.tuple #[]) (w.setCells b o z.cells.toList):=by
 have nO:(Builtin.zeroCells z.cells 1).toList=z.cells.toList:=by
  have :Builtin.zeroCells z.cells 1=z.cells:=by
   apply Array.ext
   ·simp[Builtin.zeroCells]
   ·intro i h1 h2
    simp[Builtin.zeroCells,Nat.mod_eq_of_lt h2]
    rw[getElem!_pos z.cells i h2]
  rw[this]
 have cH:=run_storeCells_cells (P:=P) b o z.cells.toList 0 w (by simpa using hc) (by simpa using fun j _=>hf (o+j)) h1
 simp only[Nat.add_zero]at cH
 simp[Builtin.clear_,run_underlying ht,rN hv,nO,cH]
set_option maxHeartbeats 4000000 in
set_option maxRecDepth 100000 in
theorem VR(b off n c i:Nat)(cs:List Value)(w:World)(hi:i<n)(I9:n<=c)(adn:c<=9223372036854775807)(cb:cs.length=n*7)
 (fV:∀ j v,cs[j]?=some v->w.cell? ⟨b,off+j,none⟩=some v) (Jp:∀ j,w.frozen? ⟨b,j,none⟩=false) (Vi:∀ v∈cs,v.oneCell'=true):
 Calls Tryz.prog 131 #[.slice (some ⟨b,off,none⟩) n c,.int .i64 i,.int .i64 (i+1)] w fun e w'=>
  e=.returned (.slice (some ⟨b,off,none⟩) (n-1) c)/\w'=(w.drew.setCells b (off+i*7) (cs.drop ((i+1)*7))).setCells b (off+(n-1)*7) (List.replicate 7 (.int .i64 0)):=by
 have mixed:Tryz.prog.follows Departure.mixedOrders=true:=by kernel_rfl
 have xY:bR Tryz.prog 29=some (81,7,56):=by kernel_rfl
 have UQ:a8 Tryz.prog 81=some (.agg #[.int .i64 0,.int .i64 0,.int .i64 0,.int .i64 0,.int .i64 0,.int .i64 0,.int .i64 0]):=by kernel_rfl
 obtain⟨i0,qy,uF⟩:∃ i0,Tryz.prog.info? 81=some i0/\i0.size=7:=by
  obtain⟨hu,i0,h1,h2,h3⟩:=gY xY
  exact⟨i0,h1,h2⟩
 obtain⟨news,uT⟩:∃ news,news=cs.drop ((i+1)*7):=⟨_,rfl⟩
 have hlen:news.length=(n-(i+1))*7:=by rw[uT,List.length_drop,cb,Nat.sub_mul]
 have Bt:∀ j,j<n*7->(w.cell? ⟨b,off+j,none⟩).isSome=true:=fun j hj=>by
  rw[fV j _ (List.getElem?_eq_getElem (by omega))];rfl
 obtain⟨A,hA,bS⟩:∃ A:Addr,(if c=i+1 then some (⟨b,off,none⟩:Addr)else some ⟨b,off+(i+1)*7,none⟩)=some A/\Hid (∀ t u,news[t]?=some u->w.drew.cell? (A.add t)=some u):=by
  by_cases h:c=i+1
  ·refine⟨⟨b,off,none⟩,by simp[h],fun t u hu=>?_⟩
   have h0:news.length=0:=by rw[hlen];have:n-(i+1)=0:=by omega
                             rw[this,Nat.zero_mul]
   rw[List.length_eq_zero_iff.1 h0]at hu
   simp at hu
  ·refine⟨⟨b,off+(i+1)*7,none⟩,by simp[h],fun t u hu=>?_⟩
   rw[Addr.add_lit,Nat.add_assoc]
   exact fV _ _ (by rw[uT,List.getElem?_drop]at hu;exact hu)
 have s1:Hid (news.length=(n-(i+1))*7):=hlen
 have s2:Hid (∀ u∈news,u.oneCell'=true):=fun u hu=>Vi u (List.mem_of_mem_drop (uT▸hu))
 have s3:Hid (∀ t,t<news.length->(w.drew.cell? ⟨b,off+i*7+t,none⟩).isSome=true/\w.drew.frozen? ⟨b,off+i*7+t,none⟩=false):=by
  intro t ht
  rw[hlen]at ht
  refine⟨?_,Jp _⟩
  rw[Nat.add_assoc]
  exact Bt _ (by omega)
 obtain⟨W1,vi⟩:∃ W1,W1=w.drew.setCells b (off+i*7) news:=⟨_,rfl⟩
 have j5:∀ j,j<n*7->(W1.cell? ⟨b,off+j,none⟩).isSome=true:=fun j hj=>by
  rw[vi]
  exact isSome_setCells b _ _ _ (fun t ht=>(s3 t ht).1) _ (Bt j hj)
 have JA:∀ ty,(Builtin.clear_ #[29] ty #[.slice (some ⟨b,off+(i+(n-(i+1)))*7,none⟩) (n-(i+(n-(i+1)))) (c-(i+(n-(i+1))))]).run Tryz.prog W1=.ok (.tuple #[]) (W1.setCells b (off+(i+(n-(i+1)))*7) (List.replicate 7 (.int .i64 0))):=fun ty=>by
  have e:n-(i+(n-(i+1)))=1:=by omega
  rw[e]
  exact O2 W1 29 81 ty _ Tryz.underlying29 UQ (by decide) b _ _ (fun j hj=>by rw[Nat.add_assoc];exact j5 _ (by have:j<7:=hj;omega)) (fun j=>by rw[vi,World.frozen?_setCells];exact Jp _)
 have hW:Hid (W1=w.drew.setCells b (off+i*7) news):=vi
 rw[<-uT,<-vi]
 have hic:i<=c:=by omega
 have hjc:i+1<=c:=by omega
 have aC:¬ ((i:Int)=(i:Int)+1):=by omega
 have eN:i+1<=n:=by omega
 have uQ:(0:Int)<=(i:Int)+1:=by omega
 have jy:(i:Int)+1<=(n:Int):=by omega
 clear vi j5 Bt uT hlen
 go_enter Tryz.func131,Tryz.ntmps131
 go_wp2_with fail
 go_region_law_o (refine step_append_room rfl (.tmp 22) (.tmp 25) 29 rfl 81 i0 7 Tryz.underlying29 qy uF b off i c (by simp[Act.eval,Act.put]) A (n-(i+1)) (c-(i+1)) news (by simp[Act.eval,Act.put]) s1.out bS.out s2.out (by omega) s3.out ?_;rw[<-hW.out])
 go_wp2
 go_ret
 have e:n-1=i+(n-(i+1)):=by omega
 rw[e]
 exact⟨rfl,rfl⟩
def zS:V:=.agg [.int .i64 0,.int .i64 0,.int .i64 0,.int .i64 0,.int .i64 0,.int .i64 0,.int .i64 0]
def zd(obj:Name->Option O):List D->R
 |[.msl nm k,.v (.int .i64 i),.v (.int .i64 j)]=>match obj nm with
  |some (.arr sz l)=>⟨k=l.length/\sz=7/\0<=i/\j=i+1/\i.toNat<l.length,.v (.sl (l.eraseIdx i.toNat)),upd obj nm (some (.farr sz (l.eraseIdx i.toNat++[zS])))⟩
  |_=>.bad obj
 |_=>.bad obj
def yl:List D->List Name
 |[.msl nm _,_,_]=>[nm]
 |_=>[]
def S131:Spec:=⟨fun obj _ ds=>zd obj ds,fun _ _ ds=>yl ds,fun _ _ ds=>yl ds⟩
theorem CV{l:List V}{i q:Nat}(hi:i<l.length)(h:q<(l.eraseIdx i++[zS]).length):
 (q<i/\∃ h':q<l.length,(l.eraseIdx i++[zS])[q]=l[q])\/(i<=q/\∃ h':q+1<l.length,(l.eraseIdx i++[zS])[q]=l[q+1])\/(q+1=l.length/\(l.eraseIdx i++[zS])[q]=zS):=by
 have hl:(l.eraseIdx i).length=l.length-1:=List.length_eraseIdx_of_lt hi
 have hq:q<l.length:=by simp[hl]at h;omega
 by_cases h1:q<l.length-1
 ·rw[List.getElem_append_left (by omega),List.getElem_eraseIdx]
  by_cases h2:q<i
  ·exact .inl ⟨h2,hq,by rw[dif_pos h2]⟩
  ·exact .inr (.inl ⟨by omega,by omega,by rw[dif_neg h2]⟩)
 ·refine .inr (.inr ⟨by omega,?_⟩)
  rw[List.getElem_append_right (by omega)]
  simp
theorem VQ:S131.Near:=by
 refine⟨fun obj obj2 t ds h=>?_,fun obj obj2 t ds h=>rfl,fun obj t ds nm hn=>hn,fun obj obj2 t ds h=>rfl⟩
 simp only[S131]at h |-
 unfold zd
 split
 ·rename_i nm k i j
  have h':obj2 nm=obj nm:=h nm (by simp[yl])
  simp only[h']
  split
  ·exact .one (by simp[yl]) h
  ·exact .none _ h
 ·exact .none _ h
set_option maxHeartbeats 1000000 in
theorem Sx:aK Tryz.prog 131 S131:=by
 refine⟨VQ,fun _ args w=>gn Tryz.func131 rfl (by kernel_rfl) args w,fun _ G φ m σ a w hC t ds us _ hl hr aa=>?_,fun e=>(Nat.ne_of_lt (show (131:Nat)<yid by decide) e).elim⟩
 simp only[S131,zd]at aa |-
 split at aa
 case h_2=>exact aa.elim
 rename_i nm k i j
 simp only[List.length_cons,List.length_nil]at hl
 have r0:=hr 0 (by simp) (by omega)
 have r1:=hr 1 (by simp) (by omega)
 have r2:=hr 2 (by simp) (by omega)
 simp only[List.getElem_cons_zero,List.getElem_cons_succ]at r0 r1 r2
 have qg:us= #[us[0],us[1],us[2]]:=by
  apply Array.ext
  ·simp;omega
  ·intro j h1 h2
   have :j=0\/j=1\/j=2:=by omega
   rcases this with rfl | rfl | rfl<;>rfl
 rw[qg]
 generalize us[0]=u0 at r0
 generalize us[1]=u1 at r1
 generalize us[2]=u2 at r2
 clear qg hr hl us
 cases r1 with
 |v _ _ r1=>
 cases r1 with
 |int _ _=>
 cases r2 with
 |v _ _ r2=>
 cases r2 with
 |int _ _=>
 split at aa
 case h_2=>exact aa.elim
 rename_i sz l au
 obtain⟨hk,db,qy,hj,j8⟩:=aa
 subst db hj
 cases r0 with
 |msl _ _ _ hh xq=>
 obtain⟨o,nn,cR,hlen,_,cL⟩:=hh
 rw[au]at cR;cases cR
 simp only[O.len?,Option.some.injEq]at hlen
 subst hlen
 have hv:=cL hk
 subst hk
 obtain⟨i,rfl⟩:∃ n:Nat,i=(n:Int):=⟨i.toNat,by omega⟩
 simp only[Int.toNat_natCast]at j8 |-
 rcases hC.objs nm _ au with⟨_,lW⟩ | ⟨g0,g1,g2,g3,g4,bw,T',f,g5,g6,g7,g8⟩
 ·subst lW;simp at j8
 have i4:(φ nm).blk<w.heap.size:=(Array.getElem?_eq_some_iff.1 g5).1
 have S8:u0=.slice (some ⟨(φ nm).blk,(φ nm).off,none⟩) l.length (φ nm).cap:=by rw[hv];simp only[Loc.slice,g0];rfl
 subst S8
 have sE:holds φ σ.obj nm:=⟨_,au,rfl,g0⟩
 obtain⟨c1,Ci⟩:∃ c1:Nat->Nat->Value,∀ q j,q<l.length->j<7->bw[(φ nm).off+q*7+j]?=some (c1 q j):=⟨fun q j=>(bw[(φ nm).off+q*7+j]?).getD undef,fun q j hq hj=>by
  obtain⟨c,x1,_⟩:=g8 q j hq (by rw[g3];exact hj)
  simp only[x1,Option.getD_some]⟩
 have dq:∀ q j (h:q<l.length) (h':j<l[q].cells.length),aJ m l[q].cells[j] (c1 q j):=fun q j h h'=>by
  obtain⟨c,x1,x2⟩:=g8 q j h h'
  have :=Ci q j h (by rw[<-g3 q h];exact h')
  rw[x1]at this;cases this;exact x2
 have Uw:∀ j v,(rowOf c1 l.length 7)[j]?=some v->w.cell? ⟨(φ nm).blk,(φ nm).off+j,none⟩=some v:=fun j v TJ=>by
  have :=wz (w:=w) (c:=c1) (n:=l.length) (sz:=7) (blk:=(φ nm).blk) (o:=(φ nm).off) (fun q j hq hj=>by rw[oh g5];exact Ci q j hq hj) j v TJ
  rwa [mg]at this
 have To:∀ v∈rowOf c1 l.length 7,v.oneCell'=true:=by
  intro v hv
  simp only[rowOf,List.mem_map,List.mem_range]at hv
  obtain⟨k,hk,rfl⟩:=hv
  obtain⟨d1,d2⟩:=CT hk
  exact Ao ((dq _ _ d1 (by rw[g3];exact d2)).one (g4 _ d1 _ (List.getElem_mem _)))
 refine(VR (φ nm).blk (φ nm).off l.length (φ nm).cap i (rowOf c1 l.length 7) w j8 g1 (by unfold maxLen at g2;omega) (fc _ _ _) Uw (fun j=>J1 g5 g6) To).mono ?_
 rintro e w' ⟨rfl,rfl⟩
 obtain⟨D8,k1,k2,k3⟩:=zT (φ nm).blk T' f ((rowOf c1 l.length 7).drop ((i+1)*7)) ((φ nm).off+i*7) w.drew bw g5
 obtain⟨tC,k4,k5,k6⟩:=zT (φ nm).blk T' f (List.replicate 7 (.int .i64 0)) ((φ nm).off+(l.length-1)*7) (bQ w.drew (φ nm).blk (.cells D8 T' f)) D8 (lx i4)
 rw[k1,k4,zq]
 have hL:(l.eraseIdx i++[zS]).length=l.length:=by simp[List.length_eraseIdx_of_lt j8];omega
 have oY:∀ q (h:q<(l.eraseIdx i++[zS]).length),(l.eraseIdx i++[zS])[q].cells.length=7:=fun q h=>by
  rcases CV j8 h with⟨_,h',e⟩ | ⟨_,h',e⟩ | ⟨_,e⟩<;>rw[e]
  ·exact g3 _ _
  ·exact g3 _ _
  ·rfl
 have sy:∀ q (h:q<(l.eraseIdx i++[zS]).length),∀ x∈(l.eraseIdx i++[zS])[q].cells,x.one=true:=fun q h=>by
  rcases CV j8 h with⟨_,h',e⟩ | ⟨_,h',e⟩ | ⟨_,e⟩<;>rw[e]
  ·exact g4 _ _
  ·exact g4 _ _
  ·intro x hx
   simp only[zS,V.cells,List.mem_cons,List.not_mem_nil,or_false,or_self]at hx
   subst hx;rfl
 have JC:l.length*7<=(φ nm).cap*7:=Nat.mul_le_mul_right _ g1
 have kS:∀ q j (h:q<(l.eraseIdx i++[zS]).length) (h':j<(l.eraseIdx i++[zS])[q].cells.length),∃ c,tC[(φ nm).off+q*7+j]?=some c/\aJ m (l.eraseIdx i++[zS])[q].cells[j] c:=by
  intro q j h h'
  have hq:q<l.length:=by rw[<-hL];exact h
  have hj:j<7:=by rw[<-oY q h];exact h'
  rw[k6 _ (by rw[k2];omega),k3 _ (by omega)]
  simp only[List.length_replicate,List.length_drop,fc]
  rcases CV j8 h with⟨h1,h2,e⟩ | ⟨h1,h2,e⟩ | ⟨h1,e⟩
  ·simp only[e]at h' |-
   rw[if_neg (by omega),if_neg (by omega)]
   exact⟨_,Ci q j h2 hj,dq q j h2 h'⟩
  ·simp only[e]at h' |-
   rw[if_neg (by omega),if_pos (by omega),List.getElem?_drop,show (i+1)*7+((φ nm).off+q*7+j-((φ nm).off+i*7))=(q+1)*7+j by omega]
   exact⟨_,oE c1 h2 hj,dq (q+1) j h2 h'⟩
  ·simp only[e]at h' |-
   rw[if_pos (by omega)]
   refine⟨.int .i64 0,by rw[List.getElem?_replicate,if_pos (by omega)],?_⟩
   have hz:zS.cells[j]=.int .i64 0:=by
    have :zS.cells=List.replicate 7 (.int .i64 0):=rfl
    simp only[this,List.getElem_replicate]
   rw[hz]
   exact .int _ _
 have hx:=Ext.same (φ:=φ) (o':=.arr 7 (l.eraseIdx i++[zS])) au (by simp only[O.len?,hL]) rfl
 have fh:=hC.chg (w':=bQ w.drew (φ nm).blk (.cells tC T' f)) nm (.arr 7 (l.eraseIdx i++[zS])) (φ nm) hx ⟨rfl,rfl,rfl,by rw[MF];exact Nat.le_refl _⟩
  (fun b' cX hn=>by
    rw[nh (by rcases hn with h | h; · rw[g0]at h;cases h
              ·exact h)]
    rfl) (fun _=>.inr ⟨sE,rfl⟩)
  (.inr ⟨g0,by rw[hL];exact g1,g2,oY,sy,tC,T',f,lx i4,g6,by rw[k5,k2];exact g7,kS⟩)
 rw[fb]at fh hx
 obtain⟨m',q1,q2,q3⟩:=fh.frz1 nm (.arr 7 (l.eraseIdx i++[zS])) (.farr 7 (l.eraseIdx i++[zS])) (aM _ _ _) rfl g0 tC T' f (lx i4) rfl rfl rfl
  (fun m' hle ig=>.inr ⟨g0,⟨by rw[hL];exact g1,by rw[hL];exact Nat.le_trans g1 g2⟩,oY,sy,fun i j a b=>let ⟨c,x,y⟩:=kS i j a b;⟨c,ig _ _ x,y.mono hle⟩⟩)
 simp only[rD]at q2
 have oX:Ext φ φ σ.obj (upd σ.obj nm (some (.farr 7 (l.eraseIdx i++[zS])))):=by
  have :=Ext.same (φ:=φ) (o':=.farr 7 (l.eraseIdx i++[zS])) au (by simp only[O.len?,hL]) rfl
  rwa [fb]at this
 refine⟨_,φ,m',rfl,q2,.v _ _ ?_,oX⟩
 have nV:(l.eraseIdx i).length=l.length-1:=List.length_eraseIdx_of_lt j8
 rw[<-nV]
 by_cases I6:l.eraseIdx i=[]
 ·rw[I6];exact .slnil _ _
 ·have l4:∀ q (h:q<(l.eraseIdx i).length),(l.eraseIdx i++[zS])[q]'(by rw[List.length_append];omega)=(l.eraseIdx i)[q]:=fun q h=>List.getElem_append_left h
  refine .sl _ _ _ _ 7 (fun q j=>(tC[(φ nm).off+q*7+j]?).getD undef) I6 (by rw[nV];omega) (by rw[nV];omega) (fun q h=>?_) (fun q j h hj=>?_) (fun q j h hj=>?_) (fun q h=>?_)
  ·rw[<-l4 q h];exact oY _ _
  ·obtain⟨c,x,y⟩:=kS q j (by rw[List.length_append];omega) (by rw[oY];exact hj)
   rw[x];exact q3 _ _ x
  ·have hg:=l4 q h
   simp only[<-hg]at hj |-
   obtain⟨c,x,y⟩:=kS q j (by rw[List.length_append];omega) hj
   rw[x];exact y.mono q1
  ·rw[<-l4 q h];exact sy _ _
open Go Go.Proofs
set_option maxRecDepth 10000
noncomputable section
attribute [go_sem] S131 zd
def kF(l:Led)(k:Int)(az:List Int)(s:Nat):List Sig:=((aN l k).take s).filter fun x=>az.contains x.so
theorem Ey(l:Led)(k:Int)(az:List Int)(s:Nat):(kF l k az s).length<=(aN l k).length:=by
 unfold kF;exact Nat.le_trans (List.length_filter_le _ _) (by simp;omega)
theorem Ni{l:Led}{k:Int}{az:List Int}{s:Nat}(h:s<(aN l k).length)(hc:az.contains (aN l k)[s].so=true):kF l k az (s+1)=kF l k az s++[(aN l k)[s]]:=by
 unfold kF;rw[tH h,if_pos hc]
theorem Nj{l:Led}{k:Int}{az:List Int}{s:Nat}(h:s<(aN l k).length)(hc:az.contains (aN l k)[s].so=false):kF l k az (s+1)=kF l k az s:=by
 unfold kF;rw[tH h,if_neg (by rw[hc];decide)];simp
def gB(l:Led)(k:Int)(az:List Int):List Sig:=(aN l k).filter fun x=>az.contains x.so
theorem Ez(l:Led)(k:Int)(az:List Int):kF l k az (aN l k).length=gB l k az:=by unfold kF gB;rw[List.take_length]
def mf(l:Led)(k:Int)(az:List Int):Bool:=((gB l k az).length==az.length&&(jm az&&!cU (aW l k) (gB l k az)))&&(List.range (gB l k az).length).all fun i=>cU (aW l k) ((gB l k az).eraseIdx i)
def mU(l:Led)(k:Int)(az:List Int):Int:=if gi l k=0 then dh (mf l k az) 28 else gi l k
theorem Xy{n:Nat}{p:Nat->Bool}{i:Nat}(hi:i<n)(h:p i=false):(List.range n).all p=false:=by
 rw[Bool.eq_false_iff]
 intro h2
 rw[List.all_eq_true]at h2
 have :=h2 i (List.mem_range.2 hi)
 rw[h]at this;cases this
theorem Xx{n:Nat}{p:Nat->Bool}(h:∀ i,i<n->p i=true):(List.range n).all p=true:=by
 rw[List.all_eq_true]
 exact fun i hi=>h i (List.mem_range.1 hi)
theorem Kn{α β:Type}(f:α->β):∀ (l:List α) (i:Nat),(l.map f).eraseIdx i=(l.eraseIdx i).map f
 |[],_=>by simp
 |_::_,0=>rfl
 |a::r,i+1=>by simp[Kn f r i]
def K92:List (Nat×Spec):=[(75,mo),(121,S121),(122,S122),(108,vO),(130,Mn),(123,Mo),(131,S131),(132,S132)]
theorem Yx:KS K92:=tc zU.sound<|tc Be<|tc Bd<|tc wu.sound<|tc EO.sound<|tc EP.sound<|tc Sx<|tc Ir<|tn
attribute [go_sem] K92
@[go_sem] def P51:PSpec:=p3 iL iI ef (fun _ _ _=>True) (fun l k az=>vInt (mU l k az)) true
@[go_sem] def XU:Spec:=P51.toSpec
set_option maxHeartbeats 8000000 in
theorem Od:aT Tryz.prog 51 P51:=by
 refine kC (rs:=[.tmp 6]) Tryz.func51 Tryz.ntmps51 fun l k az hp hw=>?_
 simp only[iI,ef,iL,fY]at hw |-
 have hΓ:=Yx
 repeat refine sq ?_
 refine rx hΓ [1,2,3] [[3,0]] (fun K' hK=>by simp only[go_sem];exact ak) ?_
 refine dw (gg 3 (.ref [3,0] 0) (by simp only[go_sem]) (by simp only[go_sem]) [1,2,3] [[3,0]] ?_ rfl) ?_
 ·simp only[go_sem]
 simp only[go_sem]
 repeat refine sq ?_
 refine rx hΓ [1,2,3,7] [[3,0]] (fun K' hK=>by simp only[go_sem];exact ak) ?_
 repeat refine sq ?_
 refine rx hΓ [1,2,3,7,19] [[3,0]] (fun K' hK=>by simp only[go_sem];exact ak) ?_
 repeat refine sq ?_
 refine aB (fun hb=>?_) fun hb=>?_
 ·repeat refine sq ?_
  have hc:¬ dE l [k]=0:=by simpa using hb
  have h1:gi l k=dE l [k]:=by unfold gi;rw[if_neg hc]
  have e:mU l k az=dE l [k]:=by unfold mU;rw[h1,if_neg hc]
  repeat refine sq ?_
  refine rx hΓ [6] [] (fun K' hK=>by simp only[go_sem];exact ak) ?_
  refine av ?_
  simp only[go_sem]
  first | (rw[e];done) | (rw[e];rfl) | (rw[e,e2];done) | (rw[e,e2];rfl) | trace_state
 ·repeat refine sq ?_
  have hc:dE l [k]=0:=by simpa using hb
  obtain⟨aa,_⟩:=s4 hc
  refine aF ?_
  rcases bg:fe (aW l k)with _ | p
  ·have h1:gi l k=0:=by unfold gi;rw[if_pos hc,bg];rfl
   have e:mU l k az=dh (mf l k az) 28:=by unfold mU;rw[if_pos h1]
   obtain⟨hv,b7⟩:=oO aa k
   obtain⟨j5,kP⟩:=zQ hv.ok k
   rw[p0]at j5 kP
   have uP:=aa.ssn
   have hl:(aN l k).length<=maxLen:=by unfold maxLen;omega
   repeat refine sq ?_
   refine rx hΓ [1,2,3,8,9] [[3,0],[26,0,11,0,23,0],[23,0,11,0,23,0],[24,0,11,0,23,0]] (fun K' hK=>by simp only[go_sem,bg,cq,cp];(repeat (refine⟨by first | exact an | exact aa,?_⟩));exact dN) ?_
   repeat refine sq ?_
   refine rx hΓ [1,2,3,8,9,27] [[3,0],[26,0,11,0,23,0],[23,0,11,0,23,0],[24,0,11,0,23,0]] (fun K' hK=>by simp only[go_sem,bg,cq,cp];exact ak) ?_
   repeat refine sq ?_
   refine aB (fun hb=>?_) fun hb=>?_
   ·cases hb
   ·repeat refine sq ?_
    refine aF ?_
    repeat refine sq ?_
    refine rx hΓ [1,2,3,8,10] [[3,0],[44,0],[26,0,11,0,23,0],[23,0,11,0,23,0],[24,0,11,0,23,0]] (fun K' hK=>by simp only[go_sem,bg,cq,cp];exact ak) ?_
    refine dw (zx 10 [44,0] 7 (by simp only[go_sem]) (by simp only[go_sem]) [1,2,3,8,10] [[3,0],[44,0],[26,0,11,0,23,0],[23,0,11,0,23,0],[24,0,11,0,23,0]] ?_ rfl) ?_
    ·simp only[go_sem]
    simp only[go_sem]
    repeat refine sq ?_
    refine rx hΓ [1,2,3,10,31,32,33] [[3,0],[44,0]] (fun K' hK=>by simp only[go_sem,bg,cq,cp,p0];(repeat (refine⟨by first | exact an | rw[p0];exact uP,?_⟩));exact dN) ?_
    repeat refine sq ?_
    refine aS ?_
    repeat refine sq ?_
    refine cM (fun s:Nat=>[(33,⟨true,.v (vInt s)⟩),(10,⟨true,.msl [44,0] (kF l k az s).length⟩)]) (fun s=>[([44,0],.arr 7 ((kF l k az s).map encS))]) (fun s=>s<=(aN l k).length) (fun s=>(aN l k).length-s) 0 ?_ ?_ ?_ ?_
    ·exact Nat.zero_le _
    ·rfl
    ·rfl
    rintro i hi
    simp only[go_sem]
    repeat refine sq ?_
    refine rx hΓ [1,2,3,10,31,32,33,34] [[3,0],[44,0]] (fun K' hK=>by simp only[go_sem,bg,cq,cp];exact ak) ?_
    repeat refine sq ?_
    refine aB (fun hb=>?_) fun hb=>?_
    ·have ab:i<(aN l k).length:=by simpa using hb
     have aq:(i:Int)<(aN l k).length:=by omega
     clear hb
     have lT:=Ey l k az i
     repeat refine sq ?_
     refine aF ?_
     repeat refine sq ?_
     refine aS ?_
     repeat refine sq ?_
     refine rx hΓ [1,2,3,10,12,31,32,33] [[3,0],[12,0],[44,0]] (fun K' hK=>by simp only[go_sem,bg,cq,cp,ah ab,ai,aj,aq];exact ak) ?_
     repeat refine sq ?_
     refine rx hΓ [1,2,3,10,12,31,32,33,40] [[3,0],[12,0],[44,0]] (fun K' hK=>by simp only[go_sem,bg,cq,cp,ah ab,ai,aj,aq];exact ak) ?_
     repeat refine sq ?_
     refine aB (fun hb=>?_) fun hb=>?_
     ·repeat refine sq ?_
      have hf:=Ni ab hb
      repeat refine sq ?_
      refine bc hΓ fun K' hK=>?_
      simp only[go_sem,bg,cq,cp,ah ab,ai,aj,aq]
      repeat (refine⟨by first | exact an | exact⟨rfl,by omega,by unfold maxLen;omega⟩,?_⟩)
      refine hK _ ?_
      clear K' hK
      simp only[go_sem]
      refine kp [1,2,3,10,31,32,33] [[3,0],[44,0]] ?_
      repeat refine sq ?_
      refine bc hΓ fun K' hK=>?_
      simp only[go_sem,bg,cq,cp,ah ab,ai,aj,aq]
      repeat (refine⟨an,?_⟩)
      refine hK _ ?_
      clear K' hK
      simp only[go_sem]
      refine⟨i+1,ab,by(show (aN l k).length-(i+1)<(aN l k).length-i;omega),?_⟩
      refine bu [1,2,3,10,31,32,33] [[3,0],[44,0]] ?_ ?_<;>simp only[go_sem,bn ab hl,br,hf,List.map_append,List.map_cons,List.map_nil,List.length_append,List.length_cons,List.length_nil]
     ·repeat refine sq ?_
      have hf:=Nj ab hb
      refine aF ?_
      refine b9 ?_
      simp only[go_sem]
      refine kp [1,2,3,10,31,32,33] [[3,0],[44,0]] ?_
      repeat refine sq ?_
      refine bc hΓ fun K' hK=>?_
      simp only[go_sem,bg,cq,cp,ah ab,ai,aj,aq]
      repeat (refine⟨an,?_⟩)
      refine hK _ ?_
      clear K' hK
      simp only[go_sem]
      refine⟨i+1,ab,by(show (aN l k).length-(i+1)<(aN l k).length-i;omega),?_⟩
      refine bu [1,2,3,10,31,32,33] [[3,0],[44,0]] ?_ ?_<;>simp only[go_sem,bn ab hl,br,hf,List.map_append,List.map_cons,List.map_nil,List.length_append,List.length_cons,List.length_nil]
    ·have bF:i=(aN l k).length:=by
      have :¬ (i:Int)<(aN l k).length:=by simpa using hb
      omega
     clear hb
     subst bF
     repeat refine sq ?_
     refine bW ?_
     simp only[go_sem]
     refine kp [1,2,3,10] [[3,0],[44,0]] ?_
     rw[Ez]
     have lT:=Ey l k az (aN l k).length
     rw[Ez]at lT
     have iX:∀ x∈gB l k az,rJ x:=fun x hx=>kP x ((List.mem_filter.1 hx).1)
     have Cg:mf l k az=(((gB l k az).length==az.length&&(jm az&&!cU (aW l k) (gB l k az)))&&(List.range (gB l k az).length).all fun i=>cU (aW l k) ((gB l k az).eraseIdx i)):=rfl
     generalize gB l k az=M at *
     have BR:M.length<=maxLen:=by unfold maxLen;omega
     have aC:((M.length:Int)==(az.length:Int))=(M.length==az.length):=by rw[Bool.eq_iff_iff];simp;omega
     repeat refine sq ?_
     refine rx hΓ [1,3,10,60] [[3,0],[44,0]] (fun K' hK=>by simp only[go_sem,bg,cq,cp];(repeat (refine⟨by first | exact an | exact fun _=>⟨⟨aa,by omega⟩,iX⟩,?_⟩));exact dN) ?_
     repeat refine sq ?_
     refine aB (fun hb=>?_) fun hb=>?_
     ·repeat refine sq ?_
      have e2:mf l k az=false:=by
       rw[Cg]
       simp only[bne,aC]at hb
       revert hb
       cases (M.length==az.length)<;>cases jm az<;>cases cU (aW l k) M<;>simp
      repeat refine sq ?_
      refine rx hΓ [6] [] (fun K' hK=>by simp only[go_sem,bg,cq,cp];exact ak) ?_
      refine av ?_
      simp only[go_sem]
      first | (rw[e];done) | (rw[e];rfl) | (rw[e,e2];done) | (rw[e,e2];rfl) | trace_state
     ·repeat refine sq ?_
      have JG:((M.length==az.length)&&(jm az&&!cU (aW l k) M))=true:=by
       simp only[bne,aC]at hb
       revert hb
       cases (M.length==az.length)<;>cases jm az<;>cases cU (aW l k) M<;>simp
      refine aF ?_
      repeat refine sq ?_
      refine rx hΓ [1,3,10,62,63] [[3,0],[44,0]] (fun K' hK=>by simp only[go_sem,bg,cq,cp];exact ak) ?_
      repeat refine sq ?_
      refine aS ?_
      repeat refine sq ?_
      refine cM (fun s:Nat=>[(63,⟨true,.v (vInt s)⟩)]) (fun s=>[]) (fun s=>s<=M.length/\∀ j,j<s->cU (aW l k) (M.eraseIdx j)=true) (fun s=>M.length-s) 0 ?_ ?_ ?_ ?_
      ·exact⟨Nat.zero_le _,fun a h=>by omega⟩
      ·rfl
      ·rfl
      rintro i1 ⟨hi,hR⟩
      simp only[go_sem]
      repeat refine sq ?_
      refine rx hΓ [1,3,10,62,63,64] [[3,0],[44,0]] (fun K' hK=>by simp only[go_sem,bg,cq,cp];exact ak) ?_
      repeat refine sq ?_
      refine aB (fun hb=>?_) fun hb=>?_
      ·have aI:i1<M.length:=by simpa using hb
       have bj:(i1:Int)<M.length:=by omega
       clear hb
       have U9:(M.map encS).eraseIdx i1=(M.eraseIdx i1).map encS:=Kn encS M i1
       have qe:IntKind.i64.wrap ((i1:Int)+1)=(i1:Int)+1:=by rw[wrap_i64 (by omega) (by omega)]
       have nV:(M.eraseIdx i1).length<=60:=by rw[List.length_eraseIdx_of_lt aI];omega
       have Ud:∀ x∈M.eraseIdx i1,rJ x:=fun x hx=>iX x (List.mem_of_mem_eraseIdx hx)
       repeat refine sq ?_
       refine aF ?_
       repeat refine sq ?_
       refine aS ?_
       repeat refine sq ?_
       refine rx hΓ [1,3,10,13,62,63] [[3,0],[44,0]] (fun K' hK=>by simp only[go_sem,bg,cq,cp,ah aI,ai,aj,bj];exact ak) ?_
       repeat refine sq ?_
       refine rx hΓ [1,3,10,62,63,74] [[3,0],[44,0]] (fun K' hK=>by simp only[go_sem,bg,cq,cp,ah aI,ai,aj,bj,U9,qe,qS,aI,List.length_map];(repeat (refine⟨by first | exact an | exact⟨⟨aa,nV⟩,Ud⟩,?_⟩));exact dN) ?_
       repeat refine sq ?_
       refine aB (fun hb=>?_) fun hb=>?_
       ·repeat refine sq ?_
        have ir:cU (aW l k) (M.eraseIdx i1)=false:=by simpa using hb
        have e2:mf l k az=false:=by rw[Cg,JG,Xy aI ir];rfl
        repeat refine sq ?_
        refine rx hΓ [6] [] (fun K' hK=>by simp only[go_sem,bg,cq,cp,ah aI,ai,aj,bj];exact ak) ?_
        refine av ?_
        simp only[go_sem]
        first | (rw[e];done) | (rw[e];rfl) | (rw[e,e2];done) | (rw[e,e2];rfl) | trace_state
       ·repeat refine sq ?_
        have ir:cU (aW l k) (M.eraseIdx i1)=true:=by simpa using hb
        refine aF ?_
        refine b9 ?_
        simp only[go_sem]
        refine kp [1,3,10,62,63] [[3,0],[44,0]] ?_
        repeat refine sq ?_
        refine bc hΓ fun K' hK=>?_
        simp only[go_sem,bg,cq,cp,ah aI,ai,aj,bj]
        repeat (refine⟨an,?_⟩)
        refine hK _ ?_
        clear K' hK
        simp only[go_sem]
        refine⟨i1+1,⟨aI,?_⟩,by(show M.length-(i1+1)<M.length-i1;omega),?_⟩
        ·intro j hj
         rcases Nat.lt_succ_iff_lt_or_eq.1 hj with h5 | rfl
         ·exact hR j h5
         ·exact ir
        refine bu [1,3,10,62,63] [[3,0],[44,0]] ?_ ?_<;>simp only[go_sem,bn aI BR,br]
      ·have iY:i1=M.length:=by
        have :¬ (i1:Int)<M.length:=by simpa using hb
        omega
       clear hb
       subst iY
       have e2:mf l k az=true:=by rw[Cg,JG,Xx hR];rfl
       repeat refine sq ?_
       refine bW ?_
       simp only[go_sem]
       refine kp [] [] ?_
       repeat refine sq ?_
       refine rx hΓ [6] [] (fun K' hK=>by simp only[go_sem,bg,cq,cp];exact ak) ?_
       refine av ?_
       simp only[go_sem]
       first | (rw[e];done) | (rw[e];rfl) | (rw[e,e2];done) | (rw[e,e2];rfl) | trace_state
  ·have h1:gi l k=25:=by unfold gi;rw[if_pos hc,bg];rfl
   have e:mU l k az=25:=by unfold mU;rw[h1];rfl
   repeat refine sq ?_
   refine rx hΓ [1,2,3,8,9] [[3,0],[26,0,11,0,23,0],[23,0,11,0,23,0],[24,0,11,0,23,0]] (fun K' hK=>by simp only[go_sem,bg,mZ,mY];(repeat (refine⟨by first | exact an | exact aa,?_⟩));exact dN) ?_
   repeat refine sq ?_
   refine rx hΓ [1,2,3,8,9,27] [[3,0],[26,0,11,0,23,0],[23,0,11,0,23,0],[24,0,11,0,23,0]] (fun K' hK=>by simp only[go_sem,bg,mZ,mY];exact ak) ?_
   repeat refine sq ?_
   refine aB (fun hb=>?_) fun hb=>?_
   ·repeat refine sq ?_
    refine rx hΓ [6] [] (fun K' hK=>by simp only[go_sem,bg,mZ,mY];exact ak) ?_
    refine av ?_
    simp only[go_sem]
    first | (rw[e];done) | (rw[e];rfl) | (rw[e,e2];done) | (rw[e,e2];rfl) | trace_state
   ·cases hb
end
theorem zJ{α:Type}{f:α->Int}:∀ {A B:List α},A.Pairwise (fun a b=>f a<f b)->B.Pairwise (fun a b=>f a<f b)->(∀ x,x∈A↔x∈B)->A=B
 |[],[],_,_,_=>rfl
 |[],b::B,_,_,h=>absurd ((h b).2 (by simp)) (by simp)
 |a::A,[],_,_,h=>absurd ((h a).1 (by simp)) (by simp)
 |a::A,b::B,hA,hB,h=>by
  rw[List.pairwise_cons]at hA hB
  have e:a=b:=by
   have h1:=(h a).1 (by simp)
   have h2:=(h b).2 (by simp)
   rcases List.mem_cons.1 h1 with h1 | h1
   ·exact h1
   ·rcases List.mem_cons.1 h2 with h2 | h2
    ·exact h2.symm
    ·have h3:=hA.1 b h2
     have h4:=hB.1 a h1
     omega
  subst e
  rw[zJ hA.2 hB.2 fun x=>⟨fun hx=>?_,fun hx=>?_⟩]
  ·rcases List.mem_cons.1 ((h x).1 (by simp[hx]))with h1 | h1
   ·subst h1;exact absurd (hA.1 x hx) (Int.lt_irrefl _)
   ·exact h1
  ·rcases List.mem_cons.1 ((h x).2 (by simp[hx]))with h1 | h1
   ·subst h1;exact absurd (hB.1 x hx) (Int.lt_irrefl _)
   ·exact h1
theorem FY{α:Type}{eE:α->Bool}{num:α->Int}{l:List α}(h:gT eE num l=true):l.Pairwise fun a b=>num a<num b:=by
 have h:=jJ.1 h
 rw[List.pairwise_iff_getElem]
 intro i j hi hj bL
 induction j with
 |zero=>omega
 |succ j ih=>
  have h1:=(h (j+1) hj hj).2 (by omega)
  simp only[Nat.add_sub_cancel]at h1
  by_cases e:i=j
  ·subst e;exact h1
  ·exact Int.lt_trans (ih (by omega) (by omega)) h1
theorem zP{l:Led}(aa:bN l)(k:Int):(aN l k).Pairwise fun a b=>a.so<b.so:=by
 unfold aN
 exact(FY aa.ss).filter _
theorem Af{l:List Sig}(h:l.Pairwise fun a b=>a.so<b.so){x y:Sig}(hx:x∈l)(hy:y∈l)(e:x.so=y.so):x=y:=by
 obtain⟨i,hi,rfl⟩:=List.getElem_of_mem hx
 obtain⟨j,hj,rfl⟩:=List.getElem_of_mem hy
 rw[List.pairwise_iff_getElem]at h
 rcases Nat.lt_trichotomy i j with h1 | h1 | h1
 ·have:=h i j hi hj h1;omega
 ·subst h1;rfl
 ·have:=h j i hj hi h1;omega
structure Ms (x:Vw) (d:Ds) (L:List Sig) (i:Int) (e:Int×Int):Prop where
 b1:(bh d i).1<=e.1
 b2:e.2<=(bh d i).2
 s1:∀ s∈L,(bt x s).1=i->(bt x s).2.lo<=e.1/\e.2<=(bt x s).2.hi
 a1:e.1=(bh d i).1\/∃ s∈L,(bt x s).1=i/\(bt x s).2.lo=e.1
 a2:e.2=(bh d i).2\/∃ s∈L,(bt x s).1=i/\(bt x s).2.hi=e.2
theorem Nd(x:Vw)(d:Ds)(s:Sig)(i:Int):bh (oc x d s) i=if (bt x s).1=i/\0<=i then(cB (bh d i).1 (bt x s).2.lo,fE (bh d i).2 (bt x s).2.hi)else bh d i:=by
 unfold oc
 split
 ·unfold nE
  rw[yk]
  split
  ·rename_i h e;subst e;rw[if_pos ⟨rfl,h⟩]
  ·rename_i h e;rw[if_neg fun h2=>e h2.1]
 ·rename_i h
  rw[if_neg fun h2=>h (by omega)]
theorem p6(x:Vw)(i:Int)(hi:0<=i):∀ (L:List Sig) (d:Ds),Ms x d L i (bh (dD x d L) i)
 |[],d=>⟨Int.le_refl _,Int.le_refl _,fun s h=>by simp at h,.inl rfl,.inl rfl⟩
 |s::L,d=>by
  have ih:=p6 x i hi L (oc x d s)
  show Ms x d (s::L) i (bh (dD x (oc x d s) L) i)
  generalize bh (dD x (oc x d s) L) i=e at ih
  obtain⟨b1,b2,s1,a1,a2⟩:=ih
  rw[Nd]at b1 b2 a1 a2
  by_cases h:(bt x s).1=i/\0<=i
  ·rw[if_pos h]at b1 b2 a1 a2
   simp only[cB,fE]at b1 b2 a1 a2
   refine⟨by split at b1<;>omega,by split at b2<;>omega,fun t ht hw=>?_,?_,?_⟩
   ·rcases List.mem_cons.1 ht with rfl | ht
    ·exact⟨by split at b1<;>omega,by split at b2<;>omega⟩
    ·exact s1 t ht hw
   ·rcases a1 with a1 | ⟨t,ht,h1,h2⟩
    ·split at a1
     ·exact .inr ⟨s,by simp,h.1,a1.symm⟩
     ·exact .inl a1
    ·exact .inr ⟨t,by simp[ht],h1,h2⟩
   ·rcases a2 with a2 | ⟨t,ht,h1,h2⟩
    ·split at a2
     ·exact .inr ⟨s,by simp,h.1,a2.symm⟩
     ·exact .inl a2
    ·exact .inr ⟨t,by simp[ht],h1,h2⟩
  ·rw[if_neg h]at b1 b2 a1 a2
   refine⟨b1,b2,fun t ht hw=>?_,?_,?_⟩
   ·rcases List.mem_cons.1 ht with rfl | ht
    ·exact(h ⟨hw,hi⟩).elim
    ·exact s1 t ht hw
   ·rcases a1 with a1 | ⟨t,ht,h1,h2⟩
    ·exact .inl a1
    ·exact .inr ⟨t,by simp[ht],h1,h2⟩
   ·rcases a2 with a2 | ⟨t,ht,h1,h2⟩
    ·exact .inl a2
    ·exact .inr ⟨t,by simp[ht],h1,h2⟩
theorem vq(x:Vw)(L:List Sig):cU x L=true↔(∀ s∈L,gF x s=true)/\∀ i∈x.ts,(bh (dD x x.ds L) i).1<=(bh (dD x x.ds L) i).2:=by
 unfold cU sN
 rw[Bool.and_eq_true,List.all_eq_true,List.all_eq_true]
 simp only[decide_eq_true_eq]
variable {x:Vw}
theorem vp(hx:∀ i∈x.ts,0<=i){L L':List Sig}(h:∀ s∈L',s∈L)(hf:cU x L=true):cU x L'=true:=by
 rw[vq]at hf |-
 refine⟨fun s hs=>hf.1 s (h s hs),fun i hi=>?_⟩
 have h1:=p6 x i (hx i hi) L x.ds
 have h2:=p6 x i (hx i hi) L' x.ds
 have h3:=hf.2 i hi
 generalize bh (dD x x.ds L) i=e at *
 generalize bh (dD x x.ds L') i=e' at *
 have k1:e'.1<=e.1:=by
  rcases h2.a1 with h4 | ⟨s,hs,h4,h5⟩
  ·rw[h4];exact h1.b1
  ·rw[<-h5];exact(h1.s1 s (h s hs) h4).1
 have k2:e.2<=e'.2:=by
  rcases h2.a2 with h4 | ⟨s,hs,h4,h5⟩
  ·rw[h4];exact h1.b2
  ·rw[<-h5];exact(h1.s1 s (h s hs) h4).2
 omega
theorem Ue(hx:∀ i∈x.ts,0<=i)(hb:∀ i∈x.ts,(bh x.ds i).1<=(bh x.ds i).2){L:List Sig}(hf:cU x L=false):(∃ s∈L,cU x [s]=false)\/∃ s∈L,∃ t∈L,cU x [s,t]=false:=by
 have hn:¬ ((∀ s∈L,gF x s=true)/\∀ i∈x.ts,(bh (dD x x.ds L) i).1<=(bh (dD x x.ds L) i).2):=fun h=>by
  have :=(vq x L).2 h
  rw[hf]at this;cases this
 by_cases hm:∀ s∈L,gF x s=true
 ·have sA:∃ i∈x.ts,¬ (bh (dD x x.ds L) i).1<=(bh (dD x x.ds L) i).2:=by
    refine Classical.byContradiction fun h=>hn ⟨hm,fun i hi=>?_⟩
    exact Classical.byContradiction fun h2=>h ⟨i,hi,h2⟩
  obtain⟨i,hi,B8⟩:=sA
  have qy:=hx i hi
  have hl:=p6 x i qy L x.ds
  have hbi:=hb i hi
  generalize bh (dD x x.ds L) i=e at *
  have key:∀ L':List Sig,cU x L'=true->(bh (dD x x.ds L') i).1<=(bh (dD x x.ds L') i).2:=fun L' h=>((vq x L').1 h).2 i hi
  rcases hl.a1 with h1 | ⟨s,hs,h1,eB⟩
  ·rcases hl.a2 with h2 | ⟨t,ht,h2,po⟩
   ·omega
   ·refine .inl ⟨t,ht,Bool.eq_false_iff.2 fun h=>?_⟩
    have h3:=key [t] h
    have h4:=p6 x i qy [t] x.ds
    have h5:=h4.s1 t (by simp) h2
    have h6:=h4.b1
    omega
  ·rcases hl.a2 with h2 | ⟨t,ht,h2,po⟩
   ·refine .inl ⟨s,hs,Bool.eq_false_iff.2 fun h=>?_⟩
    have h3:=key [s] h
    have h4:=p6 x i qy [s] x.ds
    have h5:=h4.s1 s (by simp) h1
    have h6:=h4.b2
    omega
   ·refine .inr ⟨s,hs,t,ht,Bool.eq_false_iff.2 fun h=>?_⟩
    have h3:=key [s,t] h
    have h4:=p6 x i qy [s,t] x.ds
    have h5:=h4.s1 s (by simp) h1
    have h6:=h4.s1 t (by simp) h2
    omega
 ·have:∃ s∈L,¬ gF x s=true:=Classical.byContradiction fun h=>hm fun s hs=>Classical.byContradiction fun h2=>h ⟨s,hs,h2⟩
  obtain⟨s,hs,h⟩:=this
  refine .inl ⟨s,hs,Bool.eq_false_iff.2 fun h2=>h (((vq x [s]).1 h2).1 s (by simp))⟩
theorem zE(l:Led)(k:Int):∀ i∈(aW l k).ts,0<=i:=by
 intro i hi
 exact((rH l k).tl i hi).1
theorem Lk{l:Led}(aa:bN l){k:Int}(h0:jI (bV l k)=none):∀ i∈(aW l k).ts,(bh (aW l k).ds i).1<=(bh (aW l k).ds i).2:=by
 have h:=(Vv l k _).2 (W7 aa h0)
 unfold sN at h
 rw[List.all_eq_true]at h
 exact fun i hi=>by simpa using h i hi
theorem Vu{l:Led}(aa:bN l){k:Int}(h0:jI (bV l k)=none):cU (aW l k) []=true:=(vq _ _).2 ⟨fun s h=>(nomatch h),Lk aa h0⟩
theorem WI{l:Led}(aa:bN l){k:Int}(h0:jI (bV l k)=none)(hf:cU (aW l k) (aN l k)=false):
 (∃ s∈aN l k,cU (aW l k) [s]=false/\gq l k=[s.so])\/
 ∃ s∈aN l k,∃ t∈aN l k,s.so<t.so/\cU (aW l k) [s]=true/\cU (aW l k) [t]=true/\cU (aW l k) [s,t]=false/\gq l k=[s.so,t.so]:=by
 have hx:=zE l k
 have jx:=zP aa k
 unfold gq
 cases xN:(aN l k).find? (om l k)with
 |some s=>
  refine .inl ⟨s,List.mem_of_find?_eq_some xN,?_,rfl⟩
  have :=List.find?_some xN
  unfold om at this
  simpa using this
 |none=>
  rw[List.find?_eq_none]at xN
  have h1:∀ s∈aN l k,cU (aW l k) [s]=true:=fun s hs=>by
   have :=xN s hs
   unfold om at this
   simpa using this
  right
  have hex:∃ i j,∃ (hi:i<(aN l k).length) (hj:j<(aN l k).length),i<j/\km l k (aN l k)[i] (aN l k)[j]=true:=by
   rcases Ue hx (Lk aa h0) hf with⟨s,hs,h⟩ | ⟨s,hs,t,ht,h⟩
   ·rw[h1 s hs]at h;cases h
   ·obtain⟨i,hi,rfl⟩:=List.getElem_of_mem hs
    obtain⟨j,hj,rfl⟩:=List.getElem_of_mem ht
    rcases Nat.lt_trichotomy i j with bL | bL | bL
    ·exact⟨i,j,hi,hj,bL,by unfold km;rw[h];rfl⟩
    ·subst bL
     have :=vp hx (L':=[(aN l k)[i],(aN l k)[i]]) (fun s hs=>by simpa using hs) (h1 _ hs)
     rw[h]at this;cases this
    ·refine⟨j,i,hj,hi,bL,?_⟩
     unfold km
     rw[Bool.not_eq_true',Bool.eq_false_iff]
     intro h2
     have :=vp hx (L':=[(aN l k)[i],(aN l k)[j]]) (fun s hs=>by simp at hs |-;exact hs.symm) h2
     rw[h]at this;cases this
  simp only[]
  rw[FA]
  cases hp:fQ (km l k) (aN l k)with
  |none=>
   obtain⟨i,j,hi,hj,bL,h⟩:=hex
   rw[rV hp i j hi hj bL]at h;cases h
  |some q=>
   obtain⟨i,j,hi,hj,bL,rfl,hc,_,_⟩:=pS hp
   refine⟨_,List.getElem_mem hi,_,List.getElem_mem hj,?_,h1 _ (List.getElem_mem hi),h1 _ (List.getElem_mem hj),?_,rfl⟩
   ·exact(List.pairwise_iff_getElem.1 jx) i j hi hj bL
   ·unfold km at hc
    simpa using hc
theorem Nl{l:Led}(aa:bN l)(k:Int){s:Sig}(hs:s∈aN l k):gB l k [s.so]=[s]:=by
 have jx:=zP aa k
 refine zJ (f:=Sig.so) (jx.filter _) (by simp) fun x=>?_
 unfold gB
 rw[List.mem_filter]
 simp only[List.contains_iff_mem,List.mem_singleton]
 exact⟨fun h=>Af jx h.1 hs h.2,fun h=>by subst h;exact⟨hs,rfl⟩⟩
theorem Nk{l:Led}(aa:bN l)(k:Int){s t:Sig}(hs:s∈aN l k)(ht:t∈aN l k)(ab:s.so<t.so):gB l k [s.so,t.so]=[s,t]:=by
 have jx:=zP aa k
 refine zJ (f:=Sig.so) (jx.filter _) (by simp[ab]) fun x=>?_
 unfold gB
 rw[List.mem_filter]
 simp only[List.contains_iff_mem,List.mem_cons,List.not_mem_nil,or_false]
 constructor
 ·rintro⟨h,h1 | h1⟩
  ·exact .inl (Af jx h hs h1)
  ·exact .inr (Af jx h ht h1)
 ·rintro(h | h)
  ·subst h;exact⟨hs,.inl rfl⟩
  ·subst h;exact⟨ht,.inr rfl⟩
theorem O'(a:Int):jm [a]=true:=rP.2 fun j hj h0=>by simp at hj;omega
theorem O9{a b:Int}(h:a<b):jm [a,b]=true:=rP.2 fun j hj h0=>by
 simp at hj
 have :j=1:=by omega
 subst this
 exact h
theorem WL{l:Led}(aa:bN l){k:Int}(h0:jI (bV l k)=none)(hf:cU (aW l k) (aN l k)=false):mf l k (gq l k)=true/\((gq l k).length=1\/(gq l k).length=2):=by
 have Vj:=Vu aa h0
 rcases WI aa h0 hf with⟨s,hs,h1,e⟩ | ⟨s,hs,t,ht,ab,h1,h2,h3,e⟩
 ·rw[e]
  unfold mf
  rw[Nl aa k hs,O',h1]
  refine⟨?_,.inl rfl⟩
  simp[Vj]
 ·rw[e]
  unfold mf
  rw[Nk aa k hs ht ab,O9 ab,h3]
  refine⟨?_,.inr rfl⟩
  simp only[List.length_cons,List.length_nil,beq_self_eq_true,Bool.true_and,Bool.not_false,List.all_eq_true,List.mem_range]
  intro i hi
  match i,hi with
  | 0,_=>exact h2
  | 1,_=>exact h1
theorem WM{l:Led}{k:Int}(hf:cU (aW l k) (aN l k)=true)(az:List Int):mf l k az=false:=by
 have h:cU (aW l k) (gB l k az)=true:=vp (zE l k) (fun s hs=>(List.mem_filter.1 hs).1) hf
 unfold mf
 rw[h]
 simp
theorem WH{l:Led}{k:Int}(hf:cU (aW l k) (aN l k)=true):gq l k=[]:=by
 have hx:=zE l k
 unfold gq
 have h1:(aN l k).find? (om l k)=none:=List.find?_eq_none.2 fun s hs=>by
  unfold om
  rw[vp hx (L':=[s]) (fun t ht=>by simp at ht;subst ht;exact hs) hf]
  decide
 rw[h1]
 simp only[]
 rw[FA]
 cases hp:fQ (km l k) (aN l k)with
 |none=>rfl
 |some q=>
  obtain⟨i,j,hi,hj,bL,rfl,hc,_,_⟩:=pS hp
  unfold km at hc
  rw[vp hx (L':=[(aN l k)[i],(aN l k)[j]]) (fun t ht=>by
   simp only[List.mem_cons,List.not_mem_nil,or_false]at ht
   rcases ht with rfl | rfl<;>exact List.getElem_mem _) hf]at hc
  cases hc
theorem Fa{l:Led}(aa:bN l)(k:Int):(bx l k).Pairwise fun a b=>a.so<b.so:=by
 unfold bx
 exact(FY aa.rs).filter _
theorem Fm{l:List Rec}(h:l.Pairwise fun a b=>a.so<b.so){i:Nat}(hi:i<l.length):cV l l[i].so=some l[i]:=by
 unfold cV
 rw[List.find?_eq_some_iff_getElem]
 refine⟨by simp,i,hi,rfl,fun j hj=>?_⟩
 have :=(List.pairwise_iff_getElem.1 h) j i (by omega) hi hj
 simp;omega
theorem WQ{l:Led}(aa:bN l){k:Int}{p:Int×Int}(h:fe (aW l k)=some p):gb l k [p.1,p.2]=true:=by
 have jx:=Fa aa k
 rw[Al,uh]at h
 cases hp:fQ (fZ (aW l k)) (bx l k)with
 |none=>rw[hp]at h;cases h
 |some q=>
  rw[hp]at h
  obtain⟨i,j,hi,hj,bL,rfl,hc,_,_⟩:=pS hp
  simp only[Option.map_some,Option.some.injEq]at h
  subst h
  have ab:=(List.pairwise_iff_getElem.1 jx) i j hi hj bL
  unfold gb
  simp only[uh,Fm jx hi,Fm jx hj,hc,Bool.and_true,Bool.not_eq_true',decide_eq_false_iff_not]
  omega
theorem WR{l:Led}(aa:bN l){k:Int}(h:fe (aW l k)=none)(az:List Int):gb l k az=false:=by
 have jx:=Fa aa k
 rw[Al,uh,Option.map_eq_none_iff]at h
 unfold gb
 split
 ·rename_i a b
  rw[uh]
  split
  ·rename_i p q h1 h2
   obtain⟨m1,e1⟩:=fC h1
   obtain⟨m2,e2⟩:=fC h2
   by_cases pk:a>=b
   ·rw[decide_eq_true pk];rfl
   ·rw[decide_eq_false pk]
    obtain⟨i,hi,rfl⟩:=List.getElem_of_mem m1
    obtain⟨j,hj,rfl⟩:=List.getElem_of_mem m2
    have bL:i<j:=by
     rcases Nat.lt_trichotomy i j with h3 | h3 | h3
     ·exact h3
     ·subst h3;omega
     ·have:=(List.pairwise_iff_getElem.1 jx) j i hj hi h3;omega
    rw[rV h i j hi hj bL];rfl
  ·simp
 ·rfl
theorem M4{l:Led}{k:Int}(hd:dE l [k]=0):
 (pO l k=.tup [.bool true,vInt 0]/\qU l k=.tup [.sl [],vInt 28]/\jd l k=28/\(∀ az,td l k az=28)/\∀ az,mU l k az=28)\/
 (∃ p:Int×Int,pO l k=.tup [.bool false,vInt 0]/\qU l k=.tup [.sl [vInt p.1,vInt p.2],vInt 0]/\jd l k=25/\td l k [p.1,p.2]=0)\/
 (pO l k=.tup [.bool false,vInt 0]/\qU l k=.tup [.sl [],vInt 28]/\jd l k=0/\((((mb l k).length:Int)==1)||(((mb l k).length:Int)==2))=true/\mU l k (mb l k)=0):=by
 obtain⟨aa,_⟩:=s4 hd
 unfold pO qU jd mb mU td gi tL
 simp only[if_pos hd,p0]
 cases hp:fe (aW l k)with
 |some p=>
  right;left
  refine⟨p,?_⟩
  simp only[WQ aa hp]
  exact⟨by first | rfl | trivial,by first | rfl | trivial,by first | rfl | trivial,by first | rfl | trivial⟩
 |none=>
  have h0:jI (bV l k)=none:=by rw[<-Pv];exact hp
  have hc:∀ az,gb l k az=false:=WR aa hp
  cases hf:cU (aW l k) (aN l k)with
  |true=>
   left
   simp only[hc,WM hf,WH hf]
   exact⟨by first | rfl | trivial,by first | rfl | trivial,by first | rfl | trivial,fun _=>by first | rfl | trivial,fun _=>by first | rfl | trivial⟩
  |false=>
   right;right
   obtain⟨h1,h2⟩:=WL aa h0 hf
   have aC:gq l k≠[]:=by
    intro e;rw[e]at h2;simp at h2
   refine⟨by first | rfl | trivial,by first | rfl | trivial,?_,?_,?_⟩
   ·simp[aC]
   ·simp only[Option.isSome_none,Bool.false_eq_true,if_false,if_true]
    rcases h2 with h2 | h2<;>rw[h2]<;>rfl
   ·simp[h1,dh]
noncomputable section
def Gs(f:FuncId):Option SpecB:=
 match Nat.beq f 132 with
 |true=>some (yx Tryz.prog 29)
 |false=>match Nat.beq f 176 with
  |true=>some (yx Tryz.prog 26)
  |false=>match Nat.beq f 177 with
   |true=>some (yx Tryz.prog 27)
   |false=>match Nat.beq f 178 with
    |true=>some (yx Tryz.prog 28)
    |false=>match Nat.beq f 179 with
     |true=>some Wm
     |false=>none
def A8(_:FuncId->Option SpecB)(f:FuncId):Option SpecB:=Gs f
theorem Wp:aT Tryz.prog 179 pCloneI:=Wl Ws rfl
theorem Ry:∀ Γ:FuncId->Option SpecB,(∀ f s,bd Γ f=some s->aK Tryz.prog f s)->∀ f s,A8 Γ f=some s->aK Tryz.prog f s.spec:=by
 intro Γ _ f s h
 unfold A8 Gs at h
 split at h
 ·rename_i hb;have:=Nat.eq_of_beq_eq_true hb;subst this;cases h;exact s7 KW
 ·split at h
  ·rename_i hb;have:=Nat.eq_of_beq_eq_true hb;subst this;cases h;exact s7 WB
  ·split at h
   ·rename_i hb;have:=Nat.eq_of_beq_eq_true hb;subst this;cases h;exact s7 Wy
   ·split at h
    ·rename_i hb;have:=Nat.eq_of_beq_eq_true hb;subst this;cases h;exact s7 Wv
    ·split at h
     ·rename_i hb;have:=Nat.eq_of_beq_eq_true hb;subst this;cases h;exact Wp.sound
     ·cases h
def GU(F:List Nat)(T:List Ent):FuncId->Option SpecB:=ΓB Tryz.prog (Dl Tryz.prog A8 100000 F T) 100000 24
theorem Rv{F:List Nat}{T:List Ent}(hT:∀ e∈T,aO Tryz.prog e):∀ f s,bd (GU F T) f=some s->aK Tryz.prog f s:=
 DZ (W8 (fun Γ h f s=>Ry Γ h f s) hT) 24
theorem cr{F:List Nat}{T:List Ent}(hT:∀ e∈T,aO Tryz.prog e){e:Ent}(h:z5 Tryz.prog (GU F T) 100000 e=true):aO Tryz.prog e:=O4 (Rv hT) h
theorem cz{P:Program}{e:Ent}{T:List Ent}(h:aO P e)(hT:∀ e∈T,aO P e):∀ x∈e::T,aO P x:=by
 intro x hx
 rcases List.mem_cons.1 hx with rfl | hx
 ·exact h
 ·exact hT x hx
def HB:List Ent:=[]
theorem Ik:∀ e∈HB,aO Tryz.prog e:=fun e h=>by cases h
end
end Go.Eng
