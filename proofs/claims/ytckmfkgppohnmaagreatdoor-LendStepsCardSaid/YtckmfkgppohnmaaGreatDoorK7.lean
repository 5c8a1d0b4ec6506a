import Derived.Test.YtckmfkgppohnmaaGreatDoorK6
/- Texts EngGe to NW30. -/
set_option linter.all false
namespace Go.Eng
open Go
theorem OE{σ:S}(b nm:Name)(i k sz:Nat)(cs:List D)(L:List V)(hb:σ.obj b=some (.box cs))(hi:cs[i]?=some (.msl nm k))(hn:σ.obj nm=some (.arr sz L))(hk:k=L.length):
 cD σ ⟨σ.nt,σ.env,upd (upd σ.obj nm (some (.farr sz L))) b (some (.box (cs.set i (.v (.sl L))))),σ.pre,σ.base⟩:=by
 intro G φ m a w hC
 have aq:b≠nm:=fun e=>by subst e;rw[hb]at hn;cases hn
 obtain⟨h1,h2,h3,us,T,f,h4,h5,h6,h7⟩:=hC.objs b _ hb
 obtain⟨fA,Dd⟩:=List.getElem?_eq_some_iff.1 hi
 have h0:i<us.size:=by omega
 have h8:=h7 i fA h0
 rw[Dd]at h8
 have cq:au 6 σ.obj (.msl nm k)=⟨k=L.length,.sl L,upd σ.obj nm (some (.farr sz L))⟩:=by simp only[au,hn]
 obtain⟨m2,k1,k2,k3,k4,_⟩:=l4 6 _ _ _ _ _ _ hC _ _ h8 (by rw[cq];exact hk)
 rw[cq]at k2 k3 k4
 simp only at k2 k3 k4
 have cJ:(upd σ.obj nm (some (.farr sz L))) b=some (.box cs):=by rw[aI _ _ _ aq];exact hb
 have gM:=Ext.same (φ:=φ) (o':=.box (cs.set i (.v (.sl L)))) cJ rfl rfl
 have qI:=gM
 rw[dX]at qI
 refine⟨_,m2,k2.chg (w':=w) b (.box (cs.set i (.v (.sl L)))) _ gM ⟨rfl,rfl,rfl,Nat.le_refl _⟩ (fun _ _ _=>rfl) (fun _=>.inr ⟨⟨_,cJ,rfl,h2⟩,rfl⟩) ?_⟩
 rw[dX]
 refine⟨h1,h2,fun d hd=>?_,us,T,f,h4,h5,by simpa using h6,fun j hj ej=>?_⟩
 ·rcases List.mem_or_eq_of_mem_set hd with h | h
  ·exact h3 d h
  ·subst h;rfl
 ·simp only[List.length_set]at hj
  rw[List.getElem_set]
  by_cases eC:i=j
  ·subst eC
   rw[if_pos rfl]
   exact .v _ _ k4
  ·rw[if_neg eC]
   exact((h7 j hj ej).ext k1 k3).ext (Mem.le_refl m2) qI
theorem lu{σ τ:S}(b nm:Name)(i k sz:Nat)(cs:List D)(L:List V)(hb:σ.obj b=some (.box cs))(hi:cs[i]?=some (.msl nm k))(hn:σ.obj nm=some (.arr sz L))(hk:k=L.length)(ks:List Nat)(ns:List Name)
 (h:eN ks ns ⟨σ.nt,σ.env,upd (upd σ.obj nm (some (.farr sz L))) b (some (.box (cs.set i (.v (.sl L))))),σ.pre,σ.base⟩)
 (fH:eT ks ns ⟨σ.nt,σ.env,upd (upd σ.obj nm (some (.farr sz L))) b (some (.box (cs.set i (.v (.sl L))))),σ.pre,σ.base⟩=τ):cD σ τ:=
 (OE b nm i k sz cs L hb hi hn hk).trans (lr ks ns h fH)
open Go Go.Proofs
theorem Hy(l:List Int):∀ y∈l.map vInt,y.cells.length=1/\y.okc=true:=by
 intro y hy;obtain⟨x,_,rfl⟩:=List.mem_map.1 hy;exact⟨rfl,rfl⟩
theorem Hw(l:List Par):∀ y∈l.map encPa,y.cells.length=2/\y.okc=true:=by
 intro y hy;obtain⟨x,_,rfl⟩:=List.mem_map.1 hy;exact⟨rfl,rfl⟩
theorem ah{p:Prop}(h:p:=by first | exact Hy _ | exact Hw _ | ((repeat' apply And.intro)<;>first | rfl | omega | (unfold maxLen;omega) | trivial | decide | exact Hy _ | exact Hw _) | exact ob):p:=h
def pM(s:Stk):List D:=[.v (vInt s.se.a),.v (vInt s.se.b),.v (vInt s.se.c),.v (vInt s.se.d),.v (vInt s.se.e),.v (vInt s.se.f),.v (vInt s.ta.a),.v (vInt s.ta.b),.v (vInt s.ta.c),.v (vInt s.ta.d),.v (vInt s.ta.e),.v (vInt s.ta.f)]
def hM(s:Stk)(z:Nat):List D:=.v (fa s.ho)::(if 0<z then .v (rowP s.un.a)else .nilsl)::(if 1<z then .v (rowP s.un.b)else .nilsl)::(if 2<z then .v (rowP s.un.c)else .nilsl)::
 (if 3<z then .v (rowP s.un.d)else .nilsl)::(if 4<z then .v (rowP s.un.e)else .nilsl)::(if 5<z then .v (rowP s.un.f)else .nilsl)::pM s
theorem xT{α:Type}{C:List α}{x:α}{n:Nat}(h:n<C.length):(List.take n C++[x]++List.drop (n+1) C)[n]?=some x:=by
 rw[List.append_assoc,List.getElem?_append_right (by rw[List.length_take];omega),List.length_take,Nat.min_eq_left (by omega),Nat.sub_self]
 rfl
theorem o3{α:Type}{C:List α}{x y:α}{n:Nat}(h:n<C.length):(List.take n C++[x]++List.drop (n+1) C).set n y=List.take n C++[y]++List.drop (n+1) C:=by
 rw[List.append_assoc,List.set_append_right _ _ (by rw[List.length_take];omega),List.length_take,Nat.min_eq_left (by omega),Nat.sub_self,List.append_assoc]
 rfl
theorem Mf(s:Stk){i:Nat}(h:i<6):List.take (1+i) (hM s i)++[D.v (.sl ((s.un.get i).map encPa))]++List.drop (1+i+1) (hM s i)=hM s (i+1):=by
 match i,h with
 | 0,_=>rfl
 | 1,_=>rfl
 | 2,_=>rfl
 | 3,_=>rfl
 | 4,_=>rfl
 | 5,_=>rfl
theorem Mg(s:Stk):hM s 6=(ax s).map .v:=rfl
@[go_sem] theorem aeM(s:Stk)(z:Nat):(hM s z).length=19:=rfl
theorem YQ(dom:Name->Bool)(p:Prop)[Decidable p](l:List V):D.clos dom (if p then .v (.sl l)else .nilsl)=true:=by
 split<;>rfl
@[go_sem] theorem YJ(dom:Name->Bool)(s:Stk)(z:Nat):D.closL dom (hM s z)=true:=by
  simp only[hM,pM,D.closL,D.clos,YQ,Bool.and_self,rowP]
noncomputable def P62:PSpec:=p1 de (fun s=>gp s) (fun s=>jg s) false
noncomputable def S62:Spec:=P62.toSpec
attribute [go_sem] P62 S62
set_option maxHeartbeats 4000000 in
theorem Qw:aL Tryz.prog 62 P62:=by
 refine w1 (rs:=[.cell 2 27]) Tryz.func62 Tryz.ntmps62 (by rfl) (by kernel_rfl) (by decide) (fun h=>by cases h) ⟨_,rfl,lb rfl,fun s hp hw=>?_⟩
 have hP:=aU
 simp only[de]at hw |-
 have hΓ:=@j9 Tryz.prog
 have a8:gp s:=hp
 have yz:=a8.1
 repeat refine sq ?_
 refine rx hΓ [1,2] [[1,0],[2,0],[8,0],[24,0]] (fun K' hK=>by simp only[go_sem];(repeat (refine⟨ah,?_⟩));exact hK _ (by simp only[go_sem]) (by simp only[go_sem]<;>rfl)) ?_
 refine aF (bo [1,0] (ax s) rfl [1,2] [[1,0],[2,0],[8,0],[24,0]] ?_ rfl) ?_
 ·simp only[go_sem]
 simp only[go_sem]
 repeat refine sq ?_
 refine dx hΓ hP [[],[],[1],[0,1,2],[],[4],[],[6],[0,1,2,3,4,5,6,7],[],[0,1,2,3,4,5,6,7,8,9]] [1,2,3] [[1,0],[2,0],[3,0],[8,0],[24,0]] (by kernel_rfl) (fun K' hK=>by simp only[go_sem,bg.L,id_eq];(repeat (refine⟨ah,?_⟩));(first | refine⟨by rfl,?_⟩ | skip);exact hK _ (by simp only[go_sem]) (by simp only[go_sem]<;>rfl)) ?_
 refine aF (lu [3,0] [8,0] 0 _ _ _ _ rfl rfl rfl (by first | rfl | (simp only[List.length_map];done)) [1,2,3] [[1,0],[2,0],[3,0]] ?_ rfl) ?_
 ·simp only[go_sem,List.set_cons_succ,List.set_cons_zero]
 simp only[go_sem,List.set_cons_succ,List.set_cons_zero]
 repeat refine sq ?_
 refine rx hΓ [1,2,3,4] [[1,0],[2,0],[3,0],[8,0],[24,0]] (fun K' hK=>by simp only[go_sem];(repeat (refine⟨ah,?_⟩));exact hK _ (by simp only[go_sem]) (by simp only[go_sem]<;>rfl)) ?_
 repeat refine sq ?_
 refine aN ?_
 repeat refine sq ?_
 refine cB (fun z:Nat=>[(4,⟨true,.v (vInt z)⟩)]) (fun z=>[([3,0],.box (hM s z))]) (fun z=>z<=6) (fun z=>6-z) 0 ?_ ?_ ?_ ?_
 ·exact Nat.zero_le _
 ·rfl
 ·rfl
 rintro i hi
 simp only[go_sem]
 repeat refine sq ?_
 refine rx hΓ [1,2,3,4,15] [[1,0],[2,0],[3,0],[8,0],[24,0]] (fun K' hK=>by simp only[go_sem];(repeat (refine⟨ah,?_⟩));exact hK _ (by simp only[go_sem]) (by simp only[go_sem]<;>rfl)) ?_
 repeat refine sq ?_
 refine aw rfl rfl (fun hb=>?_) (fun hb=>?_)
 ·have ae:i<6:=by have hq:(i:Int)<6:=(by simpa using hb);omega
  have aj:(i:Int)<6:=by omega
  clear hb
  have gw:=a8.2 i ae
  repeat refine sq ?_
  refine ay ?_
  repeat refine sq ?_
  refine aN ?_
  repeat refine sq ?_
  refine aS hΓ fun K' hK=>?_
  simp only[go_sem,Int.toNat_natCast,Int.natCast_nonneg,aj,cL s ae,Int.toNat_natCast,Int.natCast_nonneg,aj]
  repeat (refine⟨ah,?_⟩)
  refine hK _ ?_
  clear K' hK
  refine aF (lu [3,0] [24,0] (1+i) _ _ _ _ rfl (xT (by show 1+i<19;omega)) rfl (by simp only[List.length_map]) [1,2,3,4] [[1,0],[2,0],[3,0]] ?_ rfl) ?_
  ·simp only[go_sem,o3 (show 1+i<(hM s i).length by show 1+i<19;omega),Mf s ae]
  simp only[o3 (show 1+i<(hM s i).length by show 1+i<19;omega),Mf s ae]
  simp only[go_sem]
  refine kp [1,2,3,4] [[1,0],[2,0],[3,0],[8,0],[24,0]] ?_
  repeat refine sq ?_
  refine aS hΓ fun K' hK=>?_
  simp only[go_sem,Int.toNat_natCast,Int.natCast_nonneg,aj]
  repeat (refine⟨ah,?_⟩)
  refine hK _ ?_
  clear K' hK
  simp only[go_sem]
  refine⟨i+1,ae,by(show 6-(i+1)<6-i;omega),?_⟩
  refine bk [1,2,3,4] [[1,0],[2,0],[3,0],[8,0],[24,0]] ?_ ?_
  ·simp only[go_sem,aE ae (lb rfl:(6:Nat)<=maxLen),Int.natCast_add,Int.natCast_one]
  ·simp only[go_sem,aE ae (lb rfl:(6:Nat)<=maxLen),Int.natCast_add,Int.natCast_one]
 ·have aX:i=6:=by
   have :¬ (i:Int)<6:=by simpa using hb
   omega
  clear hb
  subst aX
  repeat refine sq ?_
  refine b7 ?_
  simp only[go_sem]
  refine kp [2,3] [[2,0],[3,0],[8,0],[24,0]] ?_
  repeat refine sq ?_
  refine rx hΓ [2] [[2,0],[8,0],[24,0]] (fun K' hK=>by simp only[go_sem,Mg,List.append_nil];(repeat (refine⟨ah,?_⟩));exact hK _ (by simp only[go_sem]) (by simp only[go_sem]<;>rfl)) ?_
  refine aF (bo [2,0] (ax s) rfl [2] [[2,0],[8,0],[24,0]] ?_ rfl) ?_
  ·simp only[go_sem]
  simp only[go_sem]
  refine ar ?_
  simp only[go_sem]
  skip
theorem qv:ak Tryz.prog 62 S62:=Qw.sound
theorem Ar{σ:S}(b:Name)(cs:List D)(l:List V)(hb:σ.obj b=some (.box cs))(hl:kS cs=some l):cD σ ⟨σ.nt,σ.env,upd σ.obj b (some (.box (l.map .v))),σ.pre,σ.base⟩:=by
 intro G φ m a w hC
 obtain⟨h1,h2,h3,us,T,f,h4,h5,h6,h7⟩:=hC.objs b _ hb
 obtain⟨hlen,kK⟩:=E6 hl
 have gM:=Ext.same (φ:=φ) (o':=.box (l.map .v)) hb rfl rfl
 have qI:=gM
 rw[dX]at qI
 refine⟨_,m,hC.chg (w':=w) b (.box (l.map .v)) _ gM ⟨rfl,rfl,rfl,Nat.le_refl _⟩ (fun _ _ _=>rfl) (fun _=>.inr ⟨⟨_,hb,rfl,h2⟩,rfl⟩) ?_⟩
 rw[dX]
 refine⟨h1,h2,fun d hd=>?_,us,T,f,h4,h5,by rw[List.length_map,hlen];exact h6,fun j hj ej=>?_⟩
 ·obtain⟨x,hx,rfl⟩:=List.mem_map.1 hd
  obtain⟨i,hi,rfl⟩:=List.getElem_of_mem hx
  exact Nh (kK i (by omega) hi) (h3 _ (List.getElem_mem _))
 ·have lS:j<l.length:=by simpa using hj
  have yR:j<cs.length:=by omega
  simp only[List.getElem_map]
  exact .v _ _ (Ng (h7 j yR ej) (kK j yR lS))
theorem e8{σ τ:S}(b:Name)(cs:List D)(l:List V)(hb:σ.obj b=some (.box cs))(hl:kS cs=some l)(ks:List Nat)(ns:List Name)
 (h:eN ks ns ⟨σ.nt,σ.env,upd σ.obj b (some (.box (l.map .v))),σ.pre,σ.base⟩) (hk:eT ks ns ⟨σ.nt,σ.env,upd σ.obj b (some (.box (l.map .v))),σ.pre,σ.base⟩=τ):cD σ τ:=
 (Ar b cs l hb hl).trans (lr ks ns h hk)
def jq(l:List Int):Stk:=⟨l,jw fun _=>[],jw fun _=>0,jw fun _=>0⟩
def zS:Stk:=jq []
def zP:Pg:=⟨0,zS,0⟩
def zD:Dk:=⟨0,zS,zP,zP,0⟩
def uL(me:Int)(l:List Int):Dk:=⟨me,jq l,⟨1,jq l,iK (jq l) 1⟩,⟨0,zS,iK zS 0⟩,-1⟩
def qq(me:Int)(l:List Int):Bool:=aP me 0 5&&fD l
def kF(me:Int)(l:List Int):Int:=if aP me 0 5=true then(if fD l=true then 0 else 1)else 94
def oX(me:Int)(l:List Int):Dk:=if qq me l=true then uL me l else zD
theorem Mo(dom:Name->Bool)(l:List V)(n:Nat):D.closL dom (List.take n (l.map .v))=true:=by
 rw[<-List.map_take];exact pO _ _
theorem Mr(dom:Name->Bool)(l:List V)(n:Nat):D.closL dom (List.drop n (l.map .v))=true:=by
 rw[<-List.map_drop];exact pO _ _
attribute [go_sem] Ms Mo Mr
@[go_sem] theorem X0(f:(Name->Option O)->D->FR)(obj:Name->Option O)(h:∀ obj x,f obj (.v x)=⟨True,x,obj⟩):∀ l:List V,aK f obj (l.map .v)=⟨True,l,obj⟩
  |[]=>rfl
  |x::r=>by simp only[List.map_cons,aK,h,X0 f obj h r,and_self]
@[go_sem] theorem aaT:V.agg [V.sl [],V.sl [],V.sl [],V.sl [],V.sl [],V.sl [],V.sl [],V.int .i64 0,V.int .i64 0,V.int .i64 0,V.int .i64 0,V.int .i64 0,V.int .i64 0,V.int .i64 0,V.int .i64 0,V.int .i64 0,V.int .i64 0,V.int .i64 0,V.int .i64 0]=V.agg (ax zS):=rfl
@[go_sem] theorem aek(d:Dk):((((al d).map D.v).drop 1).take 19)=(ax d.now).map D.v:=rfl
@[go_sem] theorem ael(d:Dk):((al d).map D.v).length=63:=rfl
@[go_sem] theorem aen(d:Dk):((al d).map D.v).drop 63=[]:=rfl
@[go_sem] theorem aeo(d:Dk):((al d).map D.v).take 63=(al d).map D.v:=rfl
@[go_sem] theorem bt1(s:Stk)(x:D):(List.map D.v (ax s)++[x]).length=20:=rfl
@[go_sem] theorem bt2(s:Stk)(x:D):List.take 19 (List.map D.v (ax s)++[x])=List.map D.v (ax s):=rfl
@[go_sem] theorem bt3(s:Stk)(x:D):List.drop 20 (List.map D.v (ax s)++[x])=[]:=rfl
@[go_sem] theorem bt4(c u:Int)(s:Stk):D.v (.int .i64 c)::(List.map D.v (ax s)++[D.v (vInt u)])=(cj ⟨c,s,u⟩).map D.v:=rfl
@[go_sem] theorem bt5(p:Pg):(List.map D.v (cj p)).length=21:=rfl
@[go_sem] theorem bt6(p:Pg):List.take 21 (List.map D.v (cj p))=List.map D.v (cj p):=rfl
@[go_sem] theorem adK(p:Pg)(u:Int):List.take 20 (List.map D.v (cj p))++[D.v (vInt u)]++List.drop 21 (List.map D.v (cj p))=List.map D.v (cj ⟨p.co,p.st,u⟩):=rfl
@[go_sem] theorem aej(d:Dk)(p:Pg):List.take 20 (List.map D.v (al d))++List.map D.v (cj p)++List.drop 41 (List.map D.v (al d))=List.map D.v (al ⟨d.me,d.now,p,d.pb,d.wet⟩):=rfl
@[go_sem] theorem aei(d:Dk)(p:Pg):List.take 41 (List.map D.v (al d))++List.map D.v (cj p)++List.drop 62 (List.map D.v (al d))=List.map D.v (al ⟨d.me,d.now,d.pa,p,d.wet⟩):=rfl
theorem Bg{l:List Int}(h:fD l=true):du (jq l):=by
 have hl:=sn h
 have h6:∀ i:Nat,(jw fun _=>(0:Int)).get i=0:=fun i=>by
  match i with
  | 0=>rfl
  | 1=>rfl
  | 2=>rfl
  | 3=>rfl
  | 4=>rfl
  |_+5=>rfl
 have h7:∀ i:Nat,(jw fun _=>([]:List Par)).get i=[]:=fun i=>by
  match i with
  | 0=>rfl
  | 1=>rfl
  | 2=>rfl
  | 3=>rfl
  | 4=>rfl
  |_+5=>rfl
 refine⟨hl.1,hl.2,fun i _=>?_,fun i _ p hp=>?_,fun i _=>?_,fun i _=>?_⟩
 ·show ((jw fun _=>([]:List Par)).get i).length<=40
  rw[h7];exact Nat.zero_le _
 ·have:p∈(jw fun _=>([]:List Par)).get i:=hp
  rw[h7]at this;cases this
 ·show bD ((jw fun _=>(0:Int)).get i)
  rw[h6];exact⟨by omega,by omega⟩
 ·show bD ((jw fun _=>(0:Int)).get i)
  rw[h6];exact⟨by omega,by omega⟩
theorem Hu:du zS:=Bg rfl
def uM(me:Int)(l:List Int):Dk:=⟨me,jq l,zP,zP,-1⟩
def nd1(me:Int)(l:List Int):Dk:=⟨me,jq l,⟨1,jq l,iK (jq l) 1⟩,zP,-1⟩
theorem oM{L:List V}{off:Nat}{s:Stk}{obj:Name->Option O}{t nm:Name}(ho:obj nm=some (.box (L.map .v)))(hc:(L.drop off).take 19=ax s)(hs:gp s):
 S59.app obj t [.ref nm off]=⟨True,.v (jg s),obj⟩:=
 Ro.c_app um (a:=(L,off,s)) ⟨hc,hs⟩ (Ls:=[nm]) rfl (by simp) ⟨ho,trivial⟩
noncomputable def N9:List (Nat×Spec):=[(82,S82),(83,S83),(77,S77),(59,S59),(60,S60)]
theorem aaN:∀ f s,tbl N9 f=some s->ak Tryz.prog f s:=tc ye<|tc Jw<|tc B4<|tc uV<|tc yg<|tn
attribute [go_sem] N9
noncomputable def P37:PSpec:=p2 iI dQ (fun _ _=>True) (fun me l=>.tup [eE (oX me l),vInt (kF me l)]) false
noncomputable def S37:Spec:=P37.toSpec
attribute [go_sem] P37 S37
set_option maxHeartbeats 4000000 in
theorem QP:aL Tryz.prog 37 P37:=by
 refine w2 (rs:=[.cell 4 32,.tmp 5]) Tryz.func37 Tryz.ntmps37 (by rfl) (by kernel_rfl) (by decide) (fun h=>by cases h) ⟨_,rfl,lb rfl,fun me l hp hw=>?_⟩
 have hP:=aU
 simp only[iI,dQ]at hw |-
 have hΓ:=aaN
 repeat refine sq ?_
 refine rx hΓ [0,1,4] [[4,0]] (fun K' hK=>by simp only[go_sem];(repeat (refine⟨ah,?_⟩));exact hK _ (by simp only[go_sem]) (by simp only[go_sem]<;>rfl)) ?_
 refine aF (e8 [4,0] _ (al zD) rfl rfl [0,1,4] [[4,0]] ?_ rfl) ?_
 ·simp only[go_sem]
 simp only[go_sem]
 repeat refine sq ?_
 refine aN ?_
 repeat refine sq ?_
 refine rx hΓ [0,1,4,7] [[4,0]] (fun K' hK=>by simp only[go_sem];(repeat (refine⟨ah,?_⟩));exact hK _ (by simp only[go_sem]) (by simp only[go_sem]<;>rfl)) ?_
 repeat refine sq ?_
 refine aw rfl rfl (fun hb=>?_) (fun hb=>?_)
 ·repeat refine sq ?_
  have bJ:aP me 0 5=false:=by simpa using hb
  have e1:kF me l=94:=if_neg (by rw[bJ];decide)
  have e2:oX me l=zD:=if_neg (by unfold qq;rw[bJ];exact Bool.false_ne_true)
  repeat refine sq ?_
  refine rx hΓ [4,5] [[4,0]] (fun K' hK=>by simp only[go_sem];(repeat (refine⟨ah,?_⟩));exact hK _ (by simp only[go_sem]) (by simp only[go_sem]<;>rfl)) ?_
  refine ar ?_
  simp only[go_sem]
  first | (rw[e1,e2];done) | (rw[e1,e2];rfl)
 ·repeat refine sq ?_
  have bJ:aP me 0 5=true:=by simpa using hb
  repeat refine sq ?_
  refine rx hΓ [0,1,4,12] [[4,0]] (fun K' hK=>by simp only[go_sem];(repeat (refine⟨ah,?_⟩));exact hK _ (by simp only[go_sem]) (by simp only[go_sem]<;>rfl)) ?_
  repeat refine sq ?_
  refine aw rfl rfl (fun hb=>?_) (fun hb=>?_)
  ·repeat refine sq ?_
   have bZ:fD l=false:=by simpa using hb
   have e1:kF me l=1:=by unfold kF;rw[if_pos bJ,if_neg (by rw[bZ];decide)]
   have e2:oX me l=zD:=if_neg (by unfold qq;rw[bZ,Bool.and_false];exact Bool.false_ne_true)
   repeat refine sq ?_
   refine rx hΓ [4,5] [[4,0]] (fun K' hK=>by simp only[go_sem];(repeat (refine⟨ah,?_⟩));exact hK _ (by simp only[go_sem]) (by simp only[go_sem]<;>rfl)) ?_
   refine ar ?_
   simp only[go_sem]
   first | (rw[e1,e2];done) | (rw[e1,e2];rfl)
  ·repeat refine sq ?_
   have bZ:fD l=true:=by simpa using hb
   have e1:kF me l=0:=by unfold kF;rw[if_pos bJ,if_pos bZ]
   have e2:oX me l=uL me l:=if_pos (by unfold qq;rw[bJ,bZ];rfl)
   have mO:=Bg bZ
   have Wl:=(sn bZ).1
   have mY:∀ (F:Name->Option O) (t:Name),F [6,0]=some (.box ((al (uM me l)).map .v))->S59.app (fun nm=>if own [0] nm=true then F nm else none) t [.ref [6,0] 1]=⟨True,.v (.agg (ax (jq l))),fun nm=>if own [0] nm=true then F nm else none⟩:=fun F t h=>oM (s:=jq l) (L:=al (uM me l)) (off:=1) h (tv (uM me l)) mO.sz
   have n6:du zS/\bD 0:=⟨Hu,by decide,by decide⟩
   have lX:du (jq l)/\bD 1:=⟨mO,by decide,by decide⟩
   refine ay ?_
   refine dq ?_
   simp only[go_sem]
   refine kp [0,1,4] [[4,0]] ?_
   repeat refine sq ?_
   refine rx hΓ [4,6] [[4,0],[6,0]] (fun K' hK=>by simp only[go_sem];(repeat (refine⟨ah,?_⟩));exact hK _ (by simp only[go_sem]) (by simp only[go_sem]<;>rfl)) ?_
   refine aF (e8 [6,0] _ (al (uM me l)) rfl rfl [4,6] [[4,0],[6,0]] ?_ rfl) ?_
   ·simp only[go_sem]
   simp only[go_sem]
   repeat refine sq ?_
   refine dx hΓ hP [[],[0],[],[2],[0,1,2,3],[0,1,2,3,4],[],[0,1,2,3,4,5,6],[0,1,2,3,4,5,6,7]] [4,6] [[4,0],[6,0]] (by kernel_rfl) (fun K' hK=>by simp only[go_sem,mY,List.append_nil,Nat.reduceAdd];(repeat (refine⟨by first | exact lX | exact ah,?_⟩));(first | refine⟨by rfl,?_⟩ | skip);exact hK _ (by simp only[go_sem]) (by simp only[go_sem]<;>rfl)) ?_
   repeat refine sq ?_
   refine rx hΓ [4,6] [[4,0],[6,0]] (fun K' hK=>by simp only[go_sem,Nat.reduceAdd,Int.cast_ofNat_Int,Int.reduceToNat,Int.toNat_one,Nat.reduceMul];(repeat (refine⟨by first | exact n6 | exact ah,?_⟩));exact hK _ (by simp only[go_sem]) (by simp only[go_sem]<;>rfl)) ?_
   refine aF (e8 [6,0] _ (al (uL me l)) rfl rfl [4,6] [[4,0],[6,0]] ?_ rfl) ?_
   ·simp only[go_sem]
   simp only[go_sem]
   repeat refine sq ?_
   refine rx hΓ [4,5] [[4,0]] (fun K' hK=>by simp only[go_sem,List.append_nil];(repeat (refine⟨ah,?_⟩));exact hK _ (by simp only[go_sem]) (by simp only[go_sem]<;>rfl)) ?_
   refine ar ?_
   simp only[go_sem]
   first | (rw[e1,e2];done) | (rw[e1,e2];rfl)
theorem k37:ak Tryz.prog 37 S37:=QP.sound
theorem MP(s:Stk)(X:List D):List.take 61 (List.map D.v (ax s)++X)=List.map D.v (ax s)++List.take 42 X:=rfl
theorem MO(s:Stk)(X:List D):List.drop 62 (List.map D.v (ax s)++X)=List.drop 43 X:=rfl
noncomputable def N8:List (Nat×Spec):=[(84,S84),(85,S85),(62,S62),(63,S63)]
theorem aaM:∀ f s,tbl N8 f=some s->ak Tryz.prog f s:=tc yd<|tc Jv<|tc qv<|tc B5<|tn
attribute [go_sem] N8
noncomputable def P38:PSpec:=p2 iI dQ (fun _ _=>True) (fun me l=>.tup [eE (oX me l),vInt (kF me l)]) false
noncomputable def S38:Spec:=P38.toSpec
attribute [go_sem] P38 S38
set_option maxHeartbeats 4000000 in
theorem QO:aL Tryz.prog 38 P38:=by
 refine w2 (rs:=[.cell 4 32,.tmp 5]) Tryz.func38 Tryz.ntmps38 (by rfl) (by kernel_rfl) (by decide) (fun h=>by cases h) ⟨_,rfl,lb rfl,fun me l hp hw=>?_⟩
 have hP:=aU
 simp only[iI,dQ]at hw |-
 have hΓ:=aaM
 repeat refine sq ?_
 refine rx hΓ [0,1,4] [[4,0],[18,0]] (fun K' hK=>by simp only[go_sem];(repeat (refine⟨ah,?_⟩));exact hK _ (by simp only[go_sem]) (by simp only[go_sem]<;>rfl)) ?_
 refine aF (e8 [4,0] _ (al zD) rfl rfl [0,1,4] [[4,0],[18,0]] ?_ rfl) ?_
 ·simp only[go_sem]
 simp only[go_sem]
 repeat refine sq ?_
 refine rx hΓ [0,1,4,10] [[4,0],[18,0]] (fun K' hK=>by simp only[go_sem];(repeat (refine⟨ah,?_⟩));exact hK _ (by simp only[go_sem]) (by simp only[go_sem]<;>rfl)) ?_
 repeat refine sq ?_
 refine aw rfl rfl (fun hb=>?_) (fun hb=>?_)
 ·repeat refine sq ?_
  have bJ:aP me 0 5=false:=by simpa using hb
  have e1:kF me l=94:=if_neg (by rw[bJ];decide)
  have e2:oX me l=zD:=if_neg (by unfold qq;rw[bJ];exact Bool.false_ne_true)
  repeat refine sq ?_
  refine rx hΓ [4,5] [[4,0],[18,0]] (fun K' hK=>by simp only[go_sem];(repeat (refine⟨ah,?_⟩));exact hK _ (by simp only[go_sem]) (by simp only[go_sem]<;>rfl)) ?_
  refine ar ?_
  simp only[go_sem]
  first | (rw[e1,e2];done) | (rw[e1,e2];rfl)
 ·repeat refine sq ?_
  have bJ:aP me 0 5=true:=by simpa using hb
  refine ay ?_
  repeat refine sq ?_
  refine rx hΓ [0,1,4,14] [[4,0],[18,0]] (fun K' hK=>by simp only[go_sem];(repeat (refine⟨ah,?_⟩));exact hK _ (by simp only[go_sem]) (by simp only[go_sem]<;>rfl)) ?_
  repeat refine sq ?_
  refine aw rfl rfl (fun hb=>?_) (fun hb=>?_)
  ·repeat refine sq ?_
   have bZ:fD l=false:=by simpa using hb
   have e1:kF me l=1:=by unfold kF;rw[if_pos bJ,if_neg (by rw[bZ];decide)]
   have e2:oX me l=zD:=if_neg (by unfold qq;rw[bZ,Bool.and_false];exact Bool.false_ne_true)
   repeat refine sq ?_
   refine rx hΓ [4,5] [[4,0],[18,0]] (fun K' hK=>by simp only[go_sem];(repeat (refine⟨ah,?_⟩));exact hK _ (by simp only[go_sem]) (by simp only[go_sem]<;>rfl)) ?_
   refine ar ?_
   simp only[go_sem]
   first | (rw[e1,e2];done) | (rw[e1,e2];rfl)
  ·repeat refine sq ?_
   have bZ:fD l=true:=by simpa using hb
   have e1:kF me l=0:=by unfold kF;rw[if_pos bJ,if_pos bZ]
   have e2:oX me l=uL me l:=if_pos (by unfold qq;rw[bJ,bZ];rfl)
   have mO:=Bg bZ
   have Wl:=(sn bZ).1
   have n6:du zS/\bD 0:=⟨Hu,by decide,by decide⟩
   have lX:du (jq l)/\bD 1:=⟨mO,by decide,by decide⟩
   have WV:=mO.sz
   refine ay ?_
   repeat refine sq ?_
   refine rx hΓ [0,4,6] [[4,0],[6,0],[18,0]] (fun K' hK=>by simp only[go_sem];(repeat (refine⟨ah,?_⟩));exact hK _ (by simp only[go_sem]) (by simp only[go_sem]<;>rfl)) ?_
   refine aF (lu [6,0] [18,0] 0 _ _ _ _ rfl rfl rfl (by first | rfl | (simp only[List.length_map];done)) [0,4,6] [[4,0],[6,0]] ?_ rfl) ?_
   ·simp only[go_sem,List.set_cons_succ,List.set_cons_zero]
   simp only[go_sem,List.set_cons_succ,List.set_cons_zero]
   refine aF (e8 [6,0] _ (ax (jq l)) rfl rfl [0,4,6] [[4,0],[6,0]] ?_ rfl) ?_
   ·simp only[go_sem]
   simp only[go_sem]
   repeat refine sq ?_
   refine rx hΓ [4,6,7] [[4,0],[6,0],[7,0],[18,0]] (fun K' hK=>by simp only[go_sem,List.length_append,List.length_cons,List.length_nil,Nat.reduceAdd,Nat.reduceLeDiff,MP,MO];(repeat (refine⟨ah,?_⟩));exact hK _ (by simp only[go_sem]) (by simp only[go_sem]<;>rfl)) ?_
   refine aF (e8 [7,0] _ (al (uM me l)) rfl rfl [4,6,7] [[4,0],[6,0],[7,0],[18,0]] ?_ rfl) ?_
   ·simp only[go_sem]
   simp only[go_sem]
   repeat refine sq ?_
   refine dx hΓ hP [[],[0],[],[0,1,2],[0,1,2,3],[],[0,1,2,3,4,5],[0,1,2,3,4,5,6]] [4,7] [[4,0],[7,0],[18,0]] (by kernel_rfl) (fun K' hK=>by simp only[go_sem,List.append_nil,Nat.reduceAdd];(repeat (refine⟨by first | exact lX | exact WV | exact ah,?_⟩));(first | refine⟨by rfl,?_⟩ | skip);exact hK _ (by simp only[go_sem]) (by simp only[go_sem]<;>rfl)) ?_
   repeat refine sq ?_
   refine rx hΓ [4,7] [[4,0],[7,0],[18,0]] (fun K' hK=>by simp only[go_sem,Nat.reduceAdd,Int.cast_ofNat_Int,Int.reduceToNat,Int.toNat_one,Nat.reduceMul];(repeat (refine⟨by first | exact n6 | exact ah,?_⟩));exact hK _ (by simp only[go_sem]) (by simp only[go_sem]<;>rfl)) ?_
   refine aF (e8 [7,0] _ (al (uL me l)) rfl rfl [4,7] [[4,0],[7,0],[18,0]] ?_ rfl) ?_
   ·simp only[go_sem]
   simp only[go_sem]
   repeat refine sq ?_
   refine rx hΓ [4,5] [[4,0],[18,0]] (fun K' hK=>by simp only[go_sem,List.append_nil];(repeat (refine⟨ah,?_⟩));exact hK _ (by simp only[go_sem]) (by simp only[go_sem]<;>rfl)) ?_
   refine ar ?_
   simp only[go_sem]
   first | (rw[e1,e2];done) | (rw[e1,e2];rfl)
theorem k38:ak Tryz.prog 38 S38:=QO.sound
theorem LG(d:Nat)(a b:Int):jf Tryz.prog (d+1) 3 (vInt a) (vInt b)=some (a==b):=by
 simp only[jf,Tryz.underlying3,if_true]
theorem WK:Tryz.prog.stoodInHeld 91=false:=by kernel_rfl
theorem XT:Tryz.prog.eqGuardType Tryz.prog.depth 91=false:=by kernel_rfl
theorem Yb(d:Nat)(a b a' b':Int):jf Tryz.prog (d+2) 91 (.agg [vInt a,vInt b]) (.agg [vInt a',vInt b'])=some (a==a'&&b==b'):=by
 unfold jf
 simp only[Tryz.underlying91,WK,Bool.false_eq_true,if_false,rD,oS,FO,List.getElem?_cons_zero,List.getElem?_cons_succ,LG]
 cases a==a'<;>cases b==b'<;>rfl
@[go_sem] theorem afx(obj:Name->Option O)(op:BinOp)(a b a' b':Int):ld Tryz.prog obj op 91 (.agg [vInt a,vInt b]) (.agg [vInt a',vInt b'])=
    ⟨op=.eql\/op=.neq,.v (.bool (if op=.eql then(a==a'&&b==b')else !(a==a'&&b==b'))),obj⟩:=by
  unfold ld
  rw[show Op.maxDepth=9998+2 from rfl,Yb]
  simp only[XT,true_and]
theorem XU:Tryz.prog.eqGuardType Tryz.prog.depth 25=false:=by kernel_rfl
def pE(a b:bg Int):Bool:=a.a==b.a&&(a.b==b.b&&(a.c==b.c&&(a.d==b.d&&(a.e==b.e&&a.f==b.f))))
theorem Yd{a b:bg Int}:pE a b=true↔a=b:=by
 obtain⟨a0,a1,a2,a3,a4,a5⟩:=a
 obtain⟨b0,b1,b2,b3,b4,b5⟩:=b
 simp[pE]
theorem Yc(d:Nat)(a b:bg Int):jf Tryz.prog (d+2) 25 (.agg ((a.L id).map vInt)) (.agg ((b.L id).map vInt))=some (pE a b):=by
 obtain⟨a0,a1,a2,a3,a4,a5⟩:=a
 obtain⟨b0,b1,b2,b3,b4,b5⟩:=b
 unfold jf
 simp only[Tryz.underlying25,FO,List.range',tu,bg.L,List.map_cons,List.map_nil,id,oS,Nat.zero_mul,Nat.one_mul,Nat.mul_one,Nat.reduceAdd,List.getElem?_cons_zero,List.getElem?_cons_succ,LG,pE]
 cases a0==b0<;>cases a1==b1<;>cases a2==b2<;>cases a3==b3<;>cases a4==b4<;>cases a5==b5<;>rfl
@[go_sem] theorem afy(obj:Name->Option O)(op:BinOp)(a b:bg Int):ld Tryz.prog obj op 25 (.agg ((a.L id).map vInt)) (.agg ((b.L id).map vInt))=
    ⟨op=.eql\/op=.neq,.v (.bool (if op=.eql then pE a b else !pE a b)),obj⟩:=by
  unfold ld
  rw[show Op.maxDepth=9998+2 from rfl,Yc]
  simp only[XU,true_and]
def uw{α:Type}(a b:List α)(n:Nat):Prop:=∀ j (h:j<a.length) (h':j<b.length),j<n->a[j]=b[j]
theorem Gq{α:Type}{a b:List α}{i:Nat}(h:uw a b i)(hi:∀ (h:i<a.length) (h':i<b.length),a[i]=b[i]):uw a b (i+1):=by
 intro j hj ej mV
 rcases Nat.lt_succ_iff_lt_or_eq.1 mV with h1 | rfl
 ·exact h j hj ej h1
 ·exact hi hj ej
theorem Gr{α:Type}{a b:List α}(hl:a.length=b.length)(h:uw a b a.length):a=b:=List.ext_getElem hl fun j h1 h2=>h j h1 h2 h1
theorem G5{a b:Par}:(!(a.no==b.no&&a.pa==b.pa))=false↔a=b:=by
 obtain⟨a0,a1⟩:=a
 obtain⟨b0,b1⟩:=b
 simp
noncomputable def P34:PSpec:=p2 dQ dQ (fun _ _=>True) (fun a b=>.bool (decide (a=b))) true
noncomputable def S34:Spec:=P34.toSpec
attribute [go_sem] P34 S34
set_option maxHeartbeats 4000000 in
theorem QS:aL Tryz.prog 34 P34:=by
 refine w2 (rs:=[.tmp 4]) Tryz.func34 Tryz.ntmps34 (by rfl) (by kernel_rfl) (by decide) (fun _ _ _=>rfl) ⟨_,rfl,lb rfl,fun a b hp hw=>?_⟩
 have hP:=aU
 simp only[dQ]at hw |-
 have hΓ:=@j9 Tryz.prog
 have hl:a.length<=maxLen:=by have:=hw.1.1;simpa using this
 repeat refine sq ?_
 refine rs hΓ [0,1] [] ?_
 repeat refine sq ?_
 refine rs hΓ [0,1,10] [] ?_
 repeat refine sq ?_
 refine aw rfl rfl (fun hb=>?_) (fun hb=>?_)
 ·repeat refine sq ?_
  have bw:a≠b:=by
   rintro rfl
   simp at hb
  repeat refine sq ?_
  refine rs hΓ [4] [] ?_
  refine ar ?_
  simp only[go_sem]
  rw[decide_eq_false bw]
 ·repeat refine sq ?_
  have DA:a.length=b.length:=by
   have :(a.length:Int)=b.length:=by simpa using hb
   omega
  clear hb
  refine ay ?_
  repeat refine sq ?_
  refine rs hΓ [0,1,5] [] ?_
  repeat refine sq ?_
  refine aN ?_
  repeat refine sq ?_
  refine cB (fun s:Nat=>[(5,⟨true,.v (vInt s)⟩)]) (fun s=>[]) (fun s=>s<=a.length/\uw a b s) (fun s=>a.length-s) 0 ?_ ?_ ?_ ?_
  ·exact⟨Nat.zero_le _,fun j _ _ h=>by omega⟩
  ·rfl
  ·rfl
  rintro i ⟨hi,hR⟩
  simp only[go_sem]
  repeat refine sq ?_
  refine rs hΓ [0,1,5,14] [] ?_
  repeat refine sq ?_
  refine aw rfl rfl (fun hb=>?_) (fun hb=>?_)
  ·have ae:i<a.length:=by simpa using hb
   have aj:(i:Int)<a.length:=by omega
   clear hb
   have ra:(i:Int)<b.length:=by omega
   have Wk:i<b.length:=by omega
   repeat refine sq ?_
   refine ay ?_
   repeat refine sq ?_
   refine aN ?_
   repeat refine sq ?_
   refine dx hΓ hP [[],[],[0,1],[0,1,2],[],[],[4,5],[4,5,6],[0,1,2,3,4,5,6,7]] [0,1,5,25] [] (by kernel_rfl) (fun K' hK=>by simp only[go_sem,aG ae,aG (show i<b.length by omega),Int.toNat_natCast,Int.natCast_nonneg,aj,ra];(repeat (refine⟨ob,?_⟩));(first | refine⟨by rfl,?_⟩ | skip);exact hK _ (by simp only[go_sem]) (by simp only[go_sem]<;>rfl)) ?_
   repeat refine sq ?_
   refine aw rfl rfl (fun hb=>?_) (fun hb=>?_)
   ·repeat refine sq ?_
    have bw:a≠b:=by
     rintro rfl
     simp at hb
    repeat refine sq ?_
    refine rx hΓ [4] [] (fun K' hK=>by simp only[go_sem,aG ae,aG (show i<b.length by omega),Int.toNat_natCast,Int.natCast_nonneg,aj,ra];(repeat (refine⟨ob,?_⟩));exact hK _ (by simp only[go_sem]) (by simp only[go_sem]<;>rfl)) ?_
    refine ar ?_
    simp only[go_sem]
    rw[decide_eq_false bw]
   ·repeat refine sq ?_
    refine ay ?_
    refine dq ?_
    simp only[go_sem]
    refine kp [0,1,5] [] ?_
    repeat refine sq ?_
    refine aS hΓ fun K' hK=>?_
    simp only[go_sem,aG ae,aG (show i<b.length by omega),Int.toNat_natCast,Int.natCast_nonneg,aj,ra]
    repeat (refine⟨ob,?_⟩)
    refine hK _ ?_
    clear K' hK
    simp only[go_sem]
    refine⟨i+1,⟨ae,?_⟩,by(show a.length-(i+1)<a.length-i;omega),?_⟩
    ·exact Gq hR fun _ _=>by first | exact G5.1 hb | simpa using hb
    refine bk [0,1,5] [] ?_ ?_
    ·simp only[go_sem,aE ae hl,Int.natCast_add,Int.natCast_one]
    ·simp only[go_sem,aE ae hl,Int.natCast_add,Int.natCast_one]
  ·have aX:i=a.length:=by
    have :¬ (i:Int)<a.length:=by simpa using hb
    omega
   clear hb
   subst aX
   repeat refine sq ?_
   refine b7 ?_
   simp only[go_sem]
   refine kp [] [] ?_
   repeat refine sq ?_
   refine rs hΓ [4] [] ?_
   refine ar ?_
   simp only[go_sem]
   rw[decide_eq_true (Gr DA hR)]
theorem UR:ak Tryz.prog 34 S34:=QS.sound
noncomputable def P75:PSpec:=p2 iS iS (fun _ _=>True) (fun a b=>.bool (decide (a=b))) true
noncomputable def S75:Spec:=P75.toSpec
attribute [go_sem] P75 S75
set_option maxHeartbeats 4000000 in
theorem Qr:aL Tryz.prog 75 P75:=by
 refine w2 (rs:=[.tmp 4]) Tryz.func75 Tryz.ntmps75 (by rfl) (by kernel_rfl) (by decide) (fun _ _ _=>rfl) ⟨_,rfl,lb rfl,fun a b hp hw=>?_⟩
 have hP:=aU
 simp only[iS]at hw |-
 have hΓ:=@j9 Tryz.prog
 have hl:a.length<=maxLen:=by have:=hw.1.1;simpa using this
 repeat refine sq ?_
 refine rs hΓ [0,1] [] ?_
 repeat refine sq ?_
 refine rs hΓ [0,1,10] [] ?_
 repeat refine sq ?_
 refine aw rfl rfl (fun hb=>?_) (fun hb=>?_)
 ·repeat refine sq ?_
  have bw:a≠b:=by
   rintro rfl
   simp at hb
  repeat refine sq ?_
  refine rs hΓ [4] [] ?_
  refine ar ?_
  simp only[go_sem]
  rw[decide_eq_false bw]
 ·repeat refine sq ?_
  have DA:a.length=b.length:=by
   have :(a.length:Int)=b.length:=by simpa using hb
   omega
  clear hb
  refine ay ?_
  repeat refine sq ?_
  refine rs hΓ [0,1,5] [] ?_
  repeat refine sq ?_
  refine aN ?_
  repeat refine sq ?_
  refine cB (fun s:Nat=>[(5,⟨true,.v (vInt s)⟩)]) (fun s=>[]) (fun s=>s<=a.length/\uw a b s) (fun s=>a.length-s) 0 ?_ ?_ ?_ ?_
  ·exact⟨Nat.zero_le _,fun j _ _ h=>by omega⟩
  ·rfl
  ·rfl
  rintro i ⟨hi,hR⟩
  simp only[go_sem]
  repeat refine sq ?_
  refine rs hΓ [0,1,5,14] [] ?_
  repeat refine sq ?_
  refine aw rfl rfl (fun hb=>?_) (fun hb=>?_)
  ·have ae:i<a.length:=by simpa using hb
   have aj:(i:Int)<a.length:=by omega
   clear hb
   have ra:(i:Int)<b.length:=by omega
   have Wk:i<b.length:=by omega
   repeat refine sq ?_
   refine ay ?_
   repeat refine sq ?_
   refine aN ?_
   repeat refine sq ?_
   refine dx hΓ hP [[],[],[0,1],[0,1,2],[],[],[4,5],[4,5,6],[0,1,2,3,4,5,6,7]] [0,1,5,25] [] (by kernel_rfl) (fun K' hK=>by simp only[go_sem,aG ae,aG (show i<b.length by omega),Int.toNat_natCast,Int.natCast_nonneg,aj,ra];(repeat (refine⟨ob,?_⟩));(first | refine⟨by rfl,?_⟩ | skip);exact hK _ (by simp only[go_sem]) (by simp only[go_sem]<;>rfl)) ?_
   repeat refine sq ?_
   refine aw rfl rfl (fun hb=>?_) (fun hb=>?_)
   ·repeat refine sq ?_
    have bw:a≠b:=by
     rintro rfl
     simp at hb
    repeat refine sq ?_
    refine rx hΓ [4] [] (fun K' hK=>by simp only[go_sem,aG ae,aG (show i<b.length by omega),Int.toNat_natCast,Int.natCast_nonneg,aj,ra];(repeat (refine⟨ob,?_⟩));exact hK _ (by simp only[go_sem]) (by simp only[go_sem]<;>rfl)) ?_
    refine ar ?_
    simp only[go_sem]
    rw[decide_eq_false bw]
   ·repeat refine sq ?_
    refine ay ?_
    refine dq ?_
    simp only[go_sem]
    refine kp [0,1,5] [] ?_
    repeat refine sq ?_
    refine aS hΓ fun K' hK=>?_
    simp only[go_sem,aG ae,aG (show i<b.length by omega),Int.toNat_natCast,Int.natCast_nonneg,aj,ra]
    repeat (refine⟨ob,?_⟩)
    refine hK _ ?_
    clear K' hK
    simp only[go_sem]
    refine⟨i+1,⟨ae,?_⟩,by(show a.length-(i+1)<a.length-i;omega),?_⟩
    ·exact Gq hR fun _ _=>by first | exact G5.1 hb | simpa using hb
    refine bk [0,1,5] [] ?_ ?_
    ·simp only[go_sem,aE ae hl,Int.natCast_add,Int.natCast_one]
    ·simp only[go_sem,aE ae hl,Int.natCast_add,Int.natCast_one]
  ·have aX:i=a.length:=by
    have :¬ (i:Int)<a.length:=by simpa using hb
    omega
   clear hb
   subst aX
   repeat refine sq ?_
   refine b7 ?_
   simp only[go_sem]
   refine kp [] [] ?_
   repeat refine sq ?_
   refine rs hΓ [4] [] ?_
   refine ar ?_
   simp only[go_sem]
   rw[decide_eq_true (Gr DA hR)]
theorem Jy:ak Tryz.prog 75 S75:=Qr.sound
noncomputable def N7:List (Nat×Spec):=[(34,S34),(75,S75)]
theorem aaL:∀ f s,tbl N7 f=some s->ak Tryz.prog f s:=tc UR<|tc Jy<|tn
attribute [go_sem] N7
theorem Ph{a b:Stk}(h:a.un=b.un):decide (a=b)=(decide (a.ho=b.ho)&&(pE a.se b.se&&pE a.ta b.ta)):=by
 obtain⟨h1,u1,s1,t1⟩:=a
 obtain⟨h2,u2,s2,t2⟩:=b
 simp only at h
 subst h
 rw[Bool.eq_iff_iff]
 simp[Yd]
noncomputable def P24:PSpec:=p2 de de (fun _ _=>True) (fun a b=>.bool (decide (a=b))) true
noncomputable def S24:Spec:=P24.toSpec
attribute [go_sem] P24 S24
set_option maxHeartbeats 4000000 in
theorem Q1:aL Tryz.prog 24 P24:=by
 refine w2 (rs:=[.tmp 4]) Tryz.func24 Tryz.ntmps24 (by rfl) (by kernel_rfl) (by decide) (fun _ _ _=>rfl) ⟨_,rfl,lb rfl,fun a b hp hw=>?_⟩
 have hP:=aU
 simp only[de]at hw |-
 have hΓ:=aaL
 repeat refine sq ?_
 refine rs hΓ [2,3] [[2,0],[3,0]] ?_
 refine aF (bo [2,0] (ax a) rfl [2,3] [[2,0],[3,0]] ?_ rfl) ?_
 ·simp only[go_sem]
 simp only[go_sem]
 refine aF (bo [3,0] (ax b) rfl [2,3] [[2,0],[3,0]] ?_ rfl) ?_
 ·simp only[go_sem]
 simp only[go_sem]
 repeat refine sq ?_
 refine rs hΓ [2,3,5] [[2,0],[3,0]] ?_
 repeat refine sq ?_
 refine aN ?_
 repeat refine sq ?_
 refine cB (fun z:Nat=>[(5,⟨true,.v (vInt z)⟩)]) (fun z=>[]) (fun z=>z<=6/\∀ j,j<z->a.un.get j=b.un.get j) (fun z=>6-z) 0 ?_ ?_ ?_ ?_
 ·exact⟨Nat.zero_le _,fun j h=>by omega⟩
 ·rfl
 ·rfl
 rintro i ⟨hi,hR⟩
 simp only[go_sem]
 repeat refine sq ?_
 refine rs hΓ [2,3,5,7] [[2,0],[3,0]] ?_
 repeat refine sq ?_
 refine aw rfl rfl (fun hb=>?_) (fun hb=>?_)
 ·have ae:i<6:=by have hq:(i:Int)<6:=(by simpa using hb);omega
  have aj:(i:Int)<6:=by omega
  clear hb
  repeat refine sq ?_
  refine ay ?_
  repeat refine sq ?_
  refine aN ?_
  repeat refine sq ?_
  refine dx hΓ hP [[],[],[0,1],[0,1,2],[],[],[4,5],[4,5,6],[0,1,2,3,4,5,6,7],[0,1,2,3,4,5,6,7,8]] [2,3,5,19] [[2,0],[3,0]] (by kernel_rfl) (fun K' hK=>by simp only[go_sem,Int.toNat_natCast,Int.natCast_nonneg,aj,cL a ae,cL b ae,Int.toNat_natCast,Int.natCast_nonneg,aj];(repeat (refine⟨ob,?_⟩));(first | refine⟨by rfl,?_⟩ | skip);exact hK _ (by simp only[go_sem]) (by simp only[go_sem]<;>rfl)) ?_
  repeat refine sq ?_
  refine aw rfl rfl (fun hb=>?_) (fun hb=>?_)
  ·repeat refine sq ?_
   have bw:a≠b:=by
    rintro rfl
    simp at hb
   repeat refine sq ?_
   refine rx hΓ [4] [] (fun K' hK=>by simp only[go_sem,Int.toNat_natCast,Int.natCast_nonneg,aj];(repeat (refine⟨ob,?_⟩));exact hK _ (by simp only[go_sem]) (by simp only[go_sem]<;>rfl)) ?_
   refine ar ?_
   simp only[go_sem]
   rw[decide_eq_false bw]
  ·repeat refine sq ?_
   refine ay ?_
   refine dq ?_
   simp only[go_sem]
   refine kp [2,3,5] [[2,0],[3,0]] ?_
   repeat refine sq ?_
   refine aS hΓ fun K' hK=>?_
   simp only[go_sem,Int.toNat_natCast,Int.natCast_nonneg,aj]
   repeat (refine⟨ob,?_⟩)
   refine hK _ ?_
   clear K' hK
   simp only[go_sem]
   refine⟨i+1,⟨ae,?_⟩,by(show 6-(i+1)<6-i;omega),?_⟩
   ·intro j hj
    rcases Nat.lt_succ_iff_lt_or_eq.1 hj with h1 | rfl
    ·exact hR j h1
    ·simpa using hb
   refine bk [2,3,5] [[2,0],[3,0]] ?_ ?_
   ·simp only[go_sem,aE ae (lb rfl:(6:Nat)<=maxLen),Int.natCast_add,Int.natCast_one]
   ·simp only[go_sem,aE ae (lb rfl:(6:Nat)<=maxLen),Int.natCast_add,Int.natCast_one]
 ·have aX:i=6:=by
   have :¬ (i:Int)<6:=by simpa using hb
   omega
  clear hb
  subst aX
  repeat refine sq ?_
  refine b7 ?_
  simp only[go_sem]
  refine kp [2,3] [[2,0],[3,0]] ?_
  repeat refine sq ?_
  refine rs hΓ [4] [] ?_
  refine ar ?_
  simp only[go_sem]
  rw[Ph (Po hR)];simp[Bool.and_assoc]
theorem US:ak Tryz.prog 24 S24:=Q1.sound
theorem Zx{a b:Bag}:decide (a=b)=((a.fr==b.fr&&a.to==b.to&&a.ta==b.ta)&&decide (a.ps=b.ps)):=by
 obtain⟨f1,t1,p1,x1⟩:=a
 obtain⟨f2,t2,p2,x2⟩:=b
 rw[Bool.eq_iff_iff]
 simp only[decide_eq_true_eq,Bool.and_eq_true,Bag.mk.injEq,beq_iff_eq]
 constructor
 ·rintro⟨h1,h2,h3,h4⟩;exact⟨⟨⟨h1,h2⟩,h4⟩,h3⟩
 ·rintro⟨⟨⟨h1,h2⟩,h4⟩,h3⟩;exact⟨h1,h2,h3,h4⟩
noncomputable def N6:List (Nat×Spec):=[(75,S75)]
theorem aaK:∀ f s,tbl N6 f=some s->ak Tryz.prog f s:=tc Jy<|tn
attribute [go_sem] N6
noncomputable def P33:PSpec:=p2 gv gv (fun _ _=>True) (fun a b=>.bool (decide (a=b))) true
noncomputable def S33:Spec:=P33.toSpec
attribute [go_sem] P33 S33
set_option maxHeartbeats 4000000 in
theorem QT:aL Tryz.prog 33 P33:=by
 refine w2 (rs:=[.tmp 4]) Tryz.func33 Tryz.ntmps33 (by rfl) (by kernel_rfl) (by decide) (fun _ _ _=>rfl) ⟨_,rfl,lb rfl,fun a b hp hw=>?_⟩
 have hP:=aU
 simp only[gv]at hw |-
 have hΓ:=aaK
 repeat refine sq ?_
 refine rs hΓ [2,3] [[2,0],[3,0]] ?_
 refine aF (bo [2,0] (aZ a) rfl [2,3] [[2,0],[3,0]] ?_ rfl) ?_
 ·simp only[go_sem]
 simp only[go_sem]
 refine aF (bo [3,0] (aZ b) rfl [2,3] [[2,0],[3,0]] ?_ rfl) ?_
 ·simp only[go_sem]
 simp only[go_sem]
 repeat refine sq ?_
 refine rs hΓ [4] [] ?_
 refine ar ?_
 simp only[go_sem]
 rw[Zx];congr 1;rw[Bool.eq_iff_iff];simp[and_assoc]
theorem k33:ak Tryz.prog 33 S33:=QT.sound
theorem g'(d:Dk){i:Nat}(h:i<2):(al d).getD (20+i*21) default=vInt (d.pg i).co:=by
 match i,h with
 | 0,_=>rfl
 | 1,_=>rfl
theorem v8(d:Dk){i:Nat}(h:i<2):(al d).getD (20+i*21+20) default=vInt (d.pg i).su:=by
 match i,h with
 | 0,_=>rfl
 | 1,_=>rfl
theorem rG(d:Dk){i:Nat}(h:i<2):((al d).drop (20+i*21+1)).take 19=ax (d.pg i).st:=by
 match i,h with
 | 0,_=>rfl
 | 1,_=>rfl
theorem RH{a b:Pg}(h1:a.co=b.co)(h2:a.su=b.su)(h3:a.st=b.st):a=b:=by
 obtain⟨a1,a2,a3⟩:=a
 obtain⟨b1,b2,b3⟩:=b
 simp only at h1 h2 h3
 subst h1 h2 h3
 rfl
theorem Yo{a b:Dk}(h:∀ j,j<2->a.pg j=b.pg j):decide (a=b)=((a.me==b.me&&a.wet==b.wet)&&decide (a.now=b.now)):=by
 have h0:=h 0 (by omega)
 have h1:=h 1 (by omega)
 obtain⟨m1,n1,p1,q1,w1⟩:=a
 obtain⟨m2,n2,p2,q2,w2⟩:=b
 simp only[Dk.pg]at h0 h1
 subst h0 h1
 rw[Bool.eq_iff_iff]
 simp only[decide_eq_true_eq,Bool.and_eq_true,Dk.mk.injEq,beq_iff_eq,true_and]
 constructor
 ·rintro⟨h1,h2,h3⟩;exact⟨⟨h1,h3⟩,h2⟩
 ·rintro⟨⟨h1,h3⟩,h2⟩;exact⟨h1,h2,h3⟩
noncomputable def N5:List (Nat×Spec):=[(24,S24)]
theorem aaJ:∀ f s,tbl N5 f=some s->ak Tryz.prog f s:=tc US<|tn
attribute [go_sem] N5
noncomputable def P18:PSpec:=p2 bf bf (fun _ _=>True) (fun a b=>.bool (decide (a=b))) true
noncomputable def S18:Spec:=P18.toSpec
attribute [go_sem] P18 S18
set_option maxHeartbeats 4000000 in
theorem Q6:aL Tryz.prog 18 P18:=by
 refine w2 (rs:=[.tmp 4]) Tryz.func18 Tryz.ntmps18 (by rfl) (by kernel_rfl) (by decide) (fun _ _ _=>rfl) ⟨_,rfl,lb rfl,fun a b hp hw=>?_⟩
 have hP:=aU
 simp only[bf]at hw |-
 have hΓ:=aaJ
 repeat refine sq ?_
 refine rs hΓ [2,3] [[2,0],[3,0]] ?_
 refine aF (bo [2,0] (al a) rfl [2,3] [[2,0],[3,0]] ?_ rfl) ?_
 ·simp only[go_sem]
 simp only[go_sem]
 refine aF (bo [3,0] (al b) rfl [2,3] [[2,0],[3,0]] ?_ rfl) ?_
 ·simp only[go_sem]
 simp only[go_sem]
 repeat refine sq ?_
 refine rs hΓ [2,3,5] [[2,0],[3,0]] ?_
 repeat refine sq ?_
 refine aN ?_
 repeat refine sq ?_
 refine cB (fun z:Nat=>[(5,⟨true,.v (vInt z)⟩)]) (fun z=>[]) (fun z=>z<=2/\∀ j,j<z->a.pg j=b.pg j) (fun z=>2-z) 0 ?_ ?_ ?_ ?_
 ·exact⟨Nat.zero_le _,fun j h=>by omega⟩
 ·rfl
 ·rfl
 rintro i ⟨hi,hR⟩
 simp only[go_sem]
 repeat refine sq ?_
 refine rs hΓ [2,3,5,7] [[2,0],[3,0]] ?_
 repeat refine sq ?_
 refine aw rfl rfl (fun hb=>?_) (fun hb=>?_)
 ·have ae:i<2:=by have hq:(i:Int)<2:=(by simpa using hb);omega
  have aj:(i:Int)<2:=by omega
  clear hb
  repeat refine sq ?_
  refine ay ?_
  repeat refine sq ?_
  refine aN ?_
  repeat refine sq ?_
  refine dx hΓ hP [[],[],[0,1],[0,1,2],[0,1,2,3],[],[],[5,6],[5,6,7],[5,6,7,8],[0,1,2,3,4,5,6,7,8,9],[0,1,2,3,4,5,6,7,8,9,10],[0,1,2,3,4,5,6,7,8,9,10,11],[0,1,2,3,4,5,6,7,8,9,10,11],[0,1,2,3,4,5,6,7,8,9,10,11,12,13],[0,1,2,3,4,5,6,7,8,9,10,11,12,13,14],[0,1,2,3,4,5,6,7,8,9,10,11,12,13,14,15],[0,1,2,3,4,5,6,7,8,9,10,11],[0,1,2,3,4,5,6,7,8,9,10,11],[0,1,2,3,4,5,6,7,8,9,10,11,17,18],[0,1,2,3,4,5,6,7,8,9,10,11,17,18,19],[0,1,2,3,4,5,6,7,8,9,10,11,17,18,19,20],[0,1,2,3,4,5,6,7,8,9,10,11,12,13,14,15,16,17,18,19,20,21],[0,1,2,3,4,5,6,7,8,9,10,11,12,13,14,15,16,17,18,19,20,21,22],[0,1,2,3,4,5,6,7,8,9,10,11,12,13,14,15,16,17,18,19,20,21,22,23],[0,1,2,3,4,5,6,7,8,9,10,11,12,13,14,15,16,17,18,19,20,21,22,23,24],[0,1,2,3,4,5,6,7,8,9,10,11,12,13,14,15,16,17,18,19,20,21,22,23,24],[0,1,2,3,4,5,6,7,8,9,10,11,12,13,14,15,16,17,18,19,20,21,22,23,24,25,26],[0,1,2,3,4,5,6,7,8,9,10,11,12,13,14,15,16,17,18,19,20,21,22,23,24,25,26,27],[0,1,2,3,4,5,6,7,8,9,10,11,12,13,14,15,16,17,18,19,20,21,22,23,24,25,26,27,28],[0,1,2,3,4,5,6,7,8,9,10,11,12,13,14,15,16,17,18,19,20,21,22,23,24],[0,1,2,3,4,5,6,7,8,9,10,11,12,13,14,15,16,17,18,19,20,21,22,23,24],[0,1,2,3,4,5,6,7,8,9,10,11,12,13,14,15,16,17,18,19,20,21,22,23,24,30,31],[0,1,2,3,4,5,6,7,8,9,10,11,12,13,14,15,16,17,18,19,20,21,22,23,24,30,31,32],[0,1,2,3,4,5,6,7,8,9,10,11,12,13,14,15,16,17,18,19,20,21,22,23,24,30,31,32,33],[0,1,2,3,4,5,6,7,8,9,10,11,12,13,14,15,16,17,18,19,20,21,22,23,24,25,26,27,28,29,30,31,32,33,34],[0,1,2,3,4,5,6,7,8,9,10,11,12,13,14,15,16,17,18,19,20,21,22,23,24,25,26,27,28,29,30,31,32,33,34,35],[0,1,2,3,4,5,6,7,8,9,10,11,12,13,14,15,16,17,18,19,20,21,22,23,24,25,26,27,28,29,30,31,32,33,34,35,36]] [2,3,5,47] [[2,0],[3,0]] (by kernel_rfl) (fun K' hK=>by simp only[go_sem,Int.toNat_natCast,Int.natCast_nonneg,aj,Nat.add_zero,g' a ae,g' b ae,v8 a ae,v8 b ae,rG a ae,rG b ae,Int.toNat_natCast,Int.natCast_nonneg,aj];(repeat (refine⟨ob,?_⟩));(first | refine⟨by rfl,?_⟩ | skip);exact hK _ (by simp only[go_sem]) (by simp only[go_sem]<;>rfl)) ?_
  repeat refine sq ?_
  refine aw rfl rfl (fun hb=>?_) (fun hb=>?_)
  ·repeat refine sq ?_
   have bw:a≠b:=by
    rintro rfl
    simp at hb
   repeat refine sq ?_
   refine rx hΓ [4] [] (fun K' hK=>by simp only[go_sem,Int.toNat_natCast,Int.natCast_nonneg,aj];(repeat (refine⟨ob,?_⟩));exact hK _ (by simp only[go_sem]) (by simp only[go_sem]<;>rfl)) ?_
   refine ar ?_
   simp only[go_sem]
   rw[decide_eq_false bw]
  ·repeat refine sq ?_
   refine ay ?_
   refine dq ?_
   simp only[go_sem]
   refine kp [2,3,5] [[2,0],[3,0]] ?_
   repeat refine sq ?_
   refine aS hΓ fun K' hK=>?_
   simp only[go_sem,Int.toNat_natCast,Int.natCast_nonneg,aj]
   repeat (refine⟨ob,?_⟩)
   refine hK _ ?_
   clear K' hK
   simp only[go_sem]
   refine⟨i+1,⟨ae,?_⟩,by(show 2-(i+1)<2-i;omega),?_⟩
   ·intro j hj
    rcases Nat.lt_succ_iff_lt_or_eq.1 hj with h1 | rfl
    ·exact hR j h1
    ·(simp at hb;exact RH hb.1.1 hb.1.2 hb.2)
   refine bk [2,3,5] [[2,0],[3,0]] ?_ ?_
   ·simp only[go_sem,aE ae (lb rfl:(2:Nat)<=maxLen),Int.natCast_add,Int.natCast_one]
   ·simp only[go_sem,aE ae (lb rfl:(2:Nat)<=maxLen),Int.natCast_add,Int.natCast_one]
 ·have aX:i=2:=by
   have :¬ (i:Int)<2:=by simpa using hb
   omega
  clear hb
  subst aX
  repeat refine sq ?_
  refine b7 ?_
  simp only[go_sem]
  refine kp [2,3] [[2,0],[3,0]] ?_
  repeat refine sq ?_
  refine rs hΓ [4] [] ?_
  refine ar ?_
  simp only[go_sem]
  rw[Yo hR];congr 1;rw[Bool.eq_iff_iff];simp[and_assoc]
theorem UW:ak Tryz.prog 18 S18:=Q6.sound
def gh(d:Dk)(i:Nat)(o:Int):Bool:=(((i:Int) != d.wet)&&aV d.me (d.pg i))&&(decide (o<0)||decide ((d.pg i).co>(d.pg o.toNat).co))
def b9(d:Dk):Nat->Int
 | 0=> -1
 |i+1=>if gh d i (b9 d i)=true then i else b9 d i
def be(d:Dk):Int:=b9 d 2
theorem zj(d:Dk):∀ i,-1<=b9 d i/\b9 d i<i
 | 0=>⟨by show (-1:Int)<= -1;omega,by show (-1:Int)<0;omega⟩
 |i+1=>by
  have h:=zj d i
  unfold b9
  split
  ·exact⟨by omega,by omega⟩
  ·exact⟨h.1,by omega⟩
theorem Yp(d:Dk):((al d).drop 20).take 42=cj d.pa++cj d.pb:=rfl
theorem RL(d:Dk){i:Nat}(h:i<2):((cj d.pa++cj d.pb).drop (i*21)).take 21=cj (d.pg i):=by
 match i,h with
 | 0,_=>rfl
 | 1,_=>rfl
theorem RK(d:Dk){i:Nat}(h:i<2):i*21+21<=(cj d.pa++cj d.pb).length:=by
 show i*21+21<=42
 omega
theorem pJ(d:Dk){i:Nat}(h:i<2):((al d).drop (20+i*21)).take 21=cj (d.pg i):=by
 match i,h with
 | 0,_=>rfl
 | 1,_=>rfl
theorem rA{d:Dk}{i:Nat}(h:gh d i (b9 d i)=true):b9 d (i+1)=i:=if_pos h
theorem tp{d:Dk}{i:Nat}(h:gh d i (b9 d i)=false):b9 d (i+1)=b9 d i:=if_neg (by rw[h];decide)
noncomputable def N4:List (Nat×Spec):=[(90,S90)]
theorem aaI:∀ f s,tbl N4 f=some s->ak Tryz.prog f s:=tc BZ<|tn
attribute [go_sem] N4
noncomputable def P58:PSpec:=p1 bf (fun _=>True) (fun d=>vInt (be d)) true
noncomputable def S58:Spec:=P58.toSpec
attribute [go_sem] P58 S58
set_option maxHeartbeats 4000000 in
theorem QA:aL Tryz.prog 58 P58:=by
 refine w1 (rs:=[.tmp 2]) Tryz.func58 Tryz.ntmps58 (by rfl) (by kernel_rfl) (by decide) (fun _ _=>rfl) ⟨_,rfl,lb rfl,fun d hp hw=>?_⟩
 have hP:=aU
 simp only[bf]at hw |-
 have hΓ:=aaI
 repeat refine sq ?_
 refine rs hΓ [1] [[1,0]] ?_
 refine aF (bo [1,0] (al d) rfl [1] [[1,0]] ?_ rfl) ?_
 ·simp only[go_sem]
 simp only[go_sem]
 repeat refine sq ?_
 refine rs hΓ [1,3] [[1,0]] ?_
 repeat refine sq ?_
 refine rx hΓ [1,3,7,8] [[1,0]] (fun K' hK=>by simp only[go_sem,Yp];(repeat (refine⟨ob,?_⟩));exact hK _ (by simp only[go_sem]) (by simp only[go_sem]<;>rfl)) ?_
 repeat refine sq ?_
 refine aN ?_
 repeat refine sq ?_
 refine cB (fun z:Nat=>[(8,⟨true,.v (vInt z)⟩),(3,⟨true,.v (vInt (b9 d z))⟩)]) (fun z=>[]) (fun z=>z<=2) (fun z=>2-z) 0 ?_ ?_ ?_ ?_
 ·exact Nat.zero_le _
 ·rfl
 ·rfl
 rintro i hi
 simp only[go_sem]
 repeat refine sq ?_
 refine rs hΓ [1,3,7,8,9] [[1,0]] ?_
 repeat refine sq ?_
 refine aw rfl rfl (fun hb=>?_) (fun hb=>?_)
 ·have ae:i<2:=by have hq:(i:Int)<2:=(by simpa using hb);omega
  have aj:(i:Int)<2:=by omega
  clear hb
  have bU:=RK d ae
  repeat refine sq ?_
  refine ay ?_
  repeat refine sq ?_
  refine aN ?_
  repeat refine sq ?_
  refine rx hΓ [1,3,4,5,7,8] [[1,0],[5,0]] (fun K' hK=>by simp only[go_sem,Int.toNat_natCast,Int.natCast_nonneg,aj,RL d ae,bU,Int.toNat_natCast,Int.natCast_nonneg,aj,List.append_nil];(repeat (refine⟨ob,?_⟩));exact hK _ (by simp only[go_sem]) (by simp only[go_sem]<;>rfl)) ?_
  refine aF (bo [5,0] (cj (d.pg i)) rfl [1,3,4,5,7,8] [[1,0],[5,0]] ?_ rfl) ?_
  ·simp only[go_sem]
  simp only[go_sem]
  rcases ho:decide (b9 d i<0)with _ | _
  ·have hr:=zj d i
   have fZ:0<=b9 d i:=by have:=of_decide_eq_false ho;omega
   have eI:b9 d i<2:=by omega
   have nU:(b9 d i).toNat<2:=by omega
   have jK:gh d i (b9 d i)=((((i:Int) != d.wet)&&aV d.me (d.pg i))&&decide ((d.pg i).co>(d.pg (b9 d i).toNat).co)):=by unfold gh;rw[ho,Bool.false_or]
   repeat refine sq ?_
   refine dx hΓ hP [[],[],[1],[0,1,2],[0,1,2,3],[0,1,2,3,4],[0,1,2,3,4,5],[0,1,2,3,4],[0,1,2,3,4,5,6,7],[0,1,2,3,4,5,6,7,8],[0,1,2,3,4,5,6,7,8,9],[0,1,2,3,4,5,6,7,8,9,10],[0,1,2,3,4,5,6,7,8,9,10,11],[0,1,2,3,4,5,6,7,8,9,10,11,12],[0,1,2,3,4,5,6,7,8,9,10,11,12,13],[0,1,2,3,4,5,6,7,8,9,10,11,12,13,14],[0,1,2,3,4,5,6,7,8,9,10,11,12,13],[0,1,2,3,4,5,6,7,8,9,10,11,12,13],[0,1,2,3,4,5,6,7,8,9,10,11,12,13,16,17],[0,1,2,3,4,5,6,7,8,9,10,11,12,13,16,17,18],[0,1,2,3,4,5,6,7,8,9,10,11,12,13,16,17,18,19],[0,1,2,3,4,5,6,7,8,9,10,11,12,13,14,15,16,17,18,19,20],[0,1,2,3,4,5,6,7,8,9,10,11,12,13,14,15,16,17,18,19,20,21],[0,1,2,3,4,5,6,7,8,9,10,11,12,13,14,15,16,17,18,19,20,21,22]] [1,3,4,7,8,35] [[1,0]] (by kernel_rfl) (fun K' hK=>by simp only[go_sem,Int.toNat_natCast,Int.natCast_nonneg,aj,ho,fZ,eI,g' d nU,Nat.add_zero];(repeat (refine⟨ob,?_⟩));(first | refine⟨by rfl,?_⟩ | skip);exact hK _ (by simp only[go_sem]) (by simp only[go_sem]<;>rfl)) ?_
   repeat refine sq ?_
   refine aw rfl rfl (fun hb=>?_) (fun hb=>?_)
   ·repeat refine sq ?_
    have e:=rA (jK.trans (by simpa[Bool.and_assoc]using hb))
    repeat refine sq ?_
    refine aS hΓ fun K' hK=>?_
    simp only[go_sem,Int.toNat_natCast,Int.natCast_nonneg,aj,ho,fZ,eI,g' d nU,Nat.add_zero]
    repeat (refine⟨ob,?_⟩)
    refine hK _ ?_
    clear K' hK
    simp only[go_sem]
    refine kp [1,3,7,8] [[1,0]] ?_
    repeat refine sq ?_
    refine aS hΓ fun K' hK=>?_
    simp only[go_sem,Int.toNat_natCast,Int.natCast_nonneg,aj,ho,fZ,eI,g' d nU,Nat.add_zero]
    repeat (refine⟨ob,?_⟩)
    refine hK _ ?_
    clear K' hK
    simp only[go_sem]
    refine⟨i+1,ae,by(show 2-(i+1)<2-i;omega),?_⟩
    refine bk [1,3,7,8] [[1,0]] ?_ ?_
    ·simp only[go_sem,aE ae (lb rfl:(2:Nat)<=maxLen),Int.natCast_add,Int.natCast_one,e]
    ·simp only[go_sem,aE ae (lb rfl:(2:Nat)<=maxLen),Int.natCast_add,Int.natCast_one,e]
   ·repeat refine sq ?_
    have e:=tp (jK.trans (by simpa[Bool.and_assoc]using hb))
    refine ay ?_
    refine dq ?_
    simp only[go_sem]
    refine kp [1,3,7,8] [[1,0]] ?_
    repeat refine sq ?_
    refine aS hΓ fun K' hK=>?_
    simp only[go_sem,Int.toNat_natCast,Int.natCast_nonneg,aj,ho,fZ,eI,g' d nU,Nat.add_zero]
    repeat (refine⟨ob,?_⟩)
    refine hK _ ?_
    clear K' hK
    simp only[go_sem]
    refine⟨i+1,ae,by(show 2-(i+1)<2-i;omega),?_⟩
    refine bk [1,3,7,8] [[1,0]] ?_ ?_
    ·simp only[go_sem,aE ae (lb rfl:(2:Nat)<=maxLen),Int.natCast_add,Int.natCast_one,e]
    ·simp only[go_sem,aE ae (lb rfl:(2:Nat)<=maxLen),Int.natCast_add,Int.natCast_one,e]
  ·have jK:gh d i (b9 d i)=(((i:Int) != d.wet)&&aV d.me (d.pg i)):=by unfold gh;rw[ho,Bool.true_or,Bool.and_true]
   repeat refine sq ?_
   refine dx hΓ hP [[],[],[1],[0,1,2],[0,1,2,3],[0,1,2,3,4],[0,1,2,3,4,5],[0,1,2,3,4],[0,1,2,3,4,5,6,7],[0,1,2,3,4,5,6,7,8],[0,1,2,3,4,5,6,7,8,9],[0,1,2,3,4,5,6,7,8,9,10],[0,1,2,3,4,5,6,7,8,9,10,11],[0,1,2,3,4,5,6,7,8,9,10,11,12],[0,1,2,3,4,5,6,7,8,9,10,11,12,13],[0,1,2,3,4,5,6,7,8,9,10,11,12,13,14],[0,1,2,3,4,5,6,7,8,9,10,11,12,13],[0,1,2,3,4,5,6,7,8,9,10,11,12,13],[0,1,2,3,4,5,6,7,8,9,10,11,12,13,16,17],[0,1,2,3,4,5,6,7,8,9,10,11,12,13,16,17,18],[0,1,2,3,4,5,6,7,8,9,10,11,12,13,16,17,18,19],[0,1,2,3,4,5,6,7,8,9,10,11,12,13,14,15,16,17,18,19,20],[0,1,2,3,4,5,6,7,8,9,10,11,12,13,14,15,16,17,18,19,20,21],[0,1,2,3,4,5,6,7,8,9,10,11,12,13,14,15,16,17,18,19,20,21,22]] [1,3,4,7,8,35] [[1,0]] (by kernel_rfl) (fun K' hK=>by simp only[go_sem,Int.toNat_natCast,Int.natCast_nonneg,aj,ho];(repeat (refine⟨ob,?_⟩));(first | refine⟨by rfl,?_⟩ | skip);exact hK _ (by simp only[go_sem]) (by simp only[go_sem]<;>rfl)) ?_
   repeat refine sq ?_
   refine aw rfl rfl (fun hb=>?_) (fun hb=>?_)
   ·repeat refine sq ?_
    have e:=rA (jK.trans (by simpa using hb))
    repeat refine sq ?_
    refine aS hΓ fun K' hK=>?_
    simp only[go_sem,Int.toNat_natCast,Int.natCast_nonneg,aj,ho]
    repeat (refine⟨ob,?_⟩)
    refine hK _ ?_
    clear K' hK
    simp only[go_sem]
    refine kp [1,3,7,8] [[1,0]] ?_
    repeat refine sq ?_
    refine aS hΓ fun K' hK=>?_
    simp only[go_sem,Int.toNat_natCast,Int.natCast_nonneg,aj,ho]
    repeat (refine⟨ob,?_⟩)
    refine hK _ ?_
    clear K' hK
    simp only[go_sem]
    refine⟨i+1,ae,by(show 2-(i+1)<2-i;omega),?_⟩
    refine bk [1,3,7,8] [[1,0]] ?_ ?_
    ·simp only[go_sem,aE ae (lb rfl:(2:Nat)<=maxLen),Int.natCast_add,Int.natCast_one,e]
    ·simp only[go_sem,aE ae (lb rfl:(2:Nat)<=maxLen),Int.natCast_add,Int.natCast_one,e]
   ·repeat refine sq ?_
    have e:=tp (jK.trans (by simpa using hb))
    refine ay ?_
    refine dq ?_
    simp only[go_sem]
    refine kp [1,3,7,8] [[1,0]] ?_
    repeat refine sq ?_
    refine aS hΓ fun K' hK=>?_
    simp only[go_sem,Int.toNat_natCast,Int.natCast_nonneg,aj,ho]
    repeat (refine⟨ob,?_⟩)
    refine hK _ ?_
    clear K' hK
    simp only[go_sem]
    refine⟨i+1,ae,by(show 2-(i+1)<2-i;omega),?_⟩
    refine bk [1,3,7,8] [[1,0]] ?_ ?_
    ·simp only[go_sem,aE ae (lb rfl:(2:Nat)<=maxLen),Int.natCast_add,Int.natCast_one,e]
    ·simp only[go_sem,aE ae (lb rfl:(2:Nat)<=maxLen),Int.natCast_add,Int.natCast_one,e]
 ·have aX:i=2:=by
   have :¬ (i:Int)<2:=by simpa using hb
   omega
  clear hb
  subst aX
  repeat refine sq ?_
  refine b7 ?_
  simp only[go_sem]
  refine kp [3] [] ?_
  repeat refine sq ?_
  refine rs hΓ [2] [] ?_
  refine ar ?_
  simp only[go_sem]
  first | rfl
theorem yh:ak Tryz.prog 58 S58:=QA.sound
noncomputable def N3:List (Nat×Spec):=[(45,S45)]
theorem aaH:∀ f s,tbl N3 f=some s->ak Tryz.prog f s:=tc JF<|tn
attribute [go_sem] N3
noncomputable def P61:PSpec:=p1 bf (fun _=>True) (fun d=>vInt (be d)) true
noncomputable def S61:Spec:=P61.toSpec
attribute [go_sem] P61 S61
set_option maxHeartbeats 4000000 in
theorem Qx:aL Tryz.prog 61 P61:=by
 refine w1 (rs:=[.tmp 2]) Tryz.func61 Tryz.ntmps61 (by rfl) (by kernel_rfl) (by decide) (fun _ _=>rfl) ⟨_,rfl,lb rfl,fun d hp hw=>?_⟩
 have hP:=aU
 simp only[bf]at hw |-
 have hΓ:=aaH
 repeat refine sq ?_
 refine rs hΓ [1] [[1,0]] ?_
 refine aF (bo [1,0] (al d) rfl [1] [[1,0]] ?_ rfl) ?_
 ·simp only[go_sem]
 simp only[go_sem]
 repeat refine sq ?_
 refine rs hΓ [1,3] [[1,0]] ?_
 repeat refine sq ?_
 refine rs hΓ [1,3,4] [[1,0]] ?_
 repeat refine sq ?_
 refine aN ?_
 repeat refine sq ?_
 refine cB (fun z:Nat=>[(4,⟨true,.v (vInt z)⟩),(3,⟨true,.v (vInt (b9 d z))⟩)]) (fun z=>[]) (fun z=>z<=2) (fun z=>2-z) 0 ?_ ?_ ?_ ?_
 ·exact Nat.zero_le _
 ·rfl
 ·rfl
 rintro i hi
 simp only[go_sem]
 repeat refine sq ?_
 refine rs hΓ [1,3,4,6] [[1,0]] ?_
 repeat refine sq ?_
 refine aw rfl rfl (fun hb=>?_) (fun hb=>?_)
 ·have ae:i<2:=by have hq:(i:Int)<2:=(by simpa using hb);omega
  have aj:(i:Int)<2:=by omega
  clear hb
  repeat refine sq ?_
  refine ay ?_
  repeat refine sq ?_
  refine aN ?_
  repeat refine sq ?_
  rcases ho:decide (b9 d i<0)with _ | _
  ·have hr:=zj d i
   have fZ:0<=b9 d i:=by have:=of_decide_eq_false ho;omega
   have eI:b9 d i<2:=by omega
   have nU:(b9 d i).toNat<2:=by omega
   have yM:¬ b9 d i<0:=by omega
   have jK:gh d i (b9 d i)=((((i:Int) != d.wet)&&aV d.me (d.pg i))&&decide ((d.pg i).co>(d.pg (b9 d i).toNat).co)):=by unfold gh;rw[ho,Bool.false_or]
   repeat refine sq ?_
   refine dx hΓ hP [[],[],[1],[0,1,2],[0,1,2,3],[0,1,2,3,4],[0,1,2,3,4,5],[0,1,2,3,4],[0,1,2,3,4],[0,1,2,3,4,7,8],[0,1,2,3,4,7,8,9],[0,1,2,3,4,5,6,7,8,9,10],[0,1,2,3,4,5,6,7,8,9,10,11],[0,1,2,3,4,5,6,7,8,9,10,11,12],[0,1,2,3,4,5,6,7,8,9,10,11,12,13],[0,1,2,3,4,5,6,7,8,9,10,11,12,13,14],[0,1,2,3,4,5,6,7,8,9,10,11,12,13,14,15],[0,1,2,3,4,5,6,7,8,9,10,11,12,13,14,15,16],[0,1,2,3,4,5,6,7,8,9,10,11,12,13,14,15,16,17],[0,1,2,3,4,5,6,7,8,9,10,11,12,13,14,15,16,17],[0,1,2,3,4,5,6,7,8,9,10,11,12,13,14,15,16,17,18,19],[0,1,2,3,4,5,6,7,8,9,10,11,12,13,14,15,16,17,18,19,20],[0,1,2,3,4,5,6,7,8,9,10,11,12,13,14,15,16,17,18,19,20,21],[0,1,2,3,4,5,6,7,8,9,10,11,12,13,14,15,16,17],[0,1,2,3,4,5,6,7,8,9,10,11,12,13,14,15,16,17,23],[0,1,2,3,4,5,6,7,8,9,10,11,12,13,14,15,16,17],[0,1,2,3,4,5,6,7,8,9,10,11,12,13,14,15,16,17,23,24,25],[0,1,2,3,4,5,6,7,8,9,10,11,12,13,14,15,16,17,23,24,25,26],[0,1,2,3,4,5,6,7,8,9,10,11,12,13,14,15,16,17,23,24,25,26,27],[0,1,2,3,4,5,6,7,8,9,10,11,12,13,14,15,16,17,18,19,20,21,22,23,24,25,26,27,28],[0,1,2,3,4,5,6,7,8,9,10,11,12,13,14,15,16,17,18,19,20,21,22,23,24,25,26,27,28,29],[0,1,2,3,4,5,6,7,8,9,10,11,12,13,14,15,16,17,18,19,20,21,22,23,24,25,26,27,28,29,30]] [1,3,4,40] [[1,0]] (by kernel_rfl) (fun K' hK=>by simp only[go_sem,Int.toNat_natCast,Int.natCast_nonneg,aj,ho,fZ,eI,yM,g' d nU,Nat.add_zero,g' d ae,pJ d ae,mF,Int.toNat_natCast,Int.natCast_nonneg,aj];(repeat (refine⟨ob,?_⟩));(first | refine⟨by rfl,?_⟩ | skip);exact hK _ (by simp only[go_sem]) (by simp only[go_sem]<;>rfl)) ?_
   repeat refine sq ?_
   refine aw rfl rfl (fun hb=>?_) (fun hb=>?_)
   ·repeat refine sq ?_
    have e:=rA (jK.trans (by simpa[Bool.and_assoc]using hb))
    repeat refine sq ?_
    refine aS hΓ fun K' hK=>?_
    simp only[go_sem,Int.toNat_natCast,Int.natCast_nonneg,aj,ho,fZ,eI,yM,g' d nU,Nat.add_zero,g' d ae,pJ d ae,mF,Int.toNat_natCast,Int.natCast_nonneg,aj]
    repeat (refine⟨ob,?_⟩)
    refine hK _ ?_
    clear K' hK
    simp only[go_sem]
    refine kp [1,3,4] [[1,0]] ?_
    repeat refine sq ?_
    refine aS hΓ fun K' hK=>?_
    simp only[go_sem,Int.toNat_natCast,Int.natCast_nonneg,aj,ho,fZ,eI,yM,g' d nU,Nat.add_zero,g' d ae,pJ d ae,mF,Int.toNat_natCast,Int.natCast_nonneg,aj]
    repeat (refine⟨ob,?_⟩)
    refine hK _ ?_
    clear K' hK
    simp only[go_sem]
    refine⟨i+1,ae,by(show 2-(i+1)<2-i;omega),?_⟩
    refine bk [1,3,4] [[1,0]] ?_ ?_
    ·simp only[go_sem,aE ae (lb rfl:(2:Nat)<=maxLen),Int.natCast_add,Int.natCast_one,e]
    ·simp only[go_sem,aE ae (lb rfl:(2:Nat)<=maxLen),Int.natCast_add,Int.natCast_one,e]
   ·repeat refine sq ?_
    have e:=tp (jK.trans (by simpa[Bool.and_assoc]using hb))
    refine ay ?_
    refine dq ?_
    simp only[go_sem]
    refine kp [1,3,4] [[1,0]] ?_
    repeat refine sq ?_
    refine aS hΓ fun K' hK=>?_
    simp only[go_sem,Int.toNat_natCast,Int.natCast_nonneg,aj,ho,fZ,eI,yM,g' d nU,Nat.add_zero,g' d ae,pJ d ae,mF,Int.toNat_natCast,Int.natCast_nonneg,aj]
    repeat (refine⟨ob,?_⟩)
    refine hK _ ?_
    clear K' hK
    simp only[go_sem]
    refine⟨i+1,ae,by(show 2-(i+1)<2-i;omega),?_⟩
    refine bk [1,3,4] [[1,0]] ?_ ?_
    ·simp only[go_sem,aE ae (lb rfl:(2:Nat)<=maxLen),Int.natCast_add,Int.natCast_one,e]
    ·simp only[go_sem,aE ae (lb rfl:(2:Nat)<=maxLen),Int.natCast_add,Int.natCast_one,e]
  ·have jK:gh d i (b9 d i)=(((i:Int) != d.wet)&&aV d.me (d.pg i)):=by unfold gh;rw[ho,Bool.true_or,Bool.and_true]
   repeat refine sq ?_
   refine dx hΓ hP [[],[],[1],[0,1,2],[0,1,2,3],[0,1,2,3,4],[0,1,2,3,4,5],[0,1,2,3,4],[0,1,2,3,4],[0,1,2,3,4,7,8],[0,1,2,3,4,7,8,9],[0,1,2,3,4,5,6,7,8,9,10],[0,1,2,3,4,5,6,7,8,9,10,11],[0,1,2,3,4,5,6,7,8,9,10,11,12],[0,1,2,3,4,5,6,7,8,9,10,11,12,13],[0,1,2,3,4,5,6,7,8,9,10,11,12,13,14],[0,1,2,3,4,5,6,7,8,9,10,11,12,13,14,15],[0,1,2,3,4,5,6,7,8,9,10,11,12,13,14,15,16],[0,1,2,3,4,5,6,7,8,9,10,11,12,13,14,15,16,17],[0,1,2,3,4,5,6,7,8,9,10,11,12,13,14,15,16,17],[0,1,2,3,4,5,6,7,8,9,10,11,12,13,14,15,16,17,18,19],[0,1,2,3,4,5,6,7,8,9,10,11,12,13,14,15,16,17,18,19,20],[0,1,2,3,4,5,6,7,8,9,10,11,12,13,14,15,16,17,18,19,20,21],[0,1,2,3,4,5,6,7,8,9,10,11,12,13,14,15,16,17],[0,1,2,3,4,5,6,7,8,9,10,11,12,13,14,15,16,17,23],[0,1,2,3,4,5,6,7,8,9,10,11,12,13,14,15,16,17],[0,1,2,3,4,5,6,7,8,9,10,11,12,13,14,15,16,17,23,24,25],[0,1,2,3,4,5,6,7,8,9,10,11,12,13,14,15,16,17,23,24,25,26],[0,1,2,3,4,5,6,7,8,9,10,11,12,13,14,15,16,17,23,24,25,26,27],[0,1,2,3,4,5,6,7,8,9,10,11,12,13,14,15,16,17,18,19,20,21,22,23,24,25,26,27,28],[0,1,2,3,4,5,6,7,8,9,10,11,12,13,14,15,16,17,18,19,20,21,22,23,24,25,26,27,28,29],[0,1,2,3,4,5,6,7,8,9,10,11,12,13,14,15,16,17,18,19,20,21,22,23,24,25,26,27,28,29,30]] [1,3,4,40] [[1,0]] (by kernel_rfl) (fun K' hK=>by simp only[go_sem,Int.toNat_natCast,Int.natCast_nonneg,aj,ho,pJ d ae,mF,Int.toNat_natCast,Int.natCast_nonneg,aj];(repeat (refine⟨ob,?_⟩));(first | refine⟨by rfl,?_⟩ | skip);exact hK _ (by simp only[go_sem]) (by simp only[go_sem]<;>rfl)) ?_
   repeat refine sq ?_
   refine aw rfl rfl (fun hb=>?_) (fun hb=>?_)
   ·repeat refine sq ?_
    have e:=rA (jK.trans (by simpa using hb))
    repeat refine sq ?_
    refine aS hΓ fun K' hK=>?_
    simp only[go_sem,Int.toNat_natCast,Int.natCast_nonneg,aj,ho,pJ d ae,mF,Int.toNat_natCast,Int.natCast_nonneg,aj]
    repeat (refine⟨ob,?_⟩)
    refine hK _ ?_
    clear K' hK
    simp only[go_sem]
    refine kp [1,3,4] [[1,0]] ?_
    repeat refine sq ?_
    refine aS hΓ fun K' hK=>?_
    simp only[go_sem,Int.toNat_natCast,Int.natCast_nonneg,aj,ho,pJ d ae,mF,Int.toNat_natCast,Int.natCast_nonneg,aj]
    repeat (refine⟨ob,?_⟩)
    refine hK _ ?_
    clear K' hK
    simp only[go_sem]
    refine⟨i+1,ae,by(show 2-(i+1)<2-i;omega),?_⟩
    refine bk [1,3,4] [[1,0]] ?_ ?_
    ·simp only[go_sem,aE ae (lb rfl:(2:Nat)<=maxLen),Int.natCast_add,Int.natCast_one,e]
    ·simp only[go_sem,aE ae (lb rfl:(2:Nat)<=maxLen),Int.natCast_add,Int.natCast_one,e]
   ·repeat refine sq ?_
    have e:=tp (jK.trans (by simpa using hb))
    refine ay ?_
    refine dq ?_
    simp only[go_sem]
    refine kp [1,3,4] [[1,0]] ?_
    repeat refine sq ?_
    refine aS hΓ fun K' hK=>?_
    simp only[go_sem,Int.toNat_natCast,Int.natCast_nonneg,aj,ho,pJ d ae,mF,Int.toNat_natCast,Int.natCast_nonneg,aj]
    repeat (refine⟨ob,?_⟩)
    refine hK _ ?_
    clear K' hK
    simp only[go_sem]
    refine⟨i+1,ae,by(show 2-(i+1)<2-i;omega),?_⟩
    refine bk [1,3,4] [[1,0]] ?_ ?_
    ·simp only[go_sem,aE ae (lb rfl:(2:Nat)<=maxLen),Int.natCast_add,Int.natCast_one,e]
    ·simp only[go_sem,aE ae (lb rfl:(2:Nat)<=maxLen),Int.natCast_add,Int.natCast_one,e]
 ·have aX:i=2:=by
   have :¬ (i:Int)<2:=by simpa using hb
   omega
  clear hb
  subst aX
  repeat refine sq ?_
  refine b7 ?_
  simp only[go_sem]
  refine kp [3] [] ?_
  repeat refine sq ?_
  refine rs hΓ [2] [] ?_
  refine ar ?_
  simp only[go_sem]
  first | rfl
theorem yf:ak Tryz.prog 61 S61:=Qx.sound
structure di (d:Dk):Prop where
 now:gp d.now
 pg:∀ i,i<2->gp (d.pg i).st
def l9(d:Dk)(z:Nat):Dk:=⟨d.me,d.now,if 0<z then d.pa else zP,if 1<z then d.pb else zP,d.wet⟩
theorem LN(d:Dk):l9 d 2=d:=rfl
theorem LM(d:Dk){i:Nat}(h:i<2):List.take (20+i*21) (List.map D.v (al (l9 d i)))++List.map D.v (cj ⟨(d.pg i).co,(d.pg i).st,(d.pg i).su⟩)++List.drop (20+i*21+21) (List.map D.v (al (l9 d i)))=List.map D.v (al (l9 d (i+1))):=by
 match i,h with
 | 0,_=>rfl
 | 1,_=>rfl
noncomputable def NR:List (Nat×Spec):=[(62,S62)]
theorem aaw:∀ f s,tbl NR f=some s->ak Tryz.prog f s:=tc qv<|tn
attribute [go_sem] NR
noncomputable def P57:PSpec:=p1 bf (fun d=>di d) (fun d=>eE d) false
noncomputable def S57:Spec:=P57.toSpec
attribute [go_sem] P57 S57
set_option maxHeartbeats 4000000 in
theorem QB:aL Tryz.prog 57 P57:=by
 refine w1 (rs:=[.cell 2 32]) Tryz.func57 Tryz.ntmps57 (by rfl) (by kernel_rfl) (by decide) (fun h=>by cases h) ⟨_,rfl,lb rfl,fun d hp hw=>?_⟩
 have hP:=aU
 simp only[bf]at hw |-
 have hΓ:=aaw
 have hs:di d:=hp
 have iU:=hs.now
 repeat refine sq ?_
 refine rx hΓ [1,2] [[1,0],[2,0]] (fun K' hK=>by simp only[go_sem];(repeat (refine⟨ah,?_⟩));exact hK _ (by simp only[go_sem]) (by simp only[go_sem]<;>rfl)) ?_
 refine aF (e8 [2,0] _ (al zD) rfl rfl [1,2] [[1,0],[2,0]] ?_ rfl) ?_
 ·simp only[go_sem]
 simp only[go_sem]
 refine aF (bo [1,0] (al d) rfl [1,2] [[1,0],[2,0]] ?_ rfl) ?_
 ·simp only[go_sem]
 simp only[go_sem]
 repeat refine sq ?_
 refine dx hΓ hP [[],[0],[],[2],[2,3],[],[5],[0,1,2,3,4,5,6],[],[0,1,2,3,4,5,6,7,8]] [1,2,3] [[1,0],[2,0],[3,0]] (by kernel_rfl) (fun K' hK=>by simp only[go_sem,iU,List.append_nil,List.length_append,List.length_cons,List.length_nil,Nat.reduceAdd,Nat.reduceLeDiff,MP,MO];(repeat (refine⟨ah,?_⟩));(first | refine⟨by rfl,?_⟩ | skip);exact hK _ (by simp only[go_sem]) (by simp only[go_sem]<;>rfl)) ?_
 refine aF (e8 [3,0] _ (al (l9 d 0)) rfl rfl [1,2,3] [[1,0],[2,0],[3,0]] ?_ rfl) ?_
 ·simp only[go_sem]
 simp only[go_sem]
 repeat refine sq ?_
 refine rx hΓ [1,2,3,4] [[1,0],[2,0],[3,0]] (fun K' hK=>by simp only[go_sem];(repeat (refine⟨ah,?_⟩));exact hK _ (by simp only[go_sem]) (by simp only[go_sem]<;>rfl)) ?_
 repeat refine sq ?_
 refine aN ?_
 repeat refine sq ?_
 refine cB (fun z:Nat=>[(4,⟨true,.v (vInt z)⟩)]) (fun z=>[([3,0],.box ((al (l9 d z)).map .v))]) (fun z=>z<=2) (fun z=>2-z) 0 ?_ ?_ ?_ ?_
 ·exact Nat.zero_le _
 ·rfl
 ·rfl
 rintro i hi
 simp only[go_sem]
 repeat refine sq ?_
 refine rx hΓ [1,2,3,4,14] [[1,0],[2,0],[3,0]] (fun K' hK=>by simp only[go_sem];(repeat (refine⟨ah,?_⟩));exact hK _ (by simp only[go_sem]) (by simp only[go_sem]<;>rfl)) ?_
 repeat refine sq ?_
 refine aw rfl rfl (fun hb=>?_) (fun hb=>?_)
 ·have ae:i<2:=by have hq:(i:Int)<2:=(by simpa using hb);omega
  have aj:(i:Int)<2:=by omega
  clear hb
  have gP:=hs.pg i ae
  repeat refine sq ?_
  refine ay ?_
  repeat refine sq ?_
  refine aN ?_
  repeat refine sq ?_
  refine tI hΓ hP [[],[],[],[1,2],[1,2,3],[1,2,3,4],[],[],[6,7],[6,7,8],[6,7,8,9],[6,7,8,9,10],[],[],[12,13],[12,13,14],[12,13,14,15],[1,2,3,4,5,6,7,8,9,10,11,12,13,14,15,16],[],[0,1,2,3,4,5,6,7,8,9,10,11,12,13,14,15,16,17,18],[0,1,2,3,4,5,6,7,8,9,10,11,12,13,14,15,16,17,18,19]] (by kernel_rfl) fun K' hK=>?_
  simp only[go_sem,Int.toNat_natCast,Int.natCast_nonneg,aj,Nat.add_zero,gP,g' d ae,v8 d ae,rG d ae,Int.toNat_natCast,Int.natCast_nonneg,aj,List.append_nil]
  repeat (refine⟨ah,?_⟩)
  first | refine⟨by rfl,?_⟩ | skip
  refine hK _ ?_
  clear K' hK
  simp only[go_sem]
  refine kp [1,2,3,4] [[1,0],[2,0],[3,0]] ?_
  repeat refine sq ?_
  refine aS hΓ fun K' hK=>?_
  simp only[go_sem,Int.toNat_natCast,Int.natCast_nonneg,aj]
  repeat (refine⟨ah,?_⟩)
  refine hK _ ?_
  clear K' hK
  simp only[go_sem]
  refine⟨i+1,ae,by(show 2-(i+1)<2-i;omega),?_⟩
  refine bk [1,2,3,4] [[1,0],[2,0],[3,0]] ?_ ?_
  ·simp only[go_sem,aE ae (lb rfl:(2:Nat)<=maxLen),Int.natCast_add,Int.natCast_one,LM d ae]
  ·simp only[go_sem,aE ae (lb rfl:(2:Nat)<=maxLen),Int.natCast_add,Int.natCast_one,LM d ae]
 ·have aX:i=2:=by
   have :¬ (i:Int)<2:=by simpa using hb
   omega
  clear hb
  subst aX
  repeat refine sq ?_
  refine b7 ?_
  simp only[go_sem]
  refine kp [2,3] [[2,0],[3,0]] ?_
  repeat refine sq ?_
  refine rx hΓ [2] [[2,0]] (fun K' hK=>by simp only[go_sem,LN,List.append_nil];(repeat (refine⟨ah,?_⟩));exact hK _ (by simp only[go_sem]) (by simp only[go_sem]<;>rfl)) ?_
  refine ar ?_
  simp only[go_sem]
  skip
theorem yi:ak Tryz.prog 57 S57:=QB.sound
theorem Yn(d:Dk):List.take 1 (List.map D.v (al d))++List.map D.v (ax d.now)++List.drop 20 (List.map D.v (al d))=List.map D.v (al d):=rfl
theorem Ei(d:Dk){i:Nat}(h:i<2):List.take (20+i*21+1) (List.map D.v (al d))++List.map D.v (ax (d.pg i).st)++List.drop (20+i*21+1+19) (List.map D.v (al d))=List.map D.v (al d):=by
 match i,h with
 | 0,_=>rfl
 | 1,_=>rfl
def HB(d:Dk):List (Name×O):=[([22,0],.box ((al d).map .v))]
def HC(_:Dk):D:=.ref [22,0] 0
attribute [go_sem] HB HC
noncomputable def NQ:List (Nat×Spec):=[(59,S59)]
theorem aav:∀ f s,tbl NQ f=some s->ak Tryz.prog f s:=tc uV<|tn
attribute [go_sem] NQ
noncomputable def Aj:NSpec:=n1 bf (fun d=>di d) HB HC
noncomputable def S53:Spec:=Aj.toSpec
attribute [go_sem] Aj S53
set_option maxHeartbeats 4000000 in
theorem B7:ak Tryz.prog 53 S53:=by
 refine xN (nt:=23) (rs:=[.tmp 2]) Tryz.func53 rfl (by rfl) (by kernel_rfl) (by kernel_rfl) (by decide) ?_
 intro xs hp
 obtain⟨d,rfl,hp,gd,ed⟩:=xS hp
 replace gd:Aj.new _=_:=gd
 replace ed:Aj.d _=_:=ed
 rw[gd,ed]
 clear gd ed
 refine⟨lb rfl,?_⟩
 have hP:=aU
 simp only[iI,iB,dQ,iI,iB,o8,dQ,qB,iS,de,lK,bf,gv,uW,iC,iF,encPa,jg,rF,eE,l7,List.map_cons,List.map_nil,ef,Nat.zero_add]
 have hΓ:=aav
 have hs:di d:=hp
 have iU:=hs.now
 have DQ:∀ (F:Name->Option O) (t:Name),F [1,0]=some (.box ((al d).map .v))->S59.app (fun nm=>if own [0] nm=true then F nm else none) t [.ref [1,0] 1]=⟨True,.v (.agg (ax d.now)),fun nm=>if own [0] nm=true then F nm else none⟩:=fun F t h=>oM (s:=d.now) (L:=al d) (off:=1) h (tv d) iU
 repeat refine sq ?_
 refine rx hΓ [1] [[1,0]] (fun K' hK=>by simp only[go_sem];(repeat (refine⟨ah,?_⟩));exact hK _ (by simp only[go_sem]) (by simp only[go_sem]<;>rfl)) ?_
 repeat refine sq ?_
 refine rx hΓ [1] [[1,0]] (fun K' hK=>by simp only[go_sem,DQ,Yn];(repeat (refine⟨ah,?_⟩));exact hK _ (by simp only[go_sem]) (by simp only[go_sem]<;>rfl)) ?_
 repeat refine sq ?_
 refine rx hΓ [1,7] [[1,0]] (fun K' hK=>by simp only[go_sem];(repeat (refine⟨ah,?_⟩));exact hK _ (by simp only[go_sem]) (by simp only[go_sem]<;>rfl)) ?_
 repeat refine sq ?_
 refine aN ?_
 repeat refine sq ?_
 refine cB (fun z:Nat=>[(7,⟨true,.v (vInt z)⟩)]) (fun z=>[]) (fun z=>z<=2) (fun z=>2-z) 0 ?_ ?_ ?_ ?_
 ·exact Nat.zero_le _
 ·rfl
 ·rfl
 rintro i hi
 simp only[go_sem]
 repeat refine sq ?_
 refine rx hΓ [1,7,8] [[1,0]] (fun K' hK=>by simp only[go_sem];(repeat (refine⟨ah,?_⟩));exact hK _ (by simp only[go_sem]) (by simp only[go_sem]<;>rfl)) ?_
 repeat refine sq ?_
 refine aw rfl rfl (fun hb=>?_) (fun hb=>?_)
 ·have ae:i<2:=by have hq:(i:Int)<2:=(by simpa using hb);omega
  have aj:(i:Int)<2:=by omega
  clear hb
  have DP:∀ (F:Name->Option O) (t:Name),F [1,0]=some (.box ((al d).map .v))->S59.app (fun nm=>if own [0] nm=true then F nm else none) t [.ref [1,0] (20+i*21+1)]=⟨True,.v (.agg (ax (d.pg i).st)),fun nm=>if own [0] nm=true then F nm else none⟩:=fun F t h=>oM (s:=(d.pg i).st) (L:=al d) (off:=20+i*21+1) h (rG d ae) (hs.pg i ae)
  repeat refine sq ?_
  refine ay ?_
  repeat refine sq ?_
  refine aN ?_
  repeat refine sq ?_
  refine rx hΓ [1,3,7] [[1,0]] (fun K' hK=>by simp only[go_sem,Int.toNat_natCast,Int.natCast_nonneg,aj];(repeat (refine⟨ah,?_⟩));exact hK _ (by simp only[go_sem]) (by simp only[go_sem]<;>rfl)) ?_
  repeat refine sq ?_
  refine aS hΓ fun K' hK=>?_
  simp only[go_sem,Int.toNat_natCast,Int.natCast_nonneg,aj,DP,Ei d ae,Int.toNat_natCast,Int.natCast_nonneg,aj]
  repeat (refine⟨ah,?_⟩)
  refine hK _ ?_
  clear K' hK
  simp only[go_sem]
  refine kp [1,7] [[1,0]] ?_
  repeat refine sq ?_
  refine aS hΓ fun K' hK=>?_
  simp only[go_sem,Int.toNat_natCast,Int.natCast_nonneg,aj]
  repeat (refine⟨ah,?_⟩)
  refine hK _ ?_
  clear K' hK
  simp only[go_sem]
  refine⟨i+1,ae,by(show 2-(i+1)<2-i;omega),?_⟩
  refine bk [1,7] [[1,0]] ?_ ?_
  ·simp only[go_sem,aE ae (lb rfl:(2:Nat)<=maxLen),Int.natCast_add,Int.natCast_one,Ei d ae]
  ·simp only[go_sem,aE ae (lb rfl:(2:Nat)<=maxLen),Int.natCast_add,Int.natCast_one,Ei d ae]
 ·have aX:i=2:=by
   have :¬ (i:Int)<2:=by simpa using hb
   omega
  clear hb
  subst aX
  repeat refine sq ?_
  refine b7 ?_
  simp only[go_sem]
  refine kp [1] [[1,0]] ?_
  repeat refine sq ?_
  refine rx hΓ [2] [[22,0]] (fun K' hK=>by simp only[go_sem,List.append_nil];(repeat (refine⟨ah,?_⟩));exact hK _ (by simp only[go_sem]) (by simp only[go_sem]<;>rfl)) ?_
  refine ar ?_
  simp only[go_sem]
  skip
theorem D0(d:Dk):∀ i,b9 d i= -1\/aV d.me (d.pg (b9 d i).toNat)=true
 | 0=>.inl rfl
 |i+1=>by
  cases h:gh d i (b9 d i)with
  |false=>rw[tp h];exact D0 d i
  |true=>
   rw[rA h]
   refine .inr ?_
   unfold gh at h
   simp only[Bool.and_eq_true]at h
   rw[Int.toNat_natCast]
   exact h.1.2
theorem RI{me:Int}{p:Pg}(h:aV me p=true):du p.st:=by
 unfold aV at h
 simp only[Bool.and_eq_true]at h
 exact uI h.1.2
def fg(d:Dk):Stk:=(d.pg (be d).toNat).st
theorem l6{d:Dk}(h:aJ d=true):0<=be d/\be d<2/\(be d).toNat<2/\du (fg d):=by
 have hr:=zj d 2
 have aq:be d≠ -1:=by
  intro he
  have h1:gh d 1 (b9 d 1)=false:=by
   cases hc:gh d 1 (b9 d 1)with
   |false=>rfl
   |true=>
    have h2:b9 d 2=((1:Nat):Int):=rA hc
    have h3:b9 d 2= -1:=he
    rw[h2]at h3
    exact absurd h3 (by decide)
  have e1:b9 d 1= -1:=by rw[<-tp h1];exact he
  have h0:gh d 0 (b9 d 0)=false:=by
   cases hc:gh d 0 (b9 d 0)with
   |false=>rfl
   |true=>
    have h2:b9 d 1=((0:Nat):Int):=rA hc
    rw[e1]at h2
    exact absurd h2 (by decide)
  rw[e1]at h1
  have a0:(((0:Int) != d.wet)&&aV d.me d.pa)=false:=by simpa[gh,b9,Dk.pg]using h0
  have a1:(((1:Int) != d.wet)&&aV d.me d.pb)=false:=by simpa[gh,Dk.pg]using h1
  unfold aJ gW at h
  simp only[Bool.and_eq_true]at h
  obtain⟨⟨_,hi⟩,hw⟩:=h
  have hi:=iu.1 hi
  have nR:d.wet<0\/d.wet=0\/d.wet=1:=by omega
  rcases nR with hn | hz | ho
  ·rw[nx hn]at hw
   have b0:((0:Int) != d.wet)=true:=by simp;omega
   have b1:((1:Int) != d.wet)=true:=by simp;omega
   rw[b0,Bool.true_and]at a0
   rw[b1,Bool.true_and]at a1
   rw[a0,a1]at hw
   simp at hw
  ·rw[pW hz]at hw
   rw[hz]at a1
   have Fa:aV d.me d.pb=false:=a1
   rw[Fa]at hw
   simp at hw
  ·rw[pV ho]at hw
   rw[ho]at a0
   have Z2:aV d.me d.pa=false:=a0
   rw[Z2]at hw
   simp at hw
 have hi:0<=be d:=by
  have h1:b9 d 2≠ -1:=aq
  show 0<=b9 d 2
  omega
 have vE:be d<2:=hr.2
 refine⟨hi,vE,by omega,?_⟩
 rcases D0 d 2 with h1 | h1
 ·exact absurd h1 aq
 ·exact RI h1
theorem iz{d:Dk}(h:(jR d != 0)=false):aJ d=true:=by
 cases hb:aJ d with
 |true=>rfl
 |false=>rw[dH hb]at h;exact absurd h (by decide)
theorem iA{d:Dk}(h:(jR d != 0)=true):aJ d=false:=by
 cases hb:aJ d with
 |false=>rfl
 |true=>rw[bO hb]at h;exact absurd h (by decide)
def yL(d:Dk):List Int:=if aJ d=true then d.now.ho else[]
theorem pn{d:Dk}(h:aJ d=true):yL d=d.now.ho:=if_pos h
theorem yK{d:Dk}(h:aJ d=false):yL d=[]:=if_neg (by rw[h];decide)
theorem mG{d:Dk}(h:aJ d=true):du d.now:=by
 unfold aJ gW at h
 simp only[Bool.and_eq_true]at h
 exact uI h.1.1
@[go_sem] theorem aet(d:Dk):(al d).getD 1 default=fa d.now.ho:=rfl
noncomputable def N1:List (Nat×Spec):=[(23,S23),(77,S77)]
theorem aaG:∀ f s,tbl N1 f=some s->ak Tryz.prog f s:=tc o6<|tc B4<|tn
attribute [go_sem] N1
noncomputable def P28:PSpec:=p1 bf (fun _=>True) (fun d=>.tup [.sl ((yL d).map vInt),vInt (jR d)]) false
noncomputable def S28:Spec:=P28.toSpec
attribute [go_sem] P28 S28
set_option maxHeartbeats 4000000 in
theorem QY:aL Tryz.prog 28 P28:=by
 refine w1 (rs:=[.tmp 2,.tmp 3]) Tryz.func28 Tryz.ntmps28 (by rfl) (by kernel_rfl) (by decide) (fun h=>by cases h) ⟨_,rfl,lb rfl,fun d hp hw=>?_⟩
 have hP:=aU
 simp only[bf]at hw |-
 have hΓ:=aaG
 repeat refine sq ?_
 refine rx hΓ [1] [[1,0]] (fun K' hK=>by simp only[go_sem];(repeat (refine⟨ah,?_⟩));exact hK _ (by simp only[go_sem]) (by simp only[go_sem]<;>rfl)) ?_
 refine aF (bo [1,0] (al d) rfl [1] [[1,0]] ?_ rfl) ?_
 ·simp only[go_sem]
 simp only[go_sem]
 repeat refine sq ?_
 refine rx hΓ [1,4] [[1,0]] (fun K' hK=>by simp only[go_sem];(repeat (refine⟨ah,?_⟩));exact hK _ (by simp only[go_sem]) (by simp only[go_sem]<;>rfl)) ?_
 repeat refine sq ?_
 refine rx hΓ [1,4,8] [[1,0]] (fun K' hK=>by simp only[go_sem];(repeat (refine⟨ah,?_⟩));exact hK _ (by simp only[go_sem]) (by simp only[go_sem]<;>rfl)) ?_
 repeat refine sq ?_
 refine aw rfl rfl (fun hb=>?_) (fun hb=>?_)
 ·repeat refine sq ?_
  have hd:=iA hb
  repeat refine sq ?_
  refine rx hΓ [2,3] [] (fun K' hK=>by simp only[go_sem];(repeat (refine⟨ah,?_⟩));exact hK _ (by simp only[go_sem]) (by simp only[go_sem]<;>rfl)) ?_
  refine ar ?_
  simp only[go_sem]
  first | (rw[yK hd];rfl) | (rw[pn hd,bO hd];done) | (rw[pn hd,bO hd];rfl)
 ·repeat refine sq ?_
  have hd:=iz hb
  have hz:d.now.ho.length*8<=140737488355328:=(mG hd).sz.1
  refine ay ?_
  repeat refine sq ?_
  refine rx hΓ [2,3] [] (fun K' hK=>by simp only[go_sem,Nat.add_zero,hz];(repeat (refine⟨ah,?_⟩));exact hK _ (by simp only[go_sem]) (by simp only[go_sem]<;>rfl)) ?_
  refine ar ?_
  simp only[go_sem]
  first | (rw[yK hd];rfl) | (rw[pn hd,bO hd];done) | (rw[pn hd,bO hd];rfl)
theorem k28:ak Tryz.prog 28 S28:=QY.sound
noncomputable def N0:List (Nat×Spec):=[(39,S39)]
theorem aaF:∀ f s,tbl N0 f=some s->ak Tryz.prog f s:=tc o5<|tn
attribute [go_sem] N0
noncomputable def P29:PSpec:=p1 bf (fun _=>True) (fun d=>.tup [.sl ((yL d).map vInt),vInt (jR d)]) false
noncomputable def S29:Spec:=P29.toSpec
attribute [go_sem] P29 S29
set_option maxHeartbeats 4000000 in
theorem QX:aL Tryz.prog 29 P29:=by
 refine w1 (rs:=[.tmp 2,.tmp 3]) Tryz.func29 Tryz.ntmps29 (by rfl) (by kernel_rfl) (by decide) (fun h=>by cases h) ⟨_,rfl,lb rfl,fun d hp hw=>?_⟩
 have hP:=aU
 simp only[bf]at hw |-
 have hΓ:=aaF
 repeat refine sq ?_
 refine rx hΓ [1] [[1,0]] (fun K' hK=>by simp only[go_sem];(repeat (refine⟨ah,?_⟩));exact hK _ (by simp only[go_sem]) (by simp only[go_sem]<;>rfl)) ?_
 refine aF (bo [1,0] (al d) rfl [1] [[1,0]] ?_ rfl) ?_
 ·simp only[go_sem]
 simp only[go_sem]
 repeat refine sq ?_
 refine rx hΓ [1,6] [[1,0]] (fun K' hK=>by simp only[go_sem];(repeat (refine⟨ah,?_⟩));exact hK _ (by simp only[go_sem]) (by simp only[go_sem]<;>rfl)) ?_
 repeat refine sq ?_
 refine aw rfl rfl (fun hb=>?_) (fun hb=>?_)
 ·repeat refine sq ?_
  have hd:=iA hb
  repeat refine sq ?_
  refine rx hΓ [2,3] [[11,0]] (fun K' hK=>by simp only[go_sem];(repeat (refine⟨ah,?_⟩));exact hK _ (by simp only[go_sem]) (by simp only[go_sem]<;>rfl)) ?_
  refine ar ?_
  simp only[go_sem]
  first | (rw[yK hd,dH hd];rfl) | (rw[pn hd,bO hd];done) | (rw[pn hd,bO hd];rfl)
 ·repeat refine sq ?_
  have hd:=iz hb
  have hz:d.now.ho.length*8<=140737488355328:=(mG hd).sz.1
  refine ay ?_
  repeat refine sq ?_
  refine rx hΓ [2,3] [[11,0]] (fun K' hK=>by simp only[go_sem,Nat.add_zero,hz];(repeat (refine⟨ah,?_⟩));exact hK _ (by simp only[go_sem]) (by simp only[go_sem]<;>rfl)) ?_
  refine ar ?_
  simp only[go_sem]
  first | (rw[yK hd,dH hd];rfl) | (rw[pn hd,bO hd];done) | (rw[pn hd,bO hd];rfl)
theorem k29:ak Tryz.prog 29 S29:=QX.sound
def zk(d:Dk):Stk:=if aJ d=true then fg d else zS
theorem pC{d:Dk}(h:aJ d=true):zk d=fg d:=if_pos h
theorem pD{d:Dk}(h:aJ d=false):zk d=zS:=if_neg (by rw[h];decide)
theorem vU{d:Dk}(h:aJ d=true):((al d).drop (20+(be d).toNat*21+1)).take 19=ax (fg d):=rG d (l6 h).2.2.1
theorem XP{d:Dk}(h:aJ d=true):∀ (F:Name->Option O) (t:Name),F [1,0]=some (.box ((al d).map .v))->S59.app (fun nm=>if own [0] nm=true then F nm else none) t [.ref [1,0] (20+(be d).toNat*21+1)]=⟨True,.v (.agg (ax (fg d))),fun nm=>if own [0] nm=true then F nm else none⟩:=
 fun F t hF=>oM (s:=fg d) (L:=al d) hF (vU h) (l6 h).2.2.2.sz
@[go_sem] theorem adr(s:Stk):((ax s).map D.v).drop 19=[]:=rfl
noncomputable def NZ:List (Nat×Spec):=[(23,S23),(58,S58),(59,S59)]
theorem aaE:∀ f s,tbl NZ f=some s->ak Tryz.prog f s:=tc o6<|tc yh<|tc uV<|tn
attribute [go_sem] NZ
noncomputable def P22:PSpec:=p1 bf (fun _=>True) (fun d=>.tup [jg (zk d),vInt (jR d)]) false
noncomputable def S22:Spec:=P22.toSpec
attribute [go_sem] P22 S22
set_option maxHeartbeats 4000000 in
theorem Q3:aL Tryz.prog 22 P22:=by
 refine w1 (rs:=[.cell 2 27,.tmp 3]) Tryz.func22 Tryz.ntmps22 (by rfl) (by kernel_rfl) (by decide) (fun h=>by cases h) ⟨_,rfl,lb rfl,fun d hp hw=>?_⟩
 have hP:=aU
 simp only[bf]at hw |-
 have hΓ:=aaE
 repeat refine sq ?_
 refine rx hΓ [1,2] [[1,0],[2,0]] (fun K' hK=>by simp only[go_sem];(repeat (refine⟨ah,?_⟩));exact hK _ (by simp only[go_sem]) (by simp only[go_sem]<;>rfl)) ?_
 refine aF (e8 [2,0] _ (ax zS) rfl rfl [1,2] [[1,0],[2,0]] ?_ rfl) ?_
 ·simp only[go_sem]
 simp only[go_sem]
 repeat refine sq ?_
 refine rx hΓ [1,2,4] [[1,0],[2,0]] (fun K' hK=>by simp only[go_sem];(repeat (refine⟨ah,?_⟩));exact hK _ (by simp only[go_sem]) (by simp only[go_sem]<;>rfl)) ?_
 repeat refine sq ?_
 refine rx hΓ [1,2,4,8] [[1,0],[2,0]] (fun K' hK=>by simp only[go_sem];(repeat (refine⟨ah,?_⟩));exact hK _ (by simp only[go_sem]) (by simp only[go_sem]<;>rfl)) ?_
 repeat refine sq ?_
 refine aw rfl rfl (fun hb=>?_) (fun hb=>?_)
 ·repeat refine sq ?_
  have hd:=iA hb
  repeat refine sq ?_
  refine rx hΓ [2,3] [[2,0]] (fun K' hK=>by simp only[go_sem];(repeat (refine⟨ah,?_⟩));exact hK _ (by simp only[go_sem]) (by simp only[go_sem]<;>rfl)) ?_
  refine ar ?_
  simp only[go_sem]
  first | (rw[pD hd];done) | (rw[pD hd];rfl) | (rw[pC hd,bO hd];done) | (rw[pC hd,bO hd];rfl)
 ·repeat refine sq ?_
  have hd:=iz hb
  obtain⟨gV,jL,n0,px⟩:=l6 hd
  have mY:=XP hd
  refine ay ?_
  repeat refine sq ?_
  refine rx hΓ [2,3] [[2,0]] (fun K' hK=>by simp only[go_sem,gV,jL,mY,List.append_nil];(repeat (refine⟨ah,?_⟩));exact hK _ (by simp only[go_sem]) (by simp only[go_sem]<;>rfl)) ?_
  refine ar ?_
  simp only[go_sem]
  first | (rw[pD hd];done) | (rw[pD hd];rfl) | (rw[pC hd,bO hd];done) | (rw[pC hd,bO hd];rfl)
theorem k22:ak Tryz.prog 22 S22:=Q3.sound
noncomputable def NY:List (Nat×Spec):=[(39,S39),(61,S61),(62,S62)]
theorem aaD:∀ f s,tbl NY f=some s->ak Tryz.prog f s:=tc o5<|tc yf<|tc qv<|tn
attribute [go_sem] NY
noncomputable def P32:PSpec:=p1 bf (fun _=>True) (fun d=>.tup [jg (zk d),vInt (jR d)]) false
noncomputable def S32:Spec:=P32.toSpec
attribute [go_sem] P32 S32
set_option maxHeartbeats 4000000 in
theorem QU:aL Tryz.prog 32 P32:=by
 refine w1 (rs:=[.cell 2 27,.tmp 3]) Tryz.func32 Tryz.ntmps32 (by rfl) (by kernel_rfl) (by decide) (fun h=>by cases h) ⟨_,rfl,lb rfl,fun d hp hw=>?_⟩
 have hP:=aU
 simp only[bf]at hw |-
 have hΓ:=aaD
 repeat refine sq ?_
 refine rx hΓ [1,2] [[1,0],[2,0]] (fun K' hK=>by simp only[go_sem];(repeat (refine⟨ah,?_⟩));exact hK _ (by simp only[go_sem]) (by simp only[go_sem]<;>rfl)) ?_
 refine aF (e8 [2,0] _ (ax zS) rfl rfl [1,2] [[1,0],[2,0]] ?_ rfl) ?_
 ·simp only[go_sem]
 simp only[go_sem]
 refine aF (bo [1,0] (al d) rfl [1,2] [[1,0],[2,0]] ?_ rfl) ?_
 ·simp only[go_sem]
 simp only[go_sem]
 repeat refine sq ?_
 refine rx hΓ [1,2,6] [[1,0],[2,0]] (fun K' hK=>by simp only[go_sem];(repeat (refine⟨ah,?_⟩));exact hK _ (by simp only[go_sem]) (by simp only[go_sem]<;>rfl)) ?_
 repeat refine sq ?_
 refine aw rfl rfl (fun hb=>?_) (fun hb=>?_)
 ·repeat refine sq ?_
  have hd:=iA hb
  repeat refine sq ?_
  refine rx hΓ [2,3] [[2,0]] (fun K' hK=>by simp only[go_sem];(repeat (refine⟨ah,?_⟩));exact hK _ (by simp only[go_sem]) (by simp only[go_sem]<;>rfl)) ?_
  refine ar ?_
  simp only[go_sem]
  first | (rw[pD hd,dH hd];done) | (rw[pD hd,dH hd];rfl) | (rw[pC hd,bO hd];done) | (rw[pC hd,bO hd];rfl)
 ·repeat refine sq ?_
  have hd:=iz hb
  obtain⟨gV,jL,n0,px⟩:=l6 hd
  have gB:=vU hd
  have a8:=px.sz
  refine ay ?_
  repeat refine sq ?_
  refine rx hΓ [2,3] [[2,0]] (fun K' hK=>by simp only[go_sem,gV,jL,gB,a8,List.append_nil];(repeat (refine⟨ah,?_⟩));exact hK _ (by simp only[go_sem]) (by simp only[go_sem]<;>rfl)) ?_
  refine ar ?_
  simp only[go_sem]
  first | (rw[pD hd,dH hd];done) | (rw[pD hd,dH hd];rfl) | (rw[pC hd,bO hd];done) | (rw[pC hd,bO hd];rfl)
theorem k32:ak Tryz.prog 32 S32:=QU.sound
def et(d:Dk)(t:Int):Bool:=aP t 0 5&&(t != d.me)
def nj(d:Dk)(t:Int):Bool:=aJ d&&et d t
def kr(d:Dk)(t:Int):Int:=if aJ d=true then(if et d t=true then 0 else 94)else 92
theorem rO{d:Dk}{t:Int}(h:aJ d=false):kr d t=92:=if_neg (by rw[h];decide)
theorem ot{d:Dk}{t:Int}(h:aJ d=true)(k:et d t=false):kr d t=94:=by unfold kr;rw[if_pos h,if_neg (by rw[k];decide)]
theorem e7{d:Dk}{t:Int}(h:aJ d=true)(k:et d t=true):kr d t=0:=by unfold kr;rw[if_pos h,if_pos k]
theorem FJ(d:Dk)(t:Int):(!aP t 0 5||(t==d.me))=!et d t:=by
 unfold et
 have :(t != d.me)=!(t==d.me):=rfl
 rw[this]
 cases aP t 0 5<;>cases (t==d.me)<;>rfl
theorem tM{d:Dk}{t:Int}(h:(kr d t != 0)=false):aJ d=true/\et d t=true:=by
 cases h1:aJ d with
 |false=>rw[rO h1]at h;exact absurd h (by decide)
 |true=>
  cases h2:et d t with
  |false=>rw[ot h1 h2]at h;exact absurd h (by decide)
  |true=>exact⟨rfl,rfl⟩
theorem tL{d:Dk}{t:Int}(h:(kr d t != 0)=true):nj d t=false:=by
 unfold nj
 cases h1:aJ d with
 |false=>rfl
 |true=>
  cases h2:et d t with
  |false=>rfl
  |true=>rw[e7 h1 h2]at h;exact absurd h (by decide)
theorem p0{d:Dk}{t:Int}(h:et d t=true):0<=t/\t<6/\t.toNat<6:=by
 unfold et at h
 simp only[Bool.and_eq_true]at h
 have :=iu.1 h.1
 exact⟨by omega,by omega,by omega⟩
noncomputable def NX:List (Nat×Spec):=[(23,S23),(82,S82)]
theorem aaC:∀ f s,tbl NX f=some s->ak Tryz.prog f s:=tc o6<|tc ye<|tn
attribute [go_sem] NX
noncomputable def P51:PSpec:=p2 bf iI (fun _ _=>True) (fun d t=>vInt (kr d t)) true
noncomputable def S51:Spec:=P51.toSpec
attribute [go_sem] P51 S51
set_option maxHeartbeats 4000000 in
theorem QF:aL Tryz.prog 51 P51:=by
 refine w2 (rs:=[.tmp 4]) Tryz.func51 Tryz.ntmps51 (by rfl) (by kernel_rfl) (by decide) (fun _ _ _=>rfl) ⟨_,rfl,lb rfl,fun d t hp hw=>?_⟩
 have hP:=aU
 simp only[bf,iI]at hw |-
 have hΓ:=aaC
 repeat refine sq ?_
 refine rx hΓ [1,2] [[2,0]] (fun K' hK=>by simp only[go_sem];(repeat (refine⟨ah,?_⟩));exact hK _ (by simp only[go_sem]) (by simp only[go_sem]<;>rfl)) ?_
 refine aF (bo [2,0] (al d) rfl [1,2] [[2,0]] ?_ rfl) ?_
 ·simp only[go_sem]
 simp only[go_sem]
 repeat refine sq ?_
 refine rx hΓ [1,2,5] [[2,0]] (fun K' hK=>by simp only[go_sem];(repeat (refine⟨ah,?_⟩));exact hK _ (by simp only[go_sem]) (by simp only[go_sem]<;>rfl)) ?_
 repeat refine sq ?_
 refine rx hΓ [1,2,5,9] [[2,0]] (fun K' hK=>by simp only[go_sem];(repeat (refine⟨ah,?_⟩));exact hK _ (by simp only[go_sem]) (by simp only[go_sem]<;>rfl)) ?_
 repeat refine sq ?_
 refine aw rfl rfl (fun hb=>?_) (fun hb=>?_)
 ·repeat refine sq ?_
  have hd:=iA hb
  have e1:=dH hd
  repeat refine sq ?_
  refine rx hΓ [4] [] (fun K' hK=>by simp only[go_sem];(repeat (refine⟨ah,?_⟩));exact hK _ (by simp only[go_sem]) (by simp only[go_sem]<;>rfl)) ?_
  refine ar ?_
  simp only[go_sem]
  first | (rw[rO hd,e1];done) | (rw[ot hd hk];done) | (rw[e7 hd hk];done)
 ·repeat refine sq ?_
  have hd:=iz hb
  refine ay ?_
  repeat refine sq ?_
  refine rx hΓ [19] [] (fun K' hK=>by simp only[go_sem,FJ];(repeat (refine⟨ah,?_⟩));exact hK _ (by simp only[go_sem]) (by simp only[go_sem]<;>rfl)) ?_
  repeat refine sq ?_
  refine aw rfl rfl (fun hb=>?_) (fun hb=>?_)
  ·repeat refine sq ?_
   have hk:et d t=false:=by simpa using hb
   repeat refine sq ?_
   refine rx hΓ [4] [] (fun K' hK=>by simp only[go_sem];(repeat (refine⟨ah,?_⟩));exact hK _ (by simp only[go_sem]) (by simp only[go_sem]<;>rfl)) ?_
   refine ar ?_
   simp only[go_sem]
   first | (rw[rO hd,e1];done) | (rw[ot hd hk];done) | (rw[e7 hd hk];done)
  ·repeat refine sq ?_
   have hk:et d t=true:=by simpa using hb
   refine ay ?_
   repeat refine sq ?_
   refine rx hΓ [4] [] (fun K' hK=>by simp only[go_sem];(repeat (refine⟨ah,?_⟩));exact hK _ (by simp only[go_sem]) (by simp only[go_sem]<;>rfl)) ?_
   refine ar ?_
   simp only[go_sem]
   first | (rw[rO hd,e1];done) | (rw[ot hd hk];done) | (rw[e7 hd hk];done)
theorem B8:ak Tryz.prog 51 S51:=QF.sound
noncomputable def NW:List (Nat×Spec):=[(39,S39),(84,S84)]
theorem aaB:∀ f s,tbl NW f=some s->ak Tryz.prog f s:=tc o5<|tc yd<|tn
attribute [go_sem] NW
noncomputable def P56:PSpec:=p2 bf iI (fun _ _=>True) (fun d t=>vInt (kr d t)) true
noncomputable def S56:Spec:=P56.toSpec
attribute [go_sem] P56 S56
set_option maxHeartbeats 4000000 in
theorem QC:aL Tryz.prog 56 P56:=by
 refine w2 (rs:=[.tmp 4]) Tryz.func56 Tryz.ntmps56 (by rfl) (by kernel_rfl) (by decide) (fun _ _ _=>rfl) ⟨_,rfl,lb rfl,fun d t hp hw=>?_⟩
 have hP:=aU
 simp only[bf,iI]at hw |-
 have hΓ:=aaB
 repeat refine sq ?_
 refine rx hΓ [1,2] [[2,0]] (fun K' hK=>by simp only[go_sem];(repeat (refine⟨ah,?_⟩));exact hK _ (by simp only[go_sem]) (by simp only[go_sem]<;>rfl)) ?_
 refine aF (bo [2,0] (al d) rfl [1,2] [[2,0]] ?_ rfl) ?_
 ·simp only[go_sem]
 simp only[go_sem]
 repeat refine sq ?_
 refine rx hΓ [1,2,7] [[2,0]] (fun K' hK=>by simp only[go_sem];(repeat (refine⟨ah,?_⟩));exact hK _ (by simp only[go_sem]) (by simp only[go_sem]<;>rfl)) ?_
 repeat refine sq ?_
 refine aw rfl rfl (fun hb=>?_) (fun hb=>?_)
 ·repeat refine sq ?_
  have hd:=iA hb
  repeat refine sq ?_
  refine rx hΓ [4] [] (fun K' hK=>by simp only[go_sem];(repeat (refine⟨ah,?_⟩));exact hK _ (by simp only[go_sem]) (by simp only[go_sem]<;>rfl)) ?_
  refine ar ?_
  simp only[go_sem]
  first | (rw[rO hd];done) | (rw[ot hd hk];done) | (rw[e7 hd hk];done)
 ·repeat refine sq ?_
  have hd:=iz hb
  refine ay ?_
  repeat refine sq ?_
  refine rx hΓ [16] [] (fun K' hK=>by simp only[go_sem,FJ];(repeat (refine⟨ah,?_⟩));exact hK _ (by simp only[go_sem]) (by simp only[go_sem]<;>rfl)) ?_
  repeat refine sq ?_
  refine aw rfl rfl (fun hb=>?_) (fun hb=>?_)
  ·repeat refine sq ?_
   have hk:et d t=false:=by simpa using hb
   repeat refine sq ?_
   refine rx hΓ [4] [] (fun K' hK=>by simp only[go_sem];(repeat (refine⟨ah,?_⟩));exact hK _ (by simp only[go_sem]) (by simp only[go_sem]<;>rfl)) ?_
   refine ar ?_
   simp only[go_sem]
   first | (rw[rO hd];done) | (rw[ot hd hk];done) | (rw[e7 hd hk];done)
  ·repeat refine sq ?_
   have hk:et d t=true:=by simpa using hb
   refine ay ?_
   repeat refine sq ?_
   refine rx hΓ [4] [] (fun K' hK=>by simp only[go_sem];(repeat (refine⟨ah,?_⟩));exact hK _ (by simp only[go_sem]) (by simp only[go_sem]<;>rfl)) ?_
   refine ar ?_
   simp only[go_sem]
   first | (rw[rO hd];done) | (rw[ot hd hk];done) | (rw[e7 hd hk];done)
theorem B6:ak Tryz.prog 56 S56:=QC.sound
theorem Md{l:List V}{off:Nat}{s:Stk}(h:(l.drop off).take 19=ax s){i:Nat}(hi:i<19):l.getD (off+i) default=(ax s).getD i default:=by
 have hlen:=Ey h
 rw[<-h,je (show off+i<l.length by omega),je (by rw[List.length_take,List.length_drop];omega)]
 simp
def FG(d:Dk)(t:Int):List Int:=(d.now.un.get t.toNat).map Par.pa
def w7(d:Dk)(t:Int):List Int:=if nj d t=true then FG d t else[]
theorem oF{d:Dk}{t:Int}(h:aJ d=true)(k:et d t=true):w7 d t=FG d t:=if_pos (by unfold nj;rw[h,k];rfl)
theorem oG{d:Dk}{t:Int}(h:nj d t=false):w7 d t=[]:=if_neg (by rw[h];decide)
def lF(l:List Par)(z:Nat):List Int:=(l.take z).map Par.pa
theorem xz{l:List Par}{z:Nat}(h:z<l.length):lF l (z+1)=lF l z++[l[z].pa]:=by
 unfold lF
 rw[List.take_add_one,List.getElem?_eq_getElem h,List.map_append]
 rfl
theorem Ha{l:List Par}{z:Nat}(h:z<=l.length):(lF l z).length=z:=by
 unfold lF
 rw[List.length_map,List.length_take]
 omega
theorem oU(l:List Par):lF l l.length=l.map Par.pa:=by
 unfold lF
 rw[List.take_length]
theorem v7(d:Dk){i:Nat}(h:i<6):(al d).getD (1+1+i) default=rowP (d.now.un.get i):=by
 match i,h with
 | 0,_=>rfl
 | 1,_=>rfl
 | 2,_=>rfl
 | 3,_=>rfl
 | 4,_=>rfl
 | 5,_=>rfl
noncomputable def NV:List (Nat×Spec):=[(51,S51)]
theorem aaA:∀ f s,tbl NV f=some s->ak Tryz.prog f s:=tc B8<|tn
attribute [go_sem] NV
noncomputable def P30:PSpec:=p2 bf iI (fun _ _=>True) (fun d t=>.tup [.sl ((w7 d t).map vInt),vInt (kr d t)]) false
noncomputable def S30:Spec:=P30.toSpec
attribute [go_sem] P30 S30
set_option maxHeartbeats 4000000 in
theorem QW:aL Tryz.prog 30 P30:=by
 refine w2 (rs:=[.tmp 4,.tmp 5]) Tryz.func30 Tryz.ntmps30 (by rfl) (by kernel_rfl) (by decide) (fun h=>by cases h) ⟨_,rfl,lb rfl,fun d t hp hw=>?_⟩
 have hP:=aU
 simp only[bf,iI]at hw |-
 have hΓ:=aaA
 repeat refine sq ?_
 refine rx hΓ [1,2] [[2,0]] (fun K' hK=>by simp only[go_sem];(repeat (refine⟨ah,?_⟩));exact hK _ (by simp only[go_sem]) (by simp only[go_sem]<;>rfl)) ?_
 refine aF (bo [2,0] (al d) rfl [1,2] [[2,0]] ?_ rfl) ?_
 ·simp only[go_sem]
 simp only[go_sem]
 repeat refine sq ?_
 refine rx hΓ [1,2,6] [[2,0]] (fun K' hK=>by simp only[go_sem];(repeat (refine⟨ah,?_⟩));exact hK _ (by simp only[go_sem]) (by simp only[go_sem]<;>rfl)) ?_
 repeat refine sq ?_
 refine rx hΓ [1,2,6,14] [[2,0]] (fun K' hK=>by simp only[go_sem];(repeat (refine⟨ah,?_⟩));exact hK _ (by simp only[go_sem]) (by simp only[go_sem]<;>rfl)) ?_
 repeat refine sq ?_
 refine aw rfl rfl (fun hb=>?_) (fun hb=>?_)
 ·repeat refine sq ?_
  have hn:=tL hb
  repeat refine sq ?_
  refine rx hΓ [4,5] [[30,0]] (fun K' hK=>by simp only[go_sem];(repeat (refine⟨ah,?_⟩));exact hK _ (by simp only[go_sem]) (by simp only[go_sem]<;>rfl)) ?_
  refine ar ?_
  simp only[go_sem]
  first | (rw[oG hn];done) | (rw[oG hn];rfl) | (rw[oF hd hk,e7 hd hk,oU];done) | (rw[oF hd hk,e7 hd hk,oU];rfl)
 ·repeat refine sq ?_
  obtain⟨hd,hk⟩:=tM hb
  obtain⟨fY,gO,ht⟩:=p0 hk
  have ph:=(mG hd).unl t.toNat ht
  have hl:(d.now.un.get t.toNat).length<=maxLen:=by unfold maxLen;omega
  refine ay ?_
  repeat refine sq ?_
  refine rx hΓ [1,2,7] [[2,0],[30,0]] (fun K' hK=>by simp only[go_sem];(repeat (refine⟨ah,?_⟩));exact hK _ (by simp only[go_sem]) (by simp only[go_sem]<;>rfl)) ?_
  refine aF (ua 7 [30,0] 1 (by simp only[go_sem]) (by simp only[go_sem]) [1,2,7] [[2,0],[30,0]] ?_ rfl) ?_
  ·simp only[go_sem]
  simp only[go_sem]
  repeat refine sq ?_
  refine rx hΓ [7,20,21,22] [[30,0]] (fun K' hK=>by simp only[go_sem,Nat.reduceAdd,v7 d ht,fY,gO];(repeat (refine⟨ah,?_⟩));exact hK _ (by simp only[go_sem]) (by simp only[go_sem]<;>rfl)) ?_
  repeat refine sq ?_
  refine aN ?_
  repeat refine sq ?_
  refine cB (fun z:Nat=>[(22,⟨true,.v (vInt z)⟩),(7,⟨true,.msl [30,0] (lF (d.now.un.get t.toNat) z).length⟩)]) (fun z=>[([30,0],.arr 1 ((lF (d.now.un.get t.toNat) z).map vInt))]) (fun z=>z<=(d.now.un.get t.toNat).length) (fun z=>(d.now.un.get t.toNat).length-z) 0 ?_ ?_ ?_ ?_
  ·exact Nat.zero_le _
  ·rfl
  ·rfl
  rintro i hi
  simp only[go_sem]
  repeat refine sq ?_
  refine rx hΓ [7,20,21,22,23] [[30,0]] (fun K' hK=>by simp only[go_sem];(repeat (refine⟨ah,?_⟩));exact hK _ (by simp only[go_sem]) (by simp only[go_sem]<;>rfl)) ?_
  repeat refine sq ?_
  refine aw rfl rfl (fun hb=>?_) (fun hb=>?_)
  ·have ae:i<(d.now.un.get t.toNat).length:=by simpa using hb
   have aj:(i:Int)<(d.now.un.get t.toNat).length:=by omega
   clear hb
   have hx:=Ha (Nat.le_of_lt ae)
   repeat refine sq ?_
   refine ay ?_
   repeat refine sq ?_
   refine aN ?_
   repeat refine sq ?_
   refine rx hΓ [7,9,20,21,22] [[9,0],[30,0]] (fun K' hK=>by simp only[go_sem,aG ae,Int.toNat_natCast,Int.natCast_nonneg,aj];(repeat (refine⟨ah,?_⟩));exact hK _ (by simp only[go_sem]) (by simp only[go_sem]<;>rfl)) ?_
   repeat refine sq ?_
   refine aS hΓ fun K' hK=>?_
   simp only[go_sem,aG ae,Int.toNat_natCast,Int.natCast_nonneg,aj]
   repeat (refine⟨ah,?_⟩)
   refine hK _ ?_
   clear K' hK
   simp only[go_sem]
   refine kp [7,20,21,22] [[30,0]] ?_
   repeat refine sq ?_
   refine aS hΓ fun K' hK=>?_
   simp only[go_sem,aG ae,Int.toNat_natCast,Int.natCast_nonneg,aj]
   repeat (refine⟨ah,?_⟩)
   refine hK _ ?_
   clear K' hK
   simp only[go_sem]
   refine⟨i+1,ae,by(show (d.now.un.get t.toNat).length-(i+1)<(d.now.un.get t.toNat).length-i;omega),?_⟩
   refine bk [7,20,21,22] [[30,0]] ?_ ?_
   ·simp only[go_sem,aE ae hl,Int.natCast_add,Int.natCast_one,xz ae,List.map_append,List.length_append,List.map_cons,List.map_nil,List.length_cons,List.length_nil]
   ·simp only[go_sem,aE ae hl,Int.natCast_add,Int.natCast_one,xz ae,List.map_append,List.length_append,List.map_cons,List.map_nil,List.length_cons,List.length_nil]
  ·have aX:i=(d.now.un.get t.toNat).length:=by
    have :¬ (i:Int)<(d.now.un.get t.toNat).length:=by simpa using hb
    omega
   clear hb
   subst aX
   repeat refine sq ?_
   refine b7 ?_
   simp only[go_sem]
   refine kp [7] [[30,0]] ?_
   repeat refine sq ?_
   refine rx hΓ [4,5] [[30,0]] (fun K' hK=>by simp only[go_sem];(repeat (refine⟨ah,?_⟩));exact hK _ (by simp only[go_sem]) (by simp only[go_sem]<;>rfl)) ?_
   refine ar ?_
   simp only[go_sem]
   first | (rw[oG hn];done) | (rw[oG hn];rfl) | (rw[oF hd hk,e7 hd hk,oU];done) | (rw[oF hd hk,e7 hd hk,oU];rfl)
theorem k30:ak Tryz.prog 30 S30:=QW.sound
noncomputable def NU:List (Nat×Spec):=[(56,S56)]
theorem aaz:∀ f s,tbl NU f=some s->ak Tryz.prog f s:=tc B6<|tn
attribute [go_sem] NU
noncomputable def P31:PSpec:=p2 bf iI (fun _ _=>True) (fun d t=>.tup [.sl ((w7 d t).map vInt),vInt (kr d t)]) false
noncomputable def S31:Spec:=P31.toSpec
attribute [go_sem] P31 S31
set_option maxHeartbeats 4000000 in
theorem QV:aL Tryz.prog 31 P31:=by
 refine w2 (rs:=[.tmp 4,.tmp 5]) Tryz.func31 Tryz.ntmps31 (by rfl) (by kernel_rfl) (by decide) (fun h=>by cases h) ⟨_,rfl,lb rfl,fun d t hp hw=>?_⟩
 have hP:=aU
 simp only[bf,iI]at hw |-
 have hΓ:=aaz
 repeat refine sq ?_
 refine rx hΓ [1,2] [[2,0]] (fun K' hK=>by simp only[go_sem];(repeat (refine⟨ah,?_⟩));exact hK _ (by simp only[go_sem]) (by simp only[go_sem]<;>rfl)) ?_
 refine aF (bo [2,0] (al d) rfl [1,2] [[2,0]] ?_ rfl) ?_
 ·simp only[go_sem]
 simp only[go_sem]
 repeat refine sq ?_
 refine rx hΓ [1,2,6] [[2,0]] (fun K' hK=>by simp only[go_sem];(repeat (refine⟨ah,?_⟩));exact hK _ (by simp only[go_sem]) (by simp only[go_sem]<;>rfl)) ?_
 repeat refine sq ?_
 refine rx hΓ [1,2,6,13] [[2,0]] (fun K' hK=>by simp only[go_sem];(repeat (refine⟨ah,?_⟩));exact hK _ (by simp only[go_sem]) (by simp only[go_sem]<;>rfl)) ?_
 repeat refine sq ?_
 refine aw rfl rfl (fun hb=>?_) (fun hb=>?_)
 ·repeat refine sq ?_
  have hn:=tL hb
  repeat refine sq ?_
  refine rx hΓ [4,5] [[36,0]] (fun K' hK=>by simp only[go_sem];(repeat (refine⟨ah,?_⟩));exact hK _ (by simp only[go_sem]) (by simp only[go_sem]<;>rfl)) ?_
  refine ar ?_
  simp only[go_sem]
  first | (rw[oG hn];done) | (rw[oG hn];rfl) | (rw[oF hd hk,e7 hd hk,oU];done) | (rw[oF hd hk,e7 hd hk,oU];rfl)
 ·repeat refine sq ?_
  obtain⟨hd,hk⟩:=tM hb
  obtain⟨fY,gO,ht⟩:=p0 hk
  have ph:=(mG hd).unl t.toNat ht
  have hl:(d.now.un.get t.toNat).length<=maxLen:=by unfold maxLen;omega
  refine ay ?_
  repeat refine sq ?_
  refine rx hΓ [1,2,7] [[2,0],[36,0]] (fun K' hK=>by simp only[go_sem];(repeat (refine⟨ah,?_⟩));exact hK _ (by simp only[go_sem]) (by simp only[go_sem]<;>rfl)) ?_
  refine aF (ua 7 [36,0] 1 (by simp only[go_sem]) (by simp only[go_sem]) [1,2,7] [[2,0],[36,0]] ?_ rfl) ?_
  ·simp only[go_sem]
  simp only[go_sem]
  repeat refine sq ?_
  refine rx hΓ [1,2,7,8] [[2,0],[36,0]] (fun K' hK=>by simp only[go_sem];(repeat (refine⟨ah,?_⟩));exact hK _ (by simp only[go_sem]) (by simp only[go_sem]<;>rfl)) ?_
  repeat refine sq ?_
  refine aN ?_
  repeat refine sq ?_
  refine cB (fun z:Nat=>[(8,⟨true,.v (vInt z)⟩),(7,⟨true,.msl [36,0] (lF (d.now.un.get t.toNat) z).length⟩)]) (fun z=>[([36,0],.arr 1 ((lF (d.now.un.get t.toNat) z).map vInt))]) (fun z=>z<=(d.now.un.get t.toNat).length) (fun z=>(d.now.un.get t.toNat).length-z) 0 ?_ ?_ ?_ ?_
  ·exact Nat.zero_le _
  ·rfl
  ·rfl
  rintro i hi
  simp only[go_sem]
  repeat refine sq ?_
  refine rx hΓ [1,2,7,8,22] [[2,0],[36,0]] (fun K' hK=>by simp only[go_sem,Nat.reduceAdd,v7 d ht,fY,gO];(repeat (refine⟨ah,?_⟩));exact hK _ (by simp only[go_sem]) (by simp only[go_sem]<;>rfl)) ?_
  repeat refine sq ?_
  refine aw rfl rfl (fun hb=>?_) (fun hb=>?_)
  ·have ae:i<(d.now.un.get t.toNat).length:=by simpa using hb
   have aj:(i:Int)<(d.now.un.get t.toNat).length:=by omega
   clear hb
   have hx:=Ha (Nat.le_of_lt ae)
   repeat refine sq ?_
   refine ay ?_
   repeat refine sq ?_
   refine aN ?_
   repeat refine sq ?_
   refine aS hΓ fun K' hK=>?_
   simp only[go_sem,aG ae,Int.toNat_natCast,Int.natCast_nonneg,aj,Nat.reduceAdd,v7 d ht,fY,gO]
   repeat (refine⟨ah,?_⟩)
   refine hK _ ?_
   clear K' hK
   simp only[go_sem]
   refine kp [1,2,7,8] [[2,0],[36,0]] ?_
   repeat refine sq ?_
   refine aS hΓ fun K' hK=>?_
   simp only[go_sem,aG ae,Int.toNat_natCast,Int.natCast_nonneg,aj,Nat.reduceAdd,v7 d ht,fY,gO]
   repeat (refine⟨ah,?_⟩)
   refine hK _ ?_
   clear K' hK
   simp only[go_sem]
   refine⟨i+1,ae,by(show (d.now.un.get t.toNat).length-(i+1)<(d.now.un.get t.toNat).length-i;omega),?_⟩
   refine bk [1,2,7,8] [[2,0],[36,0]] ?_ ?_
   ·simp only[go_sem,aE ae hl,Int.natCast_add,Int.natCast_one,xz ae,List.map_append,List.length_append,List.map_cons,List.map_nil,List.length_cons,List.length_nil]
   ·simp only[go_sem,aE ae hl,Int.natCast_add,Int.natCast_one,xz ae,List.map_append,List.length_append,List.map_cons,List.map_nil,List.length_cons,List.length_nil]
  ·have aX:i=(d.now.un.get t.toNat).length:=by
    have :¬ (i:Int)<(d.now.un.get t.toNat).length:=by simpa using hb
    omega
   clear hb
   subst aX
   repeat refine sq ?_
   refine b7 ?_
   simp only[go_sem]
   refine kp [7] [[36,0]] ?_
   repeat refine sq ?_
   refine rx hΓ [4,5] [[36,0]] (fun K' hK=>by simp only[go_sem];(repeat (refine⟨ah,?_⟩));exact hK _ (by simp only[go_sem]) (by simp only[go_sem]<;>rfl)) ?_
   refine ar ?_
   simp only[go_sem]
   first | (rw[oG hn];done) | (rw[oG hn];rfl) | (rw[oF hd hk,e7 hd hk,oU];done) | (rw[oF hd hk,e7 hd hk,oU];rfl)
theorem k31:ak Tryz.prog 31 S31:=QV.sound
def xy(d:Dk)(t:Int):Bag:=if nj d t=true then⟨d.me,t,(fg d).un.get t.toNat,(fg d).ta.get t.toNat⟩else⟨0,0,[],0⟩
theorem oQ{d:Dk}{t:Int}(h:aJ d=true)(k:et d t=true):xy d t=⟨d.me,t,(fg d).un.get t.toNat,(fg d).ta.get t.toNat⟩:=if_pos (by unfold nj;rw[h,k];rfl)
theorem oR{d:Dk}{t:Int}(h:nj d t=false):xy d t=⟨0,0,[],0⟩:=if_neg (by rw[h];decide)
theorem X4{d:Dk}(h:aJ d=true){i:Nat}(hi:i<6):(al d).getD (20+(be d).toNat*21+1+1+i) default=rowP ((fg d).un.get i):=by
 rw[Nat.add_assoc (20+(be d).toNat*21+1),Md (vU h) (show 1+i<19 by omega),cL _ hi]
theorem X5{d:Dk}(h:aJ d=true){i:Nat}(hi:i<6):(al d).getD (20+(be d).toNat*21+1+13+i) default=vInt ((fg d).ta.get i):=by
 rw[Nat.add_assoc (20+(be d).toNat*21+1),Md (vU h) (show 13+i<19 by omega),dt _ hi]
noncomputable def NT:List (Nat×Spec):=[(51,S51),(58,S58),(76,S76)]
theorem aay:∀ f s,tbl NT f=some s->ak Tryz.prog f s:=tc B8<|tc yh<|tc Jx<|tn
attribute [go_sem] NT
noncomputable def P26:PSpec:=p2 bf iI (fun _ _=>True) (fun d t=>.tup [l7 (xy d t),vInt (kr d t)]) false
noncomputable def S26:Spec:=P26.toSpec
attribute [go_sem] P26 S26
set_option maxHeartbeats 4000000 in
theorem Q0:aL Tryz.prog 26 P26:=by
 refine w2 (rs:=[.cell 4 34,.tmp 5]) Tryz.func26 Tryz.ntmps26 (by rfl) (by kernel_rfl) (by decide) (fun h=>by cases h) ⟨_,rfl,lb rfl,fun d t hp hw=>?_⟩
 have hP:=aU
 simp only[bf,iI]at hw |-
 have hΓ:=aay
 repeat refine sq ?_
 refine rx hΓ [1,2,4] [[2,0],[4,0]] (fun K' hK=>by simp only[go_sem];(repeat (refine⟨ah,?_⟩));exact hK _ (by simp only[go_sem]) (by simp only[go_sem]<;>rfl)) ?_
 refine aF (bo [2,0] (al d) rfl [1,2,4] [[2,0],[4,0]] ?_ rfl) ?_
 ·simp only[go_sem]
 simp only[go_sem]
 repeat refine sq ?_
 refine rx hΓ [1,2,4,6] [[2,0],[4,0]] (fun K' hK=>by simp only[go_sem];(repeat (refine⟨ah,?_⟩));exact hK _ (by simp only[go_sem]) (by simp only[go_sem]<;>rfl)) ?_
 repeat refine sq ?_
 refine rx hΓ [1,2,4,6,12] [[2,0],[4,0]] (fun K' hK=>by simp only[go_sem];(repeat (refine⟨ah,?_⟩));exact hK _ (by simp only[go_sem]) (by simp only[go_sem]<;>rfl)) ?_
 repeat refine sq ?_
 refine aw rfl rfl (fun hb=>?_) (fun hb=>?_)
 ·repeat refine sq ?_
  have hn:=tL hb
  repeat refine sq ?_
  refine rx hΓ [4,5] [[4,0]] (fun K' hK=>by simp only[go_sem];(repeat (refine⟨ah,?_⟩));exact hK _ (by simp only[go_sem]) (by simp only[go_sem]<;>rfl)) ?_
  refine ar ?_
  simp only[go_sem]
  first | (rw[oR hn];done) | (rw[oR hn];rfl) | (rw[oQ hd hk,e7 hd hk];done) | (rw[oQ hd hk,e7 hd hk];rfl)
 ·repeat refine sq ?_
  obtain⟨hd,hk⟩:=tM hb
  obtain⟨fY,gO,ht⟩:=p0 hk
  obtain⟨gV,jL,n0,px⟩:=l6 hd
  have hu:=X4 hd ht
  have ha:=X5 hd ht
  have hz:=px.sz.2 t.toNat ht
  refine ay ?_
  repeat refine sq ?_
  refine rx hΓ [1,2,4,7] [[2,0],[4,0]] (fun K' hK=>by simp only[go_sem,gV,jL];(repeat (refine⟨ah,?_⟩));exact hK _ (by simp only[go_sem]) (by simp only[go_sem]<;>rfl)) ?_
  repeat refine sq ?_
  refine dx hΓ hP [[],[0],[],[],[],[3],[3,5],[3,4,5,6],[3,4,5,6,7],[3,4,5,6,7,8],[],[],[10],[10,12],[10,11,12,13],[10,11,12,13,14],[0,1,2,3,4,5,6,7,8,9,10,11,12,13,14,15],[0,1,2,3,4,5,6,7,8,9,10,11,12,13,14,15,16],[0,1,2,3,4,5,6,7,8,9,10,11,12,13,14,15,16,17]] [4,5] [[4,0]] (by kernel_rfl) (fun K' hK=>by simp only[go_sem,hu,ha,fY,gO,hz,List.append_nil];(repeat (refine⟨ah,?_⟩));(first | refine⟨by rfl,?_⟩ | skip);exact hK _ (by simp only[go_sem]) (by simp only[go_sem]<;>rfl)) ?_
  refine ar ?_
  simp only[go_sem]
  first | (rw[oR hn];done) | (rw[oR hn];rfl) | (rw[oQ hd hk,e7 hd hk];done) | (rw[oQ hd hk,e7 hd hk];rfl)
theorem k26:ak Tryz.prog 26 S26:=Q0.sound
noncomputable def NS:List (Nat×Spec):=[(56,S56),(61,S61),(62,S62)]
theorem aax:∀ f s,tbl NS f=some s->ak Tryz.prog f s:=tc B6<|tc yf<|tc qv<|tn
attribute [go_sem] NS
noncomputable def P27:PSpec:=p2 bf iI (fun _ _=>True) (fun d t=>.tup [l7 (xy d t),vInt (kr d t)]) false
noncomputable def S27:Spec:=P27.toSpec
attribute [go_sem] P27 S27
set_option maxHeartbeats 4000000 in
theorem QZ:aL Tryz.prog 27 P27:=by
 refine w2 (rs:=[.cell 4 34,.tmp 5]) Tryz.func27 Tryz.ntmps27 (by rfl) (by kernel_rfl) (by decide) (fun h=>by cases h) ⟨_,rfl,lb rfl,fun d t hp hw=>?_⟩
 have hP:=aU
 simp only[bf,iI]at hw |-
 have hΓ:=aax
 repeat refine sq ?_
 refine rx hΓ [1,2,4] [[2,0],[4,0]] (fun K' hK=>by simp only[go_sem];(repeat (refine⟨ah,?_⟩));exact hK _ (by simp only[go_sem]) (by simp only[go_sem]<;>rfl)) ?_
 refine aF (bo [2,0] (al d) rfl [1,2,4] [[2,0],[4,0]] ?_ rfl) ?_
 ·simp only[go_sem]
 simp only[go_sem]
 repeat refine sq ?_
 refine rx hΓ [1,2,4,6] [[2,0],[4,0]] (fun K' hK=>by simp only[go_sem];(repeat (refine⟨ah,?_⟩));exact hK _ (by simp only[go_sem]) (by simp only[go_sem]<;>rfl)) ?_
 repeat refine sq ?_
 refine rx hΓ [1,2,4,6,12] [[2,0],[4,0]] (fun K' hK=>by simp only[go_sem];(repeat (refine⟨ah,?_⟩));exact hK _ (by simp only[go_sem]) (by simp only[go_sem]<;>rfl)) ?_
 repeat refine sq ?_
 refine aw rfl rfl (fun hb=>?_) (fun hb=>?_)
 ·repeat refine sq ?_
  have hn:=tL hb
  repeat refine sq ?_
  refine rx hΓ [4,5] [[4,0]] (fun K' hK=>by simp only[go_sem];(repeat (refine⟨ah,?_⟩));exact hK _ (by simp only[go_sem]) (by simp only[go_sem]<;>rfl)) ?_
  refine ar ?_
  simp only[go_sem]
  first | (rw[oR hn];done) | (rw[oR hn];rfl) | (rw[oQ hd hk,e7 hd hk];done) | (rw[oQ hd hk,e7 hd hk];rfl)
 ·repeat refine sq ?_
  obtain⟨hd,hk⟩:=tM hb
  obtain⟨fY,gO,ht⟩:=p0 hk
  obtain⟨gV,jL,n0,px⟩:=l6 hd
  have gB:=vU hd
  have a8:=px.sz
  refine ay ?_
  repeat refine sq ?_
  refine rx hΓ [1,2,4,7] [[2,0],[4,0],[7,0]] (fun K' hK=>by simp only[go_sem,gV,jL,gB,a8,List.append_nil];(repeat (refine⟨ah,?_⟩));exact hK _ (by simp only[go_sem]) (by simp only[go_sem]<;>rfl)) ?_
  refine aF (bo [7,0] (ax (fg d)) rfl [1,2,4,7] [[2,0],[4,0],[7,0]] ?_ rfl) ?_
  ·simp only[go_sem]
  simp only[go_sem]
  repeat refine sq ?_
  refine dx hΓ hP [[],[0],[],[],[],[3,4],[3,4,5],[],[],[7,8],[7,8,9],[0,1,2,3,4,5,6,7,8,9,10],[0,1,2,3,4,5,6,7,8,9,10,11],[0,1,2,3,4,5,6,7,8,9,10,11,12]] [4,5] [[4,0]] (by kernel_rfl) (fun K' hK=>by simp only[go_sem,cL (fg d) ht,dt (fg d) ht,fY,gO,List.append_nil];(repeat (refine⟨ah,?_⟩));(first | refine⟨by rfl,?_⟩ | skip);exact hK _ (by simp only[go_sem]) (by simp only[go_sem]<;>rfl)) ?_
  refine ar ?_
  simp only[go_sem]
  first | (rw[oR hn];done) | (rw[oR hn];rfl) | (rw[oQ hd hk,e7 hd hk];done) | (rw[oQ hd hk,e7 hd hk];rfl)
theorem k27:ak Tryz.prog 27 S27:=QZ.sound
attribute [go_sem] List.append_nil
def Dk.setP(d:Dk)(i:Nat)(p:Pg):Dk:=match i with
 | 0=>⟨d.me,d.now,p,d.pb,d.wet⟩
 |_=>⟨d.me,d.now,d.pa,p,d.wet⟩
def Dk.setW(d:Dk)(w:Int):Dk:=⟨d.me,d.now,d.pa,d.pb,w⟩
def Dk.setN(d:Dk)(s:Stk):Dk:=⟨d.me,s,d.pa,d.pb,d.wet⟩
theorem Dk.pg_set(d:Dk){i:Nat}(h:i<2)(p:Pg):(d.setP i p).pg i=p:=by
 match i,h with
 | 0,_=>rfl
 | 1,_=>rfl
theorem Dk.set_set(d:Dk){i:Nat}(h:i<2)(p q:Pg):(d.setP i p).setP i q=d.setP i q:=by
 match i,h with
 | 0,_=>rfl
 | 1,_=>rfl
theorem Dk.now_set(d:Dk)(i:Nat)(p:Pg):(d.setP i p).now=d.now:=by
 match i with
 | 0=>rfl
 |_+1=>rfl
theorem Yj(d:Dk)(x:Int):List.take 62 (List.map D.v (al d))++[D.v (vInt x)]++List.drop 63 (List.map D.v (al d))=List.map D.v (al (d.setW x)):=rfl
@[go_sem] theorem aeg(d:Dk)(x:Int):List.take 62 (List.map D.v (al d))++[D.v (vInt x)]++[]=List.map D.v (al (d.setW x)):=rfl
@[go_sem] theorem aef(d:Dk)(x:Int):List.take 62 (List.map D.v (al d))++[D.v (vInt x)]=List.map D.v (al (d.setW x)):=rfl
theorem LL(d:Dk){i:Nat}(h:i<2)(c:Int):List.take (20+i*21) (List.map D.v (al d))++[D.v (vInt c)]++List.drop (20+i*21+1) (List.map D.v (al d))=List.map D.v (al (d.setP i ⟨c,(d.pg i).st,(d.pg i).su⟩)):=by
 match i,h with
 | 0,_=>rfl
 | 1,_=>rfl
theorem Yl(d:Dk){i:Nat}(h:i<2)(s:Stk):List.take (20+i*21+1) (List.map D.v (al d))++List.map D.v (ax s)++List.drop (20+i*21+1+19) (List.map D.v (al d))=List.map D.v (al (d.setP i ⟨(d.pg i).co,s,(d.pg i).su⟩)):=by
 match i,h with
 | 0,_=>rfl
 | 1,_=>rfl
theorem Eh(d:Dk){i:Nat}(h:i<2)(c:Int):List.take (20+i*21+20) (List.map D.v (al d))++[D.v (vInt c)]++List.drop (20+i*21+20+1) (List.map D.v (al d))=List.map D.v (al (d.setP i ⟨(d.pg i).co,(d.pg i).st,c⟩)):=by
 match i,h with
 | 0,_=>rfl
 | 1,_=>rfl
theorem Ym(d:Dk)(s:Stk):List.take 1 (List.map D.v (al d))++List.map D.v (ax s)++List.drop 20 (List.map D.v (al d))=List.map D.v (al (d.setN s)):=rfl
def wZ(d:Dk):Int:=if d.wet<0 then 1-be d else d.wet
def wY(d:Dk):Int:=if d.wet<0 then(d.pg (be d).toNat).co+1 else(d.pg d.wet.toNat).co
def pU(d:Dk):Dk:=(d.setW (wZ d)).setP (wZ d).toNat ⟨wY d,d.now,iK d.now (wY d)⟩
def jm(d:Dk):Int:=if aJ d=true then(if (decide (d.wet<0)&&((d.pg (be d).toNat).co==99999))=true then 2 else 0)else 92
def rX(d:Dk):Dk:=if jm d=0 then pU d else zD
def zn(d:Dk):Dk:=if aJ d=true then d.setW (-1)else zD
def jv(d:Dk)(n:Int):Bool:=decide (0<=d.wet)&&(n.tmod 2 != 0)
def jY(d:Dk)(n:Int):Dk:=if jv d n=true then d.setP d.wet.toNat ⟨(d.pg d.wet.toNat).co,(d.pg d.wet.toNat).st,((d.pg d.wet.toNat).su+1).tmod 1000003⟩else d
def D1(d:Dk)(n:Int):Dk:=((jY d n).setW (-1)).setN (fg ((jY d n).setW (-1)))
def zi(d:Dk)(n:Int):Dk:=if aJ d=true then D1 d n else zD
@[go_sem] theorem aep(d:Dk):(List.map D.v (al d)).getD 62 .any=.v (vInt d.wet):=rfl
@[go_sem] theorem aeq(d:Dk):(List.map D.v (al d)).getD 0 .any=.v (vInt d.me):=rfl
theorem El(d:Dk){i:Nat}(h:i<2):(List.map D.v (al d)).getD (20+i*21) .any=.v (vInt (d.pg i).co):=by
 match i,h with
 | 0,_=>rfl
 | 1,_=>rfl
theorem Yq(d:Dk){i:Nat}(h:i<2):(List.map D.v (al d)).getD (20+i*21+20) .any=.v (vInt (d.pg i).su):=by
 match i,h with
 | 0,_=>rfl
 | 1,_=>rfl
theorem Ek(d:Dk){i:Nat}(h:i<2):List.take 19 (List.drop (20+i*21+1) (List.map D.v (al d)))=List.map D.v (ax (d.pg i).st):=by
 match i,h with
 | 0,_=>rfl
 | 1,_=>rfl
@[go_sem] theorem adE(d:Dk)(x:Int):(d.setW x).wet=x:=rfl
@[go_sem] theorem adF(d:Dk)(x:Int):(d.setW x).now=d.now:=rfl
@[go_sem] theorem Pz(d:Dk)(x:Int)(i:Nat):(d.setW x).pg i=d.pg i:=by
  cases i<;>rfl
theorem PD(d:Dk)(i:Nat)(p:Pg):(d.setP i p).wet=d.wet:=by
 cases i<;>rfl
theorem PE(d:Dk)(i:Nat)(p:Pg):(d.setP i p).me=d.me:=by
 cases i<;>rfl
theorem PF(d:Dk)(i:Nat)(p:Pg)(x:Int):(d.setP i p).setW x=(d.setW x).setP i p:=by
 cases i<;>rfl
theorem Py(d:Dk):d.setW d.wet=d:=rfl
theorem adG(d:Dk)(i:Nat):d.setP i ⟨(d.pg i).co,(d.pg i).st,(d.pg i).su⟩=d:=by
 cases i<;>rfl
theorem Fv{d:Dk}(h:aJ d=false):rX d=zD/\jm d=92:=by
 have :jm d=92:=if_neg (by rw[h];decide)
 exact⟨if_neg (by rw[this];decide),this⟩
theorem Fw{d:Dk}(h:aJ d=true)(hw:d.wet<0)(hc:(d.pg (be d).toNat).co=99999):rX d=zD/\jm d=2:=by
 have :jm d=2:=by unfold jm;rw[if_pos h,if_pos (by rw[hc];simpa using hw)]
 exact⟨if_neg (by rw[this];decide),this⟩
theorem Fu{d:Dk}(h:aJ d=true)(hw:d.wet<0)(hc:(d.pg (be d).toNat).co≠99999):rX d=pU d/\jm d=0:=by
 have :jm d=0:=by unfold jm;rw[if_pos h,if_neg (by simp[hc])]
 exact⟨if_pos this,this⟩
theorem Fx{d:Dk}(h:aJ d=true)(hw:¬ d.wet<0):rX d=pU d/\jm d=0:=by
 have :jm d=0:=by unfold jm;rw[if_pos h,if_neg (by simp[hw])]
 exact⟨if_pos this,this⟩
structure tP (d E:Dk) (a:Int):Prop where
 a0:0<=a
 a2:a<2
 k:a.toNat<2
 wet:E.wet=a
 now:E.now=d.now
 okn:bD (E.pg a.toNat).co
 fin:E.setP a.toNat ⟨(E.pg a.toNat).co,d.now,iK d.now (E.pg a.toNat).co⟩=pU d
theorem Bd{me:Int}{p:Pg}(h:aV me p=true):0<=p.co/\p.co<=99999:=by
 unfold aV at h
 simp only[Bool.and_eq_true]at h
 exact iu.1 h.1.1
theorem Yi{d:Dk}(h:aJ d=true): -1<=d.wet/\d.wet<=1:=by
 unfold aJ gW at h
 simp only[Bool.and_eq_true]at h
 exact iu.1 h.1.2
theorem vY{d:Dk}(h:aJ d=true)(hw:¬ d.wet<0):aV d.me d.pa=true/\aV d.me d.pb=true/\d.wet.toNat<2/\d.wet<2/\(d.pg (1-d.wet).toNat).co<(d.pg d.wet.toNat).co:=by
 have hr:=Yi h
 unfold aJ oD at h
 rw[if_neg hw]at h
 simp only[Bool.and_eq_true,decide_eq_true_eq]at h
 exact⟨h.2.1.1,h.2.1.2,by omega,by omega,h.2.2⟩
theorem Bb{d:Dk}(ha:aV d.me d.pa=true)(hb:aV d.me d.pb=true):∀ i,aV d.me (d.pg i)=true
 | 0=>ha
 |_+1=>hb
theorem Fs{d:Dk}(h:aJ d=true)(hw:¬ d.wet<0):tP d d d.wet:=by
 obtain⟨h1,h2,h3,h4,_⟩:=vY h hw
 have hp:=Bd (Bb h1 h2 d.wet.toNat)
 refine⟨by omega,h4,h3,rfl,rfl,⟨hp.1,by omega⟩,?_⟩
 unfold pU wZ wY
 rw[if_neg hw,if_neg hw,Py]
theorem X7{d:Dk}(h:aJ d=true):aV d.me (d.pg (be d).toNat)=true:=by
 rcases D0 d 2 with h1 | h1
 ·have:=(l6 h).1
  have e:be d= -1:=h1
  omega
 ·exact h1
def mw(d:Dk):Dk:=(d.setW (1-be d)).setP (1-be d).toNat ⟨(d.pg (be d).toNat).co+1,(d.pg (1-be d).toNat).st,(d.pg (1-be d).toNat).su⟩
theorem Fq{d:Dk}(h:aJ d=true)(hw:d.wet<0)(hc:(d.pg (be d).toNat).co≠99999):tP d (mw d) (1-be d)/\IntKind.i64.wrap (1-be d)=1-be d/\
 IntKind.i64.wrap ((d.pg (be d).toNat).co+1)=(d.pg (be d).toNat).co+1:=by
 obtain⟨gV,jL,n0,_⟩:=l6 h
 have hp:=Bd (X7 h)
 have hk:(1-be d).toNat<2:=by omega
 refine⟨⟨by omega,by omega,hk,by unfold mw;rw[PD];rfl,by unfold mw;rw[Dk.now_set];rfl,?_,?_⟩,wrap_i64 (by omega) (by omega),wrap_i64 (by omega) (by omega)⟩
 ·unfold mw
  rw[Dk.pg_set _ hk]
  exact⟨by show 0<=(d.pg (be d).toNat).co+1;omega,by show (d.pg (be d).toNat).co+1<=1000000;omega⟩
 ·unfold mw pU wZ wY
  rw[if_pos hw,if_pos hw,Dk.pg_set _ hk,Dk.set_set _ hk]
attribute [go_sem] sg
theorem wW{d E:Dk}{a:Int}(H:tP d E a):List.take (20+a.toNat*21+1) (List.map D.v (al E))++List.map D.v (ax d.now)++List.drop (20+a.toNat*21+1+19) (List.map D.v (al E))=List.map D.v (al (E.setP a.toNat ⟨(E.pg a.toNat).co,d.now,(E.pg a.toNat).su⟩)):=Yl E H.k d.now
theorem wU{d E:Dk}{a:Int}(H:tP d E a):List.take 19 (List.drop (20+a.toNat*21+1) (List.map D.v (al (E.setP a.toNat ⟨(E.pg a.toNat).co,d.now,(E.pg a.toNat).su⟩))))=List.map D.v (ax d.now):=by
 rw[Ek _ H.k,Dk.pg_set _ H.k]
theorem wX{d E:Dk}{a:Int}(H:tP d E a):(List.map D.v (al (E.setP a.toNat ⟨(E.pg a.toNat).co,d.now,(E.pg a.toNat).su⟩))).getD (20+a.toNat*21) .any=.v (vInt (E.pg a.toNat).co):=by
 rw[El _ H.k,Dk.pg_set _ H.k]
theorem wV{d E:Dk}{a:Int}(H:tP d E a):List.take (20+a.toNat*21+20) (List.map D.v (al (E.setP a.toNat ⟨(E.pg a.toNat).co,d.now,(E.pg a.toNat).su⟩)))++[D.v (vInt (iK d.now (E.pg a.toNat).co))]++
 List.drop (20+a.toNat*21+20+1) (List.map D.v (al (E.setP a.toNat ⟨(E.pg a.toNat).co,d.now,(E.pg a.toNat).su⟩)))=List.map D.v (al (pU d)):=by
 rw[Eh _ H.k,Dk.pg_set _ H.k,Dk.set_set _ H.k,H.fin]
theorem aed{E:Dk}{s:Stk}(nm:Name)(e:E.now=s)(hs:gp s):∀ (F:Name->Option O) (t:Name),F nm=some (.box ((al E).map .v))->S59.app (fun nm=>if own [0] nm=true then F nm else none) t [.ref nm 1]=(if own [0] nm=true then⟨True,.v (.agg (ax s)),fun nm=>if own [0] nm=true then F nm else none⟩else S59.app (fun nm=>if own [0] nm=true then F nm else none) t [.ref nm 1]):=fun F t h=>by
 by_cases ho:own [0] nm=true
 ·rw[if_pos ho]
  exact oM (s:=s) (L:=al E) (off:=1) (by rw[if_pos ho];exact h) (by rw[<-e];exact tv E) hs
 ·rw[if_neg ho]
noncomputable def NP:List (Nat×Spec):=[(23,S23),(53,S53),(58,S58),(59,S59),(60,S60)]
theorem aau:∀ f s,tbl NP f=some s->ak Tryz.prog f s:=tc o6<|tc B7<|tc yh<|tc uV<|tc yg<|tn
attribute [go_sem] NP
noncomputable def P10:PSpec:=p1 bf (fun d=>di d) (fun d=>.tup [eE (rX d),vInt (jm d)]) false
noncomputable def S10:Spec:=P10.toSpec
attribute [go_sem] P10 S10
set_option maxHeartbeats 4000000 in
theorem Rk:aL Tryz.prog 10 P10:=by
 refine w1 (rs:=[.cell 2 32,.tmp 3]) Tryz.func10 Tryz.ntmps10 (by rfl) (by kernel_rfl) (by decide) (fun h=>by cases h) ⟨_,rfl,lb rfl,fun d hp hw=>?_⟩
 have hP:=aU
 simp only[bf]at hw |-
 have hΓ:=aau
 have hs:di d:=hp
 repeat refine sq ?_
 refine rx hΓ [1,2] [[1,0],[2,0]] (fun K' hK=>by simp only[go_sem];(repeat (refine⟨ah,?_⟩));exact hK _ (by simp only[go_sem]) (by simp only[go_sem]<;>rfl)) ?_
 refine aF (e8 [2,0] _ (al zD) rfl rfl [1,2] [[1,0],[2,0]] ?_ rfl) ?_
 ·simp only[go_sem]
 simp only[go_sem]
 refine aF (bo [1,0] (al d) rfl [1,2] [[1,0],[2,0]] ?_ rfl) ?_
 ·simp only[go_sem]
 simp only[go_sem]
 repeat refine sq ?_
 refine rx hΓ [1,2,4] [[1,0],[2,0]] (fun K' hK=>by simp only[go_sem];(repeat (refine⟨ah,?_⟩));exact hK _ (by simp only[go_sem]) (by simp only[go_sem]<;>rfl)) ?_
 repeat refine sq ?_
 refine rx hΓ [1,2,4,11] [[1,0],[2,0]] (fun K' hK=>by simp only[go_sem];(repeat (refine⟨ah,?_⟩));exact hK _ (by simp only[go_sem]) (by simp only[go_sem]<;>rfl)) ?_
 repeat refine sq ?_
 refine aw rfl rfl (fun hb=>?_) (fun hb=>?_)
 ·repeat refine sq ?_
  have hd:=iA hb
  have hq:=Fv hd
  have e1:=dH hd
  repeat refine sq ?_
  refine rx hΓ [2,3] [[2,0]] (fun K' hK=>by simp only[go_sem,List.append_nil];(repeat (refine⟨ah,?_⟩));exact hK _ (by simp only[go_sem]) (by simp only[go_sem]<;>rfl)) ?_
  refine ar ?_
  simp only[go_sem]
  first | (rw[hq.1,hq.2];done) | (rw[hq.1,hq.2];rfl) | (rw[hq.1,hq.2,e1];done) | (rw[hq.1,hq.2,e1];rfl)
 ·repeat refine sq ?_
  have hd:=iz hb
  obtain⟨gV,jL,n0,px⟩:=l6 hd
  have iU:=(mG hd)
  refine ay ?_
  repeat refine sq ?_
  refine rx hΓ [1,2,5] [[1,0],[2,0],[22,0,15,0]] (fun K' hK=>by simp only[go_sem,hs,List.append_nil];(repeat (refine⟨ah,?_⟩));exact hK _ (by simp only[go_sem]) (by simp only[go_sem]<;>rfl)) ?_
  repeat refine sq ?_
  refine rx hΓ [2,5,6] [[2,0],[22,0,15,0]] (fun K' hK=>by simp only[go_sem];(repeat (refine⟨ah,?_⟩));exact hK _ (by simp only[go_sem]) (by simp only[go_sem]<;>rfl)) ?_
  repeat refine sq ?_
  refine rx hΓ [2,5,6,23] [[2,0],[22,0,15,0]] (fun K' hK=>by simp only[go_sem,Nat.add_zero];(repeat (refine⟨ah,?_⟩));exact hK _ (by simp only[go_sem]) (by simp only[go_sem]<;>rfl)) ?_
  repeat refine sq ?_
  refine aw rfl rfl (fun hb=>?_) (fun hb=>?_)
  ·repeat refine sq ?_
   have hw:d.wet<0:=by simpa using hb
   have qc:=El d n0
   repeat refine sq ?_
   refine rx hΓ [2,5,6,32] [[2,0],[22,0,15,0]] (fun K' hK=>by simp only[go_sem,Nat.add_zero,gV,jL,qc];(repeat (refine⟨ah,?_⟩));exact hK _ (by simp only[go_sem]) (by simp only[go_sem]<;>rfl)) ?_
   repeat refine sq ?_
   refine aw rfl rfl (fun hb=>?_) (fun hb=>?_)
   ·repeat refine sq ?_
    have hc:(d.pg (be d).toNat).co=99999:=by simpa using hb
    have hq:=Fw hd hw hc
    repeat refine sq ?_
    refine rx hΓ [2,3] [[2,0]] (fun K' hK=>by simp only[go_sem,List.append_nil];(repeat (refine⟨ah,?_⟩));exact hK _ (by simp only[go_sem]) (by simp only[go_sem]<;>rfl)) ?_
    refine ar ?_
    simp only[go_sem]
    first | (rw[hq.1,hq.2];done) | (rw[hq.1,hq.2];rfl) | (rw[hq.1,hq.2,e1];done) | (rw[hq.1,hq.2,e1];rfl)
   ·repeat refine sq ?_
    have hc:(d.pg (be d).toNat).co≠99999:=by simpa using hb
    have hq:=Fu hd hw hc
    obtain⟨H,w1,w2⟩:=Fq hd hw hc
    have mY:∀ (F:Name->Option O) (t:Name),F [22,0,15,0]=some (.box ((al (mw d)).map .v))->S59.app (fun nm=>if own [0] nm=true then F nm else none) t [.ref [22,0,15,0] 1]=⟨True,.v (.agg (ax d.now)),fun nm=>if own [0] nm=true then F nm else none⟩:=fun F t h=>oM (s:=d.now) (L:=al (mw d)) (off:=1) h (by rw[tv,H.now]) hs.now
    have lB:=H.a0;have lA:=H.a2;have qS:=wW H;have qT:=wU H;have qC:=wX H;have qU:=wV H;have qO:=H.okn
    have qw:(mw d).wet=1-be d:=H.wet
    have qd:=El (d.setW (1-be d)) n0
    have qe:List.take (20+(1-be d).toNat*21) (List.map D.v (al (d.setW (1-be d))))++[D.v (vInt ((d.pg (be d).toNat).co+1))]++List.drop (20+(1-be d).toNat*21+1) (List.map D.v (al (d.setW (1-be d))))=List.map D.v (al (mw d)):=by rw[LL _ H.k,Pz];rfl
    refine ay ?_
    repeat refine sq ?_
    refine rx hΓ [2,5,6] [[2,0],[22,0,15,0]] (fun K' hK=>by simp only[go_sem,w1,Yj];(repeat (refine⟨ah,?_⟩));exact hK _ (by simp only[go_sem]) (by simp only[go_sem]<;>rfl)) ?_
    repeat refine sq ?_
    refine dx hΓ hP [[],[],[1],[1,2],[1,2,3],[1,2,3,4],[],[],[6],[6,8],[6,8,9],[6,7,8,9,10],[6,7,8,9,10,11],[6,7,8,9,10,11,12],[6,7,8,9,10,11,12,13],[0],[0,15],[0,15,16],[0,1,2,3,4,5,6,7,8,9,10,11,12,13,14,15,16,17],[0,1,2,3,4,5,6,7,8,9,10,11,12,13,14,15,16,17,18],[0,1,2,3,4,5,6,7,8,9,10,11,12,13,14,15,16,17,18,19]] [2,5] [[2,0],[22,0,15,0]] (by kernel_rfl) (fun K' hK=>by simp only[go_sem,Nat.add_zero,gV,jL,qd,w2,lB,lA,qe];(repeat (refine⟨ah,?_⟩));(first | refine⟨by rfl,?_⟩ | skip);exact hK _ (by simp only[go_sem]) (by simp only[go_sem]<;>rfl)) ?_
    repeat refine sq ?_
    refine dx hΓ hP [[],[],[1],[1,2],[1,2,3],[1,2,3,4],[0],[0,6],[0,6,7],[0,1,2,3,4,5,6,7,8],[0,1,2,3,4,5,6,7,8,9]] [2,5,7] [[2,0],[22,0,15,0]] (by kernel_rfl) (fun K' hK=>by simp only[go_sem,lB,lA,qw];(repeat (refine⟨ah,?_⟩));(first | refine⟨by rfl,?_⟩ | skip);exact hK _ (by simp only[go_sem]) (by simp only[go_sem]<;>rfl)) ?_
    repeat refine sq ?_
    refine rx hΓ [2,5,7] [[2,0],[22,0,15,0]] (fun K' hK=>by simp only[go_sem,mY,qS];(repeat (refine⟨ah,?_⟩));exact hK _ (by simp only[go_sem]) (by simp only[go_sem]<;>rfl)) ?_
    repeat refine sq ?_
    refine dx hΓ hP [[],[],[1],[1,2],[1,2,3],[],[5],[5,6],[5,6,7],[1,2,3,4,5,6,7,8],[0,1,2,3,4,5,6,7,8,9],[0,1,2,3,4,5,6,7,8,9,10],[0,1,2,3,4,5,6,7,8,9,10,11]] [2,5] [[2,0],[22,0,15,0]] (by kernel_rfl) (fun K' hK=>by simp only[go_sem,Nat.add_zero,qT,qC,qU];(repeat (refine⟨by first | exact⟨iU,qO⟩ | exact ah,?_⟩));(first | refine⟨by rfl,?_⟩ | skip);exact hK _ (by simp only[go_sem]) (by simp only[go_sem]<;>rfl)) ?_
    repeat refine sq ?_
    refine rx hΓ [2,3] [[2,0]] (fun K' hK=>by simp only[go_sem,List.append_nil];(repeat (refine⟨ah,?_⟩));exact hK _ (by simp only[go_sem]) (by simp only[go_sem]<;>rfl)) ?_
    refine ar ?_
    simp only[go_sem]
    first | (rw[hq.1,hq.2];done) | (rw[hq.1,hq.2];rfl) | (rw[hq.1,hq.2,e1];done) | (rw[hq.1,hq.2,e1];rfl)
  ·repeat refine sq ?_
   have hw:¬ d.wet<0:=by simpa using hb
   have H:=Fs hd hw
   have qw:True:=trivial
   have hq:=Fx hd hw
   have mY:∀ (F:Name->Option O) (t:Name),F [22,0,15,0]=some (.box ((al d).map .v))->S59.app (fun nm=>if own [0] nm=true then F nm else none) t [.ref [22,0,15,0] 1]=⟨True,.v (.agg (ax d.now)),fun nm=>if own [0] nm=true then F nm else none⟩:=fun F t h=>oM (s:=d.now) (L:=al d) (off:=1) h (tv d) hs.now
   have lB:=H.a0;have lA:=H.a2;have qS:=wW H;have qT:=wU H;have qC:=wX H;have qU:=wV H;have qO:=H.okn
   refine ay ?_
   repeat refine sq ?_
   refine dx hΓ hP [[],[],[1],[1,2],[1,2,3],[1,2,3,4],[0],[0,6],[0,6,7],[0,1,2,3,4,5,6,7,8],[0,1,2,3,4,5,6,7,8,9]] [2,5,7] [[2,0],[22,0,15,0]] (by kernel_rfl) (fun K' hK=>by simp only[go_sem,lB,lA,qw];(repeat (refine⟨ah,?_⟩));(first | refine⟨by rfl,?_⟩ | skip);exact hK _ (by simp only[go_sem]) (by simp only[go_sem]<;>rfl)) ?_
   repeat refine sq ?_
   refine rx hΓ [2,5,7] [[2,0],[22,0,15,0]] (fun K' hK=>by simp only[go_sem,mY,qS];(repeat (refine⟨ah,?_⟩));exact hK _ (by simp only[go_sem]) (by simp only[go_sem]<;>rfl)) ?_
   repeat refine sq ?_
   refine dx hΓ hP [[],[],[1],[1,2],[1,2,3],[],[5],[5,6],[5,6,7],[1,2,3,4,5,6,7,8],[0,1,2,3,4,5,6,7,8,9],[0,1,2,3,4,5,6,7,8,9,10],[0,1,2,3,4,5,6,7,8,9,10,11]] [2,5] [[2,0],[22,0,15,0]] (by kernel_rfl) (fun K' hK=>by simp only[go_sem,Nat.add_zero,qT,qC,qU];(repeat (refine⟨by first | exact⟨iU,qO⟩ | exact ah,?_⟩));(first | refine⟨by rfl,?_⟩ | skip);exact hK _ (by simp only[go_sem]) (by simp only[go_sem]<;>rfl)) ?_
   repeat refine sq ?_
   refine rx hΓ [2,3] [[2,0]] (fun K' hK=>by simp only[go_sem,List.append_nil];(repeat (refine⟨ah,?_⟩));exact hK _ (by simp only[go_sem]) (by simp only[go_sem]<;>rfl)) ?_
   refine ar ?_
   simp only[go_sem]
   first | (rw[hq.1,hq.2];done) | (rw[hq.1,hq.2];rfl) | (rw[hq.1,hq.2,e1];done) | (rw[hq.1,hq.2,e1];rfl)
theorem U':ak Tryz.prog 10 S10:=Rk.sound
noncomputable def NO:List (Nat×Spec):=[(39,S39),(57,S57),(61,S61),(62,S62),(63,S63)]
theorem aat:∀ f s,tbl NO f=some s->ak Tryz.prog f s:=tc o5<|tc yi<|tc yf<|tc qv<|tc B5<|tn
attribute [go_sem] NO
noncomputable def P11:PSpec:=p1 bf (fun d=>di d) (fun d=>.tup [eE (rX d),vInt (jm d)]) false
noncomputable def S11:Spec:=P11.toSpec
attribute [go_sem] P11 S11
set_option maxHeartbeats 4000000 in
theorem Rg:aL Tryz.prog 11 P11:=by
 refine w1 (rs:=[.cell 2 32,.tmp 3]) Tryz.func11 Tryz.ntmps11 (by rfl) (by kernel_rfl) (by decide) (fun h=>by cases h) ⟨_,rfl,lb rfl,fun d hp hw=>?_⟩
 have hP:=aU
 simp only[bf]at hw |-
 have hΓ:=aat
 have hs:di d:=hp
 have iU:=hs.now
 repeat refine sq ?_
 refine rx hΓ [1,2] [[1,0],[2,0]] (fun K' hK=>by simp only[go_sem];(repeat (refine⟨ah,?_⟩));exact hK _ (by simp only[go_sem]) (by simp only[go_sem]<;>rfl)) ?_
 refine aF (e8 [2,0] _ (al zD) rfl rfl [1,2] [[1,0],[2,0]] ?_ rfl) ?_
 ·simp only[go_sem]
 simp only[go_sem]
 refine aF (bo [1,0] (al d) rfl [1,2] [[1,0],[2,0]] ?_ rfl) ?_
 ·simp only[go_sem]
 simp only[go_sem]
 repeat refine sq ?_
 refine rx hΓ [1,2,9] [[1,0],[2,0]] (fun K' hK=>by simp only[go_sem];(repeat (refine⟨ah,?_⟩));exact hK _ (by simp only[go_sem]) (by simp only[go_sem]<;>rfl)) ?_
 repeat refine sq ?_
 refine aw rfl rfl (fun hb=>?_) (fun hb=>?_)
 ·repeat refine sq ?_
  have hd:=iA hb
  have hq:=Fv hd
  repeat refine sq ?_
  refine rx hΓ [2,3] [[2,0]] (fun K' hK=>by simp only[go_sem,List.append_nil];(repeat (refine⟨ah,?_⟩));exact hK _ (by simp only[go_sem]) (by simp only[go_sem]<;>rfl)) ?_
  refine ar ?_
  simp only[go_sem]
  first | (rw[hq.1,hq.2];done) | (rw[hq.1,hq.2];rfl)
 ·repeat refine sq ?_
  have hd:=iz hb
  obtain⟨gV,jL,n0,px⟩:=l6 hd
  have yA:=(mG hd)
  refine ay ?_
  repeat refine sq ?_
  refine rx hΓ [1,2,4] [[1,0],[2,0],[4,0]] (fun K' hK=>by simp only[go_sem,hs,List.append_nil];(repeat (refine⟨ah,?_⟩));exact hK _ (by simp only[go_sem]) (by simp only[go_sem]<;>rfl)) ?_
  repeat refine sq ?_
  refine rx hΓ [1,2,4,5] [[1,0],[2,0],[4,0]] (fun K' hK=>by simp only[go_sem,Nat.add_zero];(repeat (refine⟨ah,?_⟩));exact hK _ (by simp only[go_sem]) (by simp only[go_sem]<;>rfl)) ?_
  repeat refine sq ?_
  refine rx hΓ [1,2,4,5,16] [[1,0],[2,0],[4,0]] (fun K' hK=>by simp only[go_sem];(repeat (refine⟨ah,?_⟩));exact hK _ (by simp only[go_sem]) (by simp only[go_sem]<;>rfl)) ?_
  repeat refine sq ?_
  refine aw rfl rfl (fun hb=>?_) (fun hb=>?_)
  ·repeat refine sq ?_
   have hw:d.wet<0:=by simpa using hb
   have qc:=g' d n0
   repeat refine sq ?_
   refine rx hΓ [1,2,4,6] [[1,0],[2,0],[4,0]] (fun K' hK=>by simp only[go_sem];(repeat (refine⟨ah,?_⟩));exact hK _ (by simp only[go_sem]) (by simp only[go_sem]<;>rfl)) ?_
   repeat refine sq ?_
   refine rx hΓ [1,2,4,5,6] [[1,0],[2,0],[4,0]] (fun K' hK=>by simp only[go_sem,(show IntKind.i64.wrap (1-be d)=1-be d from wrap_i64 (by omega) (by omega))];(repeat (refine⟨ah,?_⟩));exact hK _ (by simp only[go_sem]) (by simp only[go_sem]<;>rfl)) ?_
   repeat refine sq ?_
   refine rx hΓ [1,2,4,5,6,26] [[1,0],[2,0],[4,0]] (fun K' hK=>by simp only[go_sem,Nat.add_zero,gV,jL,qc];(repeat (refine⟨ah,?_⟩));exact hK _ (by simp only[go_sem]) (by simp only[go_sem]<;>rfl)) ?_
   repeat refine sq ?_
   refine aw rfl rfl (fun hb=>?_) (fun hb=>?_)
   ·repeat refine sq ?_
    have hc:(d.pg (be d).toNat).co=99999:=by simpa using hb
    have hq:=Fw hd hw hc
    repeat refine sq ?_
    refine rx hΓ [2,3] [[2,0]] (fun K' hK=>by simp only[go_sem,List.append_nil];(repeat (refine⟨ah,?_⟩));exact hK _ (by simp only[go_sem]) (by simp only[go_sem]<;>rfl)) ?_
    refine ar ?_
    simp only[go_sem]
    first | (rw[hq.1,hq.2];done) | (rw[hq.1,hq.2];rfl)
   ·repeat refine sq ?_
    have hc:(d.pg (be d).toNat).co≠99999:=by simpa using hb
    have hq:=Fu hd hw hc
    obtain⟨H,w1,w2⟩:=Fq hd hw hc
    have lB:=H.a0;have lA:=H.a2;have qS:=wW H;have qT:=wU H;have qC:=wX H;have qU:=wV H;have qO:=H.okn
    have qe:List.take (20+(1-be d).toNat*21) (List.map D.v (al d))++[D.v (vInt ((d.pg (be d).toNat).co+1))]++List.drop (20+(1-be d).toNat*21+1) (List.map D.v (al d))=List.map D.v (al (d.setP (1-be d).toNat ⟨(d.pg (be d).toNat).co+1,(d.pg (1-be d).toNat).st,(d.pg (1-be d).toNat).su⟩)):=by rw[LL _ H.k]
    have qw:(d.setP (1-be d).toNat ⟨(d.pg (be d).toNat).co+1,(d.pg (1-be d).toNat).st,(d.pg (1-be d).toNat).su⟩).setW (1-be d)=mw d:=by rw[PF];rfl
    refine ay ?_
    repeat refine sq ?_
    refine rx hΓ [1,2,4,5] [[1,0],[2,0],[4,0]] (fun K' hK=>by simp only[go_sem,Nat.add_zero,gV,jL,qc,w2,lB,lA,qe];(repeat (refine⟨ah,?_⟩));exact hK _ (by simp only[go_sem]) (by simp only[go_sem]<;>rfl)) ?_
    repeat refine sq ?_
    refine rx hΓ [1,2,4,5] [[1,0],[2,0],[4,0]] (fun K' hK=>by simp only[go_sem,qw];(repeat (refine⟨ah,?_⟩));exact hK _ (by simp only[go_sem]) (by simp only[go_sem]<;>rfl)) ?_
    repeat refine sq ?_
    refine rx hΓ [1,2,4,5] [[1,0],[2,0],[4,0]] (fun K' hK=>by simp only[go_sem,iU,lB,lA,qS,List.append_nil];(repeat (refine⟨ah,?_⟩));exact hK _ (by simp only[go_sem]) (by simp only[go_sem]<;>rfl)) ?_
    repeat refine sq ?_
    refine dx hΓ hP [[],[],[1],[],[],[3,4],[3,4,5],[3,4,5,6],[1,2,3,4,5,6,7],[],[0,1,2,3,4,5,6,7,8,9],[0,1,2,3,4,5,6,7,8,9,10],[0,1,2,3,4,5,6,7,8,9,10,11]] [2,4] [[2,0],[4,0]] (by kernel_rfl) (fun K' hK=>by simp only[go_sem,Nat.add_zero,qC,qU,lB,lA];(repeat (refine⟨by first | exact⟨yA,qO⟩ | exact ah,?_⟩));(first | refine⟨by rfl,?_⟩ | skip);exact hK _ (by simp only[go_sem]) (by simp only[go_sem]<;>rfl)) ?_
    repeat refine sq ?_
    refine rx hΓ [2,3] [[2,0]] (fun K' hK=>by simp only[go_sem,List.append_nil];(repeat (refine⟨ah,?_⟩));exact hK _ (by simp only[go_sem]) (by simp only[go_sem]<;>rfl)) ?_
    refine ar ?_
    simp only[go_sem]
    first | (rw[hq.1,hq.2];done) | (rw[hq.1,hq.2];rfl)
  ·repeat refine sq ?_
   have hw:¬ d.wet<0:=by simpa using hb
   have H:=Fs hd hw
   have hq:=Fx hd hw
   have lB:=H.a0;have lA:=H.a2;have qS:=wW H;have qT:=wU H;have qC:=wX H;have qU:=wV H;have qO:=H.okn
   refine ay ?_
   repeat refine sq ?_
   refine rx hΓ [1,2,4,5] [[1,0],[2,0],[4,0]] (fun K' hK=>by simp only[go_sem,iU,lB,lA,qS,List.append_nil];(repeat (refine⟨ah,?_⟩));exact hK _ (by simp only[go_sem]) (by simp only[go_sem]<;>rfl)) ?_
   repeat refine sq ?_
   refine dx hΓ hP [[],[],[1],[],[],[3,4],[3,4,5],[3,4,5,6],[1,2,3,4,5,6,7],[],[0,1,2,3,4,5,6,7,8,9],[0,1,2,3,4,5,6,7,8,9,10],[0,1,2,3,4,5,6,7,8,9,10,11]] [2,4] [[2,0],[4,0]] (by kernel_rfl) (fun K' hK=>by simp only[go_sem,Nat.add_zero,qC,qU,lB,lA];(repeat (refine⟨by first | exact⟨yA,qO⟩ | exact ah,?_⟩));(first | refine⟨by rfl,?_⟩ | skip);exact hK _ (by simp only[go_sem]) (by simp only[go_sem]<;>rfl)) ?_
   repeat refine sq ?_
   refine rx hΓ [2,3] [[2,0]] (fun K' hK=>by simp only[go_sem,List.append_nil];(repeat (refine⟨ah,?_⟩));exact hK _ (by simp only[go_sem]) (by simp only[go_sem]<;>rfl)) ?_
   refine ar ?_
   simp only[go_sem]
   first | (rw[hq.1,hq.2];done) | (rw[hq.1,hq.2];rfl)
theorem U7:ak Tryz.prog 11 S11:=Rg.sound
theorem pH{d:Dk}(h:aJ d=true):zn d=d.setW (-1):=if_pos h
theorem pI{d:Dk}(h:aJ d=false):zn d=zD:=if_neg (by rw[h];decide)
theorem kM{d:Dk}{n:Int}(h:aJ d=true):zi d n=D1 d n:=if_pos h
theorem kN{d:Dk}{n:Int}(h:aJ d=false):zi d n=zD:=if_neg (by rw[h];decide)
theorem uo{d:Dk}{n:Int}(h:jv d n=true):jY d n=d.setP d.wet.toNat ⟨(d.pg d.wet.toNat).co,(d.pg d.wet.toNat).st,((d.pg d.wet.toNat).su+1).tmod 1000003⟩:=if_pos h
theorem uq{d:Dk}{n:Int}(h:jv d n=false):jY d n=d:=if_neg (by rw[h];decide)
theorem AM{d:Dk}{n:Int}(h:jv d n=true):¬ d.wet<0:=by
 unfold jv at h
 simp only[Bool.and_eq_true,decide_eq_true_eq]at h
 omega
theorem Bc{me:Int}{p:Pg}(h:aV me p=true):0<=p.su/\p.su<1000003:=by
 have hc:=Bd h
 unfold aV at h
 simp only[Bool.and_eq_true,beq_iff_eq]at h
 rw[h.2]
 exact xd ⟨hc.1,by omega⟩ _
theorem G3{me:Int}{p:Pg}(h:aV me p=true):aV me ⟨p.co,p.st,(p.su+1).tmod 1000003⟩=false:=by
 obtain⟨h1,h2⟩:=Bc h
 unfold aV at h |-
 simp only[Bool.and_eq_true,beq_iff_eq]at h
 have aq:(p.su+1).tmod 1000003≠p.su:=by
  rw[Int.tmod_eq_emod_of_nonneg (by omega)]
  omega
 have :((p.su+1).tmod 1000003==iK p.st p.co)=false:=by
  rw[beq_eq_false_iff_ne,<-h.2];exact aq
 rw[this,Bool.and_false]
theorem X6{d:Dk}{n:Int}(h:aJ d=true):aJ ((jY d n).setW (-1))=true:=by
 have hh:=h
 unfold aJ gW at hh
 simp only[Bool.and_eq_true]at hh
 obtain⟨⟨hs,_⟩,VJ⟩:=hh
 have nV:∀ e:Dk,(e.setW (-1)).wet<0:=fun e=>by show (-1:Int)<0;omega
 unfold aJ
 rw[nx (nV _)]
 have WO:gW ((jY d n).setW (-1))=true:=by
  unfold gW
  have e1:((jY d n).setW (-1)).me=d.me:=by
   cases hb:jv d n
   ·rw[uq hb];rfl
   ·rw[uo hb];exact PE _ _ _
  have e2:((jY d n).setW (-1)).now=d.now:=by
   cases hb:jv d n
   ·rw[uq hb];rfl
   ·rw[uo hb];exact Dk.now_set _ _ _
  rw[e1,e2,hs];rfl
 rw[WO,Bool.true_and]
 cases hb:jv d n with
 |false=>
  rw[uq hb]
  show ((aV d.me d.pa||aV d.me d.pb)&&!((aV d.me d.pa&&aV d.me d.pb)&&(d.pa.co==d.pb.co)))=true
  by_cases hw:d.wet<0
  ·rw[<-nx hw];exact VJ
  ·obtain⟨h1,h2,h3,h4,h5⟩:=vY h hw
   rw[h1,h2]
   have aq:(d.pa.co==d.pb.co)=false:=by
    rw[beq_eq_false_iff_ne]
    have nR:d.wet=0\/d.wet=1:=by omega
    rcases nR with e | e<;>rw[e]at h5
    ·have DR:d.pb.co<d.pa.co:=h5
     omega
    ·have DR:d.pa.co<d.pb.co:=h5
     omega
   rw[aq];rfl
 |true=>
  have hw:=AM hb
  rw[uo hb]
  obtain⟨h1,h2,h3,h4,_⟩:=vY h hw
  have nR:d.wet=0\/d.wet=1:=by omega
  rcases nR with e | e<;>rw[e]
  ·show ((aV d.me ⟨d.pa.co,d.pa.st,(d.pa.su+1).tmod 1000003⟩||aV d.me d.pb)&&!((aV d.me ⟨d.pa.co,d.pa.st,(d.pa.su+1).tmod 1000003⟩&&aV d.me d.pb)&&(d.pa.co==d.pb.co)))=true
   rw[G3 h1,h2];rfl
  ·show ((aV d.me d.pa||aV d.me ⟨d.pb.co,d.pb.st,(d.pb.su+1).tmod 1000003⟩)&&!((aV d.me d.pa&&aV d.me ⟨d.pb.co,d.pb.st,(d.pb.su+1).tmod 1000003⟩)&&(d.pa.co==d.pb.co)))=true
   rw[G3 h2,h1];rfl
noncomputable def NM:List (Nat×Spec):=[(23,S23),(53,S53)]
theorem aas:∀ f s,tbl NM f=some s->ak Tryz.prog f s:=tc o6<|tc B7<|tn
attribute [go_sem] NM
noncomputable def P12:PSpec:=p1 bf (fun d=>di d) (fun d=>.tup [eE (zn d),vInt (jR d)]) false
noncomputable def S12:Spec:=P12.toSpec
attribute [go_sem] P12 S12
set_option maxHeartbeats 4000000 in
theorem Rc:aL Tryz.prog 12 P12:=by
 refine w1 (rs:=[.cell 2 32,.tmp 3]) Tryz.func12 Tryz.ntmps12 (by rfl) (by kernel_rfl) (by decide) (fun h=>by cases h) ⟨_,rfl,lb rfl,fun d hp hw=>?_⟩
 have hP:=aU
 simp only[bf]at hw |-
 have hΓ:=aas
 have hs:di d:=hp
 repeat refine sq ?_
 refine rx hΓ [1,2] [[1,0],[2,0]] (fun K' hK=>by simp only[go_sem];(repeat (refine⟨ah,?_⟩));exact hK _ (by simp only[go_sem]) (by simp only[go_sem]<;>rfl)) ?_
 refine aF (e8 [2,0] _ (al zD) rfl rfl [1,2] [[1,0],[2,0]] ?_ rfl) ?_
 ·simp only[go_sem]
 simp only[go_sem]
 refine aF (bo [1,0] (al d) rfl [1,2] [[1,0],[2,0]] ?_ rfl) ?_
 ·simp only[go_sem]
 simp only[go_sem]
 repeat refine sq ?_
 refine rx hΓ [1,2,4] [[1,0],[2,0]] (fun K' hK=>by simp only[go_sem];(repeat (refine⟨ah,?_⟩));exact hK _ (by simp only[go_sem]) (by simp only[go_sem]<;>rfl)) ?_
 repeat refine sq ?_
 refine rx hΓ [1,2,4,9] [[1,0],[2,0]] (fun K' hK=>by simp only[go_sem];(repeat (refine⟨ah,?_⟩));exact hK _ (by simp only[go_sem]) (by simp only[go_sem]<;>rfl)) ?_
 repeat refine sq ?_
 refine aw rfl rfl (fun hb=>?_) (fun hb=>?_)
 ·repeat refine sq ?_
  have hd:=iA hb
  repeat refine sq ?_
  refine rx hΓ [2,3] [[2,0]] (fun K' hK=>by simp only[go_sem,List.append_nil];(repeat (refine⟨ah,?_⟩));exact hK _ (by simp only[go_sem]) (by simp only[go_sem]<;>rfl)) ?_
  refine ar ?_
  simp only[go_sem]
  first | (rw[pI hd];done) | (rw[pI hd];rfl) | (rw[pH hd,bO hd];done) | (rw[pH hd,bO hd];rfl)
 ·repeat refine sq ?_
  have hd:=iz hb
  refine ay ?_
  repeat refine sq ?_
  refine rx hΓ [2,5] [[2,0],[22,0,13,0]] (fun K' hK=>by simp only[go_sem,hs,List.append_nil];(repeat (refine⟨ah,?_⟩));exact hK _ (by simp only[go_sem]) (by simp only[go_sem]<;>rfl)) ?_
  repeat refine sq ?_
  refine rx hΓ [2,5] [[2,0],[22,0,13,0]] (fun K' hK=>by simp only[go_sem,List.append_nil];(repeat (refine⟨ah,?_⟩));exact hK _ (by simp only[go_sem]) (by simp only[go_sem]<;>rfl)) ?_
  repeat refine sq ?_
  refine rx hΓ [2,3] [[2,0]] (fun K' hK=>by simp only[go_sem,List.append_nil];(repeat (refine⟨ah,?_⟩));exact hK _ (by simp only[go_sem]) (by simp only[go_sem]<;>rfl)) ?_
  refine ar ?_
  simp only[go_sem]
  first | (rw[pI hd];done) | (rw[pI hd];rfl) | (rw[pH hd,bO hd];done) | (rw[pH hd,bO hd];rfl)
theorem U3:ak Tryz.prog 12 S12:=Rc.sound
noncomputable def NL:List (Nat×Spec):=[(39,S39),(57,S57)]
theorem aar:∀ f s,tbl NL f=some s->ak Tryz.prog f s:=tc o5<|tc yi<|tn
attribute [go_sem] NL
noncomputable def P13:PSpec:=p1 bf (fun d=>di d) (fun d=>.tup [eE (zn d),vInt (jR d)]) false
noncomputable def S13:Spec:=P13.toSpec
attribute [go_sem] P13 S13
set_option maxHeartbeats 4000000 in
theorem Ra:aL Tryz.prog 13 P13:=by
 refine w1 (rs:=[.cell 2 32,.tmp 3]) Tryz.func13 Tryz.ntmps13 (by rfl) (by kernel_rfl) (by decide) (fun h=>by cases h) ⟨_,rfl,lb rfl,fun d hp hw=>?_⟩
 have hP:=aU
 simp only[bf]at hw |-
 have hΓ:=aar
 have hs:di d:=hp
 repeat refine sq ?_
 refine rx hΓ [1,2] [[1,0],[2,0]] (fun K' hK=>by simp only[go_sem];(repeat (refine⟨ah,?_⟩));exact hK _ (by simp only[go_sem]) (by simp only[go_sem]<;>rfl)) ?_
 refine aF (e8 [2,0] _ (al zD) rfl rfl [1,2] [[1,0],[2,0]] ?_ rfl) ?_
 ·simp only[go_sem]
 simp only[go_sem]
 refine aF (bo [1,0] (al d) rfl [1,2] [[1,0],[2,0]] ?_ rfl) ?_
 ·simp only[go_sem]
 simp only[go_sem]
 repeat refine sq ?_
 refine rx hΓ [1,2,7] [[1,0],[2,0]] (fun K' hK=>by simp only[go_sem];(repeat (refine⟨ah,?_⟩));exact hK _ (by simp only[go_sem]) (by simp only[go_sem]<;>rfl)) ?_
 repeat refine sq ?_
 refine aw rfl rfl (fun hb=>?_) (fun hb=>?_)
 ·repeat refine sq ?_
  have hd:=iA hb
  repeat refine sq ?_
  refine rx hΓ [2,3] [[2,0]] (fun K' hK=>by simp only[go_sem,List.append_nil];(repeat (refine⟨ah,?_⟩));exact hK _ (by simp only[go_sem]) (by simp only[go_sem]<;>rfl)) ?_
  refine ar ?_
  simp only[go_sem]
  first | (rw[pI hd,dH hd];done) | (rw[pI hd,dH hd];rfl) | (rw[pH hd,bO hd];done) | (rw[pH hd,bO hd];rfl)
 ·repeat refine sq ?_
  have hd:=iz hb
  refine ay ?_
  repeat refine sq ?_
  refine rx hΓ [2,4] [[2,0],[4,0]] (fun K' hK=>by simp only[go_sem,hs,List.append_nil];(repeat (refine⟨ah,?_⟩));exact hK _ (by simp only[go_sem]) (by simp only[go_sem]<;>rfl)) ?_
  repeat refine sq ?_
  refine rx hΓ [2,4] [[2,0],[4,0]] (fun K' hK=>by simp only[go_sem,List.append_nil];(repeat (refine⟨ah,?_⟩));exact hK _ (by simp only[go_sem]) (by simp only[go_sem]<;>rfl)) ?_
  repeat refine sq ?_
  refine rx hΓ [2,3] [[2,0]] (fun K' hK=>by simp only[go_sem,List.append_nil];(repeat (refine⟨ah,?_⟩));exact hK _ (by simp only[go_sem]) (by simp only[go_sem]<;>rfl)) ?_
  refine ar ?_
  simp only[go_sem]
  first | (rw[pI hd,dH hd];done) | (rw[pI hd,dH hd];rfl) | (rw[pH hd,bO hd];done) | (rw[pH hd,bO hd];rfl)
theorem U1:ak Tryz.prog 13 S13:=Ra.sound
noncomputable def P21:PSpec:=p2 iI iI (fun n m=>0<m/\m<=1000000) (fun n m=>vInt (n % m)) true
noncomputable def S21:Spec:=P21.toSpec
attribute [go_sem] P21 S21
theorem Q4:aL Tryz.prog 21 P21:=by
 refine w2 (rs:=[.tmp 4]) Tryz.func21 Tryz.ntmps21 (by rfl) (by kernel_rfl) (by decide) (fun _ _ _=>rfl) ⟨_,rfl,lb rfl,fun n m hp hw=>?_⟩
 have hP:=aU
 simp only[iI]at hw |-
 have hΓ:=@j9 Tryz.prog
 obtain⟨hm,eA⟩:=hp
 have h0:m≠0:=by omega
 have bT: -m<n.tmod m/\n.tmod m<m:=⟨Int.lt_tmod_of_pos _ hm,Int.tmod_lt_of_pos _ hm⟩
 have w2:IntKind.i64.wrap (n.tmod m+m)=n.tmod m+m:=wrap_i64 (by omega) (by omega)
 have e1:(n.tmod m+m).tmod m=n % m:=by
  rw[Int.tmod_eq_emod_of_nonneg (by omega),Int.add_emod_right]
  have h1:=Int.tmod_add_mul_tdiv n m
  have h2:(n.tmod m+m*n.tdiv m) % m=n.tmod m % m:=Int.add_mul_emod_self_left _ _ _
  rw[<-h2,h1]
 repeat refine sq ?_
 refine rx hΓ [0,1] [] (fun K' hK=>by simp only[go_sem];(repeat (refine⟨ah,?_⟩));exact hK _ (by simp only[go_sem]) (by simp only[go_sem]<;>rfl)) ?_
 repeat refine sq ?_
 refine rx hΓ [4] [] (fun K' hK=>by simp only[go_sem,w2,e1,h0,ne_eq,not_false_eq_true];(repeat (refine⟨by first | exact ah | exact h0,?_⟩));exact hK _ (by simp only[go_sem]) (by simp only[go_sem]<;>rfl)) ?_
 refine ar ?_
 simp only[go_sem]
 skip
theorem UT:ak Tryz.prog 21 S21:=Q4.sound
theorem Yf(n:Int):(n % 2==1)=(n.tmod 2 != 0):=by
 rw[Bool.eq_iff_iff,beq_iff_eq,bne_iff_ne]
 have h1:=Int.tmod_add_mul_tdiv n 2
 have h2:=Int.emod_add_mul_ediv n 2
 have h3:=Int.lt_tmod_of_pos n (b:=2) (by decide)
 have h6:=Int.tmod_lt_of_pos n (b:=2) (by decide)
 constructor<;>intro h<;>omega
end Go.Eng
