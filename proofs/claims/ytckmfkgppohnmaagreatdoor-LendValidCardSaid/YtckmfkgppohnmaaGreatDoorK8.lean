import Derived.Test.YtckmfkgppohnmaaGreatDoorK7
import Derived.Laws.Bits64
import Derived.Test.YtckmfkgppohnmaaGreatDoorProg
/- Texts NW46 to NW57. -/
set_option linter.all false
namespace Go.Eng
open Go Go.Proofs
def qD(s:Stk)(j:Nat):List (Name×O):=[([12,0],.arr 1 (s.ho.map vInt)),([99,0],.arr 2 ((s.un.get j).map encPa))]
def Bn(os:List O):List V:=match os with
 |[.box cs]=>(lF cs).getD []
 |_=>[]
def Bo(ds:List D):Nat:=match ds with
 |[.ref _ off]=>off
 |_=>0
noncomputable def Bp(j:Nat):CSpec where
 pre os ds:=∃ (l:List V) (off:Nat) (s:Stk),os=[.box (l.map .v)]/\ds=[.ref [0,1] off]/\(l.drop off).take 19=aB s/\gM s
 out os ds:=⟨[],qD (eW (((Bn os).drop (Bo ds)).take 19)) j,.agg (iw [12,0] [99,0] (eW (((Bn os).drop (Bo ds)).take 19)) j)⟩
noncomputable def xf(j:Nat):Spec:=(Bp j).toSpec
theorem G0(j:Nat){l:List V}{off:Nat}{s:Stk}(h:(l.drop off).take 19=aB s):(Bp j).out [.box (l.map .v)] [.ref [0,1] off]=⟨[],qD s j,.agg (iw [12,0] [99,0] s j)⟩:=by
 have e:eW (((Bn [.box (l.map .v)]).drop (Bo [.ref [0,1] off])).take 19)=s:=by
  show eW ((((lF (l.map .v)).getD []).drop off).take 19)=s
  rw[F1,Option.getD_some,h,oQ]
 show (⟨[],qD _ j,.agg (iw _ _ _ j)⟩:Out)=_
 rw[e]
theorem QC(j:Nat){l:List V}{off:Nat}{s:Stk}{obj:Name->Option O}{nm t:Name}(ho:obj nm=some (.box (l.map .v)))(h:(l.drop off).take 19=aB s)(hs:gM s):
 (xf j).app obj t [.ref nm off]=⟨fresh obj t (qD s j)=true,.agg (iw ([12,0]++t) ([99,0]++t) s j),upd (upd obj ([12,0]++t) (some (.arr 1 (s.ho.map vInt)))) ([99,0]++t) (some (.arr 2 ((s.un.get j).map encPa)))⟩:=by
 have hr:reach obj [.ref nm off]=[nm]:=uZ.reach (l,off,s) [nm] obj rfl (by simp) ⟨ho,trivial⟩
 have e1:cm obj [.ref nm off]=[.box (l.map .v)]:=by
  unfold cm
  rw[hr]
  simp only[List.map_cons,List.map_nil,cl,ho,O.ren,ti]
 have e2:cJ obj [.ref nm off]=[.ref [0,1] off]:=by
  unfold cJ
  rw[hr]
  simp[D.renL,D.ren,cin,idx]
 have fY:shut obj [nm]=true:=by simp[shut,ho,O.clos,qh]
 have bR:D.closL (cE [nm]) [.ref nm off]=true:=by simp[D.closL,D.clos,cE]
 have hp:(Bp j).pre [.box (l.map .v)] [.ref [0,1] off]:=⟨l,off,s,rfl,rfl,h,hs⟩
 have c1:cout [nm] t [12,0]=[12,0]++t:=rfl
 have c2:cout [nm] t [99,0]=[99,0]++t:=rfl
 simp only[xf,CSpec.toSpec,e1,e2,hr,fY,bR,Bool.true_and,hp,and_true,G0 j h,b9]
 simp only[D.ren,QB,c1,c2,qD,cX,O.ren]
theorem Tv(l:List V):∀ hs,bT [0] (bM [0] hs) (bd [.box (l.map .v)])=True:=Ro.outC uZ (l,0,zS)
attribute [go_sem] qD
noncomputable def OX:List (Nat×Spec):=[(76,S76g),(77,S77g)]
attribute [go_sem] OX
theorem ab7:∀ f s,tbl OX f=some s->al Tryz.prog f s:=tc VR<|tc VP<|tn
set_option maxHeartbeats 4000000 in
theorem V6{j:Nat}(hj:j<6):al Tryz.prog 59 (xf j):=by
 refine oS (nt:=29) (rs:=[.cell 2 27]) Tryz.func59 rfl (by rfl) (by kernel_rfl) (jb Tryz.func59 rfl (by kernel_rfl)) (oa _ (by decide)) ?_
 rintro os ds ⟨l,off,s,rfl,rfl,iX,bf⟩
 rw[G0 j iX]
 refine⟨lb rfl,ld ?_⟩
 have hΓ:=ab7
 have hO:=Tv l
 have h0:bd [.box (l.map .v)] [0,1]=some (.box (l.map .v)):=rfl
 generalize bd [.box (l.map .v)]=H at *
 simp only[eL,Nat.zero_add]at h0 |-
 have y7:=bf.1
 have hA:=Nh iX
 have hB:=Fq iX (show 0<19 by omega)
 have hL:=Ng iX
 have kQ:(l.map D.v).getD off .any=.v (fV s.ho):=hB
 repeat refine sq ?_
 refine rx hΓ [0,2] [[2,0],[12,0],[99,0]] (fun K' hK=>by simp only[go_sem,hO,h0];(repeat (refine⟨ah,?_⟩));exact hK _ (by simp only[go_sem,hO,h0]) (by simp only[go_sem,hO,h0]<;>rfl)) ?_
 repeat refine sq ?_
 refine rx hΓ [0,2,3] [[2,0],[3,0],[12,0],[99,0]] (fun K' hK=>by simp only[go_sem,hO,h0,hA,hB,hL,List.length_map,List.append_nil,jV];(repeat (refine⟨ah,?_⟩));exact hK _ (by simp only[go_sem,hO,h0,hA,hB,hL,List.length_map,List.append_nil,jV]) (by simp only[go_sem,hO,h0,hA,hB,hL,List.length_map,List.append_nil,jV]<;>rfl)) ?_
 repeat refine sq ?_
 refine rx hΓ [0,2,3] [[2,0],[3,0],[12,0],[99,0]] (fun K' hK=>by simp only[go_sem,hO,h0,Nat.add_zero,kQ,bf.1,Br s hj,Nat.not_lt_zero,decide_false,Bool.not_false,Bool.or_true];(repeat (refine⟨ah,?_⟩));exact hK _ (by simp only[go_sem,hO,h0,Nat.add_zero,kQ,bf.1,Br s hj,Nat.not_lt_zero,decide_false,Bool.not_false,Bool.or_true]) (by simp only[go_sem,hO,h0,Nat.add_zero,kQ,bf.1,Br s hj,Nat.not_lt_zero,decide_false,Bool.not_false,Bool.or_true]<;>rfl)) ?_
 refine aE (PM [99,0] 2 rfl [0,2,3] [[2,0],[3,0],[12,0],[99,0]] ?_ rfl) ?_
 ·simp only[go_sem,hO,h0]
 simp only[go_sem,hO,h0]
 repeat refine sq ?_
 refine rx hΓ [0,2,3,14] [[2,0],[3,0],[12,0],[99,0]] (fun K' hK=>by simp only[go_sem,hO,h0];(repeat (refine⟨ah,?_⟩));exact hK _ (by simp only[go_sem,hO,h0]) (by simp only[go_sem,hO,h0]<;>rfl)) ?_
 repeat refine sq ?_
 refine aO ?_
 repeat refine sq ?_
 refine cv (fun z:Nat=>[(14,⟨true,.v (vInt z)⟩)]) (fun z=>[([3,0],.box (eE s j z)),([99,0],.arr 2 (uJ s j z))]) (fun z=>z<=6) (fun z=>6-z) 0 ?_ ?_ ?_ ?_
 ·exact Nat.zero_le _
 ·rfl
 ·rfl
 rintro i hi
 simp only[go_sem]
 repeat refine sq ?_
 refine rx hΓ [0,2,3,14,15] [[2,0],[3,0],[12,0],[99,0]] (fun K' hK=>by simp only[go_sem,hO,h0];(repeat (refine⟨ah,?_⟩));exact hK _ (by simp only[go_sem,hO,h0]) (by simp only[go_sem,hO,h0]<;>rfl)) ?_
 repeat refine sq ?_
 refine au rfl rfl (fun hb=>?_) (fun hb=>?_)
 ·have ae:i<6:=by have hq:(i:Int)<6:=(by simpa using hb);omega
  have ai:(i:Int)<6:=by omega
  clear hb
  have hC:=Nf iX ae
  have fP:=bf.2 i ae
  repeat refine sq ?_
  refine av ?_
  repeat refine sq ?_
  refine aO ?_
  repeat refine sq ?_
  refine rx hΓ [0,2,3,4,14] [[2,0],[3,0],[12,0],[99,0]] (fun K' hK=>by simp only[go_sem,hO,h0,Int.toNat_natCast,Int.natCast_nonneg,ai];(repeat (refine⟨ah,?_⟩));exact hK _ (by simp only[go_sem,hO,h0,Int.toNat_natCast,Int.natCast_nonneg,ai]) (by simp only[go_sem,hO,h0,Int.toNat_natCast,Int.natCast_nonneg,ai]<;>rfl)) ?_
  repeat refine sq ?_
  refine aL hΓ fun K' hK=>?_
  simp only[go_sem,hO,h0,Int.toNat_natCast,Int.natCast_nonneg,ai,hC,fP,Int.toNat_natCast,Int.natCast_nonneg,ai]
  repeat (refine⟨ah,?_⟩)
  refine hK _ ?_
  clear K' hK
  refine aE (gL [0,2,3,14] [[2,0],[3,0],[12,0],[24,0],[99,0]] ?_ rfl) ?_
  ·simp only[go_sem,hO,h0]
  simp only[go_sem,hO,h0]
  refine aE (σ':=aU 29 [0] H [(0,⟨true,.ref [0,1] off⟩),(2,⟨true,.ref [2,0] 0⟩),(3,⟨true,.ref [3,0] 0⟩),(14,⟨true,.v (vInt i)⟩)] ([([2,0],.box [.nilsl,.nilsl,.nilsl,.nilsl,.nilsl,.nilsl,.nilsl,.v (.int .i64 0),.v (.int .i64 0),.v (.int .i64 0),.v (.int .i64 0),.v (.int .i64 0),.v (.int .i64 0),.v (.int .i64 0),.v (.int .i64 0),.v (.int .i64 0),.v (.int .i64 0),.v (.int .i64 0),.v (.int .i64 0)])]++[([3,0],.box (eE s j (i+1))),([12,0],.arr 1 (s.ho.map vInt)),([99,0],.arr 2 (uJ s j (i+1)))])) (Gw (i=j) (fun eI=>?_) (fun eI=>?_)) ?_
  ·subst eI
   refine Gv (p:=[0]) [24,0] [99,0] [0,2,3,14] [[2,0],[3,0],[12,0],[99,0]] rfl rfl ?_ ?_ ?_ ?_ ?_
   ·simp only[hO]
   ·simp only[go_sem]
   ·simp only[go_sem,E.ren,D.ren,cW]
   ·simp only[go_sem,O.ren,QD s ae,GB,cW]
   ·simp only[go_sem]
  ·refine ed [3,0] [24,0] (1+i) _ _ _ _ rfl (yw (by show 1+i<(eE s j i).length;rw[qE];omega)) rfl (by simp only[List.length_map]) [0,2,3,14] [[2,0],[3,0],[12,0],[99,0]] ?_ ?_
   ·simp only[go_sem,hO,h0,py (show 1+i<(eE s j i).length by rw[qE];omega),G1 s ae hj eI,<-xx s eI]
   ·simp only[go_sem,hO,h0,py (show 1+i<(eE s j i).length by rw[qE];omega),G1 s ae hj eI,<-xx s eI]
  simp only[go_sem]
  refine kj [0,2,3,14] [[2,0],[3,0],[12,0],[99,0]] ?_ ?_
  ·simp only[go_sem,hO,h0]
  simp only[go_sem,hO,h0]
  repeat refine sq ?_
  refine aL hΓ fun K' hK=>?_
  simp only[go_sem,hO,h0,Int.toNat_natCast,Int.natCast_nonneg,ai]
  repeat (refine⟨ah,?_⟩)
  refine hK _ ?_
  clear K' hK
  simp only[go_sem]
  refine⟨i+1,ae,by(show 6-(i+1)<6-i;omega),?_⟩
  refine bk [0,2,3,14] [[2,0],[3,0],[12,0],[99,0]] ?_ ?_
  ·simp only[go_sem,aD ae (lb rfl:(6:Nat)<=maxLen),Int.natCast_add,Int.natCast_one,hO,h0]
  ·simp only[go_sem,aD ae (lb rfl:(6:Nat)<=maxLen),Int.natCast_add,Int.natCast_one,hO,h0]
 ·have aW:i=6:=by
   have :¬ (i:Int)<6:=by simpa using hb
   omega
  clear hb
  subst aW
  repeat refine sq ?_
  refine b7 ?_
  simp only[go_sem]
  refine kj [2,3] [[2,0],[3,0],[12,0],[99,0]] ?_ ?_
  ·simp only[go_sem,hO,h0]
  simp only[go_sem,hO,h0]
  repeat refine sq ?_
  refine rx hΓ [2] [[2,0],[12,0],[99,0]] (fun K' hK=>by simp only[go_sem,hO,h0,Bq s hj,xy s hj];(repeat (refine⟨ah,?_⟩));exact hK _ (by simp only[go_sem,hO,h0,Bq s hj,xy s hj]) (by simp only[go_sem,hO,h0,Bq s hj,xy s hj]<;>rfl)) ?_
  refine an ?_
  simp only[go_sem,hO,h0]
  skip
structure R2 where
 d:Dk
 j:Nat
 i:Nat
 hj:j<6
def cK(d:Dk)(j:Nat)(h u:Name):List D:=bI d j (.msl h d.now.ho.length) u (d.now.un.get j).length (d.now.se.get j)
def jX:Ro R2 where
 m:=3
 fam a Ls:=[.box (cK a.d a.j (Ls.getD 1 []) (Ls.getD 2 [])),.arr 1 (a.d.now.ho.map vInt),.arr 2 ((a.d.now.un.get a.j).map encPa)]
 args a Ls:=[.ref (Ls.getD 0 []) (20+a.i*21+1)]
 ok a:=a.i<2/\gM (a.d.pg a.i).st
 val a:=.v (kg (a.d.pg a.i).st)
theorem vu{Ls:List Name}(h:Ls.length=3):∃ a b c,Ls=[a,b,c]:=by
 match Ls,h with
 |[a,b,c],_=>exact⟨a,b,c,rfl⟩
theorem NM(f:Name->Name)(d:Dk)(j:Nat)(h u:Name):D.renL f (cK d j h u)=cK d j (f h) (f u):=by
 unfold cK bI
 rw[gP,List.map_set,List.map_set,List.map_set,List.map_map]
 rfl
theorem wZ(d:Dk)(j:Nat)(h u:Name){i:Nat}(hi:i<2)(hj:j<6):List.take 19 (List.drop (20+i*21+1) (cK d j h u))=List.map D.v (aB (d.pg i).st):=by
 unfold cK bI
 rw[List.drop_set_of_lt (by omega),List.drop_set_of_lt (by omega),List.drop_set_of_lt (by omega)]
 exact Fa d hi
theorem TD(d:Dk){j:Nat}(h u:Name)(hj:j<6):dH (cK d j h u)=[h,u]:=
 ix (P:=fun j=>dH (cK d j h u)=[h,u]) rfl rfl rfl rfl rfl rfl hj
theorem Bm:jX.Ok where
 len:=fun _ _ _=>rfl
 renF:=fun a f Ls h=>by
  obtain⟨x,y,z,rfl⟩:=vu h
  simp only[jX,List.map_cons,List.map_nil,O.ren,NM,List.getD_cons_zero,List.getD_cons_succ]
 renA:=fun a f Ls h=>by
  obtain⟨x,y,z,rfl⟩:=vu h
  rfl
 reach:=fun a Ls obj h hn hF=>by
  obtain⟨x,y,z,rfl⟩:=vu h
  obtain⟨h1,h2,h3,_⟩:=hF
  simp only[List.nodup_cons,List.mem_cons,List.not_mem_nil,or_false,not_or]at hn
  obtain⟨⟨n1,n2⟩,n3,_⟩:=hn
  have en:dH (jX.args a [x,y,z])=[x]:=rfl
  unfold Go.Eng.reach
  rw[en]
  show dF obj (2995+1+1+1+1+1) [x] []=[x,y,z]
  have hb:dH (cK a.d a.j y z)=[y,z]:=TD a.d y z a.hj
  simp only[List.getD_cons_zero,List.getD_cons_succ]at h1
  simp[dF,gT,h1,h2,h3,hb,mZ,Ne.symm n1,Ne.symm n2,Ne.symm n3]
 closF:=fun a dom Ls h hd o ho=>by
  obtain⟨x,y,z,rfl⟩:=vu h
  have hx:=hd x (by simp)
  have hy:=hd y (by simp)
  have hz:=hd z (by simp)
  simp only[jX,List.mem_cons,List.not_mem_nil,or_false]at ho
  rcases ho with rfl | rfl | rfl
  ·simp only[O.clos,cK,NL,List.getD_cons_zero,List.getD_cons_succ,D.clos,hy,hz,Bool.true_and,Bool.true_or]
  ·rfl
  ·rfl
 closA:=fun a dom Ls h hd=>by
  obtain⟨x,y,z,rfl⟩:=vu h
  have hx:=hd x (by simp)
  simp only[jX,D.closL,D.clos,List.getD_cons_zero,hx,Bool.and_self]
 det:=fun a b h1 h2 h3 h4=>by
  have e1:cK a.d a.j [1,1] [2,1]=cK b.d b.j [1,1] [2,1]:=O.box.inj (List.cons.inj h3).1
  have e2:20+a.i*21+1=20+b.i*21+1:=(D.ref.inj (List.cons.inj h4).1).2
  have e3:a.i=b.i:=by omega
  have e4:=wZ a.d a.j [1,1] [2,1] h1.1 a.hj
  rw[e1,e3,wZ b.d b.j [1,1] [2,1] h2.1 b.hj]at e4
  have e5:aB (b.d.pg b.i).st=aB (a.d.pg b.i).st:=Ck e4
  have e6:(b.d.pg b.i).st=(a.d.pg b.i).st:=by rw[<-oQ (b.d.pg b.i).st,e5,oQ]
  simp only[jX,e3,e6]
 vcl:=fun _ _=>rfl
 vren:=fun _ _=>rfl
noncomputable def S59r:Spec:=jX.c.toSpec
theorem NN(d:Dk){j i k:Nat}(h u:Name)(hi:i<2)(hj:j<6)(hk:k<19):(cK d j h u).getD (20+i*21+1+k) .any=.v ((aB (d.pg i).st).getD k default):=by
 have hc:=wZ d j h u hi hj
 have hlen:(cK d j h u).length=63:=mE _ _ _ _ _ _
 have e:(cK d j h u)[20+i*21+1+k]?=(List.map D.v (aB (d.pg i).st))[k]?:=by
  rw[<-hc,List.getElem?_take,if_pos hk,List.getElem?_drop]
 rw[List.getD_eq_getElem?_getD,e,List.getElem?_map,List.getElem?_eq_getElem (show k<(aB (d.pg i).st).length by rw[jV];exact hk)]
 rw[kT (show k<(aB (d.pg i).st).length by rw[jV];exact hk)]
 rfl
set_option maxHeartbeats 4000000 in
theorem V5:al Tryz.prog 59 S59r:=by
 refine Ro.sound Bm (rs:=[.cell 2 27]) Tryz.func59 Tryz.ntmps59 (by rfl) (by kernel_rfl) (by decide) ⟨_,rfl,?_⟩
 rintro⟨d,j,i0,hj⟩ ⟨nw,bf⟩
 replace nw:i0<2:=nw
 refine⟨lb rfl,?_⟩
 have hΓ:=Pl
 have hO:=Ro.outC Bm ⟨d,j,i0,hj⟩
 have h0:bd (jX.fam ⟨d,j,i0,hj⟩ (LR jX.m)) [0,1]=some (.box (cK d j [1,1] [2,1])):=rfl
 generalize bd (jX.fam ⟨d,j,i0,hj⟩ (LR jX.m))=H at *
 obtain⟨s,iU⟩:∃ s,s=(d.pg i0).st:=⟨_,rfl⟩
 have ha:jX.args ⟨d,j,i0,hj⟩ (LR jX.m)=[.ref [0,1] (20+i0*21+1)]:=rfl
 have hv:jX.val ⟨d,j,i0,hj⟩=.v (kg s):=by rw[iU];rfl
 rw[ha,hv]
 simp only[eL,Nat.zero_add]at h0 |-
 replace bf:gM s:=by rw[iU];exact bf
 have hA:List.take 19 (List.drop (20+i0*21+1) (cK d j [1,1] [2,1]))=List.map D.v (aB s):=by rw[iU];exact wZ d j _ _ nw hj
 have hlen:(cK d j [1,1] [2,1]).length=63:=mE _ _ _ _ _ _
 have hL:20+i0*21+1+19<=(cK d j [1,1] [2,1]).length:=by omega
 have LP:20+i0*21+1<(cK d j [1,1] [2,1]).length:=by omega
 have kQ:(cK d j [1,1] [2,1]).getD (20+i0*21+1) .any=.v (fV s.ho):=by rw[iU];exact NN d [1,1] [2,1] (k:=0) nw hj (by omega)
 obtain⟨off,tY⟩:∃ off,off=20+i0*21+1:=⟨_,rfl⟩
 have zR:∀ i,i<6->(cK d j [1,1] [2,1]).getD (off+1+i) .any=.v (rowP (s.un.get i)):=fun i hi=>by
  rw[tY,Nat.add_assoc (20+i0*21+1),iU,NN d [1,1] [2,1] nw hj (show 1+i<19 by omega),cN _ hi]
 rw[<-tY]at hA hL LP kQ |-
 obtain⟨X,hX⟩:∃ X,X=cK d j [1,1] [2,1]:=⟨_,rfl⟩
 rw[<-hX]at h0 hA hlen hL LP kQ zR
 repeat refine sq ?_
 refine rx hΓ [0,2] [[2,0]] (fun K' hK=>by simp only[go_sem,hO,h0];(repeat (refine⟨ah,?_⟩));exact hK _ (by simp only[go_sem,hO,h0]) (by simp only[go_sem,hO,h0]<;>rfl)) ?_
 repeat refine sq ?_
 refine rx hΓ [0,2,3] [[2,0],[3,0]] (fun K' hK=>by simp only[go_sem,hO,h0,hA,hlen,hL,List.length_map,List.append_nil,jV];(repeat (refine⟨ah,?_⟩));exact hK _ (by simp only[go_sem,hO,h0,hA,hlen,hL,List.length_map,List.append_nil,jV]) (by simp only[go_sem,hO,h0,hA,hlen,hL,List.length_map,List.append_nil,jV]<;>rfl)) ?_
 repeat refine sq ?_
 refine rx hΓ [0,2,3] [[2,0],[3,0]] (fun K' hK=>by simp only[go_sem,hO,h0,Nat.add_zero,kQ,bf.1];(repeat (refine⟨ah,?_⟩));exact hK _ (by simp only[go_sem,hO,h0,Nat.add_zero,kQ,bf.1]) (by simp only[go_sem,hO,h0,Nat.add_zero,kQ,bf.1]<;>rfl)) ?_
 repeat refine sq ?_
 refine rx hΓ [0,2,3,14] [[2,0],[3,0]] (fun K' hK=>by simp only[go_sem,hO,h0];(repeat (refine⟨ah,?_⟩));exact hK _ (by simp only[go_sem,hO,h0]) (by simp only[go_sem,hO,h0]<;>rfl)) ?_
 repeat refine sq ?_
 refine aO ?_
 repeat refine sq ?_
 refine cv (fun z:Nat=>[(14,⟨true,.v (vInt z)⟩)]) (fun z=>[]) (fun z=>z<=6) (fun z=>6-z) 0 ?_ ?_ ?_ ?_
 ·exact Nat.zero_le _
 ·rfl
 ·rfl
 rintro i hi
 simp only[go_sem]
 repeat refine sq ?_
 refine rx hΓ [0,2,3,14,15] [[2,0],[3,0]] (fun K' hK=>by simp only[go_sem,hO,h0];(repeat (refine⟨ah,?_⟩));exact hK _ (by simp only[go_sem,hO,h0]) (by simp only[go_sem,hO,h0]<;>rfl)) ?_
 repeat refine sq ?_
 refine au rfl rfl (fun hb=>?_) (fun hb=>?_)
 ·have ae:i<6:=by have hq:(i:Int)<6:=(by simpa using hb);omega
  have ai:(i:Int)<6:=by omega
  clear hb
  have hC:=zR i ae
  have fP:=bf.2 i ae
  repeat refine sq ?_
  refine av ?_
  repeat refine sq ?_
  refine aO ?_
  repeat refine sq ?_
  refine rx hΓ [0,2,3,4,14] [[2,0],[3,0]] (fun K' hK=>by simp only[go_sem,hO,h0,Int.toNat_natCast,Int.natCast_nonneg,ai];(repeat (refine⟨ah,?_⟩));exact hK _ (by simp only[go_sem,hO,h0,Int.toNat_natCast,Int.natCast_nonneg,ai]) (by simp only[go_sem,hO,h0,Int.toNat_natCast,Int.natCast_nonneg,ai]<;>rfl)) ?_
  repeat refine sq ?_
  refine aL hΓ fun K' hK=>?_
  simp only[go_sem,hO,h0,Int.toNat_natCast,Int.natCast_nonneg,ai,hC,fP,sX s ae,Int.toNat_natCast,Int.natCast_nonneg,ai]
  repeat (refine⟨ah,?_⟩)
  refine hK _ ?_
  clear K' hK
  simp only[go_sem]
  refine kj [0,2,3,14] [[2,0],[3,0]] ?_ ?_
  ·simp only[go_sem,hO,h0]
  simp only[go_sem,hO,h0]
  repeat refine sq ?_
  refine aL hΓ fun K' hK=>?_
  simp only[go_sem,hO,h0,Int.toNat_natCast,Int.natCast_nonneg,ai]
  repeat (refine⟨ah,?_⟩)
  refine hK _ ?_
  clear K' hK
  simp only[go_sem]
  refine⟨i+1,ae,by(show 6-(i+1)<6-i;omega),?_⟩
  refine bk [0,2,3,14] [[2,0],[3,0]] ?_ ?_
  ·simp only[go_sem,aD ae (lb rfl:(6:Nat)<=maxLen),Int.natCast_add,Int.natCast_one,sX s ae,hO,h0]
  ·simp only[go_sem,aD ae (lb rfl:(6:Nat)<=maxLen),Int.natCast_add,Int.natCast_one,sX s ae,hO,h0]
 ·have aW:i=6:=by
   have :¬ (i:Int)<6:=by simpa using hb
   omega
  clear hb
  subst aW
  repeat refine sq ?_
  refine b7 ?_
  simp only[go_sem]
  refine kj [2,3] [[2,0],[3,0]] ?_ ?_
  ·simp only[go_sem,hO,h0]
  simp only[go_sem,hO,h0]
  repeat refine sq ?_
  refine rx hΓ [2] [[2,0]] (fun K' hK=>by simp only[go_sem,hO,h0,List.append_nil];(repeat (refine⟨ah,?_⟩));exact hK _ (by simp only[go_sem,hO,h0,List.append_nil]) (by simp only[go_sem,hO,h0,List.append_nil]<;>rfl)) ?_
  refine aE (bz [2,0] (aB s) rfl [2] [[2,0]] ?_ rfl) ?_
  ·simp only[go_sem,hO,h0]
  simp only[go_sem,hO,h0]
  refine an ?_
  simp only[go_sem,hO,h0]
  exact .inr trivial
theorem RI{d:Dk}{j i:Nat}(hj:j<6)(hi:i<2)(hs:gM (d.pg i).st){obj:Name->Option O}{t b h u:Name}(hn:[b,h,u].Nodup)(hb:obj b=some (.box (cK d j h u)))
 (hh:obj h=some (.arr 1 (d.now.ho.map vInt))) (hu:obj u=some (.arr 2 ((d.now.un.get j).map encPa))):
 S59r.app obj t [.ref b (20+i*21+1)]=⟨True,.v (.agg (aB (d.pg i).st)),obj⟩:=
 Ro.c_app Bm (a:=⟨d,j,i,hj⟩) ⟨hi,hs⟩ (Ls:=[b,h,u]) rfl hn ⟨hb,hh,hu,trivial⟩
theorem aaW(d:Dk){j:Nat}(h u:Name)(hj:j<6):List.take 1 (List.map D.v (ak d))++iw h u d.now j++List.drop 20 (List.map D.v (ak d))=cK d j h u:=
 ix (P:=fun j=>List.take 1 (List.map D.v (ak d))++iw h u d.now j++List.drop 20 (List.map D.v (ak d))=cK d j h u) rfl rfl rfl rfl rfl rfl hj
theorem PB{α:Type}{C W:List α}{a n:Nat}(h:List.take n (List.drop a C)=W)(hn:a+n<=C.length):List.take a C++W++List.drop (a+n) C=C:=by
 rw[<-h,List.append_assoc,<-List.drop_drop,List.take_append_drop,List.take_append_drop]
theorem aaV(d:Dk){j i:Nat}(h u:Name)(hi:i<2)(hj:j<6):List.take (20+i*21+1) (cK d j h u)++List.map D.v (aB (d.pg i).st)++List.drop (20+i*21+1+19) (cK d j h u)=cK d j h u:=
 PB (wZ d j h u hi hj) (by rw[show (cK d j h u).length=63 from mE _ _ _ _ _ _];omega)
@[go_sem] theorem agz(d:Dk)(j:Nat)(h u:Name):(cK d j h u).length=63:=mE _ _ _ _ _ _
@[go_sem] theorem agC(d:Dk)(j:Nat)(h u:Name):(cK d j h u).take 63=cK d j h u:=aaT _ _ _ _ _ _
@[go_sem] theorem agA(d:Dk)(j:Nat)(h u:Name):(cK d j h u).drop 63=[]:=aaR _ _ _ _ _ _
@[go_sem] theorem agB(dom:Name->Bool)(d:Dk)(j:Nat)(h u:Name):D.closL dom (cK d j h u)=(dom h&&(dom u||decide (63<=2+j))):=NL _ _ _ _ _ _ _
attribute [go_sem] NM
noncomputable def F8(j:Nat):Spec:=Spec.ite (fun t _=>decide (t.headD 0=5)) (xf j) S59r
theorem V7{j:Nat}(hj:j<6):al Tryz.prog 59 (F8 j):=(V6 hj).ite _ V5 (by decide)
attribute [go_sem] F8
noncomputable def OW(j:Nat):List (Nat×Spec):=[(59,F8 j)]
attribute [go_sem] OW
theorem ab6{j:Nat}(hj:j<6):∀ f s,tbl (OW j) f=some s->al Tryz.prog f s:=tc (V7 hj)<|tn
noncomputable def AZ(j:Nat):NSpec:=n1 bu (fun d=>b8 d) (fun d=>[([22,0],.box (cK d j [12,0,5,0] [99,0,5,0])),([12,0,5,0],.arr 1 (d.now.ho.map vInt)),([99,0,5,0],.arr 2 ((d.now.un.get j).map encPa))]) (fun _=>.ref [22,0] 0)
noncomputable def AW(j:Nat):Spec:=(AZ j).toSpec
attribute [go_sem] AZ AW
set_option maxHeartbeats 4000000 in
theorem Kj(j:Nat)(hj:j<6):al Tryz.prog 53 (AW j):=by
 refine yn (nt:=23) (rs:=[.tmp 2]) Tryz.func53 rfl (by rfl) (by kernel_rfl) (by kernel_rfl) (by decide) ?_
 intro xs hp
 obtain⟨d,rfl,hp,gC,eh⟩:=yu hp
 replace gC:(AZ j).new _=_:=gC
 replace eh:(AZ j).d _=_:=eh
 rw[gC,eh]
 clear gC eh
 refine⟨lb rfl,?_⟩
 have hP:=ba
 simp only[iI,iB,dY,iI,iB,pD,dY,rp,jv,fb,l7,bu,jw,vE,iC,iF,encPa,kg,sp,eK,fD,List.map_cons,List.map_nil,eL,Nat.zero_add]
 have hΓ:=ab6 hj
 have hs:b8 d:=hp
 have jB:=hs.now
 have Ez:∀ (F:Name->Option O),F [1,0]=some (.box ((ak d).map .v))->(xf j).app (fun nm=>if own [0] nm=true then F nm else none) [5,0] [.ref [1,0] 1]=⟨fresh (fun nm=>if own [0] nm=true then F nm else none) [5,0] (qD d.now j)=true,.agg (iw [12,0,5,0] [99,0,5,0] d.now j),upd (upd (fun nm=>if own [0] nm=true then F nm else none) [12,0,5,0] (some (.arr 1 (d.now.ho.map vInt)))) [99,0,5,0] (some (.arr 2 ((d.now.un.get j).map encPa)))⟩:=fun F h=>QC j (s:=d.now) (l:=ak d) (off:=1) (by rw[<-h];rfl) (Ab d) jB
 repeat refine sq ?_
 refine rx hΓ [1] [[1,0],[12,0,5,0],[99,0,5,0]] (fun K' hK=>by simp only[go_sem];(repeat (refine⟨ah,?_⟩));exact hK _ (by simp only[go_sem]) (by simp only[go_sem]<;>rfl)) ?_
 repeat refine sq ?_
 refine rx hΓ [1] [[1,0],[12,0,5,0],[99,0,5,0]] (fun K' hK=>by simp only[go_sem,Ez,aaW d [12,0,5,0] [99,0,5,0] hj];(repeat (refine⟨ah,?_⟩));exact hK _ (by simp only[go_sem]) (by simp only[go_sem]<;>rfl)) ?_
 repeat refine sq ?_
 refine rx hΓ [1,7] [[1,0],[12,0,5,0],[99,0,5,0]] (fun K' hK=>by simp only[go_sem];(repeat (refine⟨ah,?_⟩));exact hK _ (by simp only[go_sem]) (by simp only[go_sem]<;>rfl)) ?_
 repeat refine sq ?_
 refine aO ?_
 repeat refine sq ?_
 refine cv (fun z:Nat=>[(7,⟨true,.v (vInt z)⟩)]) (fun z=>[]) (fun z=>z<=2) (fun z=>2-z) 0 ?_ ?_ ?_ ?_
 ·exact Nat.zero_le _
 ·rfl
 ·rfl
 rintro i hi
 simp only[go_sem]
 repeat refine sq ?_
 refine rx hΓ [1,7,8] [[1,0],[12,0,5,0],[99,0,5,0]] (fun K' hK=>by simp only[go_sem];(repeat (refine⟨ah,?_⟩));exact hK _ (by simp only[go_sem]) (by simp only[go_sem]<;>rfl)) ?_
 repeat refine sq ?_
 refine au rfl rfl (fun hb=>?_) (fun hb=>?_)
 ·have ae:i<2:=by have hq:(i:Int)<2:=(by simpa using hb);omega
  have ai:(i:Int)<2:=by omega
  clear hb
  have Ey:∀ (F:Name->Option O) (t:Name),F [1,0]=some (.box (cK d j [12,0,5,0] [99,0,5,0]))->F [12,0,5,0]=some (.arr 1 (d.now.ho.map vInt))->F [99,0,5,0]=some (.arr 2 ((d.now.un.get j).map encPa))->S59r.app (fun nm=>if own [0] nm=true then F nm else none) t [.ref [1,0] (20+i*21+1)]=⟨True,.v (.agg (aB (d.pg i).st)),fun nm=>if own [0] nm=true then F nm else none⟩:=fun F t h1 h2 h3=>RI (b:=[1,0]) (h:=[12,0,5,0]) (u:=[99,0,5,0]) hj ae (hs.pg i ae) (by decide) (by rw[<-h1];rfl) (by rw[<-h2];rfl) (by rw[<-h3];rfl)
  repeat refine sq ?_
  refine av ?_
  repeat refine sq ?_
  refine aO ?_
  repeat refine sq ?_
  refine rx hΓ [1,3,7] [[1,0],[12,0,5,0],[99,0,5,0]] (fun K' hK=>by simp only[go_sem,Int.toNat_natCast,Int.natCast_nonneg,ai];(repeat (refine⟨ah,?_⟩));exact hK _ (by simp only[go_sem]) (by simp only[go_sem]<;>rfl)) ?_
  repeat refine sq ?_
  refine aL hΓ fun K' hK=>?_
  simp only[go_sem,Int.toNat_natCast,Int.natCast_nonneg,ai,Ey,aaV d [12,0,5,0] [99,0,5,0] ae hj,Int.toNat_natCast,Int.natCast_nonneg,ai]
  repeat (refine⟨ah,?_⟩)
  refine hK _ ?_
  clear K' hK
  simp only[go_sem]
  refine kp [1,7] [[1,0],[12,0,5,0],[99,0,5,0]] ?_
  repeat refine sq ?_
  refine aL hΓ fun K' hK=>?_
  simp only[go_sem,Int.toNat_natCast,Int.natCast_nonneg,ai]
  repeat (refine⟨ah,?_⟩)
  refine hK _ ?_
  clear K' hK
  simp only[go_sem]
  refine⟨i+1,ae,by(show 2-(i+1)<2-i;omega),?_⟩
  refine bk [1,7] [[1,0],[12,0,5,0],[99,0,5,0]] ?_ ?_
  ·simp only[go_sem,aD ae (lb rfl:(2:Nat)<=maxLen),Int.natCast_add,Int.natCast_one]
  ·simp only[go_sem,aD ae (lb rfl:(2:Nat)<=maxLen),Int.natCast_add,Int.natCast_one]
 ·have aW:i=2:=by
   have :¬ (i:Int)<2:=by simpa using hb
   omega
  clear hb
  subst aW
  repeat refine sq ?_
  refine b7 ?_
  simp only[go_sem]
  refine kp [1] [[1,0],[12,0,5,0],[99,0,5,0]] ?_
  repeat refine sq ?_
  refine rx hΓ [2] [[22,0],[12,0,5,0],[99,0,5,0]] (fun K' hK=>by simp only[go_sem,List.append_nil];(repeat (refine⟨ah,?_⟩));exact hK _ (by simp only[go_sem]) (by simp only[go_sem]<;>rfl)) ?_
  refine an ?_
  simp only[go_sem]
  skip
noncomputable def P116:PSpec:=p1 iI (fun _=>True) (fun _=>.bool false) true
noncomputable def S116:Spec:=P116.toSpec
attribute [go_sem] P116 S116
theorem Sf:aQ Tryz.prog 116 P116:=by
 refine w1 (rs:=[.tmp 2]) Tryz.func116 Tryz.ntmps116 (by rfl) (by kernel_rfl) (by decide) (fun _ _=>rfl) ⟨_,rfl,lb rfl,fun n hp hw=>?_⟩
 have hP:=ba
 simp only[iI]at hw |-
 have hΓ:=@jY Tryz.prog
 repeat refine sq ?_
 refine rs hΓ [0] [] ?_
 repeat refine sq ?_
 refine rx hΓ [2] [] (fun K' hK=>by simp only[go_sem,bne_self_eq_false];(repeat (refine⟨ob,?_⟩));exact hK _ (by simp only[go_sem]) (by simp only[go_sem]<;>rfl)) ?_
 refine an ?_
 simp only[go_sem]
 skip
theorem Ws:al Tryz.prog 116 S116:=Sf.sound
noncomputable def P100:PSpec:=p1 iI (fun _=>True) (fun _=>.bool false) true
noncomputable def S100:Spec:=P100.toSpec
attribute [go_sem] P100 S100
theorem Sn:aQ Tryz.prog 100 P100:=by
 refine w1 (rs:=[.tmp 2]) Tryz.func100 Tryz.ntmps100 (by rfl) (by kernel_rfl) (by decide) (fun _ _=>rfl) ⟨_,rfl,lb rfl,fun n hp hw=>?_⟩
 have hP:=ba
 simp only[iI]at hw |-
 have hΓ:=@jY Tryz.prog
 repeat refine sq ?_
 refine rs hΓ [0] [] ?_
 repeat refine sq ?_
 refine rx hΓ [2] [] (fun K' hK=>by simp only[go_sem,bne_self_eq_false];(repeat (refine⟨ob,?_⟩));exact hK _ (by simp only[go_sem]) (by simp only[go_sem]<;>rfl)) ?_
 refine an ?_
 simp only[go_sem]
 skip
theorem Ko:al Tryz.prog 100 S100:=Sn.sound
noncomputable def OV:List (Nat×Spec):=[(116,S116),(100,S100)]
theorem ab5:∀ f s,tbl OV f=some s->al Tryz.prog f s:=tc Ws<|tc Ko<|tn
attribute [go_sem] OV
noncomputable def P99:PSpec:=p2 iI iI (fun _ _=>True) (fun a b=>.bool (decide (a<b))) true
noncomputable def S99:Spec:=P99.toSpec
attribute [go_sem] P99 S99
theorem Rj:aQ Tryz.prog 99 P99:=by
 refine w2 (rs:=[.tmp 4]) Tryz.func99 Tryz.ntmps99 (by rfl) (by kernel_rfl) (by decide) (fun _ _ _=>rfl) ⟨_,rfl,lb rfl,fun a b hp hw=>?_⟩
 have hP:=ba
 simp only[iI]at hw |-
 have hΓ:=ab5
 repeat refine sq ?_
 refine rs hΓ [0,1] [] ?_
 repeat refine sq ?_
 refine rs hΓ [4] [] ?_
 refine an ?_
 simp only[go_sem]
 skip
theorem VL:al Tryz.prog 99 S99:=Rj.sound
noncomputable def OU:List (Nat×Spec):=[(99,S99),(100,S100)]
theorem ab4:∀ f s,tbl OU f=some s->al Tryz.prog f s:=tc VL<|tc Ko<|tn
attribute [go_sem] OU
def bF(l:List Int)(x:Int):Nat:=(l.takeWhile fun y=>decide (y<x)).length
def bO(l:List Int)(x:Int):Bool:=l.contains x
theorem TL{i j:Nat}(hi:i<=maxLen)(hj:j<=maxLen):IntKind.i64.wrap ((IntKind.u64.wrap (IntKind.i64.wrap ((i:Int)+(j:Int)))).fdiv (2 ^ min (Int.toNat 1) 64))=(((i+j) / 2:Nat):Int):=by
 unfold maxLen at hi hj
 have h1:min (Int.toNat 1) 64=1:=by decide
 have h2:IntKind.u64.wrap (IntKind.i64.wrap ((i:Int)+(j:Int)))=((i+j:Nat):Int):=by
  rw[IntKind.wrap_u64,IntKind.wrap_i64]
  omega
 rw[h1,h2]
 have h3:(((i+j:Nat):Int)).fdiv (2 ^ 1)=(((i+j) / 2:Nat):Int):=by
  rw[Int.fdiv_eq_ediv_of_nonneg _ (by decide)]
  omega
 rw[h3,wrap_i64 (by omega) (by omega)]
theorem TN{l:List Int}{x:Int}{i:Nat}(hi:i<=l.length)(h1:∀ k (h:k<l.length),k<i->l[k] <x)(h2:∀ k (h:k<l.length),i<=k->x<=l[k]):bF l x=i:=by
 unfold bF
 induction l generalizing i with
 |nil=>simp at hi |-;omega
 |cons a r ih=>
  cases i with
  |zero=>
   have :=h2 0 (by simp) (Nat.le_refl _)
   simp only[List.getElem_cons_zero]at this
   have hd:decide (a<x)=false:=by simp;omega
   simp[hd]
  |succ i=>
   have :=h1 0 (by simp) (by omega)
   simp only[List.getElem_cons_zero]at this
   have hd:decide (a<x)=true:=by simp;omega
   simp only[List.takeWhile_cons,hd,if_true,List.length_cons]
   rw[ih (by simpa using hi) (fun k hk mf=>by have:=h1 (k+1) (by simpa using hk) (by omega);simpa using this) (fun k hk mf=>by have:=h2 (k+1) (by simpa using hk) (by omega);simpa using this)]
theorem YJ{l:List Int}{x:Int}{i:Nat}(hs:l.Pairwise (· < ·))(hi:i<l.length)(h1:∀ k (h:k<l.length),k<i->l[k] <x)(h2:∀ k (h:k<l.length),i<=k->x<=l[k]):bO l x=(l[i]==x):=by
 unfold bO
 rw[Bool.eq_iff_iff]
 simp only[List.contains_iff_mem,beq_iff_eq]
 constructor
 ·intro h
  obtain⟨k,hk,e⟩:=List.getElem_of_mem h
  rcases Nat.lt_trichotomy k i with h3 | h3 | h3
  ·have:=h1 k hk h3;omega
  ·subst h3;exact e
  ·have:=List.pairwise_iff_getElem.1 hs i k hi hk h3
   have :=h2 i hi (Nat.le_refl _)
   omega
 ·rintro rfl;exact List.getElem_mem hi
theorem YI{l:List Int}{x:Int}(h1:∀ k (h:k<l.length),l[k] <x):bO l x=false:=by
 unfold bO
 rw[Bool.eq_false_iff]
 intro h
 obtain⟨k,hk,e⟩:=List.getElem_of_mem (List.contains_iff_mem.1 h)
 have :=h1 k hk
 omega
noncomputable def P52:PSpec:=p2 dY iI (fun l _=>l.Pairwise (· < ·)) (fun l x=>.tup [vInt (bF l x),.bool (bO l x)]) true
noncomputable def S52:Spec:=P52.toSpec
attribute [go_sem] P52 S52
set_option maxRecDepth 10000 in
set_option maxHeartbeats 4000000 in
theorem RN:aQ Tryz.prog 52 P52:=by
 refine w2 (rs:=[.tmp 4,.tmp 5]) Tryz.func52 Tryz.ntmps52 (by rfl) (by kernel_rfl) (by decide) (fun _ _ _=>rfl) ⟨_,rfl,lb rfl,fun l x hp hw=>?_⟩
 have hP:=ba
 simp only[iI,dY]at hw |-
 have hΓ:=ab4
 have hs:l.Pairwise (· < ·):=hp
 have hl:l.length<=maxLen:=by have:=hw.1.1;simpa using this
 repeat refine sq ?_
 refine rs hΓ [0,1] [] ?_
 repeat refine sq ?_
 refine rs hΓ [0,1,6] [] ?_
 repeat refine sq ?_
 refine rs hΓ [0,1,6,7,8] [] ?_
 repeat refine sq ?_
 refine aO ?_
 repeat refine sq ?_
 refine cv (fun ij:Nat×Nat=>[(7,⟨true,.v (vInt ij.1)⟩),(8,⟨true,.v (vInt ij.2)⟩)]) (fun i=>[]) (fun ij=>ij.1<=ij.2/\ij.2<=l.length/\(∀ k (h:k<l.length),k<ij.1->l[k] <x)/\(∀ k (h:k<l.length),ij.2<=k->x<=l[k])) (fun ij=>ij.2-ij.1) (0,l.length) ?_ ?_ ?_ ?_
 ·exact⟨Nat.zero_le _,Nat.le_refl _,fun k h hk=>by omega,fun k h hk=>by omega⟩
 ·rfl
 ·rfl
 rintro⟨i,j⟩ ⟨eI,DS,eS,gV⟩
 simp only[go_sem]
 repeat refine sq ?_
 refine rs hΓ [0,1,6,7,8,15] [] ?_
 repeat refine sq ?_
 refine au rfl rfl (fun hb=>?_) (fun hb=>?_)
 ·have ae:i<j:=by simpa using hb
  repeat refine sq ?_
  refine av ?_
  repeat refine sq ?_
  refine aO ?_
  repeat refine sq ?_
  refine rx hΓ [0,1,6,7,8,9] [] (fun K' hK=>by simp only[go_sem,TL (show i<=maxLen by omega) (show j<=maxLen by omega)];(repeat (refine⟨ob,?_⟩));exact hK _ (by simp only[go_sem]) (by simp only[go_sem]<;>rfl)) ?_
  obtain⟨h,hh⟩:∃ h,h=(i+j) / 2:=⟨_,rfl⟩
  rw[<-hh]
  have h1:i<=h:=by omega
  have h2:h<j:=by omega
  have h3:h<l.length:=by omega
  have uz:(h:Int)<l.length:=by omega
  repeat refine sq ?_
  refine rx hΓ [0,1,6,7,8,9,27] [] (fun K' hK=>by simp only[go_sem,aI h3,Int.toNat_natCast,Int.natCast_nonneg,uz];(repeat (refine⟨ob,?_⟩));exact hK _ (by simp only[go_sem]) (by simp only[go_sem]<;>rfl)) ?_
  repeat refine sq ?_
  refine au rfl rfl (fun hb=>?_) (fun hb=>?_)
  ·have hx:l[h] <x:=of_decide_eq_true hb
   repeat refine sq ?_
   refine aL hΓ fun K' hK=>?_
   simp only[go_sem]
   repeat (refine⟨ob,?_⟩)
   refine hK _ ?_
   clear K' hK
   simp only[go_sem]
   refine⟨(h+1,j),⟨by omega,DS,fun k hk DO=>?_,gV⟩,by omega,?_⟩
   ·rcases Nat.lt_succ_iff_lt_or_eq.1 DO with h5 | h5
    ·have:=List.pairwise_iff_getElem.1 hs k h hk h3 h5;omega
    ·subst h5;exact hx
   ·refine bk [0,1,6,7,8] [] ?_ ?_
    ·simp only[go_sem,aD h3 hl,Int.natCast_add,Int.natCast_one]
    ·simp only[go_sem,aD h3 hl,Int.natCast_add,Int.natCast_one]
  ·have hx:x<=l[h]:=by
     have :¬ l[h] <x:=of_decide_eq_false hb
     omega
   repeat refine sq ?_
   refine aL hΓ fun K' hK=>?_
   simp only[go_sem]
   repeat (refine⟨ob,?_⟩)
   refine hK _ ?_
   clear K' hK
   simp only[go_sem]
   refine⟨(i,h),⟨by omega,by omega,eS,fun k hk DO=>?_⟩,by omega,?_⟩
   ·rcases Nat.lt_or_eq_of_le DO with h5 | h5
    ·have:=List.pairwise_iff_getElem.1 hs h k h3 hk h5;omega
    ·subst h5;exact hx
   ·refine bk [0,1,6,7,8] [] ?_ ?_
    ·simp only[go_sem]
    ·simp only[go_sem]
 ·have X6:i=j:=by
    have :¬ i<j:=by simpa using hb
    omega
  subst X6
  clear hb
  have rR:=TN DS eS gV
  repeat refine sq ?_
  refine b7 ?_
  simp only[go_sem]
  refine kp [0,1,6,7] [] ?_
  repeat refine sq ?_
  rcases Nat.lt_or_ge i l.length with fg | fg
  ·have DW:(i:Int)<l.length:=by omega
   have D0:=YJ hs fg eS gV
   have hg:=aI (f:=vInt) fg
   repeat refine sq ?_
   refine rx hΓ [4,5] [] (fun K' hK=>by simp only[go_sem,aI fg,Int.toNat_natCast,Int.natCast_nonneg,DW,decide_true,rR];(repeat (refine⟨ob,?_⟩));exact hK _ (by simp only[go_sem]) (by simp only[go_sem]<;>rfl)) ?_
   refine an ?_
   simp only[go_sem]
   rw[rR,D0]
   first | done | rfl
  ·have aW:¬ (i:Int)<l.length:=by omega
   have D0:bO l x=false:=YI fun k hk=>eS k hk (by omega)
   repeat refine sq ?_
   refine rx hΓ [4,5] [] (fun K' hK=>by simp only[go_sem,aW,decide_false,Int.toNat_natCast];(repeat (refine⟨ob,?_⟩));exact hK _ (by simp only[go_sem]) (by simp only[go_sem]<;>rfl)) ?_
   refine an ?_
   simp only[go_sem]
   rw[rR,D0]
   first | done | rfl
theorem Kk:al Tryz.prog 52 S52:=RN.sound
end Go.Eng
set_option linter.unusedVariables false
namespace Go.Eng
open Go Go.Proofs Go.RowKit Go.Lib Go.Shelf
theorem Sy{P:Program}(w:World)(t e ty:TypeId)(z:Value)(ht:P.underlying t=some (.slice e))(hv:be P e=some z)(h1:∀ v∈z.cells.toList,v.oneCell'=true)(b o c:Nat)
 (hc:∀ j,j<z.cells.size->(w.cell? ⟨b,o+j,none⟩).isSome=true) (hf:∀ j,w.frozen? ⟨b,j,none⟩=false):
 (Builtin.clear_ #[t] ty #[.slice (some ⟨b,o,none⟩) 1 c]).run P w=.ok (.tuple #[]) (w.setCells b o z.cells.toList):=by
 have ot:(Builtin.zeroCells z.cells 1).toList=z.cells.toList:=by
  have :Builtin.zeroCells z.cells 1=z.cells:=by
   apply Array.ext
   ·simp[Builtin.zeroCells]
   ·intro i h1 h2
    simp[Builtin.zeroCells,Nat.mod_eq_of_lt h2]
    rw[getElem!_pos z.cells i h2]
  rw[this]
 have db:=run_storeCells_cells (P:=P) b o z.cells.toList 0 w (by simpa using hc) (by simpa using fun j _=>hf (o+j)) h1
 simp only[Nat.add_zero]at db
 simp[Builtin.clear_,run_underlying ht,te hv,ot,db]
set_option maxHeartbeats 4000000 in
set_option maxRecDepth 100000 in
theorem aae(b off n c i:Nat)(cs:List Value)(w:World)(hi:i<n)(DC:n<=c)(LA:c<=9223372036854775807)(bR:cs.length=n*1)
 (gX:∀ j v,cs[j]?=some v->w.cell? ⟨b,off+j,none⟩=some v) (pQ:∀ j,w.frozen? ⟨b,j,none⟩=false) (wD:∀ v∈cs,v.oneCell'=true):
 Calls Tryz.prog 54 #[.slice (some ⟨b,off,none⟩) n c,.int .i64 i,.int .i64 (i+1)] w fun e w'=>
  e=.returned (.slice (some ⟨b,off,none⟩) (n-1) c)/\w'=(w.drew.setCells b (off+i*1) (cs.drop ((i+1)*1))).setCells b (off+(n-1)*1) (List.replicate 1 (.int .i64 0)):=by
 have mixed:Tryz.prog.follows Departure.mixedOrders=true:=by kernel_rfl
 have uw:bK Tryz.prog 22=some (3,1,8):=by kernel_rfl
 have wy:be Tryz.prog 3=some (.int .i64 0):=by kernel_rfl
 obtain⟨i0,nw,rv⟩:∃ i0,Tryz.prog.info? 3=some i0/\i0.size=1:=by
  obtain⟨hu,i0,h1,h2,h3⟩:=iu uw
  exact⟨i0,h1,h2⟩
 obtain⟨news,vU⟩:∃ news,news=cs.drop ((i+1)*1):=⟨_,rfl⟩
 have hlen:news.length=(n-(i+1))*1:=by rw[vU,List.length_drop,bR,Nat.sub_mul]
 have Dd:∀ j,j<n*1->(w.cell? ⟨b,off+j,none⟩).isSome=true:=fun j hj=>by
  rw[gX j _ (List.getElem?_eq_getElem (by omega))];rfl
 obtain⟨A,hA,bG⟩:∃ A:Addr,(if c=i+1 then some (⟨b,off,none⟩:Addr)else some ⟨b,off+(i+1)*1,none⟩)=some A/\Hid (∀ t u,news[t]?=some u->w.drew.cell? (A.add t)=some u):=by
  by_cases h:c=i+1
  ·refine⟨⟨b,off,none⟩,by simp[h],fun t u hu=>?_⟩
   have h0:news.length=0:=by rw[hlen];have:n-(i+1)=0:=by omega
                             rw[this,Nat.zero_mul]
   rw[List.length_eq_zero_iff.1 h0]at hu
   simp at hu
  ·refine⟨⟨b,off+(i+1)*1,none⟩,by simp[h],fun t u hu=>?_⟩
   rw[Addr.add_lit,Nat.add_assoc]
   exact gX _ _ (by rw[vU,List.getElem?_drop]at hu;exact hu)
 have s1:Hid (news.length=(n-(i+1))*1):=hlen
 have s2:Hid (∀ u∈news,u.oneCell'=true):=fun u hu=>wD u (List.mem_of_mem_drop (vU▸hu))
 have s3:Hid (∀ t,t<news.length->(w.drew.cell? ⟨b,off+i*1+t,none⟩).isSome=true/\w.drew.frozen? ⟨b,off+i*1+t,none⟩=false):=by
  intro t ht
  rw[hlen]at ht
  refine⟨?_,pQ _⟩
  rw[Nat.add_assoc]
  exact Dd _ (by omega)
 obtain⟨W1,hM⟩:∃ W1,W1=w.drew.setCells b (off+i*1) news:=⟨_,rfl⟩
 have KG:∀ j,j<n*1->(W1.cell? ⟨b,off+j,none⟩).isSome=true:=fun j hj=>by
  rw[hM]
  exact isSome_setCells b _ _ _ (fun t ht=>(s3 t ht).1) _ (Dd j hj)
 have Ea:∀ ty,(Builtin.clear_ #[22] ty #[.slice (some ⟨b,off+(i+(n-(i+1)))*1,none⟩) (n-(i+(n-(i+1)))) (c-(i+(n-(i+1))))]).run Tryz.prog W1=.ok (.tuple #[]) (W1.setCells b (off+(i+(n-(i+1)))*1) (List.replicate 1 (.int .i64 0))):=fun ty=>by
  have e:n-(i+(n-(i+1)))=1:=by omega
  rw[e]
  exact Sy W1 22 3 ty _ Tryz.underlying22 wy (by decide) b _ _ (fun j hj=>by rw[Nat.add_assoc];exact KG _ (by have:j<1:=hj;omega)) (fun j=>by rw[hM,World.frozen?_setCells];exact pQ _)
 have hW:Hid (W1=w.drew.setCells b (off+i*1) news):=hM
 rw[<-vU,<-hM]
 have hic:i<=c:=by omega
 have hjc:i+1<=c:=by omega
 have ar:¬ ((i:Int)=(i:Int)+1):=by omega
 have hjn:i+1<=n:=by omega
 have nk:(0:Int)<=(i:Int)+1:=by omega
 have rH:(i:Int)+1<=(n:Int):=by omega
 clear hM KG Dd vU hlen
 simp only[Nat.mul_one]at hA Ea
 go_enter Tryz.func54,Tryz.ntmps54
 go_wp2_with fail
 go_region_law_o (refine step_append_room rfl (.tmp 22) (.tmp 25) 22 rfl 3 i0 1 Tryz.underlying22 nw rv b off i c (by simp[Act.eval,Act.put]) A (n-(i+1)) (c-(i+1)) news (by simp[Act.eval,Act.put]) s1.out bG.out s2.out (by omega) s3.out ?_;rw[<-hW.out])
 go_wp2
 go_ret
 have e:n-1=i+(n-(i+1)):=by omega
 rw[e,Nat.mul_one]
 exact⟨rfl,rfl⟩
def zI:V:=.int .i64 0
def xd(obj:Name->Option O):List D->R
 |[.msl nm k,.v (.int .i64 i),.v (.int .i64 j)]=>match obj nm with
  |some (.arr sz l)=>⟨k=l.length/\sz=1/\0<=i/\j=i+1/\i.toNat<l.length,.v (.sl (l.eraseIdx i.toNat)),upd obj nm (some (.farr sz (l.eraseIdx i.toNat++[zI])))⟩
  |_=>.bad obj
 |_=>.bad obj
def Ac:List D->List Name
 |[.msl nm _,_,_]=>[nm]
 |_=>[]
def S54:Spec:=⟨fun obj _ ds=>xd obj ds,fun _ _ ds=>Ac ds,fun _ _ ds=>Ac ds⟩
theorem Fe{l:List V}{i q:Nat}(hi:i<l.length)(h:q<(l.eraseIdx i++[zI]).length):
 (q<i/\∃ h':q<l.length,(l.eraseIdx i++[zI])[q]=l[q])\/(i<=q/\∃ h':q+1<l.length,(l.eraseIdx i++[zI])[q]=l[q+1])\/(q+1=l.length/\(l.eraseIdx i++[zI])[q]=zI):=by
 have hl:(l.eraseIdx i).length=l.length-1:=List.length_eraseIdx_of_lt hi
 have hq:q<l.length:=by simp[hl]at h;omega
 by_cases h1:q<l.length-1
 ·rw[List.getElem_append_left (by omega),List.getElem_eraseIdx]
  by_cases h2:q<i
  ·exact .inl ⟨h2,hq,by rw[dif_pos h2]⟩
  ·exact .inr (.inl ⟨by omega,by omega,by rw[dif_neg h2]⟩)
 ·refine .inr (.inr ⟨by omega,?_⟩)
  rw[List.getElem_append_right (by omega)]
  simp
theorem aad:S54.Near:=by
 refine⟨fun obj obj2 t ds h=>?_,fun obj obj2 t ds h=>rfl,fun obj t ds nm hn=>hn,fun obj obj2 t ds h=>rfl⟩
 simp only[S54]at h |-
 unfold xd
 split
 ·rename_i nm k i j
  have h':obj2 nm=obj nm:=h nm (by simp[Ac])
  simp only[h']
  split
  ·exact .one (by simp[Ac]) h
  ·exact .none _ h
 ·exact .none _ h
set_option maxHeartbeats 1000000 in
theorem Ki:al Tryz.prog 54 S54:=by
 refine⟨aad,fun _ args w=>jb Tryz.func54 rfl (by kernel_rfl) args w,fun _ G φ m σ a w hC t ds us _ hl hr aa=>?_,fun e=>(Nat.ne_of_lt (show (54:Nat)<yid by decide) e).elim⟩
 simp only[S54,xd]at aa |-
 split at aa
 case h_2=>exact aa.elim
 rename_i nm k i j
 simp only[List.length_cons,List.length_nil]at hl
 have r0:=hr 0 (by simp) (by omega)
 have r1:=hr 1 (by simp) (by omega)
 have r2:=hr 2 (by simp) (by omega)
 simp only[List.getElem_cons_zero,List.getElem_cons_succ]at r0 r1 r2
 have ni:us= #[us[0],us[1],us[2]]:=by
  apply Array.ext
  ·simp;omega
  ·intro j h1 h2
   have :j=0\/j=1\/j=2:=by omega
   rcases this with rfl | rfl | rfl<;>rfl
 rw[ni]
 generalize us[0]=u0 at r0
 generalize us[1]=u1 at r1
 generalize us[2]=u2 at r2
 clear ni hr hl us
 cases r1 with
 |v _ _ r1=>
 cases r1 with
 |int _ _=>
 cases r2 with
 |v _ _ r2=>
 cases r2 with
 |int _ _=>
 split at aa
 case h_2=>exact aa.elim
 rename_i sz l aq
 obtain⟨hk,bf,nw,hj,fg⟩:=aa
 subst bf hj
 cases r0 with
 |msl _ _ _ hh vM=>
 obtain⟨o,nn,cj,hlen,_,cq⟩:=hh
 rw[aq]at cj;cases cj
 simp only[O.len?,Option.some.injEq]at hlen
 subst hlen
 have hv:=cq hk
 subst hk
 obtain⟨i,rfl⟩:∃ n:Nat,i=(n:Int):=⟨i.toNat,by omega⟩
 simp only[Int.toNat_natCast]at fg |-
 rcases hC.objs nm _ aq with⟨_,jE⟩ | ⟨g0,g1,g2,g3,g4,bh,T',f,g5,g6,g7,g8⟩
 ·subst jE;simp at fg
 have gY:(φ nm).blk<w.heap.size:=(Array.getElem?_eq_some_iff.1 g5).1
 have C7:u0=.slice (some ⟨(φ nm).blk,(φ nm).off,none⟩) l.length (φ nm).cap:=by rw[hv];simp only[Loc.slice,g0];rfl
 subst C7
 have oB:holds φ σ.obj nm:=⟨_,aq,rfl,g0⟩
 obtain⟨c1,oI⟩:∃ c1:Nat->Nat->Value,∀ q j,q<l.length->j<1->bh[(φ nm).off+q*1+j]?=some (c1 q j):=⟨fun q j=>(bh[(φ nm).off+q*1+j]?).getD undef,fun q j hq hj=>by
  obtain⟨c,x1,_⟩:=g8 q j hq (by rw[g3];exact hj)
  simp only[x1,Option.getD_some]⟩
 have bU:∀ q j (h:q<l.length) (h':j<l[q].cells.length),aC m l[q].cells[j] (c1 q j):=fun q j h h'=>by
  obtain⟨c,x1,x2⟩:=g8 q j h h'
  have :=oI q j h (by rw[<-g3 q h];exact h')
  rw[x1]at this;cases this;exact x2
 have zH:∀ j v,(rowOf c1 l.length 1)[j]?=some v->w.cell? ⟨(φ nm).blk,(φ nm).off+j,none⟩=some v:=fun j v wc=>by
  have :=th (w:=w) (c:=c1) (n:=l.length) (sz:=1) (blk:=(φ nm).blk) (o:=(φ nm).off) (fun q j hq hj=>by rw[mC g5];exact oI q j hq hj) j v wc
  rwa [jN]at this
 have zg:∀ v∈rowOf c1 l.length 1,v.oneCell'=true:=by
  intro v hv
  simp only[rowOf,List.mem_map,List.mem_range]at hv
  obtain⟨k,hk,rfl⟩:=hv
  obtain⟨d1,d2⟩:=wQ hk
  exact vp ((bU _ _ d1 (by rw[g3];exact d2)).one (g4 _ d1 _ (List.getElem_mem _)))
 refine(aae (φ nm).blk (φ nm).off l.length (φ nm).cap i (rowOf c1 l.length 1) w fg g1 (by unfold maxLen at g2;omega) (dE _ _ _) zH (fun j=>Ma g5 g6) zg).mono ?_
 rintro e w' ⟨rfl,rfl⟩
 obtain⟨lT,k1,k2,k3⟩:=qF (φ nm).blk T' f ((rowOf c1 l.length 1).drop ((i+1)*1)) ((φ nm).off+i*1) w.drew bh g5
 obtain⟨jU,k4,k5,k6⟩:=qF (φ nm).blk T' f (List.replicate 1 (.int .i64 0)) ((φ nm).off+(l.length-1)*1) (bo w.drew (φ nm).blk (.cells lT T' f)) lT (jj gY)
 rw[k1,k4,xt]
 have hL:(l.eraseIdx i++[zI]).length=l.length:=by simp[List.length_eraseIdx_of_lt fg];omega
 have pK:∀ q (h:q<(l.eraseIdx i++[zI]).length),(l.eraseIdx i++[zI])[q].cells.length=1:=fun q h=>by
  rcases Fe fg h with⟨_,h',e⟩ | ⟨_,h',e⟩ | ⟨_,e⟩<;>rw[e]
  ·exact g3 _ _
  ·exact g3 _ _
  ·rfl
 have tX:∀ q (h:q<(l.eraseIdx i++[zI]).length),∀ x∈(l.eraseIdx i++[zI])[q].cells,x.one=true:=fun q h=>by
  rcases Fe fg h with⟨_,h',e⟩ | ⟨_,h',e⟩ | ⟨_,e⟩<;>rw[e]
  ·exact g4 _ _
  ·exact g4 _ _
  ·intro x hx
   simp only[zI,V.cells,List.mem_cons,List.not_mem_nil,or_false,or_self]at hx
   subst hx;rfl
 have Ly:l.length*1<=(φ nm).cap*1:=Nat.mul_le_mul_right _ g1
 have kM:∀ q j (h:q<(l.eraseIdx i++[zI]).length) (h':j<(l.eraseIdx i++[zI])[q].cells.length),∃ c,jU[(φ nm).off+q*1+j]?=some c/\aC m (l.eraseIdx i++[zI])[q].cells[j] c:=by
  intro q j h h'
  have hq:q<l.length:=by rw[<-hL];exact h
  have hj:j<1:=by rw[<-pK q h];exact h'
  rw[k6 _ (by rw[k2];omega),k3 _ (by omega)]
  simp only[List.length_replicate,List.length_drop,dE]
  rcases Fe fg h with⟨h1,h2,e⟩ | ⟨h1,h2,e⟩ | ⟨h1,e⟩
  ·simp only[e]at h' |-
   rw[if_neg (by omega),if_neg (by omega)]
   exact⟨_,oI q j h2 hj,bU q j h2 h'⟩
  ·simp only[e]at h' |-
   rw[if_neg (by omega),if_pos (by omega),List.getElem?_drop,show (i+1)*1+((φ nm).off+q*1+j-((φ nm).off+i*1))=(q+1)*1+j by omega]
   exact⟨_,kx c1 h2 hj,bU (q+1) j h2 h'⟩
  ·simp only[e]at h' |-
   rw[if_pos (by omega)]
   refine⟨.int .i64 0,by rw[List.getElem?_replicate,if_pos (by omega)],?_⟩
   have hz:zI.cells[j]=.int .i64 0:=by
    have :zI.cells=List.replicate 1 (.int .i64 0):=rfl
    simp only[this,List.getElem_replicate]
   rw[hz]
   exact .int _ _
 have hx:=Ext.same (φ:=φ) (o':=.arr 1 (l.eraseIdx i++[zI])) aq (by simp only[O.len?,hL]) rfl
 have fC:=hC.chg (w':=bo w.drew (φ nm).blk (.cells jU T' f)) nm (.arr 1 (l.eraseIdx i++[zI])) (φ nm) hx ⟨rfl,rfl,rfl,by rw[A4];exact Nat.le_refl _⟩
  (fun b' cU hn=>by
    rw[lp (by rcases hn with h | h; · rw[g0]at h;cases h
              ·exact h)]
    rfl) (fun _=>.inr ⟨oB,rfl⟩)
  (.inr ⟨g0,by rw[hL];exact g1,g2,pK,tX,jU,T',f,jj gY,g6,by rw[k5,k2];exact g7,kM⟩)
 rw[ep]at fC hx
 obtain⟨m',q1,q2,q3⟩:=fC.frz1 nm (.arr 1 (l.eraseIdx i++[zI])) (.farr 1 (l.eraseIdx i++[zI])) (aH _ _ _) rfl g0 jU T' f (jj gY) rfl rfl rfl
  (fun m' hle kJ=>.inr ⟨g0,⟨by rw[hL];exact g1,by rw[hL];exact Nat.le_trans g1 g2⟩,pK,tX,fun i j a b=>let ⟨c,x,y⟩:=kM i j a b;⟨c,kJ _ _ x,y.mono hle⟩⟩)
 simp only[sQ]at q2
 have jx:Ext φ φ σ.obj (upd σ.obj nm (some (.farr 1 (l.eraseIdx i++[zI])))):=by
  have :=Ext.same (φ:=φ) (o':=.farr 1 (l.eraseIdx i++[zI])) aq (by simp only[O.len?,hL]) rfl
  rwa [ep]at this
 refine⟨_,φ,m',rfl,q2,.v _ _ ?_,jx⟩
 have oF:(l.eraseIdx i).length=l.length-1:=List.length_eraseIdx_of_lt fg
 rw[<-oF]
 by_cases KX:l.eraseIdx i=[]
 ·rw[KX];exact .slnil _ _
 ·have fh:∀ q (h:q<(l.eraseIdx i).length),(l.eraseIdx i++[zI])[q]'(by rw[List.length_append];omega)=(l.eraseIdx i)[q]:=fun q h=>List.getElem_append_left h
  refine .sl _ _ _ _ 1 (fun q j=>(jU[(φ nm).off+q*1+j]?).getD undef) KX (by rw[oF];omega) (by rw[oF];omega) (fun q h=>?_) (fun q j h hj=>?_) (fun q j h hj=>?_) (fun q h=>?_)
  ·rw[<-fh q h];exact pK _ _
  ·obtain⟨c,x,y⟩:=kM q j (by rw[List.length_append];omega) (by rw[pK];exact hj)
   rw[x];exact q3 _ _ x
  ·have hg:=fh q h
   simp only[<-hg]at hj |-
   obtain⟨c,x,y⟩:=kM q j (by rw[List.length_append];omega) hj
   rw[x];exact y.mono q1
  ·rw[<-fh q h];exact tX _ _
open Go Go.Proofs
theorem BV{l:List Int}(h:fJ l=true):l.Pairwise (· < ·):=by
 unfold fJ at h
 rw[Bool.and_eq_true,jf]at h
 have h1:∀ i (hi:i+1<l.length),l[i]'(by omega)<l[i+1]:=fun i hi=>by
  have :=h.1 (i+1) hi
  unfold kC at this
  simp only[Bool.and_eq_true,Bool.or_eq_true,decide_eq_true_eq,Nat.add_sub_cancel]at this
  rw[getD_at (show i<l.length by omega),getD_at hi]at this
  rcases this.2 with h2 | h2
  ·simp at h2
  ·exact h2
 refine List.pairwise_iff_getElem.2 fun i j hi hj eI=>?_
 induction j with
 |zero=>omega
 |succ j ih=>
  rcases Nat.lt_succ_iff_lt_or_eq.1 eI with h2 | rfl
  ·have:=ih (by omega) h2
   have :=h1 j hj
   omega
  ·exact h1 i hj
theorem My(l:List Int)(p:Int):fm l p l.length=l.filter fun x=>x != p:=by
 unfold fm;rw[List.take_length]
theorem ZN{l:List Int}{p:Int}(h:∀ y∈l,p<y):l.filter (fun x=>x != p)=l:=by
 rw[List.filter_eq_self]
 intro y hy
 have :=h y hy
 simp only[bne_iff_ne,ne_eq]
 omega
theorem MH:∀ {l:List Int} {p:Int},l.Pairwise (· < ·)->bO l p=true->l.eraseIdx (bF l p)=l.filter (fun x=>x != p)/\bF l p<l.length
 |[],p,_,h=>by simp[bO]at h
 |a::r,p,hs,h=>by
  rw[List.pairwise_cons]at hs
  by_cases ha:a=p
  ·subst ha
   have h0:bF (a::r) a=0:=by
    unfold bF
    rw[List.takeWhile_cons_of_neg (by simp)];rfl
   rw[h0]
   have hf:List.filter (fun x=>x != a) (a::r)=List.filter (fun x=>x != a) r:=by simp
   rw[hf,ZN hs.1]
   exact⟨rfl,by simp⟩
  ·have hr:bO r p=true:=by
     unfold bO at h |-
     rw[List.contains_iff_mem]at h |-
     rcases List.mem_cons.1 h with h1 | h1
     ·exact absurd h1.symm ha
     ·exact h1
   have ae:a<p:=hs.1 p (by unfold bO at hr;rwa [List.contains_iff_mem]at hr)
   obtain⟨h1,h2⟩:=MH hs.2 hr
   have h0:bF (a::r) p=bF r p+1:=by
    unfold bF
    rw[List.takeWhile_cons_of_pos (by simpa using ae)];rfl
   rw[h0]
   have hf:List.filter (fun x=>x != p) (a::r)=a::List.filter (fun x=>x != p) r:=by simp[ha]
   rw[hf,List.eraseIdx_cons_succ,h1]
   exact⟨rfl,by simpa using h2⟩
theorem LH{d:Dk}{p:Int}:bO d.now.ho p=!lg d p:=by
 unfold lg
 rw[My]
 cases h:bO d.now.ho p with
 |true=>
  have hlen:¬ (d.now.ho.filter fun x=>x != p).length=d.now.ho.length:=by
   intro he
   have h1:=List.filter_eq_self.1 (List.length_filter_eq_length_iff.1 he |> fun hh=>List.filter_eq_self.2 hh)
   unfold bO at h
   rw[List.contains_iff_mem]at h
   have :=h1 p h
   simp at this
  rw[decide_eq_false hlen];rfl
 |false=>
  have ei:(d.now.ho.filter fun x=>x != p)=d.now.ho:=by
   rw[List.filter_eq_self]
   intro y hy
   simp only[bne_iff_ne,ne_eq]
   rintro rfl
   unfold bO at h
   have :=List.contains_iff_mem.2 hy
   rw[h]at this;cases this
  rw[ei,decide_eq_true rfl];rfl
theorem Z'(l:List Int)(i:Nat):(l.map vInt).eraseIdx i=(l.eraseIdx i).map vInt:=by
 rw[List.eraseIdx_eq_take_drop_succ,List.eraseIdx_eq_take_drop_succ,List.map_append,List.map_take,List.map_drop]
attribute [go_sem] cK S54 xd
@[go_sem] theorem agw(f:Name->Name)(d:Dk)(j:Nat)(hd:D)(nm:Name)(n:Nat)(se:Int):D.renL f (bI d j hd nm n se)=bI d j (hd.ren f) (f nm) n se:=by
  unfold bI
  rw[gP,List.map_set,List.map_set,List.map_set,List.map_map]
  rfl
noncomputable def OS(j:Nat):List (Nat×Spec):=[(23,S23),(50,S50),(51,S51),(52,S52),(53,AW j),(54,S54)]
attribute [go_sem] OS
theorem ab3{j:Nat}(hj:j<6):∀ f s,tbl (OS j) f=some s->al Tryz.prog f s:=tc pB<|tc Kl<|tc V9<|tc Kk<|tc (Kj j hj)<|tc Ki<|tn
noncomputable def P8:PSpec:=p3 bu iI iI (fun d _ _=>b8 d) (fun d p t=>.tup [eK (iQ d p t),vInt (eF d p t)]) false
noncomputable def S8:Spec:=P8.toSpec
attribute [go_sem] P8 S8
set_option maxHeartbeats 4000000 in
theorem s8:aQ Tryz.prog 8 P8:=by
 refine w3 (rs:=[.cell 6 32,.tmp 7]) Tryz.func8 Tryz.ntmps8 (by rfl) (by kernel_rfl) (by decide) (fun h=>by cases h) ⟨_,rfl,lb rfl,fun d p t hp hw=>?_⟩
 have hP:=ba
 simp only[bu,iI]at hw |-
 obtain⟨j,hj,oA⟩:=HS d t
 have hΓ:=ab3 hj
 have hs:b8 d:=hp
 repeat refine sq ?_
 refine rx hΓ [1,2,3,6] [[3,0],[6,0]] (fun K' hK=>by simp only[go_sem];(repeat (refine⟨ah,?_⟩));exact hK _ (by simp only[go_sem]) (by simp only[go_sem]<;>rfl)) ?_
 refine aE (ft [6,0] _ (ak zD) rfl rfl [1,2,3,6] [[3,0],[6,0]] ?_ rfl) ?_
 ·simp only[go_sem]
 simp only[go_sem]
 refine aE (bz [3,0] (ak d) rfl [1,2,3,6] [[3,0],[6,0]] ?_ rfl) ?_
 ·simp only[go_sem]
 simp only[go_sem]
 repeat refine sq ?_
 refine rx hΓ [1,2,3,6,8] [[3,0],[6,0]] (fun K' hK=>by simp only[go_sem];(repeat (refine⟨ah,?_⟩));exact hK _ (by simp only[go_sem]) (by simp only[go_sem]<;>rfl)) ?_
 repeat refine sq ?_
 refine rx hΓ [1,2,3,6,8,16] [[3,0],[6,0]] (fun K' hK=>by simp only[go_sem];(repeat (refine⟨ah,?_⟩));exact hK _ (by simp only[go_sem]) (by simp only[go_sem]<;>rfl)) ?_
 repeat refine sq ?_
 refine au rfl rfl (fun hb=>?_) (fun hb=>?_)
 ·repeat refine sq ?_
  have hd:=kY hb
  have hq:=Hb (p:=p) (t:=t) hd
  have e1:=eV hd
  repeat refine sq ?_
  refine rx hΓ [6,7] [[6,0]] (fun K' hK=>by simp only[go_sem];(repeat (refine⟨ah,?_⟩));exact hK _ (by simp only[go_sem]) (by simp only[go_sem]<;>rfl)) ?_
  refine an ?_
  simp only[go_sem]
  first | (rw[hq.1,hq.2];done) | (rw[hq.1,hq.2];rfl) | (rw[hq.1,hq.2,e1];done) | (rw[hq.1,hq.2,e1];rfl)
 ·repeat refine sq ?_
  have hd:=kX hb
  refine av ?_
  repeat refine sq ?_
  refine rx hΓ [1,2,3,6,21] [[3,0],[6,0]] (fun K' hK=>by simp only[go_sem];(repeat (refine⟨ah,?_⟩));exact hK _ (by simp only[go_sem]) (by simp only[go_sem]<;>rfl)) ?_
  repeat refine sq ?_
  refine au rfl rfl (fun hb=>?_) (fun hb=>?_)
  ·repeat refine sq ?_
   have h1:aY p 1 999=false:=by simpa using hb
   have hq:=Hg (t:=t) hd h1
   repeat refine sq ?_
   refine rx hΓ [6,7] [[6,0]] (fun K' hK=>by simp only[go_sem];(repeat (refine⟨ah,?_⟩));exact hK _ (by simp only[go_sem]) (by simp only[go_sem]<;>rfl)) ?_
   refine an ?_
   simp only[go_sem]
   first | (rw[hq.1,hq.2];done) | (rw[hq.1,hq.2];rfl) | (rw[hq.1,hq.2,e1];done) | (rw[hq.1,hq.2,e1];rfl)
  ·repeat refine sq ?_
   have h1:aY p 1 999=true:=by simpa using hb
   refine av ?_
   repeat refine sq ?_
   refine rx hΓ [1,2,3,6,9] [[3,0],[6,0]] (fun K' hK=>by simp only[go_sem];(repeat (refine⟨ah,?_⟩));exact hK _ (by simp only[go_sem]) (by simp only[go_sem]<;>rfl)) ?_
   repeat refine sq ?_
   refine rx hΓ [1,2,3,6,9,27] [[3,0],[6,0]] (fun K' hK=>by simp only[go_sem];(repeat (refine⟨ah,?_⟩));exact hK _ (by simp only[go_sem]) (by simp only[go_sem]<;>rfl)) ?_
   repeat refine sq ?_
   refine au rfl rfl (fun hb=>?_) (fun hb=>?_)
   ·repeat refine sq ?_
    have hn:=FX hb
    have h2:et d t=false:=by unfold sC at hn;rw[hd]at hn;simpa using hn
    have hq:=G' hd h1 h2
    have e1:=oU hd h2
    repeat refine sq ?_
    refine rx hΓ [6,7] [[6,0]] (fun K' hK=>by simp only[go_sem];(repeat (refine⟨ah,?_⟩));exact hK _ (by simp only[go_sem]) (by simp only[go_sem]<;>rfl)) ?_
    refine an ?_
    simp only[go_sem]
    first | (rw[hq.1,hq.2];done) | (rw[hq.1,hq.2];rfl) | (rw[hq.1,hq.2,e1];done) | (rw[hq.1,hq.2,e1];rfl)
   ·repeat refine sq ?_
    obtain⟨_,h2⟩:=FY hb
    obtain⟨l9,ou,_⟩:=xz h2
    have jF:=oA h2
    have aa:=qY hd
    have hol:=aa.hol
    have tV:=aa.unl j hj
    have iU:=aa.se j hj
    have vR:d.now.ho.Pairwise (· < ·):=by
     have hh:=hd
     unfold aF gW c9 at hh
     simp only[Bool.and_eq_true]at hh
     exact BV hh.1.1.1.1.1.1.2
    refine av ?_
    repeat refine sq ?_
    refine rx hΓ [1,2,3,6,10,11] [[3,0],[6,0]] (fun K' hK=>by simp only[go_sem,vR];(repeat (refine⟨ah,?_⟩));exact hK _ (by simp only[go_sem]) (by simp only[go_sem]<;>rfl)) ?_
    repeat refine sq ?_
    refine aO ?_
    repeat refine sq ?_
    refine rx hΓ [1,2,3,6,10,38] [[3,0],[6,0]] (fun K' hK=>by simp only[go_sem];(repeat (refine⟨ah,?_⟩));exact hK _ (by simp only[go_sem]) (by simp only[go_sem]<;>rfl)) ?_
    repeat refine sq ?_
    refine au rfl rfl (fun hb=>?_) (fun hb=>?_)
    ·repeat refine sq ?_
     have h3:lg d p=true:=by have h4:=LH (d:=d) (p:=p);(have h5:bO d.now.ho p=false:=by simpa using hb);rw[h5]at h4;simpa using h4.symm
     have hq:=Hf hd h1 h2 h3
     repeat refine sq ?_
     refine rx hΓ [6,7] [[6,0]] (fun K' hK=>by simp only[go_sem];(repeat (refine⟨ah,?_⟩));exact hK _ (by simp only[go_sem]) (by simp only[go_sem]<;>rfl)) ?_
     refine an ?_
     simp only[go_sem]
     first | (rw[hq.1,hq.2];done) | (rw[hq.1,hq.2];rfl) | (rw[hq.1,hq.2,e1];done) | (rw[hq.1,hq.2,e1];rfl)
    ·repeat refine sq ?_
     have h5:bO d.now.ho p=true:=by simpa using hb
     have h3:lg d p=false:=by have h4:=LH (d:=d) (p:=p);rw[h5]at h4;simpa using h4.symm
     obtain⟨g1,g2⟩:=MH vR h5
     have g3:(List.map vInt d.now.ho).eraseIdx (bF d.now.ho p)=(fm d.now.ho p d.now.ho.length).map vInt:=by rw[Z',g1,My]
     have g4:IntKind.i64.wrap ((bF d.now.ho p:Int)+1)=(bF d.now.ho p:Int)+1:=wrap_i64 (by omega) (by omega)
     repeat refine sq ?_
     refine rx hΓ [1,2,3,6,10,42] [[3,0],[6,0]] (fun K' hK=>by simp only[go_sem,jF,l9,ou,wO d hj,MZ d hj];(repeat (refine⟨ah,?_⟩));exact hK _ (by simp only[go_sem]) (by simp only[go_sem]<;>rfl)) ?_
     repeat refine sq ?_
     refine au rfl rfl (fun hb=>?_) (fun hb=>?_)
     ·repeat refine sq ?_
      have h4:kG d t=true:=by unfold kG;rw[jF];exact hb
      have hq:=Hd hd h1 h2 h3 h4
      repeat refine sq ?_
      refine rx hΓ [6,7] [[6,0]] (fun K' hK=>by simp only[go_sem];(repeat (refine⟨ah,?_⟩));exact hK _ (by simp only[go_sem]) (by simp only[go_sem]<;>rfl)) ?_
      refine an ?_
      simp only[go_sem]
      first | (rw[hq.1,hq.2];done) | (rw[hq.1,hq.2];rfl) | (rw[hq.1,hq.2,e1];done) | (rw[hq.1,hq.2,e1];rfl)
     ·repeat refine sq ?_
      have h4:kG d t=false:=by unfold kG;rw[jF];exact hb
      have hq:=Ha hd h1 h2 h3 h4
      rw[jF]at hq
      have w1:IntKind.i64.wrap (d.now.se.get j+1)=d.now.se.get j+1:=by have:=iU;exact wrap_i64 (by have:=iU.1;omega) (by have:=iU.2;omega)
      refine av ?_
      refine ct ?_
      simp only[go_sem]
      refine kp [1,2,3,6,10] [[3,0],[6,0]] ?_
      repeat refine sq ?_
      refine rx hΓ [1,2,6,10,12] [[6,0],[22,0,60,0],[12,0,5,0,60,0],[99,0,5,0,60,0]] (fun K' hK=>by simp only[go_sem,hs];(repeat (refine⟨ah,?_⟩));exact hK _ (by simp only[go_sem]) (by simp only[go_sem]<;>rfl)) ?_
      repeat refine sq ?_
      refine rx hΓ [1,2,6,12] [[6,0],[22,0,60,0],[12,0,5,0,60,0],[99,0,5,0,60,0]] (fun K' hK=>by simp only[go_sem,g4,g3,Int.toNat_natCast];(repeat (refine⟨ah,?_⟩));exact hK _ (by simp only[go_sem]) (by simp only[go_sem]<;>rfl)) ?_
      repeat refine sq ?_
      refine dx hΓ hP [[],[],[0],[0,2],[0,2,3],[0,2,3,4],[0,1,2,3,4,5],[0,1,2,3,4,5,6],[0,1,2,3,4,5,6,7],[0],[0,9],[0,9,10],[0,9,10,11],[0,1,2,3,4,5,6,7,8,9,10,11,12],[0,1,2,3,4,5,6,7,8,9,10,11,12,13]] [1,2,6,12] [[6,0],[22,0,60,0],[12,0,5,0,60,0],[99,0,5,0,60,0]] (by kernel_rfl) (fun K' hK=>by simp only[go_sem,jF,l9,ou,Aq d _ _ _ _ hj,NK d _ _ _ _ _ hj,w1];(repeat (refine⟨ah,?_⟩));(first | refine⟨by rfl,?_⟩ | skip);exact hK _ (by simp only[go_sem]) (by simp only[go_sem]<;>rfl)) ?_
      repeat refine sq ?_
      refine dx hΓ hP [[],[],[],[],[2],[2,4],[2,4,5],[2,4,5,6],[2,3,4,5,6,7],[2,3,4,5,6,7,8],[],[],[10],[10,12],[10,12,13],[10,12,13,14],[10,11,12,13,14,15],[10,11,12,13,14,15,16],[],[10,11,12,13,14,15,16,17,18],[10,11,12,13,14,15,16,17,18,19],[2,3,4,5,6,7,8,9,10,11,12,13,14,15,16,17,18,19,20],[0],[0,22],[0,22,23],[0,22,23,24],[0,1,2,3,4,5,6,7,8,9,10,11,12,13,14,15,16,17,18,19,20,21,22,23,24,25],[0,1,2,3,4,5,6,7,8,9,10,11,12,13,14,15,16,17,18,19,20,21,22,23,24,25,26]] [6,12] [[6,0],[22,0,60,0],[12,0,5,0,60,0],[99,0,5,0,60,0]] (by kernel_rfl) (fun K' hK=>by simp only[go_sem,jF,l9,ou,Aq d _ _ _ _ hj,Ap d _ _ _ _ hj,FF d _ _ _ _ _ hj];(repeat (refine⟨ah,?_⟩));(first | refine⟨by rfl,?_⟩ | skip);exact hK _ (by simp only[go_sem]) (by simp only[go_sem]<;>rfl)) ?_
      refine aE (ed [22,0,60,0] [99,0,5,0,60,0] (2+j) _ _ _ _ rfl (As _ _ _ _ _ hj) rfl (by simp only[List.length_append,List.length_map,List.length_cons,List.length_nil]) [6,12] [[6,0],[22,0,60,0]] ?_ rfl) ?_
      ·simp only[go_sem,Ar d _ _ _ _ _ _ _ hj]
      simp only[go_sem,Ar d _ _ _ _ _ _ _ hj]
      repeat refine sq ?_
      refine rx hΓ [6,7] [[6,0]] (fun K' hK=>by simp only[go_sem];(repeat (refine⟨ah,?_⟩));exact hK _ (by simp only[go_sem]) (by simp only[go_sem]<;>rfl)) ?_
      refine an ?_
      simp only[go_sem]
      first | (rw[hq.1,hq.2];done) | (rw[hq.1,hq.2];rfl) | (rw[hq.1,hq.2,e1];done) | (rw[hq.1,hq.2,e1];rfl)
theorem k8:al Tryz.prog 8 S8:=s8.sound
def cA(l:List Int)(x:Int):List Int:=l.take (bF l x)++[x]++l.drop (bF l x)
def gu(l:List Int)(x:Int)(i:Nat):List Int:=if bF l x<i then l.take (bF l x)++[x]++(l.take i).drop (bF l x)else l.take i
theorem yx(l:List Int)(x:Int):bF l x<=l.length:=by
 unfold bF
 exact(List.takeWhile_prefix _).length_le
theorem Cl:∀ {l:List Int} {x:Int},l.Pairwise (· < ·)->∀ {i:Nat} (hi:i<l.length),l[i] <x↔i<bF l x
 |[],x,_,i,hi=>by simp at hi
 |a::r,x,hs,i,hi=>by
  rw[List.pairwise_cons]at hs
  by_cases ha:a<x
  ·have h0:bF (a::r) x=bF r x+1:=by
     unfold bF
     rw[List.takeWhile_cons_of_pos (by simpa using ha)];rfl
   rw[h0]
   cases i with
   |zero=>simp[ha]
   |succ i=>
    have :=Cl (x:=x) hs.2 (i:=i) (by simpa using hi)
    simp only[List.getElem_cons_succ,this]
    omega
  ·have h0:bF (a::r) x=0:=by
     unfold bF
     rw[List.takeWhile_cons_of_neg (by simpa using ha)];rfl
   rw[h0]
   cases i with
   |zero=>simp;omega
   |succ i=>
    have :=hs.1 (r[i]'(by simpa using hi)) (List.getElem_mem _)
    simp only[List.getElem_cons_succ]
    omega
theorem S5{l:List Int}{x:Int}{i:Nat}(hi:i<l.length)(h:i=bF l x):gu l x i++[x]++[l[i]]=gu l x (i+1):=by
 unfold gu
 rw[if_neg (by omega),if_pos (by omega),<-h,List.take_add_one,List.getElem?_eq_getElem hi,List.drop_append_of_le_length (by rw[List.length_take];omega)]
 rw[List.drop_of_length_le (by rw[List.length_take];omega)]
 simp
theorem SZ{l:List Int}{x:Int}{i:Nat}(hi:i<l.length)(h:i<bF l x):gu l x i++[l[i]]=gu l x (i+1):=by
 unfold gu
 rw[if_neg (by omega),if_neg (by omega),List.take_add_one,List.getElem?_eq_getElem hi];rfl
theorem S0{l:List Int}{x:Int}{i:Nat}(hi:i<l.length)(h:bF l x<i):gu l x i++[l[i]]=gu l x (i+1):=by
 unfold gu
 rw[if_pos h,if_pos (by omega),List.take_add_one,List.getElem?_eq_getElem hi,List.drop_append_of_le_length (by rw[List.length_take];omega)]
 simp
theorem S3{l:List Int}{x:Int}(h:bF l x<l.length):gu l x l.length=cA l x:=by
 unfold gu cA
 rw[if_pos h,List.take_length]
theorem S2{l:List Int}{x:Int}(h:¬ bF l x<l.length):gu l x l.length++[x]=cA l x:=by
 have he:bF l x=l.length:=by have:=yx l x;omega
 unfold gu cA
 rw[if_neg h,he,List.take_length,List.drop_length,List.append_nil]
theorem Ia{l:List Int}{x:Int}{i:Nat}(hi:i<=l.length):(gu l x i).length<=i+1:=by
 unfold gu
 split
 ·simp only[List.length_append,List.length_take,List.length_drop,List.length_cons,List.length_nil]
  omega
 ·rw[List.length_take];omega
theorem WO(l:List Int)(x:Int):(cA l x).length=l.length+1:=by
 have :=yx l x
 unfold cA
 simp only[List.length_append,List.length_take,List.length_drop,List.length_cons,List.length_nil]
 omega
def BK(l:List Int)(x:Int):List Int:=if bO l x=true then[]else cA l x
theorem BJ{l:List Int}{x:Int}(h:bO l x=true):BK l x=[]:=if_pos h
theorem mX{l:List Int}{x:Int}(h:bO l x=false):BK l x=cA l x:=if_neg (by rw[h];decide)
theorem LG{l:List Int}{x:Int}{i:Nat}(hi:i<l.length)(h:l[i]=x):bO l x=true:=by
 unfold bO;rw[List.contains_iff_mem,<-h];exact List.getElem_mem hi
theorem YH{l:List Int}{x:Int}(h:∀ k (hk:k<l.length),k<l.length->l[k]≠x):bO l x=false:=by
 rw[Bool.eq_false_iff]
 intro hh
 unfold bO at hh
 rw[List.contains_iff_mem]at hh
 obtain⟨k,hk,e⟩:=List.getElem_of_mem hh
 exact h k hk hk e
noncomputable def P68:PSpec:=p2 dY iI (fun l _=>l.Pairwise (· < ·)/\l.length<=1000) (fun l x=>.tup [.sl ((BK l x).map vInt),.bool (!bO l x)]) false
noncomputable def S68:Spec:=P68.toSpec
attribute [go_sem] P68 S68
set_option maxHeartbeats 4000000 in
theorem RC:aQ Tryz.prog 68 P68:=by
 refine w2 (rs:=[.tmp 4,.tmp 5]) Tryz.func68 Tryz.ntmps68 (by rfl) (by kernel_rfl) (by decide) (fun h=>by cases h) ⟨_,rfl,lb rfl,fun l x hp hw=>?_⟩
 have hP:=ba
 simp only[iI,dY]at hw |-
 have hΓ:=@jY Tryz.prog
 obtain⟨hs,ly⟩:=hp
 have hl:l.length<=maxLen:=by unfold maxLen;omega
 repeat refine sq ?_
 refine rx hΓ [0,1] [] (fun K' hK=>by simp only[go_sem];(repeat (refine⟨ah,?_⟩));exact hK _ (by simp only[go_sem]) (by simp only[go_sem]<;>rfl)) ?_
 repeat refine sq ?_
 refine rx hΓ [0,1,6] [[34,0],[41,0],[47,0],[98,0]] (fun K' hK=>by simp only[go_sem];(repeat (refine⟨ah,?_⟩));exact hK _ (by simp only[go_sem]) (by simp only[go_sem]<;>rfl)) ?_
 refine aE (xu 6 [98,0] 1 (by simp only[go_sem]) (by simp only[go_sem]) [0,1,6] [[34,0],[41,0],[47,0],[98,0]] ?_ rfl) ?_
 ·simp only[go_sem]
 simp only[go_sem]
 repeat refine sq ?_
 refine rx hΓ [0,1,6,7] [[34,0],[41,0],[47,0],[98,0]] (fun K' hK=>by simp only[go_sem];(repeat (refine⟨ah,?_⟩));exact hK _ (by simp only[go_sem]) (by simp only[go_sem]<;>rfl)) ?_
 repeat refine sq ?_
 refine rx hΓ [0,1,6,7,8] [[34,0],[41,0],[47,0],[98,0]] (fun K' hK=>by simp only[go_sem];(repeat (refine⟨ah,?_⟩));exact hK _ (by simp only[go_sem]) (by simp only[go_sem]<;>rfl)) ?_
 repeat refine sq ?_
 refine aO ?_
 repeat refine sq ?_
 refine cv (fun z:Nat=>[(8,⟨true,.v (vInt z)⟩),(6,⟨true,.msl [98,0] (gu l x z).length⟩),(7,⟨true,.v (.bool (decide (bF l x<z)))⟩)]) (fun z=>[([98,0],.arr 1 ((gu l x z).map vInt))]) (fun z=>z<=l.length/\(∀ k (hk:k<l.length),k<z->l[k]≠x)) (fun z=>l.length-z) 0 ?_ ?_ ?_ ?_
 ·exact⟨Nat.zero_le _,fun k hk h=>absurd h (by omega)⟩
 ·rfl
 ·rfl
 rintro i ⟨hi,hR⟩
 simp only[go_sem]
 repeat refine sq ?_
 refine rx hΓ [0,1,6,7,8,12] [[34,0],[41,0],[47,0],[98,0]] (fun K' hK=>by simp only[go_sem];(repeat (refine⟨ah,?_⟩));exact hK _ (by simp only[go_sem]) (by simp only[go_sem]<;>rfl)) ?_
 repeat refine sq ?_
 refine au rfl rfl (fun hb=>?_) (fun hb=>?_)
 ·have ae:i<l.length:=by simpa using hb
  have ai:(i:Int)<l.length:=by omega
  clear hb
  have hlen:=Ia (x:=x) hi
  repeat refine sq ?_
  refine av ?_
  repeat refine sq ?_
  refine aO ?_
  repeat refine sq ?_
  refine rx hΓ [0,1,6,7,8,20] [[34,0],[41,0],[47,0],[98,0]] (fun K' hK=>by simp only[go_sem,aI ae,Int.toNat_natCast,Int.natCast_nonneg,ai,aI ae];(repeat (refine⟨ah,?_⟩));exact hK _ (by simp only[go_sem]) (by simp only[go_sem]<;>rfl)) ?_
  repeat refine sq ?_
  refine au rfl rfl (fun hb=>?_) (fun hb=>?_)
  ·repeat refine sq ?_
   have hx:l[i]=x:=by simpa using hb
   have hh:=LG ae hx
   repeat refine sq ?_
   refine rx hΓ [4,5] [[34,0],[41,0],[47,0],[98,0]] (fun K' hK=>by simp only[go_sem,aI ae,Int.toNat_natCast,Int.natCast_nonneg,ai];(repeat (refine⟨ah,?_⟩));exact hK _ (by simp only[go_sem]) (by simp only[go_sem]<;>rfl)) ?_
   refine an ?_
   simp only[go_sem]
   first | (rw[BJ hh,hh];rfl) | (rw[mX hh,hh,<-he,List.map_append];rfl) | (rw[mX hh,hh,<-he,List.map_append];exact⟨by simp,rfl⟩) | (rw[mX hh,hh,<-he];rfl)
  ·repeat refine sq ?_
   have hx:l[i]≠x:=by simpa using hb
   have hq:=Cl (x:=x) hs ae
   refine av ?_
   repeat refine sq ?_
   refine rx hΓ [0,1,6,7,8,30] [[34,0],[41,0],[47,0],[98,0]] (fun K' hK=>by simp only[go_sem,aI ae,Int.toNat_natCast,Int.natCast_nonneg,ai,aI ae];(repeat (refine⟨ah,?_⟩));exact hK _ (by simp only[go_sem]) (by simp only[go_sem]<;>rfl)) ?_
   repeat refine sq ?_
   refine au rfl rfl (fun hb=>?_) (fun hb=>?_)
   ·repeat refine sq ?_
    have he:i=bF l x:=by simp at hb;omega
    have hn:=S5 ae he
    have wo:decide (bF l x<i+1)=true:=decide_eq_true (by omega)
    repeat refine sq ?_
    refine rx hΓ [0,1,6,8] [[34,0],[41,0],[47,0],[98,0]] (fun K' hK=>by simp only[go_sem,aI ae,Int.toNat_natCast,Int.natCast_nonneg,ai];(repeat (refine⟨ah,?_⟩));exact hK _ (by simp only[go_sem]) (by simp only[go_sem]<;>rfl)) ?_
    repeat refine sq ?_
    refine rx hΓ [0,1,6,7,8] [[34,0],[41,0],[47,0],[98,0]] (fun K' hK=>by simp only[go_sem,aI ae,Int.toNat_natCast,Int.natCast_nonneg,ai];(repeat (refine⟨ah,?_⟩));exact hK _ (by simp only[go_sem]) (by simp only[go_sem]<;>rfl)) ?_
    repeat refine sq ?_
    refine aL hΓ fun K' hK=>?_
    simp only[go_sem,aI ae,Int.toNat_natCast,Int.natCast_nonneg,ai,aI ae,List.length_append,List.length_map,List.length_cons,List.length_nil]
    repeat (refine⟨ah,?_⟩)
    refine hK _ ?_
    clear K' hK
    simp only[go_sem]
    refine kp [0,1,6,7,8] [[34,0],[41,0],[47,0],[98,0]] ?_
    repeat refine sq ?_
    refine aL hΓ fun K' hK=>?_
    simp only[go_sem,aI ae,Int.toNat_natCast,Int.natCast_nonneg,ai]
    repeat (refine⟨ah,?_⟩)
    refine hK _ ?_
    clear K' hK
    simp only[go_sem]
    refine⟨i+1,⟨ae,?_⟩,by(show l.length-(i+1)<l.length-i;omega),?_⟩
    ·exact fun k hk h=>(Nat.lt_succ_iff_lt_or_eq.1 h).elim (fun h5=>hR k hk h5) (fun h5=>by subst h5;exact hx)
    refine bk [0,1,6,7,8] [[34,0],[41,0],[47,0],[98,0]] ?_ ?_
    ·simp only[go_sem,aD ae hl,Int.natCast_add,Int.natCast_one,<-hn,wo,List.map_append,List.length_append,List.map_cons,List.map_nil,List.length_map,List.length_cons,List.length_nil,Nat.reduceAdd]
    ·simp only[go_sem,aD ae hl,Int.natCast_add,Int.natCast_one,<-hn,wo,List.map_append,List.length_append,List.map_cons,List.map_nil,List.length_map,List.length_cons,List.length_nil,Nat.reduceAdd]
   ·repeat refine sq ?_
    have hn:gu l x i++[l[i]]=gu l x (i+1)/\decide (bF l x<i+1)=decide (bF l x<i):=by
     rcases Nat.lt_or_ge (bF l x) i with hg | hg
     ·exact⟨S0 ae hg,by rw[decide_eq_true hg,decide_eq_true (by omega)]⟩
     ·have eh:i<bF l x:=by simp at hb;omega
      exact⟨SZ ae eh,by rw[decide_eq_false (by omega),decide_eq_false (by omega)]⟩
    obtain⟨hn,wo⟩:=hn
    refine av ?_
    repeat refine sq ?_
    refine aL hΓ fun K' hK=>?_
    simp only[go_sem,aI ae,Int.toNat_natCast,Int.natCast_nonneg,ai,aI ae,List.length_append,List.length_map,List.length_cons,List.length_nil]
    repeat (refine⟨ah,?_⟩)
    refine hK _ ?_
    clear K' hK
    simp only[go_sem]
    refine kp [0,1,6,7,8] [[34,0],[41,0],[47,0],[98,0]] ?_
    repeat refine sq ?_
    refine aL hΓ fun K' hK=>?_
    simp only[go_sem,aI ae,Int.toNat_natCast,Int.natCast_nonneg,ai]
    repeat (refine⟨ah,?_⟩)
    refine hK _ ?_
    clear K' hK
    simp only[go_sem]
    refine⟨i+1,⟨ae,?_⟩,by(show l.length-(i+1)<l.length-i;omega),?_⟩
    ·exact fun k hk h=>(Nat.lt_succ_iff_lt_or_eq.1 h).elim (fun h5=>hR k hk h5) (fun h5=>by subst h5;exact hx)
    refine bk [0,1,6,7,8] [[34,0],[41,0],[47,0],[98,0]] ?_ ?_
    ·simp only[go_sem,aD ae hl,Int.natCast_add,Int.natCast_one,<-hn,wo,List.map_append,List.length_append,List.map_cons,List.map_nil,List.length_map,List.length_cons,List.length_nil,Nat.reduceAdd]
    ·simp only[go_sem,aD ae hl,Int.natCast_add,Int.natCast_one,<-hn,wo,List.map_append,List.length_append,List.map_cons,List.map_nil,List.length_map,List.length_cons,List.length_nil,Nat.reduceAdd]
 ·have aW:i=l.length:=by
   have :¬ (i:Int)<l.length:=by simpa using hb
   omega
  clear hb
  subst aW
  have hh:=YH hR
  have hlen:=Ia (x:=x) hi
  repeat refine sq ?_
  refine b7 ?_
  simp only[go_sem]
  refine kp [1,6,7] [[34,0],[41,0],[47,0],[98,0]] ?_
  repeat refine sq ?_
  refine rx hΓ [1,6,43] [[34,0],[41,0],[47,0],[98,0]] (fun K' hK=>by simp only[go_sem];(repeat (refine⟨ah,?_⟩));exact hK _ (by simp only[go_sem]) (by simp only[go_sem]<;>rfl)) ?_
  repeat refine sq ?_
  refine au rfl rfl (fun hb=>?_) (fun hb=>?_)
  ·repeat refine sq ?_
   have he:=S2 (l:=l) (x:=x) (by simpa using hb)
   repeat refine sq ?_
   refine rx hΓ [6] [[34,0],[41,0],[47,0],[98,0]] (fun K' hK=>by simp only[go_sem,List.length_append,List.length_map,List.length_cons,List.length_nil];(repeat (refine⟨ah,?_⟩));exact hK _ (by simp only[go_sem]) (by simp only[go_sem]<;>rfl)) ?_
   repeat refine sq ?_
   refine rx hΓ [4,5] [[34,0],[41,0],[47,0],[98,0]] (fun K' hK=>by simp only[go_sem];(repeat (refine⟨ah,?_⟩));exact hK _ (by simp only[go_sem]) (by simp only[go_sem]<;>rfl)) ?_
   refine an ?_
   simp only[go_sem]
   first | (rw[BJ hh,hh];rfl) | (rw[mX hh,hh,<-he,List.map_append];rfl) | (rw[mX hh,hh,<-he,List.map_append];exact⟨by simp,rfl⟩) | (rw[mX hh,hh,<-he];rfl)
  ·repeat refine sq ?_
   have he:=S3 (l:=l) (x:=x) (by simpa using hb)
   refine av ?_
   repeat refine sq ?_
   refine rx hΓ [4,5] [[34,0],[41,0],[47,0],[98,0]] (fun K' hK=>by simp only[go_sem];(repeat (refine⟨ah,?_⟩));exact hK _ (by simp only[go_sem]) (by simp only[go_sem]<;>rfl)) ?_
   refine an ?_
   simp only[go_sem]
   first | (rw[BJ hh,hh];rfl) | (rw[mX hh,hh,<-he,List.map_append];rfl) | (rw[mX hh,hh,<-he,List.map_append];exact⟨by simp,rfl⟩) | (rw[mX hh,hh,<-he];rfl)
theorem VX:al Tryz.prog 68 S68:=RC.sound
def fv(l:List Par)(ta:Int)(z:Nat):List Par:=(l.take z).filter fun p=>decide (p.no>ta)
def qQ(s:Stk)(f:Nat)(ta:Int):Stk:=⟨s.ho,s.un.set f (fv (s.un.get f) ta (s.un.get f).length),s.se,s.ta⟩
def di(f:Nat)(s:Stk)(p:Par):Bool:=p.no==s.ta.get f+1
def ku(f:Nat)(s:Stk)(p:Par):Stk:=if di f s p=true then⟨cA s.ho p.pa,s.un,s.se,s.ta.set f (s.ta.get f+1)⟩else s
def eu(f:Nat)(s:Stk)(p:Par):Int:=if di f s p=true then(if bO s.ho p.pa=true then 96 else if 40<(cA s.ho p.pa).length then 2 else 0)else 0
def bA(f:Nat)(ps:List Par)(s0:Stk):Nat->Stk
 | 0=>s0
 |z+1=>ku f (bA f ps s0 z) (ps.getD z default)
def dS(f:Nat)(ps:List Par)(s0:Stk):Nat->Int
 | 0=>0
 |z+1=>if dS f ps s0 z=0 then eu f (bA f ps s0 z) (ps.getD z default)else dS f ps s0 z
def bp(d:Dk)(b:Bag):Stk:=qQ d.now b.fr.toNat b.ta
def ib(d:Dk)(b:Bag):Bool:=fq b&&(b.to==d.me)
def e8(d:Dk)(b:Bag):Int:=if aF d=true then(if ib d b=true then dS b.fr.toNat b.ps (bp d b) b.ps.length else 93)else 92
def e7(d:Dk)(b:Bag):Dk:=if e8 d b=0 then d.setN (bA b.fr.toNat b.ps (bp d b) b.ps.length)else zD
theorem Il{d:Dk}{b:Bag}(h:aF d=false):e7 d b=zD/\e8 d b=92:=by
 have :e8 d b=92:=if_neg (by rw[h];decide)
 exact⟨if_neg (by rw[this];decide),this⟩
theorem Im{d:Dk}{b:Bag}(h:aF d=true)(h1:ib d b=false):e7 d b=zD/\e8 d b=93:=by
 have :e8 d b=93:=by unfold e8;rw[if_pos h,if_neg (by rw[h1];decide)]
 exact⟨if_neg (by rw[this];decide),this⟩
theorem MI(f:Nat)(ps:List Par)(s0:Stk){z:Nat}(h:dS f ps s0 z≠0):∀ k,dS f ps s0 (z+k)=dS f ps s0 z
 | 0=>rfl
 |k+1=>by
  have :=MI f ps s0 h k
  rw[<-Nat.add_assoc]
  show (if dS f ps s0 (z+k)=0 then _ else _)=_
  rw[this,if_neg h]
theorem B6{d:Dk}{b:Bag}(h:aF d=true)(h1:ib d b=true){i:Nat}(hi:i<b.ps.length){e:Int}(h2:dS b.fr.toNat b.ps (bp d b) i=0)(h3:eu b.fr.toNat (bA b.fr.toNat b.ps (bp d b) i) (b.ps.getD i default)=e)(he:e≠0):e7 d b=zD/\e8 d b=e:=by
 have h4:dS b.fr.toNat b.ps (bp d b) (i+1)=e:=by
  show (if dS b.fr.toNat b.ps (bp d b) i=0 then _ else _)=_
  rw[if_pos h2,h3]
 have h5:=MI b.fr.toNat b.ps (bp d b) (by rw[h4];exact he) (b.ps.length-(i+1))
 rw[show i+1+(b.ps.length-(i+1))=b.ps.length by omega,h4]at h5
 have :e8 d b=e:=by unfold e8;rw[if_pos h,if_pos h1,h5]
 exact⟨if_neg (by rw[this];exact he),this⟩
theorem B5{d:Dk}{b:Bag}(h:aF d=true)(h1:ib d b=true)(h2:dS b.fr.toNat b.ps (bp d b) b.ps.length=0):e7 d b=d.setN (bA b.fr.toNat b.ps (bp d b) b.ps.length)/\e8 d b=0:=by
 have :e8 d b=0:=by unfold e8;rw[if_pos h,if_pos h1,h2]
 exact⟨if_pos this,this⟩
theorem Gz{l:List Par}{ta:Int}{z:Nat}(h:z<l.length):fv l ta (z+1)=if decide (l[z].no>ta)=true then fv l ta z++[l[z]]else fv l ta z:=by
 unfold fv
 rw[List.take_add_one,List.getElem?_eq_getElem h,List.filter_append]
 show _++List.filter _ [l[z]]=_
 by_cases hp:decide (l[z].no>ta)=true
 ·rw[if_pos hp]
  have :List.filter (fun p:Par=>decide (p.no>ta)) [l[z]]=[l[z]]:=by simp only[List.filter,hp]
  rw[this]
 ·rw[if_neg hp]
  have rH:decide (l[z].no>ta)=false:=by simpa using hp
  have :List.filter (fun p:Par=>decide (p.no>ta)) [l[z]]=[]:=by simp only[List.filter,rH]
  rw[this,List.append_nil]
theorem P2{l:List Par}{ta:Int}{z:Nat}(h:z<l.length)(hp:decide (l[z].no>ta)=true):fv l ta (z+1)=fv l ta z++[l[z]]:=by rw[Gz h,if_pos hp]
theorem P3{l:List Par}{ta:Int}{z:Nat}(h:z<l.length)(hp:decide (l[z].no>ta)=false):fv l ta (z+1)=fv l ta z:=by rw[Gz h,if_neg (by rw[hp];decide)]
theorem GA(l:List Par)(ta:Int)(z:Nat):(fv l ta z).length<=l.length:=by
 unfold fv
 refine Nat.le_trans (List.length_filter_le _ _) ?_
 rw[List.length_take];omega
theorem bj.set_self{α:Type}(s:bj α)(i:Nat)(hi:i<6):s.set i (s.get i)=s:=
 ix (P:=fun i=>s.set i (s.get i)=s) rfl rfl rfl rfl rfl rfl hi
theorem qm{b:Bag}(h:fq b=true):0<=b.fr/\b.fr<6/\b.fr.toNat<6/\b.ps.length<=40/\(∀ p∈b.ps,1<=p.no/\p.no<=99999/\1<=p.pa/\p.pa<=999)/\0<=b.ta/\b.ta<=99999:=by
 unfold fq at h
 simp only[Bool.and_eq_true]at h
 obtain⟨⟨⟨⟨h1,h2⟩,h3⟩,h4⟩,h5⟩:=h
 have h1:=dQ.1 h1
 have h5:=dQ.1 h5
 unfold cf at h4
 rw[Bool.and_eq_true,decide_eq_true_eq,jf]at h4
 refine⟨by omega,by omega,by omega,h4.2,fun p hp=>?_,h5.1,h5.2⟩
 obtain⟨i,hi,rfl⟩:=List.getElem_of_mem hp
 have :=h4.1 i hi
 unfold fI at this
 rw[getD_at hi]at this
 simp only[Bool.and_eq_true]at this
 have a:=dQ.1 this.1.1
 have c:=dQ.1 this.1.2
 exact⟨a.1,a.2,c.1,c.2⟩
structure nN (f:Nat) (s:Stk):Prop where
 ri:s.ho.Pairwise (· < ·)
 len:s.ho.length<=40
 t0:0<=s.ta.get f
 t1:s.ta.get f<=99999
theorem Ku{l:List Int}{x:Int}(hs:l.Pairwise (· < ·))(hh:bO l x=false):(cA l x).Pairwise (· < ·):=by
 have rR:=fun {i:Nat} (hi:i<l.length)=>Cl (x:=x) hs hi
 have hle:=yx l x
 have ht:∀ a∈l.take (bF l x),a<x:=by
  intro a ha
  obtain⟨i,hi,rfl⟩:=List.getElem_of_mem ha
  rw[List.length_take]at hi
  rw[List.getElem_take]
  exact(rR (by omega)).2 (by omega)
 have hd:∀ a∈l.drop (bF l x),x<a:=by
  intro a ha
  obtain⟨i,hi,rfl⟩:=List.getElem_of_mem ha
  rw[List.length_drop]at hi
  rw[List.getElem_drop]
  have h1:¬ l[bF l x+i] <x:=fun h=>by have:=(rR (by omega)).1 h;omega
  have h2:l[bF l x+i]≠x:=fun h=>by have:=LG (by omega) h;rw[hh]at this;cases this
  omega
 unfold cA
 rw[List.append_assoc,List.pairwise_append]
 refine⟨hs.sublist (List.take_sublist _ _),?_,fun a ha b hb=>?_⟩
 ·rw[List.pairwise_append]
  refine⟨by simp,hs.sublist (List.drop_sublist _ _),fun a ha b hb=>?_⟩
  simp only[List.mem_cons,List.not_mem_nil,or_false]at ha
  subst ha
  exact hd b hb
 ·rcases List.mem_append.1 hb with h1 | h1
  ·simp only[List.mem_cons,List.not_mem_nil,or_false]at h1
   subst h1
   exact ht a ha
  ·have:=ht a ha
   have :=hd b h1
   omega
theorem Ti{f:Nat}(hf:f<6){s:Stk}{p:Par}(h:nN f s)(hp:p.no<=99999)(he:eu f s p=0):nN f (ku f s p):=by
 unfold ku
 unfold eu at he
 by_cases hn:di f s p=true
 ·rw[if_pos hn]at he |-
  by_cases hh:bO s.ho p.pa=true
  ·rw[if_pos hh]at he;cases he
  ·rw[if_neg hh]at he
   by_cases hl:40<(cA s.ho p.pa).length
   ·rw[if_pos hl]at he;cases he
   ·have hg:=(s.ta.get_set (i:=f) (j:=f) (s.ta.get f+1) hf).1
    unfold di at hn
    have dJ:p.no=s.ta.get f+1:=by simpa using hn
    exact⟨Ku h.ri (by simpa using hh),by show (cA s.ho p.pa).length<=40;omega,by show 0<=(s.ta.set f _).get f;rw[hg];have:=h.t0;omega,by show (s.ta.set f _).get f<=99999;rw[hg];omega⟩
 ·rw[if_neg hn];exact h
theorem B2{f:Nat}(hf:f<6){ps:List Par}{s0:Stk}(h0:nN f s0)(hp:∀ p∈ps,p.no<=99999):∀ {z:Nat},z<=ps.length->dS f ps s0 z=0->nN f (bA f ps s0 z)
 | 0,_,_=>h0
 |z+1,hz,he=>by
  have mm:(if dS f ps s0 z=0 then eu f (bA f ps s0 z) (ps.getD z default)else dS f ps s0 z)=0:=he
  by_cases h1:dS f ps s0 z=0
  ·rw[if_pos h1]at mm
   have hg:ps.getD z default=ps[z]'(by omega):=getD_at (by omega)
   exact Ti hf (B2 hf h0 hp (by omega) h1) (by rw[hg];exact hp _ (List.getElem_mem _)) mm
  ·rw[if_neg h1]at mm;exact absurd mm h1
theorem If{d:Dk}{f:Nat}{ta:Int}(hf:f<6)(h:aF d=true):nN f (qQ d.now f ta):=by
 unfold aF gW c9 at h
 simp only[Bool.and_eq_true]at h
 have hp:=h.1.1.1.1.1.1.2
 have ha:=jf.1 h.1.1.2 f hf
 unfold fU at ha
 simp only[Bool.and_eq_true]at ha
 have ht:=dQ.1 ha.1.1.2
 exact⟨BV hp,(tq hp).1,ht.1,ht.2⟩
theorem Ib(d:Dk)(nm:Name)(n:Nat){f:Nat}(hf:f<6):List.take (2+f) (List.map D.v (ak d))++[D.msl nm n]++List.drop (2+f+1) (List.map D.v (ak d))=bI d f (.v (fV d.now.ho)) nm n (d.now.se.get f):=
 ix (P:=fun f=>List.take (2+f) (List.map D.v (ak d))++[D.msl nm n]++List.drop (2+f+1) (List.map D.v (ak d))=bI d f (.v (fV d.now.ho)) nm n (d.now.se.get f)) rfl rfl rfl rfl rfl rfl hf
@[go_sem] theorem agu{dom:Name->Bool}(d:Dk)(i:Nat):D.closL dom (List.take i (List.map D.v (ak d))++[D.nilsl]++List.drop (i+1) (List.map D.v (ak d)))=true:=by
  rw[qg]
  intro x hx
  simp only[List.mem_append,List.mem_cons,List.not_mem_nil,or_false]at hx
  rcases hx with(hx | hx) | hx
  ·exact qg.1 (Ns dom (ak d) i) x hx
  ·subst hx;rfl
  ·exact qg.1 (Nv dom (ak d) (i+1)) x hx
theorem E'(d:Dk){f:Nat}(hf:f<6):(List.map D.v (ak d)).getD (14+f) .any=.v (vInt (d.now.ta.get f)):=
 ix (P:=fun f=>(List.map D.v (ak d)).getD (14+f) .any=.v (vInt (d.now.ta.get f))) rfl rfl rfl rfl rfl rfl hf
@[go_sem] theorem afY(d:Dk):(List.map D.v (ak d)).getD 1 .any=.v (fV d.now.ho):=rfl
@[go_sem] theorem afT(d:Dk)(l:List Int):List.take 1 (List.map D.v (ak d))++[.v (.sl (l.map vInt))]++List.drop 2 (List.map D.v (ak d))=List.map D.v (ak (d.setN ⟨l,d.now.un,d.now.se,d.now.ta⟩)):=rfl
theorem Z0(d:Dk)(x:Int){f:Nat}(hf:f<6):List.take (14+f) (List.map D.v (ak d))++[.v (vInt x)]++List.drop (14+f+1) (List.map D.v (ak d))=List.map D.v (ak (d.setN ⟨d.now.ho,d.now.un,d.now.se,d.now.ta.set f x⟩)):=
 ix (P:=fun f=>List.take (14+f) (List.map D.v (ak d))++[.v (vInt x)]++List.drop (14+f+1) (List.map D.v (ak d))=List.map D.v (ak (d.setN ⟨d.now.ho,d.now.un,d.now.se,d.now.ta.set f x⟩))) rfl rfl rfl rfl rfl rfl hf
@[go_sem] theorem afi(d:Dk)(s:Stk):(d.setN s).now=s:=rfl
@[go_sem] theorem afh(d:Dk)(s s':Stk):(d.setN s).setN s'=d.setN s':=rfl
theorem Ie(d:Dk)(nm:Name)(n:Nat)(ta:Int){f:Nat}(hf:f<6):(bI d f (.v (fV d.now.ho)) nm n (d.now.se.get f)).set (2+f) (.v (.sl ((fv (d.now.un.get f) ta (d.now.un.get f).length).map encPa)))=List.map D.v (ak (d.setN (qQ d.now f ta))):=by
 rw[FG d d.now.ho nm n (d.now.se.get f) _ hf,bj.set_self _ _ hf]
 rfl
def uA(d:Dk)(b:Bag):Bool:=(lE b != 0)||(b.to != d.me)
theorem zY(d:Dk)(b:Bag):uA d b=!ib d b:=by
 unfold uA ib lE
 have :(b.to != d.me)=!(b.to==d.me):=rfl
 rw[this]
 cases fq b<;>cases (b.to==d.me)<;>rfl
theorem Bk(f:Nat)(ps:List Par)(s0:Stk){i:Nat}(hi:i<ps.length)(hn:di f (bA f ps s0 i) ps[i]=true):bA f ps s0 (i+1)=⟨cA (bA f ps s0 i).ho ps[i].pa,(bA f ps s0 i).un,(bA f ps s0 i).se,(bA f ps s0 i).ta.set f ((bA f ps s0 i).ta.get f+1)⟩:=by
 show ku f (bA f ps s0 i) (ps.getD i default)=_
 rw[getD_at hi]
 exact if_pos hn
theorem GV(f:Nat)(ps:List Par)(s0:Stk){i:Nat}(hi:i<ps.length)(hn:di f (bA f ps s0 i) ps[i]=false):bA f ps s0 (i+1)=bA f ps s0 i:=by
 show ku f (bA f ps s0 i) (ps.getD i default)=_
 rw[getD_at hi]
 exact if_neg (by rw[hn];decide)
theorem Ig(f:Nat)(s:Stk)(p:Par)(hn:di f s p=false):eu f s p=0:=if_neg (by rw[hn];decide)
theorem B4(f:Nat)(s:Stk)(p:Par)(hn:di f s p=true)(hh:bO s.ho p.pa=true):eu f s p=96:=by unfold eu;rw[if_pos hn,if_pos hh]
theorem B3(f:Nat)(s:Stk)(p:Par)(hn:di f s p=true)(hh:bO s.ho p.pa=false)(hl:40<(cA s.ho p.pa).length):eu f s p=2:=by unfold eu;rw[if_pos hn,if_neg (by rw[hh];decide),if_pos hl]
theorem Ih(f:Nat)(s:Stk)(p:Par)(hn:di f s p=true)(hh:bO s.ho p.pa=false)(hl:¬ 40<(cA s.ho p.pa).length):eu f s p=0:=by unfold eu;rw[if_pos hn,if_neg (by rw[hh];decide),if_neg hl]
theorem z7{f:Nat}{ps:List Par}{s0:Stk}{i:Nat}(hi:i<ps.length)(h:dS f ps s0 i=0)(he:eu f (bA f ps s0 i) ps[i]=0):dS f ps s0 (i+1)=0:=by
 show (if dS f ps s0 i=0 then eu f (bA f ps s0 i) (ps.getD i default)else _)=0
 rw[if_pos h,getD_at hi,he]
noncomputable def OR:List (Nat×Spec):=[(39,S39),(41,S41),(57,S57),(68,S68)]
theorem ab2:∀ f s,tbl OR f=some s->al Tryz.prog f s:=tc tN<|tc Wa<|tc yL<|tc VX<|tn
attribute [go_sem] OR
noncomputable def P17:PSpec:=p2 bu jw (fun d _=>b8 d) (fun d b=>.tup [eK (e7 d b),vInt (e8 d b)]) false
noncomputable def S17:Spec:=P17.toSpec
attribute [go_sem] P17 S17
set_option maxRecDepth 20000 in
set_option maxHeartbeats 4000000 in
theorem R8:aQ Tryz.prog 17 P17:=by
 refine w2 (rs:=[.cell 4 32,.tmp 5]) Tryz.func17 Tryz.ntmps17 (by rfl) (by kernel_rfl) (by decide) (fun h=>by cases h) ⟨_,rfl,lb rfl,fun d b hp hw=>?_⟩
 have hP:=ba
 simp only[jw,bu]at hw |-
 have hΓ:=ab2
 have hs:b8 d:=hp
 repeat refine sq ?_
 refine rx hΓ [2,3,4] [[2,0],[3,0],[4,0],[75,0]] (fun K' hK=>by simp only[go_sem];(repeat (refine⟨ah,?_⟩));exact hK _ (by simp only[go_sem]) (by simp only[go_sem]<;>rfl)) ?_
 refine aE (ft [4,0] _ (ak zD) rfl rfl [2,3,4] [[2,0],[3,0],[4,0],[75,0]] ?_ rfl) ?_
 ·simp only[go_sem]
 simp only[go_sem]
 refine aE (bz [2,0] (ak d) rfl [2,3,4] [[2,0],[3,0],[4,0],[75,0]] ?_ rfl) ?_
 ·simp only[go_sem]
 simp only[go_sem]
 refine aE (bz [3,0] (aP b) rfl [2,3,4] [[2,0],[3,0],[4,0],[75,0]] ?_ rfl) ?_
 ·simp only[go_sem]
 simp only[go_sem]
 repeat refine sq ?_
 refine rx hΓ [2,3,4,13] [[2,0],[3,0],[4,0],[75,0]] (fun K' hK=>by simp only[go_sem];(repeat (refine⟨ah,?_⟩));exact hK _ (by simp only[go_sem]) (by simp only[go_sem]<;>rfl)) ?_
 repeat refine sq ?_
 refine au rfl rfl (fun hb=>?_) (fun hb=>?_)
 ·repeat refine sq ?_
  have hd:=kY hb
  have hq:=Il (b:=b) hd
  repeat refine sq ?_
  refine rx hΓ [4,5] [[4,0],[75,0]] (fun K' hK=>by simp only[go_sem];(repeat (refine⟨ah,?_⟩));exact hK _ (by simp only[go_sem]) (by simp only[go_sem]<;>rfl)) ?_
  refine an ?_
  simp only[go_sem]
  first | (rw[hq.1,hq.2];done) | (rw[hq.1,hq.2];rfl)
 ·repeat refine sq ?_
  have hd:=kX hb
  refine av ?_
  repeat refine sq ?_
  refine rx hΓ [2,3,4,24] [[2,0],[3,0],[4,0],[75,0]] (fun K' hK=>by simp only[go_sem,Nat.add_zero];(repeat (refine⟨ah,?_⟩));exact hK _ (by simp only[go_sem]) (by simp only[go_sem]<;>rfl)) ?_
  repeat refine sq ?_
  refine au rfl rfl (fun hb=>?_) (fun hb=>?_)
  ·repeat refine sq ?_
   have h1:ib d b=false:=by have h4:=zY d b;unfold uA at h4;rw[hb]at h4;simpa using h4.symm
   have hq:=Im hd h1
   repeat refine sq ?_
   refine rx hΓ [4,5] [[4,0],[75,0]] (fun K' hK=>by simp only[go_sem];(repeat (refine⟨ah,?_⟩));exact hK _ (by simp only[go_sem]) (by simp only[go_sem]<;>rfl)) ?_
   refine an ?_
   simp only[go_sem]
   first | (rw[hq.1,hq.2];done) | (rw[hq.1,hq.2];rfl)
  ·repeat refine sq ?_
   have h1:ib d b=true:=by have h4:=zY d b;unfold uA at h4;rw[hb]at h4;simpa using h4.symm
   have gZ:fq b=true:=by unfold ib at h1;rw[Bool.and_eq_true]at h1;exact h1.1
   obtain⟨iW,kK,hf,bV,vS,Da,C'⟩:=qm gZ
   have tV:=(qY hd).unl b.fr.toNat hf
   have hl:(d.now.un.get b.fr.toNat).length<=maxLen:=by unfold maxLen;omega
   have dR:b.ps.length<=maxLen:=by unfold maxLen;omega
   have kP:=If (ta:=b.ta) hf hd
   have hI:=fun {z:Nat}=>B2 (z:=z) hf kP (fun p hp=>(vS p hp).2.1)
   refine av ?_
   repeat refine sq ?_
   refine rx hΓ [2,3,4,6] [[2,0],[3,0],[4,0],[6,0],[75,0],[98,0]] (fun K' hK=>by simp only[go_sem,hs];(repeat (refine⟨ah,?_⟩));exact hK _ (by simp only[go_sem]) (by simp only[go_sem]<;>rfl)) ?_
   repeat refine sq ?_
   refine rx hΓ [2,3,4,6] [[2,0],[3,0],[4,0],[6,0],[75,0],[98,0]] (fun K' hK=>by simp only[go_sem,iW,kK];(repeat (refine⟨ah,?_⟩));exact hK _ (by simp only[go_sem]) (by simp only[go_sem]<;>rfl)) ?_
   refine aE (A7 [6,0] [98,0] (2+b.fr.toNat) 2 _ rfl (yw (by rw[List.length_map,mw];omega)) rfl [2,3,4,6] [[2,0],[3,0],[4,0],[6,0],[98,0]] ?_ rfl) ?_
   ·simp only[go_sem,py (show 2+b.fr.toNat<(List.map D.v (ak d)).length by rw[List.length_map,mw];omega),Ib d _ _ hf]
   simp only[go_sem,py (show 2+b.fr.toNat<(List.map D.v (ak d)).length by rw[List.length_map,mw];omega),Ib d _ _ hf]
   repeat refine sq ?_
   refine rx hΓ [2,3,4,6,7] [[2,0],[3,0],[4,0],[6,0],[75,0],[98,0]] (fun K' hK=>by simp only[go_sem];(repeat (refine⟨ah,?_⟩));exact hK _ (by simp only[go_sem]) (by simp only[go_sem]<;>rfl)) ?_
   repeat refine sq ?_
   refine aO ?_
   repeat refine sq ?_
   refine cv (fun z:Nat=>[(7,⟨true,.v (vInt z)⟩)]) (fun z=>[([6,0],.box (bI d b.fr.toNat (.v (fV d.now.ho)) [98,0] (fv (d.now.un.get b.fr.toNat) b.ta z).length (d.now.se.get b.fr.toNat))),([98,0],.arr 2 ((fv (d.now.un.get b.fr.toNat) b.ta z).map encPa))]) (fun z=>z<=(d.now.un.get b.fr.toNat).length) (fun z=>(d.now.un.get b.fr.toNat).length-z) 0 ?_ ?_ ?_ ?_
   ·exact Nat.zero_le _
   ·rfl
   ·rfl
   rintro i hi
   simp only[go_sem]
   repeat refine sq ?_
   refine rx hΓ [2,3,4,6,7,41] [[2,0],[3,0],[4,0],[6,0],[75,0],[98,0]] (fun K' hK=>by simp only[go_sem,wO d hf,iW,kK];(repeat (refine⟨ah,?_⟩));exact hK _ (by simp only[go_sem]) (by simp only[go_sem]<;>rfl)) ?_
   repeat refine sq ?_
   refine au rfl rfl (fun hb=>?_) (fun hb=>?_)
   ·have ae:i<(d.now.un.get b.fr.toNat).length:=by simpa using hb
    have ai:(i:Int)<(d.now.un.get b.fr.toNat).length:=by omega
    clear hb
    have fi:=GA (d.now.un.get b.fr.toNat) b.ta i
    repeat refine sq ?_
    refine av ?_
    repeat refine sq ?_
    refine aO ?_
    repeat refine sq ?_
    refine dx hΓ hP [[],[0],[],[2],[0,1,2,3],[0,1,2,3,4],[],[0,1,2,3,4,5,6],[0,1,2,3,4,5,6,7],[0,1,2,3,4,5,6,7,8],[],[10],[0,1,2,3,4,5,6,7,8,9,10,11]] [2,3,4,6,7,56] [[2,0],[3,0],[4,0],[6,0],[75,0],[98,0]] (by kernel_rfl) (fun K' hK=>by simp only[go_sem,aI ae,Int.toNat_natCast,Int.natCast_nonneg,ai,wO d hf,iW,kK];(repeat (refine⟨ah,?_⟩));(first | refine⟨by rfl,?_⟩ | skip);exact hK _ (by simp only[go_sem]) (by simp only[go_sem]<;>rfl)) ?_
    repeat refine sq ?_
    refine au rfl rfl (fun hb=>?_) (fun hb=>?_)
    ·repeat refine sq ?_
     have nk:decide ((d.now.un.get b.fr.toNat)[i].no>b.ta)=true:=by simpa using hb
     have fe:=P2 ae nk
     repeat refine sq ?_
     refine km hΓ hP [[],[0],[],[2],[],[4],[2,3,4,5],[2,3,4,5,6],[],[8],[],[10],[8,9,10,11],[8,9,10,11,12],[],[8,9,10,11,12,13,14],[8,9,10,11,12,13,14,15],[8,9,10,11,12,13,14,15,16],[2,3,4,5,6,7,8,9,10,11,12,13,14,15,16,17],[],[19],[0,1,2,3,4,5,6,7,8,9,10,11,12,13,14,15,16,17,18,19,20],[0,1,2,3,4,5,6,7,8,9,10,11,12,13,14,15,16,17,18,19,20,21]] (by kernel_rfl) fun K' hK=>?_
     simp only[go_sem,aI ae,Int.toNat_natCast,Int.natCast_nonneg,ai,wO d hf,iW,kK,Ap d _ _ _ _ hf,FF d _ _ _ _ _ hf]
     repeat (refine⟨ah,?_⟩)
     first | refine⟨by rfl,?_⟩ | skip
     refine hK _ ?_
     clear K' hK
     simp only[go_sem]
     refine kp [2,3,4,6,7] [[2,0],[3,0],[4,0],[6,0],[75,0],[98,0]] ?_
     repeat refine sq ?_
     refine aL hΓ fun K' hK=>?_
     simp only[go_sem,aI ae,Int.toNat_natCast,Int.natCast_nonneg,ai]
     repeat (refine⟨ah,?_⟩)
     refine hK _ ?_
     clear K' hK
     simp only[go_sem]
     refine⟨i+1,ae,by(show (d.now.un.get b.fr.toNat).length-(i+1)<(d.now.un.get b.fr.toNat).length-i;omega),?_⟩
     refine bk [2,3,4,6,7] [[2,0],[3,0],[4,0],[6,0],[75,0],[98,0]] ?_ ?_
     ·simp only[go_sem,aD ae hl,Int.natCast_add,Int.natCast_one,fe,List.map_append,List.length_append,List.map_cons,List.map_nil,List.length_cons,List.length_nil]
     ·simp only[go_sem,aD ae hl,Int.natCast_add,Int.natCast_one,fe,List.map_append,List.length_append,List.map_cons,List.map_nil,List.length_cons,List.length_nil]
    ·repeat refine sq ?_
     have nk:decide ((d.now.un.get b.fr.toNat)[i].no>b.ta)=false:=by simpa using hb
     have fe:=P3 ae nk
     refine av ?_
     refine ct ?_
     simp only[go_sem]
     refine kp [2,3,4,6,7] [[2,0],[3,0],[4,0],[6,0],[75,0],[98,0]] ?_
     repeat refine sq ?_
     refine aL hΓ fun K' hK=>?_
     simp only[go_sem,aI ae,Int.toNat_natCast,Int.natCast_nonneg,ai]
     repeat (refine⟨ah,?_⟩)
     refine hK _ ?_
     clear K' hK
     simp only[go_sem]
     refine⟨i+1,ae,by(show (d.now.un.get b.fr.toNat).length-(i+1)<(d.now.un.get b.fr.toNat).length-i;omega),?_⟩
     refine bk [2,3,4,6,7] [[2,0],[3,0],[4,0],[6,0],[75,0],[98,0]] ?_ ?_
     ·simp only[go_sem,aD ae hl,Int.natCast_add,Int.natCast_one,fe,List.map_append,List.length_append,List.map_cons,List.map_nil,List.length_cons,List.length_nil]
     ·simp only[go_sem,aD ae hl,Int.natCast_add,Int.natCast_one,fe,List.map_append,List.length_append,List.map_cons,List.map_nil,List.length_cons,List.length_nil]
   ·have aW:i=(d.now.un.get b.fr.toNat).length:=by
     have :¬ (i:Int)<(d.now.un.get b.fr.toNat).length:=by simpa using hb
     omega
    clear hb
    subst aW
    repeat refine sq ?_
    refine b7 ?_
    simp only[go_sem]
    refine kp [3,4,6] [[3,0],[4,0],[6,0],[75,0],[98,0]] ?_
    refine aE (ed [6,0] [98,0] (2+b.fr.toNat) _ _ _ _ rfl (As _ _ _ _ _ hf) rfl (by simp only[List.length_map]) [3,4,6] [[3,0],[4,0],[6,0]] ?_ rfl) ?_
    ·simp only[go_sem,Ie d _ _ _ hf]
    simp only[go_sem,Ie d _ _ _ hf]
    repeat refine sq ?_
    refine rx hΓ [3,4,6,8] [[3,0],[4,0],[6,0],[75,0],[98,0]] (fun K' hK=>by simp only[go_sem];(repeat (refine⟨ah,?_⟩));exact hK _ (by simp only[go_sem]) (by simp only[go_sem]<;>rfl)) ?_
    repeat refine sq ?_
    refine aO ?_
    repeat refine sq ?_
    refine cv (fun z:Nat=>[(8,⟨true,.v (vInt z)⟩)]) (fun z=>[([6,0],.box ((ak (d.setN (bA b.fr.toNat b.ps (bp d b) z))).map .v))]) (fun z=>z<=b.ps.length/\dS b.fr.toNat b.ps (bp d b) z=0) (fun z=>b.ps.length-z) 0 ?_ ?_ ?_ ?_
    ·exact⟨Nat.zero_le _,rfl⟩
    ·rfl
    ·rfl
    rintro i ⟨hi,hR⟩
    simp only[go_sem]
    repeat refine sq ?_
    refine rx hΓ [3,4,6,8,83] [[3,0],[4,0],[6,0],[75,0],[98,0]] (fun K' hK=>by simp only[go_sem];(repeat (refine⟨ah,?_⟩));exact hK _ (by simp only[go_sem]) (by simp only[go_sem]<;>rfl)) ?_
    repeat refine sq ?_
    refine au rfl rfl (fun hb=>?_) (fun hb=>?_)
    ·have bL:i<b.ps.length:=by simpa using hb
     have gU:(i:Int)<b.ps.length:=by omega
     clear hb
     have oL:nN b.fr.toNat (bA b.fr.toNat b.ps (bp d b) i):=hI (Nat.le_of_lt bL) hR
     have vR:=oL.ri;have Zx:=oL.len;have l9:=oL.t0;have KF:=oL.t1
     have L0:(bA b.fr.toNat b.ps (bp d b) i).ho.length<=1000:=by omega
     have w1:IntKind.i64.wrap ((bA b.fr.toNat b.ps (bp d b) i).ta.get b.fr.toNat+1)=(bA b.fr.toNat b.ps (bp d b) i).ta.get b.fr.toNat+1:=wrap_i64 (by omega) (by omega)
     repeat refine sq ?_
     refine av ?_
     repeat refine sq ?_
     refine aO ?_
     repeat refine sq ?_
     refine dx hΓ hP [[],[0],[],[0,1,2],[0,1,2,3],[0,1,2,3,4],[],[6],[],[8],[6,7,8,9],[6,7,8,9,10],[6,7,8,9,10,11],[0,1,2,3,4,5,6,7,8,9,10,11,12]] [3,4,6,8,99] [[3,0],[4,0],[6,0],[75,0],[98,0]] (by kernel_rfl) (fun K' hK=>by simp only[go_sem,aI bL,Int.toNat_natCast,Int.natCast_nonneg,gU,E' _ hf,iW,kK,w1];(repeat (refine⟨ah,?_⟩));(first | refine⟨by rfl,?_⟩ | skip);exact hK _ (by simp only[go_sem]) (by simp only[go_sem]<;>rfl)) ?_
     repeat refine sq ?_
     refine au rfl rfl (fun hb=>?_) (fun hb=>?_)
     ·repeat refine sq ?_
      have fe:di b.fr.toNat (bA b.fr.toNat b.ps (bp d b) i) b.ps[i]=false:=by unfold di;simpa using hb
      have nu:=GV _ _ _ bL fe
      have eT:=z7 bL hR (Ig _ _ _ fe)
      refine b7 ?_
      simp only[go_sem]
      refine kp [3,4,6,8] [[3,0],[4,0],[6,0],[75,0],[98,0]] ?_
      repeat refine sq ?_
      refine aL hΓ fun K' hK=>?_
      simp only[go_sem,aI bL,Int.toNat_natCast,Int.natCast_nonneg,gU]
      repeat (refine⟨ah,?_⟩)
      refine hK _ ?_
      clear K' hK
      simp only[go_sem]
      refine⟨i+1,⟨bL,?_⟩,by(show b.ps.length-(i+1)<b.ps.length-i;omega),?_⟩
      ·exact eT
      refine bk [3,4,6,8] [[3,0],[4,0],[6,0],[75,0],[98,0]] ?_ ?_
      ·simp only[go_sem,aD bL dR,Int.natCast_add,Int.natCast_one,nu]
      ·simp only[go_sem,aD bL dR,Int.natCast_add,Int.natCast_one,nu]
     ·repeat refine sq ?_
      have fe:di b.fr.toNat (bA b.fr.toNat b.ps (bp d b) i) b.ps[i]=true:=by unfold di;simpa using hb
      refine av ?_
      repeat refine sq ?_
      refine dx hΓ hP [[],[0],[0,1],[],[3],[],[3,4,5],[3,4,5,6],[3,4,5,6,7],[0,1,2,3,4,5,6,7,8],[0,1,2,3,4,5,6,7,8,9],[0,1,2,3,4,5,6,7,8,9,10],[0,1,2,3,4,5,6,7,8,9,10],[0,1,2,3,4,5,6,7,8,9,10,11],[0,1,2,3,4,5,6,7,8,9,10,11,12,13]] [3,4,6,8,9,10] [[3,0],[4,0],[6,0],[75,0],[98,0]] (by kernel_rfl) (fun K' hK=>by simp only[go_sem,aI bL,Int.toNat_natCast,Int.natCast_nonneg,gU,E' _ hf,iW,kK,w1];(repeat (refine⟨by first | exact⟨vR,L0⟩ | exact ah,?_⟩));(first | refine⟨by rfl,?_⟩ | skip);exact hK _ (by simp only[go_sem]) (by simp only[go_sem]<;>rfl)) ?_
      repeat refine sq ?_
      refine rx hΓ [3,4,6,8,9,114] [[3,0],[4,0],[6,0],[75,0],[98,0]] (fun K' hK=>by simp only[go_sem,aI bL,Int.toNat_natCast,Int.natCast_nonneg,gU];(repeat (refine⟨ah,?_⟩));exact hK _ (by simp only[go_sem]) (by simp only[go_sem]<;>rfl)) ?_
      repeat refine sq ?_
      refine au rfl rfl (fun hb=>?_) (fun hb=>?_)
      ·repeat refine sq ?_
       have hh:bO (bA b.fr.toNat b.ps (bp d b) i).ho b.ps[i].pa=true:=by simpa using hb
       have hq:=B6 (e:=96) hd h1 bL hR (by rw[getD_at bL];exact B4 _ _ _ fe hh) (by decide)
       repeat refine sq ?_
       refine rx hΓ [4,5] [[4,0],[75,0]] (fun K' hK=>by simp only[go_sem,aI bL,Int.toNat_natCast,Int.natCast_nonneg,gU];(repeat (refine⟨ah,?_⟩));exact hK _ (by simp only[go_sem]) (by simp only[go_sem]<;>rfl)) ?_
       refine an ?_
       simp only[go_sem]
       first | (rw[hq.1,hq.2];done) | (rw[hq.1,hq.2];rfl)
      ·repeat refine sq ?_
       have hh:bO (bA b.fr.toNat b.ps (bp d b) i).ho b.ps[i].pa=false:=by simpa using hb
       have XC:=mX hh
       simp only[XC]
       refine av ?_
       repeat refine sq ?_
       refine rx hΓ [3,4,6,8,9,118] [[3,0],[4,0],[6,0],[75,0],[98,0]] (fun K' hK=>by simp only[go_sem,aI bL,Int.toNat_natCast,Int.natCast_nonneg,gU,List.length_map];(repeat (refine⟨ah,?_⟩));exact hK _ (by simp only[go_sem]) (by simp only[go_sem]<;>rfl)) ?_
       repeat refine sq ?_
       refine au rfl rfl (fun hb=>?_) (fun hb=>?_)
       ·repeat refine sq ?_
        have DK:40<(cA (bA b.fr.toNat b.ps (bp d b) i).ho b.ps[i].pa).length:=by have:=of_decide_eq_true hb;omega
        have hq:=B6 (e:=2) hd h1 bL hR (by rw[getD_at bL];exact B3 _ _ _ fe hh DK) (by decide)
        repeat refine sq ?_
        refine rx hΓ [4,5] [[4,0],[75,0]] (fun K' hK=>by simp only[go_sem,aI bL,Int.toNat_natCast,Int.natCast_nonneg,gU];(repeat (refine⟨ah,?_⟩));exact hK _ (by simp only[go_sem]) (by simp only[go_sem]<;>rfl)) ?_
        refine an ?_
        simp only[go_sem]
        first | (rw[hq.1,hq.2];done) | (rw[hq.1,hq.2];rfl)
       ·repeat refine sq ?_
        have DK:¬ 40<(cA (bA b.fr.toNat b.ps (bp d b) i).ho b.ps[i].pa).length:=by have:=of_decide_eq_false hb;omega
        have nu:=Bk _ _ _ bL fe
        have eT:=z7 bL hR (Ih _ _ _ fe hh DK)
        refine av ?_
        repeat refine sq ?_
        refine rx hΓ [3,4,6,8] [[3,0],[4,0],[6,0],[75,0],[98,0]] (fun K' hK=>by simp only[go_sem,aI bL,Int.toNat_natCast,Int.natCast_nonneg,gU];(repeat (refine⟨ah,?_⟩));exact hK _ (by simp only[go_sem]) (by simp only[go_sem]<;>rfl)) ?_
        repeat refine sq ?_
        refine aL hΓ fun K' hK=>?_
        simp only[go_sem,aI bL,Int.toNat_natCast,Int.natCast_nonneg,gU,E' _ hf,iW,kK,w1,Z0 _ _ hf]
        repeat (refine⟨ah,?_⟩)
        refine hK _ ?_
        clear K' hK
        simp only[go_sem]
        refine kp [3,4,6,8] [[3,0],[4,0],[6,0],[75,0],[98,0]] ?_
        repeat refine sq ?_
        refine aL hΓ fun K' hK=>?_
        simp only[go_sem,aI bL,Int.toNat_natCast,Int.natCast_nonneg,gU]
        repeat (refine⟨ah,?_⟩)
        refine hK _ ?_
        clear K' hK
        simp only[go_sem]
        refine⟨i+1,⟨bL,?_⟩,by(show b.ps.length-(i+1)<b.ps.length-i;omega),?_⟩
        ·exact eT
        refine bk [3,4,6,8] [[3,0],[4,0],[6,0],[75,0],[98,0]] ?_ ?_
        ·simp only[go_sem,aD bL dR,Int.natCast_add,Int.natCast_one,nu]
        ·simp only[go_sem,aD bL dR,Int.natCast_add,Int.natCast_one,nu]
    ·have wk:i=b.ps.length:=by
      have :¬ (i:Int)<b.ps.length:=by simpa using hb
      omega
     clear hb
     subst wk
     have hq:=B5 hd h1 hR
     repeat refine sq ?_
     refine b7 ?_
     simp only[go_sem]
     refine kp [4,6] [[4,0],[6,0],[75,0],[98,0]] ?_
     repeat refine sq ?_
     refine rx hΓ [4,5] [[4,0],[75,0]] (fun K' hK=>by simp only[go_sem];(repeat (refine⟨ah,?_⟩));exact hK _ (by simp only[go_sem]) (by simp only[go_sem]<;>rfl)) ?_
     refine an ?_
     simp only[go_sem]
     first | (rw[hq.1,hq.2];done) | (rw[hq.1,hq.2];rfl)
theorem Wk:al Tryz.prog 17 S17:=R8.sound
theorem aaH{P:Program}{Γ:FuncId->Option Spec}(hΓ:∀ f s,Γ f=some s->al P f s){id:Nat}{l:List Oper}{c:Code}{r:List Code}{σ:S}{K:Exit->S->Prop}(ks:List Nat)(ns:List Name)
 (h:∀ K':S->Prop,(∀ σ',fE ks ns σ'->CL P (c::r) (fN ks ns σ') K->K' σ')->lQ P Γ l.toArray l σ K'):CL P (.region id l.toArray false::c::r) σ K:=
 Na hΓ (h _ fun σ' hc hy=>Fl ks ns hc hy)
theorem HD{P:Program}{Γ:FuncId->Option Spec}{ops:Array Oper}{o:Oper}{r:List Oper}{σ:S}{K:S->Prop}(h1:kD P Γ ops σ o)(h2:lQ P Γ ops r (aX P Γ ops σ o) K):lQ P Γ ops (o::r) σ K:=.step h1 h2
def fM{α:Type}(p:α->Bool)(l:List α):List α:=l.filter fun d=>!p d
def my{α:Type}(enc:α->V)(z:V)(p:α->Bool)(l:List α):List V:=(fM p l).map enc++List.replicate (l.length-(fM p l).length) z
def mO:Par:=⟨0,0⟩
def lv{α:Type}(p:α->Bool)(l:List α):Int:=if l.any p then(l.findIdx p:Int)else -1
theorem WX{α:Type}{p:α->Bool}{l:List α}{i:Nat}(h:i<l.length)(hp:p l[i]=true)(hn:∀ k (hk:k<l.length),k<i->p l[k]=false):lv p l=i:=by
 unfold lv
 rw[if_pos (List.any_eq_true.2 ⟨_,List.getElem_mem h,hp⟩)]
 congr 1
 rw[List.findIdx_eq h]
 exact⟨hp,fun j hj=>by simpa using hn j (by omega) hj⟩
theorem WW{α:Type}{p:α->Bool}{l:List α}(hn:∀ k (hk:k<l.length),p l[k]=false):lv p l= -1:=by
 unfold lv
 rw[if_neg]
 intro h
 obtain⟨x,hx,hp⟩:=List.any_eq_true.1 h
 obtain⟨k,hk,rfl⟩:=List.getElem_of_mem hx
 rw[hn k hk]at hp
 cases hp
def mz:V->Bag
 | .ptr l=>qa (.agg l)
 |_=>default
def CZ:En Bag:=⟨fun b=>.ptr (aP b),mz⟩
def M7:V->Bag
 | .clo _ _ [x]=>mz x
 |_=>default
def C0:En Bag:=⟨fun b=>.clo (.func 65) [] [.ptr (aP b)],M7⟩
@[go_sem] theorem aaj(b:Bag):mz (.ptr (aP b))=b:=uK b
@[go_sem] theorem agn(f:Fn)(b:Bag):M7 (.clo f [] [.ptr (aP b)])=b:=uK b
attribute [go_sem] CZ C0
@[go_sem] theorem agJ(b:Bag):List.take 1 (List.drop 3 (aP b))=[vInt b.ta]:=rfl
@[go_sem] theorem agK(b:Bag):List.take 1 (List.drop 2 (aP b))=[rowP b.ps]:=rfl
@[go_sem] theorem agL(b:Bag):List.take 1 (List.drop 1 (aP b))=[vInt b.to]:=rfl
@[go_sem] theorem agM(b:Bag):List.take 1 (aP b)=[vInt b.fr]:=rfl
def eG(b:Bag)(p:Par):Bool:=decide (p.no<=b.ta)
noncomputable def P65:PSpec:=p2 rp CZ (fun _ _=>True) (fun p b=>.bool (eG b p)) true
noncomputable def S65:Spec:=P65.toSpec
attribute [go_sem] P65 S65
theorem RD:aQ Tryz.prog 65 P65:=by
 refine w2 (rs:=[.tmp 3]) Tryz.func65 Tryz.ntmps65 (by rfl) (by kernel_rfl) (by decide) (fun _ _ _=>rfl) ⟨_,rfl,lb rfl,fun p b hp hw=>?_⟩
 have hP:=ba
 simp only[CZ,rp]at hw |-
 have hΓ:=@jY Tryz.prog
 repeat refine sq ?_
 refine rx hΓ [1,2] [[2,0]] (fun K' hK=>by simp only[go_sem];(repeat (refine⟨ah,?_⟩));exact hK _ (by simp only[go_sem]) (by simp only[go_sem]<;>rfl)) ?_
 repeat refine sq ?_
 refine rx hΓ [3] [] (fun K' hK=>by simp only[go_sem,Nat.add_zero];(repeat (refine⟨ah,?_⟩));exact hK _ (by simp only[go_sem]) (by simp only[go_sem]<;>rfl)) ?_
 refine an ?_
 simp only[go_sem]
 all_goals first | rfl | (simp;done) | (simp_all;done)
theorem Kf:al Tryz.prog 65 S65:=RD.sound
noncomputable def Gg:List (Nat×Spec):=[(65,S65)]
theorem ab1:∀ f s,tbl Gg f=some s->al Tryz.prog f s:=tc Kf<|tn
attribute [go_sem] Gg
noncomputable def P101:PSpec:=p2 jv C0 (fun _ _=>True) (fun l b=>vInt (lv (eG b) l)) true
noncomputable def S101:Spec:=P101.toSpec
attribute [go_sem] P101 S101
set_option maxHeartbeats 4000000 in
theorem Sm:aQ Tryz.prog 101 P101:=by
 refine w2 (rs:=[.tmp 4]) Tryz.func101 Tryz.ntmps101 (by rfl) (by kernel_rfl) (by decide) (fun _ _ _=>rfl) ⟨_,rfl,lb rfl,fun l b hp hw=>?_⟩
 have hP:=ba
 simp only[C0,jv]at hw |-
 have hl:l.length<=maxLen:=by have:=hw.1.1;simpa using this
 obtain⟨Γ,sG,hΓ,hs,hg⟩:∃ (Γ:FuncId->Option Spec) (sG:Spec),(∀ f s,Γ f=some s->al Tryz.prog f s)/\Γ 65=some sG/\
  ∀ (obj:Name->Option O) (t:Name) (x:Par),sG.app obj t [.v (encPa x),.v (.ptr (aP b))]=⟨True,.v (.bool (eG b x)),obj⟩:=⟨tbl Gg,S65,ab1,rfl,fun obj t x=>by simp only[go_sem]⟩
 simp only[encPa]at hg
 repeat refine sq ?_
 refine rx hΓ [0,1] [] (fun K' hK=>by simp only[go_sem];(repeat (refine⟨ah,?_⟩));exact hK _ (by simp only[go_sem]) (by simp only[go_sem]<;>rfl)) ?_
 repeat refine sq ?_
 refine rx hΓ [0,1,7,8] [] (fun K' hK=>by simp only[go_sem];(repeat (refine⟨ah,?_⟩));exact hK _ (by simp only[go_sem]) (by simp only[go_sem]<;>rfl)) ?_
 repeat refine sq ?_
 refine aO ?_
 repeat refine sq ?_
 refine cv (fun z:Nat=>[(8,⟨true,.v (vInt z)⟩)]) (fun z=>[]) (fun z=>z<=l.length/\∀ k (h:k<l.length),k<z->eG b l[k]=false) (fun z=>l.length-z) 0 ?_ ?_ ?_ ?_
 ·exact⟨Nat.zero_le _,fun k h hk=>absurd hk (by omega)⟩
 ·rfl
 ·rfl
 rintro i ⟨hi,hR⟩
 simp only[go_sem]
 repeat refine sq ?_
 refine rx hΓ [0,1,7,8,9] [] (fun K' hK=>by simp only[go_sem];(repeat (refine⟨ah,?_⟩));exact hK _ (by simp only[go_sem]) (by simp only[go_sem]<;>rfl)) ?_
 repeat refine sq ?_
 refine au rfl rfl (fun hb=>?_) (fun hb=>?_)
 ·have ae:i<l.length:=by simpa using hb
  have ai:(i:Int)<l.length:=by omega
  clear hb
  repeat refine sq ?_
  refine av ?_
  repeat refine sq ?_
  refine aO ?_
  repeat refine sq ?_
  refine rx hΓ [0,1,5,7,8] [] (fun K' hK=>by simp only[go_sem,aI ae,Int.toNat_natCast,Int.natCast_nonneg,ai];(repeat (refine⟨ah,?_⟩));exact hK _ (by simp only[go_sem]) (by simp only[go_sem]<;>rfl)) ?_
  repeat refine sq ?_
  refine rx hΓ [0,1,5,7,8,16] [] (fun K' hK=>by simp only[go_sem,aI ae,Int.toNat_natCast,Int.natCast_nonneg,ai,aI ae,hs,hg,Int.toNat_natCast,Int.natCast_nonneg,ai];(repeat (refine⟨ah,?_⟩));exact hK _ (by simp only[go_sem]) (by simp only[go_sem]<;>rfl)) ?_
  repeat refine sq ?_
  refine au rfl rfl (fun hb=>?_) (fun hb=>?_)
  ·repeat refine sq ?_
   refine rx hΓ [4] [] (fun K' hK=>by simp only[go_sem,aI ae,Int.toNat_natCast,Int.natCast_nonneg,ai];(repeat (refine⟨ah,?_⟩));exact hK _ (by simp only[go_sem]) (by simp only[go_sem]<;>rfl)) ?_
   refine an ?_
   simp only[go_sem]
   rw[WX (p:=eG b) ae (by simpa using hb) hR]
  ·repeat refine sq ?_
   refine av ?_
   refine ct ?_
   simp only[go_sem]
   refine kp [0,1,7,8] [] ?_
   repeat refine sq ?_
   refine aL hΓ fun K' hK=>?_
   simp only[go_sem,aI ae,Int.toNat_natCast,Int.natCast_nonneg,ai]
   repeat (refine⟨ah,?_⟩)
   refine hK _ ?_
   clear K' hK
   simp only[go_sem]
   refine⟨i+1,⟨ae,?_⟩,by(show l.length-(i+1)<l.length-i;omega),?_⟩
   ·intro k hk mf
    rcases Nat.lt_succ_iff_lt_or_eq.1 mf with h5 | rfl
    ·exact hR k hk h5
    ·simpa using hb
   refine bk [0,1,7,8] [] ?_ ?_
   ·simp only[go_sem,aD ae hl,Int.natCast_add,Int.natCast_one]
   ·simp only[go_sem,aD ae hl,Int.natCast_add,Int.natCast_one]
 ·have aW:i=l.length:=by
   have :¬ (i:Int)<l.length:=by simpa using hb
   omega
  clear hb
  subst aW
  repeat refine sq ?_
  refine b7 ?_
  simp only[go_sem]
  refine kp [] [] ?_
  repeat refine sq ?_
  refine rx hΓ [4] [] (fun K' hK=>by simp only[go_sem];(repeat (refine⟨ah,?_⟩));exact hK _ (by simp only[go_sem]) (by simp only[go_sem]<;>rfl)) ?_
  refine an ?_
  simp only[go_sem]
  rw[WW (p:=eG b) fun k hk=>hR k hk hk]
theorem Wz:al Tryz.prog 101 S101:=Sm.sound
noncomputable def Gf:List (Nat×Spec):=[(65,S65),(101,S101)]
theorem ab0:∀ f s,tbl Gf f=some s->al Tryz.prog f s:=tc Kf<|tc Wz<|tn
attribute [go_sem] Gf
theorem F2:(#[23]:Array Nat).getD 0 0=23:=rfl
theorem Py:((be Tryz.prog 91).bind fun z=>dM (iS z))=some (encPa mO):=by rw[P5];rfl
theorem Ft{obj:Name->Option O}{nm:Name}{k i:Nat}{L:List V}(h:obj nm=some (.arr 2 L))(hk:k=L.length)(hi:i<L.length):
 lk Tryz.prog obj 23 23 (.msl nm k) (.v (vInt i))=⟨True,.any,upd obj nm (some (.arr 2 (L.take i++List.replicate (L.length-i) (encPa mO))))⟩:=by
 unfold lk
 simp only[GI,h,Py,Int.toNat_natCast]
 congr 1
 simp only[eq_iff_iff,iff_true]
 exact⟨hk,by omega,hi,trivial,rfl,rfl,trivial,by decide⟩
set_option maxRecDepth 10000 in
set_option maxHeartbeats 4000000 in
theorem PV(b:Bag){H:Name->Option O}{l:List Par}(hl:l.length<1000000)(pU:H [0,1]=some (.arr 2 (l.map encPa)))(gF:∀ hs,bT [0] (bM [0] hs) H=True)(gg:∀ hs sz L,bT [0] (bM [0] hs) (upd H [0,1] (some (.arr sz L)))=True)(LL:∀ hs sz L,bT [0] (bM [0] hs) (upd H [0,1] (some (.farr sz L)))=True):
 ∃ c,Tryz.f64.body=some c/\CL Tryz.prog [c] (aU 42 [0] H [(0,⟨true,.msl [0,1] l.length⟩),(1,⟨true,.clo (.func 65) [] [.v (.ptr (aP b))]⟩)] []) (fun e σ=>(e=.normal\/e=.ret)/\(σ.env 4).c=true/\
   (σ.env 4).d=.v (.sl ((fM (eG b) l).map encPa))/\σ.obj [0,1]=some (.farr 2 (my encPa (encPa mO) (eG b) l))):=by
 obtain⟨Γ,sG,sI,hΓ,hs,hi,hp,hI⟩:∃ (Γ:FuncId->Option Spec) (sG sI:Spec),(∀ f s,Γ f=some s->al Tryz.prog f s)/\Γ 65=some sG/\Γ 101=some sI/\
  (∀ (obj:Name->Option O) (t:Name) (x:Par),sG.app obj t [.agg ((encPa x).cells.map .v),.v (.ptr (aP b))]=⟨True,.v (.bool (eG b x)),obj⟩)/\
  ∀ (obj:Name->Option O) (t:Name),obj [0,1]=some (.arr 2 (l.map encPa))->sI.app obj t [.msl [0,1] l.length,.clo (.func 65) [] [.v (.ptr (aP b))]]=⟨True,.v (vInt (lv (eG b) l)),obj⟩:=
  ⟨tbl Gf,S65,S101,ab0,rfl,rfl,fun obj t x=>by simp only[go_sem],fun obj t e=>by simp only[go_sem,e,List.length_map]⟩
 generalize uv:my encPa (encPa mO) (eG b) l=XX
 generalize hpg:eG b=p at *
 simp only[encPa,V.cells,List.map_cons,List.map_nil]at hp
 refine⟨_,rfl,?_⟩
 have hm:l.length<=maxLen:=by unfold maxLen;omega
 repeat refine sq ?_
 refine rx hΓ [0,1] [] (fun K' hK=>by simp only[go_sem,gF];(repeat (refine⟨ah,?_⟩));exact hK _ (by simp only[go_sem,gF]) (by simp only[go_sem,gF]<;>rfl)) ?_
 repeat refine sq ?_
 refine rx hΓ [0,1,5] [] (fun K' hK=>by simp only[go_sem,gF,hI,hi,pU,implies_true];(repeat (refine⟨ah,?_⟩));exact hK _ (by simp only[go_sem,gF,hI,hi,pU,implies_true]) (by simp only[go_sem,gF,hI,hi,pU,implies_true]<;>rfl)) ?_
 repeat refine sq ?_
 refine rx hΓ [0,1,5,12] [] (fun K' hK=>by simp only[go_sem,gF];(repeat (refine⟨ah,?_⟩));exact hK _ (by simp only[go_sem,gF]) (by simp only[go_sem,gF]<;>rfl)) ?_
 repeat refine sq ?_
 refine au rfl rfl (fun hb=>?_) (fun hb=>?_)
 ·repeat refine sq ?_
  refine rx hΓ [4] [] (fun K' hK=>by simp only[go_sem,gF];(repeat (refine⟨ah,?_⟩));exact hK _ (by simp only[go_sem,gF]) (by simp only[go_sem,gF]<;>rfl)) ?_
  refine aE (A8 4 (.msl [0,1] l.length) (by simp only[go_sem]) (by simp only[go_sem,pU,List.length_map]) [4] [] ?_ rfl) ?_
  ·simp only[go_sem,pU,LL]
  simp only[go_sem,pU]
  refine an ?_
  simp only[go_sem,pU]
  have cU:lv p l= -1:=by simpa using hb
  have ei:∀ d∈l,p d=false:=by
   unfold lv at cU
   split at cU
   ·omega
   ·rename_i hn
    intro d hd
    cases XG:p d with
    |false=>rfl
    |true=>exact(hn (List.any_eq_true.2 ⟨d,hd,XG⟩)).elim
  have hk:fM p l=l:=List.filter_eq_self.2 fun d hd=>by rw[ei d hd];rfl
  have zB:XX=l.map encPa:=by rw[<-uv];unfold my;rw[hk];simp
  rw[hk,zB]
  exact⟨.inr trivial,rfl,rfl⟩
 have hf:l.findIdx p<l.length:=by
  have cU:¬ lv p l= -1:=by simpa using hb
  unfold lv at cU
  split at cU
  ·rename_i YM
   exact List.findIdx_lt_length_of_exists (by obtain⟨y,hy,hp⟩:=List.any_eq_true.1 YM;exact⟨y,hy,hp⟩)
  ·exact(cU rfl).elim
 have pR:lv p l=(l.findIdx p:Int):=by unfold lv;rw[if_pos (List.any_eq_true.2 ⟨_,List.getElem_mem hf,List.findIdx_getElem (w:=hf)⟩)]
 rw[pR]
 clear hb pR hi hI
 have XF:p (l[l.findIdx p])=true:=List.findIdx_getElem (w:=hf)
 have KZ:∀ j (h:j<l.length),j<l.findIdx p->p l[j]=false:=fun j h hj=>by simpa using List.not_of_lt_findIdx hj
 generalize l.findIdx p=f at *
 repeat refine sq ?_
 refine av ?_
 repeat refine sq ?_
 refine rx hΓ [0,1,5,6] [] (fun K' hK=>by simp only[go_sem,gF,aD hf hm,Int.natCast_add,Int.natCast_one];(repeat (refine⟨ah,?_⟩));exact hK _ (by simp only[go_sem,gF,aD hf hm,Int.natCast_add,Int.natCast_one]) (by simp only[go_sem,gF,aD hf hm,Int.natCast_add,Int.natCast_one]<;>rfl)) ?_
 repeat refine sq ?_
 refine aO ?_
 repeat refine sq ?_
 refine aaJ (fun x:Nat×Nat×List Par=>upd H [0,1] (some (.arr 2 (x.2.2.map encPa)))) (fun x=>[(5,⟨true,.v (vInt x.1)⟩),(6,⟨true,.v (vInt x.2.1)⟩)]) (fun x=>[]) (fun x=>x.1<x.2.1/\x.2.1<=l.length/\x.2.2.length=l.length/\x.2.2.take x.1=fM p (l.take x.2.1)/\x.2.2.drop x.2.1=l.drop x.2.1) (fun x=>l.length-x.2.1) (f,f+1,l) ?_ ?_ ?_ ?_ ?_
 ·refine⟨(show f<f+1 by omega),hf,rfl,?_,rfl⟩
  show l.take f=fM p (l.take (f+1))
  unfold fM
  rw[List.take_add_one,List.getElem?_eq_getElem hf,List.filter_append]
  simp only[Option.toList_some,List.filter_cons,XF,Bool.not_true,Bool.false_eq_true,if_false,List.filter_nil,List.append_nil]
  rw[List.filter_eq_self.2]
  intro d hd
  obtain⟨j,hj,rfl⟩:=List.getElem_of_mem hd
  have eA:j<f:=by simp at hj;omega
  rw[List.getElem_take,KZ j (by omega) eA]
  rfl
 ·congr 1
  rw[<-pU]
  funext x
  by_cases e:x=[0,1]
  ·subst e;rw[aH]
  ·rw[aN _ _ _ e]
 ·rfl
 ·rfl
 clear KZ
 rintro⟨i,j,A⟩ ⟨eI,hj,hA,hT,hD⟩
 simp only at eI hj hA hT hD
 dsimp only
 generalize r9:upd H [0,1] (some (O.arr 2 (List.map encPa A)))=H'
 have h0:H' [0,1]=some (.arr 2 (A.map encPa)):=by rw[<-r9,aH]
 have wB:∀ i,H' [i+1,1]=H [i+1,1]:=fun i=>by rw[<-r9,aN _ _ _ (by simp)]
 have gG:∀ hs,bT [0] (bM [0] hs) H'=True:=fun hs=>by rw[<-r9];exact gg _ _ _
 have kO:∀ hs sz L,bT [0] (bM [0] hs) (upd H' [0,1] (some (.arr sz L)))=True:=fun hs sz L=>by rw[<-r9,sQ];exact gg _ _ _
 have Y2:∀ hs sz L,bT [0] (bM [0] hs) (upd H' [0,1] (some (.farr sz L)))=True:=fun hs sz L=>by rw[<-r9,sQ];exact LL _ _ _
 simp only[go_sem]
 repeat refine sq ?_
 refine rx hΓ [0,1,5,6,19] [] (fun K' hK=>by simp only[go_sem,gG,kO,h0];(repeat (refine⟨ah,?_⟩));exact hK _ (by simp only[go_sem,gG,kO,h0]) (by simp only[go_sem,gG,kO,h0]<;>rfl)) ?_
 repeat refine sq ?_
 refine au rfl rfl (fun hb=>?_) (fun hb=>?_)
 ·have ae:j<l.length:=by simpa using hb
  have DT:j<A.length:=by omega
  have wi:i<A.length:=by omega
  have X9:(i:Int)<l.length:=by omega
  have ai:(j:Int)<l.length:=by omega
  have Ev:A[j]=l[j]:=by
   have h1:A[j]=(A.drop j)[0]'(by simp;omega):=by simp
   rw[h1]
   simp only[hD]
   simp
  clear hb
  repeat refine sq ?_
  refine av ?_
  repeat refine sq ?_
  refine aO ?_
  repeat refine sq ?_
  refine rx hΓ [0,1,5,6,7] [[7,0]] (fun K' hK=>by simp only[go_sem,gG,kO,h0,aI DT,Int.toNat_natCast,Int.natCast_nonneg,ai,hA,Ev];(repeat (refine⟨ah,?_⟩));exact hK _ (by simp only[go_sem,gG,kO,h0,aI DT,Int.toNat_natCast,Int.natCast_nonneg,ai,hA,Ev]) (by simp only[go_sem,gG,kO,h0,aI DT,Int.toNat_natCast,Int.natCast_nonneg,ai,hA,Ev]<;>rfl)) ?_
  repeat refine sq ?_
  refine rx hΓ [0,1,5,6,7,29] [[7,0]] (fun K' hK=>by simp only[go_sem,gG,kO,h0,hs,hp];(repeat (refine⟨ah,?_⟩));exact hK _ (by simp only[go_sem,gG,kO,h0,hs,hp]) (by simp only[go_sem,gG,kO,h0,hs,hp]<;>rfl)) ?_
  repeat refine sq ?_
  refine au rfl rfl (fun hb=>?_) (fun hb=>?_)
  ·have XE:p l[j]=false:=by simpa using hb
   clear hb
   repeat refine sq ?_
   refine Am hΓ [0,1,5,6] [] fun K' hK=>?_
   simp only[go_sem,gG,kO,h0,Int.toNat_natCast,Int.natCast_nonneg,X9,hA]
   repeat' apply And.intro
   all_goals first | rfl | omega | exact Int.le_refl _ | exact Bool.or_not_self _ | exact Bool.not_or_self _ | exact EY _ | exact EZ _ | exact fun x hx=>(EY _ x hx).1 | exact fun x hx=>(EZ _ x hx).1 | (simp only[List.length_take,List.length_append,List.length_map,List.length_drop,List.length_cons,List.length_nil];done) | (simp only[List.length_take,List.length_append,List.length_map,List.length_drop,List.length_cons,List.length_nil];omega) | (simp only[List.length_take,List.length_append,List.length_map,List.length_drop,List.length_cons,List.length_nil,maxLen];omega) | (exact fun _=>by decide) | (exact fun h=>⟨h,by decide⟩) | (simp only[decide_eq_true_eq];omega) | skip
   refine hK _ ?_ ?_
   ·simp only[go_sem,gG,kO]
   clear K' hK
   simp only[go_sem]
   obtain⟨H2,ke⟩:∃ H2,upd H' [0,1] (some (O.arr 2 ((List.map encPa A).set i (encPa l[j]))))=H2:=⟨_,rfl⟩
   have LS:=ke
   simp only[encPa]at LS
   rw[LS]
   have wA:∀ hs,bT [0] (bM [0] hs) H2=True:=fun hs=>by rw[<-ke];exact kO _ _ _
   repeat refine sq ?_
   refine aL hΓ fun K' hK=>?_
   simp only[go_sem]
   repeat (refine⟨ah,?_⟩)
   refine hK _ ?_
   clear K' hK
   simp only[go_sem]
   refine kj [0,1,5,6] [] ?_ ?_
   ·simp only[go_sem,wA]
   simp only[go_sem,wA]
   repeat refine sq ?_
   refine aL hΓ fun K' hK=>?_
   simp only[go_sem]
   repeat (refine⟨ah,?_⟩)
   refine hK _ ?_
   clear K' hK
   simp only[go_sem]
   refine⟨(i+1,j+1,A.set i l[j]),⟨(show i+1<j+1 by omega),ae,by simpa using hA,?_,?_⟩,(show l.length-(j+1)<l.length-j by omega),?_⟩
   ·show (A.set i l[j]).take (i+1)=fM p (l.take (j+1))
    unfold fM at hT |-
    rw[List.take_add_one (l:=l),List.getElem?_eq_getElem ae,List.filter_append,<-hT]
    simp only[Option.toList_some,List.filter_cons,XE,Bool.not_false,if_true,List.filter_nil]
    rw[List.take_add_one,List.take_set_of_le (Nat.le_refl i),List.getElem?_set_self wi]
    rfl
   ·show (A.set i l[j]).drop (j+1)=l.drop (j+1)
    rw[List.drop_set_of_lt (show i<j+1 by omega)]
    have :=congrArg (List.drop 1) hD
    simpa[List.drop_drop]using this
   ·refine bk [0,1,5,6] [] ?_ ?_
    ·simp only[go_sem,wA]
    ·simp only[go_sem,aD ae hm,aD (show i<l.length by omega) hm,Int.natCast_add,Int.natCast_one]
     rw[<-ke,<-r9,sQ,List.map_set]
     try rfl
  ·have XB:p l[j]=true:=by simpa using hb
   clear hb
   repeat refine sq ?_
   refine av ?_
   refine ct ?_
   simp only[go_sem]
   refine kj [0,1,5,6] [] ?_ ?_
   ·simp only[go_sem,gG]
   simp only[go_sem,gG]
   repeat refine sq ?_
   refine aL hΓ fun K' hK=>?_
   simp only[go_sem]
   repeat (refine⟨ah,?_⟩)
   refine hK _ ?_
   clear K' hK
   simp only[go_sem]
   refine⟨(i,j+1,A),⟨(show i<j+1 by omega),ae,hA,?_,?_⟩,(show l.length-(j+1)<l.length-j by omega),?_⟩
   ·show A.take i=fM p (l.take (j+1))
    unfold fM at hT |-
    rw[List.take_add_one (l:=l),List.getElem?_eq_getElem ae,List.filter_append,<-hT]
    simp only[Option.toList_some,List.filter_cons,XB,Bool.not_true,Bool.false_eq_true,if_false,List.filter_nil,List.append_nil]
   ·show A.drop (j+1)=l.drop (j+1)
    have :=congrArg (List.drop 1) hD
    simpa[List.drop_drop]using this
   ·refine bk [0,1,5,6] [] ?_ ?_
    ·simp only[go_sem,gG]
    ·simp only[go_sem,aD ae hm,Int.natCast_add,Int.natCast_one]
     rw[<-r9]
 ·have aW:j=l.length:=by
    have :¬ (j:Int)<l.length:=by simpa using hb
    omega
  subst aW
  clear hb
  rw[List.take_length]at hT
  have wi:i<A.length:=by omega
  repeat refine sq ?_
  refine b7 ?_
  simp only[go_sem]
  refine kj [0,5] [] ?_ ?_
  ·simp only[go_sem,gG]
  simp only[go_sem,gG]
  repeat refine sq ?_
  refine aaH hΓ [0,5] [] fun K' hK=>?_
  refine HD ?_ (HD ?_ (.cut (T:=23) (x:=.tmp 36) (lo:=.tmp 37) (c:=38) rfl rfl ?_ ?_ ?_ ?_ (.nil ?_)))
  ·simp only[go_sem]
  ·simp only[go_sem]
  ·simp only[go_sem]
  ·simp only[go_sem]
  ·simp only[go_sem]
  ·have iX:=fun (obj:Name->Option O) (h:obj [0,1]=_)=>Ft (obj:=obj) (nm:=[0,1]) (k:=l.length) (i:=i) (L:=A.map encPa) h (by simpa using hA.symm) (by simpa using wi)
   simp only[go_sem,mA,F2,iX,h0]
  ·refine hK _ ?_ ?_
   ·simp only[go_sem,qb,mA,F2,Ft (obj:=fun nm=>if own [0] nm=true then none else H' nm) (nm:=[0,1]) (k:=l.length) (i:=i) (L:=A.map encPa) h0 (by simpa using hA.symm) (by simpa using wi),kO]
   clear K' hK
   simp only[go_sem,qb,mA,F2,Ft (obj:=fun nm=>if own [0] nm=true then none else H' nm) (nm:=[0,1]) (k:=l.length) (i:=i) (L:=A.map encPa) h0 (by simpa using hA.symm) (by simpa using wi)]
   have mf:(fM p l).length=i:=by rw[<-hT,List.length_take];omega
   have Ej:(List.take i (List.map encPa A)++List.replicate (A.length-i) (encPa mO))=XX:=by
    rw[<-uv]
    unfold my
    rw[mf,<-hT,List.map_take,hA]
   have hZ1:XX.length=l.length:=by rw[<-uv];unfold my;simp;omega
   have YR:XX.take i=(fM p l).map encPa:=by
    rw[<-uv]
    unfold my
    rw[List.take_append_of_le_length (by simp;omega),List.take_of_length_le (by simp;omega)]
   have YQ:∀ x∈XX,x.cells.length=2:=by
    intro x hx
    rw[<-uv]at hx
    rcases List.mem_append.1 hx with h | h
    ·obtain⟨y,_,rfl⟩:=List.mem_map.1 h;rfl
    ·rw[(List.mem_replicate.1 h).2];rfl
   simp only[encPa]at Ej
   rw[Ej]
   clear Ej
   clear uv
   generalize XX=Z at *
   simp only[V.cells]at YQ
   generalize kb:upd H' [0,1] (some (O.arr 2 Z))=H3
   have Zz:H3 [0,1]=some (.arr 2 Z):=by rw[<-kb,aH]
   have hI3:∀ i,H3 [i+1,1]=H [i+1,1]:=fun i=>by rw[<-kb,aN _ _ _ (by simp)];exact wB i
   have Y1:∀ hs sz L,bT [0] (bM [0] hs) (upd H3 [0,1] (some (.farr sz L)))=True:=fun hs sz L=>by rw[<-kb,sQ];exact Y2 _ _ _
   have X8:(i:Int)<=l.length:=by omega
   repeat refine sq ?_
   refine Am hΓ [4] [] fun K' hK=>?_
   simp only[go_sem,Zz,GI,Int.toNat_natCast,Int.natCast_nonneg,X8]
   repeat' apply And.intro
   all_goals first | rfl | omega | exact Int.le_refl _ | exact Bool.or_not_self _ | exact Bool.not_or_self _ | exact EY _ | exact EZ _ | exact fun x hx=>(EY _ x hx).1 | exact fun x hx=>(EZ _ x hx).1 | (simp only[List.length_take,List.length_append,List.length_map,List.length_drop,List.length_cons,List.length_nil];done) | (simp only[List.length_take,List.length_append,List.length_map,List.length_drop,List.length_cons,List.length_nil];omega) | (simp only[List.length_take,List.length_append,List.length_map,List.length_drop,List.length_cons,List.length_nil,maxLen];omega) | (exact fun _=>by decide) | (exact fun h=>⟨h,by decide⟩) | (simp only[decide_eq_true_eq];omega) | skip
   refine hK _ ?_ ?_
   ·simp only[go_sem,Y1]
   clear K' hK
   simp only[go_sem]
   refine an ?_
   simp only[go_sem,YR]
   exact .inr trivial
noncomputable def delCP:CSpec where
 pre:=fun os ds=>∃ (l:List Par) (b:Bag),os=[.arr 2 (l.map encPa)]/\ds=[.msl [0,1] l.length,.clo (.func 65) [] [.v (.ptr (aP b))]]/\l.length<1000000
 out:=fun os ds=>match os,ds with
  |[.arr _ L],[_,.clo _ _ [.v x]]=>⟨[(0,.farr 2 (my encPa (encPa mO) (eG (mz x)) (L.map jL)))],[],.v (.sl ((fM (eG (mz x)) (L.map jL)).map encPa))⟩
  |_,_=>⟨[],[],.any⟩
noncomputable def sv(obj:Name->Option O)(_:Name):List D->R
 |[.msl nm k,.clo (.func 65) [] [.v (.ptr cs)]]=>match obj nm with
  |some (.arr 2 L)=>⟨k=L.length/\L.length<1000000/\(L.map jL).map encPa=L/\aP (mz (.ptr cs))=cs,.v (.sl ((fM (eG (mz (.ptr cs))) (L.map jL)).map encPa)),upd obj nm (some (.farr 2 (my encPa (encPa mO) (eG (mz (.ptr cs))) (L.map jL))))⟩
  |_=>.bad obj
 |_=>.bad obj
def p9(_:Name->Option O)(_:Name):List D->List Name
 | .msl nm _::_=>[nm]
 |_=>[]
noncomputable def S64:Spec:=⟨sv,p9,p9⟩
attribute [go_sem] S64 sv
theorem aab:S64.Near:=by
 refine Ce fun obj obj2 t ds ha=>⟨rfl,?_⟩
 have dJ:∀ wr,bq wr obj obj2->bE (R.bad obj) (R.bad obj2) obj obj2 wr:=fun wr h=>.none wr h
 unfold sv
 split
 ·rename_i nm k cs
  have h1:obj2 nm=obj nm:=ha nm (by simp[p9])
  simp only[h1]
  split
  ·exact .one (by simp[p9]) ha
  ·exact dJ _ ha
 ·exact dJ _ ha
theorem V1:al Tryz.prog 64 delCP.toSpec:=by
 refine oS (nt:=42) (rs:=[.tmp 4]) Tryz.func64 rfl (by rfl) (by kernel_rfl) (jb Tryz.func64 rfl (by kernel_rfl)) (oa _ (by decide)) ?_
 rintro os ds ⟨l,b,rfl,rfl,hl⟩
 refine⟨lb rfl,?_⟩
 have fQ:delCP.out [.arr 2 (l.map encPa)] [.msl [0,1] l.length,.clo (.func 65) [] [.v (.ptr (aP b))]]=⟨[(0,.farr 2 (my encPa (encPa mO) (eG b) l))],[],.v (.sl ((fM (eG b) l).map encPa))⟩:=by
  simp only[delCP,Fi,aaj]
 rw[fQ]
 have gF:∀ hs,bT [0] (bM [0] hs) (bd [.arr 2 (l.map encPa)])=True:=fun hs=>eq_true (vn (by
  intro o ho dom hd
  simp only[List.mem_singleton]at ho
  subst ho
  rfl) hs)
 obtain⟨c,hc,h⟩:=PV b (H:=bd [.arr 2 (l.map encPa)]) hl rfl gF (fun hs sz L=>eq_true (xh rfl (by rw[gF];trivial))) (fun hs sz L=>eq_true (xh rfl (by rw[gF];trivial)))
 have rZ:∀ c2,Tryz.f64.body=some c2->c2=c:=fun c2 h2=>by rw[h2]at hc;exact Option.some.inj hc
 rw[<-rZ _ rfl]at h
 refine CW.mono (ld h) ?_
 rintro e σ ⟨he,h1,h2,h3⟩
 have fin:(bX Tryz.prog σ [.tmp 4]).ok/\(bX Tryz.prog σ [.tmp 4]).d=.v (.sl ((fM (eG b) l).map encPa))/\gI [.arr 2 (l.map encPa)] ⟨[(0,.farr 2 (my encPa (encPa mO) (eG b) l))],[],.v (.sl ((fM (eG b) l).map encPa))⟩ σ:=
  ⟨h1,h2,⟨h3,trivial⟩,trivial,rfl⟩
 rcases he with rfl | rfl
 ·exact fin
 ·exact fin
theorem V2:al Tryz.prog 64 S64:=by
 refine Bl V1 aab (oa _ (by decide)) fun obj t ds aa=>?_
 change (sv obj t ds).ok at aa
 refine⟨ds,rfl,fun _ _ _ _ h=>h,?_⟩
 show _/\_=(sv obj t ds).d/\_=(sv obj t ds).obj
 unfold sv at aa |-
 split at aa
 ·rename_i nm k cs
  split at aa
  ·rename_i L ho
   obtain⟨rfl,hl,he,hg⟩:=aa
   have hr:reach obj [.msl nm L.length,.clo (.func 65) [] [.v (.ptr cs)]]=[nm]:=by
    unfold reach
    show dF obj (2998+1+1) [nm] []=[nm]
    simp only[dF,cE,List.any_nil,Bool.false_eq_true,if_false,ho,mZ,List.nil_append]
   have i0:idx [nm] nm=0:=by simp[idx]
   have e1:cm obj [.msl nm L.length,.clo (.func 65) [] [.v (.ptr cs)]]=[.arr 2 L]:=by
    unfold cm
    rw[hr]
    simp only[List.map_cons,List.map_nil,cl,ho,O.ren]
   have e2:cJ obj [.msl nm L.length,.clo (.func 65) [] [.v (.ptr cs)]]=[.msl [0,1] L.length,.clo (.func 65) [] [.v (.ptr cs)]]:=by
    unfold cJ
    rw[hr]
    simp only[D.renL,D.ren,cin,i0]
   have e3:(shut obj [nm]&&D.closL (cE [nm]) [.msl nm L.length,.clo (.func 65) [] [.v (.ptr cs)]]&&fresh obj t [])=true:=by
    simp[shut,ho,O.clos,D.closL,D.clos,cE,fresh]
   have cG:delCP.pre [.arr 2 L] [.msl [0,1] L.length,.clo (.func 65) [] [.v (.ptr cs)]]:=⟨L.map jL,mz (.ptr cs),by rw[he],by rw[List.length_map,hg],by rw[List.length_map];exact hl⟩
   have fQ:delCP.out [.arr 2 L] [.msl [0,1] L.length,.clo (.func 65) [] [.v (.ptr cs)]]=⟨[(0,.farr 2 (my encPa (encPa mO) (eG (mz (.ptr cs))) (L.map jL)))],[],.v (.sl ((fM (eG (mz (.ptr cs))) (L.map jL)).map encPa))⟩:=rfl
   simp only[CSpec.toSpec,e1,e2,hr,fQ,e3,cG,ho,and_self,cX]
   exact⟨trivial,rfl,rfl⟩
  ·exact aa.elim
 ·exact aa.elim
end Go.Eng
set_option linter.unusedVariables false
namespace Go.Eng
open Go Go.Proofs Go.RowKit Go.Lib Go.Shelf
set_option maxHeartbeats 4000000 in
set_option maxRecDepth 100000 in
theorem WR(b off n c i vb eY m vc:Nat)(cs vs:List Value)(w:World)(hi:i<n)(hm:0<m)(j':n+m<=c)(LA:c<=9223372036854775807)(y0:vb≠b)
 (bR:cs.length=n) (C5:vs.length=m)
 (gX:∀ j v,cs[j]?=some v->w.cell? ⟨b,off+j,none⟩=some v) (jA:∀ j,j<n+m->(w.cell? ⟨b,off+j,none⟩).isSome=true) (pQ:∀ j,w.frozen? ⟨b,j,none⟩=false)
 (rB:∀ j v,vs[j]?=some v->w.cell? ⟨vb,eY+j,none⟩=some v) (wD:∀ v∈cs,v.oneCell'=true) (EB:∀ v∈vs,v.oneCell'=true)
 (tA tB:TypeId) (kA kB:Nat) (vQ:w.shape? vb=some (tA,kA)) (vP:w.shape? b=some (tB,kB)) (DQ:kA≠0):
 Calls Tryz.prog 103 #[.slice (some ⟨b,off,none⟩) n c,.int .i64 i,.slice (some ⟨vb,eY,none⟩) m vc] w fun e w'=>
  e=.returned (.slice (some ⟨b,off,none⟩) (n+m) c)/\w'=(w.drew.setCells b (off+(i+m)) (cs.drop (i))).setCells b (off+i) vs:=by
 have mixed:Tryz.prog.follows Departure.mixedOrders=true:=by kernel_rfl
 have fP:¬ ((m:Int)=0):=by omega
 have lx:¬ ((i:Int)=(n:Int)):=by omega
 have XH:∀ lb cb,(callFunc 117 #[.slice (some ⟨vb,eY,none⟩) m vc,.slice (some ⟨b,off+(i+m),none⟩) lb cb]).run Tryz.prog w=.ok (.value (.bool false)) w:=fun lb cb=>by
  rw[run_callFunc_extern Tryz.func117 (by kernel_rfl) (by kernel_rfl) (by kernel_rfl) (e:=Extern.SlicesOverlaps.overlaps #[22,22] #[4]) (by kernel_rfl),
   Sq w 22 4 3 Tryz.underlying22 1 Tryz.sizeOf3 ⟨vb,eY,none⟩ ⟨b,off+(i+m),none⟩ m vc lb cb y0 tA tB kA kB vQ vP DQ (pQ _) (pQ _)]
  rfl
 have uj:(cs.drop (i)).length=n-i:=by rw[List.length_drop,bR];try omega
 have ey:IntKind.i64.wrap ((i:Int)+(m:Int))=(i:Int)+(m:Int):=by rw[IntKind.wrap_i64];omega
 have fA:(0:Int)<=(i:Int)+(m:Int):=by omega
 have gB:i<=n:=by omega
 have Xm:((i:Int)+(m:Int)).toNat=i+m:=by omega
 have fj:¬ (c=i+m):=by omega
 have Ed:(i:Int)<=(n:Int)+(m:Int):=by omega
 have hb4:¬ (c=i):=by omega
 have vX:Nat.min (n+m-i) (n+m-(i+m))=n-i:=by simp only[Nat.min_def];split<;>omega
 have Lv:∀ ty dc sc,(Builtin.copy_ #[22,22] ty #[.slice (some ⟨b,off+(i+m),none⟩) (n+m-(i+m)) dc,.slice (some ⟨b,off+i,none⟩) (n+m-i) sc]).run Tryz.prog w.drew=.ok (goInt (n-i:Nat)) (w.drew.setCells b (off+(i+m)) (cs.drop (i))):=fun ty dc sc=>by
  have h:=xO (P:=Tryz.prog) 1 w.drew 22 22 ty 3 b (off+(i+m)) (n+m-(i+m)) dc ⟨b,off+i,none⟩ (n+m-i) sc (cs.drop (i)) Tryz.underlying22 Tryz.sizeOf3 (by rw[uj,vX];omega)
   (fun j v hj=>by rw[Addr.add_lit,Nat.add_assoc];exact gX (i+j) v (by rwa [List.getElem?_drop]at hj))
   (fun j hj=>by rw[Nat.add_assoc];exact jA _ (by omega)) (fun j hj=>by exact pQ _) (fun v hv=>wD v (List.mem_of_mem_drop hv))
  rw[vX]at h
  exact h
 obtain⟨W1,hM⟩:∃ W1,W1=w.drew.setCells b (off+(i+m)) (cs.drop (i)):=⟨_,rfl⟩
 have Xt:∀ k,k<n+m->(W1.cell? ⟨b,off+k,none⟩).isSome=true:=fun k hk=>by
  rw[hM]
  exact isSome_setCells b _ _ _ (fun j hj=>by rw[Nat.add_assoc];exact jA _ (by omega)) _ (jA k hk)
 have vW:Nat.min m (n+m-i)=m:=by simp only[Nat.min_def];split<;>omega
 have Yw:∀ (W:World),(∀ x,W.cell? x=W1.cell? x)->(∀ x,W.frozen? x=W1.frozen? x)->∀ ty dc,(Builtin.copy_ #[22,22] ty #[.slice (some ⟨b,off+i,none⟩) (n+m-i) dc,.slice (some ⟨vb,eY,none⟩) m vc]).run Tryz.prog W=.ok (goInt m) (W.setCells b (off+i) vs):=fun W pT wx ty dc=>by
  have h:=xO (P:=Tryz.prog) 1 W 22 22 ty 3 b (off+i) (n+m-i) dc ⟨vb,eY,none⟩ m vc vs Tryz.underlying22 Tryz.sizeOf3 (by rw[vW,C5];omega)
   (fun j v hj=>by
     rw[Addr.add_lit,pT,hM,World.cell?_setCells_out b _ _ _ _ (fun h _=>absurd h y0)]
     exact rB j v hj)
   (fun j hj=>by rw[pT,Nat.add_assoc];exact Xt _ (by omega)) (fun j hj=>by rw[wx,hM,World.frozen?_setCells];exact pQ _) EB
  rw[vW]at h
  exact h
 rw[<-hM]at Lv
 go_enter Tryz.func103,Tryz.ntmps103
 go_wp2_with (simp only[XH])
 go_region_law_o (refine step_copy_runI rfl _ _ 22 22 rfl _ _ (by simp[Act.eval,Act.put]) (by simp[Act.eval,Act.put]) (Lv _ _ _) ?_)
 go_wp2_with (at_builtin;refine wpList_copy_runI _ rfl _ _ 22 22 rfl _ _ rfl rfl (Yw _ (fun _=>rfl) (fun _=>rfl) _ _) ?_)
 go_ret
 first | exact⟨rfl,rfl⟩ | exact⟨rfl,by rw[hM]⟩
set_option maxHeartbeats 4000000 in
set_option maxRecDepth 100000 in
theorem WT(b off n c i vb eY m vc:Nat)(cs vs:List Value)(w:World)(hi:i<n)(hm:0<m)(DC:n<=c)(j':c<n+m)(YF:(n+m)*8<=140737488355328)
 (bR:cs.length=n) (C5:vs.length=m)
 (gX:∀ j v,cs[j]?=some v->w.cell? ⟨b,off+j,none⟩=some v)
 (rB:∀ j v,vs[j]?=some v->w.cell? ⟨vb,eY+j,none⟩=some v) (wD:∀ v∈cs,v.oneCell'=true) (EB:∀ v∈vs,v.oneCell'=true):
 Calls Tryz.prog 103 #[.slice (some ⟨b,off,none⟩) n c,.int .i64 i,.slice (some ⟨vb,eY,none⟩) m vc] w fun e w'=>
  e=.returned (.slice (some ⟨w.heap.size,0,none⟩) (n+m) (grownCap w (n+m) c 3))/\
  w'=(((w.alloc (.cells ((cs.take (i)).toArray++Builtin.zeroCells (.int .i64 0:Value).cells (n+m-i)++Builtin.zeroCells (.int .i64 0:Value).cells (grownCap w (n+m) c 3-(n+m))) 3)).drew.setCells w.heap.size (i) vs).drew).setCells w.heap.size ((i+m)) (cs.drop (i)):=by
 have mixed:Tryz.prog.follows Departure.mixedOrders=true:=by kernel_rfl
 have uw:bK Tryz.prog 22=some (3,1,8):=by kernel_rfl
 have wy:be Tryz.prog 3=some (.int .i64 0):=by kernel_rfl
 obtain⟨i0,nw,dZ,rv,KA⟩:∃ i0,Tryz.prog.info? 3=some i0/\i0.zero=some (.int .i64 0)/\i0.size=1/\i0.bytes=8:=by
  obtain⟨hu,i0,h1,h2,h3⟩:=iu uw
  refine⟨i0,h1,?_,h2,h3⟩
  unfold be at wy
  rw[h1]at wy
  exact wy
 have fP:¬ ((m:Int)=0):=by omega
 have lx:¬ ((i:Int)=(n:Int)):=by omega
 have pE:(c:Int)<(n:Int)+(m:Int):=by omega
 have LB:b<w.heap.size:=block_lt_of_cell (gX 0 _ (List.getElem?_eq_getElem (by omega)))
 have Xj:vb<w.heap.size:=block_lt_of_cell (rB 0 _ (List.getElem?_eq_getElem (by omega)))
 have zr:(n:Int)+(m:Int)-(i:Int)=((n+m-i:Nat):Int):=by omega
 have wh:i+(n+m-i)=n+m:=by omega
 have hold:(Builtin.firstCells i0.size i (.slice (some ⟨b,off,none⟩) i c)).run Tryz.prog w.drew=.ok (cs.take (i)).toArray w.drew:=by
  rw[rv]
  exact run_firstCells_some w.drew 1 i ⟨b,off,none⟩ i c (cs.take (i)) (by rw[List.length_take];omega) (fun j v hj=>by
   rw[Addr.add_lit]
   rw[List.getElem?_take]at hj
   split at hj
   ·exact gX j v hj
   ·cases hj)
 have tW:∀ ty,(Builtin.append_ #[22,3] ty #[.slice (some ⟨b,off,none⟩) i c,.int .i64 ((n:Int)+(m:Int)-(i:Int))]).run Tryz.prog w=
     .ok (.slice (some ⟨w.heap.size,0,none⟩) (n+m) (grownCap w (n+m) c 3)) (w.drew.alloc (.cells ((cs.take (i)).toArray++Builtin.zeroCells (.int .i64 0:Value).cells (n+m-i)++Builtin.zeroCells (.int .i64 0:Value).cells (grownCap w (n+m) c 3-(n+m))) 3)):=fun ty=>by
  have h:=Lib.run_append_grow_zeros w 22 3 ty 3 i0 _ .i64 .i64 Tryz.underlying22 Tryz.underlying3 nw dZ (some ⟨b,off,none⟩) i c (cs.take (i)) hold (n+m-i) (by omega) (by omega) (by omega) (by omega) (by rw[KA];omega) (by rw[KA,wh];exact growslice_fits j' YF)
  rw[wh]at h
  rw[zr]
  exact h
 obtain⟨G,hG⟩:∃ G,G=grownCap w (n+m) c 3:=⟨_,rfl⟩
 obtain⟨ROW,r5⟩:∃ ROW:Array Value,ROW=(cs.take (i)).toArray++Builtin.zeroCells (.int .i64 0:Value).cells (n+m-i)++Builtin.zeroCells (.int .i64 0:Value).cells (G-(n+m)):=⟨_,rfl⟩
 rw[<-hG]at tW |-
 rw[<-r5]at tW |-
 have YW:n+m<=ROW.size:=by
  rw[r5]
  simp[Builtin.zeroCells,Value.cells]
  omega
 obtain⟨W1,hM⟩:∃ W1,W1=w.drew.alloc (.cells ROW 3):=⟨_,rfl⟩
 rw[<-hM]at tW
 have hN:∀ j,j<n+m->(W1.cell? ⟨w.heap.size,j,none⟩).isSome=true:=fun j hj=>by
  rw[hM,World.cell?_alloc_at (w:=w.drew) ROW _ w.heap.size j rfl,Array.getElem?_eq_getElem (by omega)];rfl
 have LM:∀ j,W1.frozen? ⟨w.heap.size,j,none⟩=false:=fun j=>by rw[hM];exact World.frozen?_alloc_at (w:=w.drew) ROW _ w.heap.size j rfl
 have wA:∀ j v,w.cell? ⟨b,j,none⟩=some v->W1.cell? ⟨b,j,none⟩=some v:=fun j v h=>by rw[hM,World.cell?_alloc_past (w:=w.drew) _ b j LB];exact h
 have Y0:∀ j v,w.cell? ⟨vb,j,none⟩=some v->W1.cell? ⟨vb,j,none⟩=some v:=fun j v h=>by rw[hM,World.cell?_alloc_past (w:=w.drew) _ vb j Xj];exact h
 have vW:Nat.min m (n+m-i)=m:=by simp only[Nat.min_def];split<;>omega
 have vX:Nat.min (n-i) (n+m-(i+m))=n-i:=by simp only[Nat.min_def];split<;>omega
 have Yv:∀ (W:World),(∀ x,W.cell? x=W1.cell? x)->(∀ x,W.frozen? x=W1.frozen? x)->∀ ty dc,(Builtin.copy_ #[22,22] ty #[.slice (some ⟨w.heap.size,i,none⟩) (n+m-i) dc,.slice (some ⟨vb,eY,none⟩) m vc]).run Tryz.prog W=.ok (goInt m) (W.setCells w.heap.size (i) vs):=fun W pT wx ty dc=>by
  have h:=xO (P:=Tryz.prog) 1 W 22 22 ty 3 w.heap.size (i) (n+m-i) dc ⟨vb,eY,none⟩ m vc vs Tryz.underlying22 Tryz.sizeOf3 (by rw[vW,C5];omega)
   (fun j v hj=>by rw[Addr.add_lit,pT];exact Y0 _ v (rB j v hj))
   (fun j hj=>by rw[pT];exact hN _ (by omega)) (fun j hj=>by rw[wx];exact LM _) EB
  rw[vW]at h
  exact h
 have hGn:n+m<=G:=by rw[hG];exact grownCap_ge w _ _ _
 have afP:G<=9223372036854775807:=by
  have :=grownCap_le_maxLen w (n+m) c 3 (by unfold maxLen;omega)
  rw[<-hG]at this
  unfold maxLen at this
  omega
 have hGi:¬ (G=i):=by omega
 have afO:¬ (G=i+m):=by omega
 have Lw:¬ (c=i):=by omega
 have YG:b≠w.heap.size:=by omega
 have uj:(cs.drop (i)).length=n-i:=by rw[List.length_drop,bR];try omega
 have Lu:∀ (W:World),(∀ x,W.cell? x=(W1.setCells w.heap.size (i) vs).cell? x)->(∀ x,W.frozen? x=(W1.setCells w.heap.size (i) vs).frozen? x)->∀ ty dc sc,(Builtin.copy_ #[22,22] ty #[.slice (some ⟨w.heap.size,(i+m),none⟩) (n+m-(i+m)) dc,.slice (some ⟨b,off+i,none⟩) (n-i) sc]).run Tryz.prog W=.ok (goInt (n-i:Nat)) (W.setCells w.heap.size ((i+m)) (cs.drop (i))):=fun W pT wx ty dc sc=>by
  have h:=xO (P:=Tryz.prog) 1 W 22 22 ty 3 w.heap.size ((i+m)) (n+m-(i+m)) dc ⟨b,off+i,none⟩ (n-i) sc (cs.drop (i)) Tryz.underlying22 Tryz.sizeOf3 (by rw[uj,vX];omega)
   (fun j v hj=>by
     rw[Addr.add_lit,pT,World.cell?_setCells_out _ _ _ _ _ (fun h _=>absurd h YG),Nat.add_assoc]
     exact wA _ v (gX (i+j) v (by rwa [List.getElem?_drop]at hj)))
   (fun j hj=>by rw[pT];exact isSome_setCells _ _ _ _ (fun t ht=>hN _ (by omega)) _ (hN _ (by omega)))
   (fun j hj=>by rw[wx,World.frozen?_setCells];exact LM _) (fun v hv=>wD v (List.mem_of_mem_drop hv))
  rw[vX]at h
  exact h
 subst hM
 have Zm:∀ x,((w.alloc (.cells ROW 3)).drew).cell? x=(w.drew.alloc (.cells ROW 3)).cell? x:=fun x=>rfl
 have Zl:∀ x,((w.alloc (.cells ROW 3)).drew).frozen? x=(w.drew.alloc (.cells ROW 3)).frozen? x:=fun x=>rfl
 have Zi:∀ x,(((w.alloc (.cells ROW 3)).drew.setCells w.heap.size (i) vs).drew).cell? x=((w.drew.alloc (.cells ROW 3)).setCells w.heap.size (i) vs).cell? x:=fun x=>rfl
 have Zh:∀ x,(((w.alloc (.cells ROW 3)).drew.setCells w.heap.size (i) vs).drew).frozen? x=((w.drew.alloc (.cells ROW 3)).setCells w.heap.size (i) vs).frozen? x:=fun x=>rfl
 have ey:IntKind.i64.wrap ((i:Int)+(m:Int))=(i:Int)+(m:Int):=by rw[IntKind.wrap_i64];omega
 have fA:(0:Int)<=(i:Int)+(m:Int):=by omega
 have gB:i<=n:=by omega
 have Xm:((i:Int)+(m:Int)).toNat=i+m:=by omega
 have Ed:(i:Int)<=(n:Int):=by omega
 clear zr wh hold r5 hG YW
 go_enter Tryz.func103,Tryz.ntmps103
 go_wp2_with (first
  |(at_builtin;refine Lib.wpList_append_run _ rfl _ _ _ _ rfl _ _ rfl rfl _ _ (tW _) ?_)
  |(at_builtin;refine wpList_copy_runI _ rfl _ _ 22 22 rfl _ _ rfl rfl (Yv _ Zm Zl _ _) ?_)
  |(at_builtin;refine wpList_copy_runI _ rfl _ _ 22 22 rfl _ _ rfl rfl (Lu _ (fun _=>rfl) (fun _=>rfl) _ _ _) ?_))
 go_region_law_o (refine step_copy_runI rfl _ _ 22 22 rfl (.slice (some ⟨w.heap.size,(i+m),none⟩) (n+m-(i+m)) (G-(i+m))) (.slice (some ⟨b,off+i,none⟩) (n-i) (c-i)) (by simp[Act.eval,Act.put]) (by simp[Act.eval,Act.put]) (Lu _ Zi Zh 3 (G-(i+m)) (c-i)) ?_)
 go_wp2
 go_ret
 exact⟨rfl,rfl⟩
set_option maxHeartbeats 4000000 in
set_option maxRecDepth 100000 in
theorem WS(base:Option Addr)(n c vb eY m vc:Nat)(w:World)(v':Value)(w':World)(hm:0<m)(hn:n<=c)(LA:c<=9223372036854775807)
 (cF:∀ ty,(Builtin.append_ #[22,22] ty #[.slice base n c,.slice (some ⟨vb,eY,none⟩) m vc]).run Tryz.prog w=.ok v' w'):
 Calls Tryz.prog 103 #[.slice base n c,.int .i64 n,.slice (some ⟨vb,eY,none⟩) m vc] w fun e w1=>e=.returned v'/\w1=w':=by
 have mixed:Tryz.prog.follows Departure.mixedOrders=true:=by kernel_rfl
 have fP:¬ ((m:Int)=0):=by omega
 go_enter Tryz.func103,Tryz.ntmps103
 cases base with
 |none=>
  go_wp2_with (at_builtin;refine Lib.wpList_append_run _ rfl _ _ _ _ rfl _ _ rfl rfl _ _ (cF _) ?_)
  all_goals (go_ret;exact⟨rfl,rfl⟩)
 |some a=>
  obtain⟨ab,ao,asp⟩:=a
  go_wp2_with (at_builtin;refine Lib.wpList_append_run _ rfl _ _ _ _ rfl _ _ rfl rfl _ _ (cF _) ?_)
  all_goals (go_ret;exact⟨rfl,rfl⟩)
open Go Go.Proofs
theorem WU:Pt Tryz.prog 103 22 3 1 8 (.int .i64 0):=
 ⟨by kernel_rfl,by kernel_rfl,by kernel_rfl,by decide,oa _ (by decide),jb Tryz.func103 (by rfl) (by kernel_rfl),
   by simpa only[Nat.mul_one]using @WR,by simpa only[Nat.mul_one]using @WT,WS⟩
noncomputable def S103:Spec:=vD Tryz.prog 22
theorem Wy:al Tryz.prog 103 S103:=WL WU
theorem OA{p q:Prop}{d:D}{o:Name->Option O}(h:p=q):(⟨p,d,o⟩:R)=⟨q,d,o⟩:=by rw[h]
theorem WM{obj:Name->Option O}{nm t:Name}{l:List Int}{x:Int}(h:obj nm=some (.arr 1 (l.map vInt)))(hl:l.length<=1000):
 S103.app obj t [.msl nm l.length,.v (vInt (bF l x)),.v (.sl [vInt x])]=⟨True,.msl nm (l.length+1),upd obj nm (some (.arr 1 ((cA l x).map vInt)))⟩:=by
 have rR:=yx l x
 have hm:l.length+1<=maxLen:=by unfold maxLen;omega
 have uu:cw Tryz.prog obj t 22 22 (.msl nm l.length) (.v (.sl [vInt x]))=⟨True,.msl nm (l.length+1),upd obj nm (some (.arr 1 (l.map vInt++[vInt x])))⟩:=by
  simp only[cw,Qe,P6,aA,h]
  have ei:∀ y∈[vInt x],y.cells.length=1/\y.okc=true:=by
   intro y hy
   simp only[List.mem_cons,List.not_mem_nil,or_false]at hy
   subst hy
   exact⟨rfl,rfl⟩
  simp only[List.length_map,List.length_cons,List.length_nil,Nat.zero_add]
  congr 1
  simp only[eq_iff_iff,iff_true]
  refine⟨trivial,?_⟩
  repeat' apply And.intro
  all_goals first | trivial | exact ei | rfl | omega
 show sE Tryz.prog obj t 22 (.msl nm l.length) (.v (vInt (bF l x))) (.v (.sl [vInt x]))=_
 unfold sE
 simp only[h,uu,Int.toNat_natCast,List.length_map]
 cases hb:Nat.beq (bF l x) l.length with
 |true=>
  have he:bF l x=l.length:=Nat.eq_of_beq_eq_true hb
  simp only
  have hi:(cA l x).map vInt=l.map vInt++[vInt x]:=by
   unfold cA
   rw[he,List.take_length,List.drop_length,List.append_nil,List.map_append];rfl
  rw[hi]
  exact OA (eq_true ⟨trivial,Int.natCast_nonneg _,by simp⟩)
 |false=>
  have he:bF l x≠l.length:=fun e=>by rw[e,Nat.beq_refl]at hb;cases hb
  simp only
  have hi:(cA l x).map vInt=(l.map vInt).take (bF l x)++[vInt x]++(l.map vInt).drop (bF l x):=by
   unfold cA
   rw[List.map_append,List.map_append,List.map_take,List.map_drop];rfl
  rw[hi]
  exact OA (eq_true ⟨trivial,Int.natCast_nonneg _,by omega,by simp⟩)
def jq(l:List Int)(x:Int):List Int:=if bO l x=true then l else cA l x
theorem BN{l:List Int}{x:Int}(h:bO l x=true):jq l x=l:=if_pos h
theorem BO{l:List Int}{x:Int}(h:bO l x=false):jq l x=cA l x:=if_neg (by rw[h];decide)
noncomputable def putC:CSpec where
 pre:=fun os ds=>∃ (l:List Int) (x:Int),os=[.arr 1 (l.map vInt)]/\ds=[.msl [0,1] l.length,.v (vInt x)]/\l.Pairwise (· < ·)/\l.length<=1000
 out:=fun os ds=>match os,ds with
  |[.arr _ L],[_,.v x]=>⟨[(0,.arr 1 ((jq (L.map c7) (c7 x)).map vInt))],[],.tup [.msl [0,1] (jq (L.map c7) (c7 x)).length,.v (.bool (!bO (L.map c7) (c7 x)))]⟩
  |_,_=>⟨[],[],.any⟩
noncomputable def qL(obj:Name->Option O)(_:Name):List D->R
 |[.msl nm k,.v x]=>match obj nm with
  |some (.arr 1 L)=>⟨k=L.length/\(L.map c7).map vInt=L/\vInt (c7 x)=x/\(L.map c7).Pairwise (· < ·)/\L.length<=1000,.tup [.msl nm (jq (L.map c7) (c7 x)).length,.v (.bool (!bO (L.map c7) (c7 x)))],upd obj nm (some (.arr 1 ((jq (L.map c7) (c7 x)).map vInt)))⟩
  |_=>.bad obj
 |_=>.bad obj
noncomputable def S67:Spec:=⟨qL,p9,p9⟩
attribute [go_sem] S67 qL
theorem SJ:S67.Near:=by
 refine Ce fun obj obj2 t ds ha=>⟨rfl,?_⟩
 have dJ:∀ wr,bq wr obj obj2->bE (R.bad obj) (R.bad obj2) obj obj2 wr:=fun wr h=>.none wr h
 unfold qL
 split
 ·rename_i nm k x
  have h1:obj2 nm=obj nm:=ha nm (by simp[p9])
  simp only[h1]
  split
  ·exact .one (by simp[p9]) ha
  ·exact dJ _ ha
 ·exact dJ _ ha
noncomputable def OQ:List (Nat×Spec):=[(52,S52),(103,S103)]
attribute [go_sem] OQ
theorem abZ:∀ f s,tbl OQ f=some s->al Tryz.prog f s:=tc Kk<|tc Wy<|tn
set_option maxHeartbeats 4000000 in
theorem VY:al Tryz.prog 67 putC.toSpec:=by
 refine oS (nt:=21) (rs:=[.tmp 4,.tmp 5]) Tryz.func67 rfl (by rfl) (by kernel_rfl) (jb Tryz.func67 rfl (by kernel_rfl)) (oa _ (by decide)) ?_
 rintro os ds ⟨l,x,rfl,rfl,hs,hl⟩
 refine⟨lb rfl,ld ?_⟩
 have fQ:putC.out [.arr 1 (l.map vInt)] [.msl [0,1] l.length,.v (vInt x)]=⟨[(0,.arr 1 ((jq l x).map vInt))],[],.tup [.msl [0,1] (jq l x).length,.v (.bool (!bO l x))]⟩:=by
  simp only[putC,M6,c7]
 rw[fQ]
 have hΓ:=abZ
 obtain⟨H,hH,h0,hO,gg⟩:=S6 1 (l.map vInt)
 rw[<-hH]
 clear hH fQ
 have EC:∀ (F:Name->Option O) (t:Name),S103.app (fun nm=>if own [0] nm=true then F nm else H nm) t [.msl [0,1] l.length,.v (vInt (bF l x)),.v (.sl [vInt x])]=⟨True,.msl [0,1] (l.length+1),upd (fun nm=>if own [0] nm=true then F nm else H nm) [0,1] (some (.arr 1 ((cA l x).map vInt)))⟩:=fun F t=>WM (by rw[<-h0];rfl) hl
 have vY:=WO l x
 simp only[eL,Nat.zero_add]
 repeat refine sq ?_
 refine rx hΓ [0,1] [] (fun K' hK=>by simp only[go_sem,hO,gg,h0];(repeat (refine⟨ah,?_⟩));exact hK _ (by simp only[go_sem,hO,gg,h0]) (by simp only[go_sem,hO,gg,h0]<;>rfl)) ?_
 repeat refine sq ?_
 refine rx hΓ [0,1,6,7] [] (fun K' hK=>by simp only[go_sem,hO,gg,h0,hs,List.length_map];(repeat (refine⟨ah,?_⟩));exact hK _ (by simp only[go_sem,hO,gg,h0,hs,List.length_map]) (by simp only[go_sem,hO,gg,h0,hs,List.length_map]<;>rfl)) ?_
 repeat refine sq ?_
 refine rx hΓ [0,1,6,14] [] (fun K' hK=>by simp only[go_sem,hO,gg,h0];(repeat (refine⟨ah,?_⟩));exact hK _ (by simp only[go_sem,hO,gg,h0]) (by simp only[go_sem,hO,gg,h0]<;>rfl)) ?_
 repeat refine sq ?_
 refine au rfl rfl (fun hb=>?_) (fun hb=>?_)
 ·repeat refine sq ?_
  have hr:=BN hb
  rw[hr,hb]
  repeat refine sq ?_
  refine rx hΓ [4,5] [] (fun K' hK=>by simp only[go_sem,hO,gg,h0];(repeat (refine⟨ah,?_⟩));exact hK _ (by simp only[go_sem,hO,gg,h0]) (by simp only[go_sem,hO,gg,h0]<;>rfl)) ?_
  refine an ?_
  simp only[go_sem,hO,gg,h0]
  skip
 ·repeat refine sq ?_
  have hr:=BO hb
  rw[hr,hb,vY]
  refine av ?_
  repeat refine sq ?_
  refine rx hΓ [4,5] [] (fun K' hK=>by simp only[go_sem,hO,gg,h0,EC];(repeat (refine⟨ah,?_⟩));exact hK _ (by simp only[go_sem,hO,gg,h0,EC]) (by simp only[go_sem,hO,gg,h0,EC]<;>rfl)) ?_
  refine an ?_
  simp only[go_sem,hO,gg,h0]
  skip
theorem VZ:al Tryz.prog 67 S67:=by
 refine Bl VY SJ (oa _ (by decide)) fun obj t ds aa=>?_
 change (qL obj t ds).ok at aa
 refine⟨ds,rfl,fun _ _ _ _ h=>h,?_⟩
 show _/\_=(qL obj t ds).d/\_=(qL obj t ds).obj
 unfold qL at aa |-
 split at aa
 ·rename_i nm k x
  split at aa
  ·rename_i L ho
   obtain⟨rfl,he,hx,hs,hl⟩:=aa
   have hr:reach obj [.msl nm L.length,.v x]=[nm]:=by
    unfold reach
    show dF obj (2998+1+1) [nm] []=[nm]
    simp only[dF,cE,List.any_nil,Bool.false_eq_true,if_false,ho,mZ,List.nil_append]
   have i0:idx [nm] nm=0:=by simp[idx]
   have e1:cm obj [.msl nm L.length,.v x]=[.arr 1 L]:=by
    unfold cm
    rw[hr]
    simp only[List.map_cons,List.map_nil,cl,ho,O.ren]
   have e2:cJ obj [.msl nm L.length,.v x]=[.msl [0,1] L.length,.v x]:=by
    unfold cJ
    rw[hr]
    simp only[D.renL,D.ren,cin,i0]
   have e3:(shut obj [nm]&&D.closL (cE [nm]) [.msl nm L.length,.v x]&&fresh obj t [])=true:=by
    simp[shut,ho,O.clos,D.closL,D.clos,cE,fresh]
   have cG:putC.pre [.arr 1 L] [.msl [0,1] L.length,.v x]:=⟨L.map c7,c7 x,by rw[he],by rw[List.length_map,hx],hs,by rw[List.length_map];exact hl⟩
   have fQ:putC.out [.arr 1 L] [.msl [0,1] L.length,.v x]=⟨[(0,.arr 1 ((jq (L.map c7) (c7 x)).map vInt))],[],.tup [.msl [0,1] (jq (L.map c7) (c7 x)).length,.v (.bool (!bO (L.map c7) (c7 x)))]⟩:=rfl
   have c0:cout [nm] t [0,1]=nm:=rfl
   simp only[CSpec.toSpec,e1,e2,hr,fQ,e3,cG,ho,and_self,cX]
   refine⟨trivial,?_,rfl⟩
   simp only[D.ren,D.renL,c0]
  ·exact aa.elim
 ·exact aa.elim
end Go.Eng
