import Derived.Test.YtckmfkgppohnmaaGreatDoorK8
/- Texts EngPe to KB. -/
set_option linter.all false
namespace Go.Eng
open Go
def Lp.J(r:Lp)(s:Nat):List O:=(if s=r.n then r.fin (LI r.m)else r.rc (LI r.m) .ready none)::r.fam (LI r.m) s
theorem Lp.last_e{r:Lp}(db:∀ j,j+1<r.n->r.st j=none):r.e=r.n/\(r.n=0->r.pd=none)/\∀ j,j+1=r.n->r.pd=r.st j:=by
 have key:∀ k,r.n=k+1->(List.range r.n).find? (fun s=>(r.st s).isSome)=if (r.st k).isSome=true then some k else none:=by
  intro k hk
  have h0:(List.range k).find? (fun s=>(r.st s).isSome)=none:=List.find?_eq_none.2 fun s hs=>by
   rw[db s (by have:=List.mem_range.1 hs;omega)];decide
  rw[hk,List.range_succ,List.find?_append,h0,Option.none_or]
  by_cases h:(r.st k).isSome=true
  ·rw[if_pos h];simp[List.find?,h]
  ·rw[if_neg h];simp[List.find?,h]
 cases hn:r.n with
 |zero=>
  have h0:(List.range r.n).find? (fun s=>(r.st s).isSome)=none:=by rw[hn];rfl
  refine⟨?_,fun _=>?_,fun j hj=>by omega⟩
  ·unfold Lp.e;rw[h0];exact hn
  ·unfold Lp.pd;rw[h0]
 |succ k=>
  have h0:=key k hn
  by_cases h:(r.st k).isSome=true
  ·rw[if_pos h]at h0
   refine⟨?_,fun h=>by omega,fun j hj=>?_⟩
   ·unfold Lp.e;rw[h0]
   ·obtain rfl:j=k:=by omega
    unfold Lp.pd;rw[h0]
  ·rw[if_neg h]at h0
   refine⟨?_,fun h=>by omega,fun j hj=>?_⟩
   ·unfold Lp.e;rw[h0];exact hn
   ·obtain rfl:j=k:=by omega
    unfold Lp.pd;rw[h0]
    cases hs:r.st j with
    |none=>rfl
    |some c=>rw[hs]at h;exact absurd rfl h
theorem Lp.J_zero{r:Lp}(db:∀ j,j+1<r.n->r.st j=none):r.J 0=r.rc (LI r.m) .ready none::r.fam (LI r.m) 0:=by
 unfold Lp.J
 by_cases h:0=r.n
 ·rw[if_pos h]
  unfold Lp.fin
  rw[(Lp.last_e db).2.1 h.symm]
  rfl
 ·rw[if_neg h]
theorem Lp.J_len{r:Lp}(hr:r.Ok)(s:Nat):(r.J s).length=r.m+1:=by unfold Lp.J;rw[List.length_cons,hr.len _ _ (gj _)]
theorem Lp.J_clos{r:Lp}(hr:r.Ok)(s:Nat):∀ o∈r.J s,∀ dom:Name->Bool,(∀ i,dom [i,1]=true)->O.clos dom o=true:=by
 intro o ho dom hd
 have gE:∀ x∈LI r.m,dom x=true:=fun x hx=>by
  obtain⟨i,_,rfl⟩:=List.mem_map.1 hx
  exact hd _
 rcases List.mem_cons.1 ho with rfl | ho
 ·split
  ·exact hr.closE _ _ (gj _) gE
  ·exact hr.closE _ _ (gj _) gE
 ·exact hr.closF _ _ _ (gj _) gE _ ho
theorem Lp.y_setJ{r:Lp}(hr:r.Ok)(db:∀ j,j+1<r.n->r.st j=none){s:Nat}(hs:s<r.n)(obj:Name->Option O)(tm:Name)(ho:∀ nm,cD nm=true->obj nm=bd (r.J s) nm):
 r.y.toSpec.app obj tm (.yld [0,1]::r.vals s)=⟨True,.v (.bool (r.st s).isNone),jn obj (r.J (s+1))⟩:=by
 have r8:(LI r.m).Nodup:=List.Pairwise.map _ (fun a b h=>by simpa using h) List.nodup_range
 have wz:([0,1]:Name)∉LI r.m:=fun h=>by
  obtain⟨i,_,hi⟩:=List.mem_map.1 h
  simp at hi
 have Y':r.J s=r.rc (LI r.m) .ready none::r.fam (LI r.m) s:=by unfold Lp.J;rw[if_neg (by omega)]
 rw[Y']at ho
 have h0:obj [0,1]=some (r.rc (LI r.m) .ready none):=by
  rw[ho _ rfl];rfl
 have hF:dt obj (LI r.m) (r.fam (LI r.m) s):=by
  rw[l5]
  refine List.ext_getElem (by rw[List.length_map,List.length_map,gj,hr.len _ _ (gj _)]) fun i h3 h4=>?_
  simp only[List.getElem_map,LI,List.getElem_range]
  rw[ho _ rfl]
  simp only[bd,List.getElem?_cons_succ]
  have h5:i<(r.fam (LI r.m) s).length:=by simpa using h4
  rw[List.getElem?_eq_getElem h5]
  rfl
 have uu:=Lp.y_app hr hs (fun j hj=>db j (by omega)) (t:=tm) (gj _) r8 wz h0 hF
 rw[uu]
 have cT:r.rc (LI r.m) (if (r.st s).isNone then .ready else .done) (r.st s)=(if s+1=r.n then r.fin (LI r.m)else r.rc (LI r.m) .ready none):=by
  by_cases h:s+1=r.n
  ·rw[if_pos h]
   unfold Lp.fin
   rw[(Lp.last_e db).2.2 s h]
  ·rw[if_neg h,db s (by omega)]
   rfl
 rw[cT]
 congr 1
 funext nm
 have hlen:=hr.len (LI r.m) (s+1) (gj _)
 by_cases hR:nm=[0,1]
 ·subst hR
  rw[aH]
  rfl
 ·rw[aN _ _ _ hR]
  unfold jn
  cases hx:cD nm with
  |false=>
   rw[yb hx,va]
   intro fR
   obtain⟨i,_,rfl⟩:=List.mem_map.1 fR
   cases hx
  |true=>
   obtain⟨i,rfl⟩:=vC.1 hx
   have ei:=G8 (obj:=obj) (F:=r.fam (LI r.m) (s+1)) r8 (by rw[gj,hlen])
   match i,hR with
   | 0,hR=>exact(hR rfl).elim
   |i+1,_=>
    simp only[Lp.J,bd,List.getElem?_cons_succ]
    by_cases hi:i<r.m
    ·have h6:=B' ei i (by rw[gj];exact hi) (by rw[hlen];exact hi)
     simp only[LI,List.getElem_map,List.getElem_range]at h6
     rw[show (r.fam (LI r.m) (s+1))[i]?=some (r.fam (LI r.m) (s+1))[i]from List.getElem?_eq_getElem (by rw[hlen];exact hi)]
     exact h6
    ·rw[List.getElem?_eq_none (by rw[hlen];omega),va]
     intro fR
     obtain⟨j,oA,X5⟩:=List.mem_map.1 fR
     have :=List.mem_range.1 oA
     simp at X5
     omega
theorem Lp.itJ_sound{P:Program}{r:Lp}(hr:r.Ok)(db:∀ j,j+1<r.n->r.st j=none){dn:List Name->List D}{f:FuncId}{fn:Func}{nt:Nat}(hf:P.funcs[f]?=some fn)(eQ:fn.ntmps=nt)(fx:fn.results.toList=[])(hn:(fn.name== "runtime.NumGoroutine")=false)(hy:f<1000000000)
 (hw:∃ c,fn.body=some c/\(dn (LI r.m)).length+1<=nt/\CL P [c] (aU nt [0] (bd (r.J 0)) (eL 0 (.yld [0,1]::dn (LI r.m))) []) (fun e σ=>(e=.normal\/e=.ret)/\∀ i,σ.obj [i,1]=bd (r.J r.n) [i,1])):al P f (r.itC dn).toSpec:=by
 obtain⟨c,hc,hl,hw⟩:=hw
 refine oS hf hc eQ fx (jb hf hc hn) (Nat.ne_of_lt (show f<yid from hy)) ?_
 rintro os ds ⟨rfl,rfl⟩
 rw[Lp.J_zero db]at hw
 refine⟨by simpa using hl,CW.mono (ld hw) ?_⟩
 rintro e σ ⟨he,fy⟩
 have fin:(bX P σ []).ok/\(bX P σ []).d=.tup []/\gI (r.rc (LI r.m) .ready none::r.fam (LI r.m) 0) ⟨(0,r.fin (LI r.m))::eM 1 (r.fam (LI r.m) r.e),[],.tup []⟩ σ:=by
  refine Lp.it_end hr ?_ ?_
  ·rw[fy]
   unfold Lp.J
   rw[if_pos rfl]
   rfl
  ·rw[(Lp.last_e db).1,l5]
   refine List.ext_getElem (by rw[List.length_map,List.length_map,gj,hr.len _ _ (gj _)]) fun i h3 h4=>?_
   simp only[List.getElem_map,LI,List.getElem_range]
   rw[fy]
   simp only[Lp.J,bd,List.getElem?_cons_succ]
   have h5:i<(r.fam (LI r.m) r.n).length:=by simpa using h4
   rw[List.getElem?_eq_getElem h5]
   rfl
 rcases he with rfl | rfl
 ·exact fin
 ·exact fin
open Go Go.Proofs
def bw(e:Dk)(hn:Name)(n:Nat):List D:=(List.map D.v (ak e)).set 1 (.msl hn n)
@[go_sem] theorem aaZ(e:Dk)(hn:Name)(n:Nat):(bw e hn n).length=63:=mW _ _ _
@[go_sem] theorem w5(dom:Name->Bool)(e:Dk)(hn:Name)(n:Nat):D.closL dom (bw e hn n)=dom hn:=by
  have :=Nt dom (ak e) 1 hn n
  rw[show decide ((ak e).length<=1)=false from rfl,Bool.or_false]at this
  exact this
@[go_sem] theorem NO(f:Name->Name)(e:Dk)(hn:Name)(n:Nat):D.renL f (bw e hn n)=bw e (f hn) n:=BE _ _ _ _ _
@[go_sem] theorem agG(e:Dk)(hn:Name)(n:Nat):(bw e hn n).take 63=bw e hn n:=MY _ _ _
@[go_sem] theorem agF(e:Dk)(hn:Name)(n:Nat):(bw e hn n).drop 63=[]:=List.drop_of_length_le (by rw[aaZ];exact Nat.le_refl _)
theorem sB(e:Dk)(hn:Name)(n:Nat){f:Nat}(hf:f<6):(bw e hn n).getD (14+f) .any=.v (vInt (e.now.ta.get f)):=
 ix (P:=fun f=>(bw e hn n).getD (14+f) .any=.v (vInt (e.now.ta.get f))) rfl rfl rfl rfl rfl rfl hf
@[go_sem] theorem agE(e:Dk)(hn:Name)(n:Nat):(bw e hn n).getD 1 .any=.msl hn n:=rfl
@[go_sem] theorem agD(e:Dk)(hn rN:Name)(n n':Nat):List.take 1 (bw e hn n)++[D.msl rN n']++List.drop 2 (bw e hn n)=bw e rN n':=rfl
theorem aaY(e:Dk)(hn:Name)(n:Nat)(x:Int){f:Nat}(hf:f<6):List.take (14+f) (bw e hn n)++[D.v (vInt x)]++List.drop (14+f+1) (bw e hn n)=bw (e.setN ⟨e.now.ho,e.now.un,e.now.se,e.now.ta.set f x⟩) hn n:=
 ix (P:=fun f=>List.take (14+f) (bw e hn n)++[D.v (vInt x)]++List.drop (14+f+1) (bw e hn n)=bw (e.setN ⟨e.now.ho,e.now.un,e.now.se,e.now.ta.set f x⟩) hn n) rfl rfl rfl rfl rfl rfl hf
theorem aa0(e:Dk)(hn:Name)(n:Nat):(bw e hn n)[1]?=some (.msl hn n):=rfl
theorem aaX(e:Dk)(hn nm:Name)(n k:Nat)(se:Int)(ps:List Par){f:Nat}(hf:f<6)(iU:se=e.now.se.get f):List.take (2+f) (bI e f (.msl hn n) nm k se)++[D.v (.sl (ps.map encPa))]++List.drop (2+f+1) (bI e f (.msl hn n) nm k se)=bw (e.setN ⟨e.now.ho,e.now.un.set f ps,e.now.se,e.now.ta⟩) hn n:=by
 subst iU
 rw[sZ (by rw[mE];omega),<-wY e f (.v (fV e.now.ho)) (.msl hn n) nm k (e.now.se.get f),List.set_comm _ _ (show 1≠2+f by omega),FG e _ _ _ _ _ hf,bj.set_self _ _ hf]
 rfl
set_option maxRecDepth 10000 in
theorem yq(e:Dk)(hn:Name)(n:Nat):dH (bw e hn n)=[hn]:=rfl
def mr(x:V)(p:D):List (Name×O):=[([2,0],.box (x.L.map .v)),([3,0],.box [p])]
noncomputable def wH:CSpec where
 pre:=fun os ds=>∃ (b:Bag) (e:Dk) (n off:Nat) (l:List V),os=[.box (bw e [1,1] n),.arr 1 l]/\ds=[.v (.agg (aP b)),.ref [0,1] off]
 out:=fun _ ds=>match ds with
  |[.v x,p]=>⟨[],mr x p,.clo (.func 102) [] [.ref [2,0] 0,.ref [3,0] 0]⟩
  |_=>⟨[],[],.any⟩
noncomputable def S66:Spec:=wH.toSpec
theorem ZI{b:Bag}{e:Dk}{n off:Nat}{l:List V}{obj:Name->Option O}{t nm h:Name}(h1:obj nm=some (.box (bw e h n)))(h2:obj h=some (.arr 1 l))(hn:nm≠h):
 S66.app obj t [.v (.agg (aP b)),.ref nm off]=⟨fresh obj t (mr (.agg (aP b)) (.ref nm off))=true,.clo (.func 102) [] [.ref ([2,0]++t) 0,.ref ([3,0]++t) 0],upd (upd obj ([2,0]++t) (some (.box ((aP b).map .v)))) ([3,0]++t) (some (.box [.ref nm off]))⟩:=by
 have hr:reach obj [.v (.agg (aP b)),.ref nm off]=[nm,h]:=by
  unfold reach
  show dF obj (2996+1+1+1+1) [nm] []=[nm,h]
  simp[dF,gT,h1,h2,mZ,yq,Ne.symm hn]
 have i0:idx [nm,h] nm=0:=by simp[idx]
 have i1:idx [nm,h] h=1:=by simp[idx,hn]
 have e1:cm obj [.v (.agg (aP b)),.ref nm off]=[.box (bw e [1,1] n),.arr 1 l]:=by
  unfold cm
  rw[hr]
  simp only[List.map_cons,List.map_nil,cl,h1,h2,O.ren,NO,cin,i1]
 have e2:cJ obj [.v (.agg (aP b)),.ref nm off]=[.v (.agg (aP b)),.ref [0,1] off]:=by
  unfold cJ
  rw[hr]
  simp only[D.renL,D.ren,cin,i0]
 have fY:shut obj [nm,h]=true:=by simp[shut,h1,h2,O.clos,w5,cE]
 have bR:D.closL (cE [nm,h]) [.v (.agg (aP b)),.ref nm off]=true:=by simp[D.closL,D.clos,cE]
 have hp:wH.pre [.box (bw e [1,1] n),.arr 1 l] [.v (.agg (aP b)),.ref [0,1] off]:=⟨b,e,n,off,l,rfl,rfl⟩
 have fQ:wH.out [.box (bw e [1,1] n),.arr 1 l] [.v (.agg (aP b)),.ref [0,1] off]=⟨[],mr (.agg (aP b)) (.ref [0,1] off),.clo (.func 102) [] [.ref [2,0] 0,.ref [3,0] 0]⟩:=rfl
 have c1:cout [nm,h] t [2,0]=[2,0]++t:=rfl
 have c2:cout [nm,h] t [3,0]=[3,0]++t:=rfl
 have c3:cout [nm,h] t [0,1]=nm:=rfl
 have ck:fresh obj t (mr (.agg (aP b)) (.ref [0,1] off))=fresh obj t (mr (.agg (aP b)) (.ref nm off)):=rfl
 simp only[S66,CSpec.toSpec,e1,e2,hr,fY,bR,Bool.true_and,hp,and_true,fQ,b9,ck]
 simp only[D.ren,D.renL,c1,c2,mr,cX,O.ren,V.L,ti,c3]
attribute [go_sem] mr V.L
set_option maxHeartbeats 4000000 in
theorem V0:al Tryz.prog 66 S66:=by
 refine oS (nt:=6) (rs:=[.tmp 4]) Tryz.func66 rfl (by rfl) (by kernel_rfl) (jb Tryz.func66 rfl (by kernel_rfl)) (oa _ (by decide)) ?_
 rintro os ds ⟨b,e,n,off,l,rfl,rfl⟩
 refine⟨lb rfl,ld ?_⟩
 have fQ:wH.out [.box (bw e [1,1] n),.arr 1 l] [.v (.agg (aP b)),.ref [0,1] off]=⟨[],mr (.agg (aP b)) (.ref [0,1] off),.clo (.func 102) [] [.ref [2,0] 0,.ref [3,0] 0]⟩:=rfl
 rw[fQ]
 have hΓ:=@jY Tryz.prog
 have hO:∀ hs,bT [0] (bM [0] hs) (bd [.box (bw e [1,1] n),.arr 1 l])=True:=fun hs=>eq_true (vn (by
  intro o ho dom hd
  simp only[List.mem_cons,List.not_mem_nil,or_false]at ho
  rcases ho with rfl | rfl
  ·simp only[O.clos,w5];exact hd 1
  ·rfl) hs)
 have h0:bd [.box (bw e [1,1] n),.arr 1 l] [0,1]=some (.box (bw e [1,1] n)):=rfl
 have h1:bd [.box (bw e [1,1] n),.arr 1 l] [1,1]=some (.arr 1 l):=rfl
 generalize bd [.box (bw e [1,1] n),.arr 1 l]=H at *
 simp only[eL,Nat.zero_add]
 repeat refine sq ?_
 refine rx hΓ [2,3] [[2,0],[3,0]] (fun K' hK=>by simp only[go_sem,hO,h0,h1];(repeat (refine⟨ah,?_⟩));exact hK _ (by simp only[go_sem,hO,h0,h1]) (by simp only[go_sem,hO,h0,h1]<;>rfl)) ?_
 repeat refine sq ?_
 refine rx hΓ [4] [[2,0],[3,0]] (fun K' hK=>by simp only[go_sem,hO,h0,h1];(repeat (refine⟨ah,?_⟩));exact hK _ (by simp only[go_sem,hO,h0,h1]) (by simp only[go_sem,hO,h0,h1]<;>rfl)) ?_
 refine an ?_
 simp only[go_sem,hO,h0,h1]
 skip
abbrev oT (d:Dk) (b:Bag) (z:Nat):Stk:=bA b.fr.toNat b.ps (bp d b) z
abbrev oE (d:Dk) (b:Bag) (z:Nat):Int:=dS b.fr.toNat b.ps (bp d b) z
structure lR (d:Dk) (b:Bag) (k0 m n:Nat) (er:Int):Prop where
 hk:k0+m<=b.ps.length
 hn:(er=0/\n=m/\k0+m=b.ps.length)\/(er≠0/\n=m+1/\k0+m<b.ps.length)
 pre:∀ i (h:i<b.ps.length),i<k0->di b.fr.toNat (bp d b) b.ps[i]=false
 T0:∀ i,i<=k0->oT d b i=bp d b
 good:∀ j,j<m->∀ h:k0+j<b.ps.length,di b.fr.toNat (oT d b (k0+j)) b.ps[k0+j]=true/\eu b.fr.toNat (oT d b (k0+j)) b.ps[k0+j]=0
 bad:er≠0->∀ h:k0+m<b.ps.length,di b.fr.toNat (oT d b (k0+m)) b.ps[k0+m]=true/\eu b.fr.toNat (oT d b (k0+m)) b.ps[k0+m]=er
 er0:∀ z,z<=k0+m->oE d b z=0
theorem x8{l:List Par}(h:cf l=true):∀ i (hi:i<l.length),l[i].no=(l.getD 0 default).no+i:=by
 unfold cf at h
 rw[Bool.and_eq_true,jf]at h
 intro i hi
 induction i with
 |zero=>rw[getD_at hi];simp
 |succ i ih=>
  have :=h.1 (i+1) hi
  unfold fI at this
  simp only[Bool.and_eq_true,Bool.or_eq_true,beq_iff_eq,Nat.add_sub_cancel]at this
  rw[getD_at (show i<l.length by omega),getD_at hi]at this
  have h2:=ih (by omega)
  rcases this.2 with h3 | h3
  ·omega
  ·omega
theorem Ta{d:Dk}{b:Bag}(hb:fq b=true):∃ k0 m n er,lR d b k0 m n er:=by
 obtain⟨_,_,hf,_,_,_,_⟩:=qm hb
 have pM:cf b.ps=true:=by unfold fq at hb;simp only[Bool.and_eq_true]at hb;exact hb.1.2
 have dJ:=x8 pM
 obtain⟨f,zy⟩:∃ f,f=b.fr.toNat:=⟨_,rfl⟩
 obtain⟨k0,DR⟩:∃ k0,k0=b.ps.findIdx (fun p=>di b.fr.toNat (bp d b) p):=⟨_,rfl⟩
 have rU:k0<=b.ps.length:=by rw[DR];exact List.findIdx_le_length
 have cG:∀ i (h:i<b.ps.length),i<k0->di b.fr.toNat (bp d b) b.ps[i]=false:=fun i h hi=>by
  have :=List.not_of_lt_findIdx (p:=fun p=>di b.fr.toNat (bp d b) p) (xs:=b.ps) (by rw[<-DR];exact hi)
  simpa using this
 have jI:∀ h:k0<b.ps.length,di b.fr.toNat (bp d b) b.ps[k0]=true:=fun h=>by
  subst DR
  exact List.findIdx_getElem (w:=h)
 have El:∀ i,i<=k0->oT d b i=bp d b:=by
  intro i hi
  induction i with
  |zero=>rfl
  |succ i ih=>
   have h1:=ih (by omega)
   have h2:=GV b.fr.toNat b.ps (bp d b) (i:=i) (by omega) (by rw[show bA b.fr.toNat b.ps (bp d b) i=bp d b from h1];exact cG i (by omega) (by omega))
   exact h2.trans h1
 have LV:∀ i,i<=k0->oE d b i=0:=by
  intro i hi
  induction i with
  |zero=>rfl
  |succ i ih=>
   refine z7 (by omega) (ih (by omega)) (Ig _ _ _ ?_)
   have h1:=El i (by omega)
   rw[show bA b.fr.toNat b.ps (bp d b) i=bp d b from h1]
   exact cG i (by omega) (by omega)
 have oC:∀ j,k0+j<=b.ps.length->(∀ i,i<j->∀ h:k0+i<b.ps.length,eu b.fr.toNat (oT d b (k0+i)) b.ps[k0+i]=0)->
     (oT d b (k0+j)).ta.get b.fr.toNat=(bp d b).ta.get b.fr.toNat+j/\oE d b (k0+j)=0/\∀ h:k0+j<b.ps.length,di b.fr.toNat (oT d b (k0+j)) b.ps[k0+j]=true:=by
  intro j
  have zk:∀ j,(oT d b (k0+j)).ta.get b.fr.toNat=(bp d b).ta.get b.fr.toNat+j->∀ h:k0+j<b.ps.length,di b.fr.toNat (oT d b (k0+j)) b.ps[k0+j]=true:=by
   intro j ht h
   have h1:=jI (by omega)
   unfold di at h1 |-
   rw[beq_iff_eq]at h1 |-
   rw[ht]
   have h2:=dJ k0 (by omega)
   have h3:=dJ (k0+j) h
   omega
  induction j with
  |zero=>
   intro _ _
   have h1:oT d b (k0+0)=bp d b:=El k0 (Nat.le_refl _)
   refine⟨by rw[h1];simp,LV k0 (Nat.le_refl _),zk 0 (by rw[h1];simp)⟩
  |succ j ih=>
   intro hj hg
   obtain⟨h1,h2,h3⟩:=ih (by omega) (fun i hi h=>hg i (by omega) h)
   have ae:k0+j<b.ps.length:=by omega
   have h4:=Bk b.fr.toNat b.ps (bp d b) ae (h3 ae)
   have h5:(oT d b (k0+(j+1))).ta.get b.fr.toNat=(bp d b).ta.get b.fr.toNat+((j+1:Nat):Int):=by
    have h6:oT d b (k0+(j+1))=_:=h4
    rw[h6]
    show ((oT d b (k0+j)).ta.set b.fr.toNat ((oT d b (k0+j)).ta.get b.fr.toNat+1)).get b.fr.toNat=_
    rw[((oT d b (k0+j)).ta.get_set (i:=b.fr.toNat) (j:=b.fr.toNat) _ hf).1,h1]
    omega
   exact⟨h5,z7 ae h2 (hg j (by omega) ae),zk (j+1) h5⟩
 have fin:∀ m n er,k0+m<=b.ps.length->((er=0/\n=m/\k0+m=b.ps.length)\/(er≠0/\n=m+1/\k0+m<b.ps.length))->
     (∀ i,i<m->∀ h:k0+i<b.ps.length,eu b.fr.toNat (oT d b (k0+i)) b.ps[k0+i]=0)->(er≠0->∀ h:k0+m<b.ps.length,eu b.fr.toNat (oT d b (k0+m)) b.ps[k0+m]=er)->lR d b k0 m n er:=by
  intro m n er h1 h2 h3 h4
  refine⟨h1,h2,cG,El,fun j hj h=>⟨(oC j (by omega) (fun i hi h=>h3 i (by omega) h)).2.2 h,h3 j hj h⟩,fun he h=>⟨(oC m h1 h3).2.2 h,h4 he h⟩,fun z hz=>?_⟩
  rcases Nat.lt_or_ge z k0 with h5 | h5
  ·exact LV z (by omega)
  ·have:=(oC (z-k0) (by omega) (fun i hi h=>h3 i (by omega) h)).2.1
   rwa [show k0+(z-k0)=z by omega]at this
 have go:∀ r j,k0+j+r=b.ps.length->(∀ i,i<j->∀ h:k0+i<b.ps.length,eu b.fr.toNat (oT d b (k0+i)) b.ps[k0+i]=0)->∃ m n er,lR d b k0 m n er:=by
  intro r
  induction r with
  |zero=>intro j hj hg;exact⟨j,j,0,fin j j 0 (by omega) (.inl ⟨rfl,rfl,by omega⟩) hg (fun h=>absurd rfl h)⟩
  |succ r ih=>
   intro j hj hg
   have ae:k0+j<b.ps.length:=by omega
   by_cases he:eu b.fr.toNat (oT d b (k0+j)) b.ps[k0+j]=0
   ·refine ih (j+1) (by omega) fun i hi h=>?_
    rcases Nat.lt_succ_iff_lt_or_eq.1 hi with h5 | h5
    ·exact hg i h5 h
    ·subst h5;exact he
   ·exact⟨j,j+1,_,fin j (j+1) _ (by omega) (.inr ⟨he,rfl,ae⟩) hg (fun _ _=>rfl)⟩
 obtain⟨m,n,er,h⟩:=go (b.ps.length-k0) 0 (by omega) (fun i hi=>by omega)
 exact⟨k0,m,n,er,h⟩
@[go_sem] theorem agR(b:Bag):(List.map D.v (aP b)).getD 2 .any=.v (rowP b.ps):=rfl
set_option maxRecDepth 10000 in
set_option maxHeartbeats 8000000 in
theorem PW{sY:Spec}(hY:al Tryz.prog yid sY){d:Dk}{b:Bag}{k0 m n:Nat}{er:Int}(hw:lR d b k0 m n er)(hf:b.fr.toNat<6)(bV:b.ps.length<=40)
 (Xo:∀ z,z<=k0+m->0<=(oT d b z).ta.get b.fr.toNat/\(oT d b z).ta.get b.fr.toNat<=99999)
 {J:Nat->List O} (hJ:∀ s,(J s).length=(J 0).length) (hc:∀ s,∀ o∈J s,∀ dom:Name->Bool,(∀ i,dom [i,1]=true)->O.clos dom o=true)
 (hA:∀ s,bd (J s) [6,1]=some (.box ((aP b).map .v))) (hB:∀ s,bd (J s) [7,1]=some (.box [.ref [4,1] (14+b.fr.toNat)]))
 {e:Nat->Dk} {q:Nat->Nat} (r7:∀ s,bd (J s) [4,1]=some (.box (bw (e s) [5,1] (q s)))) (he:∀ s,s<=m->(e s).now.ta.get b.fr.toNat=(oT d b (k0+s)).ta.get b.fr.toNat)
 (kN:∀ s,s<n->∀ obj tm,(∀ nm,cD nm=true->obj nm=bd (J s) nm)->sY.app obj tm [.yld [0,1],.agg [.v (vInt (b.ps.getD (k0+s) default).no),.v (vInt (b.ps.getD (k0+s) default).pa)]]=⟨True,.v (.bool (decide (s<m))),jn obj (J (s+1))⟩):
 ∃ c',Tryz.f102.body=some c'/\CL Tryz.prog [c'] (aU 27 [0] (bd (J 0)) [(0,⟨true,.yld [0,1]⟩),(1,⟨true,.ref [6,1] 0⟩),(2,⟨true,.ref [7,1] 0⟩)] [])
   (fun e σ=>(e=.normal\/e=.ret)/\∀ i,σ.obj [i,1]=bd (J n) [i,1]):=by
 refine⟨_,rfl,?_⟩
 have hP:=ba
 obtain⟨Γ,hΓ,eh⟩:∃ Γ:FuncId->Option Spec,(∀ f s,Γ f=some s->al Tryz.prog f s)/\Γ 1000000000=some sY:=by
  refine⟨fun f=>if f=1000000000 then some sY else none,fun f s h=>?_,rfl⟩
  dsimp only at h
  split at h
  ·rename_i e;cases h;subst e;exact hY
  ·cases h
 have hO:∀ s hs,bT [0] (bM [0] hs) (bd (J s))=True:=fun s hs=>eq_true (vn (hc s) hs)
 have fw:∀ s,jn (bd (J s)) (J (s+1))=bd (J (s+1)):=fun s=>QN ((hJ _).trans (hJ s).symm)
 obtain⟨H,hH⟩:∃ H:Nat->Name->Option O,∀ s,bd (J s)=H s:=⟨_,fun _=>rfl⟩
 simp only[hH]at hO fw kN hA hB r7 |-
 have hl:b.ps.length<=maxLen:=by unfold maxLen;omega
 have fe:n=m\/n=m+1:=by rcases hw.hn with h | h<;>omega
 repeat refine sq ?_
 refine rx hΓ [0,2,7,8,9] [] (fun K' hK=>by simp only[go_sem,hO,hA];(repeat (refine⟨ah,?_⟩));exact hK _ (by simp only[go_sem,hO,hA]) (by simp only[go_sem,hO,hA]<;>rfl)) ?_
 repeat refine sq ?_
 refine aO ?_
 repeat refine sq ?_
 refine FA (fun z:Nat=>aU 27 [0] (H (z-k0)) [(0,⟨true,.yld [0,1]⟩),(2,⟨true,.ref [7,1] 0⟩),(7,⟨true,.v (.sl (b.ps.map encPa))⟩),(8,⟨true,.v (vInt b.ps.length)⟩),(9,⟨true,.v (vInt z)⟩)] [])
  (fun z=>z<=b.ps.length/\z<=k0+m) (fun z=>b.ps.length-z) 0 ⟨Nat.zero_le _,Nat.zero_le _⟩ (by rw[Nat.zero_sub];exact dq.refl _) ?_
 rintro i ⟨hi,him⟩
 repeat refine sq ?_
 refine rx hΓ [0,2,7,8,9,10] [] (fun K' hK=>by simp only[go_sem,hO];(repeat (refine⟨ah,?_⟩));exact hK _ (by simp only[go_sem,hO]) (by simp only[go_sem,hO]<;>rfl)) ?_
 repeat refine sq ?_
 refine au rfl rfl (fun hb=>?_) (fun hb=>?_)
 ·have ae:i<b.ps.length:=by simpa using hb
  have ai:(i:Int)<b.ps.length:=by omega
  have yZ:IntKind.i64.wrap ((i:Int)+1)=((i+1:Nat):Int):=aD ae hl
  clear hb
  have XS:i-k0<=m:=by omega
  have C9:=he (i-k0) XS
  have pI:=Xo (k0+(i-k0)) (by omega)
  have w1:IntKind.i64.wrap ((e (i-k0)).now.ta.get b.fr.toNat+1)=(e (i-k0)).now.ta.get b.fr.toNat+1:=by rw[C9];exact wrap_i64 (by omega) (by omega)
  repeat refine sq ?_
  refine av ?_
  repeat refine sq ?_
  refine aO ?_
  repeat refine sq ?_
  refine rx hΓ [0,2,5,7,8,9] [[5,0]] (fun K' hK=>by simp only[go_sem,hO,aI ae,Int.toNat_natCast,Int.natCast_nonneg,ai];(repeat (refine⟨ah,?_⟩));exact hK _ (by simp only[go_sem,hO,aI ae,Int.toNat_natCast,Int.natCast_nonneg,ai]) (by simp only[go_sem,hO,aI ae,Int.toNat_natCast,Int.natCast_nonneg,ai]<;>rfl)) ?_
  by_cases Xb:i<k0
  ·have hz:i-k0=0:=by omega
   have heq:(b.ps[i].no==(e (i-k0)).now.ta.get b.fr.toNat+1)=false:=by
    have h1:=hw.pre i ae Xb
    rw[C9,hz,Nat.add_zero,hw.T0 k0 (Nat.le_refl _)]
    exact h1
   have lx:i+1-k0=i-k0:=by omega
   repeat refine sq ?_
   refine dx hΓ hP [[],[0],[],[2],[2,3],[2,3,4],[0,1,2,3,4,5],[0,1,2,3,4,5,6],[0,1,2,3,4,5,6,7],[0,1,2,3,4,5,6,7],[0,1,2,3,4,5,6,7,8,9],[0,1,2,3,4,5,6,7,8,9,10],[0,1,2,3,4,5,6,7,8,9,10,11]] [0,2,7,8,9,25] [[5,0]] (by kernel_rfl) (fun K' hK=>by simp only[go_sem,hO,hB,r7,sB _ _ _ hf,w1,heq];(repeat (refine⟨ah,?_⟩));(first | refine⟨by rfl,?_⟩ | skip);exact hK _ (by simp only[go_sem,hO,hB,r7,sB _ _ _ hf,w1,heq]) (by simp only[go_sem,hO,hB,r7,sB _ _ _ hf,w1,heq]<;>rfl)) ?_
   repeat refine sq ?_
   refine au rfl rfl (fun hb=>?_) (fun hb=>?_)
   ·cases hb
   repeat refine sq ?_
   refine av ?_
   refine ct ?_
   simp only[go_sem]
   refine kj [0,2,7,8,9] [] ?_ ?_
   ·simp only[go_sem,hO]
   simp only[go_sem,hO]
   repeat refine sq ?_
   refine aL hΓ fun K' hK=>?_
   simp only[go_sem]
   repeat (refine⟨ah,?_⟩)
   refine hK _ ?_
   clear K' hK
   simp only[go_sem]
   refine⟨i+1,⟨ae,by omega⟩,by omega,?_⟩
   rw[lx]
   refine bk [0,2,7,8,9] [] ?_ ?_
   ·simp only[go_sem,hO,yZ]
   ·simp only[go_sem,hO,yZ]
  ·have mf:k0+(i-k0)=i:=by omega
   have jB:i-k0<n:=by
    rcases hw.hn with⟨_,h1,h2⟩ | ⟨_,h1,h2⟩<;>omega
   have zk:di b.fr.toNat (oT d b i) b.ps[i]=true:=by
    rcases Nat.lt_or_ge (i-k0) m with h1 | h1
    ·have h2:=(hw.good (i-k0) h1 (by omega)).1
     simp only[mf]at h2
     exact h2
    ·have h3:i=k0+m:=by omega
     rcases hw.hn with⟨_,h4,h5⟩ | ⟨h4,h5,h6⟩
     ·omega
     ·have h2:=(hw.bad h4 (by omega)).1
      simp only[<-h3]at h2
      exact h2
   have heq:(b.ps[i].no==(e (i-k0)).now.ta.get b.fr.toNat+1)=true:=by
    rw[C9,mf]
    exact zk
   have LJ:=kN (i-k0) jB
   rw[mf,getD_at ae]at LJ
   have Ef:=fun (F:Name->Option O) (tm:Name)=>LJ (fun nm=>if own [0] nm=true then F nm else H (i-k0) nm) tm fun nm hn=>by
    obtain⟨k,rfl⟩:=vC.1 hn
    simp[vm]
   have Df:∀ (obj:Name->Option O) (L:List O),jn obj L [5,0]=obj [5,0]:=fun _ _=>rfl
   repeat refine sq ?_
   refine dx hΓ hP [[],[0],[],[2],[2,3],[2,3,4],[0,1,2,3,4,5],[0,1,2,3,4,5,6],[0,1,2,3,4,5,6,7],[0,1,2,3,4,5,6,7],[0,1,2,3,4,5,6,7,8,9],[0,1,2,3,4,5,6,7,8,9,10],[0,1,2,3,4,5,6,7,8,9,10,11]] [0,2,7,8,9,25] [[5,0]] (by kernel_rfl) (fun K' hK=>by simp only[go_sem,hO,hB,r7,sB _ _ _ hf,w1,heq,eh,Ef,Df,Ci,Ge,fw];(repeat (refine⟨ah,?_⟩));(first | refine⟨by rfl,?_⟩ | skip);exact hK _ (by simp only[go_sem,hO,hB,r7,sB _ _ _ hf,w1,heq,eh,Ef,Df,Ci,Ge,fw]) (by simp only[go_sem,hO,hB,r7,sB _ _ _ hf,w1,heq,eh,Ef,Df,Ci,Ge,fw]<;>rfl)) ?_
   repeat refine sq ?_
   refine au rfl rfl (fun hb=>?_) (fun hb=>?_)
   ·have h1:¬ i-k0<m:=by simpa using hb
    have h2:i-k0+1=n:=by omega
    refine an ?_
    simp only[go_sem]
    rw[h2]
    exact⟨.inr trivial,fun k=>by simp[vm]⟩
   have h1:i-k0<m:=by simpa using hb
   have h2:i+1-k0=i-k0+1:=by omega
   repeat refine sq ?_
   refine av ?_
   refine ct ?_
   simp only[go_sem]
   refine kj [0,2,7,8,9] [] ?_ ?_
   ·simp only[go_sem,hO]
   simp only[go_sem,hO]
   repeat refine sq ?_
   refine aL hΓ fun K' hK=>?_
   simp only[go_sem]
   repeat (refine⟨ah,?_⟩)
   refine hK _ ?_
   clear K' hK
   simp only[go_sem]
   refine⟨i+1,⟨ae,by omega⟩,by omega,?_⟩
   rw[h2]
   refine bk [0,2,7,8,9] [] ?_ ?_
   ·simp only[go_sem,hO,yZ]
   ·simp only[go_sem,hO,yZ]
 ·have aW:i=b.ps.length:=by
    have :¬ (i:Int)<b.ps.length:=by simpa using hb
    omega
  have ar:i-k0=n:=by
   rcases hw.hn with⟨_,h1,h2⟩ | ⟨_,h1,h2⟩<;>omega
  clear hb
  repeat refine sq ?_
  refine b7 ?_
  simp only[go_sem]
  rw[ar]
  exact⟨.inl rfl,fun k=>by rw[IH];simp[vm]⟩
set_option maxRecDepth 10000
def qH:Code->Option (Array Tmp×Code×Code)
 | .seq a b=>match qH a with | some x=>some x | none=>qH b
 | .block _ b=>qH b
 | .loop b=>qH b
 | .cond _ a b=>match qH a with | some x=>some x | none=>qH b
 | .rangeFunc _ ps a b=>some (ps,a,b)
 |_=>none
def xQ(fn:Func):Array Tmp×Code×Code:=((fn.body.bind qH).getD (#[],.skip,.skip))
theorem pv{Ls:List Name}(h:Ls.length=7):∃ a b c d e f g,Ls=[a,b,c,d,e,f,g]:=by
 match Ls,h with
 |[a,b,c,d,e,f,g],_=>exact⟨a,b,c,d,e,f,g,rfl⟩
def qJ(p:Par):D:=.agg [.v (vInt p.no),.v (vInt p.pa)]
def de(d:Dk)(b:Bag)(k0 m s:Nat):Stk:=oT d b (k0+min s m)
def ga(d:Dk)(b:Bag)(k0 m s:Nat):List Int:=if s<=m then(oT d b (k0+min s m)).ho else jq (oT d b (k0+m)).ho (b.ps.getD (k0+m) default).pa
def ja(m:Nat)(er:Int)(s:Nat):Int:=if s<=m then 0 else er
noncomputable def da(d:Dk)(b:Bag)(k0 m n:Nat)(er:Int):Lp where
 m:=7
 env:=fun Ls=>(List.range 106).map (cY eAny [(3,⟨true,.v (.ptr (aP b))⟩),(4,⟨true,.ref (Ls.getD 0 []) 0⟩),(5,⟨true,.ref (Ls.getD 1 []) 0⟩),(7,⟨true,.ref (Ls.getD 2 []) 0⟩),(58,⟨true,.clo (.func 102) [] [.ref (Ls.getD 5 []) 0,.ref (Ls.getD 6 []) 0]⟩)])
 fam:=fun Ls s=>[.box ((ak zD).map .v),.box [.v (vInt (ja m er s))],.box [.ref (Ls.getD 3 []) 0],.box (bw (d.setN (de d b k0 m s)) (Ls.getD 4 []) (de d b k0 m s).ho.length),.arr 1 ((ga d b k0 m s).map vInt),.box ((aP b).map .v),.box [.ref (Ls.getD 3 []) (14+b.fr.toNat)]]
 ps:=(xQ Tryz.f16).1.toList
 asg:=(xQ Tryz.f16).2.1
 body:=(xQ Tryz.f16).2.2
 n:=n
 vals:=fun s=>[qJ (b.ps.getD (k0+s) default)]
 st:=fun j=>if j<m then none else some .ret
 fu:=200
theorem B0{d:Dk}{b:Bag}{k0 m n:Nat}{er:Int}(hw:lR d b k0 m n er):k0+n<=b.ps.length/\n<=m+1/\m<=n:=by
 rcases hw.hn with⟨_,h1,h2⟩ | ⟨_,h1,h2⟩<;>omega
theorem B1{d:Dk}{b:Bag}{k0 m n:Nat}{er:Int}(hw:lR d b k0 m n er)(hb:fq b=true):(da d b k0 m n er).Ok where
 len:=fun Ls s _=>rfl
 renE:=fun f Ls h=>by obtain⟨a,b,c,d,e,f,g,rfl⟩:=pv h;rfl
 renF:=fun f Ls s h=>by
  obtain⟨x1,x2,x3,x4,x5,x6,x7,rfl⟩:=pv h
  simp only[da,List.map_cons,List.map_nil,O.ren,ti,NO,List.getD_cons_zero,List.getD_cons_succ,D.renL,D.ren]
 reach:=fun Ls s obj acc q h kI hd hF=>by
  obtain⟨a,c,e,f,g,x,y,rfl⟩:=pv h
  obtain⟨h1,h2,h3,h4,h5,h6,h7,_⟩:=hF
  simp only[List.getD_cons_zero,List.getD_cons_succ]at h1 h2 h3 h4 h5 h6 h7
  have en:dH (((da d b k0 m n er).env [a,c,e,f,g,x,y]).map (·.d))=[a,c,e,x,y]:=rfl
  rw[en]
  show dF obj (q+190+1+1+1+1+1+1+1+1+1+1) _ acc=_
  simp only[List.mem_cons,List.not_mem_nil,or_false,forall_eq_or_imp,forall_eq]at hd
  obtain⟨d1,d2,d3,d4,d5,d6,d7⟩:=hd
  simp only[List.nodup_cons,List.mem_cons,List.not_mem_nil,or_false,not_or,not_false_eq_true,List.nodup_nil,and_true]at kI
  obtain⟨⟨a1,a2,a3,a4,a5,a6⟩,⟨b1,b2,b3,b4,b5⟩,⟨c1,c2,c3,c4⟩,⟨e1,e2,e3⟩,⟨f1,f2⟩,g1⟩:=kI
  simp[dF,gT,h1,h2,h3,h4,h5,h6,h7,mZ,dH,vt,yp,yq,d1,d2,d3,d4,d5,d6,d7,Ne.symm a1,Ne.symm a2,Ne.symm a3,Ne.symm a4,Ne.symm a5,Ne.symm a6,Ne.symm b1,Ne.symm b2,Ne.symm b3,Ne.symm b4,Ne.symm b5,Ne.symm c1,Ne.symm c2,Ne.symm c3,Ne.symm c4,Ne.symm e1,Ne.symm e2,Ne.symm e3,Ne.symm f1,Ne.symm f2,Ne.symm g1]
 closE:=fun dom Ls h hd=>by
  obtain⟨a,c,e,f,g,x,y,rfl⟩:=pv h
  have h1:=hd a (by simp)
  have h2:=hd c (by simp)
  have h3:=hd e (by simp)
  have h4:=hd x (by simp)
  have h5:=hd y (by simp)
  simp[da,List.range,List.range.loop,cY,D.closL,D.clos,eAny,h1,h2,h3,h4,h5]
 closF:=fun dom Ls s h hd o ho=>by
  obtain⟨a,c,e,f,g,x,y,rfl⟩:=pv h
  have h1:=hd f (by simp)
  have h2:=hd g (by simp)
  simp only[da,List.mem_cons,List.not_mem_nil,or_false,List.getD_cons_zero,List.getD_cons_succ]at ho
  rcases ho with rfl | rfl | rfl | rfl | rfl | rfl | rfl<;>simp[O.clos,D.closL,D.clos,qh,w5,h1,h2]
 psz:=fun Ls h=>by rfl
 args:=fun s=>by rfl
 fuel:=(show (200:Nat)<=2000 by decide)
 vnam:=fun _=>rfl
 vcl:=fun _ _=>rfl
 vren:=fun _ _=>rfl
 inj:=fun s s' hs jD h=>by
  have pM:cf b.ps=true:=by unfold fq at hb;simp only[Bool.and_eq_true]at hb;exact hb.1.2
  have dJ:=x8 pM
  have h0:=(B0 hw).1
  have l1:k0+s<b.ps.length:=Nat.lt_of_lt_of_le (Nat.add_lt_add_left hs k0) h0
  have l2:k0+s'<b.ps.length:=Nat.lt_of_lt_of_le (Nat.add_lt_add_left jD k0) h0
  have e1:(b.ps.getD (k0+s) default).no=(b.ps.getD (k0+s') default).no:=by
   have :=(List.cons.inj h).1
   simp only[qJ,D.agg.injEq,List.cons.injEq,D.v.injEq,vInt,V.int.injEq,true_and,and_true]at this
   exact this.1
  rw[getD_at l1,getD_at l2,dJ _ l1,dJ _ l2]at e1
  omega
set_option maxRecDepth 20000
theorem A'{p:Name}{H:Name->Option O}{x y:Name}{o q:Option O}(hx:own p x=true)(nm:Name)(hn:own p nm=false):upd (upd H x o) y q nm=upd H y q nm:=by
 by_cases e:nm=y
 ·subst e;rw[aH,aH]
 ·rw[aN _ _ _ e,aN _ _ _ e,aN _ _ _ (fun e2=>by rw[e2,hx]at hn;cases hn)]
@[go_sem] theorem afy{n:Nat}{p:Name}{H:Name->Option O}{x y:Name}{o q:Option O}{l:List (Nat×E)}{h:List (Name×O)}(hx:own p x=true):aU n p (upd (upd H x o) y q) l h=aU n p (upd H y q) l h:=
  vw fun nm hn=>A' hx nm hn
@[go_sem] theorem ag7{p:Name}{dom:Name->Bool}{H:Name->Option O}{x y:Name}{o q:Option O}(hx:own p x=true):bT p dom (upd (upd H x o) y q)=bT p dom (upd H y q):=
  propext ⟨fun k nm z hn h=>k nm z hn (by rw[A' hx nm hn];exact h),fun k nm z hn h=>k nm z hn (by rw[<-A' (o:=o) hx nm hn];exact h)⟩
theorem OE{H:Name->Option O}(hO:∀ hs,bT [0] (bM [0] hs) H=True)(hs:List (Name×O))(sz:Nat)(L:List V):bT [0] (bM [0] hs) (upd H [4,1] (some (.arr sz L)))=True:=eq_true (xh rfl (of_eq_true (hO hs)))
theorem abK{H:Name->Option O}(hO:∀ hs,bT [0] (bM [0] hs) H=True)(hs:List (Name×O))(e:Dk)(n:Nat):bT [0] (bM [0] hs) (upd H [3,1] (some (.box (bw e [4,1] n))))=True:=
 eq_true (xh (by simp only[O.clos,w5];simp[bM,own]) (of_eq_true (hO hs)))
theorem NB{P:Program}{Γ:FuncId->Option Spec}(hΓ:∀ f s,Γ f=some s->al P f s){id:Nat}{l:List Oper}{c:Code}{r:List Code}{σ:Eng.S}{K:Exit->Eng.S->Prop}
 (h:∀ K':Eng.S->Prop,(∀ σ',CL P (c::r) σ' K->K' σ')->nM P Γ l.toArray l σ K'):CL P (.region id l.toArray false::c::r) σ K:=
 Ai hΓ h
noncomputable def OP:List (Nat×Spec):=[(67,S67)]
attribute [go_sem] OP
theorem abY:∀ f s,tbl OP f=some s->al Tryz.prog f s:=tc VZ<|tn
set_option maxHeartbeats 8000000 in
theorem Tc{d:Dk}{b:Bag}{k0 m n:Nat}{er:Int}(hw:lR d b k0 m n er)(hb:fq b=true)(hI:∀ z,z<=k0+m->nN b.fr.toNat (oT d b z)):al Tryz.prog yid (da d b k0 m n er).y.toSpec:=by
 refine Lp.y_sound (B1 hw hb) fun s hs _=>?_
 have hΓ:=abY
 have hP:=ba
 obtain⟨iW,kK,hf,bV,vS,Da,C'⟩:=qm hb
 have jD:s<n:=hs
 obtain⟨n1,n2,n3⟩:=B0 hw
 have j9:s<=m:=by omega
 have hlen:k0+s<b.ps.length:=by omega
 obtain⟨S,hS⟩:∃ S,S=oT d b (k0+s):=⟨_,rfl⟩
 obtain⟨P,oJ⟩:∃ P,P=b.ps[k0+s]:=⟨_,rfl⟩
 have oL:nN b.fr.toNat S:=by rw[hS];exact hI _ (by omega)
 have vR:=oL.ri;have Zx:=oL.len;have l9:=oL.t0;have KF:=oL.t1
 have L0:S.ho.length<=1000:=by omega
 have w1:IntKind.i64.wrap (S.ta.get b.fr.toNat+1)=S.ta.get b.fr.toNat+1:=wrap_i64 (by omega) (by omega)
 have pJ:de d b k0 m s=S:=by rw[hS];unfold de;rw[Nat.min_eq_left j9]
 have Lh:ga d b k0 m s=S.ho:=by rw[hS];unfold ga;rw[if_pos j9,Nat.min_eq_left j9]
 have Lo:ja m er s=0:=if_pos j9
 have mb:(da d b k0 m n er).vals s=[qJ P]:=by
  show [qJ (b.ps.getD (k0+s) default)]=_
  rw[getD_at hlen,oJ]
 have Yo:bO S.ho P.pa=true->(da d b k0 m n er).st s=some .ret/\de d b k0 m (s+1)=S/\ga d b k0 m (s+1)=S.ho/\ja m er (s+1)=96:=fun hh=>by
  have iz:s=m:=by
   rcases Nat.lt_or_ge s m with h1 | h1
   ·have h2:=(hw.good s h1 hlen)
    rw[<-hS,<-oJ]at h2
    rw[B4 _ _ _ h2.1 hh]at h2
    exact absurd h2.2 (by decide)
   ·omega
  subst iz
  have ar:er≠0:=by rcases hw.hn with⟨_,h1,_⟩ | ⟨h1,_,_⟩<;>first | exact h1 | omega
  have h2:=hw.bad ar hlen
  rw[<-hS,<-oJ]at h2
  rw[B4 _ _ _ h2.1 hh]at h2
  refine⟨if_neg (Nat.lt_irrefl _),?_,?_,?_⟩
  ·rw[hS];unfold de;rw[Nat.min_eq_right (Nat.le_succ _)]
  ·unfold ga;rw[if_neg (by omega),getD_at hlen,<-hS,<-oJ,BN hh]
  ·unfold ja;rw[if_neg (by omega)];exact h2.2.symm
 have Yn:bO S.ho P.pa=false->40<(cA S.ho P.pa).length->(da d b k0 m n er).st s=some .ret/\de d b k0 m (s+1)=S/\ga d b k0 m (s+1)=cA S.ho P.pa/\ja m er (s+1)=2:=fun hh hl=>by
  have iz:s=m:=by
   rcases Nat.lt_or_ge s m with h1 | h1
   ·have h2:=(hw.good s h1 hlen)
    rw[<-hS,<-oJ]at h2
    rw[B3 _ _ _ h2.1 hh hl]at h2
    exact absurd h2.2 (by decide)
   ·omega
  subst iz
  have ar:er≠0:=by rcases hw.hn with⟨_,h1,_⟩ | ⟨h1,_,_⟩<;>first | exact h1 | omega
  have h2:=hw.bad ar hlen
  rw[<-hS,<-oJ]at h2
  rw[B3 _ _ _ h2.1 hh hl]at h2
  refine⟨if_neg (Nat.lt_irrefl _),?_,?_,?_⟩
  ·rw[hS];unfold de;rw[Nat.min_eq_right (Nat.le_succ _)]
  ·unfold ga;rw[if_neg (by omega),getD_at hlen,<-hS,<-oJ,BO hh]
  ·unfold ja;rw[if_neg (by omega)];exact h2.2.symm
 have Ym:bO S.ho P.pa=false->¬ 40<(cA S.ho P.pa).length->(da d b k0 m n er).st s=none/\de d b k0 m (s+1)=⟨cA S.ho P.pa,S.un,S.se,S.ta.set b.fr.toNat (S.ta.get b.fr.toNat+1)⟩/\ga d b k0 m (s+1)=cA S.ho P.pa/\ja m er (s+1)=0:=fun hh hl=>by
  have iz:s<m:=by
   rcases Nat.lt_or_ge s m with h1 | h1
   ·exact h1
   ·have iz:s=m:=by omega
    subst iz
    have ar:er≠0:=by rcases hw.hn with⟨_,h1,_⟩ | ⟨h1,_,_⟩<;>first | exact h1 | omega
    have h2:=hw.bad ar hlen
    rw[<-hS,<-oJ]at h2
    rw[Ih _ _ _ h2.1 hh hl]at h2
    exact absurd h2.2.symm ar
  have h2:=(hw.good s iz hlen).1
  have h3:=Bk b.fr.toNat b.ps (bp d b) hlen h2
  have h4:oT d b (k0+(s+1))=⟨cA S.ho P.pa,S.un,S.se,S.ta.set b.fr.toNat (S.ta.get b.fr.toNat+1)⟩:=by
   rw[hS,oJ];exact h3
  have h5:de d b k0 m (s+1)=oT d b (k0+(s+1)):=by unfold de;rw[Nat.min_eq_left iz]
  refine⟨if_pos iz,h5.trans h4,?_,if_pos iz⟩
  unfold ga;rw[if_pos (show s+1<=m from iz),Nat.min_eq_left (show s+1<=m from iz),h4]
 have iW:(da d b k0 m n er).fam (LR 7) s=[.box ((ak zD).map .v),.box [.v (vInt 0)],.box [.ref [3,1] 0],.box (bw (d.setN S) [4,1] S.ho.length),.arr 1 (S.ho.map vInt),.box ((aP b).map .v),.box [.ref [3,1] (14+b.fr.toNat)]]:=by
  show [O.box ((ak zD).map .v),.box [.v (vInt (ja m er s))],.box [.ref [3,1] 0],.box (bw (d.setN (de d b k0 m s)) [4,1] (de d b k0 m s).ho.length),.arr 1 ((ga d b k0 m s).map vInt),.box ((aP b).map .v),.box [.ref [3,1] (14+b.fr.toNat)]]=_
  rw[pJ,Lh,Lo]
 have kL:(da d b k0 m n er).fam (LR 7) (s+1)=[.box ((ak zD).map .v),.box [.v (vInt (ja m er (s+1)))],.box [.ref [3,1] 0],.box (bw (d.setN (de d b k0 m (s+1))) [4,1] (de d b k0 m (s+1)).ho.length),.arr 1 ((ga d b k0 m (s+1)).map vInt),.box ((aP b).map .v),.box [.ref [3,1] (14+b.fr.toNat)]]:=rfl
 have XU:(da d b k0 m n er).m=7:=rfl
 rw[XU,iW,kL,mb]
 clear kL pJ Lh Lo
 generalize de d b k0 m (s+1)=S1 at *
 generalize ga d b k0 m (s+1)=L1 at *
 generalize ja m er (s+1)=E1 at *
 generalize hx:(da d b k0 m n er).st s=X1 at *
 generalize ov:[O.box ((ak zD).map .v),.box [.v (vInt 0)],.box [.ref [3,1] 0],.box (bw (d.setN S) [4,1] S.ho.length),.arr 1 (S.ho.map vInt),.box ((aP b).map .v),.box [.ref [3,1] (14+b.fr.toNat)]]=os
 have hO:∀ hs,bT [0] (bM [0] hs) (bd os)=True:=by
  subst ov
  refine fun hs=>eq_true (vn ?_ hs)
  intro o ho dom hd
  simp only[List.mem_cons,List.not_mem_nil,or_false]at ho
  rcases ho with rfl | rfl | rfl | rfl | rfl | rfl | rfl<;>simp[O.clos,D.closL,D.clos,qh,w5,hd]
 have h0:bd os [0,1]=some (.box ((ak zD).map .v)):=by subst ov;rfl
 have h1:bd os [1,1]=some (.box [.v (vInt 0)]):=by subst ov;rfl
 have h2:bd os [2,1]=some (.box [.ref [3,1] 0]):=by subst ov;rfl
 have h3:bd os [3,1]=some (.box (bw (d.setN S) [4,1] S.ho.length)):=by subst ov;rfl
 have h4:bd os [4,1]=some (.arr 1 (S.ho.map vInt)):=by subst ov;rfl
 have h5:bd os [5,1]=some (.box ((aP b).map .v)):=by subst ov;rfl
 have h6:bd os [6,1]=some (.box [.ref [3,1] (14+b.fr.toNat)]):=by subst ov;rfl
 generalize hH:bd os=H at *
 clear ov hH iW
 have gf:=OE hO
 have fB:True:=trivial
 have Xv:xQ Tryz.f16=(_,_,_):=rfl
 refine wT (PG 106 [0] H [(3,⟨true,.v (.ptr (aP b))⟩),(4,⟨true,.ref [0,1] 0⟩),(5,⟨true,.ref [1,1] 0⟩),(7,⟨true,.ref [2,1] 0⟩),(59,⟨true,qJ P⟩)] [] rfl rfl (fun _ _=>rfl) ?_ (by simp) ?_ ?_) ?_
 ·intro q hq
  simp only[List.mem_cons,List.not_mem_nil,or_false]at hq
  rcases hq with rfl | rfl | rfl | rfl | rfl<;>rfl
 ·simp[D.clos,D.closL,bM,own,qJ]
 ·rw[hO];trivial
 simp only[da,Xv,qJ]
 refine ld ?_
 repeat refine sq ?_
 refine aL hΓ fun K' hK=>?_
 simp only[go_sem,hO,h0,h1,h2,h3,h4]
 repeat (refine⟨ah,?_⟩)
 refine hK _ ?_
 clear K' hK
 try simp only[go_sem]
 (show CW _ _ _ _)
 refine ld ?_
 repeat refine sq ?_
 refine aO ?_
 repeat refine sq ?_
 refine dx hΓ hP [[],[0],[0,1],[0,1,2],[0,1,2,3],[0,1,2,3,4],[],[6],[0,1,2,3,4,5,6,7],[0,1,2,3,4,5,6,7,8],[0,1,2,3,4,5,6,7,8,9],[0,1,2,3,4,5,6,7,8,9],[0,1,2,3,4,5,6,7,8,9,10],[0,1,2,3,4,5,6,7,8,9,10,11,12]] [3,4,5,7,9,10] [[3,0],[4,0],[5,0],[7,0]] (by kernel_rfl) (fun K' hK=>by simp only[go_sem,hO,gf,fB,h0,h1,h2,h3,h4];(repeat (refine⟨ah,?_⟩));(first | refine⟨by rfl,?_⟩ | skip);exact hK _ (by simp only[go_sem,hO,gf,fB,h0,h1,h2,h3,h4]) (by simp only[go_sem,hO,gf,fB,h0,h1,h2,h3,h4]<;>rfl)) ?_
 obtain⟨H2,ke⟩:∃ H2,upd H [4,1] (some (O.arr 1 (List.map vInt (jq S.ho P.pa))))=H2:=⟨_,rfl⟩
 rw[ke]
 replace hO:=OE hO
 replace hO:∀ hs,bT [0] (bM [0] hs) H2=True:=fun hs=>by rw[<-ke];exact hO _ _ _
 replace gf:True:=trivial
 have fB:=abK hO
 replace h0:=(show H2 [0,1]=H [0,1]by rw[<-ke,aN _ _ _ (by decide)]).trans h0
 replace h1:=(show H2 [1,1]=H [1,1]by rw[<-ke,aN _ _ _ (by decide)]).trans h1
 replace h2:=(show H2 [2,1]=H [2,1]by rw[<-ke,aN _ _ _ (by decide)]).trans h2
 replace h3:=(show H2 [3,1]=H [3,1]by rw[<-ke,aN _ _ _ (by decide)]).trans h3
 replace h4:H2 [4,1]=some (O.arr 1 (List.map vInt (jq S.ho P.pa))):=by rw[<-ke,aH]
 replace h5:=(show H2 [5,1]=H [5,1]by rw[<-ke,aN _ _ _ (by decide)]).trans h5
 replace h6:=(show H2 [6,1]=H [6,1]by rw[<-ke,aN _ _ _ (by decide)]).trans h6
 clear ke
 repeat refine sq ?_
 refine aO ?_
 repeat refine sq ?_
 refine rx hΓ [3,4,5,7,9,72] [[3,0],[4,0],[5,0],[7,0]] (fun K' hK=>by simp only[go_sem,hO,gf,fB,h0,h1,h2,h3,h4];(repeat (refine⟨ah,?_⟩));exact hK _ (by simp only[go_sem,hO,gf,fB,h0,h1,h2,h3,h4]) (by simp only[go_sem,hO,gf,fB,h0,h1,h2,h3,h4]<;>rfl)) ?_
 repeat refine sq ?_
 refine au rfl rfl (fun hb=>?_) (fun hb=>?_)
 ·repeat refine sq ?_
  have hh:bO S.ho P.pa=true:=by simpa using hb
  obtain⟨g1,g2,g3,g4⟩:=Yo hh
  refine NB hΓ fun K' hK=>?_
  simp only[go_sem,hO,gf,fB,h0,h1,h2,h3,h4]
  repeat (refine⟨ah,?_⟩)
  refine hK _ ?_
  clear K' hK
  refine aE (A9 [0,1] _ (ak zD) rfl rfl) ?_
  refine an ?_
  simp only[go_sem,hO,gf,fB,h0,h1,h2,h3,h4]
  rw[g1,g2,g3,g4]
  refine⟨rfl,?_⟩
  rw[BN hh]at h4
  show dt _ [[0,1],[1,1],[2,1],[3,1],[4,1],[5,1],[6,1]] _
  simp only[dt,go_sem,h0,h1,h2,h3,h4,h5,h6]
  try trivial
 ·repeat refine sq ?_
  have hh:bO S.ho P.pa=false:=by simpa using hb
  have rG:=BO hh
  repeat refine sq ?_
  refine rx hΓ [3,4,5,7,9,76] [[3,0],[4,0],[5,0],[7,0]] (fun K' hK=>by simp only[go_sem,hO,gf,fB,h0,h1,h2,h3,h4,List.length_map];(repeat (refine⟨ah,?_⟩));exact hK _ (by simp only[go_sem,hO,gf,fB,h0,h1,h2,h3,h4,List.length_map]) (by simp only[go_sem,hO,gf,fB,h0,h1,h2,h3,h4,List.length_map]<;>rfl)) ?_
  repeat refine sq ?_
  refine au rfl rfl (fun hb=>?_) (fun hb=>?_)
  ·repeat refine sq ?_
   have hl:40<(cA S.ho P.pa).length:=by have h9:=of_decide_eq_true hb;rw[rG]at h9;omega
   obtain⟨g1,g2,g3,g4⟩:=Yn hh hl
   refine NB hΓ fun K' hK=>?_
   simp only[go_sem,hO,gf,fB,h0,h1,h2,h3,h4]
   repeat (refine⟨ah,?_⟩)
   refine hK _ ?_
   clear K' hK
   refine aE (A9 [0,1] _ (ak zD) rfl rfl) ?_
   refine an ?_
   simp only[go_sem,hO,gf,fB,h0,h1,h2,h3,h4]
   rw[g1,g2,g3,g4]
   refine⟨rfl,?_⟩
   rw[rG]at h4
   show dt _ [[0,1],[1,1],[2,1],[3,1],[4,1],[5,1],[6,1]] _
   simp only[dt,go_sem,h0,h1,h2,h3,h4,h5,h6]
   try trivial
  ·repeat refine sq ?_
   have hl:¬ 40<(cA S.ho P.pa).length:=by have h9:=of_decide_eq_false hb;rw[rG]at h9;omega
   obtain⟨g1,g2,g3,g4⟩:=Ym hh hl
   refine av ?_
   refine ct ?_
   simp only[go_sem]
   refine kj [3,4,5,7,9] [[3,0],[4,0],[5,0],[7,0]] ?_ ?_
   ·simp only[go_sem,hO,gf,fB,h0,h1,h2,h3,h4]
   simp only[go_sem,hO,gf,fB,h0,h1,h2,h3,h4]
   repeat refine sq ?_
   refine rx hΓ [3,4,5,7] [[3,0],[4,0],[5,0],[7,0]] (fun K' hK=>by simp only[go_sem,hO,gf,fB,h0,h1,h2,h3,h4];(repeat (refine⟨ah,?_⟩));exact hK _ (by simp only[go_sem,hO,gf,fB,h0,h1,h2,h3,h4]) (by simp only[go_sem,hO,gf,fB,h0,h1,h2,h3,h4]<;>rfl)) ?_
   obtain⟨H3,kb⟩:∃ H3,upd H2 [3,1] (some (O.box (bw (d.setN S) [4,1] (jq S.ho P.pa).length)))=H3:=⟨_,rfl⟩
   rw[kb]
   replace hO:∀ hs,bT [0] (bM [0] hs) H3=True:=fun hs=>by rw[<-kb];exact fB _ _ _
   replace fB:True:=trivial
   replace h0:=(show H3 [0,1]=H2 [0,1]by rw[<-kb,aN _ _ _ (by decide)]).trans h0
   replace h1:=(show H3 [1,1]=H2 [1,1]by rw[<-kb,aN _ _ _ (by decide)]).trans h1
   replace h2:=(show H3 [2,1]=H2 [2,1]by rw[<-kb,aN _ _ _ (by decide)]).trans h2
   replace h3:H3 [3,1]=some (O.box (bw (d.setN S) [4,1] (jq S.ho P.pa).length)):=by rw[<-kb,aH]
   replace h4:=(show H3 [4,1]=H2 [4,1]by rw[<-kb,aN _ _ _ (by decide)]).trans h4
   replace h5:=(show H3 [5,1]=H2 [5,1]by rw[<-kb,aN _ _ _ (by decide)]).trans h5
   replace h6:=(show H3 [6,1]=H2 [6,1]by rw[<-kb,aN _ _ _ (by decide)]).trans h6
   clear kb
   repeat refine sq ?_
   refine km hΓ hP [[],[],[1],[0],[0,3],[0,3,4],[0,3,4,5],[0,1,2,3,4,5,6],[0,1,2,3,4,5,6,7],[0,1,2,3,4,5,6,7,8],[0],[0,10],[0,10,11],[0,10,11,12],[0,1,2,3,4,5,6,7,8,9,10,11,12,13],[0,1,2,3,4,5,6,7,8,9,10,11,12,13,14]] (by kernel_rfl) fun K' hK=>?_
   simp only[go_sem,hO,gf,fB,h0,h1,h2,h3,h4,sB _ _ _ hf,aaY _ _ _ _ hf,w1,iW,kK]
   repeat (refine⟨ah,?_⟩)
   first | refine⟨by rfl,?_⟩ | skip
   refine hK _ ?_
   clear K' hK
   try simp only[go_sem]
   refine ct ?_
   rw[g1,g2,g3,g4]
   refine⟨rfl,?_⟩
   rw[rG]at h4 |-
   show dt _ [[0,1],[1,1],[2,1],[3,1],[4,1],[5,1],[6,1]] _
   simp only[dt,go_sem,h0,h1,h2,h3,h4,h5,h6]
   try trivial
def ye(Ls:List Name):List D:=[.ref (Ls.getD 5 []) 0,.ref (Ls.getD 6 []) 0]
theorem Tk(d:Dk)(b:Bag)(k0 m n:Nat)(er:Int):Gh (da d b k0 m n er) ye where
 ren:=fun f Ls h=>by obtain⟨x1,x2,x3,x4,x5,x6,x7,rfl⟩:=pv h;rfl
 clo:=fun dom Ls h hd=>by
  obtain⟨a,c,e,f,g,x,y,rfl⟩:=pv h
  have h4:=hd x (by simp)
  have h5:=hd y (by simp)
  simp[ye,D.closL,D.clos,h4,h5]
 reach:=fun Ls s obj R k h kI hF hR=>by
  obtain⟨a,c,e,f,g,x,y,rfl⟩:=pv h
  obtain⟨h1,h2,h3,h4,h5,h6,h7,_⟩:=hF
  simp only[List.getD_cons_zero,List.getD_cons_succ]at h1 h2 h3 h4 h5 h6 h7
  have en:dH (((da d b k0 m n er).env [a,c,e,f,g,x,y]).map (·.d))=[a,c,e,x,y]:=rfl
  have YY:obj R=some (.loop ((da d b k0 m n er).env [a,c,e,f,g,x,y]) (da d b k0 m n er).ps (da d b k0 m n er).asg (da d b k0 m n er).body .ready none):=hR
  clear hR
  generalize (da d b k0 m n er).env [a,c,e,f,g,x,y]=EV at *
  have ec:dH (ye [a,c,e,f,g,x,y])=[x,y]:=rfl
  rw[ec]
  show dF obj (k+190+1+1+1+1+1+1+1+1+1+1+1) [R,x,y] []=_
  simp only[List.nodup_cons,List.mem_cons,List.not_mem_nil,or_false,not_or,not_false_eq_true,List.nodup_nil,and_true]at kI
  obtain⟨⟨d1,d2,d3,d4,d5,d6,d7⟩,⟨a1,a2,a3,a4,a5,a6⟩,⟨b1,b2,b3,b4,b5⟩,⟨c1,c2,c3,c4⟩,⟨e1,e2,e3⟩,⟨f1,f2⟩,g1⟩:=kI
  simp[dF,gT,YY,en,h1,h2,h3,h4,h5,h6,h7,mZ,dH,vt,yp,yq,Ne.symm d1,Ne.symm d2,Ne.symm d3,Ne.symm d4,Ne.symm d5,Ne.symm d6,Ne.symm d7,Ne.symm a1,Ne.symm a2,Ne.symm a3,Ne.symm a4,Ne.symm a5,Ne.symm a6,Ne.symm b1,Ne.symm b2,Ne.symm b3,Ne.symm b4,Ne.symm b5,Ne.symm c1,Ne.symm c2,Ne.symm c3,Ne.symm c4,Ne.symm e1,Ne.symm e2,Ne.symm e3,Ne.symm f1,Ne.symm f2,Ne.symm g1]
theorem yd{d:Dk}{b:Bag}{k0 m n:Nat}{er:Int}(hw:lR d b k0 m n er):∀ j,j+1<(da d b k0 m n er).n->(da d b k0 m n er).st j=none:=fun j hj=>by
 have h1:=(B0 hw).2.1
 have eA:j+1<n:=hj
 exact if_pos (by omega)
theorem Sl{d:Dk}{b:Bag}{k0 m n:Nat}{er:Int}(hw:lR d b k0 m n er)(hb:fq b=true)(hI:∀ z,z<=k0+m->nN b.fr.toNat (oT d b z)):al Tryz.prog 102 ((da d b k0 m n er).itC ye).toSpec:=by
 have aa:=B1 hw hb
 have db:=yd hw
 obtain⟨iW,kK,hf,bV,vS,Da,C'⟩:=qm hb
 obtain⟨c,hc,h⟩:=PW (Tc hw hb hI) hw hf bV (fun z hz=>⟨(hI z hz).t0,(hI z hz).t1⟩) (J:=(da d b k0 m n er).J) (fun s=>by rw[Lp.J_len aa,Lp.J_len aa]) (fun s=>Lp.J_clos aa s)
  (fun s=>rfl) (fun s=>rfl) (e:=fun s=>d.setN (de d b k0 m s)) (q:=fun s=>(de d b k0 m s).ho.length) (fun s=>rfl)
  (fun s hs=>by show (de d b k0 m s).ta.get _=_;unfold de;rw[Nat.min_eq_left hs])
  (fun s hs obj tm ho=>by
    have h1:=Lp.y_setJ aa db (s:=s) hs obj tm ho
    have h2:((da d b k0 m n er).st s).isNone=decide (s<m):=by
     show (if s<m then(none:Option Code)else some .ret).isNone=_
     by_cases h3:s<m
     ·rw[if_pos h3,decide_eq_true h3];rfl
     ·rw[if_neg h3,decide_eq_false h3];rfl
    rw[h2]at h1
    exact h1)
 refine Lp.itJ_sound aa db Tryz.func102 Tryz.ntmps102 (by rfl) (by kernel_rfl) (by decide) ⟨c,hc,lb rfl,?_⟩
 exact h
theorem U6(b:Bag)(l:List Par):fM (eG b) l=fv l b.ta l.length:=by
 unfold fM fv
 rw[List.take_length]
 congr 1
 funext p
 unfold eG
 by_cases h:p.no<=b.ta
 ·rw[decide_eq_true h,decide_eq_false (show ¬ p.no>b.ta by omega)];rfl
 ·rw[decide_eq_false h,decide_eq_true (show p.no>b.ta by omega)];rfl
theorem SM(b:Bag):∃ j,j<6/\(fq b=true->b.fr.toNat=j):=by
 by_cases h:b.fr.toNat<6
 ·exact⟨b.fr.toNat,h,fun _=>rfl⟩
 ·exact⟨0,by omega,fun hk=>absurd (qm hk).2.2.1 h⟩
theorem Mb{b:Bag}{e:Dk}{n off:Nat}{l:List V}{obj:Name->Option O}{t nm h:Name}(h1:obj nm=some (.box (bw e h n)))(h2:obj h=some (.arr 1 l))(hn:nm≠h):
 S66.foot obj t [.v (.agg (aP b)),.ref nm off]=[nm,h]++[]++[[2,0]++t,[3,0]++t]/\S66.wrt obj t [.v (.agg (aP b)),.ref nm off]=[[2,0]++t,[3,0]++t]:=by
 have hr:reach obj [.v (.agg (aP b)),.ref nm off]=[nm,h]:=by
  unfold reach
  show dF obj (2996+1+1+1+1) [nm] []=[nm,h]
  simp[dF,gT,h1,h2,mZ,yq,Ne.symm hn]
 have fQ:∀ os p,wH.out os [.v (.agg (aP b)),p]=⟨[],mr (.agg (aP b)) p,.clo (.func 102) [] [.ref [2,0] 0,.ref [3,0] 0]⟩:=fun _ _=>rfl
 have e2:cJ obj [.v (.agg (aP b)),.ref nm off]=[.v (.agg (aP b)),.ref (cin [nm,h] nm) off]:=by
  unfold cJ
  rw[hr]
  simp only[D.renL,D.ren]
 simp only[S66,CSpec.toSpec,hr,e2,fQ,mr,List.map_nil,List.map_cons,List.nil_append,and_self]
noncomputable def OO(j:Nat):List (Nat×Spec):=[(23,S23),(40,S40),(53,AW j),(64,S64),(66,S66)]
attribute [go_sem] OO
theorem abX{j:Nat}(hj:j<6):∀ f s,tbl (OO j) f=some s->al Tryz.prog f s:=tc pB<|tc Wb<|tc (Kj j hj)<|tc V2<|tc V0<|tn
@[go_sem] theorem agI(b:Bag):List.take 4 (aP b)=aP b:=rfl
theorem Th{d:Dk}{b:Bag}{k0 m n:Nat}{er:Int}(hw:lR d b k0 m n er)(Ls:List Name):(da d b k0 m n er).fam Ls 0=[.box ((ak zD).map .v),.box [.v (vInt 0)],.box [.ref (Ls.getD 3 []) 0],.box (bw (d.setN (bp d b)) (Ls.getD 4 []) d.now.ho.length),.arr 1 (d.now.ho.map vInt),.box ((aP b).map .v),.box [.ref (Ls.getD 3 []) (14+b.fr.toNat)]]:=by
 have t0:oT d b k0=bp d b:=hw.T0 k0 (Nat.le_refl _)
 have h1:de d b k0 m 0=bp d b:=by unfold de;rw[Nat.zero_min,Nat.add_zero];exact t0
 have h2:ga d b k0 m 0=d.now.ho:=by unfold ga;rw[if_pos (Nat.zero_le _),Nat.zero_min,Nat.add_zero,t0];rfl
 have h3:ja m er 0=0:=if_pos (Nat.zero_le _)
 show [O.box ((ak zD).map .v),.box [.v (vInt (ja m er 0))],.box [.ref (Ls.getD 3 []) 0],.box (bw (d.setN (de d b k0 m 0)) (Ls.getD 4 []) (de d b k0 m 0).ho.length),.arr 1 ((ga d b k0 m 0).map vInt),.box ((aP b).map .v),.box [.ref (Ls.getD 3 []) (14+b.fr.toNat)]]=_
 rw[h1,h2,h3]
 rfl
theorem Tf{d:Dk}{b:Bag}{k0 m:Nat}{er:Int}(Ls:List Name):(da d b k0 m m er).fam Ls m=[.box ((ak zD).map .v),.box [.v (vInt 0)],.box [.ref (Ls.getD 3 []) 0],.box (bw (d.setN (oT d b (k0+m))) (Ls.getD 4 []) (oT d b (k0+m)).ho.length),.arr 1 ((oT d b (k0+m)).ho.map vInt),.box ((aP b).map .v),.box [.ref (Ls.getD 3 []) (14+b.fr.toNat)]]:=by
 have h1:de d b k0 m m=oT d b (k0+m):=by unfold de;rw[Nat.min_self]
 have h2:ga d b k0 m m=(oT d b (k0+m)).ho:=by unfold ga;rw[if_pos (Nat.le_refl _),Nat.min_self]
 have h3:ja m er m=0:=if_pos (Nat.le_refl _)
 show [O.box ((ak zD).map .v),.box [.v (vInt (ja m er m))],.box [.ref (Ls.getD 3 []) 0],.box (bw (d.setN (de d b k0 m m)) (Ls.getD 4 []) (de d b k0 m m).ho.length),.arr 1 ((ga d b k0 m m).map vInt),.box ((aP b).map .v),.box [.ref (Ls.getD 3 []) (14+b.fr.toNat)]]=_
 rw[h1,h2,h3]
theorem Tg{d:Dk}{b:Bag}{k0 m:Nat}{er:Int}(Ls:List Name):∃ X Y,(da d b k0 m (m+1) er).fam Ls (m+1)=[.box ((ak zD).map .v),.box [.v (vInt er)],.box [.ref (Ls.getD 3 []) 0],.box (bw X (Ls.getD 4 []) Y),.arr 1 ((ga d b k0 m (m+1)).map vInt),.box ((aP b).map .v),.box [.ref (Ls.getD 3 []) (14+b.fr.toNat)]]:=by
 have h3:ja m er (m+1)=er:=if_neg (by omega)
 refine⟨d.setN (de d b k0 m (m+1)),(de d b k0 m (m+1)).ho.length,?_⟩
 show [O.box ((ak zD).map .v),.box [.v (vInt (ja m er (m+1)))],.box [.ref (Ls.getD 3 []) 0],.box (bw (d.setN (de d b k0 m (m+1))) (Ls.getD 4 []) (de d b k0 m (m+1)).ho.length),.arr 1 ((ga d b k0 m (m+1)).map vInt),.box ((aP b).map .v),.box [.ref (Ls.getD 3 []) (14+b.fr.toNat)]]=_
 rw[h3]
theorem Te{d:Dk}{b:Bag}{k0 m:Nat}{er:Int}(hw:lR d b k0 m m er):(da d b k0 m m er).pd=none:=by
 obtain⟨_,h1,h2⟩:=Lp.last_e (yd hw)
 cases m with
 |zero=>exact h1 rfl
 |succ m=>rw[h2 m rfl];exact if_pos (Nat.lt_succ_self m)
theorem Td{d:Dk}{b:Bag}{k0 m:Nat}{er:Int}(hw:lR d b k0 m (m+1) er):(da d b k0 m (m+1) er).pd=some .ret:=by
 obtain⟨_,h1,h2⟩:=Lp.last_e (yd hw)
 rw[h2 m rfl]
 exact if_neg (Nat.lt_irrefl m)
theorem NP(d:Dk)(s:Stk)(hn:Name)(n:Nat):(bw (d.setN s) hn n).set 1 (.v (.sl (s.ho.map vInt)))=List.map D.v (ak (d.setN s)):=rfl
noncomputable def P16:PSpec:=p2 bu jw (fun d _=>b8 d) (fun d b=>.tup [eK (e7 d b),vInt (e8 d b)]) false
noncomputable def S16:Spec:=P16.toSpec
attribute [go_sem] P16 S16
set_option maxHeartbeats 8000000 in
theorem R9:aQ Tryz.prog 16 P16:=by
 refine w2 (rs:=[.cell 4 32,.cell 5 36]) Tryz.func16 Tryz.ntmps16 (by rfl) (by kernel_rfl) (by decide) (fun h=>by cases h) ⟨_,rfl,lb rfl,fun d b hp hw=>?_⟩
 have hP:=ba
 simp only[jw,bu]at hw |-
 obtain⟨j,hj,oA⟩:=SM b
 have hΓ:=abX hj
 have hs:b8 d:=hp
 repeat refine sq ?_
 refine rx hΓ [2,3,4,5] [[2,0],[3,0],[4,0],[5,0]] (fun K' hK=>by simp only[go_sem];(repeat (refine⟨ah,?_⟩));exact hK _ (by simp only[go_sem]) (by simp only[go_sem]<;>rfl)) ?_
 refine aE (A8 3 (.ref [3,0] 0) (by simp only[go_sem]) (by simp only[go_sem]) [2,3,4,5] [[2,0],[3,0],[4,0],[5,0]] ?_ rfl) ?_
 ·simp only[go_sem]
 simp only[go_sem]
 refine aE (ft [4,0] _ (ak zD) rfl rfl [2,3,4,5] [[2,0],[3,0],[4,0],[5,0]] ?_ rfl) ?_
 ·simp only[go_sem]
 simp only[go_sem]
 refine aE (bz [2,0] (ak d) rfl [2,3,4,5] [[2,0],[3,0],[4,0],[5,0]] ?_ rfl) ?_
 ·simp only[go_sem]
 simp only[go_sem]
 repeat refine sq ?_
 refine rx hΓ [2,3,4,5,6] [[2,0],[3,0],[4,0],[5,0]] (fun K' hK=>by simp only[go_sem];(repeat (refine⟨ah,?_⟩));exact hK _ (by simp only[go_sem]) (by simp only[go_sem]<;>rfl)) ?_
 repeat refine sq ?_
 refine rx hΓ [2,3,4,5,6,14] [[2,0],[3,0],[4,0],[5,0]] (fun K' hK=>by simp only[go_sem];(repeat (refine⟨ah,?_⟩));exact hK _ (by simp only[go_sem]) (by simp only[go_sem]<;>rfl)) ?_
 repeat refine sq ?_
 refine au rfl rfl (fun hb=>?_) (fun hb=>?_)
 ·repeat refine sq ?_
  have hd:=kY hb
  have hq:=Il (b:=b) hd
  have e1:=eV hd
  repeat refine sq ?_
  refine rx hΓ [4,5] [[4,0],[5,0]] (fun K' hK=>by simp only[go_sem];(repeat (refine⟨ah,?_⟩));exact hK _ (by simp only[go_sem]) (by simp only[go_sem]<;>rfl)) ?_
  refine an ?_
  simp only[go_sem]
  first | (rw[hq.1,hq.2];done) | (rw[hq.1,hq.2];rfl) | (rw[hq.1,hq.2,e1];done) | (rw[hq.1,hq.2,e1];rfl)
 ·repeat refine sq ?_
  have hd:=kX hb
  refine av ?_
  repeat refine sq ?_
  refine rx hΓ [2,3,4,5,26] [[2,0],[3,0],[4,0],[5,0]] (fun K' hK=>by simp only[go_sem,Nat.add_zero];(repeat (refine⟨ah,?_⟩));exact hK _ (by simp only[go_sem]) (by simp only[go_sem]<;>rfl)) ?_
  repeat refine sq ?_
  refine au rfl rfl (fun hb=>?_) (fun hb=>?_)
  ·repeat refine sq ?_
   have h1:ib d b=false:=by have h4:=zY d b;unfold uA at h4;rw[hb]at h4;simpa using h4.symm
   have hq:=Im hd h1
   repeat refine sq ?_
   refine rx hΓ [4,5] [[4,0],[5,0]] (fun K' hK=>by simp only[go_sem];(repeat (refine⟨ah,?_⟩));exact hK _ (by simp only[go_sem]) (by simp only[go_sem]<;>rfl)) ?_
   refine an ?_
   simp only[go_sem]
   first | (rw[hq.1,hq.2];done) | (rw[hq.1,hq.2];rfl) | (rw[hq.1,hq.2,e1];done) | (rw[hq.1,hq.2,e1];rfl)
  ·repeat refine sq ?_
   have h1:ib d b=true:=by have h4:=zY d b;unfold uA at h4;rw[hb]at h4;simpa using h4.symm
   have gZ:fq b=true:=by unfold ib at h1;rw[Bool.and_eq_true]at h1;exact h1.1
   obtain⟨iW,kK,hf,bV,vS,Da,C'⟩:=qm gZ
   have jF:=oA gZ
   subst jF
   have tV:=(qY hd).unl b.fr.toNat hf
   have kP:=If (ta:=b.ta) hf hd
   have hI:=fun {z:Nat}=>B2 (z:=z) hf kP (fun p hp=>(vS p hp).2.1)
   refine av ?_
   repeat refine sq ?_
   refine rx hΓ [3,4,5,7] [[3,0],[4,0],[5,0],[7,0],[22,0,29,0],[12,0,5,0,29,0],[99,0,5,0,29,0]] (fun K' hK=>by simp only[go_sem,hs];(repeat (refine⟨ah,?_⟩));exact hK _ (by simp only[go_sem]) (by simp only[go_sem]<;>rfl)) ?_
   have Ec:=aaX d [12,0,5,0,29,0] [99,0,5,0,29,0] d.now.ho.length (d.now.un.get b.fr.toNat).length (d.now.se.get b.fr.toNat) (fv (d.now.un.get b.fr.toNat) b.ta (d.now.un.get b.fr.toNat).length) hf rfl
   replace Ec:_=bw (d.setN (bp d b)) [12,0,5,0,29,0] d.now.ho.length:=Ec
   have Zv:∀ (F:Name->Option O),F [22,0,29,0]=some (.box (bw (d.setN (bp d b)) [12,0,5,0,29,0] d.now.ho.length))->F [12,0,5,0,29,0]=some (.arr 1 (d.now.ho.map vInt))->S66.app (fun nm=>if own [0] nm=true then F nm else none) [58,0] [.v (.agg (aP b)),.ref [22,0,29,0] (14+b.fr.toNat)]=⟨fresh (fun nm=>if own [0] nm=true then F nm else none) [58,0] (mr (.agg (aP b)) (.ref [22,0,29,0] (14+b.fr.toNat)))=true,.clo (.func 102) [] [.ref [2,0,58,0] 0,.ref [3,0,58,0] 0],upd (upd (fun nm=>if own [0] nm=true then F nm else none) [2,0,58,0] (some (.box ((aP b).map .v)))) [3,0,58,0] (some (.box [.ref [22,0,29,0] (14+b.fr.toNat)]))⟩:=fun F k1 k2=>ZI (nm:=[22,0,29,0]) (h:=[12,0,5,0,29,0]) (by rw[<-k1];rfl) (by rw[<-k2];rfl) (by decide)
   have Zu:∀ (F:Name->Option O),F [22,0,29,0]=some (.box (bw (d.setN (bp d b)) [12,0,5,0,29,0] d.now.ho.length))->F [12,0,5,0,29,0]=some (.arr 1 (d.now.ho.map vInt))->S66.foot (fun nm=>if own [0] nm=true then F nm else none) [58,0] [.v (.agg (aP b)),.ref [22,0,29,0] (14+b.fr.toNat)]=[[22,0,29,0],[12,0,5,0,29,0],[2,0,58,0],[3,0,58,0]]:=fun F k1 k2=>(Mb (nm:=[22,0,29,0]) (h:=[12,0,5,0,29,0]) (by rw[<-k1];rfl) (by rw[<-k2];rfl) (by decide)).1
   have Zt:∀ (F:Name->Option O),F [22,0,29,0]=some (.box (bw (d.setN (bp d b)) [12,0,5,0,29,0] d.now.ho.length))->F [12,0,5,0,29,0]=some (.arr 1 (d.now.ho.map vInt))->S66.wrt (fun nm=>if own [0] nm=true then F nm else none) [58,0] [.v (.agg (aP b)),.ref [22,0,29,0] (14+b.fr.toNat)]=[[2,0,58,0],[3,0,58,0]]:=fun F k1 k2=>(Mb (nm:=[22,0,29,0]) (h:=[12,0,5,0,29,0]) (by rw[<-k1];rfl) (by rw[<-k2];rfl) (by decide)).2
   repeat refine sq ?_
   refine dx hΓ hP [[],[],[1],[],[],[4],[3],[3,6],[3,6,7],[3,6,7,8],[3,4,5,6,7,8,9],[3,4,5,6,7,8,9,10],[],[3,4,5,6,7,8,9,10,11,12],[0],[0,14],[0,14,15],[0,14,15,16],[0,1,2,3,4,5,6,7,8,9,10,11,12,13,14,15,16,17],[0,1,2,3,4,5,6,7,8,9,10,11,12,13,14,15,16,17,18]] [3,4,5,7] [[3,0],[4,0],[5,0],[7,0],[22,0,29,0],[12,0,5,0,29,0],[99,0,5,0,29,0]] (by kernel_rfl) (fun K' hK=>by simp only[go_sem,Ap d _ _ _ _ hf,iW,kK,U6,Ec];(repeat (refine⟨ah,?_⟩));(first | refine⟨by rfl,?_⟩ | skip);exact hK _ (by simp only[go_sem]) (by simp only[go_sem]<;>rfl)) ?_
   repeat refine sq ?_
   refine dx hΓ hP [[],[],[],[2],[1],[1,4],[1,4,5],[1,4,5,6],[1,2,3,4,5,6,7],[0,1,2,3,4,5,6,7,8]] [3,4,5,7,58] [[3,0],[4,0],[5,0],[7,0],[22,0,29,0],[12,0,5,0,29,0],[99,0,5,0,29,0],[2,0,58,0],[3,0,58,0]] (by kernel_rfl) (fun K' hK=>by simp only[go_sem,iW,kK,Zv,Zu,Zt];(repeat (refine⟨ah,?_⟩));(first | refine⟨by rfl,?_⟩ | skip);exact hK _ (by simp only[go_sem]) (by simp only[go_sem]<;>rfl)) ?_
   repeat refine sq ?_
   refine aO ?_
   repeat refine sq ?_
   obtain⟨k0,m,n,er,hw⟩:=Ta (d:=d) gZ
   have Za:∀ z,z<=k0+m->nN b.fr.toNat (oT d b z):=fun z hz=>hI (Nat.le_trans hz hw.hk) (hw.er0 z hz)
   have aa:=B1 hw gZ
   have gA:=Sl hw gZ Za
   have db:=yd hw
   have Yj:=Th hw
   refine aaK aa (Tk d b k0 m n er) 200 201 (f:=102) (Ls:=[[4,0],[5,0],[7,0],[22,0,29,0],[12,0,5,0,29,0],[2,0,58,0],[3,0,58,0]]) rfl rfl (by decide) gA rfl rfl rfl rfl rfl rfl (by decide) (show ([200,0]:Name)∉[[4,0],[5,0],[7,0],[22,0,29,0],[12,0,5,0,29,0],[2,0,58,0],[3,0,58,0]]by decide) (by rw[Yj];exact⟨rfl,rfl,rfl,rfl,rfl,rfl,rfl,trivial⟩) fun o=>?_
   rw[(Lp.last_e db).1]
   show vl _ { aU _ _ _ _ _ with obj:=upd (dW [[4,0],[5,0],[7,0],[22,0,29,0],[12,0,5,0,29,0],[2,0,58,0],[3,0,58,0]] ((da d b k0 m n er).fam [[4,0],[5,0],[7,0],[22,0,29,0],[12,0,5,0,29,0],[2,0,58,0],[3,0,58,0]] n) _) _ _ } _
   rcases hw.hn with⟨Lq,hn,ua⟩ | ⟨ar,hn,ua⟩
   ·subst hn
    rw[Te hw,Tf,ua]
    have D7:=hw.er0 (k0+n) (Nat.le_refl _)
    rw[ua]at D7
    have hq:=B5 hd h1 D7
    simp only[vl,jk]
    refine ct ?_
    show CL Tryz.prog (_::_) _ _
    refine kj [4,5,7] [[4,0],[5,0],[7,0],[22,0,29,0],[12,0,5,0,29,0]] ?_ ?_
    ·simp only[go_sem,dW]
    simp only[go_sem,dW]
    refine aE (ed [22,0,29,0] [12,0,5,0,29,0] 1 _ _ _ _ rfl (aa0 _ _ _) rfl (by simp only[List.length_map]) [4,5,7] [[4,0],[5,0],[7,0],[22,0,29,0]] ?_ rfl) ?_
    ·simp only[go_sem,NP]
    simp only[go_sem,NP]
    repeat refine sq ?_
    refine rx hΓ [4,5] [[4,0],[5,0]] (fun K' hK=>by simp only[go_sem];(repeat (refine⟨ah,?_⟩));exact hK _ (by simp only[go_sem]) (by simp only[go_sem]<;>rfl)) ?_
    refine an ?_
    simp only[go_sem]
    rw[hq.1,hq.2]
   ·subst hn
    have hq:=B6 hd h1 ua (hw.er0 (k0+m) (Nat.le_refl _)) (by rw[getD_at ua];exact(hw.bad ar ua).2) ar
    obtain⟨X,Y,YS⟩:=Tg (d:=d) (b:=b) (k0:=k0) (m:=m) (er:=er) [[4,0],[5,0],[7,0],[22,0,29,0],[12,0,5,0,29,0],[2,0,58,0],[3,0,58,0]]
    rw[Td hw,YS]
    simp only[vl,jk]
    simp only[go_sem,dW]
    rw[hq.1,hq.2]
theorem Wl:al Tryz.prog 16 S16:=R9.sound
end Go.Eng
set_option linter.unusedVariables false
namespace Go.Eng
open Go Go.Proofs
def wR:Nat->Nat->List Nat->List Nat
 | 0,_,acc=>acc
 |f+1,n,acc=>cond (Nat.blt n 10) ((48+n)::acc) (wR f (n / 10) ((48+n % 10)::acc))
theorem M3:∀ (f n:Nat) (acc:List Nat),n<10 ^ (f+1)->wR (f+1) n acc=(Lib.decDigits n).map UInt8.toNat++acc
 |f,n,acc,h=>by
  unfold wR
  by_cases h9:n<10
  ·have hb:Nat.blt n 10=true:=by simpa[Nat.blt_eq]using h9
   have :(UInt8.ofNat (48+n)).toNat=48+n:=UInt8.toNat_ofNat_of_lt' (by show 48+n<256;omega)
   rw[hb,Lib.decDigits_one h9,List.map_cons,List.map_nil,this]
   rfl
  ·have hb:Nat.blt n 10=false:=by
     cases hh:Nat.blt n 10 with
     |false=>rfl
     |true=>exact absurd (by simpa[Nat.blt_eq]using hh) h9
   have hm:n % 10<10:=Nat.mod_lt _ (by omega)
   have :(UInt8.ofNat (48+n % 10)).toNat=48+n % 10:=UInt8.toNat_ofNat_of_lt' (by show 48+n % 10<256;omega)
   rw[hb,M2 (by omega),cond_false]
   match f,h with
   | 0,h=>exact absurd h (by simpa using h9)
   |g+1,h=>
    rw[M3 g (n / 10) _ (by rw[Nat.pow_succ]at h;omega),List.map_append,List.map_cons,List.map_nil,this,List.append_assoc]
    rfl
def nc(w:List Nat)(l:List Int):List Nat:=w++(l.flatMap (fun n=>32::wR 8 n.toNat [])++[10])
def mT(i:Nat)(l:List Par):List Nat:=l.flatMap fun p=>nc [117,110,100,101,114] [(i:Int),p.no,p.pa]
def xA(s:Stk):List Nat:=
 nc [104,111,108,100,115] s.ho++(mT 0 s.un.a++(mT 1 s.un.b++(mT 2 s.un.c++(mT 3 s.un.d++(mT 4 s.un.e++(mT 5 s.un.f++(nc [115,101,110,116] [s.se.a,s.se.b,s.se.c,s.se.d,s.se.e,s.se.f]++nc [116,97,107,101,110] [s.ta.a,s.ta.b,s.ta.c,s.ta.d,s.ta.e,s.ta.f])))))))
def bN(b:ByteArray):List Nat:=b.data.toList.map UInt8.toNat
theorem FO(a b:ByteArray):bN (a++b)=bN a++bN b:=by
 unfold bN
 rw[<-List.map_append]
 congr 1
 all_goals simp
theorem abh(l:List UInt8):bN (dO l)=l.map UInt8.toNat:=by simp[bN,dO]
theorem Mi:∀ {l:List Int},(∀ n∈l,bQ n)->(l.flatMap (fun n=>32::Lib.itoa n)).map UInt8.toNat=l.flatMap (fun n=>32::wR 8 n.toNat [])
 |[],_=>rfl
 |n::r,h=>by
  obtain⟨h0,h1⟩:=h n (by simp)
  rw[List.flatMap_cons,List.flatMap_cons,List.map_append,Mi fun m hm=>h m (by simp[hm]),List.map_cons,CQ h0,M3 7 n.toNat [] (by show n.toNat<100000000;omega),List.append_nil]
  rfl
theorem yD{w:List UInt8}{l:List Int}(h:∀ n∈l,bQ n):bN (du (dO w) l)=nc (w.map UInt8.toNat) l:=by
 have e:(dO w).data.toList=w:=by simp[dO]
 rw[TR,abh]
 unfold nc pz j6
 rw[List.take_length,List.map_append,List.map_append,List.append_assoc,Mi h,e]
 rfl
theorem Gy{a:ByteArray}{i:Nat}(hi:i<6){l:List Par}(h:∀ p∈l,bQ p.no/\bQ p.pa):∀ k,k<=l.length->bN (gl a i l k)=bN a++mT i (l.take k)
 | 0,_=>by simp[gl,mT]
 |k+1,hk=>by
  have gb:k<l.length:=by omega
  have hq:=h _ (List.getElem_mem gb)
  have ht:l.take (k+1)=l.take k++[l[k]]:=by rw[List.take_add_one,List.getElem?_eq_getElem gb];rfl
  rw[gl,FO,Gy hi h k (by omega),kT gb,ht]
  have :bN (du kr [(i:Int),l[k].no,l[k].pa])=nc [117,110,100,101,114] [(i:Int),l[k].no,l[k].pa]:=yD (w:=[117,110,100,101,114]) (yj hi hq)
  rw[this]
  unfold mT
  rw[List.flatMap_append,List.flatMap_cons,List.flatMap_nil,List.append_nil,List.append_assoc]
theorem tv{s:Stk}(hs:ev s){i:Nat}(hi:i<6):bN (ee s (i+1))=bN (ee s i)++mT i (s.un.get i):=by
 have :=Gy (a:=ee s i) hi (hs.un i hi) _ (Nat.le_refl _)
 rw[List.take_length]at this
 exact this
theorem GH{s:Stk}(hs:ev s):bN (cR s)=xA s:=by
 unfold cR xA
 have h0:bN (ee s 0)=nc [104,111,108,100,115] s.ho:=yD (w:=[104,111,108,100,115]) hs.ho
 have h7:bN (du lr (s.se.L id))=nc [115,101,110,116] [s.se.a,s.se.b,s.se.c,s.se.d,s.se.e,s.se.f]:=yD (w:=[115,101,110,116]) (ph hs.se)
 have h8:bN (du mR (s.ta.L id))=nc [116,97,107,101,110] [s.ta.a,s.ta.b,s.ta.c,s.ta.d,s.ta.e,s.ta.f]:=yD (w:=[116,97,107,101,110]) (ph hs.ta)
 rw[FO,FO,h7,h8,tv hs (show 5<6 by omega),tv hs (show 4<6 by omega),tv hs (show 3<6 by omega),tv hs (show 2<6 by omega),tv hs (show 1<6 by omega),tv hs (show 0<6 by omega),h0]
 simp only[List.append_assoc]
 rfl
def xI(o c:Nat):Nat:=(257*o+c+1) % 1000003
def Bh(s:Stk)(n:Int):Nat:=(xA s).foldl xI (n.toNat % 1000003)
theorem Qb(a:Nat):((a:Int)).tmod 1000003=((a % 1000003:Nat):Int):=rfl
theorem GO(b:ByteArray)(n:Nat):∀ i,i<=b.size->gO b n i=(((bN b).take i).foldl xI (n % 1000003):Nat)
 | 0,_=>by rw[List.take_zero];rfl
 |i+1,h=>by
  have hl:(bN b).length=b.size:=by simp[bN]
  have hi:i<(bN b).length:=by omega
  have hd:i<b.data.size:=h
  have hc:lf b i=(bN b)[i]:=by
   have e1:(bN b)[i]=(b.data[i]).toNat:=by simp[bN]
   have e2:b.data.getD i 0=b.data[i]:=by
    unfold Array.getD
    rw[dif_pos hd]
    rfl
   rw[e1,<-e2]
   rfl
  rw[gO,GO b n i (by omega),List.take_add_one,List.getElem?_eq_getElem hi,List.foldl_append,hc]
  have :(257*((((bN b).take i).foldl xI (n % 1000003):Nat):Int)+((bN b)[i]:Nat)+1)=((257*(((bN b).take i).foldl xI (n % 1000003))+(bN b)[i]+1:Nat):Int):=by simp
  rw[this,Qb]
  rfl
theorem Qu{s:Stk}{n:Int}(hs:ev s)(hn:bQ n):dV s n=(Bh s n:Nat):=by
 obtain⟨N,rfl⟩:∃ N:Nat,n=N:=⟨n.toNat,by have:=hn.1;omega⟩
 unfold dV Bh
 have hl:(bN (cR s)).length=(cR s).size:=by simp[bN]
 rw[GO _ _ _ (Nat.le_refl _),<-hl,List.take_length,GH hs,Int.toNat_natCast]
def qG:Option O->Option (List V)
 |some (.arr _ l)=>some l
 |some (.farr _ l)=>some l
 |_=>none
def BI(obj:Name->Option O):D->Option V
 | .v x=>some x
 | .nilsl=>some (.sl [])
 | .msl nm k=>match qG (obj nm)with
   |some l=>cond (Nat.beq k l.length) (some (.sl l)) none
   |none=>none
 |_=>none
def vh(obj:Name->Option O):List D->Option (List V)
 |[]=>some []
 |d::r=>match BI obj d with
  |some x=>match vh obj r with
   |some xs=>some (x::xs)
   |none=>none
  |none=>none
def A1(obj obj2:Name->Option O):Prop:=∀ nm,qG (obj2 nm)=qG (obj nm)
theorem SH(n:Nat){obj obj2:Name->Option O}(h:A1 obj obj2){d:D}{x:V}(hx:BI obj d=some x):
 (ax (n+1) obj2 d).ok/\(ax (n+1) obj2 d).x=x/\A1 obj (ax (n+1) obj2 d).obj:=by
 cases d with
 |v y=>cases hx;exact⟨trivial,rfl,h⟩
 |nilsl=>cases hx;exact⟨trivial,rfl,h⟩
 |msl nm k=>
  have aq:=h nm
  unfold BI at hx
  cases ho:obj2 nm with
  |none=>
   rw[ho]at aq
   have h0:qG (obj nm)=none:=aq.symm
   simp only[h0]at hx
   cases hx
  |some o=>
   rw[ho]at aq
   cases o with
   |arr sz l=>
    have h0:qG (obj nm)=some l:=aq.symm
    simp only[h0]at hx
    cases hb:Nat.beq k l.length with
    |false=>rw[hb]at hx;cases hx
    |true=>
     rw[hb]at hx
     cases hx
     have hk:=Nat.eq_of_beq_eq_true hb
     simp only[ax,ho]
     refine⟨hk,trivial,fun y=>?_⟩
     by_cases hy:y=nm
     ·subst hy
      rw[aH]
      exact h0.symm
     ·rw[aN _ _ _ hy]
      exact h y
   |farr sz l=>
    have h0:qG (obj nm)=some l:=aq.symm
    simp only[h0]at hx
    cases hb:Nat.beq k l.length with
    |false=>rw[hb]at hx;cases hx
    |true=>
     rw[hb]at hx
     cases hx
     simp only[ax,ho]
     exact⟨Nat.eq_of_beq_eq_true hb,trivial,h⟩
   |_=>
    have h0:qG (obj nm)=none:=aq.symm
    simp only[h0]at hx
    cases hx
 |_=>cases hx
theorem HK(n:Nat){obj:Name->Option O}:∀ {ds:List D} {xs:List V} {obj2:Name->Option O},A1 obj obj2->vh obj ds=some xs->
 (aM (ax (n+1)) obj2 ds).ok/\(aM (ax (n+1)) obj2 ds).xs=xs/\A1 obj (aM (ax (n+1)) obj2 ds).obj
 |[],xs,obj2,h,hx=>by cases hx;exact⟨trivial,rfl,h⟩
 |d::r,xs,obj2,h,hx=>by
  unfold vh at hx
  split at hx
  ·rename_i x hd
   split at hx
   ·rename_i ys hr
    cases hx
    obtain⟨a1,a2,a3⟩:=SH n h hd
    obtain⟨b1,b2,b3⟩:=HK n a3 hr
    exact⟨⟨a1,b1⟩,by simp only[aM,a2,b2],b3⟩
   ·cases hx
  ·cases hx
def BH(obj:Name->Option O):D->Option (List V)
 | .agg l=>vh obj l
 | .v (.agg l)=>some l
 |_=>none
theorem HJ{obj:Name->Option O}{d:D}{L:List V}(h:BH obj d=some L):(ax 6 obj d).ok/\(ax 6 obj d).x=.agg L:=by
 cases d with
 |agg l=>
  obtain⟨a1,a2,_⟩:=HK 4 (fun _=>rfl) (show vh obj l=some L from h)
  exact⟨a1,by simp only[ax]at *;exact congrArg V.agg a2⟩
 |v y=>
  cases y with
  |agg l=>cases h;exact⟨trivial,rfl⟩
  |_=>cases h
 |_=>cases h
def n6(n:Int):Bool:=decide (0<=n)&&decide (n<=1000000)
theorem qR{n:Int}(h:n6 n=true):bQ n:=by
 unfold n6 at h
 simp only[Bool.and_eq_true,decide_eq_true_eq]at h
 exact h
def u7{α:Type}(s:bj α)(f:α->Bool):Bool:=f s.a&&(f s.b&&(f s.c&&(f s.d&&(f s.e&&f s.f))))
theorem Bt{α:Type}{s:bj α}{f:α->Bool}(h:u7 s f=true):∀ i,i<6->f (s.get i)=true:=by
 unfold u7 at h
 simp only[Bool.and_eq_true]at h
 obtain⟨h0,h1,h2,h3,h4,h5⟩:=h
 intro i hi
 match i,hi with
 | 0,_=>exact h0
 | 1,_=>exact h1
 | 2,_=>exact h2
 | 3,_=>exact h3
 | 4,_=>exact h4
 | 5,_=>exact h5
def tw(s:Stk):Bool:=Nat.ble s.ho.length 40&&(s.ho.all n6&&(u7 s.un (fun l=>Nat.ble l.length 40&&l.all fun p=>n6 p.no&&n6 p.pa)&&(u7 s.se n6&&u7 s.ta n6)))
theorem yh{s:Stk}(h:tw s=true):ev s:=by
 unfold tw at h
 simp only[Bool.and_eq_true]at h
 obtain⟨h1,h2,h3,h4,h5⟩:=h
 have uz:=Bt h3
 refine⟨Nat.le_of_ble_eq_true h1,fun n hn=>qR (List.all_eq_true.1 h2 n hn),fun i hi=>?_,fun i hi p hp=>?_,fun i hi=>qR (Bt h4 i hi),fun i hi=>qR (Bt h5 i hi)⟩
 ·have:=uz i hi
  simp only[Bool.and_eq_true]at this
  exact Nat.le_of_ble_eq_true this.1
 ·have:=uz i hi
  simp only[Bool.and_eq_true]at this
  have :=List.all_eq_true.1 this.2 p hp
  simp only[Bool.and_eq_true]at this
  exact⟨qR this.1,qR this.2⟩
noncomputable def Qv:SpecB where
 spec:=P60.toSpec
 run obj t ds:=match ds with
  |[d,.v (.int .i64 n)]=>match BH obj d with
   |some L=>cond (tw (eW L)&&(n6 n&&fF 6 (.agg (aB (eW L))) (.agg L))) (some ⟨.v (.int .i64 (Bh (eW L) n:Nat)),dA (fp 6 obj) ds,[],fun t=>t⟩) none
   |none=>none
  |_=>none
 ok:=by
  intro obj t ds r hr
  split at hr
  ·rename_i d n
   split at hr
   ·rename_i L hL
    cases hb:(tw (eW L)&&(n6 n&&fF 6 (.agg (aB (eW L))) (.agg L)))with
    |false=>rw[hb]at hr;cases hr
    |true=>
     rw[hb]at hr
     cases hr
     simp only[Bool.and_eq_true]at hb
     obtain⟨h1,h2,h3⟩:=hb
     replace h3:aB (eW L)=L:=V.agg.inj (qx 6 h3)
     obtain⟨a1,a2⟩:=HJ hL
     have vJ:(aM (ax 6) obj [d,.v (.int .i64 n)]).xs=[.agg L,.int .i64 n]:=by
      show [(ax 6 obj d).x,(ax 6 (ax 6 obj d).obj (.v (.int .i64 n))).x]=_
      rw[a2];rfl
     have aa:(aM (ax 6) obj [d,.v (.int .i64 n)]).ok:=⟨a1,trivial,trivial⟩
     have cG:P60.pre [.agg L,.int .i64 n]:=⟨congrArg V.agg h3,rfl,yh h1,qR h2⟩
     have dL:P60.fn [.agg L,.int .i64 n]=vInt (dV (eW L) n):=rfl
     refine⟨?_,?_,rfl,rfl,fun tbl h=>h⟩
     ·show _/\P60.pre _
      rw[vJ]
      exact⟨aa,cG⟩
     ·show D.v (P60.fn _)=_
      rw[vJ,dL,Qu (yh h1) (qR h2)]
   ·cases hr
  ·cases hr
theorem Qw{b:ByteArray}{l:List Nat}(h:bN b=l):(⟨(l.map UInt8.ofNat).toArray⟩:ByteArray)=b:=by
 subst h
 apply ByteArray.ext
 unfold bN
 rw[List.map_map]
 have :(UInt8.ofNat∘UInt8.toNat)=id:=by funext x;simp
 rw[this,List.map_id]
noncomputable def Qd:SpecB where
 spec:=P91.toSpec
 run obj t ds:=match ds with
  |[d]=>match BH obj d with
   |some L=>cond (tw (eW L)&&fF 6 (.agg (aB (eW L))) (.agg L)) (some ⟨.v (.str ⟨((xA (eW L)).map UInt8.ofNat).toArray⟩),dA (fp 6 obj) ds,[],fun t=>t⟩) none
   |none=>none
  |_=>none
 ok:=by
  intro obj t ds r hr
  split at hr
  ·rename_i d
   split at hr
   ·rename_i L hL
    cases hb:(tw (eW L)&&fF 6 (.agg (aB (eW L))) (.agg L))with
    |false=>rw[hb]at hr;cases hr
    |true=>
     rw[hb]at hr
     cases hr
     simp only[Bool.and_eq_true]at hb
     obtain⟨h1,h3⟩:=hb
     replace h3:aB (eW L)=L:=V.agg.inj (qx 6 h3)
     obtain⟨a1,a2⟩:=HJ hL
     have vJ:(aM (ax 6) obj [d]).xs=[.agg L]:=by
      show [(ax 6 obj d).x]=_
      rw[a2]
     have aa:(aM (ax 6) obj [d]).ok:=⟨a1,trivial⟩
     have cG:P91.pre [.agg L]:=⟨congrArg V.agg h3,yh h1⟩
     have dL:P91.fn [.agg L]=.str (cR (eW L)):=rfl
     refine⟨?_,?_,rfl,rfl,fun tbl h=>h⟩
     ·show _/\P91.pre _
      rw[vJ]
      exact⟨aa,cG⟩
     ·show D.v (P91.fn _)=_
      rw[vJ,dL,Qw (GH (yh h1))]
   ·cases hr
  ·cases hr
noncomputable def aac:SpecB where
 spec:=S54
 run obj t ds:=match ds with
  |[.msl nm k,.v (.int .i64 i),.v (.int .i64 j)]=>match obj nm with
   |some (.arr sz l)=>cond (Nat.beq k l.length&&(Nat.beq sz 1&&(decide (0<=i)&&(decide (j=i+1)&&Nat.blt i.toNat l.length)))) (some ⟨.v (.sl (l.eraseIdx i.toNat)),[nm],[nm],fun t=>dD t nm (.farr sz (l.eraseIdx i.toNat++[zI]))⟩) none
   |_=>none
  |_=>none
 ok:=by
  intro obj t ds r hr
  split at hr
  ·rename_i nm k i j
   split at hr
   ·rename_i sz l ho
    cases hb:(Nat.beq k l.length&&(Nat.beq sz 1&&(decide (0<=i)&&(decide (j=i+1)&&Nat.blt i.toNat l.length))))with
    |false=>rw[hb]at hr;cases hr
    |true=>
     rw[hb]at hr
     cases hr
     simp only[Bool.and_eq_true,decide_eq_true_eq]at hb
     obtain⟨h1,h2,h3,h4,h5⟩:=hb
     have sb:i.toNat<l.length:=by simpa[Nat.blt_eq]using h5
     simp only[S54,xd,ho]
     refine⟨⟨Nat.eq_of_beq_eq_true h1,Nat.eq_of_beq_eq_true h2,h3,h4,sb⟩,trivial,rfl,rfl,fun tbl h=>?_⟩
     rw[na,h]
   ·cases hr
  ·cases hr
noncomputable def IV(f:FuncId):Option SpecB:=
 match Nat.beq f 76 with
 |true=>some (Nz Tryz.prog 23)
 |false=>match Nat.beq f 77 with
  |true=>some (Nz Tryz.prog 22)
  |false=>match Nat.beq f 60 with
   |true=>some Qv
   |false=>match Nat.beq f 91 with
    |true=>some Qd
    |false=>match Nat.beq f 54 with
     |true=>some aac
     |false=>none
noncomputable def CA(_:FuncId->Option SpecB)(f:FuncId):Option SpecB:=IV f
theorem U4:∀ Γ:FuncId->Option SpecB,(∀ f s,aV Γ f=some s->al Tryz.prog f s)->∀ f s,CA Γ f=some s->al Tryz.prog f s.spec:=by
 intro Γ _ f s h
 unfold CA IV at h
 split at h
 ·rename_i hb;have:=Nat.eq_of_beq_eq_true hb;subst this;cases h;exact Ak Fy
 ·split at h
  ·rename_i hb;have:=Nat.eq_of_beq_eq_true hb;subst this;cases h;exact Ak Fx
  ·split at h
   ·rename_i hb;have:=Nat.eq_of_beq_eq_true hb;subst this;cases h;exact CM
   ·split at h
    ·rename_i hb;have:=Nat.eq_of_beq_eq_true hb;subst this;cases h;exact Hn.sound
    ·split at h
     ·rename_i hb;have:=Nat.eq_of_beq_eq_true hb;subst this;cases h;exact Ki
     ·cases h
noncomputable def I3(F:List Nat)(T:List Ent):FuncId->Option SpecB:=ΓB Tryz.prog (FL Tryz.prog CA 100000 F T) 100000 24
theorem U1{F:List Nat}{T:List Ent}(hT:∀ e∈T,aT Tryz.prog e):∀ f s,aV (I3 F T) f=some s->al Tryz.prog f s:=
 Gi (abf (fun Γ h f s=>U4 Γ h f s) hT) 24
theorem cP{F:List Nat}{T:List Ent}(hT:∀ e∈T,aT Tryz.prog e){e:Ent}(h:BB Tryz.prog (I3 F T) 100000 e=true):aT Tryz.prog e:=SA (U1 hT) h
theorem cS{P:Program}{e:Ent}{T:List Ent}(h:aT P e)(hT:∀ e∈T,aT P e):∀ x∈e::T,aT P x:=by
 intro x hx
 rcases List.mem_cons.1 hx with rfl | hx
 ·exact h
 ·exact hT x hx
def JB:List Ent:=[]
theorem J':∀ e∈JB,aT Tryz.prog e:=fun e h=>by cases h
end Go.Eng
