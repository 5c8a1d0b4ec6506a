import Derived.Test.YtckmfkgppohnmaaDoorK7
import Derived.Test.YtckmfkgppohnmaaDoorProg
/- Texts NDel to NW63. -/
set_option linter.all false
set_option linter.unusedVariables false
namespace Go.Eng
open Go Go.Proofs Go.RowKit Go.Lib Go.Shelf
theorem Th{P:Program}(w:World)(t e ty:TypeId)(z:Value)(ht:P.underlying t=some (.slice e))(hv:bb P e=some z)(h1:∀ v∈z.cells.toList,v.oneCell'=true)(b o c:Nat)
 (hc:∀ j,j<z.cells.size->(w.cell? ⟨b,o+j,none⟩).isSome=true) (hf:∀ j,w.frozen? ⟨b,j,none⟩=false):
 (Builtin.clear_ #[t] ty #[.slice (some ⟨b,o,none⟩) 1 c]).run P w=.ok (.tuple #[]) (w.setCells b o z.cells.toList):=by
 have ov:(Builtin.zeroCells z.cells 1).toList=z.cells.toList:=by
  have :Builtin.zeroCells z.cells 1=z.cells:=by
   apply Array.ext
   ·simp[Builtin.zeroCells]
   ·intro i h1 h2
    simp[Builtin.zeroCells,Nat.mod_eq_of_lt h2]
    rw[getElem!_pos z.cells i h2]
  rw[this]
 have bF:=run_storeCells_cells (P:=P) b o z.cells.toList 0 w (by simpa using hc) (by simpa using fun j _=>hf (o+j)) h1
 simp only[Nat.add_zero]at bF
 simp[Builtin.clear_,run_underlying ht,qI hv,ov,bF]
set_option maxHeartbeats 4000000 in
set_option maxRecDepth 100000 in
theorem aaG(b off n c i:Nat)(cs:List Value)(w:World)(hi:i<n)(DN:n<=c)(Me:c<=9223372036854775807)(bO:cs.length=n*1)
 (gq:∀ j v,cs[j]?=some v->w.cell? ⟨b,off+j,none⟩=some v) (pY:∀ j,w.frozen? ⟨b,j,none⟩=false) (wN:∀ v∈cs,v.oneCell'=true):
 Calls Tryd.prog 44 #[.slice (some ⟨b,off,none⟩) n c,.int .i64 i,.int .i64 (i+1)] w fun e w'=>
  e=.returned (.slice (some ⟨b,off,none⟩) (n-1) c)/\w'=(w.drew.setCells b (off+i*1) (cs.drop ((i+1)*1))).setCells b (off+(n-1)*1) (List.replicate 1 (.int .i64 0)):=by
 have mixed:Tryd.prog.follows Departure.mixedOrders=true:=by kernel_rfl
 have uE:bK Tryd.prog 34=some (3,1,8):=by kernel_rfl
 have wJ:bb Tryd.prog 3=some (.int .i64 0):=by kernel_rfl
 obtain⟨i0,lv,rz⟩:∃ i0,Tryd.prog.info? 3=some i0/\i0.size=1:=by
  obtain⟨hu,i0,h1,h2,h3⟩:=hM uE
  exact⟨i0,h1,h2⟩
 obtain⟨news,wi⟩:∃ news,news=cs.drop ((i+1)*1):=⟨_,rfl⟩
 have hlen:news.length=(n-(i+1))*1:=by rw[wi,List.length_drop,bO,Nat.sub_mul]
 have Dn:∀ j,j<n*1->(w.cell? ⟨b,off+j,none⟩).isSome=true:=fun j hj=>by
  rw[gq j _ (List.getElem?_eq_getElem (by omega))];rfl
 obtain⟨A,hA,bD⟩:∃ A:Addr,(if c=i+1 then some (⟨b,off,none⟩:Addr)else some ⟨b,off+(i+1)*1,none⟩)=some A/\Hid (∀ t u,news[t]?=some u->w.drew.cell? (A.add t)=some u):=by
  by_cases h:c=i+1
  ·refine⟨⟨b,off,none⟩,by simp[h],fun t u hu=>?_⟩
   have h0:news.length=0:=by rw[hlen];have:n-(i+1)=0:=by omega
                             rw[this,Nat.zero_mul]
   rw[List.length_eq_zero_iff.1 h0]at hu
   simp at hu
  ·refine⟨⟨b,off+(i+1)*1,none⟩,by simp[h],fun t u hu=>?_⟩
   rw[Addr.add_lit,Nat.add_assoc]
   exact gq _ _ (by rw[wi,List.getElem?_drop]at hu;exact hu)
 have s1:Hid (news.length=(n-(i+1))*1):=hlen
 have s2:Hid (∀ u∈news,u.oneCell'=true):=fun u hu=>wN u (List.mem_of_mem_drop (wi▸hu))
 have s3:Hid (∀ t,t<news.length->(w.drew.cell? ⟨b,off+i*1+t,none⟩).isSome=true/\w.drew.frozen? ⟨b,off+i*1+t,none⟩=false):=by
  intro t ht
  rw[hlen]at ht
  refine⟨?_,pY _⟩
  rw[Nat.add_assoc]
  exact Dn _ (by omega)
 obtain⟨W1,ir⟩:∃ W1,W1=w.drew.setCells b (off+i*1) news:=⟨_,rfl⟩
 have Ll:∀ j,j<n*1->(W1.cell? ⟨b,off+j,none⟩).isSome=true:=fun j hj=>by
  rw[ir]
  exact isSome_setCells b _ _ _ (fun t ht=>(s3 t ht).1) _ (Dn j hj)
 have Eo:∀ ty,(Builtin.clear_ #[34] ty #[.slice (some ⟨b,off+(i+(n-(i+1)))*1,none⟩) (n-(i+(n-(i+1)))) (c-(i+(n-(i+1))))]).run Tryd.prog W1=.ok (.tuple #[]) (W1.setCells b (off+(i+(n-(i+1)))*1) (List.replicate 1 (.int .i64 0))):=fun ty=>by
  have e:n-(i+(n-(i+1)))=1:=by omega
  rw[e]
  exact Th W1 34 3 ty _ Tryd.underlying34 wJ (by decide) b _ _ (fun j hj=>by rw[Nat.add_assoc];exact Ll _ (by have:j<1:=hj;omega)) (fun j=>by rw[ir,World.frozen?_setCells];exact pY _)
 have hW:Hid (W1=w.drew.setCells b (off+i*1) news):=ir
 rw[<-wi,<-ir]
 have hic:i<=c:=by omega
 have hjc:i+1<=c:=by omega
 have aj:¬ ((i:Int)=(i:Int)+1):=by omega
 have hjn:i+1<=n:=by omega
 have DE:(0:Int)<=(i:Int)+1:=by omega
 have rJ:(i:Int)+1<=(n:Int):=by omega
 clear ir Ll Dn wi hlen
 simp only[Nat.mul_one]at hA Eo
 go_enter Tryd.func44,Tryd.ntmps44
 go_wp2_with fail
 go_region_law_o (refine step_append_room rfl (.tmp 22) (.tmp 25) 34 rfl 3 i0 1 Tryd.underlying34 lv rz b off i c (by simp[Act.eval,Act.put]) A (n-(i+1)) (c-(i+1)) news (by simp[Act.eval,Act.put]) s1.out bD.out s2.out (by omega) s3.out ?_;rw[<-hW.out])
 go_wp2
 go_ret
 have e:n-1=i+(n-(i+1)):=by omega
 rw[e,Nat.mul_one]
 exact⟨rfl,rfl⟩
def zI:V:=.int .i64 0
def xp(obj:Name->Option O):List D->R
 |[.msl nm k,.v (.int .i64 i),.v (.int .i64 j)]=>match obj nm with
  |some (.arr sz l)=>⟨k=l.length/\sz=1/\0<=i/\j=i+1/\i.toNat<l.length,.v (.sl (l.eraseIdx i.toNat)),upd obj nm (some (.farr sz (l.eraseIdx i.toNat++[zI])))⟩
  |_=>.bad obj
 |_=>.bad obj
def Ah:List D->List Name
 |[.msl nm _,_,_]=>[nm]
 |_=>[]
def S54:Spec:=⟨fun obj _ ds=>xp obj ds,fun _ _ ds=>Ah ds,fun _ _ ds=>Ah ds⟩
theorem Fy{l:List V}{i q:Nat}(hi:i<l.length)(h:q<(l.eraseIdx i++[zI]).length):
 (q<i/\∃ h':q<l.length,(l.eraseIdx i++[zI])[q]=l[q])\/(i<=q/\∃ h':q+1<l.length,(l.eraseIdx i++[zI])[q]=l[q+1])\/(q+1=l.length/\(l.eraseIdx i++[zI])[q]=zI):=by
 have hl:(l.eraseIdx i).length=l.length-1:=List.length_eraseIdx_of_lt hi
 have hq:q<l.length:=by simp[hl]at h;omega
 by_cases h1:q<l.length-1
 ·rw[List.getElem_append_left (by omega),List.getElem_eraseIdx]
  by_cases h2:q<i
  ·exact .inl ⟨h2,hq,by rw[dif_pos h2]⟩
  ·exact .inr (.inl ⟨by omega,by omega,by rw[dif_neg h2]⟩)
 ·refine .inr (.inr ⟨by omega,?_⟩)
  rw[List.getElem_append_right (by omega)]
  simp
theorem aaF:S54.Near:=by
 refine⟨fun obj obj2 t ds h=>?_,fun obj obj2 t ds h=>rfl,fun obj t ds nm hn=>hn,fun obj obj2 t ds h=>rfl⟩
 simp only[S54]at h |-
 unfold xp
 split
 ·rename_i nm k i j
  have h':obj2 nm=obj nm:=h nm (by simp[Ah])
  simp only[h']
  split
  ·exact .one (by simp[Ah]) h
  ·exact .none _ h
 ·exact .none _ h
set_option maxHeartbeats 1000000 in
theorem KJ:ak Tryd.prog 44 S54:=by
 refine⟨aaF,fun _ args w=>iv Tryd.func44 rfl (by kernel_rfl) args w,fun _ G φ m σ a w hC t ds us _ hl hr aa=>?_,fun e=>(Nat.ne_of_lt (show (44:Nat)<yid by decide) e).elim⟩
 simp only[S54,xp]at aa |-
 split at aa
 case h_2=>exact aa.elim
 rename_i nm k i j
 simp only[List.length_cons,List.length_nil]at hl
 have r0:=hr 0 (by simp) (by omega)
 have r1:=hr 1 (by simp) (by omega)
 have r2:=hr 2 (by simp) (by omega)
 simp only[List.getElem_cons_zero,List.getElem_cons_succ]at r0 r1 r2
 have nv:us= #[us[0],us[1],us[2]]:=by
  apply Array.ext
  ·simp;omega
  ·intro j h1 h2
   have :j=0\/j=1\/j=2:=by omega
   rcases this with rfl | rfl | rfl<;>rfl
 rw[nv]
 generalize us[0]=u0 at r0
 generalize us[1]=u1 at r1
 generalize us[2]=u2 at r2
 clear nv hr hl us
 cases r1 with
 |v _ _ r1=>
 cases r1 with
 |int _ _=>
 cases r2 with
 |v _ _ r2=>
 cases r2 with
 |int _ _=>
 split at aa
 case h_2=>exact aa.elim
 rename_i sz l al
 obtain⟨hk,bf,lv,hj,fm⟩:=aa
 subst bf hj
 cases r0 with
 |msl _ _ _ hh vX=>
 obtain⟨o,nn,cz,hlen,_,cl⟩:=hh
 rw[al]at cz;cases cz
 simp only[O.len?,Option.some.injEq]at hlen
 subst hlen
 have hv:=cl hk
 subst hk
 obtain⟨i,rfl⟩:∃ n:Nat,i=(n:Int):=⟨i.toNat,by omega⟩
 simp only[Int.toNat_natCast]at fm |-
 rcases hC.objs nm _ al with⟨_,jB⟩ | ⟨g0,g1,g2,g3,g4,a7,T',f,g5,g6,g7,g8⟩
 ·subst jB;simp at fm
 have iq:(φ nm).blk<w.heap.size:=(Array.getElem?_eq_some_iff.1 g5).1
 have Dg:u0=.slice (some ⟨(φ nm).blk,(φ nm).off,none⟩) l.length (φ nm).cap:=by rw[hv];simp only[Loc.slice,g0];rfl
 subst Dg
 have oG:holds φ σ.obj nm:=⟨_,al,rfl,g0⟩
 obtain⟨c1,mr⟩:∃ c1:Nat->Nat->Value,∀ q j,q<l.length->j<1->a7[(φ nm).off+q*1+j]?=some (c1 q j):=⟨fun q j=>(a7[(φ nm).off+q*1+j]?).getD undef,fun q j hq hj=>by
  obtain⟨c,x1,_⟩:=g8 q j hq (by rw[g3];exact hj)
  simp only[x1,Option.getD_some]⟩
 have bY:∀ q j (h:q<l.length) (h':j<l[q].cells.length),ay m l[q].cells[j] (c1 q j):=fun q j h h'=>by
  obtain⟨c,x1,x2⟩:=g8 q j h h'
  have :=mr q j h (by rw[<-g3 q h];exact h')
  rw[x1]at this;cases this;exact x2
 have zQ:∀ j v,(rowOf c1 l.length 1)[j]?=some v->w.cell? ⟨(φ nm).blk,(φ nm).off+j,none⟩=some v:=fun j v wv=>by
  have :=s7 (w:=w) (c:=c1) (n:=l.length) (sz:=1) (blk:=(φ nm).blk) (o:=(φ nm).off) (fun q j hq hj=>by rw[mI g5];exact mr q j hq hj) j v wv
  rwa [jJ]at this
 have zp:∀ v∈rowOf c1 l.length 1,v.oneCell'=true:=by
  intro v hv
  simp only[rowOf,List.mem_map,List.mem_range]at hv
  obtain⟨k,hk,rfl⟩:=hv
  obtain⟨d1,d2⟩:=w5 hk
  exact vD ((bY _ _ d1 (by rw[g3];exact d2)).one (g4 _ d1 _ (List.getElem_mem _)))
 refine(aaG (φ nm).blk (φ nm).off l.length (φ nm).cap i (rowOf c1 l.length 1) w fm g1 (by unfold maxLen at g2;omega) (dX _ _ _) zQ (fun j=>MG g5 g6) zp).mono ?_
 rintro e w' ⟨rfl,rfl⟩
 obtain⟨lV,k1,k2,k3⟩:=qH (φ nm).blk T' f ((rowOf c1 l.length 1).drop ((i+1)*1)) ((φ nm).off+i*1) w.drew a7 g5
 obtain⟨jM,k4,k5,k6⟩:=qH (φ nm).blk T' f (List.replicate 1 (.int .i64 0)) ((φ nm).off+(l.length-1)*1) (bn w.drew (φ nm).blk (.cells lV T' f)) lV (jo iq)
 rw[k1,k4,xC]
 have hL:(l.eraseIdx i++[zI]).length=l.length:=by simp[List.length_eraseIdx_of_lt fm];omega
 have nx:∀ q (h:q<(l.eraseIdx i++[zI]).length),(l.eraseIdx i++[zI])[q].cells.length=1:=fun q h=>by
  rcases Fy fm h with⟨_,h',e⟩ | ⟨_,h',e⟩ | ⟨_,e⟩<;>rw[e]
  ·exact g3 _ _
  ·exact g3 _ _
  ·rfl
 have ue:∀ q (h:q<(l.eraseIdx i++[zI]).length),∀ x∈(l.eraseIdx i++[zI])[q].cells,x.one=true:=fun q h=>by
  rcases Fy fm h with⟨_,h',e⟩ | ⟨_,h',e⟩ | ⟨_,e⟩<;>rw[e]
  ·exact g4 _ _
  ·exact g4 _ _
  ·intro x hx
   simp only[zI,V.cells,List.mem_cons,List.not_mem_nil,or_false,or_self]at hx
   subst hx;rfl
 have Md:l.length*1<=(φ nm).cap*1:=Nat.mul_le_mul_right _ g1
 have kL:∀ q j (h:q<(l.eraseIdx i++[zI]).length) (h':j<(l.eraseIdx i++[zI])[q].cells.length),∃ c,jM[(φ nm).off+q*1+j]?=some c/\ay m (l.eraseIdx i++[zI])[q].cells[j] c:=by
  intro q j h h'
  have hq:q<l.length:=by rw[<-hL];exact h
  have hj:j<1:=by rw[<-nx q h];exact h'
  rw[k6 _ (by rw[k2];omega),k3 _ (by omega)]
  simp only[List.length_replicate,List.length_drop,dX]
  rcases Fy fm h with⟨h1,h2,e⟩ | ⟨h1,h2,e⟩ | ⟨h1,e⟩
  ·simp only[e]at h' |-
   rw[if_neg (by omega),if_neg (by omega)]
   exact⟨_,mr q j h2 hj,bY q j h2 h'⟩
  ·simp only[e]at h' |-
   rw[if_neg (by omega),if_pos (by omega),List.getElem?_drop,show (i+1)*1+((φ nm).off+q*1+j-((φ nm).off+i*1))=(q+1)*1+j by omega]
   exact⟨_,ky c1 h2 hj,bY (q+1) j h2 h'⟩
  ·simp only[e]at h' |-
   rw[if_pos (by omega)]
   refine⟨.int .i64 0,by rw[List.getElem?_replicate,if_pos (by omega)],?_⟩
   have hz:zI.cells[j]=.int .i64 0:=by
    have :zI.cells=List.replicate 1 (.int .i64 0):=rfl
    simp only[this,List.getElem_replicate]
   rw[hz]
   exact .int _ _
 have hx:=Ext.same (φ:=φ) (o':=.arr 1 (l.eraseIdx i++[zI])) al (by simp only[O.len?,hL]) rfl
 have fT:=hC.chg (w':=bn w.drew (φ nm).blk (.cells jM T' f)) nm (.arr 1 (l.eraseIdx i++[zI])) (φ nm) hx ⟨rfl,rfl,rfl,by rw[A4];exact Nat.le_refl _⟩
  (fun b' cB hn=>by
    rw[lf (by rcases hn with h | h; · rw[g0]at h;cases h
              ·exact h)]
    rfl) (fun _=>.inr ⟨oG,rfl⟩)
  (.inr ⟨g0,by rw[hL];exact g1,g2,nx,ue,jM,T',f,jo iq,g6,by rw[k5,k2];exact g7,kL⟩)
 rw[eE]at fT hx
 obtain⟨m',q1,q2,q3⟩:=fT.frz1 nm (.arr 1 (l.eraseIdx i++[zI])) (.farr 1 (l.eraseIdx i++[zI])) (aC _ _ _) rfl g0 jM T' f (jo iq) rfl rfl rfl
  (fun m' hle iJ=>.inr ⟨g0,⟨by rw[hL];exact g1,by rw[hL];exact Nat.le_trans g1 g2⟩,nx,ue,fun i j a b=>let ⟨c,x,y⟩:=kL i j a b;⟨c,iJ _ _ x,y.mono hle⟩⟩)
 simp only[sQ]at q2
 have iE:Ext φ φ σ.obj (upd σ.obj nm (some (.farr 1 (l.eraseIdx i++[zI])))):=by
  have :=Ext.same (φ:=φ) (o':=.farr 1 (l.eraseIdx i++[zI])) al (by simp only[O.len?,hL]) rfl
  rwa [eE]at this
 refine⟨_,φ,m',rfl,q2,.v _ _ ?_,iE⟩
 have r5:(l.eraseIdx i).length=l.length-1:=List.length_eraseIdx_of_lt fm
 rw[<-r5]
 by_cases LC:l.eraseIdx i=[]
 ·rw[LC];exact .slnil _ _
 ·have fH:∀ q (h:q<(l.eraseIdx i).length),(l.eraseIdx i++[zI])[q]'(by rw[List.length_append];omega)=(l.eraseIdx i)[q]:=fun q h=>List.getElem_append_left h
  refine .sl _ _ _ _ 1 (fun q j=>(jM[(φ nm).off+q*1+j]?).getD undef) LC (by rw[r5];omega) (by rw[r5];omega) (fun q h=>?_) (fun q j h hj=>?_) (fun q j h hj=>?_) (fun q h=>?_)
  ·rw[<-fH q h];exact nx _ _
  ·obtain⟨c,x,y⟩:=kL q j (by rw[List.length_append];omega) (by rw[nx];exact hj)
   rw[x];exact q3 _ _ x
  ·have hg:=fH q h
   simp only[<-hg]at hj |-
   obtain⟨c,x,y⟩:=kL q j (by rw[List.length_append];omega) hj
   rw[x];exact y.mono q1
  ·rw[<-fH q h];exact ue _ _
open Go Go.Proofs
theorem BV{l:List Int}(h:fZ l=true):l.Pairwise (· < ·):=by
 unfold fZ at h
 rw[Bool.and_eq_true,iS]at h
 have h1:∀ i (hi:i+1<l.length),l[i]'(by omega)<l[i+1]:=fun i hi=>by
  have :=h.1 (i+1) hi
  unfold kC at this
  simp only[Bool.and_eq_true,Bool.or_eq_true,decide_eq_true_eq,Nat.add_sub_cancel]at this
  rw[getD_at (show i<l.length by omega),getD_at hi]at this
  rcases this.2 with h2 | h2
  ·simp at h2
  ·exact h2
 refine List.pairwise_iff_getElem.2 fun i j hi hj gl=>?_
 induction j with
 |zero=>omega
 |succ j ih=>
  rcases Nat.lt_succ_iff_lt_or_eq.1 gl with h2 | rfl
  ·have:=ih (by omega) h2
   have :=h1 j hj
   omega
  ·exact h1 i hj
theorem MZ(l:List Int)(p:Int):fJ l p l.length=l.filter fun x=>x != p:=by
 unfold fJ;rw[List.take_length]
theorem aag{l:List Int}{p:Int}(h:∀ y∈l,p<y):l.filter (fun x=>x != p)=l:=by
 rw[List.filter_eq_self]
 intro y hy
 have :=h y hy
 simp only[bne_iff_ne,ne_eq]
 omega
theorem M9:∀ {l:List Int} {p:Int},l.Pairwise (· < ·)->bp l p=true->l.eraseIdx (bz l p)=l.filter (fun x=>x != p)/\bz l p<l.length
 |[],p,_,h=>by simp[bp]at h
 |a::r,p,hs,h=>by
  rw[List.pairwise_cons]at hs
  by_cases ha:a=p
  ·subst ha
   have h0:bz (a::r) a=0:=by
    unfold bz
    rw[List.takeWhile_cons_of_neg (by simp)];rfl
   rw[h0]
   have hf:List.filter (fun x=>x != a) (a::r)=List.filter (fun x=>x != a) r:=by simp
   rw[hf,aag hs.1]
   exact⟨rfl,by simp⟩
  ·have hr:bp r p=true:=by
     unfold bp at h |-
     rw[List.contains_iff_mem]at h |-
     rcases List.mem_cons.1 h with h1 | h1
     ·exact absurd h1.symm ha
     ·exact h1
   have ae:a<p:=hs.1 p (by unfold bp at hr;rwa [List.contains_iff_mem]at hr)
   obtain⟨h1,h2⟩:=M9 hs.2 hr
   have h0:bz (a::r) p=bz r p+1:=by
    unfold bz
    rw[List.takeWhile_cons_of_pos (by simpa using ae)];rfl
   rw[h0]
   have hf:List.filter (fun x=>x != p) (a::r)=a::List.filter (fun x=>x != p) r:=by simp[ha]
   rw[hf,List.eraseIdx_cons_succ,h1]
   exact⟨rfl,by simpa using h2⟩
theorem zW{d:Dk}{p:Int}:bp d.now.ho p=!lD d p:=by
 unfold lD
 rw[MZ]
 cases h:bp d.now.ho p with
 |true=>
  have hlen:¬ (d.now.ho.filter fun x=>x != p).length=d.now.ho.length:=by
   intro he
   have h1:=List.filter_eq_self.1 (List.length_filter_eq_length_iff.1 he |> fun hh=>List.filter_eq_self.2 hh)
   unfold bp at h
   rw[List.contains_iff_mem]at h
   have :=h1 p h
   simp at this
  rw[decide_eq_false hlen];rfl
 |false=>
  have dP:(d.now.ho.filter fun x=>x != p)=d.now.ho:=by
   rw[List.filter_eq_self]
   intro y hy
   simp only[bne_iff_ne,ne_eq]
   rintro rfl
   unfold bp at h
   have :=List.contains_iff_mem.2 hy
   rw[h]at this;cases this
  rw[dP,decide_eq_true rfl];rfl
theorem aaC(l:List Int)(i:Nat):(l.map vInt).eraseIdx i=(l.eraseIdx i).map vInt:=by
 rw[List.eraseIdx_eq_take_drop_succ,List.eraseIdx_eq_take_drop_succ,List.map_append,List.map_take,List.map_drop]
attribute [go_sem] cN S54 xp
@[go_sem] theorem ahv(f:Name->Name)(d:Dk)(j:Nat)(hd:D)(nm:Name)(n:Nat)(se:Int):D.renL f (bM d j hd nm n se)=bM d j (hd.ren f) (f nm) n se:=by
  unfold bM
  rw[ic,List.map_set,List.map_set,List.map_set,List.map_map]
  rfl
noncomputable def Pr(j:Nat):List (Nat×Spec):=[(39,S23),(40,S50),(41,S51),(42,S52),(43,AW j),(44,S54)]
attribute [go_sem] Pr
theorem aco{j:Nat}(hj:j<6):∀ f s,tbl (Pr j) f=some s->ak Tryd.prog f s:=tc pK<|tc KN<|tc CV<|tc KM<|tc (KL j hj)<|tc KJ<|tn
noncomputable def P8:PSpec:=p3 dK iI iI (fun d _ _=>eL d) (fun d p t=>.tup [kS (fX d p t),vInt (da d p t)]) false
noncomputable def S8:Spec:=P8.toSpec
attribute [go_sem] P8 S8
set_option maxHeartbeats 4000000 in
theorem s8:aZ Tryd.prog 14 P8:=by
 refine w3 (rs:=[.cell 6 44,.tmp 7]) Tryd.func14 Tryd.ntmps14 (by rfl) (by kernel_rfl) (by decide) (fun h=>by cases h) ⟨_,rfl,lb rfl,fun d p t hp hw=>?_⟩
 have hP:=br
 simp only[dK,iI]at hw |-
 obtain⟨j,hj,oF⟩:=Tv d t
 have hΓ:=aco hj
 have hs:eL d:=hp
 repeat refine sq ?_
 refine rx hΓ [1,2,3,6] [[3,0],[6,0]] (fun K' hK=>by simp only[go_sem];(repeat (refine⟨ai,?_⟩));exact hK _ (by simp only[go_sem]) (by simp only[go_sem]<;>rfl)) ?_
 refine bq (mW [6,0] _ (an zD) rfl rfl [1,2,3,6] [[3,0],[6,0]] ?_ rfl) ?_
 ·simp only[go_sem]
 simp only[go_sem]
 refine bq (dS [3,0] (an d) rfl [1,2,3,6] [[3,0],[6,0]] ?_ rfl) ?_
 ·simp only[go_sem]
 simp only[go_sem]
 repeat refine sq ?_
 refine rx hΓ [1,2,3,6,8] [[3,0],[6,0]] (fun K' hK=>by simp only[go_sem];(repeat (refine⟨ai,?_⟩));exact hK _ (by simp only[go_sem]) (by simp only[go_sem]<;>rfl)) ?_
 repeat refine sq ?_
 refine rx hΓ [1,2,3,6,8,16] [[3,0],[6,0]] (fun K' hK=>by simp only[go_sem];(repeat (refine⟨ai,?_⟩));exact hK _ (by simp only[go_sem]) (by simp only[go_sem]<;>rfl)) ?_
 repeat refine sq ?_
 refine aD rfl rfl (fun hb=>?_) (fun hb=>?_)
 ·repeat refine sq ?_
  have hd:=sv hb
  have hq:=RJ (p:=p) (t:=t) hd
  have e1:=kg hd
  repeat refine sq ?_
  refine rx hΓ [6,7] [[6,0]] (fun K' hK=>by simp only[go_sem];(repeat (refine⟨ai,?_⟩));exact hK _ (by simp only[go_sem]) (by simp only[go_sem]<;>rfl)) ?_
  refine ax ?_
  simp only[go_sem]
  first | (rw[hq.1,hq.2];done) | (rw[hq.1,hq.2];rfl) | (rw[hq.1,hq.2,e1];done) | (rw[hq.1,hq.2,e1];rfl)
 ·repeat refine sq ?_
  have hd:=ss hb
  refine aI ?_
  repeat refine sq ?_
  refine rx hΓ [1,2,3,6,21] [[3,0],[6,0]] (fun K' hK=>by simp only[go_sem];(repeat (refine⟨ai,?_⟩));exact hK _ (by simp only[go_sem]) (by simp only[go_sem]<;>rfl)) ?_
  repeat refine sq ?_
  refine aD rfl rfl (fun hb=>?_) (fun hb=>?_)
  ·repeat refine sq ?_
   have h1:aT p 1 999=false:=by simpa using hb
   have hq:=RN (t:=t) hd h1
   repeat refine sq ?_
   refine rx hΓ [6,7] [[6,0]] (fun K' hK=>by simp only[go_sem];(repeat (refine⟨ai,?_⟩));exact hK _ (by simp only[go_sem]) (by simp only[go_sem]<;>rfl)) ?_
   refine ax ?_
   simp only[go_sem]
   first | (rw[hq.1,hq.2];done) | (rw[hq.1,hq.2];rfl) | (rw[hq.1,hq.2,e1];done) | (rw[hq.1,hq.2,e1];rfl)
  ·repeat refine sq ?_
   have h1:aT p 1 999=true:=by simpa using hb
   refine aI ?_
   repeat refine sq ?_
   refine rx hΓ [1,2,3,6,9] [[3,0],[6,0]] (fun K' hK=>by simp only[go_sem];(repeat (refine⟨ai,?_⟩));exact hK _ (by simp only[go_sem]) (by simp only[go_sem]<;>rfl)) ?_
   repeat refine sq ?_
   refine rx hΓ [1,2,3,6,9,27] [[3,0],[6,0]] (fun K' hK=>by simp only[go_sem];(repeat (refine⟨ai,?_⟩));exact hK _ (by simp only[go_sem]) (by simp only[go_sem]<;>rfl)) ?_
   repeat refine sq ?_
   refine aD rfl rfl (fun hb=>?_) (fun hb=>?_)
   ·repeat refine sq ?_
    have hn:=OU hb
    have h2:dF d t=false:=by unfold lE at hn;rw[hd]at hn;simpa using hn
    have hq:=RI hd h1 h2
    have e1:=xn hd h2
    repeat refine sq ?_
    refine rx hΓ [6,7] [[6,0]] (fun K' hK=>by simp only[go_sem];(repeat (refine⟨ai,?_⟩));exact hK _ (by simp only[go_sem]) (by simp only[go_sem]<;>rfl)) ?_
    refine ax ?_
    simp only[go_sem]
    first | (rw[hq.1,hq.2];done) | (rw[hq.1,hq.2];rfl) | (rw[hq.1,hq.2,e1];done) | (rw[hq.1,hq.2,e1];rfl)
   ·repeat refine sq ?_
    obtain⟨_,h2⟩:=OV hb
    obtain⟨tX,ow,_⟩:=Bc h2
    have pX:=oF h2
    have aa:=yx hd
    have hol:=aa.hol
    have zg:=aa.unl j hj
    have gi:=aa.se j hj
    have Ds:d.now.ho.Pairwise (· < ·):=by
     have hh:=hd
     unfold av im cp at hh
     simp only[Bool.and_eq_true]at hh
     exact BV hh.1.1.1.1.1.1.2
    refine aI ?_
    repeat refine sq ?_
    refine rx hΓ [1,2,3,6,10,11] [[3,0],[6,0]] (fun K' hK=>by simp only[go_sem,Ds];(repeat (refine⟨ai,?_⟩));exact hK _ (by simp only[go_sem]) (by simp only[go_sem]<;>rfl)) ?_
    repeat refine sq ?_
    refine a8 ?_
    repeat refine sq ?_
    refine rx hΓ [1,2,3,6,10,38] [[3,0],[6,0]] (fun K' hK=>by simp only[go_sem];(repeat (refine⟨ai,?_⟩));exact hK _ (by simp only[go_sem]) (by simp only[go_sem]<;>rfl)) ?_
    repeat refine sq ?_
    refine aD rfl rfl (fun hb=>?_) (fun hb=>?_)
    ·repeat refine sq ?_
     have h3:lD d p=true:=by have h4:=zW (d:=d) (p:=p);(have h5:bp d.now.ho p=false:=by simpa using hb);rw[h5]at h4;simpa using h4.symm
     have hq:=RM hd h1 h2 h3
     repeat refine sq ?_
     refine rx hΓ [6,7] [[6,0]] (fun K' hK=>by simp only[go_sem];(repeat (refine⟨ai,?_⟩));exact hK _ (by simp only[go_sem]) (by simp only[go_sem]<;>rfl)) ?_
     refine ax ?_
     simp only[go_sem]
     first | (rw[hq.1,hq.2];done) | (rw[hq.1,hq.2];rfl) | (rw[hq.1,hq.2,e1];done) | (rw[hq.1,hq.2,e1];rfl)
    ·repeat refine sq ?_
     have h5:bp d.now.ho p=true:=by simpa using hb
     have h3:lD d p=false:=by have h4:=zW (d:=d) (p:=p);rw[h5]at h4;simpa using h4.symm
     obtain⟨g1,g2⟩:=M9 Ds h5
     have g3:(List.map vInt d.now.ho).eraseIdx (bz d.now.ho p)=(fJ d.now.ho p d.now.ho.length).map vInt:=by rw[aaC,g1,MZ]
     have g4:IntKind.i64.wrap ((bz d.now.ho p:Int)+1)=(bz d.now.ho p:Int)+1:=wrap_i64 (by omega) (by omega)
     repeat refine sq ?_
     refine rx hΓ [1,2,3,6,10,42] [[3,0],[6,0]] (fun K' hK=>by simp only[go_sem,pX,tX,ow,aax d hj,aaz d hj];(repeat (refine⟨ai,?_⟩));exact hK _ (by simp only[go_sem]) (by simp only[go_sem]<;>rfl)) ?_
     repeat refine sq ?_
     refine aD rfl rfl (fun hb=>?_) (fun hb=>?_)
     ·repeat refine sq ?_
      have h4:ma d t=true:=by unfold ma;rw[pX];exact hb
      have hq:=RK hd h1 h2 h3 h4
      repeat refine sq ?_
      refine rx hΓ [6,7] [[6,0]] (fun K' hK=>by simp only[go_sem];(repeat (refine⟨ai,?_⟩));exact hK _ (by simp only[go_sem]) (by simp only[go_sem]<;>rfl)) ?_
      refine ax ?_
      simp only[go_sem]
      first | (rw[hq.1,hq.2];done) | (rw[hq.1,hq.2];rfl) | (rw[hq.1,hq.2,e1];done) | (rw[hq.1,hq.2,e1];rfl)
     ·repeat refine sq ?_
      have h4:ma d t=false:=by unfold ma;rw[pX];exact hb
      have hq:=Hu hd h1 h2 h3 h4
      rw[pX]at hq
      have w1:IntKind.i64.wrap (d.now.se.get j+1)=d.now.se.get j+1:=by have:=gi;exact wrap_i64 (by have:=gi.1;omega) (by have:=gi.2;omega)
      refine aI ?_
      refine eo ?_
      simp only[go_sem]
      refine kp [1,2,3,6,10] [[3,0],[6,0]] ?_
      repeat refine sq ?_
      refine rx hΓ [1,2,6,10,12] [[6,0],[22,0,60,0],[12,0,5,0,60,0],[99,0,5,0,60,0]] (fun K' hK=>by simp only[go_sem,hs];(repeat (refine⟨ai,?_⟩));exact hK _ (by simp only[go_sem]) (by simp only[go_sem]<;>rfl)) ?_
      repeat refine sq ?_
      refine rx hΓ [1,2,6,12] [[6,0],[22,0,60,0],[12,0,5,0,60,0],[99,0,5,0,60,0]] (fun K' hK=>by simp only[go_sem,g4,g3,Int.toNat_natCast];(repeat (refine⟨ai,?_⟩));exact hK _ (by simp only[go_sem]) (by simp only[go_sem]<;>rfl)) ?_
      repeat refine sq ?_
      refine dx hΓ hP [[],[],[0],[0,2],[0,2,3],[0,2,3,4],[0,1,2,3,4,5],[0,1,2,3,4,5,6],[0,1,2,3,4,5,6,7],[0],[0,9],[0,9,10],[0,9,10,11],[0,1,2,3,4,5,6,7,8,9,10,11,12],[0,1,2,3,4,5,6,7,8,9,10,11,12,13]] [1,2,6,12] [[6,0],[22,0,60,0],[12,0,5,0,60,0],[99,0,5,0,60,0]] (by kernel_rfl) (fun K' hK=>by simp only[go_sem,pX,tX,ow,Oh d _ _ _ _ hj,abl d _ _ _ _ _ hj,w1];(repeat (refine⟨ai,?_⟩));(first | refine⟨by rfl,?_⟩ | skip);exact hK _ (by simp only[go_sem]) (by simp only[go_sem]<;>rfl)) ?_
      repeat refine sq ?_
      refine dx hΓ hP [[],[],[],[],[2],[2,4],[2,4,5],[2,4,5,6],[2,3,4,5,6,7],[2,3,4,5,6,7,8],[],[],[10],[10,12],[10,12,13],[10,12,13,14],[10,11,12,13,14,15],[10,11,12,13,14,15,16],[],[10,11,12,13,14,15,16,17,18],[10,11,12,13,14,15,16,17,18,19],[2,3,4,5,6,7,8,9,10,11,12,13,14,15,16,17,18,19,20],[0],[0,22],[0,22,23],[0,22,23,24],[0,1,2,3,4,5,6,7,8,9,10,11,12,13,14,15,16,17,18,19,20,21,22,23,24,25],[0,1,2,3,4,5,6,7,8,9,10,11,12,13,14,15,16,17,18,19,20,21,22,23,24,25,26]] [6,12] [[6,0],[22,0,60,0],[12,0,5,0,60,0],[99,0,5,0,60,0]] (by kernel_rfl) (fun K' hK=>by simp only[go_sem,pX,tX,ow,Oh d _ _ _ _ hj,Og d _ _ _ _ hj,abj d _ _ _ _ _ hj];(repeat (refine⟨ai,?_⟩));(first | refine⟨by rfl,?_⟩ | skip);exact hK _ (by simp only[go_sem]) (by simp only[go_sem]<;>rfl)) ?_
      refine bq (A6 [22,0,60,0] [99,0,5,0,60,0] (2+j) _ _ _ _ rfl (Ol _ _ _ _ _ hj) rfl (by simp only[List.length_append,List.length_map,List.length_cons,List.length_nil]) [6,12] [[6,0],[22,0,60,0]] ?_ rfl) ?_
      ·simp only[go_sem,Oi d _ _ _ _ _ _ _ hj]
      simp only[go_sem,Oi d _ _ _ _ _ _ _ hj]
      repeat refine sq ?_
      refine rx hΓ [6,7] [[6,0]] (fun K' hK=>by simp only[go_sem];(repeat (refine⟨ai,?_⟩));exact hK _ (by simp only[go_sem]) (by simp only[go_sem]<;>rfl)) ?_
      refine ax ?_
      simp only[go_sem]
      first | (rw[hq.1,hq.2];done) | (rw[hq.1,hq.2];rfl) | (rw[hq.1,hq.2,e1];done) | (rw[hq.1,hq.2,e1];rfl)
theorem k8:ak Tryd.prog 14 S8:=s8.sound
def bX(l:List Int)(x:Int):List Int:=l.take (bz l x)++[x]++l.drop (bz l x)
def ga(l:List Int)(x:Int)(i:Nat):List Int:=if bz l x<i then l.take (bz l x)++[x]++(l.take i).drop (bz l x)else l.take i
theorem yF(l:List Int)(x:Int):bz l x<=l.length:=by
 unfold bz
 exact(List.takeWhile_prefix _).length_le
theorem Cu:∀ {l:List Int} {x:Int},l.Pairwise (· < ·)->∀ {i:Nat} (hi:i<l.length),l[i] <x↔i<bz l x
 |[],x,_,i,hi=>by simp at hi
 |a::r,x,hs,i,hi=>by
  rw[List.pairwise_cons]at hs
  by_cases ha:a<x
  ·have h0:bz (a::r) x=bz r x+1:=by
     unfold bz
     rw[List.takeWhile_cons_of_pos (by simpa using ha)];rfl
   rw[h0]
   cases i with
   |zero=>simp[ha]
   |succ i=>
    have :=Cu (x:=x) hs.2 (i:=i) (by simpa using hi)
    simp only[List.getElem_cons_succ,this]
    omega
  ·have h0:bz (a::r) x=0:=by
     unfold bz
     rw[List.takeWhile_cons_of_neg (by simpa using ha)];rfl
   rw[h0]
   cases i with
   |zero=>simp;omega
   |succ i=>
    have :=hs.1 (r[i]'(by simpa using hi)) (List.getElem_mem _)
    simp only[List.getElem_cons_succ]
    omega
theorem afI(l:List Int)(x:Int):ga l x 0=[]:=by
 unfold ga;rw[if_neg (by omega)];rfl
theorem TK{l:List Int}{x:Int}{i:Nat}(hi:i<l.length)(h:i=bz l x):ga l x i++[x]++[l[i]]=ga l x (i+1):=by
 unfold ga
 rw[if_neg (by omega),if_pos (by omega),<-h,List.take_add_one,List.getElem?_eq_getElem hi,List.drop_append_of_le_length (by rw[List.length_take];omega)]
 rw[List.drop_of_length_le (by rw[List.length_take];omega)]
 simp
theorem TG{l:List Int}{x:Int}{i:Nat}(hi:i<l.length)(h:i<bz l x):ga l x i++[l[i]]=ga l x (i+1):=by
 unfold ga
 rw[if_neg (by omega),if_neg (by omega),List.take_add_one,List.getElem?_eq_getElem hi];rfl
theorem TH{l:List Int}{x:Int}{i:Nat}(hi:i<l.length)(h:bz l x<i):ga l x i++[l[i]]=ga l x (i+1):=by
 unfold ga
 rw[if_pos h,if_pos (by omega),List.take_add_one,List.getElem?_eq_getElem hi,List.drop_append_of_le_length (by rw[List.length_take];omega)]
 simp
theorem TJ{l:List Int}{x:Int}(h:bz l x<l.length):ga l x l.length=bX l x:=by
 unfold ga bX
 rw[if_pos h,List.take_length]
theorem TI{l:List Int}{x:Int}(h:¬ bz l x<l.length):ga l x l.length++[x]=bX l x:=by
 have he:bz l x=l.length:=by have:=yF l x;omega
 unfold ga bX
 rw[if_neg h,he,List.take_length,List.drop_length,List.append_nil]
theorem Iv{l:List Int}{x:Int}{i:Nat}(hi:i<=l.length):(ga l x i).length<=i+1:=by
 unfold ga
 split
 ·simp only[List.length_append,List.length_take,List.length_drop,List.length_cons,List.length_nil]
  omega
 ·rw[List.length_take];omega
theorem Xh(l:List Int)(x:Int):(bX l x).length=l.length+1:=by
 have :=yF l x
 unfold bX
 simp only[List.length_append,List.length_take,List.length_drop,List.length_cons,List.length_nil]
 omega
def BM(l:List Int)(x:Int):List Int:=if bp l x=true then[]else bX l x
theorem BL{l:List Int}{x:Int}(h:bp l x=true):BM l x=[]:=if_pos h
theorem n4{l:List Int}{x:Int}(h:bp l x=false):BM l x=bX l x:=if_neg (by rw[h];decide)
theorem Mj{l:List Int}{x:Int}{i:Nat}(hi:i<l.length)(h:l[i]=x):bp l x=true:=by
 unfold bp;rw[List.contains_iff_mem,<-h];exact List.getElem_mem hi
theorem Y7{l:List Int}{x:Int}(h:∀ k (hk:k<l.length),k<l.length->l[k]≠x):bp l x=false:=by
 rw[Bool.eq_false_iff]
 intro hh
 unfold bp at hh
 rw[List.contains_iff_mem]at hh
 obtain⟨k,hk,e⟩:=List.getElem_of_mem hh
 exact h k hk hk e
noncomputable def P68:PSpec:=p2 dJ iI (fun l _=>l.Pairwise (· < ·)/\l.length<=1000) (fun l x=>.tup [.sl ((BM l x).map vInt),.bool (!bp l x)]) false
noncomputable def S68:Spec:=P68.toSpec
attribute [go_sem] P68 S68
set_option maxHeartbeats 4000000 in
theorem Sy:aZ Tryd.prog 55 P68:=by
 refine w2 (rs:=[.tmp 4,.tmp 5]) Tryd.func55 Tryd.ntmps55 (by rfl) (by kernel_rfl) (by decide) (fun h=>by cases h) ⟨_,rfl,lb rfl,fun l x hp hw=>?_⟩
 have hP:=br
 simp only[iI,dJ]at hw |-
 have hΓ:=@kE Tryd.prog
 obtain⟨hs,kI⟩:=hp
 have hl:l.length<=maxLen:=by unfold maxLen;omega
 repeat refine sq ?_
 refine rx hΓ [0,1] [] (fun K' hK=>by simp only[go_sem];(repeat (refine⟨ai,?_⟩));exact hK _ (by simp only[go_sem]) (by simp only[go_sem]<;>rfl)) ?_
 repeat refine sq ?_
 refine rx hΓ [0,1,6] [[34,0],[41,0],[47,0],[98,0]] (fun K' hK=>by simp only[go_sem];(repeat (refine⟨ai,?_⟩));exact hK _ (by simp only[go_sem]) (by simp only[go_sem]<;>rfl)) ?_
 refine bq (vg 6 [98,0] 1 (by simp only[go_sem]) (by simp only[go_sem]) [0,1,6] [[34,0],[41,0],[47,0],[98,0]] ?_ rfl) ?_
 ·simp only[go_sem]
 simp only[go_sem]
 repeat refine sq ?_
 refine rx hΓ [0,1,6,7] [[34,0],[41,0],[47,0],[98,0]] (fun K' hK=>by simp only[go_sem];(repeat (refine⟨ai,?_⟩));exact hK _ (by simp only[go_sem]) (by simp only[go_sem]<;>rfl)) ?_
 repeat refine sq ?_
 refine rx hΓ [0,1,6,7,8] [[34,0],[41,0],[47,0],[98,0]] (fun K' hK=>by simp only[go_sem];(repeat (refine⟨ai,?_⟩));exact hK _ (by simp only[go_sem]) (by simp only[go_sem]<;>rfl)) ?_
 repeat refine sq ?_
 refine a8 ?_
 repeat refine sq ?_
 refine dR (fun z:Nat=>[(8,⟨true,.v (vInt z)⟩),(6,⟨true,.msl [98,0] (ga l x z).length⟩),(7,⟨true,.v (.bool (decide (bz l x<z)))⟩)]) (fun z=>[([98,0],.arr 1 ((ga l x z).map vInt))]) (fun z=>z<=l.length/\(∀ k (hk:k<l.length),k<z->l[k]≠x)) (fun z=>l.length-z) 0 ?_ ?_ ?_ ?_
 ·exact⟨Nat.zero_le _,fun k hk h=>absurd h (by omega)⟩
 ·rfl
 ·rfl
 rintro i ⟨hi,hR⟩
 simp only[go_sem]
 repeat refine sq ?_
 refine rx hΓ [0,1,6,7,8,12] [[34,0],[41,0],[47,0],[98,0]] (fun K' hK=>by simp only[go_sem];(repeat (refine⟨ai,?_⟩));exact hK _ (by simp only[go_sem]) (by simp only[go_sem]<;>rfl)) ?_
 repeat refine sq ?_
 refine aD rfl rfl (fun hb=>?_) (fun hb=>?_)
 ·have ae:i<l.length:=by simpa using hb
  have aq:(i:Int)<l.length:=by omega
  clear hb
  have hlen:=Iv (x:=x) hi
  repeat refine sq ?_
  refine aI ?_
  repeat refine sq ?_
  refine a8 ?_
  repeat refine sq ?_
  refine rx hΓ [0,1,6,7,8,20] [[34,0],[41,0],[47,0],[98,0]] (fun K' hK=>by simp only[go_sem,aK ae,Int.toNat_natCast,Int.natCast_nonneg,aq,aK ae];(repeat (refine⟨ai,?_⟩));exact hK _ (by simp only[go_sem]) (by simp only[go_sem]<;>rfl)) ?_
  repeat refine sq ?_
  refine aD rfl rfl (fun hb=>?_) (fun hb=>?_)
  ·repeat refine sq ?_
   have hx:l[i]=x:=by simpa using hb
   have hh:=Mj ae hx
   repeat refine sq ?_
   refine rx hΓ [4,5] [[34,0],[41,0],[47,0],[98,0]] (fun K' hK=>by simp only[go_sem,aK ae,Int.toNat_natCast,Int.natCast_nonneg,aq];(repeat (refine⟨ai,?_⟩));exact hK _ (by simp only[go_sem]) (by simp only[go_sem]<;>rfl)) ?_
   refine ax ?_
   simp only[go_sem]
   first | (rw[BL hh,hh];rfl) | (rw[n4 hh,hh,<-he,List.map_append];rfl) | (rw[n4 hh,hh,<-he,List.map_append];exact⟨by simp,rfl⟩) | (rw[n4 hh,hh,<-he];rfl)
  ·repeat refine sq ?_
   have hx:l[i]≠x:=by simpa using hb
   have hq:=Cu (x:=x) hs ae
   refine aI ?_
   repeat refine sq ?_
   refine rx hΓ [0,1,6,7,8,30] [[34,0],[41,0],[47,0],[98,0]] (fun K' hK=>by simp only[go_sem,aK ae,Int.toNat_natCast,Int.natCast_nonneg,aq,aK ae];(repeat (refine⟨ai,?_⟩));exact hK _ (by simp only[go_sem]) (by simp only[go_sem]<;>rfl)) ?_
   repeat refine sq ?_
   refine aD rfl rfl (fun hb=>?_) (fun hb=>?_)
   ·repeat refine sq ?_
    have he:i=bz l x:=by simp at hb;omega
    have hn:=TK ae he
    have wE:decide (bz l x<i+1)=true:=decide_eq_true (by omega)
    repeat refine sq ?_
    refine rx hΓ [0,1,6,8] [[34,0],[41,0],[47,0],[98,0]] (fun K' hK=>by simp only[go_sem,aK ae,Int.toNat_natCast,Int.natCast_nonneg,aq];(repeat (refine⟨ai,?_⟩));exact hK _ (by simp only[go_sem]) (by simp only[go_sem]<;>rfl)) ?_
    repeat refine sq ?_
    refine rx hΓ [0,1,6,7,8] [[34,0],[41,0],[47,0],[98,0]] (fun K' hK=>by simp only[go_sem,aK ae,Int.toNat_natCast,Int.natCast_nonneg,aq];(repeat (refine⟨ai,?_⟩));exact hK _ (by simp only[go_sem]) (by simp only[go_sem]<;>rfl)) ?_
    repeat refine sq ?_
    refine bc hΓ fun K' hK=>?_
    simp only[go_sem,aK ae,Int.toNat_natCast,Int.natCast_nonneg,aq,aK ae,List.length_append,List.length_map,List.length_cons,List.length_nil]
    repeat (refine⟨ai,?_⟩)
    refine hK _ ?_
    clear K' hK
    simp only[go_sem]
    refine kp [0,1,6,7,8] [[34,0],[41,0],[47,0],[98,0]] ?_
    repeat refine sq ?_
    refine bc hΓ fun K' hK=>?_
    simp only[go_sem,aK ae,Int.toNat_natCast,Int.natCast_nonneg,aq]
    repeat (refine⟨ai,?_⟩)
    refine hK _ ?_
    clear K' hK
    simp only[go_sem]
    refine⟨i+1,⟨ae,?_⟩,by(show l.length-(i+1)<l.length-i;omega),?_⟩
    ·exact fun k hk h=>(Nat.lt_succ_iff_lt_or_eq.1 h).elim (fun h5=>hR k hk h5) (fun h5=>by subst h5;exact hx)
    refine bJ [0,1,6,7,8] [[34,0],[41,0],[47,0],[98,0]] ?_ ?_
    ·simp only[go_sem,aM ae hl,Int.natCast_add,Int.natCast_one,<-hn,wE,List.map_append,List.length_append,List.map_cons,List.map_nil,List.length_map,List.length_cons,List.length_nil,Nat.reduceAdd]
    ·simp only[go_sem,aM ae hl,Int.natCast_add,Int.natCast_one,<-hn,wE,List.map_append,List.length_append,List.map_cons,List.map_nil,List.length_map,List.length_cons,List.length_nil,Nat.reduceAdd]
   ·repeat refine sq ?_
    have hn:ga l x i++[l[i]]=ga l x (i+1)/\decide (bz l x<i+1)=decide (bz l x<i):=by
     rcases Nat.lt_or_ge (bz l x) i with hg | hg
     ·exact⟨TH ae hg,by rw[decide_eq_true hg,decide_eq_true (by omega)]⟩
     ·have iK:i<bz l x:=by simp at hb;omega
      exact⟨TG ae iK,by rw[decide_eq_false (by omega),decide_eq_false (by omega)]⟩
    obtain⟨hn,wE⟩:=hn
    refine aI ?_
    repeat refine sq ?_
    refine bc hΓ fun K' hK=>?_
    simp only[go_sem,aK ae,Int.toNat_natCast,Int.natCast_nonneg,aq,aK ae,List.length_append,List.length_map,List.length_cons,List.length_nil]
    repeat (refine⟨ai,?_⟩)
    refine hK _ ?_
    clear K' hK
    simp only[go_sem]
    refine kp [0,1,6,7,8] [[34,0],[41,0],[47,0],[98,0]] ?_
    repeat refine sq ?_
    refine bc hΓ fun K' hK=>?_
    simp only[go_sem,aK ae,Int.toNat_natCast,Int.natCast_nonneg,aq]
    repeat (refine⟨ai,?_⟩)
    refine hK _ ?_
    clear K' hK
    simp only[go_sem]
    refine⟨i+1,⟨ae,?_⟩,by(show l.length-(i+1)<l.length-i;omega),?_⟩
    ·exact fun k hk h=>(Nat.lt_succ_iff_lt_or_eq.1 h).elim (fun h5=>hR k hk h5) (fun h5=>by subst h5;exact hx)
    refine bJ [0,1,6,7,8] [[34,0],[41,0],[47,0],[98,0]] ?_ ?_
    ·simp only[go_sem,aM ae hl,Int.natCast_add,Int.natCast_one,<-hn,wE,List.map_append,List.length_append,List.map_cons,List.map_nil,List.length_map,List.length_cons,List.length_nil,Nat.reduceAdd]
    ·simp only[go_sem,aM ae hl,Int.natCast_add,Int.natCast_one,<-hn,wE,List.map_append,List.length_append,List.map_cons,List.map_nil,List.length_map,List.length_cons,List.length_nil,Nat.reduceAdd]
 ·have bo:i=l.length:=by
   have :¬ (i:Int)<l.length:=by simpa using hb
   omega
  clear hb
  subst bo
  have hh:=Y7 hR
  have hlen:=Iv (x:=x) hi
  repeat refine sq ?_
  refine di ?_
  simp only[go_sem]
  refine kp [1,6,7] [[34,0],[41,0],[47,0],[98,0]] ?_
  repeat refine sq ?_
  refine rx hΓ [1,6,43] [[34,0],[41,0],[47,0],[98,0]] (fun K' hK=>by simp only[go_sem];(repeat (refine⟨ai,?_⟩));exact hK _ (by simp only[go_sem]) (by simp only[go_sem]<;>rfl)) ?_
  repeat refine sq ?_
  refine aD rfl rfl (fun hb=>?_) (fun hb=>?_)
  ·repeat refine sq ?_
   have he:=TI (l:=l) (x:=x) (by simpa using hb)
   repeat refine sq ?_
   refine rx hΓ [6] [[34,0],[41,0],[47,0],[98,0]] (fun K' hK=>by simp only[go_sem,List.length_append,List.length_map,List.length_cons,List.length_nil];(repeat (refine⟨ai,?_⟩));exact hK _ (by simp only[go_sem]) (by simp only[go_sem]<;>rfl)) ?_
   repeat refine sq ?_
   refine rx hΓ [4,5] [[34,0],[41,0],[47,0],[98,0]] (fun K' hK=>by simp only[go_sem];(repeat (refine⟨ai,?_⟩));exact hK _ (by simp only[go_sem]) (by simp only[go_sem]<;>rfl)) ?_
   refine ax ?_
   simp only[go_sem]
   first | (rw[BL hh,hh];rfl) | (rw[n4 hh,hh,<-he,List.map_append];rfl) | (rw[n4 hh,hh,<-he,List.map_append];exact⟨by simp,rfl⟩) | (rw[n4 hh,hh,<-he];rfl)
  ·repeat refine sq ?_
   have he:=TJ (l:=l) (x:=x) (by simpa using hb)
   refine aI ?_
   repeat refine sq ?_
   refine rx hΓ [4,5] [[34,0],[41,0],[47,0],[98,0]] (fun K' hK=>by simp only[go_sem];(repeat (refine⟨ai,?_⟩));exact hK _ (by simp only[go_sem]) (by simp only[go_sem]<;>rfl)) ?_
   refine ax ?_
   simp only[go_sem]
   first | (rw[BL hh,hh];rfl) | (rw[n4 hh,hh,<-he,List.map_append];rfl) | (rw[n4 hh,hh,<-he,List.map_append];exact⟨by simp,rfl⟩) | (rw[n4 hh,hh,<-he];rfl)
theorem WA:ak Tryd.prog 55 S68:=Sy.sound
def eV(l:List Par)(ta:Int)(z:Nat):List Par:=(l.take z).filter fun p=>decide (p.no>ta)
def qW(s:Stk)(f:Nat)(ta:Int):Stk:=⟨s.ho,s.un.set f (eV (s.un.get f) ta (s.un.get f).length),s.se,s.ta⟩
def dH(f:Nat)(s:Stk)(p:Par):Bool:=p.no==s.ta.get f+1
def gL(f:Nat)(s:Stk)(p:Par):Stk:=if dH f s p=true then⟨bX s.ho p.pa,s.un,s.se,s.ta.set f (s.ta.get f+1)⟩else s
def eu(f:Nat)(s:Stk)(p:Par):Int:=if dH f s p=true then(if bp s.ho p.pa=true then 96 else if 40<(bX s.ho p.pa).length then 2 else 0)else 0
def bC(f:Nat)(ps:List Par)(s0:Stk):Nat->Stk
 | 0=>s0
 |z+1=>gL f (bC f ps s0 z) (ps.getD z default)
def dr(f:Nat)(ps:List Par)(s0:Stk):Nat->Int
 | 0=>0
 |z+1=>if dr f ps s0 z=0 then eu f (bC f ps s0 z) (ps.getD z default)else dr f ps s0 z
def bG(d:Dk)(b:Bag):Stk:=qW d.now b.fr.toNat b.ta
def iM(d:Dk)(b:Bag):Bool:=fx b&&(b.to==d.me)
def fN(d:Dk)(b:Bag):Int:=if av d=true then(if iM d b=true then dr b.fr.toNat b.ps (bG d b) b.ps.length else 93)else 92
def eG(d:Dk)(b:Bag):Dk:=if fN d b=0 then d.setN (bC b.fr.toNat b.ps (bG d b) b.ps.length)else zD
theorem Uc{d:Dk}{b:Bag}(h:av d=false):eG d b=zD/\fN d b=92:=by
 have :fN d b=92:=if_neg (by rw[h];decide)
 exact⟨if_neg (by rw[this];decide),this⟩
theorem Ue{d:Dk}{b:Bag}(h:av d=true)(h1:iM d b=false):eG d b=zD/\fN d b=93:=by
 have :fN d b=93:=by unfold fN;rw[if_pos h,if_neg (by rw[h1];decide)]
 exact⟨if_neg (by rw[this];decide),this⟩
theorem Na(f:Nat)(ps:List Par)(s0:Stk){z:Nat}(h:dr f ps s0 z≠0):∀ k,dr f ps s0 (z+k)=dr f ps s0 z
 | 0=>rfl
 |k+1=>by
  have :=Na f ps s0 h k
  rw[<-Nat.add_assoc]
  show (if dr f ps s0 (z+k)=0 then _ else _)=_
  rw[this,if_neg h]
theorem Ud{d:Dk}{b:Bag}(h:av d=true)(h1:iM d b=true){i:Nat}(hi:i<b.ps.length){e:Int}(h2:dr b.fr.toNat b.ps (bG d b) i=0)(h3:eu b.fr.toNat (bC b.fr.toNat b.ps (bG d b) i) (b.ps.getD i default)=e)(he:e≠0):eG d b=zD/\fN d b=e:=by
 have h4:dr b.fr.toNat b.ps (bG d b) (i+1)=e:=by
  show (if dr b.fr.toNat b.ps (bG d b) i=0 then _ else _)=_
  rw[if_pos h2,h3]
 have h5:=Na b.fr.toNat b.ps (bG d b) (by rw[h4];exact he) (b.ps.length-(i+1))
 rw[show i+1+(b.ps.length-(i+1))=b.ps.length by omega,h4]at h5
 have :fN d b=e:=by unfold fN;rw[if_pos h,if_pos h1,h5]
 exact⟨if_neg (by rw[this];exact he),this⟩
theorem Ca{d:Dk}{b:Bag}(h:av d=true)(h1:iM d b=true)(h2:dr b.fr.toNat b.ps (bG d b) b.ps.length=0):eG d b=d.setN (bC b.fr.toNat b.ps (bG d b) b.ps.length)/\fN d b=0:=by
 have :fN d b=0:=by unfold fN;rw[if_pos h,if_pos h1,h2]
 exact⟨if_pos this,this⟩
theorem GS{l:List Par}{ta:Int}{z:Nat}(h:z<l.length):eV l ta (z+1)=if decide (l[z].no>ta)=true then eV l ta z++[l[z]]else eV l ta z:=by
 unfold eV
 rw[List.take_add_one,List.getElem?_eq_getElem h,List.filter_append]
 show _++List.filter _ [l[z]]=_
 by_cases hp:decide (l[z].no>ta)=true
 ·rw[if_pos hp]
  have :List.filter (fun p:Par=>decide (p.no>ta)) [l[z]]=[l[z]]:=by simp only[List.filter,hp]
  rw[this]
 ·rw[if_neg hp]
  have rJ:decide (l[z].no>ta)=false:=by simpa using hp
  have :List.filter (fun p:Par=>decide (p.no>ta)) [l[z]]=[]:=by simp only[List.filter,rJ]
  rw[this,List.append_nil]
theorem acR{l:List Par}{ta:Int}{z:Nat}(h:z<l.length)(hp:decide (l[z].no>ta)=true):eV l ta (z+1)=eV l ta z++[l[z]]:=by rw[GS h,if_pos hp]
theorem acS{l:List Par}{ta:Int}{z:Nat}(h:z<l.length)(hp:decide (l[z].no>ta)=false):eV l ta (z+1)=eV l ta z:=by rw[GS h,if_neg (by rw[hp];decide)]
theorem QJ(l:List Par)(ta:Int)(z:Nat):(eV l ta z).length<=l.length:=by
 unfold eV
 refine Nat.le_trans (List.length_filter_le _ _) ?_
 rw[List.length_take];omega
theorem aR.set_self{α:Type}(s:aR α)(i:Nat)(hi:i<6):s.set i (s.get i)=s:=
 ia (P:=fun i=>s.set i (s.get i)=s) rfl rfl rfl rfl rfl rfl hi
theorem qp{b:Bag}(h:fx b=true):0<=b.fr/\b.fr<6/\b.fr.toNat<6/\b.ps.length<=40/\(∀ p∈b.ps,1<=p.no/\p.no<=99999/\1<=p.pa/\p.pa<=999)/\0<=b.ta/\b.ta<=99999:=by
 unfold fx at h
 simp only[Bool.and_eq_true]at h
 obtain⟨⟨⟨⟨h1,h2⟩,h3⟩,h4⟩,h5⟩:=h
 have h1:=ck.1 h1
 have h5:=ck.1 h5
 unfold cj at h4
 rw[Bool.and_eq_true,decide_eq_true_eq,iS]at h4
 refine⟨by omega,by omega,by omega,h4.2,fun p hp=>?_,h5.1,h5.2⟩
 obtain⟨i,hi,rfl⟩:=List.getElem_of_mem hp
 have :=h4.1 i hi
 unfold fY at this
 rw[getD_at hi]at this
 simp only[Bool.and_eq_true]at this
 have a:=ck.1 this.1.1
 have c:=ck.1 this.1.2
 exact⟨a.1,a.2,c.1,c.2⟩
structure o8 (f:Nat) (s:Stk):Prop where
 ri:s.ho.Pairwise (· < ·)
 len:s.ho.length<=40
 t0:0<=s.ta.get f
 t1:s.ta.get f<=99999
theorem C3{l:List Int}{x:Int}(hs:l.Pairwise (· < ·))(hh:bp l x=false):(bX l x).Pairwise (· < ·):=by
 have rU:=fun {i:Nat} (hi:i<l.length)=>Cu (x:=x) hs hi
 have hle:=yF l x
 have ht:∀ a∈l.take (bz l x),a<x:=by
  intro a ha
  obtain⟨i,hi,rfl⟩:=List.getElem_of_mem ha
  rw[List.length_take]at hi
  rw[List.getElem_take]
  exact(rU (by omega)).2 (by omega)
 have hd:∀ a∈l.drop (bz l x),x<a:=by
  intro a ha
  obtain⟨i,hi,rfl⟩:=List.getElem_of_mem ha
  rw[List.length_drop]at hi
  rw[List.getElem_drop]
  have h1:¬ l[bz l x+i] <x:=fun h=>by have:=(rU (by omega)).1 h;omega
  have h2:l[bz l x+i]≠x:=fun h=>by have:=Mj (by omega) h;rw[hh]at this;cases this
  omega
 unfold bX
 rw[List.append_assoc,List.pairwise_append]
 refine⟨hs.sublist (List.take_sublist _ _),?_,fun a ha b hb=>?_⟩
 ·rw[List.pairwise_append]
  refine⟨by simp,hs.sublist (List.drop_sublist _ _),fun a ha b hb=>?_⟩
  simp only[List.mem_cons,List.not_mem_nil,or_false]at ha
  subst ha
  exact hd b hb
 ·rcases List.mem_append.1 hb with h1 | h1
  ·simp only[List.mem_cons,List.not_mem_nil,or_false]at h1
   subst h1
   exact ht a ha
  ·have:=ht a ha
   have :=hd b h1
   omega
theorem T4{f:Nat}(hf:f<6){s:Stk}{p:Par}(h:o8 f s)(hp:p.no<=99999)(he:eu f s p=0):o8 f (gL f s p):=by
 unfold gL
 unfold eu at he
 by_cases hn:dH f s p=true
 ·rw[if_pos hn]at he |-
  by_cases hh:bp s.ho p.pa=true
  ·rw[if_pos hh]at he;cases he
  ·rw[if_neg hh]at he
   by_cases hl:40<(bX s.ho p.pa).length
   ·rw[if_pos hl]at he;cases he
   ·have hg:=(s.ta.get_set (i:=f) (j:=f) (s.ta.get f+1) hf).1
    unfold dH at hn
    have dO:p.no=s.ta.get f+1:=by simpa using hn
    exact⟨C3 h.ri (by simpa using hh),by show (bX s.ho p.pa).length<=40;omega,by show 0<=(s.ta.set f _).get f;rw[hg];have:=h.t0;omega,by show (s.ta.set f _).get f<=99999;rw[hg];omega⟩
 ·rw[if_neg hn];exact h
theorem Iz{f:Nat}(hf:f<6){ps:List Par}{s0:Stk}(h0:o8 f s0)(hp:∀ p∈ps,p.no<=99999):∀ {z:Nat},z<=ps.length->dr f ps s0 z=0->o8 f (bC f ps s0 z)
 | 0,_,_=>h0
 |z+1,hz,he=>by
  have mn:(if dr f ps s0 z=0 then eu f (bC f ps s0 z) (ps.getD z default)else dr f ps s0 z)=0:=he
  by_cases h1:dr f ps s0 z=0
  ·rw[if_pos h1]at mn
   have hg:ps.getD z default=ps[z]'(by omega):=getD_at (by omega)
   exact T4 hf (Iz hf h0 hp (by omega) h1) (by rw[hg];exact hp _ (List.getElem_mem _)) mn
  ·rw[if_neg h1]at mn;exact absurd mn h1
theorem T5{d:Dk}{f:Nat}{ta:Int}(hf:f<6)(h:av d=true):o8 f (qW d.now f ta):=by
 unfold av im cp at h
 simp only[Bool.and_eq_true]at h
 have hp:=h.1.1.1.1.1.1.2
 have ha:=iS.1 h.1.1.2 f hf
 unfold fW at ha
 simp only[Bool.and_eq_true]at ha
 have ht:=ck.1 ha.1.1.2
 exact⟨BV hp,(tp hp).1,ht.1,ht.2⟩
theorem afK(d:Dk)(nm:Name)(n:Nat){f:Nat}(hf:f<6):List.take (2+f) (List.map D.v (an d))++[D.msl nm n]++List.drop (2+f+1) (List.map D.v (an d))=bM d f (.v (gx d.now.ho)) nm n (d.now.se.get f):=
 ia (P:=fun f=>List.take (2+f) (List.map D.v (an d))++[D.msl nm n]++List.drop (2+f+1) (List.map D.v (an d))=bM d f (.v (gx d.now.ho)) nm n (d.now.se.get f)) rfl rfl rfl rfl rfl rfl hf
@[go_sem] theorem ahg{dom:Name->Bool}(d:Dk)(i:Nat):D.closL dom (List.take i (List.map D.v (an d))++[D.nilsl]++List.drop (i+1) (List.map D.v (an d)))=true:=by
  rw[qm]
  intro x hx
  simp only[List.mem_append,List.mem_cons,List.not_mem_nil,or_false]at hx
  rcases hx with(hx | hx) | hx
  ·exact qm.1 (NY dom (an d) i) x hx
  ·subst hx;rfl
  ·exact qm.1 (N1 dom (an d) (i+1)) x hx
theorem agA(d:Dk){f:Nat}(hf:f<6):(List.map D.v (an d)).getD (14+f) .any=.v (vInt (d.now.ta.get f)):=
 ia (P:=fun f=>(List.map D.v (an d)).getD (14+f) .any=.v (vInt (d.now.ta.get f))) rfl rfl rfl rfl rfl rfl hf
@[go_sem] theorem agD(d:Dk):(List.map D.v (an d)).getD 1 .any=.v (gx d.now.ho):=rfl
@[go_sem] theorem agu(d:Dk)(l:List Int):List.take 1 (List.map D.v (an d))++[.v (.sl (l.map vInt))]++List.drop 2 (List.map D.v (an d))=List.map D.v (an (d.setN ⟨l,d.now.un,d.now.se,d.now.ta⟩)):=rfl
theorem agt(d:Dk)(x:Int){f:Nat}(hf:f<6):List.take (14+f) (List.map D.v (an d))++[.v (vInt x)]++List.drop (14+f+1) (List.map D.v (an d))=List.map D.v (an (d.setN ⟨d.now.ho,d.now.un,d.now.se,d.now.ta.set f x⟩)):=
 ia (P:=fun f=>List.take (14+f) (List.map D.v (an d))++[.v (vInt x)]++List.drop (14+f+1) (List.map D.v (an d))=List.map D.v (an (d.setN ⟨d.now.ho,d.now.un,d.now.se,d.now.ta.set f x⟩))) rfl rfl rfl rfl rfl rfl hf
@[go_sem] theorem afu(d:Dk)(s:Stk):(d.setN s).now=s:=rfl
@[go_sem] theorem aft(d:Dk)(s s':Stk):(d.setN s).setN s'=d.setN s':=rfl
theorem afL(d:Dk)(nm:Name)(n:Nat)(ta:Int){f:Nat}(hf:f<6):(bM d f (.v (gx d.now.ho)) nm n (d.now.se.get f)).set (2+f) (.v (.sl ((eV (d.now.un.get f) ta (d.now.un.get f).length).map encPa)))=List.map D.v (an (d.setN (qW d.now f ta))):=by
 rw[F0 d d.now.ho nm n (d.now.se.get f) _ hf,aR.set_self _ _ hf]
 rfl
def z8(d:Dk)(b:Bag):Bool:=(sE b != 0)||(b.to != d.me)
theorem ML(d:Dk)(b:Bag):z8 d b=!iM d b:=by
 unfold z8 iM sE
 have :(b.to != d.me)=!(b.to==d.me):=rfl
 rw[this]
 cases fx b<;>cases (b.to==d.me)<;>rfl
theorem G'(f:Nat)(ps:List Par)(s0:Stk){i:Nat}(hi:i<ps.length)(hn:dH f (bC f ps s0 i) ps[i]=true):bC f ps s0 (i+1)=⟨bX (bC f ps s0 i).ho ps[i].pa,(bC f ps s0 i).un,(bC f ps s0 i).se,(bC f ps s0 i).ta.set f ((bC f ps s0 i).ta.get f+1)⟩:=by
 show gL f (bC f ps s0 i) (ps.getD i default)=_
 rw[getD_at hi]
 exact if_pos hn
theorem Rm(f:Nat)(ps:List Par)(s0:Stk){i:Nat}(hi:i<ps.length)(hn:dH f (bC f ps s0 i) ps[i]=false):bC f ps s0 (i+1)=bC f ps s0 i:=by
 show gL f (bC f ps s0 i) (ps.getD i default)=_
 rw[getD_at hi]
 exact if_neg (by rw[hn];decide)
theorem IA(f:Nat)(s:Stk)(p:Par)(hn:dH f s p=false):eu f s p=0:=if_neg (by rw[hn];decide)
theorem ID(f:Nat)(s:Stk)(p:Par)(hn:dH f s p=true)(hh:bp s.ho p.pa=true):eu f s p=96:=by unfold eu;rw[if_pos hn,if_pos hh]
theorem IC(f:Nat)(s:Stk)(p:Par)(hn:dH f s p=true)(hh:bp s.ho p.pa=false)(hl:40<(bX s.ho p.pa).length):eu f s p=2:=by unfold eu;rw[if_pos hn,if_neg (by rw[hh];decide),if_pos hl]
theorem IB(f:Nat)(s:Stk)(p:Par)(hn:dH f s p=true)(hh:bp s.ho p.pa=false)(hl:¬ 40<(bX s.ho p.pa).length):eu f s p=0:=by unfold eu;rw[if_pos hn,if_neg (by rw[hh];decide),if_neg hl]
theorem M'{f:Nat}{ps:List Par}{s0:Stk}{i:Nat}(hi:i<ps.length)(h:dr f ps s0 i=0)(he:eu f (bC f ps s0 i) ps[i]=0):dr f ps s0 (i+1)=0:=by
 show (if dr f ps s0 i=0 then eu f (bC f ps s0 i) (ps.getD i default)else _)=0
 rw[if_pos h,getD_at hi,he]
noncomputable def Pq:List (Nat×Spec):=[(77,S39),(55,S68)]
theorem aik:∀ f s,tbl Pq f=some s->ak Tryd.prog f s:=tc rj<|tc WA<|tn
attribute [go_sem] Pq
theorem aa'{P:Program}{Γ:FuncId->Option Spec}(hΓ:∀ f s,Γ f=some s->ak P f s){id:Nat}{l:List Oper}{c:Code}{r:List Code}{σ:S}{K:Exit->S->Prop}(ks:List Nat)(ns:List Name)
 (h:∀ K':S->Prop,(∀ σ',fv ks ns σ'->CL P (c::r) (fD ks ns σ') K->K' σ')->lR P Γ l.toArray l σ K'):CL P (.region id l.toArray false::c::r) σ K:=
 NI hΓ (h _ fun σ' hc hy=>Ao ks ns hc hy)
theorem HU{P:Program}{Γ:FuncId->Option Spec}{ops:Array Oper}{o:Oper}{r:List Oper}{σ:S}{K:S->Prop}(h1:kD P Γ ops σ o)(h2:lR P Γ ops r (aV P Γ ops σ o) K):lR P Γ ops (o::r) σ K:=.step h1 h2
def gg{α:Type}(p:α->Bool)(l:List α):List α:=l.filter fun d=>!p d
def mD{α:Type}(enc:α->V)(z:V)(p:α->Bool)(l:List α):List V:=(gg p l).map enc++List.replicate (l.length-(gg p l).length) z
def mS:Par:=⟨0,0⟩
def lp{α:Type}(p:α->Bool)(l:List α):Int:=if l.any p then(l.findIdx p:Int)else -1
theorem Xs{α:Type}{p:α->Bool}{l:List α}{i:Nat}(h:i<l.length)(hp:p l[i]=true)(hn:∀ k (hk:k<l.length),k<i->p l[k]=false):lp p l=i:=by
 unfold lp
 rw[if_pos (List.any_eq_true.2 ⟨_,List.getElem_mem h,hp⟩)]
 congr 1
 rw[List.findIdx_eq h]
 exact⟨hp,fun j hj=>by simpa using hn j (by omega) hj⟩
theorem Xr{α:Type}{p:α->Bool}{l:List α}(hn:∀ k (hk:k<l.length),p l[k]=false):lp p l= -1:=by
 unfold lp
 rw[if_neg]
 intro h
 obtain⟨x,hx,hp⟩:=List.any_eq_true.1 h
 obtain⟨k,hk,rfl⟩:=List.getElem_of_mem hx
 rw[hn k hk]at hp
 cases hp
def mE:V->Bag
 | .ptr l=>w8 (.agg l)
 |_=>default
def C8:En Bag:=⟨fun b=>.ptr (aX b),mE⟩
def ND:V->Bag
 | .clo _ _ [x]=>mE x
 |_=>default
def C9:En Bag:=⟨fun b=>.clo (.func 49) [] [.ptr (aX b)],ND⟩
@[go_sem] theorem aaK(b:Bag):mE (.ptr (aX b))=b:=Al b
@[go_sem] theorem ag5(f:Fn)(b:Bag):ND (.clo f [] [.ptr (aX b)])=b:=Al b
attribute [go_sem] C8 C9
@[go_sem] theorem ahN(b:Bag):List.take 1 (List.drop 3 (aX b))=[vInt b.ta]:=rfl
@[go_sem] theorem ahO(b:Bag):List.take 1 (List.drop 2 (aX b))=[rowP b.ps]:=rfl
@[go_sem] theorem ahP(b:Bag):List.take 1 (List.drop 1 (aX b))=[vInt b.to]:=rfl
@[go_sem] theorem ahQ(b:Bag):List.take 1 (aX b)=[vInt b.fr]:=rfl
def eX(b:Bag)(p:Par):Bool:=decide (p.no<=b.ta)
noncomputable def P65:PSpec:=p2 vO C8 (fun _ _=>True) (fun p b=>.bool (eX b p)) true
noncomputable def S65:Spec:=P65.toSpec
attribute [go_sem] P65 S65
theorem Sz:aZ Tryd.prog 49 P65:=by
 refine w2 (rs:=[.tmp 3]) Tryd.func49 Tryd.ntmps49 (by rfl) (by kernel_rfl) (by decide) (fun _ _ _=>rfl) ⟨_,rfl,lb rfl,fun p b hp hw=>?_⟩
 have hP:=br
 simp only[C8,vO]at hw |-
 have hΓ:=@kE Tryd.prog
 repeat refine sq ?_
 refine rx hΓ [1,2] [[2,0]] (fun K' hK=>by simp only[go_sem];(repeat (refine⟨ai,?_⟩));exact hK _ (by simp only[go_sem]) (by simp only[go_sem]<;>rfl)) ?_
 repeat refine sq ?_
 refine rx hΓ [3] [] (fun K' hK=>by simp only[go_sem,Nat.add_zero];(repeat (refine⟨ai,?_⟩));exact hK _ (by simp only[go_sem]) (by simp only[go_sem]<;>rfl)) ?_
 refine ax ?_
 simp only[go_sem]
 all_goals first | rfl | (simp;done) | (simp_all;done)
theorem KI:ak Tryd.prog 49 S65:=Sz.sound
noncomputable def Gw:List (Nat×Spec):=[(49,S65)]
theorem acn:∀ f s,tbl Gw f=some s->ak Tryd.prog f s:=tc KI<|tn
attribute [go_sem] Gw
noncomputable def P101:PSpec:=p2 kG C9 (fun _ _=>True) (fun l b=>vInt (lp (eX b) l)) true
noncomputable def S101:Spec:=P101.toSpec
attribute [go_sem] P101 S101
set_option maxHeartbeats 4000000 in
theorem S9:aZ Tryd.prog 72 P101:=by
 refine w2 (rs:=[.tmp 4]) Tryd.func72 Tryd.ntmps72 (by rfl) (by kernel_rfl) (by decide) (fun _ _ _=>rfl) ⟨_,rfl,lb rfl,fun l b hp hw=>?_⟩
 have hP:=br
 simp only[C9,kG]at hw |-
 have hl:l.length<=maxLen:=by have:=hw.1.1;simpa using this
 obtain⟨Γ,sG,hΓ,hs,hg⟩:∃ (Γ:FuncId->Option Spec) (sG:Spec),(∀ f s,Γ f=some s->ak Tryd.prog f s)/\Γ 49=some sG/\
  ∀ (obj:Name->Option O) (t:Name) (x:Par),sG.app obj t [.v (encPa x),.v (.ptr (aX b))]=⟨True,.v (.bool (eX b x)),obj⟩:=⟨tbl Gw,S65,acn,rfl,fun obj t x=>by simp only[go_sem]⟩
 simp only[encPa]at hg
 repeat refine sq ?_
 refine rx hΓ [0,1] [] (fun K' hK=>by simp only[go_sem];(repeat (refine⟨ai,?_⟩));exact hK _ (by simp only[go_sem]) (by simp only[go_sem]<;>rfl)) ?_
 repeat refine sq ?_
 refine rx hΓ [0,1,7,8] [] (fun K' hK=>by simp only[go_sem];(repeat (refine⟨ai,?_⟩));exact hK _ (by simp only[go_sem]) (by simp only[go_sem]<;>rfl)) ?_
 repeat refine sq ?_
 refine a8 ?_
 repeat refine sq ?_
 refine dR (fun z:Nat=>[(8,⟨true,.v (vInt z)⟩)]) (fun z=>[]) (fun z=>z<=l.length/\∀ k (h:k<l.length),k<z->eX b l[k]=false) (fun z=>l.length-z) 0 ?_ ?_ ?_ ?_
 ·exact⟨Nat.zero_le _,fun k h hk=>absurd hk (by omega)⟩
 ·rfl
 ·rfl
 rintro i ⟨hi,hR⟩
 simp only[go_sem]
 repeat refine sq ?_
 refine rx hΓ [0,1,7,8,9] [] (fun K' hK=>by simp only[go_sem];(repeat (refine⟨ai,?_⟩));exact hK _ (by simp only[go_sem]) (by simp only[go_sem]<;>rfl)) ?_
 repeat refine sq ?_
 refine aD rfl rfl (fun hb=>?_) (fun hb=>?_)
 ·have ae:i<l.length:=by simpa using hb
  have aq:(i:Int)<l.length:=by omega
  clear hb
  repeat refine sq ?_
  refine aI ?_
  repeat refine sq ?_
  refine a8 ?_
  repeat refine sq ?_
  refine rx hΓ [0,1,5,7,8] [] (fun K' hK=>by simp only[go_sem,aK ae,Int.toNat_natCast,Int.natCast_nonneg,aq];(repeat (refine⟨ai,?_⟩));exact hK _ (by simp only[go_sem]) (by simp only[go_sem]<;>rfl)) ?_
  repeat refine sq ?_
  refine rx hΓ [0,1,5,7,8,16] [] (fun K' hK=>by simp only[go_sem,aK ae,Int.toNat_natCast,Int.natCast_nonneg,aq,aK ae,hs,hg,Int.toNat_natCast,Int.natCast_nonneg,aq];(repeat (refine⟨ai,?_⟩));exact hK _ (by simp only[go_sem]) (by simp only[go_sem]<;>rfl)) ?_
  repeat refine sq ?_
  refine aD rfl rfl (fun hb=>?_) (fun hb=>?_)
  ·repeat refine sq ?_
   refine rx hΓ [4] [] (fun K' hK=>by simp only[go_sem,aK ae,Int.toNat_natCast,Int.natCast_nonneg,aq];(repeat (refine⟨ai,?_⟩));exact hK _ (by simp only[go_sem]) (by simp only[go_sem]<;>rfl)) ?_
   refine ax ?_
   simp only[go_sem]
   rw[Xs (p:=eX b) ae (by simpa using hb) hR]
  ·repeat refine sq ?_
   refine aI ?_
   refine eo ?_
   simp only[go_sem]
   refine kp [0,1,7,8] [] ?_
   repeat refine sq ?_
   refine bc hΓ fun K' hK=>?_
   simp only[go_sem,aK ae,Int.toNat_natCast,Int.natCast_nonneg,aq]
   repeat (refine⟨ai,?_⟩)
   refine hK _ ?_
   clear K' hK
   simp only[go_sem]
   refine⟨i+1,⟨ae,?_⟩,by(show l.length-(i+1)<l.length-i;omega),?_⟩
   ·intro k hk kJ
    rcases Nat.lt_succ_iff_lt_or_eq.1 kJ with h5 | rfl
    ·exact hR k hk h5
    ·simpa using hb
   refine bJ [0,1,7,8] [] ?_ ?_
   ·simp only[go_sem,aM ae hl,Int.natCast_add,Int.natCast_one]
   ·simp only[go_sem,aM ae hl,Int.natCast_add,Int.natCast_one]
 ·have bo:i=l.length:=by
   have :¬ (i:Int)<l.length:=by simpa using hb
   omega
  clear hb
  subst bo
  repeat refine sq ?_
  refine di ?_
  simp only[go_sem]
  refine kp [] [] ?_
  repeat refine sq ?_
  refine rx hΓ [4] [] (fun K' hK=>by simp only[go_sem];(repeat (refine⟨ai,?_⟩));exact hK _ (by simp only[go_sem]) (by simp only[go_sem]<;>rfl)) ?_
  refine ax ?_
  simp only[go_sem]
  rw[Xr (p:=eX b) fun k hk=>hR k hk hk]
theorem W0:ak Tryd.prog 72 S101:=S9.sound
noncomputable def Gv:List (Nat×Spec):=[(49,S65),(72,S101)]
theorem acm:∀ f s,tbl Gv f=some s->ak Tryd.prog f s:=tc KI<|tc W0<|tn
attribute [go_sem] Gv
theorem Gi:(#[35]:Array Nat).getD 0 0=35:=rfl
theorem Qd:((bb Tryd.prog 75).bind fun z=>ee (jb z))=some (encPa mS):=by rw[QM];rfl
theorem FL{obj:Name->Option O}{nm:Name}{k i:Nat}{L:List V}(h:obj nm=some (.arr 2 L))(hk:k=L.length)(hi:i<L.length):
 kY Tryd.prog obj 35 35 (.msl nm k) (.v (vInt i))=⟨True,.any,upd obj nm (some (.arr 2 (L.take i++List.replicate (L.length-i) (encPa mS))))⟩:=by
 unfold kY
 simp only[GY,h,Qd,Int.toNat_natCast]
 congr 1
 simp only[eq_iff_iff,iff_true]
 exact⟨hk,by omega,hi,trivial,rfl,rfl,trivial,by decide⟩
set_option maxRecDepth 10000 in
set_option maxHeartbeats 4000000 in
theorem QG(b:Bag){H:Name->Option O}{l:List Par}(hl:l.length<1000000)(p8:H [0,1]=some (.arr 2 (l.map encPa)))(gV:∀ hs,bW [0] (bP [0] hs) H=True)(gE:∀ hs sz L,bW [0] (bP [0] hs) (upd H [0,1] (some (.arr sz L)))=True)(Mm:∀ hs sz L,bW [0] (bP [0] hs) (upd H [0,1] (some (.farr sz L)))=True):
 ∃ c,Tryd.f48.body=some c/\CL Tryd.prog [c] (aO 42 [0] H [(0,⟨true,.msl [0,1] l.length⟩),(1,⟨true,.clo (.func 49) [] [.v (.ptr (aX b))]⟩)] []) (fun e σ=>(e=.normal\/e=.ret)/\(σ.env 4).c=true/\
   (σ.env 4).d=.v (.sl ((gg (eX b) l).map encPa))/\σ.obj [0,1]=some (.farr 2 (mD encPa (encPa mS) (eX b) l))):=by
 obtain⟨Γ,sG,sI,hΓ,hs,hi,hp,hI⟩:∃ (Γ:FuncId->Option Spec) (sG sI:Spec),(∀ f s,Γ f=some s->ak Tryd.prog f s)/\Γ 49=some sG/\Γ 72=some sI/\
  (∀ (obj:Name->Option O) (t:Name) (x:Par),sG.app obj t [.agg ((encPa x).cells.map .v),.v (.ptr (aX b))]=⟨True,.v (.bool (eX b x)),obj⟩)/\
  ∀ (obj:Name->Option O) (t:Name),obj [0,1]=some (.arr 2 (l.map encPa))->sI.app obj t [.msl [0,1] l.length,.clo (.func 49) [] [.v (.ptr (aX b))]]=⟨True,.v (vInt (lp (eX b) l)),obj⟩:=
  ⟨tbl Gv,S65,S101,acm,rfl,rfl,fun obj t x=>by simp only[go_sem],fun obj t e=>by simp only[go_sem,e,List.length_map]⟩
 generalize uD:mD encPa (encPa mS) (eX b) l=XX
 generalize hpg:eX b=p at *
 simp only[encPa,V.cells,List.map_cons,List.map_nil]at hp
 refine⟨_,rfl,?_⟩
 have hm:l.length<=maxLen:=by unfold maxLen;omega
 repeat refine sq ?_
 refine rx hΓ [0,1] [] (fun K' hK=>by simp only[go_sem,gV];(repeat (refine⟨ai,?_⟩));exact hK _ (by simp only[go_sem,gV]) (by simp only[go_sem,gV]<;>rfl)) ?_
 repeat refine sq ?_
 refine rx hΓ [0,1,5] [] (fun K' hK=>by simp only[go_sem,gV,hI,hi,p8,implies_true];(repeat (refine⟨ai,?_⟩));exact hK _ (by simp only[go_sem,gV,hI,hi,p8,implies_true]) (by simp only[go_sem,gV,hI,hi,p8,implies_true]<;>rfl)) ?_
 repeat refine sq ?_
 refine rx hΓ [0,1,5,12] [] (fun K' hK=>by simp only[go_sem,gV];(repeat (refine⟨ai,?_⟩));exact hK _ (by simp only[go_sem,gV]) (by simp only[go_sem,gV]<;>rfl)) ?_
 repeat refine sq ?_
 refine aD rfl rfl (fun hb=>?_) (fun hb=>?_)
 ·repeat refine sq ?_
  refine rx hΓ [4] [] (fun K' hK=>by simp only[go_sem,gV];(repeat (refine⟨ai,?_⟩));exact hK _ (by simp only[go_sem,gV]) (by simp only[go_sem,gV]<;>rfl)) ?_
  refine bq (GN 4 (.msl [0,1] l.length) (by simp only[go_sem]) (by simp only[go_sem,p8,List.length_map]) [4] [] ?_ rfl) ?_
  ·simp only[go_sem,p8,Mm]
  simp only[go_sem,p8]
  refine ax ?_
  simp only[go_sem,p8]
  have cB:lp p l= -1:=by simpa using hb
  have dP:∀ d∈l,p d=false:=by
   unfold lp at cB
   split at cB
   ·omega
   ·rename_i hn
    intro d hd
    cases X':p d with
    |false=>rfl
    |true=>exact(hn (List.any_eq_true.2 ⟨d,hd,X'⟩)).elim
  have hk:gg p l=l:=List.filter_eq_self.2 fun d hd=>by rw[dP d hd];rfl
  have zJ:XX=l.map encPa:=by rw[<-uD];unfold mD;rw[hk];simp
  rw[hk,zJ]
  exact⟨.inr trivial,rfl,rfl⟩
 have hf:l.findIdx p<l.length:=by
  have cB:¬ lp p l= -1:=by simpa using hb
  unfold lp at cB
  split at cB
  ·rename_i Zc
   exact List.findIdx_lt_length_of_exists (by obtain⟨y,hy,hp⟩:=List.any_eq_true.1 Zc;exact⟨y,hy,hp⟩)
  ·exact(cB rfl).elim
 have pZ:lp p l=(l.findIdx p:Int):=by unfold lp;rw[if_pos (List.any_eq_true.2 ⟨_,List.getElem_mem hf,List.findIdx_getElem (w:=hf)⟩)]
 rw[pZ]
 clear hb pZ hi hI
 have X9:p (l[l.findIdx p])=true:=List.findIdx_getElem (w:=hf)
 have LF:∀ j (h:j<l.length),j<l.findIdx p->p l[j]=false:=fun j h hj=>by simpa using List.not_of_lt_findIdx hj
 generalize l.findIdx p=f at *
 repeat refine sq ?_
 refine aI ?_
 repeat refine sq ?_
 refine rx hΓ [0,1,5,6] [] (fun K' hK=>by simp only[go_sem,gV,aM hf hm,Int.natCast_add,Int.natCast_one];(repeat (refine⟨ai,?_⟩));exact hK _ (by simp only[go_sem,gV,aM hf hm,Int.natCast_add,Int.natCast_one]) (by simp only[go_sem,gV,aM hf hm,Int.natCast_add,Int.natCast_one]<;>rfl)) ?_
 repeat refine sq ?_
 refine a8 ?_
 repeat refine sq ?_
 refine aba (fun x:Nat×Nat×List Par=>upd H [0,1] (some (.arr 2 (x.2.2.map encPa)))) (fun x=>[(5,⟨true,.v (vInt x.1)⟩),(6,⟨true,.v (vInt x.2.1)⟩)]) (fun x=>[]) (fun x=>x.1<x.2.1/\x.2.1<=l.length/\x.2.2.length=l.length/\x.2.2.take x.1=gg p (l.take x.2.1)/\x.2.2.drop x.2.1=l.drop x.2.1) (fun x=>l.length-x.2.1) (f,f+1,l) ?_ ?_ ?_ ?_ ?_
 ·refine⟨(show f<f+1 by omega),hf,rfl,?_,rfl⟩
  show l.take f=gg p (l.take (f+1))
  unfold gg
  rw[List.take_add_one,List.getElem?_eq_getElem hf,List.filter_append]
  simp only[Option.toList_some,List.filter_cons,X9,Bool.not_true,Bool.false_eq_true,if_false,List.filter_nil,List.append_nil]
  rw[List.filter_eq_self.2]
  intro d hd
  obtain⟨j,hj,rfl⟩:=List.getElem_of_mem hd
  have eT:j<f:=by simp at hj;omega
  rw[List.getElem_take,LF j (by omega) eT]
  rfl
 ·congr 1
  rw[<-p8]
  funext x
  by_cases e:x=[0,1]
  ·subst e;rw[aC]
  ·rw[aH _ _ _ e]
 ·rfl
 ·rfl
 clear LF
 rintro⟨i,j,A⟩ ⟨gl,hj,hA,hT,hD⟩
 simp only at gl hj hA hT hD
 dsimp only
 generalize sf:upd H [0,1] (some (O.arr 2 (List.map encPa A)))=H'
 have h0:H' [0,1]=some (.arr 2 (A.map encPa)):=by rw[<-sf,aC]
 have wL:∀ i,H' [i+1,1]=H [i+1,1]:=fun i=>by rw[<-sf,aH _ _ _ (by simp)]
 have gW:∀ hs,bW [0] (bP [0] hs) H'=True:=fun hs=>by rw[<-sf];exact gE _ _ _
 have kO:∀ hs sz L,bW [0] (bP [0] hs) (upd H' [0,1] (some (.arr sz L)))=True:=fun hs sz L=>by rw[<-sf,sQ];exact gE _ _ _
 have Zq:∀ hs sz L,bW [0] (bP [0] hs) (upd H' [0,1] (some (.farr sz L)))=True:=fun hs sz L=>by rw[<-sf,sQ];exact Mm _ _ _
 simp only[go_sem]
 repeat refine sq ?_
 refine rx hΓ [0,1,5,6,19] [] (fun K' hK=>by simp only[go_sem,gW,kO,h0];(repeat (refine⟨ai,?_⟩));exact hK _ (by simp only[go_sem,gW,kO,h0]) (by simp only[go_sem,gW,kO,h0]<;>rfl)) ?_
 repeat refine sq ?_
 refine aD rfl rfl (fun hb=>?_) (fun hb=>?_)
 ·have ae:j<l.length:=by simpa using hb
  have D3:j<A.length:=by omega
  have wA:i<A.length:=by omega
  have Yx:(i:Int)<l.length:=by omega
  have aq:(j:Int)<l.length:=by omega
  have EL:A[j]=l[j]:=by
   have h1:A[j]=(A.drop j)[0]'(by simp;omega):=by simp
   rw[h1]
   simp only[hD]
   simp
  clear hb
  repeat refine sq ?_
  refine aI ?_
  repeat refine sq ?_
  refine a8 ?_
  repeat refine sq ?_
  refine rx hΓ [0,1,5,6,7] [[7,0]] (fun K' hK=>by simp only[go_sem,gW,kO,h0,aK D3,Int.toNat_natCast,Int.natCast_nonneg,aq,hA,EL];(repeat (refine⟨ai,?_⟩));exact hK _ (by simp only[go_sem,gW,kO,h0,aK D3,Int.toNat_natCast,Int.natCast_nonneg,aq,hA,EL]) (by simp only[go_sem,gW,kO,h0,aK D3,Int.toNat_natCast,Int.natCast_nonneg,aq,hA,EL]<;>rfl)) ?_
  repeat refine sq ?_
  refine rx hΓ [0,1,5,6,7,29] [[7,0]] (fun K' hK=>by simp only[go_sem,gW,kO,h0,hs,hp];(repeat (refine⟨ai,?_⟩));exact hK _ (by simp only[go_sem,gW,kO,h0,hs,hp]) (by simp only[go_sem,gW,kO,h0,hs,hp]<;>rfl)) ?_
  repeat refine sq ?_
  refine aD rfl rfl (fun hb=>?_) (fun hb=>?_)
  ·have X8:p l[j]=false:=by simpa using hb
   clear hb
   repeat refine sq ?_
   refine Au hΓ [0,1,5,6] [] fun K' hK=>?_
   simp only[go_sem,gW,kO,h0,Int.toNat_natCast,Int.natCast_nonneg,Yx,hA]
   repeat' apply And.intro
   all_goals first | rfl | omega | exact Int.le_refl _ | exact Bool.or_not_self _ | exact Bool.not_or_self _ | exact Fi _ | exact Fj _ | exact fun x hx=>(Fi _ x hx).1 | exact fun x hx=>(Fj _ x hx).1 | (simp only[List.length_take,List.length_append,List.length_map,List.length_drop,List.length_cons,List.length_nil];done) | (simp only[List.length_take,List.length_append,List.length_map,List.length_drop,List.length_cons,List.length_nil];omega) | (simp only[List.length_take,List.length_append,List.length_map,List.length_drop,List.length_cons,List.length_nil,maxLen];omega) | (exact fun _=>by decide) | (exact fun h=>⟨h,by decide⟩) | (simp only[decide_eq_true_eq];omega) | skip
   refine hK _ ?_ ?_
   ·simp only[go_sem,gW,kO]
   clear K' hK
   simp only[go_sem]
   obtain⟨H2,ka⟩:∃ H2,upd H' [0,1] (some (O.arr 2 ((List.map encPa A).set i (encPa l[j]))))=H2:=⟨_,rfl⟩
   have Ms:=ka
   simp only[encPa]at Ms
   rw[Ms]
   have wK:∀ hs,bW [0] (bP [0] hs) H2=True:=fun hs=>by rw[<-ka];exact kO _ _ _
   repeat refine sq ?_
   refine bc hΓ fun K' hK=>?_
   simp only[go_sem]
   repeat (refine⟨ai,?_⟩)
   refine hK _ ?_
   clear K' hK
   simp only[go_sem]
   refine kj [0,1,5,6] [] ?_ ?_
   ·simp only[go_sem,wK]
   simp only[go_sem,wK]
   repeat refine sq ?_
   refine bc hΓ fun K' hK=>?_
   simp only[go_sem]
   repeat (refine⟨ai,?_⟩)
   refine hK _ ?_
   clear K' hK
   simp only[go_sem]
   refine⟨(i+1,j+1,A.set i l[j]),⟨(show i+1<j+1 by omega),ae,by simpa using hA,?_,?_⟩,(show l.length-(j+1)<l.length-j by omega),?_⟩
   ·show (A.set i l[j]).take (i+1)=gg p (l.take (j+1))
    unfold gg at hT |-
    rw[List.take_add_one (l:=l),List.getElem?_eq_getElem ae,List.filter_append,<-hT]
    simp only[Option.toList_some,List.filter_cons,X8,Bool.not_false,if_true,List.filter_nil]
    rw[List.take_add_one,List.take_set_of_le (Nat.le_refl i),List.getElem?_set_self wA]
    rfl
   ·show (A.set i l[j]).drop (j+1)=l.drop (j+1)
    rw[List.drop_set_of_lt (show i<j+1 by omega)]
    have :=congrArg (List.drop 1) hD
    simpa[List.drop_drop]using this
   ·refine bJ [0,1,5,6] [] ?_ ?_
    ·simp only[go_sem,wK]
    ·simp only[go_sem,aM ae hm,aM (show i<l.length by omega) hm,Int.natCast_add,Int.natCast_one]
     rw[<-ka,<-sf,sQ,List.map_set]
     try rfl
  ·have X6:p l[j]=true:=by simpa using hb
   clear hb
   repeat refine sq ?_
   refine aI ?_
   refine eo ?_
   simp only[go_sem]
   refine kj [0,1,5,6] [] ?_ ?_
   ·simp only[go_sem,gW]
   simp only[go_sem,gW]
   repeat refine sq ?_
   refine bc hΓ fun K' hK=>?_
   simp only[go_sem]
   repeat (refine⟨ai,?_⟩)
   refine hK _ ?_
   clear K' hK
   simp only[go_sem]
   refine⟨(i,j+1,A),⟨(show i<j+1 by omega),ae,hA,?_,?_⟩,(show l.length-(j+1)<l.length-j by omega),?_⟩
   ·show A.take i=gg p (l.take (j+1))
    unfold gg at hT |-
    rw[List.take_add_one (l:=l),List.getElem?_eq_getElem ae,List.filter_append,<-hT]
    simp only[Option.toList_some,List.filter_cons,X6,Bool.not_true,Bool.false_eq_true,if_false,List.filter_nil,List.append_nil]
   ·show A.drop (j+1)=l.drop (j+1)
    have :=congrArg (List.drop 1) hD
    simpa[List.drop_drop]using this
   ·refine bJ [0,1,5,6] [] ?_ ?_
    ·simp only[go_sem,gW]
    ·simp only[go_sem,aM ae hm,Int.natCast_add,Int.natCast_one]
     rw[<-sf]
 ·have bo:j=l.length:=by
    have :¬ (j:Int)<l.length:=by simpa using hb
    omega
  subst bo
  clear hb
  rw[List.take_length]at hT
  have wA:i<A.length:=by omega
  repeat refine sq ?_
  refine di ?_
  simp only[go_sem]
  refine kj [0,5] [] ?_ ?_
  ·simp only[go_sem,gW]
  simp only[go_sem,gW]
  repeat refine sq ?_
  refine aa' hΓ [0,5] [] fun K' hK=>?_
  refine HU ?_ (HU ?_ (.cut (T:=35) (x:=.tmp 36) (lo:=.tmp 37) (c:=38) rfl rfl ?_ ?_ ?_ ?_ (.nil ?_)))
  ·simp only[go_sem]
  ·simp only[go_sem]
  ·simp only[go_sem]
  ·simp only[go_sem]
  ·simp only[go_sem]
  ·have j8:=fun (obj:Name->Option O) (h:obj [0,1]=_)=>FL (obj:=obj) (nm:=[0,1]) (k:=l.length) (i:=i) (L:=A.map encPa) h (by simpa using hA.symm) (by simpa using wA)
   simp only[go_sem,mG,Gi,j8,h0]
  ·refine hK _ ?_ ?_
   ·simp only[go_sem,qk,mG,Gi,FL (obj:=fun nm=>if own [0] nm=true then none else H' nm) (nm:=[0,1]) (k:=l.length) (i:=i) (L:=A.map encPa) h0 (by simpa using hA.symm) (by simpa using wA),kO]
   clear K' hK
   simp only[go_sem,qk,mG,Gi,FL (obj:=fun nm=>if own [0] nm=true then none else H' nm) (nm:=[0,1]) (k:=l.length) (i:=i) (L:=A.map encPa) h0 (by simpa using hA.symm) (by simpa using wA)]
   have kJ:(gg p l).length=i:=by rw[<-hT,List.length_take];omega
   have EB:(List.take i (List.map encPa A)++List.replicate (A.length-i) (encPa mS))=XX:=by
    rw[<-uD]
    unfold mD
    rw[kJ,<-hT,List.map_take,hA]
   have hZ1:XX.length=l.length:=by rw[<-uD];unfold mD;simp;omega
   have Zf:XX.take i=(gg p l).map encPa:=by
    rw[<-uD]
    unfold mD
    rw[List.take_append_of_le_length (by simp;omega),List.take_of_length_le (by simp;omega)]
   have Ze:∀ x∈XX,x.cells.length=2:=by
    intro x hx
    rw[<-uD]at hx
    rcases List.mem_append.1 hx with h | h
    ·obtain⟨y,_,rfl⟩:=List.mem_map.1 h;rfl
    ·rw[(List.mem_replicate.1 h).2];rfl
   simp only[encPa]at EB
   rw[EB]
   clear EB
   clear uD
   generalize XX=Z at *
   simp only[V.cells]at Ze
   generalize j':upd H' [0,1] (some (O.arr 2 Z))=H3
   have ZU:H3 [0,1]=some (.arr 2 Z):=by rw[<-j',aC]
   have hI3:∀ i,H3 [i+1,1]=H [i+1,1]:=fun i=>by rw[<-j',aH _ _ _ (by simp)];exact wL i
   have Zp:∀ hs sz L,bW [0] (bP [0] hs) (upd H3 [0,1] (some (.farr sz L)))=True:=fun hs sz L=>by rw[<-j',sQ];exact Zq _ _ _
   have Yw:(i:Int)<=l.length:=by omega
   repeat refine sq ?_
   refine Au hΓ [4] [] fun K' hK=>?_
   simp only[go_sem,ZU,GY,Int.toNat_natCast,Int.natCast_nonneg,Yw]
   repeat' apply And.intro
   all_goals first | rfl | omega | exact Int.le_refl _ | exact Bool.or_not_self _ | exact Bool.not_or_self _ | exact Fi _ | exact Fj _ | exact fun x hx=>(Fi _ x hx).1 | exact fun x hx=>(Fj _ x hx).1 | (simp only[List.length_take,List.length_append,List.length_map,List.length_drop,List.length_cons,List.length_nil];done) | (simp only[List.length_take,List.length_append,List.length_map,List.length_drop,List.length_cons,List.length_nil];omega) | (simp only[List.length_take,List.length_append,List.length_map,List.length_drop,List.length_cons,List.length_nil,maxLen];omega) | (exact fun _=>by decide) | (exact fun h=>⟨h,by decide⟩) | (simp only[decide_eq_true_eq];omega) | skip
   refine hK _ ?_ ?_
   ·simp only[go_sem,Zp]
   clear K' hK
   simp only[go_sem]
   refine ax ?_
   simp only[go_sem,Zf]
   exact .inr trivial
noncomputable def delCP:CSpec where
 pre:=fun os ds=>∃ (l:List Par) (b:Bag),os=[.arr 2 (l.map encPa)]/\ds=[.msl [0,1] l.length,.clo (.func 49) [] [.v (.ptr (aX b))]]/\l.length<1000000
 out:=fun os ds=>match os,ds with
  |[.arr _ L],[_,.clo _ _ [.v x]]=>⟨[(0,.farr 2 (mD encPa (encPa mS) (eX (mE x)) (L.map jH)))],[],.v (.sl ((gg (eX (mE x)) (L.map jH)).map encPa))⟩
  |_,_=>⟨[],[],.any⟩
noncomputable def sw(obj:Name->Option O)(_:Name):List D->R
 |[.msl nm k,.clo (.func 49) [] [.v (.ptr cs)]]=>match obj nm with
  |some (.arr 2 L)=>⟨k=L.length/\L.length<1000000/\(L.map jH).map encPa=L/\aX (mE (.ptr cs))=cs,.v (.sl ((gg (eX (mE (.ptr cs))) (L.map jH)).map encPa)),upd obj nm (some (.farr 2 (mD encPa (encPa mS) (eX (mE (.ptr cs))) (L.map jH))))⟩
  |_=>.bad obj
 |_=>.bad obj
def qj(_:Name->Option O)(_:Name):List D->List Name
 | .msl nm _::_=>[nm]
 |_=>[]
noncomputable def S64:Spec:=⟨sw,qj,qj⟩
attribute [go_sem] S64 sw
theorem aaD:S64.Near:=by
 refine Cl fun obj obj2 t ds ha=>⟨rfl,?_⟩
 have dO:∀ wr,bu wr obj obj2->bB (R.bad obj) (R.bad obj2) obj obj2 wr:=fun wr h=>.none wr h
 unfold sw
 split
 ·rename_i nm k cs
  have h1:obj2 nm=obj nm:=ha nm (by simp[qj])
  simp only[h1]
  split
  ·exact .one (by simp[qj]) ha
  ·exact dO _ ha
 ·exact dO _ ha
theorem WE:ak Tryd.prog 48 delCP.toSpec:=by
 refine mF (nt:=42) (rs:=[.tmp 4]) Tryd.func48 rfl (by rfl) (by kernel_rfl) (iv Tryd.func48 rfl (by kernel_rfl)) (oa _ (by decide)) ?_
 rintro os ds ⟨l,b,rfl,rfl,hl⟩
 refine⟨lb rfl,?_⟩
 have fF:delCP.out [.arr 2 (l.map encPa)] [.msl [0,1] l.length,.clo (.func 49) [] [.v (.ptr (aX b))]]=⟨[(0,.farr 2 (mD encPa (encPa mS) (eX b) l))],[],.v (.sl ((gg (eX b) l).map encPa))⟩:=by
  simp only[delCP,FD,aaK]
 rw[fF]
 have gV:∀ hs,bW [0] (bP [0] hs) (aS [.arr 2 (l.map encPa)])=True:=fun hs=>eq_true (vB (by
  intro o ho dom hd
  simp only[List.mem_singleton]at ho
  subst ho
  rfl) hs)
 obtain⟨c,hc,h⟩:=QG b (H:=aS [.arr 2 (l.map encPa)]) hl rfl gV (fun hs sz L=>eq_true (xx rfl (by rw[gV];trivial))) (fun hs sz L=>eq_true (xx rfl (by rw[gV];trivial)))
 have oN:∀ c2,Tryd.f48.body=some c2->c2=c:=fun c2 h2=>by rw[h2]at hc;exact Option.some.inj hc
 rw[<-oN _ rfl]at h
 refine CW.mono (iR h) ?_
 rintro e σ ⟨he,h1,h2,h3⟩
 have fin:(bS Tryd.prog σ [.tmp 4]).ok/\(bS Tryd.prog σ [.tmp 4]).d=.v (.sl ((gg (eX b) l).map encPa))/\gG [.arr 2 (l.map encPa)] ⟨[(0,.farr 2 (mD encPa (encPa mS) (eX b) l))],[],.v (.sl ((gg (eX b) l).map encPa))⟩ σ:=
  ⟨h1,h2,⟨h3,trivial⟩,trivial,rfl⟩
 rcases he with rfl | rfl
 ·exact fin
 ·exact fin
theorem WG:ak Tryd.prog 48 S64:=by
 refine Bl WE aaD (oa _ (by decide)) fun obj t ds aa=>?_
 change (sw obj t ds).ok at aa
 refine⟨ds,rfl,fun _ _ _ _ h=>h,?_⟩
 show _/\_=(sw obj t ds).d/\_=(sw obj t ds).obj
 unfold sw at aa |-
 split at aa
 ·rename_i nm k cs
  split at aa
  ·rename_i L ho
   obtain⟨rfl,hl,he,hg⟩:=aa
   have hr:reach obj [.msl nm L.length,.clo (.func 49) [] [.v (.ptr cs)]]=[nm]:=by
    unfold reach
    show dA obj (2998+1+1) [nm] []=[nm]
    simp only[dA,b8,List.any_nil,Bool.false_eq_true,if_false,ho,l9,List.nil_append]
   have i0:idx [nm] nm=0:=by simp[idx]
   have e1:cg obj [.msl nm L.length,.clo (.func 49) [] [.v (.ptr cs)]]=[.arr 2 L]:=by
    unfold cg
    rw[hr]
    simp only[List.map_cons,List.map_nil,bZ,ho,O.ren]
   have e2:cH obj [.msl nm L.length,.clo (.func 49) [] [.v (.ptr cs)]]=[.msl [0,1] L.length,.clo (.func 49) [] [.v (.ptr cs)]]:=by
    unfold cH
    rw[hr]
    simp only[D.renL,D.ren,cin,i0]
   have e3:(shut obj [nm]&&D.closL (b8 [nm]) [.msl nm L.length,.clo (.func 49) [] [.v (.ptr cs)]]&&fresh obj t [])=true:=by
    simp[shut,ho,O.clos,D.closL,D.clos,b8,fresh]
   have cG:delCP.pre [.arr 2 L] [.msl [0,1] L.length,.clo (.func 49) [] [.v (.ptr cs)]]:=⟨L.map jH,mE (.ptr cs),by rw[he],by rw[List.length_map,hg],by rw[List.length_map];exact hl⟩
   have fF:delCP.out [.arr 2 L] [.msl [0,1] L.length,.clo (.func 49) [] [.v (.ptr cs)]]=⟨[(0,.farr 2 (mD encPa (encPa mS) (eX (mE (.ptr cs))) (L.map jH)))],[],.v (.sl ((gg (eX (mE (.ptr cs))) (L.map jH)).map encPa))⟩:=rfl
   simp only[CSpec.toSpec,e1,e2,hr,fF,e3,cG,ho,and_self,cY]
   exact⟨trivial,rfl,rfl⟩
  ·exact aa.elim
 ·exact aa.elim
end Go.Eng
set_option linter.unusedVariables false
namespace Go.Eng
open Go Go.Proofs Go.RowKit Go.Lib Go.Shelf
set_option maxHeartbeats 4000000 in
set_option maxRecDepth 100000 in
theorem Xk(b off n c i vb fA m vc:Nat)(cs vs:List Value)(w:World)(hi:i<n)(hm:0<m)(j0:n+m<=c)(Me:c<=9223372036854775807)(zf:vb≠b)
 (bO:cs.length=n) (De:vs.length=m)
 (gq:∀ j v,cs[j]?=some v->w.cell? ⟨b,off+j,none⟩=some v) (kH:∀ j,j<n+m->(w.cell? ⟨b,off+j,none⟩).isSome=true) (pY:∀ j,w.frozen? ⟨b,j,none⟩=false)
 (rD:∀ j v,vs[j]?=some v->w.cell? ⟨vb,fA+j,none⟩=some v) (wN:∀ v∈cs,v.oneCell'=true) (EP:∀ v∈vs,v.oneCell'=true)
 (tA tB:TypeId) (kA kB:Nat) (v8:w.shape? vb=some (tA,kA)) (v7:w.shape? b=some (tB,kB)) (D0:kA≠0):
 Calls Tryd.prog 74 #[.slice (some ⟨b,off,none⟩) n c,.int .i64 i,.slice (some ⟨vb,fA,none⟩) m vc] w fun e w'=>
  e=.returned (.slice (some ⟨b,off,none⟩) (n+m) c)/\w'=(w.drew.setCells b (off+(i+m)) (cs.drop (i))).setCells b (off+i) vs:=by
 have mixed:Tryd.prog.follows Departure.mixedOrders=true:=by kernel_rfl
 have jd:¬ ((m:Int)=0):=by omega
 have mc:¬ ((i:Int)=(n:Int)):=by omega
 have Ya:∀ lb cb,(callFunc 81 #[.slice (some ⟨vb,fA,none⟩) m vc,.slice (some ⟨b,off+(i+m),none⟩) lb cb]).run Tryd.prog w=.ok (.value (.bool false)) w:=fun lb cb=>by
  rw[run_callFunc_extern Tryd.func81 (by kernel_rfl) (by kernel_rfl) (by kernel_rfl) (e:=Extern.SlicesOverlaps.overlaps #[34,34] #[4]) (by kernel_rfl),
   Tb w 34 4 3 Tryd.underlying34 1 Tryd.sizeOf3 ⟨vb,fA,none⟩ ⟨b,off+(i+m),none⟩ m vc lb cb zf tA tB kA kB v8 v7 D0 (pY _) (pY _)]
  rfl
 have uv:(cs.drop (i)).length=n-i:=by rw[List.length_drop,bO];try omega
 have ez:IntKind.i64.wrap ((i:Int)+(m:Int))=(i:Int)+(m:Int):=by rw[IntKind.wrap_i64];omega
 have fR:(0:Int)<=(i:Int)+(m:Int):=by omega
 have dd:i<=n:=by omega
 have XK:((i:Int)+(m:Int)).toNat=i+m:=by omega
 have fI:¬ (c=i+m):=by omega
 have Es:(i:Int)<=(n:Int)+(m:Int):=by omega
 have hb4:¬ (c=i):=by omega
 have wm:Nat.min (n+m-i) (n+m-(i+m))=n-i:=by simp only[Nat.min_def];split<;>omega
 have Ma:∀ ty dc sc,(Builtin.copy_ #[34,34] ty #[.slice (some ⟨b,off+(i+m),none⟩) (n+m-(i+m)) dc,.slice (some ⟨b,off+i,none⟩) (n+m-i) sc]).run Tryd.prog w.drew=.ok (goInt (n-i:Nat)) (w.drew.setCells b (off+(i+m)) (cs.drop (i))):=fun ty dc sc=>by
  have h:=xR (P:=Tryd.prog) 1 w.drew 34 34 ty 3 b (off+(i+m)) (n+m-(i+m)) dc ⟨b,off+i,none⟩ (n+m-i) sc (cs.drop (i)) Tryd.underlying34 Tryd.sizeOf3 (by rw[uv,wm];omega)
   (fun j v hj=>by rw[Addr.add_lit,Nat.add_assoc];exact gq (i+j) v (by rwa [List.getElem?_drop]at hj))
   (fun j hj=>by rw[Nat.add_assoc];exact kH _ (by omega)) (fun j hj=>by exact pY _) (fun v hv=>wN v (List.mem_of_mem_drop hv))
  rw[wm]at h
  exact h
 obtain⟨W1,ir⟩:∃ W1,W1=w.drew.setCells b (off+(i+m)) (cs.drop (i)):=⟨_,rfl⟩
 have XS:∀ k,k<n+m->(W1.cell? ⟨b,off+k,none⟩).isSome=true:=fun k hk=>by
  rw[ir]
  exact isSome_setCells b _ _ _ (fun j hj=>by rw[Nat.add_assoc];exact kH _ (by omega)) _ (kH k hk)
 have wk:Nat.min m (n+m-i)=m:=by simp only[Nat.min_def];split<;>omega
 have YV:∀ (W:World),(∀ x,W.cell? x=W1.cell? x)->(∀ x,W.frozen? x=W1.frozen? x)->∀ ty dc,(Builtin.copy_ #[34,34] ty #[.slice (some ⟨b,off+i,none⟩) (n+m-i) dc,.slice (some ⟨vb,fA,none⟩) m vc]).run Tryd.prog W=.ok (goInt m) (W.setCells b (off+i) vs):=fun W p7 wI ty dc=>by
  have h:=xR (P:=Tryd.prog) 1 W 34 34 ty 3 b (off+i) (n+m-i) dc ⟨vb,fA,none⟩ m vc vs Tryd.underlying34 Tryd.sizeOf3 (by rw[wk,De];omega)
   (fun j v hj=>by
     rw[Addr.add_lit,p7,ir,World.cell?_setCells_out b _ _ _ _ (fun h _=>absurd h zf)]
     exact rD j v hj)
   (fun j hj=>by rw[p7,Nat.add_assoc];exact XS _ (by omega)) (fun j hj=>by rw[wI,ir,World.frozen?_setCells];exact pY _) EP
  rw[wk]at h
  exact h
 rw[<-ir]at Ma
 go_enter Tryd.func74,Tryd.ntmps74
 go_wp2_with (simp only[Ya])
 go_region_law_o (refine step_copy_runI rfl _ _ 34 34 rfl _ _ (by simp[Act.eval,Act.put]) (by simp[Act.eval,Act.put]) (Ma _ _ _) ?_)
 go_wp2_with (at_builtin;refine wpList_copy_runI _ rfl _ _ 34 34 rfl _ _ rfl rfl (YV _ (fun _=>rfl) (fun _=>rfl) _ _) ?_)
 go_ret
 first | exact⟨rfl,rfl⟩ | exact⟨rfl,by rw[ir]⟩
set_option maxHeartbeats 4000000 in
set_option maxRecDepth 100000 in
theorem Xm(b off n c i vb fA m vc:Nat)(cs vs:List Value)(w:World)(hi:i<n)(hm:0<m)(DN:n<=c)(j0:c<n+m)(Y4:(n+m)*8<=140737488355328)
 (bO:cs.length=n) (De:vs.length=m)
 (gq:∀ j v,cs[j]?=some v->w.cell? ⟨b,off+j,none⟩=some v)
 (rD:∀ j v,vs[j]?=some v->w.cell? ⟨vb,fA+j,none⟩=some v) (wN:∀ v∈cs,v.oneCell'=true) (EP:∀ v∈vs,v.oneCell'=true):
 Calls Tryd.prog 74 #[.slice (some ⟨b,off,none⟩) n c,.int .i64 i,.slice (some ⟨vb,fA,none⟩) m vc] w fun e w'=>
  e=.returned (.slice (some ⟨w.heap.size,0,none⟩) (n+m) (grownCap w (n+m) c 3))/\
  w'=(((w.alloc (.cells ((cs.take (i)).toArray++Builtin.zeroCells (.int .i64 0:Value).cells (n+m-i)++Builtin.zeroCells (.int .i64 0:Value).cells (grownCap w (n+m) c 3-(n+m))) 3)).drew.setCells w.heap.size (i) vs).drew).setCells w.heap.size ((i+m)) (cs.drop (i)):=by
 have mixed:Tryd.prog.follows Departure.mixedOrders=true:=by kernel_rfl
 have uE:bK Tryd.prog 34=some (3,1,8):=by kernel_rfl
 have wJ:bb Tryd.prog 3=some (.int .i64 0):=by kernel_rfl
 obtain⟨i0,lv,ew,rz,Lb⟩:∃ i0,Tryd.prog.info? 3=some i0/\i0.zero=some (.int .i64 0)/\i0.size=1/\i0.bytes=8:=by
  obtain⟨hu,i0,h1,h2,h3⟩:=hM uE
  refine⟨i0,h1,?_,h2,h3⟩
  unfold bb at wJ
  rw[h1]at wJ
  exact wJ
 have jd:¬ ((m:Int)=0):=by omega
 have mc:¬ ((i:Int)=(n:Int)):=by omega
 have tU:(c:Int)<(n:Int)+(m:Int):=by omega
 have Mf:b<w.heap.size:=block_lt_of_cell (gq 0 _ (List.getElem?_eq_getElem (by omega)))
 have XH:vb<w.heap.size:=block_lt_of_cell (rD 0 _ (List.getElem?_eq_getElem (by omega)))
 have zy:(n:Int)+(m:Int)-(i:Int)=((n+m-i:Nat):Int):=by omega
 have wz:i+(n+m-i)=n+m:=by omega
 have hold:(Builtin.firstCells i0.size i (.slice (some ⟨b,off,none⟩) i c)).run Tryd.prog w.drew=.ok (cs.take (i)).toArray w.drew:=by
  rw[rz]
  exact run_firstCells_some w.drew 1 i ⟨b,off,none⟩ i c (cs.take (i)) (by rw[List.length_take];omega) (fun j v hj=>by
   rw[Addr.add_lit]
   rw[List.getElem?_take]at hj
   split at hj
   ·exact gq j v hj
   ·cases hj)
 have tY:∀ ty,(Builtin.append_ #[34,3] ty #[.slice (some ⟨b,off,none⟩) i c,.int .i64 ((n:Int)+(m:Int)-(i:Int))]).run Tryd.prog w=
     .ok (.slice (some ⟨w.heap.size,0,none⟩) (n+m) (grownCap w (n+m) c 3)) (w.drew.alloc (.cells ((cs.take (i)).toArray++Builtin.zeroCells (.int .i64 0:Value).cells (n+m-i)++Builtin.zeroCells (.int .i64 0:Value).cells (grownCap w (n+m) c 3-(n+m))) 3)):=fun ty=>by
  have h:=Lib.run_append_grow_zeros w 34 3 ty 3 i0 _ .i64 .i64 Tryd.underlying34 Tryd.underlying3 lv ew (some ⟨b,off,none⟩) i c (cs.take (i)) hold (n+m-i) (by omega) (by omega) (by omega) (by omega) (by rw[Lb];omega) (by rw[Lb,wz];exact growslice_fits j0 Y4)
  rw[wz]at h
  rw[zy]
  exact h
 obtain⟨G,hG⟩:∃ G,G=grownCap w (n+m) c 3:=⟨_,rfl⟩
 obtain⟨ROW,sb⟩:∃ ROW:Array Value,ROW=(cs.take (i)).toArray++Builtin.zeroCells (.int .i64 0:Value).cells (n+m-i)++Builtin.zeroCells (.int .i64 0:Value).cells (G-(n+m)):=⟨_,rfl⟩
 rw[<-hG]at tY |-
 rw[<-sb]at tY |-
 have Zk:n+m<=ROW.size:=by
  rw[sb]
  simp[Builtin.zeroCells,Value.cells]
  omega
 obtain⟨W1,ir⟩:∃ W1,W1=w.drew.alloc (.cells ROW 3):=⟨_,rfl⟩
 rw[<-ir]at tY
 have hN:∀ j,j<n+m->(W1.cell? ⟨w.heap.size,j,none⟩).isSome=true:=fun j hj=>by
  rw[ir,World.cell?_alloc_at (w:=w.drew) ROW _ w.heap.size j rfl,Array.getElem?_eq_getElem (by omega)];rfl
 have Mn:∀ j,W1.frozen? ⟨w.heap.size,j,none⟩=false:=fun j=>by rw[ir];exact World.frozen?_alloc_at (w:=w.drew) ROW _ w.heap.size j rfl
 have wK:∀ j v,w.cell? ⟨b,j,none⟩=some v->W1.cell? ⟨b,j,none⟩=some v:=fun j v h=>by rw[ir,World.cell?_alloc_past (w:=w.drew) _ b j Mf];exact h
 have Zo:∀ j v,w.cell? ⟨vb,j,none⟩=some v->W1.cell? ⟨vb,j,none⟩=some v:=fun j v h=>by rw[ir,World.cell?_alloc_past (w:=w.drew) _ vb j XH];exact h
 have wk:Nat.min m (n+m-i)=m:=by simp only[Nat.min_def];split<;>omega
 have wm:Nat.min (n-i) (n+m-(i+m))=n-i:=by simp only[Nat.min_def];split<;>omega
 have YU:∀ (W:World),(∀ x,W.cell? x=W1.cell? x)->(∀ x,W.frozen? x=W1.frozen? x)->∀ ty dc,(Builtin.copy_ #[34,34] ty #[.slice (some ⟨w.heap.size,i,none⟩) (n+m-i) dc,.slice (some ⟨vb,fA,none⟩) m vc]).run Tryd.prog W=.ok (goInt m) (W.setCells w.heap.size (i) vs):=fun W p7 wI ty dc=>by
  have h:=xR (P:=Tryd.prog) 1 W 34 34 ty 3 w.heap.size (i) (n+m-i) dc ⟨vb,fA,none⟩ m vc vs Tryd.underlying34 Tryd.sizeOf3 (by rw[wk,De];omega)
   (fun j v hj=>by rw[Addr.add_lit,p7];exact Zo _ v (rD j v hj))
   (fun j hj=>by rw[p7];exact hN _ (by omega)) (fun j hj=>by rw[wI];exact Mn _) EP
  rw[wk]at h
  exact h
 have hGn:n+m<=G:=by rw[hG];exact grownCap_ge w _ _ _
 have agf:G<=9223372036854775807:=by
  have :=grownCap_le_maxLen w (n+m) c 3 (by unfold maxLen;omega)
  rw[<-hG]at this
  unfold maxLen at this
  omega
 have hGi:¬ (G=i):=by omega
 have age:¬ (G=i+m):=by omega
 have Mb:¬ (c=i):=by omega
 have Y5:b≠w.heap.size:=by omega
 have uv:(cs.drop (i)).length=n-i:=by rw[List.length_drop,bO];try omega
 have L9:∀ (W:World),(∀ x,W.cell? x=(W1.setCells w.heap.size (i) vs).cell? x)->(∀ x,W.frozen? x=(W1.setCells w.heap.size (i) vs).frozen? x)->∀ ty dc sc,(Builtin.copy_ #[34,34] ty #[.slice (some ⟨w.heap.size,(i+m),none⟩) (n+m-(i+m)) dc,.slice (some ⟨b,off+i,none⟩) (n-i) sc]).run Tryd.prog W=.ok (goInt (n-i:Nat)) (W.setCells w.heap.size ((i+m)) (cs.drop (i))):=fun W p7 wI ty dc sc=>by
  have h:=xR (P:=Tryd.prog) 1 W 34 34 ty 3 w.heap.size ((i+m)) (n+m-(i+m)) dc ⟨b,off+i,none⟩ (n-i) sc (cs.drop (i)) Tryd.underlying34 Tryd.sizeOf3 (by rw[uv,wm];omega)
   (fun j v hj=>by
     rw[Addr.add_lit,p7,World.cell?_setCells_out _ _ _ _ _ (fun h _=>absurd h Y5),Nat.add_assoc]
     exact wK _ v (gq (i+j) v (by rwa [List.getElem?_drop]at hj)))
   (fun j hj=>by rw[p7];exact isSome_setCells _ _ _ _ (fun t ht=>hN _ (by omega)) _ (hN _ (by omega)))
   (fun j hj=>by rw[wI,World.frozen?_setCells];exact Mn _) (fun v hv=>wN v (List.mem_of_mem_drop hv))
  rw[wm]at h
  exact h
 subst ir
 have ZL:∀ x,((w.alloc (.cells ROW 3)).drew).cell? x=(w.drew.alloc (.cells ROW 3)).cell? x:=fun x=>rfl
 have EH:∀ x,((w.alloc (.cells ROW 3)).drew).frozen? x=(w.drew.alloc (.cells ROW 3)).frozen? x:=fun x=>rfl
 have ZI:∀ x,(((w.alloc (.cells ROW 3)).drew.setCells w.heap.size (i) vs).drew).cell? x=((w.drew.alloc (.cells ROW 3)).setCells w.heap.size (i) vs).cell? x:=fun x=>rfl
 have ZH:∀ x,(((w.alloc (.cells ROW 3)).drew.setCells w.heap.size (i) vs).drew).frozen? x=((w.drew.alloc (.cells ROW 3)).setCells w.heap.size (i) vs).frozen? x:=fun x=>rfl
 have ez:IntKind.i64.wrap ((i:Int)+(m:Int))=(i:Int)+(m:Int):=by rw[IntKind.wrap_i64];omega
 have fR:(0:Int)<=(i:Int)+(m:Int):=by omega
 have dd:i<=n:=by omega
 have XK:((i:Int)+(m:Int)).toNat=i+m:=by omega
 have Es:(i:Int)<=(n:Int):=by omega
 clear zy wz hold sb hG Zk
 go_enter Tryd.func74,Tryd.ntmps74
 go_wp2_with (first
  |(at_builtin;refine Lib.wpList_append_run _ rfl _ _ _ _ rfl _ _ rfl rfl _ _ (tY _) ?_)
  |(at_builtin;refine wpList_copy_runI _ rfl _ _ 34 34 rfl _ _ rfl rfl (YU _ ZL EH _ _) ?_)
  |(at_builtin;refine wpList_copy_runI _ rfl _ _ 34 34 rfl _ _ rfl rfl (L9 _ (fun _=>rfl) (fun _=>rfl) _ _ _) ?_))
 go_region_law_o (refine step_copy_runI rfl _ _ 34 34 rfl (.slice (some ⟨w.heap.size,(i+m),none⟩) (n+m-(i+m)) (G-(i+m))) (.slice (some ⟨b,off+i,none⟩) (n-i) (c-i)) (by simp[Act.eval,Act.put]) (by simp[Act.eval,Act.put]) (L9 _ ZI ZH 3 (G-(i+m)) (c-i)) ?_)
 go_wp2
 go_ret
 exact⟨rfl,rfl⟩
set_option maxHeartbeats 4000000 in
set_option maxRecDepth 100000 in
theorem Xl(base:Option Addr)(n c vb fA m vc:Nat)(w:World)(v':Value)(w':World)(hm:0<m)(hn:n<=c)(Me:c<=9223372036854775807)
 (cw:∀ ty,(Builtin.append_ #[34,34] ty #[.slice base n c,.slice (some ⟨vb,fA,none⟩) m vc]).run Tryd.prog w=.ok v' w'):
 Calls Tryd.prog 74 #[.slice base n c,.int .i64 n,.slice (some ⟨vb,fA,none⟩) m vc] w fun e w1=>e=.returned v'/\w1=w':=by
 have mixed:Tryd.prog.follows Departure.mixedOrders=true:=by kernel_rfl
 have jd:¬ ((m:Int)=0):=by omega
 go_enter Tryd.func74,Tryd.ntmps74
 cases base with
 |none=>
  go_wp2_with (at_builtin;refine Lib.wpList_append_run _ rfl _ _ _ _ rfl _ _ rfl rfl _ _ (cw _) ?_)
  all_goals (go_ret;exact⟨rfl,rfl⟩)
 |some a=>
  obtain⟨ab,ao,asp⟩:=a
  go_wp2_with (at_builtin;refine Lib.wpList_append_run _ rfl _ _ _ _ rfl _ _ rfl rfl _ _ (cw _) ?_)
  all_goals (go_ret;exact⟨rfl,rfl⟩)
open Go Go.Proofs
theorem Xn:P9 Tryd.prog 74 34 3 1 8 (.int .i64 0):=
 ⟨by kernel_rfl,by kernel_rfl,by kernel_rfl,by decide,oa _ (by decide),iv Tryd.func74 (by rfl) (by kernel_rfl),
   by simpa only[Nat.mul_one]using @Xk,by simpa only[Nat.mul_one]using @Xm,Xl⟩
noncomputable def S103:Spec:=rq Tryd.prog 34
theorem WZ:ak Tryd.prog 74 S103:=Xe Xn
theorem O9{p q:Prop}{d:D}{o:Name->Option O}(h:p=q):(⟨p,d,o⟩:R)=⟨q,d,o⟩:=by rw[h]
theorem Xf{obj:Name->Option O}{nm t:Name}{l:List Int}{x:Int}(h:obj nm=some (.arr 1 (l.map vInt)))(hl:l.length<=1000):
 S103.app obj t [.msl nm l.length,.v (vInt (bz l x)),.v (.sl [vInt x])]=⟨True,.msl nm (l.length+1),upd obj nm (some (.arr 1 ((bX l x).map vInt)))⟩:=by
 have rU:=yF l x
 have hm:l.length+1<=maxLen:=by unfold maxLen;omega
 have mu:cm Tryd.prog obj t 34 34 (.msl nm l.length) (.v (.sl [vInt x]))=⟨True,.msl nm (l.length+1),upd obj nm (some (.arr 1 (l.map vInt++[vInt x])))⟩:=by
  simp only[cm,QX,QN,aw,h]
  have dP:∀ y∈[vInt x],y.cells.length=1/\y.okc=true:=by
   intro y hy
   simp only[List.mem_cons,List.not_mem_nil,or_false]at hy
   subst hy
   exact⟨rfl,rfl⟩
  simp only[List.length_map,List.length_cons,List.length_nil,Nat.zero_add]
  congr 1
  simp only[eq_iff_iff,iff_true]
  refine⟨trivial,?_⟩
  repeat' apply And.intro
  all_goals first | trivial | exact dP | rfl | omega
 show nN Tryd.prog obj t 34 (.msl nm l.length) (.v (vInt (bz l x))) (.v (.sl [vInt x]))=_
 unfold nN
 simp only[h,mu,Int.toNat_natCast,List.length_map]
 cases hb:Nat.beq (bz l x) l.length with
 |true=>
  have he:bz l x=l.length:=Nat.eq_of_beq_eq_true hb
  simp only
  have hi:(bX l x).map vInt=l.map vInt++[vInt x]:=by
   unfold bX
   rw[he,List.take_length,List.drop_length,List.append_nil,List.map_append];rfl
  rw[hi]
  exact O9 (eq_true ⟨trivial,Int.natCast_nonneg _,by simp⟩)
 |false=>
  have he:bz l x≠l.length:=fun e=>by rw[e,Nat.beq_refl]at hb;cases hb
  simp only
  have hi:(bX l x).map vInt=(l.map vInt).take (bz l x)++[vInt x]++(l.map vInt).drop (bz l x):=by
   unfold bX
   rw[List.map_append,List.map_append,List.map_take,List.map_drop];rfl
  rw[hi]
  exact O9 (eq_true ⟨trivial,Int.natCast_nonneg _,by omega,by simp⟩)
def jt(l:List Int)(x:Int):List Int:=if bp l x=true then l else bX l x
theorem BO{l:List Int}{x:Int}(h:bp l x=true):jt l x=l:=if_pos h
theorem BP{l:List Int}{x:Int}(h:bp l x=false):jt l x=bX l x:=if_neg (by rw[h];decide)
noncomputable def putC:CSpec where
 pre:=fun os ds=>∃ (l:List Int) (x:Int),os=[.arr 1 (l.map vInt)]/\ds=[.msl [0,1] l.length,.v (vInt x)]/\l.Pairwise (· < ·)/\l.length<=1000
 out:=fun os ds=>match os,ds with
  |[.arr _ L],[_,.v x]=>⟨[(0,.arr 1 ((jt (L.map dh) (dh x)).map vInt))],[],.tup [.msl [0,1] (jt (L.map dh) (dh x)).length,.v (.bool (!bp (L.map dh) (dh x)))]⟩
  |_,_=>⟨[],[],.any⟩
noncomputable def qP(obj:Name->Option O)(_:Name):List D->R
 |[.msl nm k,.v x]=>match obj nm with
  |some (.arr 1 L)=>⟨k=L.length/\(L.map dh).map vInt=L/\vInt (dh x)=x/\(L.map dh).Pairwise (· < ·)/\L.length<=1000,.tup [.msl nm (jt (L.map dh) (dh x)).length,.v (.bool (!bp (L.map dh) (dh x)))],upd obj nm (some (.arr 1 ((jt (L.map dh) (dh x)).map vInt)))⟩
  |_=>.bad obj
 |_=>.bad obj
noncomputable def S67:Spec:=⟨qP,qj,qj⟩
attribute [go_sem] S67 qP
theorem Tt:S67.Near:=by
 refine Cl fun obj obj2 t ds ha=>⟨rfl,?_⟩
 have dO:∀ wr,bu wr obj obj2->bB (R.bad obj) (R.bad obj2) obj obj2 wr:=fun wr h=>.none wr h
 unfold qP
 split
 ·rename_i nm k x
  have h1:obj2 nm=obj nm:=ha nm (by simp[qj])
  simp only[h1]
  split
  ·exact .one (by simp[qj]) ha
  ·exact dO _ ha
 ·exact dO _ ha
noncomputable def Pp:List (Nat×Spec):=[(42,S52),(74,S103)]
attribute [go_sem] Pp
theorem ack:∀ f s,tbl Pp f=some s->ak Tryd.prog f s:=tc KM<|tc WZ<|tn
set_option maxHeartbeats 4000000 in
theorem WB:ak Tryd.prog 51 putC.toSpec:=by
 refine mF (nt:=21) (rs:=[.tmp 4,.tmp 5]) Tryd.func51 rfl (by rfl) (by kernel_rfl) (iv Tryd.func51 rfl (by kernel_rfl)) (oa _ (by decide)) ?_
 rintro os ds ⟨l,x,rfl,rfl,hs,hl⟩
 refine⟨lb rfl,iR ?_⟩
 have fF:putC.out [.arr 1 (l.map vInt)] [.msl [0,1] l.length,.v (vInt x)]=⟨[(0,.arr 1 ((jt l x).map vInt))],[],.tup [.msl [0,1] (jt l x).length,.v (.bool (!bp l x))]⟩:=by
  simp only[putC,NA,dh]
 rw[fF]
 have hΓ:=ack
 obtain⟨H,hH,h0,hO,gE⟩:=TL 1 (l.map vInt)
 rw[<-hH]
 clear hH fF
 have ER:∀ (F:Name->Option O) (t:Name),S103.app (fun nm=>if own [0] nm=true then F nm else H nm) t [.msl [0,1] l.length,.v (vInt (bz l x)),.v (.sl [vInt x])]=⟨True,.msl [0,1] (l.length+1),upd (fun nm=>if own [0] nm=true then F nm else H nm) [0,1] (some (.arr 1 ((bX l x).map vInt)))⟩:=fun F t=>Xf (by rw[<-h0];rfl) hl
 have wo:=Xh l x
 simp only[fc,Nat.zero_add]
 repeat refine sq ?_
 refine rx hΓ [0,1] [] (fun K' hK=>by simp only[go_sem,hO,gE,h0];(repeat (refine⟨ai,?_⟩));exact hK _ (by simp only[go_sem,hO,gE,h0]) (by simp only[go_sem,hO,gE,h0]<;>rfl)) ?_
 repeat refine sq ?_
 refine rx hΓ [0,1,6,7] [] (fun K' hK=>by simp only[go_sem,hO,gE,h0,hs,List.length_map];(repeat (refine⟨ai,?_⟩));exact hK _ (by simp only[go_sem,hO,gE,h0,hs,List.length_map]) (by simp only[go_sem,hO,gE,h0,hs,List.length_map]<;>rfl)) ?_
 repeat refine sq ?_
 refine rx hΓ [0,1,6,14] [] (fun K' hK=>by simp only[go_sem,hO,gE,h0];(repeat (refine⟨ai,?_⟩));exact hK _ (by simp only[go_sem,hO,gE,h0]) (by simp only[go_sem,hO,gE,h0]<;>rfl)) ?_
 repeat refine sq ?_
 refine aD rfl rfl (fun hb=>?_) (fun hb=>?_)
 ·repeat refine sq ?_
  have hr:=BO hb
  rw[hr,hb]
  repeat refine sq ?_
  refine rx hΓ [4,5] [] (fun K' hK=>by simp only[go_sem,hO,gE,h0];(repeat (refine⟨ai,?_⟩));exact hK _ (by simp only[go_sem,hO,gE,h0]) (by simp only[go_sem,hO,gE,h0]<;>rfl)) ?_
  refine ax ?_
  simp only[go_sem,hO,gE,h0]
  skip
 ·repeat refine sq ?_
  have hr:=BP hb
  rw[hr,hb,wo]
  refine aI ?_
  repeat refine sq ?_
  refine rx hΓ [4,5] [] (fun K' hK=>by simp only[go_sem,hO,gE,h0,ER];(repeat (refine⟨ai,?_⟩));exact hK _ (by simp only[go_sem,hO,gE,h0,ER]) (by simp only[go_sem,hO,gE,h0,ER]<;>rfl)) ?_
  refine ax ?_
  simp only[go_sem,hO,gE,h0]
  skip
theorem WC:ak Tryd.prog 51 S67:=by
 refine Bl WB Tt (oa _ (by decide)) fun obj t ds aa=>?_
 change (qP obj t ds).ok at aa
 refine⟨ds,rfl,fun _ _ _ _ h=>h,?_⟩
 show _/\_=(qP obj t ds).d/\_=(qP obj t ds).obj
 unfold qP at aa |-
 split at aa
 ·rename_i nm k x
  split at aa
  ·rename_i L ho
   obtain⟨rfl,he,hx,hs,hl⟩:=aa
   have hr:reach obj [.msl nm L.length,.v x]=[nm]:=by
    unfold reach
    show dA obj (2998+1+1) [nm] []=[nm]
    simp only[dA,b8,List.any_nil,Bool.false_eq_true,if_false,ho,l9,List.nil_append]
   have i0:idx [nm] nm=0:=by simp[idx]
   have e1:cg obj [.msl nm L.length,.v x]=[.arr 1 L]:=by
    unfold cg
    rw[hr]
    simp only[List.map_cons,List.map_nil,bZ,ho,O.ren]
   have e2:cH obj [.msl nm L.length,.v x]=[.msl [0,1] L.length,.v x]:=by
    unfold cH
    rw[hr]
    simp only[D.renL,D.ren,cin,i0]
   have e3:(shut obj [nm]&&D.closL (b8 [nm]) [.msl nm L.length,.v x]&&fresh obj t [])=true:=by
    simp[shut,ho,O.clos,D.closL,D.clos,b8,fresh]
   have cG:putC.pre [.arr 1 L] [.msl [0,1] L.length,.v x]:=⟨L.map dh,dh x,by rw[he],by rw[List.length_map,hx],hs,by rw[List.length_map];exact hl⟩
   have fF:putC.out [.arr 1 L] [.msl [0,1] L.length,.v x]=⟨[(0,.arr 1 ((jt (L.map dh) (dh x)).map vInt))],[],.tup [.msl [0,1] (jt (L.map dh) (dh x)).length,.v (.bool (!bp (L.map dh) (dh x)))]⟩:=rfl
   have c0:cout [nm] t [0,1]=nm:=rfl
   simp only[CSpec.toSpec,e1,e2,hr,fF,e3,cG,ho,and_self,cY]
   refine⟨trivial,?_,rfl⟩
   simp only[D.ren,D.renL,c0]
  ·exact aa.elim
 ·exact aa.elim
open Go
def Lp.J(r:Lp)(s:Nat):List O:=(if s=r.n then r.fin (LI r.m)else r.rc (LI r.m) .ready none)::r.fam (LI r.m) s
theorem Lp.last_e{r:Lp}(bF:∀ j,j+1<r.n->r.st j=none):r.e=r.n/\(r.n=0->r.pd=none)/\∀ j,j+1=r.n->r.pd=r.st j:=by
 have key:∀ k,r.n=k+1->(List.range r.n).find? (fun s=>(r.st s).isSome)=if (r.st k).isSome=true then some k else none:=by
  intro k hk
  have h0:(List.range k).find? (fun s=>(r.st s).isSome)=none:=List.find?_eq_none.2 fun s hs=>by
   rw[bF s (by have:=List.mem_range.1 hs;omega)];decide
  rw[hk,List.range_succ,List.find?_append,h0,Option.none_or]
  by_cases h:(r.st k).isSome=true
  ·rw[if_pos h];simp[List.find?,h]
  ·rw[if_neg h];simp[List.find?,h]
 cases hn:r.n with
 |zero=>
  have h0:(List.range r.n).find? (fun s=>(r.st s).isSome)=none:=by rw[hn];rfl
  refine⟨?_,fun _=>?_,fun j hj=>by omega⟩
  ·unfold Lp.e;rw[h0];exact hn
  ·unfold Lp.pd;rw[h0]
 |succ k=>
  have h0:=key k hn
  by_cases h:(r.st k).isSome=true
  ·rw[if_pos h]at h0
   refine⟨?_,fun h=>by omega,fun j hj=>?_⟩
   ·unfold Lp.e;rw[h0]
   ·obtain rfl:j=k:=by omega
    unfold Lp.pd;rw[h0]
  ·rw[if_neg h]at h0
   refine⟨?_,fun h=>by omega,fun j hj=>?_⟩
   ·unfold Lp.e;rw[h0];exact hn
   ·obtain rfl:j=k:=by omega
    unfold Lp.pd;rw[h0]
    cases hs:r.st j with
    |none=>rfl
    |some c=>rw[hs]at h;exact absurd rfl h
theorem Lp.J_zero{r:Lp}(bF:∀ j,j+1<r.n->r.st j=none):r.J 0=r.rc (LI r.m) .ready none::r.fam (LI r.m) 0:=by
 unfold Lp.J
 by_cases h:0=r.n
 ·rw[if_pos h]
  unfold Lp.fin
  rw[(Lp.last_e bF).2.1 h.symm]
  rfl
 ·rw[if_neg h]
theorem Lp.J_len{r:Lp}(hr:r.Ok)(s:Nat):(r.J s).length=r.m+1:=by unfold Lp.J;rw[List.length_cons,hr.len _ _ (dm _)]
theorem Lp.J_clos{r:Lp}(hr:r.Ok)(s:Nat):∀ o∈r.J s,∀ dom:Name->Bool,(∀ i,dom [i,1]=true)->O.clos dom o=true:=by
 intro o ho dom hd
 have fa:∀ x∈LI r.m,dom x=true:=fun x hx=>by
  obtain⟨i,_,rfl⟩:=List.mem_map.1 hx
  exact hd _
 rcases List.mem_cons.1 ho with rfl | ho
 ·split
  ·exact hr.closE _ _ (dm _) fa
  ·exact hr.closE _ _ (dm _) fa
 ·exact hr.closF _ _ _ (dm _) fa _ ho
theorem Lp.y_setJ{r:Lp}(hr:r.Ok)(bF:∀ j,j+1<r.n->r.st j=none){s:Nat}(hs:s<r.n)(obj:Name->Option O)(tm:Name)(ho:∀ nm,cE nm=true->obj nm=aS (r.J s) nm):
 r.y.toSpec.app obj tm (.yld [0,1]::r.vals s)=⟨True,.v (.bool (r.st s).isNone),iA obj (r.J (s+1))⟩:=by
 have nD:(LI r.m).Nodup:=List.Pairwise.map _ (fun a b h=>by simpa using h) List.nodup_range
 have mw:([0,1]:Name)∉LI r.m:=fun h=>by
  obtain⟨i,_,hi⟩:=List.mem_map.1 h
  simp at hi
 have Zy:r.J s=r.rc (LI r.m) .ready none::r.fam (LI r.m) s:=by unfold Lp.J;rw[if_neg (by omega)]
 rw[Zy]at ho
 have h0:obj [0,1]=some (r.rc (LI r.m) .ready none):=by
  rw[ho _ rfl];rfl
 have hF:cS obj (LI r.m) (r.fam (LI r.m) s):=by
  rw[jw]
  refine List.ext_getElem (by rw[List.length_map,List.length_map,dm,hr.len _ _ (dm _)]) fun i h3 h4=>?_
  simp only[List.getElem_map,LI,List.getElem_range]
  rw[ho _ rfl]
  simp only[aS,List.getElem?_cons_succ]
  have h5:i<(r.fam (LI r.m) s).length:=by simpa using h4
  rw[List.getElem?_eq_getElem h5]
  rfl
 have mu:=Lp.y_app hr hs (fun j hj=>bF j (by omega)) (t:=tm) (dm _) nD mw h0 hF
 rw[mu]
 have cZ:r.rc (LI r.m) (if (r.st s).isNone then .ready else .done) (r.st s)=(if s+1=r.n then r.fin (LI r.m)else r.rc (LI r.m) .ready none):=by
  by_cases h:s+1=r.n
  ·rw[if_pos h]
   unfold Lp.fin
   rw[(Lp.last_e bF).2.2 s h]
  ·rw[if_neg h,bF s (by omega)]
   rfl
 rw[cZ]
 congr 1
 funext nm
 have hlen:=hr.len (LI r.m) (s+1) (dm _)
 by_cases hR:nm=[0,1]
 ·subst hR
  rw[aC]
  rfl
 ·rw[aH _ _ _ hR]
  unfold iA
  cases hx:cE nm with
  |false=>
   rw[vA hx,pt]
   intro e8
   obtain⟨i,_,rfl⟩:=List.mem_map.1 e8
   cases hx
  |true=>
   obtain⟨i,rfl⟩:=tN.1 hx
   have dP:=Bv (obj:=obj) (F:=r.fam (LI r.m) (s+1)) nD (by rw[dm,hlen])
   match i,hR with
   | 0,hR=>exact(hR rfl).elim
   |i+1,_=>
    simp only[Lp.J,aS,List.getElem?_cons_succ]
    by_cases hi:i<r.m
    ·have h6:=yt dP i (by rw[dm];exact hi) (by rw[hlen];exact hi)
     simp only[LI,List.getElem_map,List.getElem_range]at h6
     rw[show (r.fam (LI r.m) (s+1))[i]?=some (r.fam (LI r.m) (s+1))[i]from List.getElem?_eq_getElem (by rw[hlen];exact hi)]
     exact h6
    ·rw[List.getElem?_eq_none (by rw[hlen];omega),pt]
     intro e8
     obtain⟨j,oF,D4⟩:=List.mem_map.1 e8
     have :=List.mem_range.1 oF
     simp at D4
     omega
theorem Lp.itJ_sound{P:Program}{r:Lp}(hr:r.Ok)(bF:∀ j,j+1<r.n->r.st j=none){caps:List Name->List D}{f:FuncId}{fn:Func}{nt:Nat}(hf:P.funcs[f]?=some fn)(eA:fn.ntmps=nt)(eP:fn.results.toList=[])(hn:(fn.name== "runtime.NumGoroutine")=false)(hy:f<1000000000)
 (hw:∃ c,fn.body=some c/\(caps (LI r.m)).length+1<=nt/\CL P [c] (aO nt [0] (aS (r.J 0)) (fc 0 (.yld [0,1]::caps (LI r.m))) []) (fun e σ=>(e=.normal\/e=.ret)/\∀ i,σ.obj [i,1]=aS (r.J r.n) [i,1])):ak P f (r.itC caps).toSpec:=by
 obtain⟨c,hc,hl,hw⟩:=hw
 refine mF hf hc eA eP (iv hf hc hn) (Nat.ne_of_lt (show f<yid from hy)) ?_
 rintro os ds ⟨rfl,rfl⟩
 rw[Lp.J_zero bF]at hw
 refine⟨by simpa using hl,CW.mono (iR hw) ?_⟩
 rintro e σ ⟨he,dN⟩
 have fin:(bS P σ []).ok/\(bS P σ []).d=.tup []/\gG (r.rc (LI r.m) .ready none::r.fam (LI r.m) 0) ⟨(0,r.fin (LI r.m))::eD 1 (r.fam (LI r.m) r.e),[],.tup []⟩ σ:=by
  refine Lp.it_end hr ?_ ?_
  ·rw[dN]
   unfold Lp.J
   rw[if_pos rfl]
   rfl
  ·rw[(Lp.last_e bF).1,jw]
   refine List.ext_getElem (by rw[List.length_map,List.length_map,dm,hr.len _ _ (dm _)]) fun i h3 h4=>?_
   simp only[List.getElem_map,LI,List.getElem_range]
   rw[dN]
   simp only[Lp.J,aS,List.getElem?_cons_succ]
   have h5:i<(r.fam (LI r.m) r.n).length:=by simpa using h4
   rw[List.getElem?_eq_getElem h5]
   rfl
 rcases he with rfl | rfl
 ·exact fin
 ·exact fin
def bk(e:Dk)(hn:Name)(n:Nat):List D:=(List.map D.v (an e)).set 1 (.msl hn n)
@[go_sem] theorem abu(e:Dk)(hn:Name)(n:Nat):(bk e hn n).length=63:=ni _ _ _
@[go_sem] theorem xf(dom:Name->Bool)(e:Dk)(hn:Name)(n:Nat):D.closL dom (bk e hn n)=dom hn:=by
  have :=NZ dom (an e) 1 hn n
  rw[show decide ((an e).length<=1)=false from rfl,Bool.or_false]at this
  exact this
@[go_sem] theorem Oq(f:Name->Name)(e:Dk)(hn:Name)(n:Nat):D.renL f (bk e hn n)=bk e (f hn) n:=BG _ _ _ _ _
@[go_sem] theorem ahJ(e:Dk)(hn:Name)(n:Nat):(bk e hn n).take 63=bk e hn n:=Nt _ _ _
@[go_sem] theorem ahI(e:Dk)(hn:Name)(n:Nat):(bk e hn n).drop 63=[]:=List.drop_of_length_le (by rw[abu];exact Nat.le_refl _)
theorem sD(e:Dk)(hn:Name)(n:Nat){f:Nat}(hf:f<6):(bk e hn n).getD (14+f) .any=.v (vInt (e.now.ta.get f)):=
 ia (P:=fun f=>(bk e hn n).getD (14+f) .any=.v (vInt (e.now.ta.get f))) rfl rfl rfl rfl rfl rfl hf
@[go_sem] theorem ahG(e:Dk)(hn:Name)(n:Nat):(bk e hn n).getD 1 .any=.msl hn n:=rfl
@[go_sem] theorem ahE(e:Dk)(hn oC:Name)(n n':Nat):List.take 1 (bk e hn n)++[D.msl oC n']++List.drop 2 (bk e hn n)=bk e oC n':=rfl
theorem abt(e:Dk)(hn:Name)(n:Nat)(x:Int){f:Nat}(hf:f<6):List.take (14+f) (bk e hn n)++[D.v (vInt x)]++List.drop (14+f+1) (bk e hn n)=bk (e.setN ⟨e.now.ho,e.now.un,e.now.se,e.now.ta.set f x⟩) hn n:=
 ia (P:=fun f=>List.take (14+f) (bk e hn n)++[D.v (vInt x)]++List.drop (14+f+1) (bk e hn n)=bk (e.setN ⟨e.now.ho,e.now.un,e.now.se,e.now.ta.set f x⟩) hn n) rfl rfl rfl rfl rfl rfl hf
theorem ahF(e:Dk)(l:List Int)(hn:Name)(n:Nat):bk e hn n=bk (e.setN ⟨l,e.now.un,e.now.se,e.now.ta⟩) hn n:=rfl
theorem abv(e:Dk)(hn:Name)(n:Nat):(bk e hn n)[1]?=some (.msl hn n):=rfl
theorem ahH(e:Dk)(hn:Name)(n:Nat):(bk e hn n).set 1 (.v (gx e.now.ho))=List.map D.v (an e):=rfl
theorem abr(e:Dk)(hn nm:Name)(n k:Nat)(se:Int)(ps:List Par){f:Nat}(hf:f<6)(gi:se=e.now.se.get f):List.take (2+f) (bM e f (.msl hn n) nm k se)++[D.v (.sl (ps.map encPa))]++List.drop (2+f+1) (bM e f (.msl hn n) nm k se)=bk (e.setN ⟨e.now.ho,e.now.un.set f ps,e.now.se,e.now.ta⟩) hn n:=by
 subst gi
 rw[s4 (by rw[mJ];omega),<-abk e f (.v (gx e.now.ho)) (.msl hn n) nm k (e.now.se.get f),List.set_comm _ _ (show 1≠2+f by omega),F0 e _ _ _ _ _ hf,aR.set_self _ _ hf]
 rfl
set_option maxRecDepth 10000 in
theorem yC(e:Dk)(hn:Name)(n:Nat):cJ (bk e hn n)=[hn]:=rfl
def mA(x:V)(p:D):List (Name×O):=[([2,0],.box (x.L.map .v)),([3,0],.box [p])]
noncomputable def wS:CSpec where
 pre:=fun os ds=>∃ (b:Bag) (e:Dk) (n off:Nat) (l:List V),os=[.box (bk e [1,1] n),.arr 1 l]/\ds=[.v (.agg (aX b)),.ref [0,1] off]
 out:=fun _ ds=>match ds with
  |[.v x,p]=>⟨[],mA x p,.clo (.func 73) [] [.ref [2,0] 0,.ref [3,0] 0]⟩
  |_=>⟨[],[],.any⟩
noncomputable def S66:Spec:=wS.toSpec
theorem Z7{b:Bag}{e:Dk}{n off:Nat}{l:List V}{obj:Name->Option O}{t nm h:Name}(h1:obj nm=some (.box (bk e h n)))(h2:obj h=some (.arr 1 l))(hn:nm≠h):
 S66.app obj t [.v (.agg (aX b)),.ref nm off]=⟨fresh obj t (mA (.agg (aX b)) (.ref nm off))=true,.clo (.func 73) [] [.ref ([2,0]++t) 0,.ref ([3,0]++t) 0],upd (upd obj ([2,0]++t) (some (.box ((aX b).map .v)))) ([3,0]++t) (some (.box [.ref nm off]))⟩:=by
 have hr:reach obj [.v (.agg (aX b)),.ref nm off]=[nm,h]:=by
  unfold reach
  show dA obj (2996+1+1+1+1) [nm] []=[nm,h]
  simp[dA,gQ,h1,h2,l9,yC,Ne.symm hn]
 have i0:idx [nm,h] nm=0:=by simp[idx]
 have i1:idx [nm,h] h=1:=by simp[idx,hn]
 have e1:cg obj [.v (.agg (aX b)),.ref nm off]=[.box (bk e [1,1] n),.arr 1 l]:=by
  unfold cg
  rw[hr]
  simp only[List.map_cons,List.map_nil,bZ,h1,h2,O.ren,Oq,cin,i1]
 have e2:cH obj [.v (.agg (aX b)),.ref nm off]=[.v (.agg (aX b)),.ref [0,1] off]:=by
  unfold cH
  rw[hr]
  simp only[D.renL,D.ren,cin,i0]
 have fO:shut obj [nm,h]=true:=by simp[shut,h1,h2,O.clos,xf,b8]
 have bO:D.closL (b8 [nm,h]) [.v (.agg (aX b)),.ref nm off]=true:=by simp[D.closL,D.clos,b8]
 have hp:wS.pre [.box (bk e [1,1] n),.arr 1 l] [.v (.agg (aX b)),.ref [0,1] off]:=⟨b,e,n,off,l,rfl,rfl⟩
 have fF:wS.out [.box (bk e [1,1] n),.arr 1 l] [.v (.agg (aX b)),.ref [0,1] off]=⟨[],mA (.agg (aX b)) (.ref [0,1] off),.clo (.func 73) [] [.ref [2,0] 0,.ref [3,0] 0]⟩:=rfl
 have c1:cout [nm,h] t [2,0]=[2,0]++t:=rfl
 have c2:cout [nm,h] t [3,0]=[3,0]++t:=rfl
 have c3:cout [nm,h] t [0,1]=nm:=rfl
 have cA:fresh obj t (mA (.agg (aX b)) (.ref [0,1] off))=fresh obj t (mA (.agg (aX b)) (.ref nm off)):=rfl
 simp only[S66,CSpec.toSpec,e1,e2,hr,fO,bO,Bool.true_and,hp,and_true,fF,b7,cA]
 simp only[D.ren,D.renL,c1,c2,mA,cY,O.ren,V.L,s9,c3]
attribute [go_sem] mA V.L
set_option maxHeartbeats 4000000 in
theorem WD:ak Tryd.prog 50 S66:=by
 refine mF (nt:=6) (rs:=[.tmp 4]) Tryd.func50 rfl (by rfl) (by kernel_rfl) (iv Tryd.func50 rfl (by kernel_rfl)) (oa _ (by decide)) ?_
 rintro os ds ⟨b,e,n,off,l,rfl,rfl⟩
 refine⟨lb rfl,iR ?_⟩
 have fF:wS.out [.box (bk e [1,1] n),.arr 1 l] [.v (.agg (aX b)),.ref [0,1] off]=⟨[],mA (.agg (aX b)) (.ref [0,1] off),.clo (.func 73) [] [.ref [2,0] 0,.ref [3,0] 0]⟩:=rfl
 rw[fF]
 have hΓ:=@kE Tryd.prog
 have hO:∀ hs,bW [0] (bP [0] hs) (aS [.box (bk e [1,1] n),.arr 1 l])=True:=fun hs=>eq_true (vB (by
  intro o ho dom hd
  simp only[List.mem_cons,List.not_mem_nil,or_false]at ho
  rcases ho with rfl | rfl
  ·simp only[O.clos,xf];exact hd 1
  ·rfl) hs)
 have h0:aS [.box (bk e [1,1] n),.arr 1 l] [0,1]=some (.box (bk e [1,1] n)):=rfl
 have h1:aS [.box (bk e [1,1] n),.arr 1 l] [1,1]=some (.arr 1 l):=rfl
 generalize aS [.box (bk e [1,1] n),.arr 1 l]=H at *
 simp only[fc,Nat.zero_add]
 repeat refine sq ?_
 refine rx hΓ [2,3] [[2,0],[3,0]] (fun K' hK=>by simp only[go_sem,hO,h0,h1];(repeat (refine⟨ai,?_⟩));exact hK _ (by simp only[go_sem,hO,h0,h1]) (by simp only[go_sem,hO,h0,h1]<;>rfl)) ?_
 repeat refine sq ?_
 refine rx hΓ [4] [[2,0],[3,0]] (fun K' hK=>by simp only[go_sem,hO,h0,h1];(repeat (refine⟨ai,?_⟩));exact hK _ (by simp only[go_sem,hO,h0,h1]) (by simp only[go_sem,hO,h0,h1]<;>rfl)) ?_
 refine ax ?_
 simp only[go_sem,hO,h0,h1]
 skip
abbrev oT (d:Dk) (b:Bag) (z:Nat):Stk:=bC b.fr.toNat b.ps (bG d b) z
abbrev oE (d:Dk) (b:Bag) (z:Nat):Int:=dr b.fr.toNat b.ps (bG d b) z
structure lS (d:Dk) (b:Bag) (k0 m n:Nat) (er:Int):Prop where
 hk:k0+m<=b.ps.length
 hn:(er=0/\n=m/\k0+m=b.ps.length)\/(er≠0/\n=m+1/\k0+m<b.ps.length)
 pre:∀ i (h:i<b.ps.length),i<k0->dH b.fr.toNat (bG d b) b.ps[i]=false
 T0:∀ i,i<=k0->oT d b i=bG d b
 good:∀ j,j<m->∀ h:k0+j<b.ps.length,dH b.fr.toNat (oT d b (k0+j)) b.ps[k0+j]=true/\eu b.fr.toNat (oT d b (k0+j)) b.ps[k0+j]=0
 bad:er≠0->∀ h:k0+m<b.ps.length,dH b.fr.toNat (oT d b (k0+m)) b.ps[k0+m]=true/\eu b.fr.toNat (oT d b (k0+m)) b.ps[k0+m]=er
 er0:∀ z,z<=k0+m->oE d b z=0
theorem yf{l:List Par}(h:cj l=true):∀ i (hi:i<l.length),l[i].no=(l.getD 0 default).no+i:=by
 unfold cj at h
 rw[Bool.and_eq_true,iS]at h
 intro i hi
 induction i with
 |zero=>rw[getD_at hi];simp
 |succ i ih=>
  have :=h.1 (i+1) hi
  unfold fY at this
  simp only[Bool.and_eq_true,Bool.or_eq_true,beq_iff_eq,Nat.add_sub_cancel]at this
  rw[getD_at (show i<l.length by omega),getD_at hi]at this
  have h2:=ih (by omega)
  rcases this.2 with h3 | h3
  ·omega
  ·omega
theorem TT{d:Dk}{b:Bag}(hb:fx b=true):∃ k0 m n er,lS d b k0 m n er:=by
 obtain⟨_,_,hf,_,_,_,_⟩:=qp hb
 have lq:cj b.ps=true:=by unfold fx at hb;simp only[Bool.and_eq_true]at hb;exact hb.1.2
 have dO:=yf lq
 obtain⟨f,zF⟩:∃ f,f=b.fr.toNat:=⟨_,rfl⟩
 obtain⟨k0,D1⟩:∃ k0,k0=b.ps.findIdx (fun p=>dH b.fr.toNat (bG d b) p):=⟨_,rfl⟩
 have rY:k0<=b.ps.length:=by rw[D1];exact List.findIdx_le_length
 have cG:∀ i (h:i<b.ps.length),i<k0->dH b.fr.toNat (bG d b) b.ps[i]=false:=fun i h hi=>by
  have :=List.not_of_lt_findIdx (p:=fun p=>dH b.fr.toNat (bG d b) p) (xs:=b.ps) (by rw[<-D1];exact hi)
  simpa using this
 have jE:∀ h:k0<b.ps.length,dH b.fr.toNat (bG d b) b.ps[k0]=true:=fun h=>by
  subst D1
  exact List.findIdx_getElem (w:=h)
 have EC:∀ i,i<=k0->oT d b i=bG d b:=by
  intro i hi
  induction i with
  |zero=>rfl
  |succ i ih=>
   have h1:=ih (by omega)
   have h2:=Rm b.fr.toNat b.ps (bG d b) (i:=i) (by omega) (by rw[show bC b.fr.toNat b.ps (bG d b) i=bG d b from h1];exact cG i (by omega) (by omega))
   exact h2.trans h1
 have Mt:∀ i,i<=k0->oE d b i=0:=by
  intro i hi
  induction i with
  |zero=>rfl
  |succ i ih=>
   refine M' (by omega) (ih (by omega)) (IA _ _ _ ?_)
   have h1:=EC i (by omega)
   rw[show bC b.fr.toNat b.ps (bG d b) i=bG d b from h1]
   exact cG i (by omega) (by omega)
 have oI:∀ j,k0+j<=b.ps.length->(∀ i,i<j->∀ h:k0+i<b.ps.length,eu b.fr.toNat (oT d b (k0+i)) b.ps[k0+i]=0)->
     (oT d b (k0+j)).ta.get b.fr.toNat=(bG d b).ta.get b.fr.toNat+j/\oE d b (k0+j)=0/\∀ h:k0+j<b.ps.length,dH b.fr.toNat (oT d b (k0+j)) b.ps[k0+j]=true:=by
  intro j
  have zu:∀ j,(oT d b (k0+j)).ta.get b.fr.toNat=(bG d b).ta.get b.fr.toNat+j->∀ h:k0+j<b.ps.length,dH b.fr.toNat (oT d b (k0+j)) b.ps[k0+j]=true:=by
   intro j ht h
   have h1:=jE (by omega)
   unfold dH at h1 |-
   rw[beq_iff_eq]at h1 |-
   rw[ht]
   have h2:=dO k0 (by omega)
   have h3:=dO (k0+j) h
   omega
  induction j with
  |zero=>
   intro _ _
   have h1:oT d b (k0+0)=bG d b:=EC k0 (Nat.le_refl _)
   refine⟨by rw[h1];simp,Mt k0 (Nat.le_refl _),zu 0 (by rw[h1];simp)⟩
  |succ j ih=>
   intro hj hg
   obtain⟨h1,h2,h3⟩:=ih (by omega) (fun i hi h=>hg i (by omega) h)
   have ae:k0+j<b.ps.length:=by omega
   have h4:=G' b.fr.toNat b.ps (bG d b) ae (h3 ae)
   have h5:(oT d b (k0+(j+1))).ta.get b.fr.toNat=(bG d b).ta.get b.fr.toNat+((j+1:Nat):Int):=by
    have h6:oT d b (k0+(j+1))=_:=h4
    rw[h6]
    show ((oT d b (k0+j)).ta.set b.fr.toNat ((oT d b (k0+j)).ta.get b.fr.toNat+1)).get b.fr.toNat=_
    rw[((oT d b (k0+j)).ta.get_set (i:=b.fr.toNat) (j:=b.fr.toNat) _ hf).1,h1]
    omega
   exact⟨h5,M' ae h2 (hg j (by omega) ae),zu (j+1) h5⟩
 have fin:∀ m n er,k0+m<=b.ps.length->((er=0/\n=m/\k0+m=b.ps.length)\/(er≠0/\n=m+1/\k0+m<b.ps.length))->
     (∀ i,i<m->∀ h:k0+i<b.ps.length,eu b.fr.toNat (oT d b (k0+i)) b.ps[k0+i]=0)->(er≠0->∀ h:k0+m<b.ps.length,eu b.fr.toNat (oT d b (k0+m)) b.ps[k0+m]=er)->lS d b k0 m n er:=by
  intro m n er h1 h2 h3 h4
  refine⟨h1,h2,cG,EC,fun j hj h=>⟨(oI j (by omega) (fun i hi h=>h3 i (by omega) h)).2.2 h,h3 j hj h⟩,fun he h=>⟨(oI m h1 h3).2.2 h,h4 he h⟩,fun z hz=>?_⟩
  rcases Nat.lt_or_ge z k0 with h5 | h5
  ·exact Mt z (by omega)
  ·have:=(oI (z-k0) (by omega) (fun i hi h=>h3 i (by omega) h)).2.1
   rwa [show k0+(z-k0)=z by omega]at this
 have go:∀ r j,k0+j+r=b.ps.length->(∀ i,i<j->∀ h:k0+i<b.ps.length,eu b.fr.toNat (oT d b (k0+i)) b.ps[k0+i]=0)->∃ m n er,lS d b k0 m n er:=by
  intro r
  induction r with
  |zero=>intro j hj hg;exact⟨j,j,0,fin j j 0 (by omega) (.inl ⟨rfl,rfl,by omega⟩) hg (fun h=>absurd rfl h)⟩
  |succ r ih=>
   intro j hj hg
   have ae:k0+j<b.ps.length:=by omega
   by_cases he:eu b.fr.toNat (oT d b (k0+j)) b.ps[k0+j]=0
   ·refine ih (j+1) (by omega) fun i hi h=>?_
    rcases Nat.lt_succ_iff_lt_or_eq.1 hi with h5 | h5
    ·exact hg i h5 h
    ·subst h5;exact he
   ·exact⟨j,j+1,_,fin j (j+1) _ (by omega) (.inr ⟨he,rfl,ae⟩) hg (fun _ _=>rfl)⟩
 obtain⟨m,n,er,h⟩:=go (b.ps.length-k0) 0 (by omega) (fun i hi=>by omega)
 exact⟨k0,m,n,er,h⟩
@[go_sem] theorem ahS(b:Bag):(List.map D.v (aX b)).getD 2 .any=.v (rowP b.ps):=rfl
set_option maxRecDepth 10000 in
set_option maxHeartbeats 8000000 in
theorem QH{sY:Spec}(hY:ak Tryd.prog yid sY){d:Dk}{b:Bag}{k0 m n:Nat}{er:Int}(hw:lS d b k0 m n er)(hf:b.fr.toNat<6)(b9:b.ps.length<=40)
 (tW:∀ z,z<=k0+m->0<=(oT d b z).ta.get b.fr.toNat/\(oT d b z).ta.get b.fr.toNat<=99999)
 {J:Nat->List O} (hJ:∀ s,(J s).length=(J 0).length) (hc:∀ s,∀ o∈J s,∀ dom:Name->Bool,(∀ i,dom [i,1]=true)->O.clos dom o=true)
 (hA:∀ s,aS (J s) [6,1]=some (.box ((aX b).map .v))) (hB:∀ s,aS (J s) [7,1]=some (.box [.ref [4,1] (14+b.fr.toNat)]))
 {e:Nat->Dk} {q:Nat->Nat} (sd:∀ s,aS (J s) [4,1]=some (.box (bk (e s) [5,1] (q s)))) (he:∀ s,s<=m->(e s).now.ta.get b.fr.toNat=(oT d b (k0+s)).ta.get b.fr.toNat)
 (kN:∀ s,s<n->∀ obj tm,(∀ nm,cE nm=true->obj nm=aS (J s) nm)->sY.app obj tm [.yld [0,1],.agg [.v (vInt (b.ps.getD (k0+s) default).no),.v (vInt (b.ps.getD (k0+s) default).pa)]]=⟨True,.v (.bool (decide (s<m))),iA obj (J (s+1))⟩):
 ∃ c',Tryd.f73.body=some c'/\CL Tryd.prog [c'] (aO 27 [0] (aS (J 0)) [(0,⟨true,.yld [0,1]⟩),(1,⟨true,.ref [6,1] 0⟩),(2,⟨true,.ref [7,1] 0⟩)] [])
   (fun e σ=>(e=.normal\/e=.ret)/\∀ i,σ.obj [i,1]=aS (J n) [i,1]):=by
 refine⟨_,rfl,?_⟩
 have hP:=br
 obtain⟨Γ,hΓ,iK⟩:∃ Γ:FuncId->Option Spec,(∀ f s,Γ f=some s->ak Tryd.prog f s)/\Γ 1000000000=some sY:=by
  refine⟨fun f=>if f=1000000000 then some sY else none,fun f s h=>?_,rfl⟩
  dsimp only at h
  split at h
  ·rename_i e;cases h;subst e;exact hY
  ·cases h
 have hO:∀ s hs,bW [0] (bP [0] hs) (aS (J s))=True:=fun s hs=>eq_true (vB (hc s) hs)
 have zj:∀ s,iA (aS (J s)) (J (s+1))=aS (J (s+1)):=fun s=>RC ((hJ _).trans (hJ s).symm)
 obtain⟨H,hH⟩:∃ H:Nat->Name->Option O,∀ s,aS (J s)=H s:=⟨_,fun _=>rfl⟩
 simp only[hH]at hO zj kN hA hB sd |-
 have hl:b.ps.length<=maxLen:=by unfold maxLen;omega
 have Yh:n=m\/n=m+1:=by rcases hw.hn with h | h<;>omega
 repeat refine sq ?_
 refine rx hΓ [0,2,7,8,9] [] (fun K' hK=>by simp only[go_sem,hO,hA];(repeat (refine⟨ai,?_⟩));exact hK _ (by simp only[go_sem,hO,hA]) (by simp only[go_sem,hO,hA]<;>rfl)) ?_
 repeat refine sq ?_
 refine a8 ?_
 repeat refine sq ?_
 refine FW (fun z:Nat=>aO 27 [0] (H (z-k0)) [(0,⟨true,.yld [0,1]⟩),(2,⟨true,.ref [7,1] 0⟩),(7,⟨true,.v (.sl (b.ps.map encPa))⟩),(8,⟨true,.v (vInt b.ps.length)⟩),(9,⟨true,.v (vInt z)⟩)] [])
  (fun z=>z<=b.ps.length/\z<=k0+m) (fun z=>b.ps.length-z) 0 ⟨Nat.zero_le _,Nat.zero_le _⟩ (by rw[Nat.zero_sub];exact dj.refl _) ?_
 rintro i ⟨hi,him⟩
 repeat refine sq ?_
 refine rx hΓ [0,2,7,8,9,10] [] (fun K' hK=>by simp only[go_sem,hO];(repeat (refine⟨ai,?_⟩));exact hK _ (by simp only[go_sem,hO]) (by simp only[go_sem,hO]<;>rfl)) ?_
 repeat refine sq ?_
 refine aD rfl rfl (fun hb=>?_) (fun hb=>?_)
 ·have ae:i<b.ps.length:=by simpa using hb
  have aq:(i:Int)<b.ps.length:=by omega
  have ze:IntKind.i64.wrap ((i:Int)+1)=((i+1:Nat):Int):=aM ae hl
  clear hb
  have Yj:i-k0<=m:=by omega
  have Di:=he (i-k0) Yj
  have nw:=tW (k0+(i-k0)) (by omega)
  have w1:IntKind.i64.wrap ((e (i-k0)).now.ta.get b.fr.toNat+1)=(e (i-k0)).now.ta.get b.fr.toNat+1:=by rw[Di];exact wrap_i64 (by omega) (by omega)
  repeat refine sq ?_
  refine aI ?_
  repeat refine sq ?_
  refine a8 ?_
  repeat refine sq ?_
  refine rx hΓ [0,2,5,7,8,9] [[5,0]] (fun K' hK=>by simp only[go_sem,hO,aK ae,Int.toNat_natCast,Int.natCast_nonneg,aq];(repeat (refine⟨ai,?_⟩));exact hK _ (by simp only[go_sem,hO,aK ae,Int.toNat_natCast,Int.natCast_nonneg,aq]) (by simp only[go_sem,hO,aK ae,Int.toNat_natCast,Int.natCast_nonneg,aq]<;>rfl)) ?_
  by_cases XA:i<k0
  ·have hz:i-k0=0:=by omega
   have heq:(b.ps[i].no==(e (i-k0)).now.ta.get b.fr.toNat+1)=false:=by
    have h1:=hw.pre i ae XA
    rw[Di,hz,Nat.add_zero,hw.T0 k0 (Nat.le_refl _)]
    exact h1
   have mc:i+1-k0=i-k0:=by omega
   repeat refine sq ?_
   refine dx hΓ hP [[],[0],[],[2],[2,3],[2,3,4],[0,1,2,3,4,5],[0,1,2,3,4,5,6],[0,1,2,3,4,5,6,7],[0,1,2,3,4,5,6,7],[0,1,2,3,4,5,6,7,8,9],[0,1,2,3,4,5,6,7,8,9,10],[0,1,2,3,4,5,6,7,8,9,10,11]] [0,2,7,8,9,25] [[5,0]] (by kernel_rfl) (fun K' hK=>by simp only[go_sem,hO,hB,sd,sD _ _ _ hf,w1,heq];(repeat (refine⟨ai,?_⟩));(first | refine⟨by rfl,?_⟩ | skip);exact hK _ (by simp only[go_sem,hO,hB,sd,sD _ _ _ hf,w1,heq]) (by simp only[go_sem,hO,hB,sd,sD _ _ _ hf,w1,heq]<;>rfl)) ?_
   repeat refine sq ?_
   refine aD rfl rfl (fun hb=>?_) (fun hb=>?_)
   ·cases hb
   repeat refine sq ?_
   refine aI ?_
   refine eo ?_
   simp only[go_sem]
   refine kj [0,2,7,8,9] [] ?_ ?_
   ·simp only[go_sem,hO]
   simp only[go_sem,hO]
   repeat refine sq ?_
   refine bc hΓ fun K' hK=>?_
   simp only[go_sem]
   repeat (refine⟨ai,?_⟩)
   refine hK _ ?_
   clear K' hK
   simp only[go_sem]
   refine⟨i+1,⟨ae,by omega⟩,by omega,?_⟩
   rw[mc]
   refine bJ [0,2,7,8,9] [] ?_ ?_
   ·simp only[go_sem,hO,ze]
   ·simp only[go_sem,hO,ze]
  ·have kJ:k0+(i-k0)=i:=by omega
   have pR:i-k0<n:=by
    rcases hw.hn with⟨_,h1,h2⟩ | ⟨_,h1,h2⟩<;>omega
   have zu:dH b.fr.toNat (oT d b i) b.ps[i]=true:=by
    rcases Nat.lt_or_ge (i-k0) m with h1 | h1
    ·have h2:=(hw.good (i-k0) h1 (by omega)).1
     simp only[kJ]at h2
     exact h2
    ·have h3:i=k0+m:=by omega
     rcases hw.hn with⟨_,h4,h5⟩ | ⟨h4,h5,h6⟩
     ·omega
     ·have h2:=(hw.bad h4 (by omega)).1
      simp only[<-h3]at h2
      exact h2
   have heq:(b.ps[i].no==(e (i-k0)).now.ta.get b.fr.toNat+1)=true:=by
    rw[Di,kJ]
    exact zu
   have Mk:=kN (i-k0) pR
   rw[kJ,getD_at ae]at Mk
   have Ev:=fun (F:Name->Option O) (tm:Name)=>Mk (fun nm=>if own [0] nm=true then F nm else H (i-k0) nm) tm fun nm hn=>by
    obtain⟨k,rfl⟩:=tN.1 hn
    simp[vz]
   have Dq:∀ (obj:Name->Option O) (L:List O),iA obj L [5,0]=obj [5,0]:=fun _ _=>rfl
   repeat refine sq ?_
   refine dx hΓ hP [[],[0],[],[2],[2,3],[2,3,4],[0,1,2,3,4,5],[0,1,2,3,4,5,6],[0,1,2,3,4,5,6,7],[0,1,2,3,4,5,6,7],[0,1,2,3,4,5,6,7,8,9],[0,1,2,3,4,5,6,7,8,9,10],[0,1,2,3,4,5,6,7,8,9,10,11]] [0,2,7,8,9,25] [[5,0]] (by kernel_rfl) (fun K' hK=>by simp only[go_sem,hO,hB,sd,sD _ _ _ hf,w1,heq,iK,Ev,Dq,Cq,Gt,zj];(repeat (refine⟨ai,?_⟩));(first | refine⟨by rfl,?_⟩ | skip);exact hK _ (by simp only[go_sem,hO,hB,sd,sD _ _ _ hf,w1,heq,iK,Ev,Dq,Cq,Gt,zj]) (by simp only[go_sem,hO,hB,sd,sD _ _ _ hf,w1,heq,iK,Ev,Dq,Cq,Gt,zj]<;>rfl)) ?_
   repeat refine sq ?_
   refine aD rfl rfl (fun hb=>?_) (fun hb=>?_)
   ·have h1:¬ i-k0<m:=by simpa using hb
    have h2:i-k0+1=n:=by omega
    refine ax ?_
    simp only[go_sem]
    rw[h2]
    exact⟨.inr trivial,fun k=>by simp[vz]⟩
   have h1:i-k0<m:=by simpa using hb
   have h2:i+1-k0=i-k0+1:=by omega
   repeat refine sq ?_
   refine aI ?_
   refine eo ?_
   simp only[go_sem]
   refine kj [0,2,7,8,9] [] ?_ ?_
   ·simp only[go_sem,hO]
   simp only[go_sem,hO]
   repeat refine sq ?_
   refine bc hΓ fun K' hK=>?_
   simp only[go_sem]
   repeat (refine⟨ai,?_⟩)
   refine hK _ ?_
   clear K' hK
   simp only[go_sem]
   refine⟨i+1,⟨ae,by omega⟩,by omega,?_⟩
   rw[h2]
   refine bJ [0,2,7,8,9] [] ?_ ?_
   ·simp only[go_sem,hO,ze]
   ·simp only[go_sem,hO,ze]
 ·have bo:i=b.ps.length:=by
    have :¬ (i:Int)<b.ps.length:=by simpa using hb
    omega
  have aj:i-k0=n:=by
   rcases hw.hn with⟨_,h1,h2⟩ | ⟨_,h1,h2⟩<;>omega
  clear hb
  repeat refine sq ?_
  refine di ?_
  simp only[go_sem]
  rw[aj]
  exact⟨.inl rfl,fun k=>by rw[I2];simp[vz]⟩
set_option maxRecDepth 10000
def qK:Code->Option (Array Tmp×Code×Code)
 | .seq a b=>match qK a with | some x=>some x | none=>qK b
 | .block _ b=>qK b
 | .loop b=>qK b
 | .cond _ a b=>match qK a with | some x=>some x | none=>qK b
 | .rangeFunc _ ps a b=>some (ps,a,b)
 |_=>none
def xT(fn:Func):Array Tmp×Code×Code:=((fn.body.bind qK).getD (#[],.skip,.skip))
theorem pG{Ls:List Name}(h:Ls.length=7):∃ a b c d e f g,Ls=[a,b,c,d,e,f,g]:=by
 match Ls,h with
 |[a,b,c,d,e,f,g],_=>exact⟨a,b,c,d,e,f,g,rfl⟩
def qM(p:Par):D:=.agg [.v (vInt p.no),.v (vInt p.pa)]
def dv(d:Dk)(b:Bag)(k0 m s:Nat):Stk:=oT d b (k0+min s m)
def gC(d:Dk)(b:Bag)(k0 m s:Nat):List Int:=if s<=m then(oT d b (k0+min s m)).ho else jt (oT d b (k0+m)).ho (b.ps.getD (k0+m) default).pa
def jk(m:Nat)(er:Int)(s:Nat):Int:=if s<=m then 0 else er
noncomputable def dp(d:Dk)(b:Bag)(k0 m n:Nat)(er:Int):Lp where
 m:=7
 env:=fun Ls=>(List.range 106).map (db eAny [(3,⟨true,.v (.ptr (aX b))⟩),(4,⟨true,.ref (Ls.getD 0 []) 0⟩),(5,⟨true,.ref (Ls.getD 1 []) 0⟩),(7,⟨true,.ref (Ls.getD 2 []) 0⟩),(58,⟨true,.clo (.func 73) [] [.ref (Ls.getD 5 []) 0,.ref (Ls.getD 6 []) 0]⟩)])
 fam:=fun Ls s=>[.box ((an zD).map .v),.box [.v (vInt (jk m er s))],.box [.ref (Ls.getD 3 []) 0],.box (bk (d.setN (dv d b k0 m s)) (Ls.getD 4 []) (dv d b k0 m s).ho.length),.arr 1 ((gC d b k0 m s).map vInt),.box ((aX b).map .v),.box [.ref (Ls.getD 3 []) (14+b.fr.toNat)]]
 ps:=(xT Tryd.f18).1.toList
 asg:=(xT Tryd.f18).2.1
 body:=(xT Tryd.f18).2.2
 n:=n
 vals:=fun s=>[qM (b.ps.getD (k0+s) default)]
 st:=fun j=>if j<m then none else some .ret
 fu:=200
theorem B7{d:Dk}{b:Bag}{k0 m n:Nat}{er:Int}(hw:lS d b k0 m n er):k0+n<=b.ps.length/\n<=m+1/\m<=n:=by
 rcases hw.hn with⟨_,h1,h2⟩ | ⟨_,h1,h2⟩<;>omega
theorem B9{d:Dk}{b:Bag}{k0 m n:Nat}{er:Int}(hw:lS d b k0 m n er)(hb:fx b=true):(dp d b k0 m n er).Ok where
 len:=fun Ls s _=>rfl
 renE:=fun f Ls h=>by obtain⟨a,b,c,d,e,f,g,rfl⟩:=pG h;rfl
 renF:=fun f Ls s h=>by
  obtain⟨x1,x2,x3,x4,x5,x6,x7,rfl⟩:=pG h
  simp only[dp,List.map_cons,List.map_nil,O.ren,s9,Oq,List.getD_cons_zero,List.getD_cons_succ,D.renL,D.ren]
 reach:=fun Ls s obj acc q h ie hd hF=>by
  obtain⟨a,c,e,f,g,x,y,rfl⟩:=pG h
  obtain⟨h1,h2,h3,h4,h5,h6,h7,_⟩:=hF
  simp only[List.getD_cons_zero,List.getD_cons_succ]at h1 h2 h3 h4 h5 h6 h7
  have en:cJ (((dp d b k0 m n er).env [a,c,e,f,g,x,y]).map (·.d))=[a,c,e,x,y]:=rfl
  rw[en]
  show dA obj (q+190+1+1+1+1+1+1+1+1+1+1) _ acc=_
  simp only[List.mem_cons,List.not_mem_nil,or_false,forall_eq_or_imp,forall_eq]at hd
  obtain⟨d1,d2,d3,d4,d5,d6,d7⟩:=hd
  simp only[List.nodup_cons,List.mem_cons,List.not_mem_nil,or_false,not_or,not_false_eq_true,List.nodup_nil,and_true]at ie
  obtain⟨⟨a1,a2,a3,a4,a5,a6⟩,⟨b1,b2,b3,b4,b5⟩,⟨c1,c2,c3,c4⟩,⟨e1,e2,e3⟩,⟨f1,f2⟩,g1⟩:=ie
  simp[dA,gQ,h1,h2,h3,h4,h5,h6,h7,l9,cJ,re,yA,yC,d1,d2,d3,d4,d5,d6,d7,Ne.symm a1,Ne.symm a2,Ne.symm a3,Ne.symm a4,Ne.symm a5,Ne.symm a6,Ne.symm b1,Ne.symm b2,Ne.symm b3,Ne.symm b4,Ne.symm b5,Ne.symm c1,Ne.symm c2,Ne.symm c3,Ne.symm c4,Ne.symm e1,Ne.symm e2,Ne.symm e3,Ne.symm f1,Ne.symm f2,Ne.symm g1]
 closE:=fun dom Ls h hd=>by
  obtain⟨a,c,e,f,g,x,y,rfl⟩:=pG h
  have h1:=hd a (by simp)
  have h2:=hd c (by simp)
  have h3:=hd e (by simp)
  have h4:=hd x (by simp)
  have h5:=hd y (by simp)
  simp[dp,List.range,List.range.loop,db,D.closL,D.clos,eAny,h1,h2,h3,h4,h5]
 closF:=fun dom Ls s h hd o ho=>by
  obtain⟨a,c,e,f,g,x,y,rfl⟩:=pG h
  have h1:=hd f (by simp)
  have h2:=hd g (by simp)
  simp only[dp,List.mem_cons,List.not_mem_nil,or_false,List.getD_cons_zero,List.getD_cons_succ]at ho
  rcases ho with rfl | rfl | rfl | rfl | rfl | rfl | rfl<;>simp[O.clos,D.closL,D.clos,qn,xf,h1,h2]
 psz:=fun Ls h=>by rfl
 args:=fun s=>by rfl
 fuel:=(show (200:Nat)<=2000 by decide)
 vnam:=fun _=>rfl
 vcl:=fun _ _=>rfl
 vren:=fun _ _=>rfl
 inj:=fun s s' hs gj h=>by
  have lq:cj b.ps=true:=by unfold fx at hb;simp only[Bool.and_eq_true]at hb;exact hb.1.2
  have dO:=yf lq
  have h0:=(B7 hw).1
  have l1:k0+s<b.ps.length:=Nat.lt_of_lt_of_le (Nat.add_lt_add_left hs k0) h0
  have l2:k0+s'<b.ps.length:=Nat.lt_of_lt_of_le (Nat.add_lt_add_left gj k0) h0
  have e1:(b.ps.getD (k0+s) default).no=(b.ps.getD (k0+s') default).no:=by
   have :=(List.cons.inj h).1
   simp only[qM,D.agg.injEq,List.cons.injEq,D.v.injEq,vInt,V.int.injEq,true_and,and_true]at this
   exact this.1
  rw[getD_at l1,getD_at l2,dO _ l1,dO _ l2]at e1
  omega
set_option maxRecDepth 20000
theorem A8{p:Name}{H:Name->Option O}{x y:Name}{o q:Option O}(hx:own p x=true)(nm:Name)(hn:own p nm=false):upd (upd H x o) y q nm=upd H y q nm:=by
 by_cases e:nm=y
 ·subst e;rw[aC,aC]
 ·rw[aH _ _ _ e,aH _ _ _ e,aH _ _ _ (fun e2=>by rw[e2,hx]at hn;cases hn)]
@[go_sem] theorem afS{n:Nat}{p:Name}{H:Name->Option O}{x y:Name}{o q:Option O}{l:List (Nat×E)}{h:List (Name×O)}(hx:own p x=true):aO n p (upd (upd H x o) y q) l h=aO n p (upd H y q) l h:=
  vI fun nm hn=>A8 hx nm hn
@[go_sem] theorem aib{p:Name}{dom:Name->Bool}{H:Name->Option O}{x y:Name}{o q:Option O}(hx:own p x=true):bW p dom (upd (upd H x o) y q)=bW p dom (upd H y q):=
  propext ⟨fun k nm z hn h=>k nm z hn (by rw[A8 hx nm hn];exact h),fun k nm z hn h=>k nm z hn (by rw[<-A8 (o:=o) hx nm hn];exact h)⟩
theorem Pd{H:Name->Option O}(hO:∀ hs,bW [0] (bP [0] hs) H=True)(hs:List (Name×O))(sz:Nat)(L:List V):bW [0] (bP [0] hs) (upd H [4,1] (some (.arr sz L)))=True:=eq_true (xx rfl (of_eq_true (hO hs)))
theorem ab9{H:Name->Option O}(hO:∀ hs,bW [0] (bP [0] hs) H=True)(hs:List (Name×O))(e:Dk)(n:Nat):bW [0] (bP [0] hs) (upd H [3,1] (some (.box (bk e [4,1] n))))=True:=
 eq_true (xx (by simp only[O.clos,xf];simp[bP,own]) (of_eq_true (hO hs)))
theorem N7{P:Program}{Γ:FuncId->Option Spec}(hΓ:∀ f s,Γ f=some s->ak P f s){id:Nat}{l:List Oper}{c:Code}{r:List Code}{σ:Eng.S}{K:Exit->Eng.S->Prop}
 (h:∀ K':Eng.S->Prop,(∀ σ',CL P (c::r) σ' K->K' σ')->mR P Γ l.toArray l σ K'):CL P (.region id l.toArray false::c::r) σ K:=
 w9 hΓ h
theorem ahD(d:Dk)(S:Stk)(l:List Int)(x:Int)(f n:Nat):bk ((d.setN S).setN ⟨(d.setN S).now.ho,(d.setN S).now.un,(d.setN S).now.se,(d.setN S).now.ta.set f x⟩) [4,1] n=bk (d.setN ⟨l,S.un,S.se,S.ta.set f x⟩) [4,1] n:=rfl
noncomputable def Po:List (Nat×Spec):=[(51,S67)]
attribute [go_sem] Po
theorem acj:∀ f s,tbl Po f=some s->ak Tryd.prog f s:=tc WC<|tn
set_option maxHeartbeats 8000000 in
theorem TV{d:Dk}{b:Bag}{k0 m n:Nat}{er:Int}(hw:lS d b k0 m n er)(hb:fx b=true)(hI:∀ z,z<=k0+m->o8 b.fr.toNat (oT d b z)):ak Tryd.prog yid (dp d b k0 m n er).y.toSpec:=by
 refine Lp.y_sound (B9 hw hb) fun s hs _=>?_
 have hΓ:=acj
 have hP:=br
 obtain⟨p5,wD,hf,b9,DC,Lh,Lg⟩:=qp hb
 have gj:s<n:=hs
 obtain⟨n1,n2,n3⟩:=B7 hw
 have ox:s<=m:=by omega
 have hlen:k0+s<b.ps.length:=by omega
 obtain⟨S,hS⟩:∃ S,S=oT d b (k0+s):=⟨_,rfl⟩
 obtain⟨P,oO⟩:∃ P,P=b.ps[k0+s]:=⟨_,rfl⟩
 have zY:o8 b.fr.toNat S:=by rw[hS];exact hI _ (by omega)
 have Ds:=zY.ri;have h40:=zY.len;have tX:=zY.t0;have Li:=zY.t1
 have agj:S.ho.length<=1000:=by omega
 have w1:IntKind.i64.wrap (S.ta.get b.fr.toNat+1)=S.ta.get b.fr.toNat+1:=wrap_i64 (by omega) (by omega)
 have pQ:dv d b k0 m s=S:=by rw[hS];unfold dv;rw[Nat.min_eq_left ox]
 have LS:gC d b k0 m s=S.ho:=by rw[hS];unfold gC;rw[if_pos ox,Nat.min_eq_left ox]
 have L4:jk m er s=0:=if_pos ox
 have mh:(dp d b k0 m n er).vals s=[qM P]:=by
  show [qM (b.ps.getD (k0+s) default)]=_
  rw[getD_at hlen,oO]
 have YN:bp S.ho P.pa=true->(dp d b k0 m n er).st s=some .ret/\dv d b k0 m (s+1)=S/\gC d b k0 m (s+1)=S.ho/\jk m er (s+1)=96:=fun hh=>by
  have iG:s=m:=by
   rcases Nat.lt_or_ge s m with h1 | h1
   ·have h2:=(hw.good s h1 hlen)
    rw[<-hS,<-oO]at h2
    rw[ID _ _ _ h2.1 hh]at h2
    exact absurd h2.2 (by decide)
   ·omega
  subst iG
  have aj:er≠0:=by rcases hw.hn with⟨_,h1,_⟩ | ⟨h1,_,_⟩<;>first | exact h1 | omega
  have h2:=hw.bad aj hlen
  rw[<-hS,<-oO]at h2
  rw[ID _ _ _ h2.1 hh]at h2
  refine⟨if_neg (Nat.lt_irrefl _),?_,?_,?_⟩
  ·rw[hS];unfold dv;rw[Nat.min_eq_right (Nat.le_succ _)]
  ·unfold gC;rw[if_neg (by omega),getD_at hlen,<-hS,<-oO,BO hh]
  ·unfold jk;rw[if_neg (by omega)];exact h2.2.symm
 have YM:bp S.ho P.pa=false->40<(bX S.ho P.pa).length->(dp d b k0 m n er).st s=some .ret/\dv d b k0 m (s+1)=S/\gC d b k0 m (s+1)=bX S.ho P.pa/\jk m er (s+1)=2:=fun hh hl=>by
  have iG:s=m:=by
   rcases Nat.lt_or_ge s m with h1 | h1
   ·have h2:=(hw.good s h1 hlen)
    rw[<-hS,<-oO]at h2
    rw[IC _ _ _ h2.1 hh hl]at h2
    exact absurd h2.2 (by decide)
   ·omega
  subst iG
  have aj:er≠0:=by rcases hw.hn with⟨_,h1,_⟩ | ⟨h1,_,_⟩<;>first | exact h1 | omega
  have h2:=hw.bad aj hlen
  rw[<-hS,<-oO]at h2
  rw[IC _ _ _ h2.1 hh hl]at h2
  refine⟨if_neg (Nat.lt_irrefl _),?_,?_,?_⟩
  ·rw[hS];unfold dv;rw[Nat.min_eq_right (Nat.le_succ _)]
  ·unfold gC;rw[if_neg (by omega),getD_at hlen,<-hS,<-oO,BP hh]
  ·unfold jk;rw[if_neg (by omega)];exact h2.2.symm
 have YL:bp S.ho P.pa=false->¬ 40<(bX S.ho P.pa).length->(dp d b k0 m n er).st s=none/\dv d b k0 m (s+1)=⟨bX S.ho P.pa,S.un,S.se,S.ta.set b.fr.toNat (S.ta.get b.fr.toNat+1)⟩/\gC d b k0 m (s+1)=bX S.ho P.pa/\jk m er (s+1)=0:=fun hh hl=>by
  have iG:s<m:=by
   rcases Nat.lt_or_ge s m with h1 | h1
   ·exact h1
   ·have iG:s=m:=by omega
    subst iG
    have aj:er≠0:=by rcases hw.hn with⟨_,h1,_⟩ | ⟨h1,_,_⟩<;>first | exact h1 | omega
    have h2:=hw.bad aj hlen
    rw[<-hS,<-oO]at h2
    rw[IB _ _ _ h2.1 hh hl]at h2
    exact absurd h2.2.symm aj
  have h2:=(hw.good s iG hlen).1
  have h3:=G' b.fr.toNat b.ps (bG d b) hlen h2
  have h4:oT d b (k0+(s+1))=⟨bX S.ho P.pa,S.un,S.se,S.ta.set b.fr.toNat (S.ta.get b.fr.toNat+1)⟩:=by
   rw[hS,oO];exact h3
  have h5:dv d b k0 m (s+1)=oT d b (k0+(s+1)):=by unfold dv;rw[Nat.min_eq_left iG]
  refine⟨if_pos iG,h5.trans h4,?_,if_pos iG⟩
  unfold gC;rw[if_pos (show s+1<=m from iG),Nat.min_eq_left (show s+1<=m from iG),h4]
 have p5:(dp d b k0 m n er).fam (LR 7) s=[.box ((an zD).map .v),.box [.v (vInt 0)],.box [.ref [3,1] 0],.box (bk (d.setN S) [4,1] S.ho.length),.arr 1 (S.ho.map vInt),.box ((aX b).map .v),.box [.ref [3,1] (14+b.fr.toNat)]]:=by
  show [O.box ((an zD).map .v),.box [.v (vInt (jk m er s))],.box [.ref [3,1] 0],.box (bk (d.setN (dv d b k0 m s)) [4,1] (dv d b k0 m s).ho.length),.arr 1 ((gC d b k0 m s).map vInt),.box ((aX b).map .v),.box [.ref [3,1] (14+b.fr.toNat)]]=_
  rw[pQ,LS,L4]
 have ml:(dp d b k0 m n er).fam (LR 7) (s+1)=[.box ((an zD).map .v),.box [.v (vInt (jk m er (s+1)))],.box [.ref [3,1] 0],.box (bk (d.setN (dv d b k0 m (s+1))) [4,1] (dv d b k0 m (s+1)).ho.length),.arr 1 ((gC d b k0 m (s+1)).map vInt),.box ((aX b).map .v),.box [.ref [3,1] (14+b.fr.toNat)]]:=rfl
 have Yl:(dp d b k0 m n er).m=7:=rfl
 rw[Yl,p5,ml,mh]
 clear ml pQ LS L4
 generalize dv d b k0 m (s+1)=S1 at *
 generalize gC d b k0 m (s+1)=L1 at *
 generalize jk m er (s+1)=E1 at *
 generalize hx:(dp d b k0 m n er).st s=X1 at *
 generalize oy:[O.box ((an zD).map .v),.box [.v (vInt 0)],.box [.ref [3,1] 0],.box (bk (d.setN S) [4,1] S.ho.length),.arr 1 (S.ho.map vInt),.box ((aX b).map .v),.box [.ref [3,1] (14+b.fr.toNat)]]=os
 have hO:∀ hs,bW [0] (bP [0] hs) (aS os)=True:=by
  subst oy
  refine fun hs=>eq_true (vB ?_ hs)
  intro o ho dom hd
  simp only[List.mem_cons,List.not_mem_nil,or_false]at ho
  rcases ho with rfl | rfl | rfl | rfl | rfl | rfl | rfl<;>simp[O.clos,D.closL,D.clos,qn,xf,hd]
 have h0:aS os [0,1]=some (.box ((an zD).map .v)):=by subst oy;rfl
 have h1:aS os [1,1]=some (.box [.v (vInt 0)]):=by subst oy;rfl
 have h2:aS os [2,1]=some (.box [.ref [3,1] 0]):=by subst oy;rfl
 have h3:aS os [3,1]=some (.box (bk (d.setN S) [4,1] S.ho.length)):=by subst oy;rfl
 have h4:aS os [4,1]=some (.arr 1 (S.ho.map vInt)):=by subst oy;rfl
 have h5:aS os [5,1]=some (.box ((aX b).map .v)):=by subst oy;rfl
 have h6:aS os [6,1]=some (.box [.ref [3,1] (14+b.fr.toNat)]):=by subst oy;rfl
 generalize hH:aS os=H at *
 clear oy hH p5
 have gD:=Pd hO
 have fS:True:=trivial
 have X0:xT Tryd.f18=(_,_,_):=rfl
 refine uS (Qr 106 [0] H [(3,⟨true,.v (.ptr (aX b))⟩),(4,⟨true,.ref [0,1] 0⟩),(5,⟨true,.ref [1,1] 0⟩),(7,⟨true,.ref [2,1] 0⟩),(59,⟨true,qM P⟩)] [] rfl rfl (fun _ _=>rfl) ?_ (by simp) ?_ ?_) ?_
 ·intro q hq
  simp only[List.mem_cons,List.not_mem_nil,or_false]at hq
  rcases hq with rfl | rfl | rfl | rfl | rfl<;>rfl
 ·simp[D.clos,D.closL,bP,own,qM]
 ·rw[hO];trivial
 simp only[dp,X0,qM]
 refine iR ?_
 repeat refine sq ?_
 refine bc hΓ fun K' hK=>?_
 simp only[go_sem,hO,h0,h1,h2,h3,h4]
 repeat (refine⟨ai,?_⟩)
 refine hK _ ?_
 clear K' hK
 try simp only[go_sem]
 (show CW _ _ _ _)
 refine iR ?_
 repeat refine sq ?_
 refine a8 ?_
 repeat refine sq ?_
 refine dx hΓ hP [[],[0],[0,1],[0,1,2],[0,1,2,3],[0,1,2,3,4],[],[6],[0,1,2,3,4,5,6,7],[0,1,2,3,4,5,6,7,8],[0,1,2,3,4,5,6,7,8,9],[0,1,2,3,4,5,6,7,8,9],[0,1,2,3,4,5,6,7,8,9,10],[0,1,2,3,4,5,6,7,8,9,10,11,12]] [3,4,5,7,9,10] [[3,0],[4,0],[5,0],[7,0]] (by kernel_rfl) (fun K' hK=>by simp only[go_sem,hO,gD,fS,h0,h1,h2,h3,h4];(repeat (refine⟨ai,?_⟩));(first | refine⟨by rfl,?_⟩ | skip);exact hK _ (by simp only[go_sem,hO,gD,fS,h0,h1,h2,h3,h4]) (by simp only[go_sem,hO,gD,fS,h0,h1,h2,h3,h4]<;>rfl)) ?_
 obtain⟨H2,ka⟩:∃ H2,upd H [4,1] (some (O.arr 1 (List.map vInt (jt S.ho P.pa))))=H2:=⟨_,rfl⟩
 rw[ka]
 replace hO:=Pd hO
 replace hO:∀ hs,bW [0] (bP [0] hs) H2=True:=fun hs=>by rw[<-ka];exact hO _ _ _
 replace gD:True:=trivial
 have fS:=ab9 hO
 replace h0:=(show H2 [0,1]=H [0,1]by rw[<-ka,aH _ _ _ (by decide)]).trans h0
 replace h1:=(show H2 [1,1]=H [1,1]by rw[<-ka,aH _ _ _ (by decide)]).trans h1
 replace h2:=(show H2 [2,1]=H [2,1]by rw[<-ka,aH _ _ _ (by decide)]).trans h2
 replace h3:=(show H2 [3,1]=H [3,1]by rw[<-ka,aH _ _ _ (by decide)]).trans h3
 replace h4:H2 [4,1]=some (O.arr 1 (List.map vInt (jt S.ho P.pa))):=by rw[<-ka,aC]
 replace h5:=(show H2 [5,1]=H [5,1]by rw[<-ka,aH _ _ _ (by decide)]).trans h5
 replace h6:=(show H2 [6,1]=H [6,1]by rw[<-ka,aH _ _ _ (by decide)]).trans h6
 clear ka
 repeat refine sq ?_
 refine a8 ?_
 repeat refine sq ?_
 refine rx hΓ [3,4,5,7,9,72] [[3,0],[4,0],[5,0],[7,0]] (fun K' hK=>by simp only[go_sem,hO,gD,fS,h0,h1,h2,h3,h4];(repeat (refine⟨ai,?_⟩));exact hK _ (by simp only[go_sem,hO,gD,fS,h0,h1,h2,h3,h4]) (by simp only[go_sem,hO,gD,fS,h0,h1,h2,h3,h4]<;>rfl)) ?_
 repeat refine sq ?_
 refine aD rfl rfl (fun hb=>?_) (fun hb=>?_)
 ·repeat refine sq ?_
  have hh:bp S.ho P.pa=true:=by simpa using hb
  obtain⟨g1,g2,g3,g4⟩:=YN hh
  refine N7 hΓ fun K' hK=>?_
  simp only[go_sem,hO,gD,fS,h0,h1,h2,h3,h4]
  repeat (refine⟨ai,?_⟩)
  refine hK _ ?_
  clear K' hK
  refine bq (A7 [0,1] _ (an zD) rfl rfl) ?_
  refine ax ?_
  simp only[go_sem,hO,gD,fS,h0,h1,h2,h3,h4]
  rw[g1,g2,g3,g4]
  refine⟨rfl,?_⟩
  rw[BO hh]at h4
  show cS _ [[0,1],[1,1],[2,1],[3,1],[4,1],[5,1],[6,1]] _
  simp only[cS,go_sem,h0,h1,h2,h3,h4,h5,h6]
  try trivial
 ·repeat refine sq ?_
  have hh:bp S.ho P.pa=false:=by simpa using hb
  have rI:=BP hh
  repeat refine sq ?_
  refine rx hΓ [3,4,5,7,9,76] [[3,0],[4,0],[5,0],[7,0]] (fun K' hK=>by simp only[go_sem,hO,gD,fS,h0,h1,h2,h3,h4,List.length_map];(repeat (refine⟨ai,?_⟩));exact hK _ (by simp only[go_sem,hO,gD,fS,h0,h1,h2,h3,h4,List.length_map]) (by simp only[go_sem,hO,gD,fS,h0,h1,h2,h3,h4,List.length_map]<;>rfl)) ?_
  repeat refine sq ?_
  refine aD rfl rfl (fun hb=>?_) (fun hb=>?_)
  ·repeat refine sq ?_
   have hl:40<(bX S.ho P.pa).length:=by have h9:=of_decide_eq_true hb;rw[rI]at h9;omega
   obtain⟨g1,g2,g3,g4⟩:=YM hh hl
   refine N7 hΓ fun K' hK=>?_
   simp only[go_sem,hO,gD,fS,h0,h1,h2,h3,h4]
   repeat (refine⟨ai,?_⟩)
   refine hK _ ?_
   clear K' hK
   refine bq (A7 [0,1] _ (an zD) rfl rfl) ?_
   refine ax ?_
   simp only[go_sem,hO,gD,fS,h0,h1,h2,h3,h4]
   rw[g1,g2,g3,g4]
   refine⟨rfl,?_⟩
   rw[rI]at h4
   show cS _ [[0,1],[1,1],[2,1],[3,1],[4,1],[5,1],[6,1]] _
   simp only[cS,go_sem,h0,h1,h2,h3,h4,h5,h6]
   try trivial
  ·repeat refine sq ?_
   have hl:¬ 40<(bX S.ho P.pa).length:=by have h9:=of_decide_eq_false hb;rw[rI]at h9;omega
   obtain⟨g1,g2,g3,g4⟩:=YL hh hl
   refine aI ?_
   refine eo ?_
   simp only[go_sem]
   refine kj [3,4,5,7,9] [[3,0],[4,0],[5,0],[7,0]] ?_ ?_
   ·simp only[go_sem,hO,gD,fS,h0,h1,h2,h3,h4]
   simp only[go_sem,hO,gD,fS,h0,h1,h2,h3,h4]
   repeat refine sq ?_
   refine rx hΓ [3,4,5,7] [[3,0],[4,0],[5,0],[7,0]] (fun K' hK=>by simp only[go_sem,hO,gD,fS,h0,h1,h2,h3,h4];(repeat (refine⟨ai,?_⟩));exact hK _ (by simp only[go_sem,hO,gD,fS,h0,h1,h2,h3,h4]) (by simp only[go_sem,hO,gD,fS,h0,h1,h2,h3,h4]<;>rfl)) ?_
   obtain⟨H3,j'⟩:∃ H3,upd H2 [3,1] (some (O.box (bk (d.setN S) [4,1] (jt S.ho P.pa).length)))=H3:=⟨_,rfl⟩
   rw[j']
   replace hO:∀ hs,bW [0] (bP [0] hs) H3=True:=fun hs=>by rw[<-j'];exact fS _ _ _
   replace fS:True:=trivial
   replace h0:=(show H3 [0,1]=H2 [0,1]by rw[<-j',aH _ _ _ (by decide)]).trans h0
   replace h1:=(show H3 [1,1]=H2 [1,1]by rw[<-j',aH _ _ _ (by decide)]).trans h1
   replace h2:=(show H3 [2,1]=H2 [2,1]by rw[<-j',aH _ _ _ (by decide)]).trans h2
   replace h3:H3 [3,1]=some (O.box (bk (d.setN S) [4,1] (jt S.ho P.pa).length)):=by rw[<-j',aC]
   replace h4:=(show H3 [4,1]=H2 [4,1]by rw[<-j',aH _ _ _ (by decide)]).trans h4
   replace h5:=(show H3 [5,1]=H2 [5,1]by rw[<-j',aH _ _ _ (by decide)]).trans h5
   replace h6:=(show H3 [6,1]=H2 [6,1]by rw[<-j',aH _ _ _ (by decide)]).trans h6
   clear j'
   repeat refine sq ?_
   refine N8 hΓ hP [[],[],[1],[0],[0,3],[0,3,4],[0,3,4,5],[0,1,2,3,4,5,6],[0,1,2,3,4,5,6,7],[0,1,2,3,4,5,6,7,8],[0],[0,10],[0,10,11],[0,10,11,12],[0,1,2,3,4,5,6,7,8,9,10,11,12,13],[0,1,2,3,4,5,6,7,8,9,10,11,12,13,14]] (by kernel_rfl) fun K' hK=>?_
   simp only[go_sem,hO,gD,fS,h0,h1,h2,h3,h4,sD _ _ _ hf,abt _ _ _ _ hf,w1,p5,wD]
   repeat (refine⟨ai,?_⟩)
   first | refine⟨by rfl,?_⟩ | skip
   refine hK _ ?_
   clear K' hK
   try simp only[go_sem]
   refine eo ?_
   rw[g1,g2,g3,g4]
   refine⟨rfl,?_⟩
   rw[rI]at h4 |-
   show cS _ [[0,1],[1,1],[2,1],[3,1],[4,1],[5,1],[6,1]] _
   simp only[cS,go_sem,h0,h1,h2,h3,h4,h5,h6]
   try trivial
def yl(Ls:List Name):List D:=[.ref (Ls.getD 5 []) 0,.ref (Ls.getD 6 []) 0]
theorem T7(d:Dk)(b:Bag)(k0 m n:Nat)(er:Int):Gx (dp d b k0 m n er) yl where
 ren:=fun f Ls h=>by obtain⟨x1,x2,x3,x4,x5,x6,x7,rfl⟩:=pG h;rfl
 clo:=fun dom Ls h hd=>by
  obtain⟨a,c,e,f,g,x,y,rfl⟩:=pG h
  have h4:=hd x (by simp)
  have h5:=hd y (by simp)
  simp[yl,D.closL,D.clos,h4,h5]
 reach:=fun Ls s obj R k h ie hF hR=>by
  obtain⟨a,c,e,f,g,x,y,rfl⟩:=pG h
  obtain⟨h1,h2,h3,h4,h5,h6,h7,_⟩:=hF
  simp only[List.getD_cons_zero,List.getD_cons_succ]at h1 h2 h3 h4 h5 h6 h7
  have en:cJ (((dp d b k0 m n er).env [a,c,e,f,g,x,y]).map (·.d))=[a,c,e,x,y]:=rfl
  have Zm:obj R=some (.loop ((dp d b k0 m n er).env [a,c,e,f,g,x,y]) (dp d b k0 m n er).ps (dp d b k0 m n er).asg (dp d b k0 m n er).body .ready none):=hR
  clear hR
  generalize (dp d b k0 m n er).env [a,c,e,f,g,x,y]=EV at *
  have ec:cJ (yl [a,c,e,f,g,x,y])=[x,y]:=rfl
  rw[ec]
  show dA obj (k+190+1+1+1+1+1+1+1+1+1+1+1) [R,x,y] []=_
  simp only[List.nodup_cons,List.mem_cons,List.not_mem_nil,or_false,not_or,not_false_eq_true,List.nodup_nil,and_true]at ie
  obtain⟨⟨d1,d2,d3,d4,d5,d6,d7⟩,⟨a1,a2,a3,a4,a5,a6⟩,⟨b1,b2,b3,b4,b5⟩,⟨c1,c2,c3,c4⟩,⟨e1,e2,e3⟩,⟨f1,f2⟩,g1⟩:=ie
  simp[dA,gQ,Zm,en,h1,h2,h3,h4,h5,h6,h7,l9,cJ,re,yA,yC,Ne.symm d1,Ne.symm d2,Ne.symm d3,Ne.symm d4,Ne.symm d5,Ne.symm d6,Ne.symm d7,Ne.symm a1,Ne.symm a2,Ne.symm a3,Ne.symm a4,Ne.symm a5,Ne.symm a6,Ne.symm b1,Ne.symm b2,Ne.symm b3,Ne.symm b4,Ne.symm b5,Ne.symm c1,Ne.symm c2,Ne.symm c3,Ne.symm c4,Ne.symm e1,Ne.symm e2,Ne.symm e3,Ne.symm f1,Ne.symm f2,Ne.symm g1]
theorem yj{d:Dk}{b:Bag}{k0 m n:Nat}{er:Int}(hw:lS d b k0 m n er):∀ j,j+1<(dp d b k0 m n er).n->(dp d b k0 m n er).st j=none:=fun j hj=>by
 have h1:=(B7 hw).2.1
 have eT:j+1<n:=hj
 exact if_pos (by omega)
theorem S7{d:Dk}{b:Bag}{k0 m n:Nat}{er:Int}(hw:lS d b k0 m n er)(hb:fx b=true)(hI:∀ z,z<=k0+m->o8 b.fr.toNat (oT d b z)):ak Tryd.prog 73 ((dp d b k0 m n er).itC yl).toSpec:=by
 have aa:=B9 hw hb
 have bF:=yj hw
 obtain⟨p5,wD,hf,b9,DC,Lh,Lg⟩:=qp hb
 obtain⟨c,hc,h⟩:=QH (TV hw hb hI) hw hf b9 (fun z hz=>⟨(hI z hz).t0,(hI z hz).t1⟩) (J:=(dp d b k0 m n er).J) (fun s=>by rw[Lp.J_len aa,Lp.J_len aa]) (fun s=>Lp.J_clos aa s)
  (fun s=>rfl) (fun s=>rfl) (e:=fun s=>d.setN (dv d b k0 m s)) (q:=fun s=>(dv d b k0 m s).ho.length) (fun s=>rfl)
  (fun s hs=>by show (dv d b k0 m s).ta.get _=_;unfold dv;rw[Nat.min_eq_left hs])
  (fun s hs obj tm ho=>by
    have h1:=Lp.y_setJ aa bF (s:=s) hs obj tm ho
    have h2:((dp d b k0 m n er).st s).isNone=decide (s<m):=by
     show (if s<m then(none:Option Code)else some .ret).isNone=_
     by_cases h3:s<m
     ·rw[if_pos h3,decide_eq_true h3];rfl
     ·rw[if_neg h3,decide_eq_false h3];rfl
    rw[h2]at h1
    exact h1)
 refine Lp.itJ_sound aa bF Tryd.func73 Tryd.ntmps73 (by rfl) (by kernel_rfl) (by decide) ⟨c,hc,lb rfl,?_⟩
 exact h
theorem VQ(b:Bag)(l:List Par):gg (eX b) l=eV l b.ta l.length:=by
 unfold gg eV
 rw[List.take_length]
 congr 1
 funext p
 unfold eX
 by_cases h:p.no<=b.ta
 ·rw[decide_eq_true h,decide_eq_false (show ¬ p.no>b.ta by omega)];rfl
 ·rw[decide_eq_false h,decide_eq_true (show p.no>b.ta by omega)];rfl
theorem Tw(b:Bag):∃ j,j<6/\(fx b=true->b.fr.toNat=j):=by
 by_cases h:b.fr.toNat<6
 ·exact⟨b.fr.toNat,h,fun _=>rfl⟩
 ·exact⟨0,by omega,fun hk=>absurd (qp hk).2.2.1 h⟩
theorem MH{b:Bag}{e:Dk}{n off:Nat}{l:List V}{obj:Name->Option O}{t nm h:Name}(h1:obj nm=some (.box (bk e h n)))(h2:obj h=some (.arr 1 l))(hn:nm≠h):
 S66.foot obj t [.v (.agg (aX b)),.ref nm off]=[nm,h]++[]++[[2,0]++t,[3,0]++t]/\S66.wrt obj t [.v (.agg (aX b)),.ref nm off]=[[2,0]++t,[3,0]++t]:=by
 have hr:reach obj [.v (.agg (aX b)),.ref nm off]=[nm,h]:=by
  unfold reach
  show dA obj (2996+1+1+1+1) [nm] []=[nm,h]
  simp[dA,gQ,h1,h2,l9,yC,Ne.symm hn]
 have fF:∀ os p,wS.out os [.v (.agg (aX b)),p]=⟨[],mA (.agg (aX b)) p,.clo (.func 73) [] [.ref [2,0] 0,.ref [3,0] 0]⟩:=fun _ _=>rfl
 have e2:cH obj [.v (.agg (aX b)),.ref nm off]=[.v (.agg (aX b)),.ref (cin [nm,h] nm) off]:=by
  unfold cH
  rw[hr]
  simp only[D.renL,D.ren]
 simp only[S66,CSpec.toSpec,hr,e2,fF,mA,List.map_nil,List.map_cons,List.nil_append,and_self]
end Go.Eng
