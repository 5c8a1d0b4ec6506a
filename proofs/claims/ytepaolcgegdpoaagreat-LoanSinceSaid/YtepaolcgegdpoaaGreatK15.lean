import Derived.Test.YtepaolcgegdpoaaGreatK14
import GoSem.ClaimChange
import Derived.DataReads
import Derived.ChangeReads
import Derived.ProofKit
import Derived.Carry
import Derived.Test.YtepaolcgegdpoaaGreatRows
import Derived.Test.YtepaolcgegdpoaaGreatChecked
/- LoanSince is proved: of a ledger that numbers describe, what becomes known later changes nothing that is as known on a day, nor does a return that does not tell, at all arguments that the statement covers. -/
set_option linter.all false
namespace Go.Eng
open Go Go.Proofs
theorem Of:aU Tryz.prog 18 ⟨fun xs=>xs=[],fun _=>.bool true,true⟩:=
 Pg (b:=.bool true) RC (by
  intro fn h
  have e:Tryz.prog.funcs[18]?=some Tryz.f18:=Tryz.func18
  rw[e]at h
  obtain rfl:=Option.some.inj h
  exact(by kernel_rfl:(Tryz.f18.name== "runtime.NumGoroutine")=false)) (by decide) rfl
set_option maxRecDepth 10000
noncomputable section
structure N4 where
 (a b c d:Int)
 deriving Inhabited
def yi(x:N4):V:=.agg [vInt x.a,vInt x.b,vInt x.c,vInt x.d]
def Kr:V->N4
 | .agg [.int _ a,.int _ b,.int _ c,.int _ d]=>⟨a,b,c,d⟩
 |_=>default
def Bp:En N4:=⟨yi,Kr⟩
attribute [go_sem] yi Kr Bp
@[go_sem] theorem adx(x:N4):(⟨x.a,x.b,x.c,x.d⟩:N4)=x:=rfl
def DJ:Spec:=(⟨fun xs=>xs=[],fun _=>.bool true,true⟩:PSpec).toSpec
attribute [go_sem] DJ
theorem F7(r:Raw):(iH r).ps=mps:=rfl
theorem Qe(r:Raw):b7 (iH r):=by unfold iH;exact F8 r (Nat.min_le_right _ _)
attribute [local irreducible] iH js aO nT
theorem Kw{l:Led}(aa:b7 l){ds:List Int}(h:∀ d∈ds,0<=d/\d<=100000):cM l ds=0:=by
 rw[<-Lu]
 unfold y8
 rw[if_neg (by rw[tP.2 aa];decide),if_pos]
 rw[List.all_eq_true]
 intro d hd
 unfold dayB
 exact gY (h d hd).1 (h d hd).2
def X8:List (Nat×Spec):=[(19,L0),(20,DH),(23,LY),(41,LX),(15,px),(18,DJ)]
attribute [go_sem] X8
end
def dr(l:Led)(kp:Ret->Bool)(i:Nat):Nat:=((l.ts.take i).filter (kp)).length
theorem Pn{l:Led}{kp:Ret->Bool}{i:Nat}(h:i<l.ts.length)(hk:kp (aI l i)=false):dr l kp (i+1)=dr l kp i:=by
 rw[lg h]at hk
 unfold dr
 rw[List.take_add_one,List.getElem?_eq_getElem h,List.filter_append]
 simp[hk]
theorem wz{l l':Led}{kp:Ret->Bool}(hf:l'.ts=l.ts.filter kp){i:Nat}(h:i<l.ts.length)(hk:kp (aI l i)=true):dr l kp (i+1)=dr l kp i+1/\dr l kp i<l'.ts.length/\aI l' (dr l kp i)=aI l i:=by
 rw[lg h]at hk |-
 have e1:l'.ts=(l.ts.take i).filter (kp)++(l.ts[i]::(l.ts.drop (i+1)).filter (kp)):=by
  rw[hf]
  conv=>lhs;rw[<-List.take_append_drop i l.ts,List.drop_eq_getElem_cons h]
  rw[List.filter_append,List.filter_cons,if_pos hk]
 refine⟨?_,?_,?_⟩
 ·unfold dr
  rw[List.take_add_one,List.getElem?_eq_getElem h,List.filter_append]
  simp[hk]
 ·rw[e1];unfold dr;simp
 ·unfold aI
  have e2:dr l kp i=((l.ts.take i).filter (kp)).length:=rfl
  rw[e1,List.getD_eq_getElem?_getD,e2,List.getElem?_append_right (Nat.le_refl _),Nat.sub_self]
  rfl
theorem Fq{l:Led}{kp:Ret->Bool}{i j:Nat}(h:i<=j):dr l kp i<=dr l kp j:=by
 unfold dr
 have e:l.ts.take i=(l.ts.take j).take i:=by rw[List.take_take];congr 1;omega
 rw[e]
 exact((List.take_sublist _ _).filter _).length_le
theorem Ah{l l':Led}{kp:Ret->Bool}(hf:l'.ts=l.ts.filter kp):dr l kp l.ts.length=l'.ts.length:=by
 unfold dr
 rw[List.take_length,hf]
def eF(l:Led)(kp:Ret->Bool)(j:Int):Int:=(dr l kp j.toNat:Int)
structure gv (l l':Led) (kp:Ret->Bool) (k:Int):Prop where
 ts:l'.ts=l.ts.filter kp
 rs:bB l' k=bB l k
 ss:bm l' k=bm l k
 nt:∀ i,i<l.ts.length->kp (aI l i)=false->eH k (bB l k) (aw l k i).bk (aI l i)=none
structure LU (l l':Led) (kp:Ret->Bool) (k:Int) (i:Nat):Prop where
 ts:(aw l' k (dr l kp i)).ts=(aw l k i).ts.map (eF l kp)
 bk:∀ q,bt (aw l' k (dr l kp i)).bk q=(bt (aw l k i).bk q).map (eF l kp)
 ds:∀ j∈(aw l k i).ts,bI (aw l' k (dr l kp i)).ds (eF l kp j)=bI (aw l k i).ds j
 kq:∀ j∈(aw l k i).ts,0<=j/\j<i/\kp (aI l j.toNat)=true
theorem EA{l:Led}{kp:Ret->Bool}{a b:Int}(ha:0<=a)(hb:0<=b)(hal:a<l.ts.length)(sE:b<l.ts.length)(ka:kp (aI l a.toNat)=true)(kb:kp (aI l b.toNat)=true)(aD:a≠b):eF l kp a≠eF l kp b:=by
 unfold eF
 have h1:dr l kp (a.toNat+1)=dr l kp a.toNat+1:=(wz (l':={ l with ts:=l.ts.filter kp }) rfl (show a.toNat<l.ts.length by omega) ka).1
 have h2:dr l kp (b.toNat+1)=dr l kp b.toNat+1:=(wz (l':={ l with ts:=l.ts.filter kp }) rfl (show b.toNat<l.ts.length by omega) kb).1
 rcases(show a.toNat<b.toNat\/b.toNat<a.toNat by omega)with h | h
 ·have:=Fq (l:=l) (kp:=kp) (show a.toNat+1<=b.toNat by omega);omega
 ·have:=Fq (l:=l) (kp:=kp) (show b.toNat+1<=a.toNat by omega);omega
theorem PQ{k:Int}{rs:List Rec}{b b':Bk}(x:Ret)(h:∀ q,(bt b' q).isSome=(bt b q).isSome):eH k rs b' x=eH k rs b x:=by
 unfold eH
 cases dC rs x.re with
 |none=>rfl
 |some r=>simp only[h]
theorem Ev{l l':Led}{kp:Ret->Bool}{k:Int}(hu:gv l l' kp k):∀ i,i<=l.ts.length->LU l l' kp k i
 | 0,_=>by
   have e:dr l kp 0=0:=rfl
   refine⟨by rw[e];rfl,fun q=>by rw[e];rfl,fun j h=>(nomatch h),fun j h=>(nomatch h)⟩
 |i+1,hi=>by
  have ih:=Ev hu i (by omega)
  have oX:i<l.ts.length:=by omega
  cases hk:kp (aI l i)with
  |false=>
   have hp:=Pn oX hk
   have hn:=hu.nt i oX hk
   have e:=oJ hn
   exact⟨by rw[e,hp];exact ih.ts,by rw[e,hp];exact ih.bk,by rw[e,hp];exact ih.ds,fun j hj=>by rw[e]at hj;have:=ih.kq j hj;exact⟨this.1,by omega,this.2.2⟩⟩
  |true=>
   obtain⟨hp,nI,IV⟩:=wz hu.ts oX hk
   have xD:eH k (bB l' k) (aw l' k (dr l kp i)).bk (aI l' (dr l kp i))=eH k (bB l k) (aw l k i).bk (aI l i):=by
    rw[hu.rs,IV]
    exact PQ _ fun q=>by rw[ih.bk q];cases bt (aw l k i).bk q<;>rfl
   cases hn:eH k (bB l k) (aw l k i).bk (aI l i)with
   |none=>
    rw[hn]at xD
    have e:=oJ hn
    have e':=oJ xD
    rw[<-hp]at e'
    exact⟨by rw[e,e'];exact ih.ts,by rw[e,e'];exact ih.bk,by rw[e,e'];exact ih.ds,fun j hj=>by rw[e]at hj;have:=ih.kq j hj;exact⟨this.1,by omega,this.2.2⟩⟩
   |some r=>
    rw[hn]at xD
    have e:=ub hn
    have e':=ub xD
    rw[<-hp,IV]at e'
    have oQ:eF l kp (i:Int)=(dr l kp i:Int):=by unfold eF;rw[Int.toNat_natCast]
    refine⟨?_,?_,?_,?_⟩
    ·rw[e,e']
     show (aw l' k (dr l kp i)).ts++[(dr l kp i:Int)]=((aw l k i).ts++[(i:Int)]).map (eF l kp)
     rw[List.map_append,ih.ts,List.map_cons,List.map_nil,oQ]
    ·rintro⟨s,f⟩
     rw[e,e']
     simp only[yE]
     by_cases hc:s=r.so/\f∈(aI l i).lv
     ·rw[if_pos hc,if_pos hc]
      show _=some (eF l kp (i:Int))
      rw[oQ]
     ·rw[if_neg hc,if_neg hc];exact ih.bk _
    ·intro j hj
     rw[e]at hj |-
     rw[e']
     show bI (jW (aw l' k (dr l kp i)).ds (dr l kp i:Int) _) (eF l kp j)=bI (jW (aw l k i).ds (i:Int) _) j
     rw[qL,qL]
     by_cases du:(i:Int)=j
     ·subst du
      rw[if_pos oQ.symm,if_pos rfl]
     ·have eA:j∈(aw l k i).ts:=by
        rcases List.mem_append.1 hj with h | h
        ·exact h
        ·simp only[List.mem_singleton]at h;exact(du h.symm).elim
      obtain⟨k1,k2,k3⟩:=ih.kq j eA
      have aD:=EA (l:=l) (a:=(i:Int)) (b:=j) (by omega) k1 (by omega) (by omega) (by rw[Int.toNat_natCast];exact hk) k3 du
      rw[oQ]at aD
      rw[if_neg aD,if_neg du]
      exact ih.ds j eA
    ·intro j hj
     rw[e]at hj
     rcases List.mem_append.1 hj with h | h
     ·have:=ih.kq j h;exact⟨this.1,by omega,this.2.2⟩
     ·simp only[List.mem_singleton]at h
      subst h
      exact⟨by omega,by omega,by rw[Int.toNat_natCast];exact hk⟩
theorem wc{l l':Led}{kp:Ret->Bool}{k:Int}(hu:gv l l' kp k):LU l l' kp k l.ts.length:=Ev hu _ (Nat.le_refl _)
theorem Gd{l l':Led}{kp:Ret->Bool}{k:Int}(hu:gv l l' kp k):(aC l' k).ts=(aC l k).ts.map (eF l kp):=by
 have :=(wc hu).ts
 rw[Ah hu.ts]at this
 exact this
theorem AP{l l':Led}{kp:Ret->Bool}{k:Int}(hu:gv l l' kp k)(q:Int×Int):bt (aC l' k).bk q=(bt (aC l k).bk q).map (eF l kp):=by
 have :=(wc hu).bk q
 rw[Ah hu.ts]at this
 exact this
theorem tY{l l':Led}{kp:Ret->Bool}{k:Int}(hu:gv l l' kp k):∀ j∈(aC l k).ts,0<=j/\j<l.ts.length/\kp (aI l j.toNat)=true:=(wc hu).kq
theorem AQ{l l':Led}{kp:Ret->Bool}{k:Int}(hu:gv l l' kp k){j:Int}(hj:j∈(aC l k).ts):aI l' (eF l kp j).toNat=aI l j.toNat:=by
 obtain⟨h0,h1,h2⟩:=tY hu j hj
 unfold eF
 rw[Int.toNat_natCast]
 exact(wz hu.ts (by omega) h2).2.2
theorem Ge{l l':Led}{kp:Ret->Bool}{k:Int}(hu:gv l l' kp k){a b:Int}(ha:a∈(aC l k).ts)(hb:b∈(aC l k).ts):eF l kp a=eF l kp b↔a=b:=by
 refine⟨fun h=>?_,fun h=>by rw[h]⟩
 by_cases aD:a=b
 ·exact aD
 ·obtain⟨a0,a1,a2⟩:=tY hu a ha
  obtain⟨b0,b1,b2⟩:=tY hu b hb
  exact(EA a0 b0 a1 b1 a2 b2 aD h).elim
theorem AN{l:Led}{k:Int}{q:Int×Int}{i:Int}(h:bt (aC l k).bk q=some i):i∈(aC l k).ts:=by
 obtain⟨s,f⟩:=q
 obtain⟨j,rfl,h1,-⟩:=(tk l k).bk1 _ _ _ h
 exact((tk l k).ts j).1 h1
def vI(l:Led)(kp:Ret->Bool)(k:Int)(D' D:Ds):Prop:=∀ j∈(aC l k).ts,bI D' (eF l kp j)=bI D j
theorem Gg{l l':Led}{kp:Ret->Bool}{k:Int}(hu:gv l l' kp k):vI l kp k (aC l' k).ds (aC l k).ds:=by
 intro j hj
 have hi:=tk l k
 have bu:=tk l' k
 have hs:=wc hu
 have eA:j∈(aw l k l.ts.length).ts:=hj
 have my:=hs.ts
 have jR:=hs.ds j eA
 rw[Ah hu.ts]at my jR
 have hm:eF l kp j∈(aw l' k l'.ts.length).ts:=by rw[my];exact List.mem_map_of_mem eA
 show bI (gj l' (bB l' k) (aw l' k l'.ts.length).ts (aw l' k l'.ts.length).ds (aw l' k l'.ts.length).ts.length) (eF l kp j)=bI (gj l (bB l k) (aw l k l.ts.length).ts (aw l k l.ts.length).ds (aw l k l.ts.length).ts.length) j
 rw[AX _ _ _ _ bu.tn _ (Nat.le_refl _),AX _ _ _ _ hi.tn _ (Nat.le_refl _),List.take_length,List.take_length,if_pos hm,if_pos eA,jR,hu.rs,AQ hu hj]
theorem Qi{l l':Led}{kp:Ret->Bool}{k:Int}(hu:gv l l' kp k)(a b:Rec):jY (aC l' k) a b=jY (aC l k) a b:=by
 have hA:∀ a b:Rec,qO (aC l' k) a b=qO (aC l k) a b:=fun a b=>by
  unfold qO
  congr 1
  funext f
  congr 2
  rw[AP hu]
  cases hb:bt (aC l k).bk (a.so,f)with
  |none=>rfl
  |some i=>
   simp only[Option.map_some]
   rw[mu,mu,AQ hu (AN hb)]
 unfold jY
 rw[hA,hA]
theorem wV{l l':Led}{kp:Ret->Bool}{k:Int}(hu:gv l l' kp k):(aC l' k).rs=(aC l k).rs:=by rw[Gi,Gi,hu.rs]
theorem AM{l l':Led}{kp:Ret->Bool}{k:Int}(hu:gv l l' kp k):ek (aC l' k)=ek (aC l k):=by
 unfold ek
 rw[wV hu]
 congr 1
 funext i
 unfold lz
 rw[wV hu]
 congr 2
 funext b
 exact Qi hu _ _
theorem Gc{l l':Led}{kp:Ret->Bool}{k:Int}(hu:gv l l' kp k)(s:Sig):(bf (aC l' k) s).2=(bf (aC l k) s).2/\
 (((bf (aC l k) s).1= -1/\(bf (aC l' k) s).1= -1)\/((bf (aC l k) s).1∈(aC l k).ts/\(bf (aC l' k) s).1=eF l kp (bf (aC l k) s).1)):=by
 unfold bf
 rw[wV hu]
 cases gN (aC l k).rs s.pa s.le s.da with
 |none=>by_cases h:s.pe=0<;>simp[h]
 |some r=>
  simp only[AP hu]
  cases hb:bt (aC l k).bk (r.so,s.le)with
  |none=>by_cases h:s.pe=r.bo<;>simp[h]
  |some i=>
   have hm:=AN hb
   simp only[Option.map_some]
   by_cases h:s.pe=0
   ·rw[if_pos h,if_pos h];exact⟨rfl,.inr ⟨hm,rfl⟩⟩
   ·rw[if_neg h,if_neg h]
    by_cases h2:s.pe=r.bo
    ·rw[if_pos h2,if_pos h2];exact⟨rfl,.inr ⟨hm,rfl⟩⟩
    ·rw[if_neg h2,if_neg h2];exact⟨rfl,.inl ⟨rfl,rfl⟩⟩
theorem Ez(l:Led)(kp:Ret->Bool)(j:Int):0<=eF l kp j:=by unfold eF;omega
theorem Gf{l l':Led}{kp:Ret->Bool}{k:Int}(hu:gv l l' kp k)(ss:List Sig):∀ D' D:Ds,vI l kp k D' D->vI l kp k (eQ (aC l' k) D' ss) (eQ (aC l k) D ss):=by
 induction ss with
 |nil=>exact fun D' D h=>h
 |cons s r ih=>
  intro D' D h
  show vI l kp k (eQ _ (qE (aC l' k) D' s) r) (eQ _ (qE (aC l k) D s) r)
  refine ih _ _ ?_
  obtain⟨h2,h1⟩:=Gc hu s
  unfold qE
  rw[h2]
  rcases h1 with⟨a,b⟩ | ⟨a,b⟩
  ·rw[a,b];exact h
  ·have a0:=(tY hu _ a).1
   rw[if_pos (by rw[b];exact Ez _ _ _),if_pos a0]
   intro j hj
   unfold nu
   rw[qL,qL,b,h _ a]
   by_cases hc:(bf (aC l k) s).1=j
   ·rw[if_pos ((Ge hu a hj).2 hc),if_pos hc]
   ·rw[if_neg (fun e=>hc ((Ge hu a hj).1 e)),if_neg hc]
    exact h j hj
theorem Qh{l l':Led}{kp:Ret->Bool}{k:Int}(hu:gv l l' kp k)(s:Sig):gi (aC l' k) s=gi (aC l k) s:=by
 obtain⟨h2,h1⟩:=Gc hu s
 unfold gi
 rw[h2]
 rcases h1 with⟨a,b⟩ | ⟨a,b⟩
 ·rw[a,b]
 ·have a0:=(tY hu _ a).1
  have b0:=Ez l kp (bf (aC l k) s).1
  have e1:decide ((bf (aC l' k) s).1>=0)=true:=by rw[b,decide_eq_true_eq];exact b0
  have e2:decide ((bf (aC l k) s).1>=0)=true:=by rw[decide_eq_true_eq];exact a0
  rw[e1,e2]
theorem AO{l l':Led}{kp:Ret->Bool}{k:Int}(hu:gv l l' kp k)(ss:List Sig):fM (aC l' k) ss=fM (aC l k) ss:=by
 unfold fM
 have e1:ss.all (gi (aC l' k))=ss.all (gi (aC l k)):=by congr 1;funext s;exact Qh hu s
 have hd:=Gf hu ss _ _ (Gg hu)
 have e2:ve (aC l' k).ts (eQ (aC l' k) (aC l' k).ds ss)=ve (aC l k).ts (eQ (aC l k) (aC l k).ds ss):=by
  unfold ve
  rw[Gd hu,List.all_map,Bool.eq_iff_iff,List.all_eq_true,List.all_eq_true]
  constructor
  ·intro h j hj
   have :=h j hj
   simp only[Function.comp_apply]at this
   rw[hd j hj]at this
   exact this
  ·intro h j hj
   simp only[Function.comp_apply]
   rw[hd j hj]
   exact h j hj
 rw[e1,e2]
theorem MJ{l l':Led}{kp:Ret->Bool}{k:Int}(hu:gv l l' kp k):eS l' k=eS l k:=by
 unfold eS
 rw[AM hu,mu,mu,hu.ss,AO hu]
theorem MI{l l':Led}{kp:Ret->Bool}{k:Int}(hu:gv l l' kp k)(pa le day:Int):rq (gh (aC l' k) k) pa le day=rq (gh (aC l k) k) pa le day:=by
 unfold rq
 have e1:(gh (aC l' k) k).rs=(aC l k).rs:=wV hu
 have e2:(gh (aC l k) k).rs=(aC l k).rs:=rfl
 have e3:(gh (aC l' k) k).bk=(aC l' k).bk:=rfl
 have e4:(gh (aC l k) k).bk=(aC l k).bk:=rfl
 have hd:vI l kp k (gh (aC l' k) k).ds (gh (aC l k) k).ds:=by
  unfold gh
  rw[mu,mu,hu.ss]
  exact Gf hu _ _ _ (Gg hu)
 rw[e1,e2,e3,e4]
 cases gN (aC l k).rs pa le day with
 |none=>rfl
 |some r=>
  simp only[AP hu]
  cases hb:bt (aC l k).bk (r.so,le)with
  |none=>rfl
  |some i=>
   simp only[Option.map_some]
   rw[hd i (AN hb)]
theorem V0(x:Fol):yq (lZ x)=x:=rfl
@[go_sem] theorem adB(l:List Fol):(l.map lZ).map yq=l:=oH V0 l
def Hw(so:Int)(t:Ret):Bool:=t.so != so
def wA(l:Led)(so:Int)(i:Nat):Nat:=((l.ts.take i).filter (Hw so)).length
def zP(l:Led)(so:Int)(j:Int):Int:=(wA l so j.toNat:Int)
structure UnK (l:Led) (so k:Int):Prop where
 rs:∀ r∈l.rs,r.so=so->cQ r.kn r.un k=false
 ts:∀ t∈l.ts,t.so=so->cQ t.kn t.un k=false
 ss:∀ s∈l.ss,s.so=so->cQ s.kn s.un k=false
structure adH (l:Led) (so k:Int) (i:Nat):Prop where
 ts:(aw (zt l so) k (wA l so i)).ts=(aw l k i).ts.map (zP l so)
 bk:∀ q,bt (aw (zt l so) k (wA l so i)).bk q=(bt (aw l k i).bk q).map (zP l so)
 ds:∀ j∈(aw l k i).ts,bI (aw (zt l so) k (wA l so i)).ds (zP l so j)=bI (aw l k i).ds j
 kp:∀ j∈(aw l k i).ts,0<=j/\j<i/\Hw so (aI l j.toNat)=true
def rD(l:Led)(k:Int):List Int:=(aC l k).ts.map (mZ l)
def fq(l:Led)(k:Int):Led:=⟨l.ps,l.rs.filter fun r=>decide (r.kn<=k),l.ts.filter fun t=>(rD l k).contains t.so,l.ss.filter fun s=>decide (s.kn<=k)⟩
theorem J4{α:Type}{kn:α->Int}{c:α->Bool}{k:Int}{l:List α}(h:∀ x,c x=true->kn x<=k):(l.filter fun x=>decide (kn x<=k)).filter c=l.filter c:=by
 rw[List.filter_filter]
 refine List.filter_congr fun x _=>?_
 cases hc:c x with
 |false=>rfl
 |true=>rw[decide_eq_true (h x hc)];rfl
theorem KF{kn un k:Int}(h:cQ kn un k=true):kn<=k:=by
 unfold cQ at h
 simp only[Bool.and_eq_true,decide_eq_true_eq]at h
 exact h.1
theorem nU(l:Led)(k:Int):gv l (fq l k) (fun t=>(rD l k).contains t.so) k where
 ts:=rfl
 rs:=J4 (kn:=Rec.kn) fun x h=>KF h
 ss:=J4 (kn:=Sig.kn) fun x h=>KF h
 nt:=fun i hi hk=>by
  have hn:=FZ (zE l k i (by omega))
  by_cases hb:gf l k (br l k i) i=true
  ·exfalso
   have h1:(br l k l.ts.length).getD i false=true:=by rw[Eh l.ts.length hi (Nat.le_refl _)];exact hb
   have h2:(i:Int)∈(aC l k).ts:=((tk l k).ts i).1 h1
   have h3:(rD l k).contains (aI l i).so=true:=by
    rw[List.contains_iff_mem]
    unfold rD
    rw[List.mem_map]
    exact⟨_,h2,by unfold mZ;rw[Int.toNat_natCast]⟩
   rw[hk]at h3;cases h3
  ·rw[if_neg hb]at hn;exact hn
theorem Vm{l:Led}(h:b7 l)(k:Int):b7 (fq l k) where
 ps:=h.ps
 psn:=h.psn
 rs:=DB _ h.rs
 rsn:=Nat.le_trans (List.length_filter_le _ _) h.rsn
 ts:=DB _ h.ts
 tsn:=Nat.le_trans (List.length_filter_le _ _) h.tsn
 ss:=DB _ h.ss
 ssn:=Nat.le_trans (List.length_filter_le _ _) h.ssn
 rl:=fun j hj=>by
  have hm:(fq l k).rs[j]∈l.rs:=(List.mem_filter.1 (List.getElem_mem hj)).1
  obtain⟨i,hi,e⟩:=List.getElem_of_mem hm
  have :=h.rl i hi
  rw[e]at this
  exact this
 sl:=fun j hj=>by
  have hm:(fq l k).ss[j]∈l.ss:=(List.mem_filter.1 (List.getElem_mem hj)).1
  obtain⟨i,hi,e⟩:=List.getElem_of_mem hm
  have :=h.sl i hi
  rw[e]at this
  exact this
 nd:=by
  refine List.Nodup.sublist ?_ h.nd
  unfold tv fq
  exact((List.filter_sublist.map _).append (List.filter_sublist.map _)).append (List.filter_sublist.map _)
theorem Vn(l:Led)(k:Int):eS (fq l k) k=eS l k:=MJ (nU l k)
theorem yb{l:Led}{ds:List Int}(hd:cM l ds=0)(k:Int):cM (fq l k) ds=0:=by
 have aa:=(vm hd).1
 have mA:=Vm aa k
 rw[<-Lu]at hd |-
 unfold y8 at hd |-
 rw[if_neg (by rw[tP.2 mA];decide)]
 rw[if_neg (by rw[tP.2 aa];decide)]at hd
 exact hd
theorem JQ{l:Led}{day k:Int}(hd:cM l [day,k]=0)(f:Fol):ld (fq l k) f day k=ld l f day k:=by
 unfold ld
 rw[yb hd,hd,Vn];rfl
theorem Vk{l:Led}{day k:Int}(hd:cM l [day,k]=0)(f:Fol):td (fq l k) f day k=td l f day k:=by
 unfold td
 rw[JQ hd,MI (nU l k)]
theorem Vp{l:Led}{k:Int}(hd:cM l [k]=0):pg (fq l k) k=pg l k:=by
 unfold pg
 rw[yb hd,hd,AM (nU l k)]
theorem JS(l:Led)(k:Int):kN (fq l k) k=kN l k:=by
 unfold kN
 have e1:qU (fq l k) k=qU l k:=by funext s;unfold qU;rw[AO (nU l k)]
 have e2:nZ (fq l k) k=nZ l k:=by funext s t;unfold nZ;rw[AO (nU l k)]
 rw[(nU l k).ss,e1,e2]
theorem JR{l:Led}{k:Int}(hd:cM l [k]=0):kr (fq l k) k=kr l k:=by
 unfold kr
 rw[yb hd,hd,AM (nU l k)]
theorem Vr{l:Led}{k:Int}(hd:cM l [k]=0):ju (fq l k) k=ju l k:=by
 unfold ju
 rw[JR hd,JS]
theorem Vq{l:Led}{k:Int}(hd:cM l [k]=0):mO (fq l k) k=mO l k:=by
 unfold mO
 rw[JR hd,JS]
theorem Vl{l:Led}{k:Int}(hd:cM l [k]=0):ot (fq l k) k=ot l k:=by
 have e:(aC (fq l k) k).ts.map (mZ (fq l k))=(aC l k).ts.map (mZ l):=by
  rw[Gd (nU l k),List.map_map]
  refine List.map_congr_left fun j hj=>?_
  show (aI (fq l k) (eF l _ j).toNat).so=(aI l j.toNat).so
  rw[AQ (nU l k) hj]
 unfold ot
 rw[yb hd,hd,e]
noncomputable section
theorem CF{α:Type}{p:α->Bool}{l:List α}{i:Nat}(h:i<l.length)(hc:p l[i]=true):(l.take (i+1)).filter p=(l.take i).filter p++[l[i]]:=by
 rw[tp h,if_pos hc]
theorem CG{α:Type}{p:α->Bool}{l:List α}{i:Nat}(h:i<l.length)(hc:p l[i]=false):(l.take (i+1)).filter p=(l.take i).filter p:=by
 rw[tp h,if_neg (by rw[hc];decide)];simp
theorem CH{α:Type}(p:α->Bool)(l:List α)(i:Nat):((l.take i).filter p).length<=l.length:=Nat.le_trans (List.length_filter_le _ _) (by simp;omega)
def GJ(k:Int)(r:Rec):Bool:=decide (r.kn<=k)
def GI(k:Int)(r:Sig):Bool:=decide (r.kn<=k)
def GH(l:Led)(k:Int)(t:Ret):Bool:=(rD l k).contains t.so
def kG(l:Led)(k:Int)(s:Nat):List Rec:=(l.rs.take s).filter (GJ k)
def lY(l:Led)(k:Int)(s:Nat):List Ret:=(l.ts.take s).filter (GH l k)
def mI(l:Led)(k:Int)(s:Nat):List Sig:=(l.ss.take s).filter (GI k)
theorem Vo(l:Led)(k:Int):(⟨l.ps,kG l k l.rs.length,lY l k l.ts.length,mI l k l.ss.length⟩:Led)=fq l k:=by
 unfold kG lY mI
 rw[List.take_length,List.take_length,List.take_length]
 rfl
attribute [local irreducible] iH js aO nT
def K96:List (Nat×Spec):=[(19,L0),(20,DH),(41,LX),(23,LY),(42,Xy),(43,Xx),(24,DG),(15,px),(18,DJ)]
theorem X7:KS K96:=tc N'.sound<|tc EK.sound<|tc N3.sound<|tc N7.sound<|tc N2.sound<|tc N1.sound<|tc N6.sound<|tc wh.sound<|tc Of.sound<|tn
attribute [go_sem] K96
@[go_sem] def P7:PSpec:=p2 uu Bp (fun _ _=>True) (fun _ _=>.bool true) true
@[go_sem] def S7:Spec:=P7.toSpec
set_option maxHeartbeats 4000000 in
theorem s7:aU Tryz.prog 7 P7:=by
 refine dV (rs:=[.tmp 4]) Tryz.func7 Tryz.ntmps7 fun r n hp hw=>?_
 have hP:=fB
 simp only[Bp,uu]at hw |-
 have hΓ:=X7
 have m3:=dj (n:=n.a) (m:=200) (by decide)
 have m2:=dj (n:=n.d) (m:=220) (by decide)
 have mc:=dj (n:=n.b) (m:=3) (by decide)
 have aa:=Qe r
 have hd:cM (iH r) [aO n.a 200]=0:=Kw aa fun d hd=>by
  simp only[List.mem_singleton]at hd;omega
 have jS:cM (iH r) [aO n.d 220,aO n.a 200]=0:=Kw aa fun d hd=>by
  simp only[List.mem_cons,List.not_mem_nil,or_false]at hd;omega
 obtain⟨qm,l1,l2,p1,p2⟩:=tV (tW n.b)
 have ml:=dj (n:=n.c) (m:=(cR n.b).lv) (by omega)
 have uC:IntKind.i64.wrap (1+aO n.c (cR n.b).lv)=1+aO n.c (cR n.b).lv:=wrap_i64 (by omega) (by omega)
 have I8:(mps.length:Int)=3:=rfl
 have ql:0<=aO n.b 3:=mc.1
 have mD:aO n.b 3<((iH r).ps.length:Int):=by rw[F7];omega
 have uU:((iH r).ps.map cK).getD (aO n.b 3).toNat default=cK (cR n.b):=by
  rw[F7]
  have hl:(aO n.b 3).toNat<mps.length:=by omega
  rw[ah hl];unfold cR;rw[dv hl]
 have mz:ot (iH r) (aO n.a 200)=.tup [.sl ((rD (iH r) (aO n.a 200)).map vInt),vInt 0]:=by unfold ot;rw[if_pos hd];rfl
 have f1:=fun f=>JQ jS f
 have Vz:=fun f=>Vk jS f
 have f2:=Vp hd
 have f3:=Vq hd
 have f4:=Vr hd
 have f5:=Vl hd
 rw[mz]at f5
 obtain⟨da,de,Jr⟩:∃ (a:List Int) (e:Int),pg (iH r) (aO n.a 200)=.tup [.sl (a.map vInt),vInt e]:=by
  unfold pg
  rw[if_pos hd]
  cases ek (aC (iH r) (aO n.a 200))with
  |some p=>exact⟨[p.1,p.2],0,rfl⟩
  |none=>exact⟨[],28,rfl⟩
 rw[Jr]at f2
 have b1:=aa.rsn
 have b2:=aa.tsn
 have b3:=aa.ssn
 repeat refine sq ?_
 refine rx hΓ [2,3] [[2,0],[3,0]] (fun K' hK=>by simp only[go_sem];exact ao) ?_
 repeat refine sq ?_
 refine rx hΓ [3,5] [[3,0],[5,0]] (fun K' hK=>by simp only[go_sem];exact ao) ?_
 repeat refine sq ?_
 refine rx hΓ [3,5,7] [[3,0],[5,0]] (fun K' hK=>by simp only[go_sem,Int.cast_ofNat_Int,Int.reduceToNat,Int.toNat_zero,Int.toNat_one,Nat.reduceMul,Nat.zero_mul,Nat.one_mul,List.getD_cons_succ,List.getD_cons_zero];(repeat (refine⟨by first | exact ak | exact⟨by decide,by decide⟩,?_⟩));exact fe) ?_
 repeat refine sq ?_
 refine rx hΓ [3,5,7,8,9] [[3,0],[5,0]] (fun K' hK=>by simp only[go_sem,mz];exact ao) ?_
 generalize hk:aO n.a 200=k at *
 generalize hl:iH r=l at *
 have c1:l.rs.length<=maxLen:=by unfold maxLen;omega
 have c2:l.ts.length<=maxLen:=by unfold maxLen;omega
 have c3:l.ss.length<=maxLen:=by unfold maxLen;omega
 repeat refine sq ?_
 refine rx hΓ [3,5,7,8,9,10] [[3,0],[5,0],[10,0],[71,0],[96,0],[121,0]] (fun K' hK=>by simp only[go_sem];exact ao) ?_
 refine bU (oh [10,0] [71,0] 1 7 _ rfl rfl rfl [3,5,7,8,9,10] [[3,0],[5,0],[10,0],[71,0],[96,0],[121,0]] ?_ rfl) ?_
 ·simp only[go_sem,List.set_cons_succ,List.set_cons_zero]
 simp only[go_sem,List.set_cons_succ,List.set_cons_zero]
 refine bU (oh [10,0] [96,0] 2 8 _ rfl rfl rfl [3,5,7,8,9,10] [[3,0],[5,0],[10,0],[71,0],[96,0],[121,0]] ?_ rfl) ?_
 ·simp only[go_sem,List.set_cons_succ,List.set_cons_zero]
 simp only[go_sem,List.set_cons_succ,List.set_cons_zero]
 repeat refine sq ?_
 refine rx hΓ [3,5,7,8,9,10,11] [[3,0],[5,0],[10,0],[71,0],[96,0],[121,0]] (fun K' hK=>by simp only[go_sem];exact ao) ?_
 refine bU (oh [10,0] [121,0] 3 7 _ rfl rfl rfl [3,5,7,8,9,10,11] [[3,0],[5,0],[10,0],[71,0],[96,0],[121,0]] ?_ rfl) ?_
 ·simp only[go_sem,List.set_cons_succ,List.set_cons_zero]
 simp only[go_sem,List.set_cons_succ,List.set_cons_zero]
 repeat refine sq ?_
 refine aQ ?_
 repeat refine sq ?_
 refine cr (fun s:Nat=>[(11,⟨true,.v (vInt s)⟩)]) (fun s=>[([10,0],.box [.v (.sl (l.ps.map cK)),.msl [71,0] (kG l k s).length,.msl [96,0] 0,.msl [121,0] 0]),([71,0],.arr 7 ((kG l k s).map encR))]) (fun s=>s<=l.rs.length) (fun s=>l.rs.length-s) 0 ?_ ?_ ?_ ?_
 ·exact Nat.zero_le _
 ·rfl
 ·rfl
 rintro i hi
 simp only[go_sem]
 repeat refine sq ?_
 refine rx hΓ [3,5,7,8,9,10,11,52] [[3,0],[5,0],[10,0],[71,0],[96,0],[121,0]] (fun K' hK=>by simp only[go_sem];exact ao) ?_
 repeat refine sq ?_
 refine aB (fun hb=>?_) fun hb=>?_
 ·have ae:i<l.rs.length:=by simpa using hb
  have au:(i:Int)<l.rs.length:=by omega
  clear hb
  have q1:=CH (GJ k) l.rs i
  repeat refine sq ?_
  refine aG ?_
  repeat refine sq ?_
  refine aQ ?_
  repeat refine sq ?_
  refine rx hΓ [3,5,7,8,9,10,11,62] [[3,0],[5,0],[10,0],[71,0],[96,0],[121,0]] (fun K' hK=>by simp only[go_sem,ah ae,ai,aj,au,ah ae,au,ai,aj,List.length_map];exact ao) ?_
  repeat refine sq ?_
  refine aB (fun hb=>?_) fun hb=>?_
  ·repeat refine sq ?_
   have hf:kG l k (i+1)=kG l k i++[l.rs[i]]:=CF ae hb
   repeat refine sq ?_
   refine nY hΓ hP [[],[0],[],[2],[],[2,3,4],[2,3,4,5],[2,3,4,5,6],u8,u9,dI] (by kernel_rfl) fun K' hK=>?_
   simp only[go_sem,ah ae,ai,aj,au,ah ae,au,ai,aj,List.length_map]
   repeat (refine⟨by first | exact ak | exact⟨rfl,by unfold kG;omega,by unfold kG maxLen;omega⟩,?_⟩)
   first | refine⟨by rfl,?_⟩ | skip
   refine hK _ ?_
   clear K' hK
   simp only[go_sem]
   refine kp [3,5,7,8,9,10,11] [[3,0],[5,0],[10,0],[71,0],[96,0],[121,0]] ?_
   repeat refine sq ?_
   refine aY hΓ fun K' hK=>?_
   simp only[go_sem,ah ae,ai,aj,au]
   repeat (refine⟨ak,?_⟩)
   refine hK _ ?_
   clear K' hK
   simp only[go_sem]
   refine⟨i+1,ae,by(show l.rs.length-(i+1)<l.rs.length-i;omega),?_⟩
   refine bq [3,5,7,8,9,10,11] [[3,0],[5,0],[10,0],[71,0],[96,0],[121,0]] ?_ ?_<;>simp only[go_sem,be ae c1,bj,hf,List.map_append,List.map_cons,List.map_nil,List.length_append,List.length_cons,List.length_nil]
  ·repeat refine sq ?_
   have hf:kG l k (i+1)=kG l k i:=CG ae hb
   refine aG ?_
   refine bV ?_
   simp only[go_sem]
   refine kp [3,5,7,8,9,10,11] [[3,0],[5,0],[10,0],[71,0],[96,0],[121,0]] ?_
   repeat refine sq ?_
   refine aY hΓ fun K' hK=>?_
   simp only[go_sem,ah ae,ai,aj,au]
   repeat (refine⟨ak,?_⟩)
   refine hK _ ?_
   clear K' hK
   simp only[go_sem]
   refine⟨i+1,ae,by(show l.rs.length-(i+1)<l.rs.length-i;omega),?_⟩
   refine bq [3,5,7,8,9,10,11] [[3,0],[5,0],[10,0],[71,0],[96,0],[121,0]] ?_ ?_<;>simp only[go_sem,be ae c1,bj,hf,List.map_append,List.map_cons,List.map_nil,List.length_append,List.length_cons,List.length_nil]
 ·have bw:i=l.rs.length:=by
   have :¬ (i:Int)<l.rs.length:=by simpa using hb
   omega
  clear hb
  subst bw
  repeat refine sq ?_
  refine bM ?_
  simp only[go_sem]
  refine kp [3,5,7,8,9,10] [[3,0],[5,0],[10,0],[71,0],[96,0],[121,0]] ?_
  repeat refine sq ?_
  refine rx hΓ [3,5,7,8,9,10,12] [[3,0],[5,0],[10,0],[71,0],[96,0],[121,0]] (fun K' hK=>by simp only[go_sem];exact ao) ?_
  repeat refine sq ?_
  refine aQ ?_
  repeat refine sq ?_
  refine cr (fun s:Nat=>[(12,⟨true,.v (vInt s)⟩)]) (fun s=>[([10,0],.box [.v (.sl (l.ps.map cK)),.msl [71,0] (kG l k l.rs.length).length,.msl [96,0] (lY l k s).length,.msl [121,0] 0]),([96,0],.arr 8 ((lY l k s).map c9))]) (fun s=>s<=l.ts.length) (fun s=>l.ts.length-s) 0 ?_ ?_ ?_ ?_
  ·exact Nat.zero_le _
  ·rfl
  ·rfl
  rintro i1 hi
  simp only[go_sem]
  repeat refine sq ?_
  refine rx hΓ [3,5,7,8,9,10,12,77] [[3,0],[5,0],[10,0],[71,0],[96,0],[121,0]] (fun K' hK=>by simp only[go_sem];exact ao) ?_
  repeat refine sq ?_
  refine aB (fun hb=>?_) fun hb=>?_
  ·have aJ:i1<l.ts.length:=by simpa using hb
   have bh:(i1:Int)<l.ts.length:=by omega
   clear hb
   have q1:=CH (GH l k) l.ts i1
   repeat refine sq ?_
   refine aG ?_
   repeat refine sq ?_
   refine aQ ?_
   repeat refine sq ?_
   refine rx hΓ [3,5,7,8,9,10,12,87] [[3,0],[5,0],[10,0],[71,0],[96,0],[121,0]] (fun K' hK=>by simp only[go_sem,ah aJ,ai,aj,bh,ah aJ,bh,ai,aj,List.length_map];exact ao) ?_
   repeat refine sq ?_
   refine aB (fun hb=>?_) fun hb=>?_
   ·repeat refine sq ?_
    have hf:lY l k (i1+1)=lY l k i1++[l.ts[i1]]:=CF aJ hb
    repeat refine sq ?_
    refine nY hΓ hP [[],[0],[],[2],[],[2,3,4],[2,3,4,5],[2,3,4,5,6],u8,u9,dI] (by kernel_rfl) fun K' hK=>?_
    simp only[go_sem,ah aJ,ai,aj,bh,ah aJ,bh,ai,aj,List.length_map]
    repeat (refine⟨by first | exact ak | exact⟨rfl,by unfold lY;omega,by unfold lY maxLen;omega⟩,?_⟩)
    first | refine⟨by rfl,?_⟩ | skip
    refine hK _ ?_
    clear K' hK
    simp only[go_sem]
    refine kp [3,5,7,8,9,10,12] [[3,0],[5,0],[10,0],[71,0],[96,0],[121,0]] ?_
    repeat refine sq ?_
    refine aY hΓ fun K' hK=>?_
    simp only[go_sem,ah aJ,ai,aj,bh]
    repeat (refine⟨ak,?_⟩)
    refine hK _ ?_
    clear K' hK
    simp only[go_sem]
    refine⟨i1+1,aJ,by(show l.ts.length-(i1+1)<l.ts.length-i1;omega),?_⟩
    refine bq [3,5,7,8,9,10,12] [[3,0],[5,0],[10,0],[71,0],[96,0],[121,0]] ?_ ?_<;>simp only[go_sem,be aJ c2,bj,hf,List.map_append,List.map_cons,List.map_nil,List.length_append,List.length_cons,List.length_nil]
   ·repeat refine sq ?_
    have hf:lY l k (i1+1)=lY l k i1:=CG aJ hb
    refine aG ?_
    refine bV ?_
    simp only[go_sem]
    refine kp [3,5,7,8,9,10,12] [[3,0],[5,0],[10,0],[71,0],[96,0],[121,0]] ?_
    repeat refine sq ?_
    refine aY hΓ fun K' hK=>?_
    simp only[go_sem,ah aJ,ai,aj,bh]
    repeat (refine⟨ak,?_⟩)
    refine hK _ ?_
    clear K' hK
    simp only[go_sem]
    refine⟨i1+1,aJ,by(show l.ts.length-(i1+1)<l.ts.length-i1;omega),?_⟩
    refine bq [3,5,7,8,9,10,12] [[3,0],[5,0],[10,0],[71,0],[96,0],[121,0]] ?_ ?_<;>simp only[go_sem,be aJ c2,bj,hf,List.map_append,List.map_cons,List.map_nil,List.length_append,List.length_cons,List.length_nil]
  ·have iQ:i1=l.ts.length:=by
    have :¬ (i1:Int)<l.ts.length:=by simpa using hb
    omega
   clear hb
   subst iQ
   repeat refine sq ?_
   refine bM ?_
   simp only[go_sem]
   refine kp [3,5,7,8,9,10] [[3,0],[5,0],[10,0],[71,0],[96,0],[121,0]] ?_
   repeat refine sq ?_
   refine rx hΓ [3,5,7,8,9,10,13] [[3,0],[5,0],[10,0],[71,0],[96,0],[121,0]] (fun K' hK=>by simp only[go_sem];exact ao) ?_
   repeat refine sq ?_
   refine aQ ?_
   repeat refine sq ?_
   refine cr (fun s:Nat=>[(13,⟨true,.v (vInt s)⟩)]) (fun s=>[([10,0],.box [.v (.sl (l.ps.map cK)),.msl [71,0] (kG l k l.rs.length).length,.msl [96,0] (lY l k l.ts.length).length,.msl [121,0] (mI l k s).length]),([121,0],.arr 7 ((mI l k s).map encS))]) (fun s=>s<=l.ss.length) (fun s=>l.ss.length-s) 0 ?_ ?_ ?_ ?_
   ·exact Nat.zero_le _
   ·rfl
   ·rfl
   rintro i2 hi
   simp only[go_sem]
   repeat refine sq ?_
   refine rx hΓ [3,5,7,8,9,10,13,102] [[3,0],[5,0],[10,0],[71,0],[96,0],[121,0]] (fun K' hK=>by simp only[go_sem];exact ao) ?_
   repeat refine sq ?_
   refine aB (fun hb=>?_) fun hb=>?_
   ·have bN:i2<l.ss.length:=by simpa using hb
    have fk:(i2:Int)<l.ss.length:=by omega
    clear hb
    have q1:=CH (GI k) l.ss i2
    repeat refine sq ?_
    refine aG ?_
    repeat refine sq ?_
    refine aQ ?_
    repeat refine sq ?_
    refine rx hΓ [3,5,7,8,9,10,13,112] [[3,0],[5,0],[10,0],[71,0],[96,0],[121,0]] (fun K' hK=>by simp only[go_sem,ah bN,ai,aj,fk,ah bN,fk,ai,aj,List.length_map];exact ao) ?_
    repeat refine sq ?_
    refine aB (fun hb=>?_) fun hb=>?_
    ·repeat refine sq ?_
     have hf:mI l k (i2+1)=mI l k i2++[l.ss[i2]]:=CF bN hb
     repeat refine sq ?_
     refine nY hΓ hP [[],[0],[],[2],[],[2,3,4],[2,3,4,5],[2,3,4,5,6],u8,u9,dI] (by kernel_rfl) fun K' hK=>?_
     simp only[go_sem,ah bN,ai,aj,fk,ah bN,fk,ai,aj,List.length_map]
     repeat (refine⟨by first | exact ak | exact⟨rfl,by unfold mI;omega,by unfold mI maxLen;omega⟩,?_⟩)
     first | refine⟨by rfl,?_⟩ | skip
     refine hK _ ?_
     clear K' hK
     simp only[go_sem]
     refine kp [3,5,7,8,9,10,13] [[3,0],[5,0],[10,0],[71,0],[96,0],[121,0]] ?_
     repeat refine sq ?_
     refine aY hΓ fun K' hK=>?_
     simp only[go_sem,ah bN,ai,aj,fk]
     repeat (refine⟨ak,?_⟩)
     refine hK _ ?_
     clear K' hK
     simp only[go_sem]
     refine⟨i2+1,bN,by(show l.ss.length-(i2+1)<l.ss.length-i2;omega),?_⟩
     refine bq [3,5,7,8,9,10,13] [[3,0],[5,0],[10,0],[71,0],[96,0],[121,0]] ?_ ?_<;>simp only[go_sem,be bN c3,bj,hf,List.map_append,List.map_cons,List.map_nil,List.length_append,List.length_cons,List.length_nil]
    ·repeat refine sq ?_
     have hf:mI l k (i2+1)=mI l k i2:=CG bN hb
     refine aG ?_
     refine bV ?_
     simp only[go_sem]
     refine kp [3,5,7,8,9,10,13] [[3,0],[5,0],[10,0],[71,0],[96,0],[121,0]] ?_
     repeat refine sq ?_
     refine aY hΓ fun K' hK=>?_
     simp only[go_sem,ah bN,ai,aj,fk]
     repeat (refine⟨ak,?_⟩)
     refine hK _ ?_
     clear K' hK
     simp only[go_sem]
     refine⟨i2+1,bN,by(show l.ss.length-(i2+1)<l.ss.length-i2;omega),?_⟩
     refine bq [3,5,7,8,9,10,13] [[3,0],[5,0],[10,0],[71,0],[96,0],[121,0]] ?_ ?_<;>simp only[go_sem,be bN c3,bj,hf,List.map_append,List.map_cons,List.map_nil,List.length_append,List.length_cons,List.length_nil]
   ·have lR:i2=l.ss.length:=by
     have :¬ (i2:Int)<l.ss.length:=by simpa using hb
     omega
    clear hb
    subst lR
    have xN:=Vo l k
    repeat refine sq ?_
    refine bM ?_
    simp only[go_sem]
    refine kp [3,5,7,8,9,10] [[3,0],[5,0],[10,0],[71,0],[96,0],[121,0]] ?_
    repeat refine sq ?_
    refine dx hΓ hP [[],[0],[],[2],[2,3],u5,u6,[],u8] [3,5,7,8,9,10,14] [[3,0],[5,0],[10,0],[14,0],[71,0],[96,0],[121,0]] (by kernel_rfl) (fun K' hK=>by simp only[go_sem,Int.cast_ofNat_Int,Int.reduceToNat,Int.toNat_zero,Int.toNat_one,Nat.reduceMul,Nat.zero_mul,Nat.one_mul,List.getD_cons_succ,List.getD_cons_zero,uU,ql,mD,List.length_map];(repeat (refine⟨by first | exact ak | exact⟨by decide,by decide⟩,?_⟩));exact gH) ?_
    repeat refine sq ?_
    refine dx hΓ hP [[],[0],[],[2],[],[4],[2,3,4,5],[2,3,4,5,6],u8,[],dI] [3,5,7,8,9,10,15] [[3,0],[5,0],[10,0],[15,0],[71,0],[96,0],[121,0]] (by kernel_rfl) (fun K' hK=>by simp only[go_sem,Int.cast_ofNat_Int,Int.reduceToNat,Int.toNat_zero,Int.toNat_one,Nat.reduceMul,Nat.zero_mul,Nat.one_mul,List.getD_cons_succ,List.getD_cons_zero,uC];(repeat (refine⟨by first | exact ak | exact⟨by omega,by omega⟩,?_⟩));exact gH) ?_
    repeat refine sq ?_
    refine rx hΓ [5,7,8,9,10,15,16] [[5,0],[10,0],[15,0],[71,0],[96,0],[121,0]] (fun K' hK=>by simp only[go_sem,Int.cast_ofNat_Int,Int.reduceToNat,Int.toNat_zero,Int.toNat_one,Nat.reduceMul,Nat.zero_mul,Nat.one_mul,List.getD_cons_succ,List.getD_cons_zero];(repeat (refine⟨by first | exact ak | exact⟨by decide,by decide⟩,?_⟩));exact fe) ?_
    repeat refine sq ?_
    refine rx hΓ [5,7,8,9,10,15,16,17,18] [[5,0],[10,0],[15,0],[71,0],[96,0],[121,0]] (fun K' hK=>by simp only[go_sem,vQ];exact ao) ?_
    repeat refine sq ?_
    refine rx hΓ [5,7,8,9,10,17,18,19,20] [[5,0],[10,0],[71,0],[96,0],[121,0]] (fun K' hK=>by simp only[go_sem,xN,vQ,f1,Vz];exact ao) ?_
    repeat refine sq ?_
    refine rx hΓ [5,7,8,9,10,17,18,19,20,21,22] [[5,0],[10,0],[71,0],[96,0],[121,0]] (fun K' hK=>by simp only[go_sem,Jr];exact ao) ?_
    repeat refine sq ?_
    refine rx hΓ [5,7,8,9,10,17,18,19,20,21,22,23,24] [[5,0],[10,0],[71,0],[96,0],[121,0]] (fun K' hK=>by simp only[go_sem,xN,f2];exact ao) ?_
    repeat refine sq ?_
    refine rx hΓ [7,8,9,10,17,18,19,20,21,22,23,24,25,26] [[10,0],[71,0],[96,0],[121,0]] (fun K' hK=>by simp only[go_sem];exact ao) ?_
    repeat refine sq ?_
    refine rx hΓ [7,8,9,10,17,18,19,20,21,22,23,24,25,26,27,28] [[10,0],[71,0],[96,0],[121,0]] (fun K' hK=>by simp only[go_sem,xN,f3,f4];exact ao) ?_
    repeat refine sq ?_
    refine rx hΓ [8,9,17,18,19,20,21,22,23,24,25,26,27,28,29,30] [] (fun K' hK=>by simp only[go_sem,xN,f5];exact ao) ?_
    repeat refine sq ?_
    refine rx hΓ [4] [] (fun K' hK=>by simp only[go_sem,decide_true,beq_self_eq_true,Bool.and_self];exact ao) ?_
    refine ay ?_
    simp only[go_sem]
    first | done | rfl
end
open Go
def gO(P:Program)(t:TypeId):Bool:=match P.underlying t with | some (.struct _)=>true | some (.array _ _)=>true | _=>false
def lA(ag:Bool)(xs:List V):V:=if ag then .agg xs else xs.getD 0 default
def mf(P:Program):List Field->Nat->Nat->Bool
 |[],off,tot=>off==tot
 |f::r,off,tot=>f.offset==off&&mf P r (off+P.cellsOf f.type) tot
def jC(P:Program):Nat->TypeId->Bool
 | 0,_=>false
 |n+1,t=>match P.underlying t with
  |some .bool=>P.cellsOf t==1
  |some (.int _)=>P.cellsOf t==1
  |some .string=>P.cellsOf t==1
  |some (.slice e)=>P.cellsOf t==1&&jC P n e&&decide (0<P.cellsOf e)&&(gO P e||P.cellsOf e==1)
  |some (.struct fs)=>mf P fs.toList 0 (P.cellsOf t)&&fs.toList.all fun f=>jC P n f.type
  |some (.array m e)=>P.cellsOf t==m*P.cellsOf e&&jC P n e
  |_=>false
def vC(S:TypeId->List V->Prop):List TypeId->List V->Prop
 |[],xs=>xs=[]
 |t::r,xs=>∃ a b,xs=a++b/\S t a/\vC S r b
def eC(P:Program):Nat->TypeId->List V->Prop
 | 0,_,_=>False
 |n+1,t,xs=>match P.underlying t with
  |some .bool=>∃ b,xs=[.bool b]
  |some (.int k)=>∃ z,xs=[.int k z]/\(Lit.int k z).wf=true
  |some .string=>∃ s,xs=[.str s]/\s.size<=maxLen
  |some (.slice e)=>∃ ls:List (List V),xs=[.sl (ls.map (lA (gO P e)))]/\ls.length<=maxLen/\∀ y∈ls,eC P n e y
  |some (.struct fs)=>vC (eC P n) (fs.toList.map (·.type)) xs
  |some (.array m e)=>vC (eC P n) (List.replicate m e) xs
  |_=>False
structure gP (m:Mem) (xs:List V) (cs:List Value):Prop where
 len:xs.length=cs.length
 rep:∀ i (h:i<xs.length) (h':i<cs.length),aK m xs[i] cs[i]
 one:∀ x∈xs,x.one=true
theorem gP.nil(m:Mem):gP m [] []:=⟨rfl,fun i h=>by simp at h,fun x h=>by simp at h⟩
theorem gP.append{m:Mem}{xs ys:List V}{cs ds:List Value}(h:gP m xs cs)(k:gP m ys ds):gP m (xs++ys) (cs++ds):=by
 refine⟨by simp[h.len,k.len],fun i h1 h2=>?_,fun x hx=>?_⟩
 ·by_cases hi:i<xs.length
  ·rw[List.getElem_append_left hi,List.getElem_append_left (by rw[<-h.len];exact hi)]
   exact h.rep i hi _
  ·have hl:=h.len
   have e:i-xs.length=i-cs.length:=by rw[hl]
   rw[List.getElem_append_right (by omega),List.getElem_append_right (by omega)]
   simp only[List.length_append]at h1 h2
   have :=k.rep (i-xs.length) (by omega) (by rw[<-k.len];omega)
   simp only[e]at this |-
   exact this
 ·rcases List.mem_append.1 hx with hx | hx
  ·exact h.one x hx
  ·exact k.one x hx
theorem gP.single{m:Mem}{x:V}{u:Value}(h:aK m x u)(ho:x.one=true):gP m [x] [u]:=
 ⟨rfl,fun i h1 h2=>by simp at h1;subst h1;exact h,fun y hy=>by simp at hy;subst hy;exact ho⟩
theorem mapM_some{α β:Type}{f:α->Option β}:∀ {l:List α} {r:List β},l.mapM f=some r->r.length=l.length/\∀ i (h:i<l.length) (h':i<r.length),f l[i]=some r[i]
 |[],r,h=>by
  simp only[List.mapM_nil]at h
  cases h
  exact⟨rfl,fun i h=>by simp at h⟩
 |a::l,r,h=>by
  simp only[List.mapM_cons,Option.bind_eq_bind,Option.bind_eq_some_iff]at h
  obtain⟨b,hb,bs,xS,hr⟩:=h
  cases hr
  obtain⟨h1,h2⟩:=mapM_some xS
  refine⟨by simp[h1],fun i hi bu=>?_⟩
  cases i with
  |zero=>exact hb
  |succ i=>exact h2 i (by simpa using hi) (by simpa using bu)
theorem Ee{P:Program}:∀ {fs:List Field} {off tot:Nat},mf P fs off tot=true->off<=tot
 |[],off,tot,h=>by simp[mf]at h;omega
 |f::r,off,tot,h=>by
  simp only[mf,Bool.and_eq_true]at h
  have :=Ee h.2
  omega
theorem J8{P:Program}{m:Mem}{S:TypeId->List V->Prop}{cs:List Value}:∀ {fs:List Field} {off:Nat},mf P fs off cs.length=true->
 (∀ f∈fs,∃ xs,S f.type xs/\gP m xs ((cs.drop f.offset).take (P.cellsOf f.type)))->∃ xs,vC S (fs.map (·.type)) xs/\gP m xs (cs.drop off)
 |[],off,h,_=>by
  simp[mf]at h
  subst h
  exact⟨[],rfl,by simpa using gP.nil m⟩
 |f::r,off,h,hf=>by
  simp only[mf,Bool.and_eq_true,beq_iff_eq]at h
  obtain⟨h1,h2⟩:=h
  obtain⟨a,ha,BB⟩:=hf f (by simp)
  obtain⟨b,hb,uK⟩:=J8 h2 fun g hg=>hf g (by simp[hg])
  refine⟨a++b,⟨a,b,rfl,ha,hb⟩,?_⟩
  have e:cs.drop off=(cs.drop f.offset).take (P.cellsOf f.type)++cs.drop (off+P.cellsOf f.type):=by
   rw[h1,<-List.drop_drop,List.take_append_drop]
  rw[e]
  exact BB.append uK
theorem Lw{m:Mem}{S:TypeId->List V->Prop}{e:TypeId}{k:Nat}{cs:List Value}:∀ (n off:Nat),cs.length=(off+n)*k->
 (∀ i,i<off+n->∃ xs,S e xs/\gP m xs ((cs.drop (i*k)).take k))->∃ xs,vC S (List.replicate n e) xs/\gP m xs (cs.drop (off*k))
 | 0,off,h,_=>by
   have :cs.drop (off*k)=[]:=List.drop_eq_nil_of_le (by rw[h];simp)
   rw[this]
   exact⟨[],rfl,gP.nil m⟩
 |n+1,off,h,hf=>by
  obtain⟨a,ha,BB⟩:=hf off (by omega)
  obtain⟨b,hb,uK⟩:=Lw n (off+1) (by rw[h];congr 1;omega) fun i hi=>hf i (by omega)
  refine⟨a++b,⟨a,b,rfl,ha,hb⟩,?_⟩
  have e:cs.drop (off*k)=(cs.drop (off*k)).take k++cs.drop ((off+1)*k):=by
   rw[Nat.succ_mul,<-List.drop_drop,List.take_append_drop]
  rw[e]
  exact BB.append uK
theorem Pt{ag:Bool}{xs:List V}(h:ag=true\/xs.length=1)(ho:∀ x∈xs,x.one=true):(lA ag xs).cells=xs:=by
 cases ag with
 |true=>rfl
 |false=>
  rcases h with h | h
  ·cases h
  match xs,h with
  |[x],_=>
   have :=ho x (by simp)
   show x.cells=[x]
   cases x<;>first | rfl | (simp[V.one]at this)
def jI(w:World):Mem:=fun b off=>w.cell? ⟨b,off,none⟩
theorem LD{a:Addr}(h:a.spot=none)(n:Nat):a.add n=⟨a.block,a.off+n,none⟩:=by
 obtain⟨b,o,s⟩:=a
 simp only at h
 subst h
 unfold Addr.add
 split
 ·rename_i e;subst e;rfl
 ·rfl
theorem wq{H:Type}{enc:TypeId×Value->H}{P:Program}{w:World}{base:Nat}{spare:Nat->Bool}{held:Bool}:
 ∀ (n fuel:Nat) (t:TypeId) (cs:List Value) (r:DataW H×List MemPlace),jC P n t=true->cs.length=P.cellsOf t->DataW.trod enc P w base spare held fuel t cs=some r->∃ xs,eC P n t xs/\gP (jI w) xs cs
 | 0,_,_,_,_,h,_,_=>by simp[jC]at h
 |n+1,0,_,_,_,_,_,h=>by simp[DataW.trod]at h
 |n+1,fuel+1,t,cs,r,hp,hlen,h=>by
  rw[DataW.trod_step]at h
  unfold DataW.trodStep at h
  unfold jC at hp
  unfold eC
  rcases hu:P.underlying t with _ | u
  ·rw[hu]at hp;simp at hp
  rw[hu]at hp h
  cases u with
  |bool=>
   have hb:∃ b,cs=[.bool b]:=by
    simp only at h
    split at h<;>simp_all
   obtain⟨b,rfl⟩:=hb
   exact⟨_,⟨b,rfl⟩,.single (.bool _) rfl⟩
  |int k=>
   simp only at hp h |-
   split at h<;>simp_all
   obtain⟨⟨rfl,h1⟩,_⟩:=h
   exact⟨_,⟨_,rfl,h1⟩,.single (.int _ _) rfl⟩
  |string=>
   simp only at hp h |-
   split at h<;>simp_all
   obtain⟨h1,_⟩:=h
   exact⟨_,⟨_,rfl,h1⟩,.single (.str _ h1) rfl⟩
  |slice e=>
   simp only[Bool.and_eq_true,decide_eq_true_eq,Bool.or_eq_true,beq_iff_eq]at hp |-
   obtain⟨⟨⟨_,xq⟩,cp⟩,UE⟩:=hp
   split at h<;>simp_all
   ·exact⟨_,⟨[],rfl,Nat.zero_le _,by simp⟩,.single (.slnil _ _) rfl⟩
   ·rename_i e' a len cap _ _
    obtain⟨⟨hb,TA,hcm⟩,h⟩:=h
    simp only[Option.bind_eq_some_iff]at h
    obtain⟨elems,Cf,_⟩:=h
    obtain⟨l1,l2⟩:=mapM_some Cf
    simp only[List.length_range]at l1
    have hx:∀ i,i<len->∃ xs cells,w.cells? base (a.add (i*P.cellsOf e')) (P.cellsOf e')=some cells/\eC P n e' xs/\gP (jI w) xs cells:=by
     intro i hi
     have h3:=l2 i (by simpa using hi) (by omega)
     simp only[List.getElem_range,Option.bind_eq_some_iff]at h3
     obtain⟨cells,h4,h5⟩:=h3
     obtain⟨xs,h6,h7⟩:=wq n fuel _ _ _ xq (World.cells?_some h4).2.1 h5
     exact⟨xs,cells,h4,h6,h7⟩
    rcases Nat.eq_zero_or_pos len with hz | Ti
    ·subst hz
     exact⟨[.sl []],⟨[],rfl,Nat.zero_le _,by simp⟩,.single (.slnil _ _) rfl⟩
    have Bw:a.spot=none:=by
     obtain⟨xs,cells,h4,_⟩:=hx 0 Ti
     have h8:=(World.cells?_some h4).2.2 0 cp
     have h9:=(World.cells?_some h4).2.1
     have qA:w.cell? ((a.add (0*P.cellsOf e')).add 0)=some (cells[0]'(by omega)):=by rw[h8];exact List.getElem?_eq_getElem (by omega)
     simpa[Addr.add]using World.cell?_spot qA
    let X:Nat->List V:=fun i=>if h:i<len then Classical.choose (hx i h)else[]
    let C:Nat->List Value:=fun i=>(w.cells? base (a.add (i*P.cellsOf e')) (P.cellsOf e')).getD []
    have hX:∀ i,i<len->eC P n e' (X i)/\gP (jI w) (X i) (C i)/\(C i).length=P.cellsOf e'/\∀ j,j<P.cellsOf e'->w.cell? ⟨a.block,a.off+i*P.cellsOf e'+j,none⟩=(C i)[j]?:=by
     intro i hi
     obtain⟨cells,h4,h6,h7⟩:=Classical.choose_spec (hx i hi)
     have e1:X i=Classical.choose (hx i hi):=dif_pos hi
     have e2:C i=cells:=by show (w.cells? _ _ _).getD []=cells;rw[h4];rfl
     rw[e1,e2]
     refine⟨h6,h7,(World.cells?_some h4).2.1,fun j hj=>?_⟩
     have h8:=(World.cells?_some h4).2.2 j hj
     rw[LD Bw,LD rfl]at h8
     exact h8
    have qt:∀ i,i<len->(lA (gO P e') (X i)).cells=X i:=fun i hi=>by
     obtain⟨h1,h2,h3,_⟩:=hX i hi
     refine Pt ?_ h2.one
     rcases UE with h | h
     ·exact .inl h
     ·exact .inr (by rw[h2.len,h3,h])
    refine⟨[.sl (((List.range len).map X).map (lA (gO P e')))],⟨(List.range len).map X,rfl,by simp;omega,fun y hy=>?_⟩,.single ?_ rfl⟩
    ·simp only[List.mem_map,List.mem_range]at hy
     obtain⟨i,hi,rfl⟩:=hy
     exact(hX i hi).1
    ·obtain⟨b,o,s⟩:=a
     simp only at Bw hX
     subst Bw
     have key:=aK.sl (m:=jI w) (((List.range len).map X).map (lA (gO P e'))) b o cap (P.cellsOf e') (fun i j=>((C i)[j]?).getD undef) (by
         intro h;have:=congrArg List.length h;simp at this;omega) (by simp;omega) (by simpa using TA)
      (fun i hi=>by
        have bu:i<len:=by simpa using hi
        obtain⟨h1,h2,h3,_⟩:=hX i bu
        simp only[List.getElem_map,List.getElem_range]
        rw[qt i bu,h2.len,h3])
      (fun i j hi hj=>by
        have bu:i<len:=by simpa using hi
        obtain⟨h1,h2,h3,h4⟩:=hX i bu
        show w.cell? _=_
        rw[h4 j hj,List.getElem?_eq_getElem (by omega)]
        rfl)
      (fun i j hi hj=>by
        have bu:i<len:=by simpa using hi
        obtain⟨h1,h2,h3,h4⟩:=hX i bu
        simp only[List.getElem_map,List.getElem_range,qt i bu]at hj |-
        have eA:j<(C i).length:=by rw[<-h2.len];exact hj
        rw[List.getElem?_eq_getElem eA]
        exact h2.rep j hj eA)
      (fun i hi x hx=>by
        have bu:i<len:=by simpa using hi
        simp only[List.getElem_map,List.getElem_range,qt i bu]at hx
        exact(hX i bu).2.1.one x hx)
     simpa using key
  |struct fs=>
   simp only[Bool.and_eq_true,List.all_eq_true]at hp h |-
   obtain⟨ht,dO⟩:=hp
   rw[if_pos hlen]at h
   simp only[Option.map_eq_some_iff]at h
   obtain⟨ys,Bs,_⟩:=h
   obtain⟨l1,l2⟩:=mapM_some Bs
   have :=J8 (m:=jI w) (S:=eC P n) (cs:=cs) (fs:=fs.toList) (off:=0) (by rw[hlen];exact ht) fun f hf=>by
    obtain⟨i,hi,rfl⟩:=List.mem_iff_getElem.1 hf
    have h3:=l2 i hi (by omega)
    have hle:P.cellsOf fs.toList[i].type<=(cs.drop fs.toList[i].offset).length:=by
     have key:∀ (l:List Field) (off tot:Nat),mf P l off tot=true->∀ f∈l,f.offset+P.cellsOf f.type<=tot:=by
      intro l
      induction l with
      |nil=>intro _ _ _ f hf;simp at hf
      |cons g r ih=>
       intro off tot h f hf
       simp only[mf,Bool.and_eq_true,beq_iff_eq]at h
       rcases List.mem_cons.1 hf with rfl | hf
       ·have:=Ee h.2;omega
       ·exact ih _ _ h.2 f hf
     have :=key _ _ _ ht _ hf
     simp only[List.length_drop]
     omega
    exact wq n fuel _ _ _ (dO _ hf) (by rw[List.length_take];omega) h3
   simpa using this
  |array m e=>
   simp only[Bool.and_eq_true,beq_iff_eq]at hp h |-
   obtain⟨ht,xq⟩:=hp
   rw[if_pos hlen]at h
   simp only[Option.map_eq_some_iff]at h
   obtain⟨ys,Bs,_⟩:=h
   obtain⟨l1,l2⟩:=mapM_some Bs
   have :=Lw (m:=jI w) (S:=eC P n) (e:=e) (k:=P.cellsOf e) (cs:=cs) m 0 (by rw[hlen,ht];simp) fun i hi=>by
    have bu:i<m:=by omega
    have h3:=l2 i (by simpa using bu) (by rw[l1];simpa using bu)
    simp only[List.getElem_range]at h3
    have hle:i*P.cellsOf e+P.cellsOf e<=cs.length:=by
     rw[hlen,ht,<-Nat.succ_mul];exact Nat.mul_le_mul_right _ bu
    exact wq n fuel _ _ _ xq (by rw[List.length_take,List.length_drop];omega) h3
   simpa using this
  |_=>simp at hp
open Go Go.RowKit Go.ChangeShapes Go.WideShapes Go.ChangeAt
theorem PG{P:Program}{n:Nat}{t:TypeId}{W:World}{r:Reach}{base:Nat}{v:Value}(hp:jC P n t=true)(h:Value.okWide P W r base t v):
 v.cells.size=P.cellsOf t/\(gO P t=true->∃ cs,v=.agg cs)/\(gO P t=false->v.cells= #[v]/\P.cellsOf t=1):=by
 cases n with
 |zero=>simp[jC]at hp
 |succ n=>
  unfold jC at hp
  unfold gO
  rcases hu:P.underlying t with _ | u
  ·rw[hu]at hp;simp at hp
  rw[hu]at hp
  cases u with
  |bool=>
   obtain⟨b,rfl⟩:=okWide_bool hu h
   simp only[beq_iff_eq]at hp
   exact⟨by simp[Value.cells,hp],by simp,fun _=>⟨rfl,hp⟩⟩
  |int k=>
   obtain⟨b,rfl⟩:=okWide_int hu h
   simp only[beq_iff_eq]at hp
   exact⟨by simp[Value.cells,hp],by simp,fun _=>⟨rfl,hp⟩⟩
  |string=>
   obtain⟨b,rfl⟩:=okWide_string hu h
   simp only[beq_iff_eq]at hp
   exact⟨by simp[Value.cells,hp],by simp,fun _=>⟨rfl,hp⟩⟩
  |slice e=>
   obtain⟨a,len,cap,rfl⟩:=okWide_slice hu h
   simp only[Bool.and_eq_true,beq_iff_eq]at hp
   exact⟨by simp[Value.cells,hp.1.1.1],by simp,fun _=>⟨rfl,hp.1.1.1⟩⟩
  |struct fs=>
   simp only[Value.okWide,hu]at h
   obtain⟨cs,rfl,h2,_⟩:=h
   exact⟨h2,fun _=>⟨cs,rfl⟩,fun h=>by simp at h⟩
  |array m e=>
   simp only[Value.okWide,hu]at h
   obtain⟨cs,rfl,h2,_⟩:=h
   exact⟨h2,fun _=>⟨cs,rfl⟩,fun h=>by simp at h⟩
  |_=>simp at hp
def zq(P:Program)(n:Nat)(t:TypeId)(x:V):Prop:=∃ xs,eC P n t xs/\x=lA (gO P t) xs
def ta(P:Program)(n:Nat):List TypeId->List V->Prop
 |[],xs=>xs=[]
 |t::r,xs=>∃ x ys,xs=x::ys/\zq P n t x/\ta P n r ys
theorem W5{H:Type}{enc:TypeId×Value->H}{P:Program}{w:World}{b0:Nat}{spare:Nat->Bool}{held:Bool}{n:Nat}{t:TypeId}{r:Reach}{base:Nat}{v:Value}{d:DataW H}{ps:List MemPlace}
 (hp:jC P n t=true) (h:Value.okWide P w r base t v) (ht:DataW.Trod enc P w b0 spare held t v d ps):∃ x,zq P n t x/\aK (jI w) x v:=by
 obtain⟨h1,h2,h3⟩:=PG hp h
 obtain⟨fuel,hf⟩:=ht
 obtain⟨xs,k1,k2⟩:=wq n fuel t v.cells.toList _ hp (by simpa using h1) hf
 refine⟨lA (gO P t) xs,⟨xs,k1,rfl⟩,?_⟩
 cases ha:gO P t with
 |true=>
  obtain⟨cs,rfl⟩:=h2 ha
  simp only[lA,if_true]
  refine .agg xs cs (by simpa[Value.cells]using k2.len) k2.one fun i h h'=>?_
  have :=k2.rep i h (by simpa[Value.cells]using h')
  simpa[Value.cells]using this
 |false=>
  obtain⟨h4,h5⟩:=h3 ha
  have hl:xs.length=1:=by rw[k2.len];simp[h4]
  match xs,hl with
  |[x],_=>
   have :=k2.rep 0 (by simp) (by simp[h4])
   simp only[lA,Bool.false_eq_true,if_false,List.getD_cons_zero]
   simpa[h4]using this
theorem Ly{H:Type}{enc:TypeId×Value->H}{P:Program}{w:World}{b0:Nat}{spare:Nat->Bool}{held:Bool}{n:Nat}{r:Reach}{base:Nat}:∀ {ts:List TypeId} {vs:List Value} {ds:List (DataW H)} {ps:List MemPlace},
 (∀ t∈ts,jC P n t=true)->(∀ (j:Nat) t v,ts[j]?=some t->vs[j]?=some v->Value.okWide P w r base t v)->DataW.TrodAll enc P w b0 spare held ts vs ds ps->∃ xs,ta P n ts xs/\ra (jI w) xs vs
 |[],vs,ds,ps,_,_,h=>by
  cases vs with
  |nil=>exact⟨[],rfl,rfl,fun i h=>by simp at h⟩
  |cons=>cases ds<;>simp[DataW.TrodAll]at h
 |t::ts,[],ds,ps,_,_,h=>by cases ds<;>simp[DataW.TrodAll]at h
 |t::ts,v::vs,[],ps,_,_,h=>by simp[DataW.TrodAll]at h
 |t::ts,v::vs,d::ds,ps,hp,hv,h=>by
  obtain⟨p,q,h1,h2,_⟩:=h
  obtain⟨x,k1,k2⟩:=W5 (hp t (by simp)) (hv 0 t v rfl rfl) h1
  obtain⟨ys,k3,k4,k5⟩:=Ly (fun t ht=>hp t (by simp[ht])) (fun j t v h h'=>hv (j+1) t v (by simpa using h) (by simpa using h')) h2
  refine⟨x::ys,⟨x,ys,rfl,k1,k3⟩,by simp[k4],fun i hi bu=>?_⟩
  cases i with
  |zero=>exact k2
  |succ i=>exact k5 i (by simpa using hi) (by simpa using bu)
theorem Lx{H:Type}{enc:TypeId×Value->H}{P:Program}(hl:laidOutB P=true){W W':World}(hb:Below W.heap.size W W'):∀ {ts:List TypeId} {vs:List Value} {ds:List (DataW H)} {ps:List MemPlace},
 (∀ t∈ts,P.readableRec t=true/\t<P.types.size)->DataW.TrodAll enc P W 0 (fun _=>true) true ts vs ds ps->(∀ x∈ps,x.block<W.heap.size)->DataW.TrodAll enc P W' 0 (fun b=>decide (b<W.heap.size)) true ts vs ds ps
 |[],vs,ds,ps,_,h,_=>by
  cases vs<;>cases ds<;>simp_all[DataW.TrodAll]
 |t::ts,[],ds,ps,_,h,_=>by cases ds<;>simp[DataW.TrodAll]at h
 |t::ts,v::vs,[],ps,_,h,_=>by simp[DataW.TrodAll]at h
 |t::ts,v::vs,d::ds,ps,hr,h,ae=>by
  obtain⟨p,q,h1,h2,rfl⟩:=h
  exact⟨p,q,Below.trod hl (hr t (by simp)).1 (hr t (by simp)).2 h1 hb (fun x hx=>ae x (by simp[hx])),
   Lx hl hb (fun t ht=>hr t (by simp[ht])) h2 (fun x hx=>ae x (by simp[hx])),rfl⟩
theorem Eb{H:Type}{enc:TypeId×Value->H}{P:Program}{w:World}{b0:Nat}{spare:Nat->Bool}{held:Bool}:∀ {ts:List TypeId} {vs:List Value} {ds:List (DataW H)} {ps:List MemPlace},DataW.TrodAll enc P w b0 spare held ts vs ds ps->ds.length=ts.length
 |[],vs,ds,ps,h=>by cases vs<;>cases ds<;>simp_all[DataW.TrodAll]
 |t::ts,[],ds,ps,h=>by cases ds<;>simp[DataW.TrodAll]at h
 |t::ts,v::vs,[],ps,h=>by simp[DataW.TrodAll]at h
 |t::ts,v::vs,d::ds,ps,h=>by
  obtain⟨p,q,_,h2,_⟩:=h
  simp[Eb h2]
theorem QQ{H:Type}{enc:TypeId×Value->H}{C:Checked}{os:Os}{f:FuncId}{fn:Func}{s:ChangeSpec}{conds:List PathCond}{n:Nat}{tb:TypeId}
 (own:ownKnob C.prog.godebug=none) (started:os.Started) (PT:C.prog.inits.idxOf? f=none) (eO:C.prog.funcs[f]?=some fn)
 (witness:∃ (w:World) (tape:Tape) (i:Input),w.os=os/\(w.forCall tape i).Shaped C.prog/\i.vars=[]/\Input.okWide C.prog (w.forCall tape i) .any w.heap.size f i/\
   s.pre6 enc C.prog fn conds false (w.forCall tape i).memory i.args/\({}:Assume).holds C.prog (lone (Frame.enter C.prog f i.args .normal) [] (w.forCall tape i)))
 (hl:laidOutB C.prog=true) (fF:∀ t∈fn.params.toList,jC C.prog n t=true/\C.prog.readableRec t=true/\t<C.prog.types.size) (xo:fn.resultTypes= #[tb]) (sr:C.prog.underlying tb=some .bool)
 (ID:s.vars=[]) (hs:∀ ds:List (DataW H),ds.length=fn.params.toList.length->(s.fn H ds).results=[.lit (.bool true)]/\(s.fn H ds).args=ds/\(s.fn H ds).vars=[])
 (qv:∀ (W:World) (args:Array Value) (xs:List V),ta C.prog n fn.params.toList xs->ra (jI W) xs args.toList->Calls C.prog f args W fun e W'=>e=.returned (.bool true)/\Below W.heap.size W W'):
 ReturnsInHanded {} C os f .any (s.pre6 enc C.prog fn conds false) (s.post enc C.prog fn false true false false):=by
 refine returnsInHanded_of_change own started PT eO witness ?_
 intro W base args ds gs before cO hW _ _
 have Cl:=hW
 obtain⟨p,q,hA,hV,rfl,_,_⟩:=hW
 rw[ID]at hV
 obtain⟨rfl,rfl⟩:=trodVars_none hV
 simp only[List.append_nil]at Cl
 have ae:∀ y∈p,y.block<W.heap.size:=fun y hy=>by simpa using Cl.lt y hy
 obtain⟨xs,h1,h2⟩:=Ly (vs:=args.toList) (ts:=fn.params.toList) (fun t ht=>(fF t ht).1) (fun j t v h h'=>cO j t v (by simpa using h) (by simpa using h')) hA
 obtain⟨e1,e2,e3⟩:=hs ds (Eb hA)
 refine(qv W args xs h1 h2).mono fun e W' ⟨he,hn⟩=>?_
 subst he
 refine⟨_,rfl,ds,[],p,[],p,[],Cl,?_,?_,?_,hn.frame _,fun h=>by cases h⟩
 ·rw[List.append_nil,e1,xo]
  exact trodAll_mk1 (shut_bool sr _)
 ·rw[List.append_nil,e2]
  exact Lx hl hn (fun t ht=>(fF t ht).2) hA ae
 ·rw[List.append_nil,e3,ID]
  rfl
open Go Go.Proofs Go.Proofs.YtepaolcgegdpoaaGreat Go.RowKit Go.ChangeShapes
theorem Sg:ownKnob Tryz.prog.godebug=none:=by kernel_rfl
theorem Sh:laidOutB Tryz.prog=true:=by kernel_rfl
end Go.Eng
set_option linter.constructorNameAsVariable false
set_option maxRecDepth 100000
namespace Go.Eng
open Go Go.Proofs
theorem gS{n:Nat}{xs:List V}(h:eC Tryz.prog (n+1) 3 xs):∃ k,xs=[vInt k]/\(Lit.int .i64 k).wf=true:=by
 unfold eC at h
 simp only[Tryz.underlying3]at h
 exact h
theorem F9{α β:Type}{f:α->β}{P:β->Prop}(h:∀ y,P y->∃ x,y=f x):∀ {l:List β},(∀ y∈l,P y)->∃ m:List α,l=m.map f
 |[],_=>⟨[],rfl⟩
 |y::r,hl=>by
  obtain⟨x,rfl⟩:=h y (hl y (by simp))
  obtain⟨m,rfl⟩:=F9 h (l:=r) fun z hz=>hl z (by simp[hz])
  exact⟨x::m,rfl⟩
theorem Ew{n:Nat}{T e:TypeId}{xs:List V}{α:Type}{f:α->V}(hu:Tryz.prog.underlying T=some (.slice e))(h:eC Tryz.prog (n+1) T xs)
 (he:∀ ys,eC Tryz.prog n e ys->∃ a,lA (gO Tryz.prog e) ys=f a):∃ l:List α,xs=[.sl (l.map f)]:=by
 unfold eC at h
 simp only[hu]at h
 obtain⟨ls,rfl,_,h3⟩:=h
 obtain⟨m,hm⟩:=F9 (f:=f) (P:=fun y=>∃ d,y=f d) (fun y h=>h) (l:=ls.map (lA (gO Tryz.prog e))) fun y hy=>by
  obtain⟨z,hz,rfl⟩:=List.mem_map.1 hy
  exact he z (h3 z hz)
 exact⟨m,by rw[hm]⟩
theorem WG{f:FuncId}{s:PSpec}(h:aU Tryz.prog f s){W:World}{args:Array Value}{xs:List V}(hr:ra (jI W) xs args.toList)(hp:s.pre xs)(ht:s.fn xs=.bool true):
 Calls Tryz.prog f args W fun e W'=>e=.returned (.bool true)/\RowKit.Below W.heap.size W W':=by
 refine(h.calls (jI W) W xs args (fun b off v hv=>hv) hr hp).mono ?_
 rintro e W' ⟨v,m',rfl,hb,_,_,hv⟩
 rw[ht]at hv
 cases hv
 exact⟨rfl,hb⟩
end Go.Eng
set_option maxRecDepth 100000
namespace Go.Eng
open Go Go.Proofs
theorem Xg:gO Tryz.prog 25=true:=by kernel_rfl
theorem Xi:gO Tryz.prog 100=true:=by kernel_rfl
theorem Xh:gO Tryz.prog 131=true:=by kernel_rfl
theorem Nc{n:Nat}{xs:List V}(h:eC Tryz.prog (n+2) 100 xs):∃ x:R5,.agg xs=qK x:=by
 unfold eC at h
 simp only[Tryz.underlying100]at h
 obtain⟨x1,y,rfl,h1,x2,y2,rfl,h2,x3,y3,rfl,h3,x4,y4,rfl,h4,x5,y5,rfl,h5,rfl⟩:=h
 obtain⟨a,rfl,_⟩:=gS h1
 obtain⟨b,rfl,_⟩:=gS h2
 obtain⟨c,rfl,_⟩:=gS h3
 obtain⟨d,rfl,_⟩:=gS h4
 obtain⟨e,rfl,_⟩:=gS h5
 exact⟨⟨a,b,c,d,e⟩,rfl⟩
theorem Nb{n:Nat}{xs:List V}(h:eC Tryz.prog (n+2) 131 xs):∃ x:R7,.agg xs=sL x:=by
 unfold eC at h
 simp only[Tryz.underlying131]at h
 obtain⟨x1,y,rfl,h1,x2,y2,rfl,h2,x3,y3,rfl,h3,x4,y4,rfl,h4,x5,y5,rfl,h5,x6,y6,rfl,h6,x7,y7,rfl,h7,rfl⟩:=h
 obtain⟨a,rfl,_⟩:=gS h1
 obtain⟨b,rfl,_⟩:=gS h2
 obtain⟨c,rfl,_⟩:=gS h3
 obtain⟨d,rfl,_⟩:=gS h4
 obtain⟨e,rfl,_⟩:=gS h5
 obtain⟨f,rfl,_⟩:=gS h6
 obtain⟨g,rfl,_⟩:=gS h7
 exact⟨⟨a,b,c,d,e,f,g⟩,rfl⟩
theorem Ey{n:Nat}{xs:List V}(h:eC Tryz.prog (n+3) 22 xs):∃ l:List R5,xs=[.sl (l.map qK)]:=
 Ew Tryz.underlying22 h fun ys hy=>by
  obtain⟨x,hx⟩:=Nc hy
  rw[Xi]
  exact⟨x,hx⟩
theorem Na{n:Nat}{xs:List V}(h:eC Tryz.prog (n+3) 23 xs):∃ l:List R7,xs=[.sl (l.map sL)]:=
 Ew Tryz.underlying23 h fun ys hy=>by
  obtain⟨x,hx⟩:=Nb hy
  rw[Xh]
  exact⟨x,hx⟩
theorem M'{n:Nat}{xs:List V}(h:eC Tryz.prog (n+4) 25 xs):∃ r:Raw,.agg xs=qJ r:=by
 unfold eC at h
 simp only[Tryz.underlying25]at h
 obtain⟨x1,y,rfl,h1,x2,y2,rfl,h2,x3,y3,rfl,h3,rfl⟩:=h
 obtain⟨a,rfl⟩:=Ey h1
 obtain⟨b,rfl⟩:=Na h2
 obtain⟨c,rfl⟩:=Ey h3
 exact⟨⟨a,b,c⟩,rfl⟩
theorem W7{x:V}(h:zq Tryz.prog 6 25 x):∃ o:Raw,x=qJ o:=by
 obtain⟨xs,h1,rfl⟩:=h
 rw[Xg]
 exact M' h1
theorem VT(r:Raw):ym (qJ r)=r:=by
 cases r;simp only[qJ,ym,VX,VV]
end Go.Eng
set_option maxRecDepth 100000
namespace Go.Eng
open Go Go.Proofs
theorem Xf:gO Tryz.prog 78=true:=by kernel_rfl
theorem M9{n:Nat}{xs:List V}(h:eC Tryz.prog (n+2) 78 xs):∃ x:N4,.agg xs=yi x:=by
 unfold eC at h
 simp only[Tryz.underlying78]at h
 obtain⟨x1,y,rfl,h1,x2,y2,rfl,h2,x3,y3,rfl,h3,x4,y4,rfl,h4,rfl⟩:=h
 obtain⟨a,rfl,_⟩:=gS h1
 obtain⟨b,rfl,_⟩:=gS h2
 obtain⟨c,rfl,_⟩:=gS h3
 obtain⟨d,rfl,_⟩:=gS h4
 exact⟨⟨a,b,c,d⟩,rfl⟩
theorem W6{x:V}(h:zq Tryz.prog 6 78 x):∃ o:N4,x=yi o:=by
 obtain⟨xs,h1,rfl⟩:=h
 rw[Xf]
 exact M9 h1
end Go.Eng
set_option linter.constructorNameAsVariable false
namespace Go.Eng
open Go Go.Proofs Go.Proofs.YtepaolcgegdpoaaGreat Go.RowKit Go.ChangeShapes
theorem Qn(hc:∀ (W:World) (args:Array Value) (xs:List V),ta Tryz.prog 6 Tryz.f7.params.toList xs->ra (jI W) xs args.toList->Calls Tryz.prog 7 args W fun e W'=>e=.returned (.bool true)/\Below W.heap.size W W')
 (os:Os) (started:os.Started) (H:Type) (enc:TypeId×Value->H):
 ReturnsInHanded {} Tryz.checked os 7 .any (Rows.loanSinceSpec.pre6 enc Tryz.prog Tryz.f7 Rows.loanSinceRow.domain false) (Rows.loanSinceSpec.post enc Tryz.prog Tryz.f7 false true false false):=by
 refine QQ (C:=Tryz.checked) (n:=6) (tb:=4) Sg started (by kernel_rfl) Tryz.func7
  (ChangeSpec.witness6 (enc:=enc) (C:=Tryz.checked) false ⟨#[],#[.agg #[.slice none 0 0,.slice none 0 0,.slice none 0 0],.agg #[.int .i64 0,.int .i64 0,.int .i64 0,.int .i64 0]],[]⟩ 8 (by kernel_rfl) (by kernel_rfl) (by kernel_rfl) (by kernel_rfl))
  Sh ?_ (by kernel_rfl) (by kernel_rfl) rfl ?_ hc
 ·have h:(Tryz.f7.params.toList.all fun t=>jC Tryz.prog 6 t&&Tryz.prog.readableRec t&&decide (t<Tryz.prog.types.size))=true:=by kernel_rfl
  intro t ht
  have :=List.all_eq_true.1 h t ht
  simp only[Bool.and_eq_true,decide_eq_true_eq]at this
  exact⟨this.1.1,this.1.2,this.2⟩
 ·intro ds jR
  have hl:Tryz.f7.params.toList.length=2:=by kernel_rfl
  rw[hl]at jR
  match ds,jR with
  |[d1,d2],_=>exact⟨rfl,rfl,rfl⟩
theorem Qm(hc:∀ (W:World) (args:Array Value) (xs:List V),ta Tryz.prog 6 Tryz.f7.params.toList xs->ra (jI W) xs args.toList->Calls Tryz.prog 7 args W fun e W'=>e=.returned (.bool true)/\Below W.heap.size W W'):
 Rows.LoanSinceSaid:=
 OpenClaim.holds_of_wide 7 Tryz.f7 rfl rfl rfl rfl rfl rfl rfl ⟨rfl,rfl,rfl,rfl,rfl⟩ rfl rfl rfl rfl rfl (by kernel_rfl) Tryz.func7 (by kernel_rfl)
  (of_decide_eq_true (by kernel_rfl)) (by unfold Func.isWrapper;first | (rw[if_pos (by decide+kernel)];kernel_rfl) | (rw[if_neg (by decide+kernel)];exact⟨rfl,rfl⟩))
  (fun os started H enc _=>Qn hc os started H enc)
end Go.Eng
set_option maxRecDepth 100000
namespace Go.Eng
open Go Go.Proofs Go.Proofs.YtepaolcgegdpoaaGreat
theorem loanSince_holds:Rows.LoanSinceSaid:=
 Qm fun W args xs ha hr=>by
  obtain⟨x,ys,rfl,h1,y,zs,rfl,h2,rfl⟩:=(show ta Tryz.prog 6 [25,78] xs from ha)
  obtain⟨l,rfl⟩:=W7 h1
  obtain⟨o,rfl⟩:=W6 h2
  exact WG s7 hr ⟨congrArg qJ (VT l),rfl,trivial⟩ rfl
end Go.Eng
namespace Go.Proofs.YtepaolcgegdpoaaGreat
theorem loanSince_holds : Rows.LoanSinceSaid := Go.Eng.loanSince_holds
end Go.Proofs.YtepaolcgegdpoaaGreat
#print axioms Go.Proofs.YtepaolcgegdpoaaGreat.loanSince_holds
