import Derived.Test.YtepaolcgegdpoaaGreatK5
/- Texts LW11 to LW23. -/
set_option linter.all false
namespace Go.Eng
open Go Go.Proofs
noncomputable section
theorem aZ.conv{P:Program}{f:FuncId}{s s':PSpec}(h:aZ P f s)(hf:s'.flat=s.flat)(hp:∀ xs,s'.pre xs->s.pre xs/\s'.fn xs=s.fn xs):aZ P f s':=by
 refine⟨h.ne,h.enter,fun dZ xs hx=>?_,fun m w xs args hm hx eB=>?_⟩
 ·rw[(hp xs hx).2];exact h.flat (hf▸dZ) xs (hp xs hx).1
 ·rw[(hp xs eB).2];exact h.calls m w xs args hm hx (hp xs eB).1
theorem adY(l:List Int):(l.map vInt).all wg=true:=by simp[wg]
def IT:PSpec:=p1 fc (fun l=>l.length<=1000) (fun l=>.sl (l.map vInt)) false
def S179:Spec:=IT.toSpec
theorem ZY:aT Tryz.prog 179 S179:=(aZ.conv (s':=IT) (Rr Rs rfl) rfl (by
 intro xs hx
 obtain⟨l,rfl,hl,e⟩:=EB hx
 exact⟨⟨_,rfl,adY l,by simpa using hl⟩,e⟩)).sound
def S132:Spec:=qK Tryz.prog 29
theorem N8:aT Tryz.prog 132 S132:=CG Rw
attribute [go_sem] S132
def S176:Spec:=qK Tryz.prog 26
theorem Z1:aT Tryz.prog 176 S176:=CG Rv
attribute [go_sem] S176
def S177:Spec:=qK Tryz.prog 27
theorem Z0:aT Tryz.prog 177 S177:=CG Ru
attribute [go_sem] S177
def S178:Spec:=qK Tryz.prog 28
theorem ZZ:aT Tryz.prog 178 S178:=CG Rt
attribute [go_sem] S178
attribute [go_sem] S179 IT
def K11:List (Nat×Spec):=[(132,S132),(176,S176),(177,S177),(178,S178),(179,S179)]
theorem afB:KS K11:=tc N8<|tc Z1<|tc Z0<|tc ZZ<|tc ZY<|tn
attribute [go_sem] K11
def JN(l:Led):Prop:=l.ps.length<=12/\l.rs.length<=60/\l.ts.length<=60/\l.ss.length<=60/\(∀ r∈l.rs,r.lv.length<=30)/\∀ r∈l.ts,r.lv.length<=30
def Ri(l:Led):List (Name×O):=[([8,0],.arr 2 (l.ps.map cW)),([11,0],.arr 7 (l.rs.map encR)),([14,0],.arr 8 (l.ts.map encT)),([17,0],.arr 7 (l.ss.map encS))]
def Rj(l:Led):D:=.agg [.msl [8,0] l.ps.length,.msl [11,0] l.rs.length,.msl [14,0] l.ts.length,.msl [17,0] l.ss.length]
attribute [go_sem] Ri Rj
theorem Lq(l:List Pap):∀ y∈l.map cW,y.cells.length=2/\y.okc=true:=by
 intro y hy;obtain⟨x,_,rfl⟩:=List.mem_map.1 hy;exact⟨rfl,rfl⟩
theorem EH(l:List Rec):∀ y∈l.map encR,y.cells.length=7/\y.okc=true:=by
 intro y hy;obtain⟨x,_,rfl⟩:=List.mem_map.1 hy;exact⟨rfl,rfl⟩
theorem Ln(l:List Ret):∀ y∈l.map encT,y.cells.length=8/\y.okc=true:=by
 intro y hy;obtain⟨x,_,rfl⟩:=List.mem_map.1 hy;exact⟨rfl,rfl⟩
theorem Lo(l:List Sig):∀ y∈l.map encS,y.cells.length=7/\y.okc=true:=by
 intro y hy;obtain⟨x,_,rfl⟩:=List.mem_map.1 hy;exact⟨rfl,rfl⟩
theorem Lt(l:List Int):∀ y∈l.map vInt,y.cells.length=1/\y.okc=true:=by
 intro y hy;obtain⟨x,_,rfl⟩:=List.mem_map.1 hy;exact⟨rfl,rfl⟩
theorem Uh{l:List Rec}{i:Nat}(h:i<l.length):(l.map encR).set i (.agg [vInt l[i].so,vInt l[i].bo,vInt l[i].pa,.sl (l[i].lv.map vInt),vInt l[i].da,vInt l[i].kn,vInt l[i].un])=l.map encR:=by
 have e:(l.map encR).set i ((l.map encR)[i]'(by simpa using h))=l.map encR:=List.set_getElem_self _
 simpa[encR]using e
theorem Ue{l:List Ret}{i:Nat}(h:i<l.length):(l.map encT).set i (.agg [vInt l[i].so,vInt l[i].re,vInt l[i].pe,.sl (l[i].lv.map vInt),vInt l[i].lo,vInt l[i].hi,vInt l[i].kn,vInt l[i].un])=l.map encT:=by
 have e:(l.map encT).set i ((l.map encT)[i]'(by simpa using h))=l.map encT:=List.set_getElem_self _
 simpa[encT]using e
theorem au{p:Prop}(h:p:=by first | exact Lq _ | exact EH _ | exact Ln _ | exact Lo _ | exact Lt _ | ((repeat' apply And.intro)<;>first | rfl | omega | (unfold maxLen;omega) | trivial | decide | exact Lq _ | exact EH _ | exact Ln _ | exact Lo _ | exact Lt _) | exact ob):p:=h
theorem aq{p:Prop}(h:p:=by(repeat (refine⟨au,?_⟩));exact hK _ (by simp only[go_sem]) (by simp only[go_sem]<;>rfl)):p:=h
theorem gX{p:Prop}(h:p:=by(repeat (refine⟨au,?_⟩));(first | refine⟨by rfl,?_⟩ | skip);exact hK _ (by simp only[go_sem]) (by simp only[go_sem]<;>rfl)):p:=h
def Dn:NSpec:=n1 iL (fun l=>JN l) Ri Rj
def S86:Spec:=Dn.toSpec
attribute [go_sem] Dn S86
set_option maxHeartbeats 8000000 in
theorem ZS:aT Tryz.prog 86 S86:=by
 refine A1 (nt:=58) (rs:=[.cell 2 31]) Tryz.func86 rfl (by rfl) (by kernel_rfl) (by kernel_rfl) (by decide) ?_
 intro xs hp
 obtain⟨l,rfl,hp,eJ,eI⟩:=Xv hp
 replace eJ:Dn.new _=_:=eJ
 replace eI:Dn.d _=_:=eI
 rw[eJ,eI]
 clear eJ eI
 refine⟨lb rfl,?_⟩
 have hP:=fE
 simp only[iI,iB,fc,iP,iR,iT,iS,iL,m7,dX,iC,iF,cW,encR,encT,encS,fw,jE,List.map_cons,List.map_nil,dt,Nat.zero_add]
 have hΓ:=afB
 obtain⟨Pb,qv,qu,hn3,hn4,hn5⟩:=hp
 have wz:l.rs.length<=maxLen:=by unfold maxLen;omega
 have jw:l.ts.length<=maxLen:=by unfold maxLen;omega
 repeat refine sq ?_
 refine rx hΓ [1,2] [[1,0],[2,0],[8,0],[11,0],[14,0],[17,0]] (fun K' hK=>by simp only[go_sem];exact aq) ?_
 repeat refine sq ?_
 refine dx hΓ hP [[],[0],[0,1],[],[3],u5,[],[6],u8,[],[9],eF,eO,[],jk] [2,3] [[2,0],[3,0],[8,0],[11,0],[14,0],[17,0]] (by kernel_rfl) (fun K' hK=>by simp only[go_sem];exact gX) ?_
 repeat refine sq ?_
 refine rx hΓ [2,3,21,22] [[2,0],[3,0],[8,0],[11,0],[14,0],[17,0]] (fun K' hK=>by simp only[go_sem];exact aq) ?_
 repeat refine sq ?_
 refine aR ?_
 repeat refine sq ?_
 refine cp (fun s:Nat=>[(22,⟨true,.v (vInt s)⟩)]) (fun s=>[]) (fun s=>s<=l.rs.length) (fun s=>l.rs.length-s) 0 ?_ ?_ ?_ ?_
 ·exact Nat.zero_le _
 ·rfl
 ·rfl
 rintro i hi
 simp only[go_sem]
 repeat refine sq ?_
 refine rx hΓ [2,3,21,22,23] [[2,0],[3,0],[8,0],[11,0],[14,0],[17,0]] (fun K' hK=>by simp only[go_sem];exact aq) ?_
 repeat refine sq ?_
 refine aC (fun hb=>?_) fun hb=>?_
 ·have ae:i<l.rs.length:=by simpa using hb
  have aw:(i:Int)<l.rs.length:=by omega
  clear hb
  have aa5:=hn4 l.rs[i] (List.getElem_mem ae)
  repeat refine sq ?_
  refine aF ?_
  repeat refine sq ?_
  refine aR ?_
  repeat refine sq ?_
  refine rx hΓ [2,3,4,21,22] [[2,0],[3,0],[8,0],[11,0],[14,0],[17,0]] (fun K' hK=>by simp only[go_sem,ai ae,ak,an,aw];exact aq) ?_
  repeat refine sq ?_
  refine oZ hΓ hP [[],[0],[],[],[3],[],[3,4,5],[3,4,5,6],[3,4,5,6,7],[3,4,5,6,7,8],ck,eF,eO] (by kernel_rfl) fun K' hK=>?_
  simp only[go_sem,ai ae,ak,an,aw]
  repeat (refine⟨au,?_⟩)
  first | refine⟨by rfl,?_⟩ | skip
  refine hK _ ?_
  clear K' hK
  simp only[go_sem]
  refine kp [2,3,21,22] [[2,0],[3,0],[8,0],[11,0],[14,0],[17,0]] ?_
  repeat refine sq ?_
  refine aW hΓ fun K' hK=>?_
  simp only[go_sem,ai ae,ak,an,aw]
  repeat (refine⟨au,?_⟩)
  refine hK _ ?_
  clear K' hK
  simp only[go_sem]
  refine⟨i+1,ae,by(show l.rs.length-(i+1)<l.rs.length-i;omega),?_⟩
  refine bh [2,3,21,22] [[2,0],[3,0],[8,0],[11,0],[14,0],[17,0]] ?_ ?_<;>simp only[go_sem,bc ae wz,be,Uh ae]
 ·have bE:i=l.rs.length:=by
   have :¬ (i:Int)<l.rs.length:=by simpa using hb
   omega
  clear hb
  subst bE
  repeat refine sq ?_
  refine bN ?_
  simp only[go_sem]
  refine kp [2,3] [[2,0],[3,0],[8,0],[11,0],[14,0],[17,0]] ?_
  repeat refine sq ?_
  refine rx hΓ [2,3,40,41] [[2,0],[3,0],[8,0],[11,0],[14,0],[17,0]] (fun K' hK=>by simp only[go_sem];exact aq) ?_
  repeat refine sq ?_
  refine aR ?_
  repeat refine sq ?_
  refine cp (fun s:Nat=>[(41,⟨true,.v (vInt s)⟩)]) (fun s=>[]) (fun s=>s<=l.ts.length) (fun s=>l.ts.length-s) 0 ?_ ?_ ?_ ?_
  ·exact Nat.zero_le _
  ·rfl
  ·rfl
  rintro i hi
  simp only[go_sem]
  repeat refine sq ?_
  refine rx hΓ [2,3,40,41,42] [[2,0],[3,0],[8,0],[11,0],[14,0],[17,0]] (fun K' hK=>by simp only[go_sem];exact aq) ?_
  repeat refine sq ?_
  refine aC (fun hb=>?_) fun hb=>?_
  ·have aS:i<l.ts.length:=by simpa using hb
   have bC:(i:Int)<l.ts.length:=by omega
   clear hb
   have aa5:=hn5 l.ts[i] (List.getElem_mem aS)
   repeat refine sq ?_
   refine aF ?_
   repeat refine sq ?_
   refine aR ?_
   repeat refine sq ?_
   refine rx hΓ [2,3,5,40,41] [[2,0],[3,0],[8,0],[11,0],[14,0],[17,0]] (fun K' hK=>by simp only[go_sem,ai aS,ak,an,bC];exact aq) ?_
   repeat refine sq ?_
   refine oZ hΓ hP [[],[0],[],[],[3],[],[3,4,5],[3,4,5,6],[3,4,5,6,7],[3,4,5,6,7,8],ck,eF,eO] (by kernel_rfl) fun K' hK=>?_
   simp only[go_sem,ai aS,ak,an,bC]
   repeat (refine⟨au,?_⟩)
   first | refine⟨by rfl,?_⟩ | skip
   refine hK _ ?_
   clear K' hK
   simp only[go_sem]
   refine kp [2,3,40,41] [[2,0],[3,0],[8,0],[11,0],[14,0],[17,0]] ?_
   repeat refine sq ?_
   refine aW hΓ fun K' hK=>?_
   simp only[go_sem,ai aS,ak,an,bC]
   repeat (refine⟨au,?_⟩)
   refine hK _ ?_
   clear K' hK
   simp only[go_sem]
   refine⟨i+1,aS,by(show l.ts.length-(i+1)<l.ts.length-i;omega),?_⟩
   refine bh [2,3,40,41] [[2,0],[3,0],[8,0],[11,0],[14,0],[17,0]] ?_ ?_<;>simp only[go_sem,bc aS jw,be,Ue aS]
  ·have jy:i=l.ts.length:=by
    have :¬ (i:Int)<l.ts.length:=by simpa using hb
    omega
   clear hb
   subst jy
   repeat refine sq ?_
   refine bN ?_
   simp only[go_sem]
   refine kp [2,3] [[2,0],[3,0],[8,0],[11,0],[14,0],[17,0]] ?_
   repeat refine sq ?_
   refine rx hΓ [2] [[2,0],[8,0],[11,0],[14,0],[17,0]] (fun K' hK=>by simp only[go_sem];exact aq) ?_
   refine aB ?_
   simp only[go_sem]
   skip
end
set_option maxHeartbeats 8000000
noncomputable section
def gB:En (Nat×Int):=⟨fun g=>.clo (.func g.1) [] [.ptr [vInt g.2]],fun v=>match v with | .clo (.func g) _ [.ptr [.int _ s]]=>(g,s) | _=>default⟩
def l9:En Int:=⟨fun s=>.ptr [vInt s],fun v=>match v with | .ptr [.int _ s]=>s | _=>0⟩
attribute [go_sem] gB l9
@[go_sem] def P171:PSpec:=p2 iR l9 (fun _ _=>True) (fun x s=>.bool (x.so==s)) true
@[go_sem] def S171:Spec:=P171.toSpec
theorem Vh:aZ Tryz.prog 171 P171:=by
 refine dG (rs:=[.tmp 3]) Tryz.func171 Tryz.ntmps171 fun x s hp hw=>?_
 simp only[l9,iR,encR]at hw |-
 have hΓ:=@fD Tryz.prog
 repeat refine sq ?_
 refine rx hΓ [1,2] [[2,0]] (fun K' hK=>by simp only[go_sem];exact aq) ?_
 repeat refine sq ?_
 refine rx hΓ [3] [] (fun K' hK=>by simp only[go_sem];exact aq) ?_
 refine aB ?_
 simp only[go_sem]
 all_goals exact el
@[go_sem] def P173:PSpec:=p2 iT l9 (fun _ _=>True) (fun x s=>.bool (x.so==s)) true
@[go_sem] def S173:Spec:=P173.toSpec
theorem Vf:aZ Tryz.prog 173 P173:=by
 refine dG (rs:=[.tmp 3]) Tryz.func173 Tryz.ntmps173 fun x s hp hw=>?_
 simp only[l9,iT,encT]at hw |-
 have hΓ:=@fD Tryz.prog
 repeat refine sq ?_
 refine rx hΓ [1,2] [[2,0]] (fun K' hK=>by simp only[go_sem];exact aq) ?_
 repeat refine sq ?_
 refine rx hΓ [3] [] (fun K' hK=>by simp only[go_sem];exact aq) ?_
 refine aB ?_
 simp only[go_sem]
 all_goals exact el
@[go_sem] def P175:PSpec:=p2 iS l9 (fun _ _=>True) (fun x s=>.bool (x.so==s)) true
@[go_sem] def S175:Spec:=P175.toSpec
theorem Vd:aZ Tryz.prog 175 P175:=by
 refine dG (rs:=[.tmp 3]) Tryz.func175 Tryz.ntmps175 fun x s hp hw=>?_
 simp only[l9,iS,encS]at hw |-
 have hΓ:=@fD Tryz.prog
 repeat refine sq ?_
 refine rx hΓ [1,2] [[2,0]] (fun K' hK=>by simp only[go_sem];exact aq) ?_
 repeat refine sq ?_
 refine rx hΓ [3] [] (fun K' hK=>by simp only[go_sem];exact aq) ?_
 refine aB ?_
 simp only[go_sem]
 all_goals exact el
@[go_sem] def P167:PSpec:=p2 iR l9 (fun _ _=>True) (fun x s=>.bool (x.so==s)) true
@[go_sem] def SR:Spec:=P167.toSpec
theorem Vm:aZ Tryz.prog 167 P167:=by
 refine dG (rs:=[.tmp 3]) Tryz.func167 Tryz.ntmps167 fun x s hp hw=>?_
 simp only[l9,iR,encR]at hw |-
 have hΓ:=@fD Tryz.prog
 repeat refine sq ?_
 refine rx hΓ [1,2] [[2,0]] (fun K' hK=>by simp only[go_sem];exact aq) ?_
 repeat refine sq ?_
 refine rx hΓ [3] [] (fun K' hK=>by simp only[go_sem];exact aq) ?_
 refine aB ?_
 simp only[go_sem]
 all_goals exact el
@[go_sem] def P92:PSpec:=p2 iS l9 (fun _ _=>True) (fun x s=>.bool (x.so==s)) true
@[go_sem] def S92:Spec:=P92.toSpec
theorem UL:aZ Tryz.prog 92 P92:=by
 refine dG (rs:=[.tmp 3]) Tryz.func92 Tryz.ntmps92 fun x s hp hw=>?_
 simp only[l9,iS,encS]at hw |-
 have hΓ:=@fD Tryz.prog
 repeat refine sq ?_
 refine rx hΓ [1,2] [[2,0]] (fun K' hK=>by simp only[go_sem];exact aq) ?_
 repeat refine sq ?_
 refine rx hΓ [3] [] (fun K' hK=>by simp only[go_sem];exact aq) ?_
 refine aB ?_
 simp only[go_sem]
 all_goals exact el
def dK{α:Type}(p:α->Bool)(l:List α):Int:=if l.any p then(l.findIdx p:Int)else -1
theorem oA{α:Type}{p:α->Bool}{l:List α}{i:Nat}(h:i<l.length)(hp:p l[i]=true)(hn:∀ k (hk:k<l.length),k<i->p l[k]=false):dK p l=i:=by
 unfold dK
 rw[if_pos (List.any_eq_true.2 ⟨_,List.getElem_mem h,hp⟩)]
 congr 1
 rw[List.findIdx_eq h]
 exact⟨hp,fun j hj=>hn j (by omega) hj⟩
theorem tk{α:Type}{p:α->Bool}{l:List α}(hn:∀ k (hk:k<l.length),p l[k]=false):dK p l= -1:=by
 unfold dK
 rw[if_neg]
 intro h
 obtain⟨x,hx,hp⟩:=List.any_eq_true.1 h
 obtain⟨k,hk,rfl⟩:=List.getElem_of_mem hx
 rw[hn k hk]at hp;cases hp
theorem rR{α:Type}(p:α->Bool)(l:List α):decide (dK p l>=0)=l.any p:=by
 unfold dK
 cases l.any p with
 |true=>simp
 |false=>simp
def K12a:List (Nat×Spec):=[(171,S171),(173,S173),(175,S175),(167,SR)]
theorem afz:KS K12a:=tc Vh.sound<|tc Vf.sound<|tc Vd.sound<|tc Vm.sound<|tn
attribute [go_sem] K12a
def Dw:FuncId->Option Spec:=tbl K12a
theorem I3:∀ f s,Dw f=some s->aT Tryz.prog f s:=afz
@[go_sem] theorem ajm:SR=S171:=rfl
@[go_sem] def P166:PSpec:=p2 (dX iR) gB (fun _ g=>g.1=171\/g.1=167) (fun l g=>vInt (dK (fun x=>Rec.so x==g.2) l)) true
@[go_sem] def SS:Spec:=P166.toSpec
theorem J8:aZ Tryz.prog 166 P166:=by
 refine dG (rs:=[.tmp 4]) Tryz.func166 Tryz.ntmps166 fun l g hp hw=>?_
 simp only[gB,iR,dX,encR]at hw |-
 have hΓ:=I3
 have hl:l.length<=maxLen:=by have:=hw.1.1;simpa using this
 obtain⟨g,s_⟩:=g
 try simp only[gB]at hw hp |-
 have hg:Dw g=some S171:=by rcases hp with rfl | rfl<;>rfl
 have yV:¬ g=1000000000:=by omega
 repeat refine sq ?_
 refine rx hΓ [0,1] [] (fun K' hK=>by simp only[go_sem];exact aq) ?_
 repeat refine sq ?_
 refine rx hΓ [0,1,7,8] [] (fun K' hK=>by simp only[go_sem];exact aq) ?_
 repeat refine sq ?_
 refine aR ?_
 repeat refine sq ?_
 refine cp (fun s:Nat=>[(8,⟨true,.v (vInt s)⟩)]) (fun s=>[]) (fun s=>s<=l.length/\∀ k (h:k<l.length),k<s->(fun x:Rec=>Rec.so x==s_) l[k]=false) (fun s=>l.length-s) 0 ?_ ?_ ?_ ?_
 ·exact⟨Nat.zero_le _,by simp⟩
 ·rfl
 ·rfl
 rintro i ⟨hi,hR⟩
 simp only[go_sem]
 repeat refine sq ?_
 refine rx hΓ [0,1,7,8,9] [] (fun K' hK=>by simp only[go_sem];exact aq) ?_
 repeat refine sq ?_
 refine aC (fun hb=>?_) fun hb=>?_
 ·have ae:i<l.length:=by simpa using hb
  have aw:(i:Int)<l.length:=by omega
  clear hb
  repeat refine sq ?_
  refine aF ?_
  repeat refine sq ?_
  refine aR ?_
  repeat refine sq ?_
  refine rx hΓ [0,1,5,7,8] [] (fun K' hK=>by simp only[go_sem,ai ae,ak,an,aw];exact aq) ?_
  repeat refine sq ?_
  refine rx hΓ [0,1,5,7,8,16] [] (fun K' hK=>by simp only[go_sem,ai ae,ak,an,aw,hg,yV];exact aq) ?_
  repeat refine sq ?_
  refine aC (fun hb=>?_) fun hb=>?_
  ·repeat refine sq ?_
   refine rx hΓ [4] [] (fun K' hK=>by simp only[go_sem,ai ae,ak,an,aw];exact aq) ?_
   refine aB ?_
   simp only[go_sem]
   rw[oA (p:=fun x=>Rec.so x==s_) ae (by simpa using hb) hR]
  ·repeat refine sq ?_
   refine aF ?_
   refine bW ?_
   simp only[go_sem]
   refine kp [0,1,7,8] [] ?_
   repeat refine sq ?_
   refine aW hΓ fun K' hK=>?_
   simp only[go_sem,ai ae,ak,an,aw]
   repeat (refine⟨au,?_⟩)
   refine hK _ ?_
   clear K' hK
   simp only[go_sem]
   refine⟨i+1,⟨ae,?_⟩,by(show l.length-(i+1)<l.length-i;omega),?_⟩
   ·intro k hk dE
    rcases Nat.lt_succ_iff_lt_or_eq.1 dE with h5 | rfl
    ·exact hR k hk h5
    ·simpa using hb
   refine bh [0,1,7,8] [] ?_ ?_<;>simp only[go_sem,bc ae hl,be]
 ·have bE:i=l.length:=by
   have :¬ (i:Int)<l.length:=by simpa using hb
   omega
  clear hb
  subst bE
  repeat refine sq ?_
  refine bN ?_
  simp only[go_sem]
  refine kp [] [] ?_
  repeat refine sq ?_
  refine rx hΓ [4] [] (fun K' hK=>by simp only[go_sem];exact aq) ?_
  refine aB ?_
  simp only[go_sem]
  rw[tk (p:=fun x=>Rec.so x==s_) fun k hk=>hR k hk hk]
@[go_sem] def P180:PSpec:=p2 (dX iT) gB (fun _ g=>g.1=173) (fun l g=>vInt (dK (fun x=>Ret.so x==g.2) l)) true
@[go_sem] def aed:Spec:=P180.toSpec
theorem Vb:aZ Tryz.prog 180 P180:=by
 refine dG (rs:=[.tmp 4]) Tryz.func180 Tryz.ntmps180 fun l g hp hw=>?_
 simp only[gB,dX,iT,encT]at hw |-
 have hΓ:=I3
 have hl:l.length<=maxLen:=by have:=hw.1.1;simpa using this
 obtain⟨g,s_⟩:=g
 try simp only[gB]at hw hp |-
 have hg:Dw g=some S173:=by subst hp;rfl
 have yV:¬ g=1000000000:=by omega
 repeat refine sq ?_
 refine rx hΓ [0,1] [] (fun K' hK=>by simp only[go_sem];exact aq) ?_
 repeat refine sq ?_
 refine rx hΓ [0,1,7,8] [] (fun K' hK=>by simp only[go_sem];exact aq) ?_
 repeat refine sq ?_
 refine aR ?_
 repeat refine sq ?_
 refine cp (fun s:Nat=>[(8,⟨true,.v (vInt s)⟩)]) (fun s=>[]) (fun s=>s<=l.length/\∀ k (h:k<l.length),k<s->(fun x:Ret=>Ret.so x==s_) l[k]=false) (fun s=>l.length-s) 0 ?_ ?_ ?_ ?_
 ·exact⟨Nat.zero_le _,by simp⟩
 ·rfl
 ·rfl
 rintro i ⟨hi,hR⟩
 simp only[go_sem]
 repeat refine sq ?_
 refine rx hΓ [0,1,7,8,9] [] (fun K' hK=>by simp only[go_sem];exact aq) ?_
 repeat refine sq ?_
 refine aC (fun hb=>?_) fun hb=>?_
 ·have ae:i<l.length:=by simpa using hb
  have aw:(i:Int)<l.length:=by omega
  clear hb
  repeat refine sq ?_
  refine aF ?_
  repeat refine sq ?_
  refine aR ?_
  repeat refine sq ?_
  refine rx hΓ [0,1,5,7,8] [] (fun K' hK=>by simp only[go_sem,ai ae,ak,an,aw];exact aq) ?_
  repeat refine sq ?_
  refine rx hΓ [0,1,5,7,8,16] [] (fun K' hK=>by simp only[go_sem,ai ae,ak,an,aw,hg,yV];exact aq) ?_
  repeat refine sq ?_
  refine aC (fun hb=>?_) fun hb=>?_
  ·repeat refine sq ?_
   refine rx hΓ [4] [] (fun K' hK=>by simp only[go_sem,ai ae,ak,an,aw];exact aq) ?_
   refine aB ?_
   simp only[go_sem]
   rw[oA (p:=fun x=>Ret.so x==s_) ae (by simpa using hb) hR]
  ·repeat refine sq ?_
   refine aF ?_
   refine bW ?_
   simp only[go_sem]
   refine kp [0,1,7,8] [] ?_
   repeat refine sq ?_
   refine aW hΓ fun K' hK=>?_
   simp only[go_sem,ai ae,ak,an,aw]
   repeat (refine⟨au,?_⟩)
   refine hK _ ?_
   clear K' hK
   simp only[go_sem]
   refine⟨i+1,⟨ae,?_⟩,by(show l.length-(i+1)<l.length-i;omega),?_⟩
   ·intro k hk dE
    rcases Nat.lt_succ_iff_lt_or_eq.1 dE with h5 | rfl
    ·exact hR k hk h5
    ·simpa using hb
   refine bh [0,1,7,8] [] ?_ ?_<;>simp only[go_sem,bc ae hl,be]
 ·have bE:i=l.length:=by
   have :¬ (i:Int)<l.length:=by simpa using hb
   omega
  clear hb
  subst bE
  repeat refine sq ?_
  refine bN ?_
  simp only[go_sem]
  refine kp [] [] ?_
  repeat refine sq ?_
  refine rx hΓ [4] [] (fun K' hK=>by simp only[go_sem];exact aq) ?_
  refine aB ?_
  simp only[go_sem]
  rw[tk (p:=fun x=>Ret.so x==s_) fun k hk=>hR k hk hk]
@[go_sem] def P181:PSpec:=p2 (dX iS) gB (fun _ g=>g.1=175) (fun l g=>vInt (dK (fun x=>Sig.so x==g.2) l)) true
@[go_sem] def aec:Spec:=P181.toSpec
theorem Va:aZ Tryz.prog 181 P181:=by
 refine dG (rs:=[.tmp 4]) Tryz.func181 Tryz.ntmps181 fun l g hp hw=>?_
 simp only[gB,iS,dX,encS]at hw |-
 have hΓ:=I3
 have hl:l.length<=maxLen:=by have:=hw.1.1;simpa using this
 obtain⟨g,s_⟩:=g
 try simp only[gB]at hw hp |-
 have hg:Dw g=some S175:=by subst hp;rfl
 have yV:¬ g=1000000000:=by omega
 repeat refine sq ?_
 refine rx hΓ [0,1] [] (fun K' hK=>by simp only[go_sem];exact aq) ?_
 repeat refine sq ?_
 refine rx hΓ [0,1,7,8] [] (fun K' hK=>by simp only[go_sem];exact aq) ?_
 repeat refine sq ?_
 refine aR ?_
 repeat refine sq ?_
 refine cp (fun s:Nat=>[(8,⟨true,.v (vInt s)⟩)]) (fun s=>[]) (fun s=>s<=l.length/\∀ k (h:k<l.length),k<s->(fun x:Sig=>Sig.so x==s_) l[k]=false) (fun s=>l.length-s) 0 ?_ ?_ ?_ ?_
 ·exact⟨Nat.zero_le _,by simp⟩
 ·rfl
 ·rfl
 rintro i ⟨hi,hR⟩
 simp only[go_sem]
 repeat refine sq ?_
 refine rx hΓ [0,1,7,8,9] [] (fun K' hK=>by simp only[go_sem];exact aq) ?_
 repeat refine sq ?_
 refine aC (fun hb=>?_) fun hb=>?_
 ·have ae:i<l.length:=by simpa using hb
  have aw:(i:Int)<l.length:=by omega
  clear hb
  repeat refine sq ?_
  refine aF ?_
  repeat refine sq ?_
  refine aR ?_
  repeat refine sq ?_
  refine rx hΓ [0,1,5,7,8] [] (fun K' hK=>by simp only[go_sem,ai ae,ak,an,aw];exact aq) ?_
  repeat refine sq ?_
  refine rx hΓ [0,1,5,7,8,16] [] (fun K' hK=>by simp only[go_sem,ai ae,ak,an,aw,hg,yV];exact aq) ?_
  repeat refine sq ?_
  refine aC (fun hb=>?_) fun hb=>?_
  ·repeat refine sq ?_
   refine rx hΓ [4] [] (fun K' hK=>by simp only[go_sem,ai ae,ak,an,aw];exact aq) ?_
   refine aB ?_
   simp only[go_sem]
   rw[oA (p:=fun x=>Sig.so x==s_) ae (by simpa using hb) hR]
  ·repeat refine sq ?_
   refine aF ?_
   refine bW ?_
   simp only[go_sem]
   refine kp [0,1,7,8] [] ?_
   repeat refine sq ?_
   refine aW hΓ fun K' hK=>?_
   simp only[go_sem,ai ae,ak,an,aw]
   repeat (refine⟨au,?_⟩)
   refine hK _ ?_
   clear K' hK
   simp only[go_sem]
   refine⟨i+1,⟨ae,?_⟩,by(show l.length-(i+1)<l.length-i;omega),?_⟩
   ·intro k hk dE
    rcases Nat.lt_succ_iff_lt_or_eq.1 dE with h5 | rfl
    ·exact hR k hk h5
    ·simpa using hb
   refine bh [0,1,7,8] [] ?_ ?_<;>simp only[go_sem,bc ae hl,be]
 ·have bE:i=l.length:=by
   have :¬ (i:Int)<l.length:=by simpa using hb
   omega
  clear hb
  subst bE
  repeat refine sq ?_
  refine bN ?_
  simp only[go_sem]
  refine kp [] [] ?_
  repeat refine sq ?_
  refine rx hΓ [4] [] (fun K' hK=>by simp only[go_sem];exact aq) ?_
  refine aB ?_
  simp only[go_sem]
  rw[tk (p:=fun x=>Sig.so x==s_) fun k hk=>hR k hk hk]
def K12b:List (Nat×Spec):=[(166,SS),(180,aed),(181,aec)]
theorem I4:KS K12b:=tc J8.sound<|tc Vb.sound<|tc Va.sound<|tn
attribute [go_sem] K12b
@[go_sem] def P170:PSpec:=p2 (dX iR) gB (fun _ g=>g.1=171) (fun l g=>.bool (l.any fun x=>Rec.so x==g.2)) true
@[go_sem] def aeg:Spec:=P170.toSpec
theorem Vi:aZ Tryz.prog 170 P170:=by
 refine dG (rs:=[.tmp 4]) Tryz.func170 Tryz.ntmps170 fun l g hp hw=>?_
 simp only[gB,iR,dX,encR]at hw |-
 have hΓ:=I4
 obtain⟨g,s⟩:=g
 try simp only[gB]at hw hp |-
 repeat refine sq ?_
 refine rx hΓ [0,1] [] (fun K' hK=>by simp only[go_sem];exact aq) ?_
 repeat refine sq ?_
 refine rx hΓ [4] [] (fun K' hK=>by simp only[go_sem,hp,true_or,rR];exact aq) ?_
 refine aB ?_
 simp only[go_sem]
 all_goals exact el
@[go_sem] def P172:PSpec:=p2 (dX iT) gB (fun _ g=>g.1=173) (fun l g=>.bool (l.any fun x=>Ret.so x==g.2)) true
@[go_sem] def aef:Spec:=P172.toSpec
theorem Vg:aZ Tryz.prog 172 P172:=by
 refine dG (rs:=[.tmp 4]) Tryz.func172 Tryz.ntmps172 fun l g hp hw=>?_
 simp only[gB,dX,iT,encT]at hw |-
 have hΓ:=I4
 obtain⟨g,s⟩:=g
 try simp only[gB]at hw hp |-
 repeat refine sq ?_
 refine rx hΓ [0,1] [] (fun K' hK=>by simp only[go_sem];exact aq) ?_
 repeat refine sq ?_
 refine rx hΓ [4] [] (fun K' hK=>by simp only[go_sem,hp,true_or,rR];exact aq) ?_
 refine aB ?_
 simp only[go_sem]
 all_goals exact el
@[go_sem] def P174:PSpec:=p2 (dX iS) gB (fun _ g=>g.1=175) (fun l g=>.bool (l.any fun x=>Sig.so x==g.2)) true
@[go_sem] def aee:Spec:=P174.toSpec
theorem Ve:aZ Tryz.prog 174 P174:=by
 refine dG (rs:=[.tmp 4]) Tryz.func174 Tryz.ntmps174 fun l g hp hw=>?_
 simp only[gB,iS,dX,encS]at hw |-
 have hΓ:=I4
 obtain⟨g,s⟩:=g
 try simp only[gB]at hw hp |-
 repeat refine sq ?_
 refine rx hΓ [0,1] [] (fun K' hK=>by simp only[go_sem];exact aq) ?_
 repeat refine sq ?_
 refine rx hΓ [4] [] (fun K' hK=>by simp only[go_sem,hp,true_or,rR];exact aq) ?_
 refine aB ?_
 simp only[go_sem]
 all_goals exact el
def K12:List (Nat×Spec):=[(170,aeg),(172,aef),(174,aee)]
theorem afA:KS K12:=tc Vi.sound<|tc Vg.sound<|tc Ve.sound<|tn
attribute [go_sem] K12
def hasB(l:Led)(s:Int):Bool:=l.rs.any (fun r=>r.so==s)||l.ts.any (fun r=>r.so==s)||l.ss.any (fun r=>r.so==s)
@[go_sem] def P85:PSpec:=p2 m7 iI (fun _ _=>True) (fun l s=>.bool (hasB l s)) true
@[go_sem] def SJ:Spec:=P85.toSpec
theorem UM:aZ Tryz.prog 85 P85:=by
 refine dG (rs:=[.tmp 4]) Tryz.func85 Tryz.ntmps85 fun l s hp hw=>?_
 simp only[iI,m7,jE]at hw |-
 have hΓ:=afA
 repeat refine sq ?_
 refine rx hΓ [0,3] [[3,0]] (fun K' hK=>by simp only[go_sem];exact aq) ?_
 repeat refine sq ?_
 refine rx hΓ [4] [] (fun K' hK=>by simp only[go_sem];exact aq) ?_
 refine aB ?_
 simp only[go_sem]
 all_goals first | rfl | (simp;done) | (grind [hasB];done)
end
noncomputable section
def S141:Spec:=wh Tryz.prog 29
theorem Z4:aT Tryz.prog 141 S141:=aae aak
attribute [go_sem] S141 wh
def K13:List (Nat×Spec):=[(37,IH),(67,SK),(79,zO),(85,SJ),(86,S86),(138,SZ),(141,S141)]
theorem afy:KS K13:=tc J6.sound<|tc J5.sound<|tc Au.sound<|tc UM.sound<|tc ZS<|tc Kb.sound<|tc Z4<|tn
attribute [go_sem] K13
def pv{α:Type}(l:List α)(k:Nat)(x:α):List α:=l.take k++[x]++l.drop k
theorem FE{α:Type}{l:List α}{k:Nat}{x:α}(h:k<=l.length):(pv l k x).length=l.length+1:=by
 unfold pv
 simp
 omega
theorem aag{obj:Name->Option O}{t nm:Name}{ss:List Sig}{k:Nat}{s:Sig}(ho:obj nm=some (.arr 7 (ss.map encS)))(hk:k<=ss.length)(hs:ss.length<=60):
 qV Tryz.prog obj t 29 (.msl nm ss.length) (.v (vInt k)) (.v (.sl [.agg [vInt s.so,vInt s.pe,vInt s.pa,vInt s.le,vInt s.da,vInt s.kn,vInt s.un]]))=
  ⟨True,.msl nm (ss.length+1),upd obj nm (some (.arr 7 ((pv ss k s).map encS)))⟩:=by
 show qV Tryz.prog obj t 29 (.msl nm ss.length) (.v (vInt k)) (.v (.sl [encS s]))=_
 have kb:dm Tryz.prog obj t 29 29 (.msl nm ss.length) (.v (.sl [encS s]))=⟨True,.msl nm (ss.length+1),upd obj nm (some (.arr 7 (ss.map encS++[encS s])))⟩:=by
  simp only[dm,DJ,Jl,ho,aO,List.length_map,List.length_cons,List.length_nil]
  refine congrArg (fun p=>R.mk p _ _) (eq_true ⟨trivial,?_,rfl,by omega,by unfold maxLen;omega,trivial,trivial⟩)
  intro y hy
  simp only[List.mem_singleton]at hy
  subst hy
  exact⟨rfl,rfl⟩
 have Pl:(0:Int)<=(k:Int):=by omega
 have aH:[encS s]≠[]:=by simp
 have Pg:([encS s]:List V).length=1:=rfl
 cases hb:Nat.beq k ss.length with
 |true=>
  have e:=Nat.eq_of_beq_eq_true hb
  have e2:(pv ss k s).map encS=ss.map encS++[encS s]:=by
   unfold pv
   rw[e,List.take_length,List.drop_length,List.append_nil,List.map_append]
   rfl
  simp only[qV,ho,kb,ak,List.length_map,hb,Pl,aH,e2,true_and,ne_eq,not_false_eq_true]
 |false=>
  have ae:k<ss.length:=by
   rcases Nat.lt_or_eq_of_le hk with h | h
   ·exact h
   ·subst h;simp at hb
  have e2:(pv ss k s).map encS=(ss.map encS).take k++[encS s]++(ss.map encS).drop k:=by
   unfold pv
   rw[List.map_append,List.map_append,List.map_take,List.map_drop]
   rfl
  simp only[qV,ho,kb,ak,List.length_map,hb,Pl,aH,ae,e2,true_and,ne_eq,not_false_eq_true,Pg]
theorem WV{l:Led}(h:bw l):JN l:=by
 refine⟨h.psn,h.rsn,h.tsn,h.ssn,fun r hr=>?_,fun r hr=>?_⟩
 ·obtain⟨j,hj,rfl⟩:=List.getElem_of_mem hr
  exact(pt.1 (Wa (lN h.rs hj))).2.1
 ·obtain⟨j,hj,rfl⟩:=List.getElem_of_mem hr
  have :=lN h.ts hj
  unfold jQ at this
  simp only[Bool.and_eq_true]at this
  exact(pt.1 this.1.1.1.2).2.1
theorem ade(l:Led):(mD l != 0)=!p8 l:=wO _ _ (by decide)
def vh:Led:=⟨[],[],[],[]⟩
def kY(l:Led)(s:Sig):Led×Int:=
 if p8 l=false then(vh,24)else if (!iE s||decide (s.le>bT l.ps s.pa)||hasB l s.so)=true then(vh,23)
 else if l.ss.length=60 then(vh,2)else({ l with ss:=pv l.ss (l7 Sig.so l.ss s.so) s },0)
theorem XP{α:Type}(num:α->Int)(l:List α)(x:Int):l7 num l x<=l.length:=(List.takeWhile_sublist _).length_le
@[go_sem] def P58:PSpec:=p2 iL iS (fun _ _=>True) (fun l s=>.tup [fw (kY l s).1,vInt (kY l s).2]) false
@[go_sem] def S58:Spec:=P58.toSpec
set_option maxHeartbeats 8000000 in
theorem UY:aZ Tryz.prog 58 P58:=by
 refine dG (rs:=[.cell 4 31,.tmp 5]) Tryz.func58 Tryz.ntmps58 fun l s hp hw=>?_
 have hP:=fE
 simp only[iL,iS,fw,encS]at hw |-
 have hΓ:=afy
 repeat refine sq ?_
 refine rx hΓ [2,3,4] [[2,0],[3,0],[4,0],[8,0,41,0],[11,0,41,0],[14,0,41,0],[17,0,41,0]] (fun K' hK=>by simp only[go_sem];exact aq) ?_
 repeat refine sq ?_
 refine rx hΓ [2,3,4,6] [[2,0],[3,0],[4,0],[8,0,41,0],[11,0,41,0],[14,0,41,0],[17,0,41,0]] (fun K' hK=>by simp only[go_sem];exact aq) ?_
 repeat refine sq ?_
 refine rx hΓ [2,3,4,6,13] [[2,0],[3,0],[4,0],[8,0,41,0],[11,0,41,0],[14,0,41,0],[17,0,41,0]] (fun K' hK=>by simp only[go_sem,ade];exact aq) ?_
 repeat refine sq ?_
 refine aC (fun hb=>?_) fun hb=>?_
 ·repeat refine sq ?_
  have ho:p8 l=false:=by simpa using hb
  have e:mD l=24:=by unfold mD;rw[ho];rfl
  have e2:kY l s=(vh,24):=by unfold kY;rw[if_pos ho]
  repeat refine sq ?_
  refine rx hΓ [4,5] [[4,0],[8,0,41,0],[11,0,41,0],[14,0,41,0],[17,0,41,0]] (fun K' hK=>by simp only[go_sem];exact aq) ?_
  refine aB ?_
  simp only[go_sem]
  rw[e2,e];rfl
 ·repeat refine sq ?_
  have ho:p8 l=true:=by simpa using hb
  have hO:=xU.1 ho
  have rU:srt Pap.id l.ps:=sZ (jH.1 hO.ps)
  have aaE:srt Sig.so l.ss:=sZ (jH.1 hO.ss)
  have wt:=hO.ssn
  have js:=WV hO
  have tW:=XP Sig.so l.ss s.so
  refine aF ?_
  repeat refine sq ?_
  refine aR ?_
  repeat refine sq ?_
  refine dx hΓ hP [[],[0],[0,1],[0,1,2],u4,u5,u4,[0,1,2,3,6],[0,1,2,3,6,7],u9,ck,eF,eO,gK,jk,vt,u16] [2,3,4,16] [[2,0],[3,0],[4,0],[8,0,41,0],[11,0,41,0],[14,0,41,0],[17,0,41,0]] (by kernel_rfl) (fun K' hK=>by simp only[go_sem,rU,fun b=>wO b 23 (by decide)];exact gX) ?_
  repeat refine sq ?_
  refine aC (fun hb=>?_) fun hb=>?_
  ·repeat refine sq ?_
   have e2:kY l s=(vh,23):=by unfold kY;rw[if_neg (by simp[ho]),if_pos hb]
   repeat refine sq ?_
   refine rx hΓ [4,5] [[4,0],[8,0,41,0],[11,0,41,0],[14,0,41,0],[17,0,41,0]] (fun K' hK=>by simp only[go_sem];exact aq) ?_
   refine aB ?_
   simp only[go_sem]
   rw[e2];rfl
  ·repeat refine sq ?_
   have PY:=hb
   repeat refine sq ?_
   refine rx hΓ [2,3,4,34] [[2,0],[3,0],[4,0],[8,0,41,0],[11,0,41,0],[14,0,41,0],[17,0,41,0]] (fun K' hK=>by simp only[go_sem];exact aq) ?_
   repeat refine sq ?_
   refine aC (fun hb=>?_) fun hb=>?_
   ·repeat refine sq ?_
    have Hf:l.ss.length=60:=by simp at hb;omega
    have e2:kY l s=(vh,2):=by
     unfold kY
     rw[if_neg (by simp[ho]),if_neg (by simp[PY]),if_pos Hf]
    repeat refine sq ?_
    refine rx hΓ [4,5] [[4,0],[8,0,41,0],[11,0,41,0],[14,0,41,0],[17,0,41,0]] (fun K' hK=>by simp only[go_sem];exact aq) ?_
    refine aB ?_
    simp only[go_sem]
    rw[e2];rfl
   ·repeat refine sq ?_
    have Hf:¬ l.ss.length=60:=by simp at hb;omega
    have e2:kY l s=({ l with ss:=pv l.ss (l7 Sig.so l.ss s.so) s },0):=by
     unfold kY
     rw[if_neg (by simp[ho]),if_neg (by simp[PY]),if_neg Hf]
    refine aF ?_
    refine bW ?_
    simp only[go_sem]
    refine kp [2,3,4] [[2,0],[3,0],[4,0],[8,0,41,0],[11,0,41,0],[14,0,41,0],[17,0,41,0]] ?_
    repeat refine sq ?_
    refine rx hΓ [3,4,7] [[3,0],[4,0],[7,0],[8,0,41,0],[11,0,41,0],[14,0,41,0],[17,0,41,0]] (fun K' hK=>by simp only[go_sem,js];exact aq) ?_
    repeat refine sq ?_
    refine rx hΓ [3,4,7,8] [[3,0],[4,0],[7,0],[8,0,41,0],[11,0,41,0],[14,0,41,0],[17,0,41,0]] (fun K' hK=>by simp only[go_sem,aaE];exact aq) ?_
    repeat refine sq ?_
    refine rx hΓ [4,7] [[4,0],[7,0],[8,0,41,0],[11,0,41,0],[14,0,41,0],[17,0,41,0]] (fun K' hK=>by simp only[go_sem,aag,tW,wt,FE];exact aq) ?_
    repeat refine sq ?_
    refine rx hΓ [4,5] [[4,0],[8,0,41,0],[11,0,41,0],[14,0,41,0],[17,0,41,0]] (fun K' hK=>by simp only[go_sem,FE,tW];exact aq) ?_
    refine aB ?_
    simp only[go_sem]
    rw[e2]
    exact⟨(FE tW).symm,rfl⟩
end
noncomputable section
def K14:List (Nat×Spec):=[(15,qW)]
attribute [go_sem] K14
theorem abC(l:Led)(s:Int):(lT l).contains s=hasB l s:=by
 unfold lT hasB
 have key:∀ {α:Type} (f:α->Int) (l:List α),(l.map f).contains s=l.any fun r=>f r==s:=by
  intro α f l
  induction l with
  |nil=>rfl
  |cons a r ih=>
   simp only[List.map_cons,List.contains_cons,List.any_cons,ih]
   congr 1
   rw[Bool.eq_iff_iff]
   simp only[beq_iff_eq]
   exact eq_comm
 rw[List.contains_append,List.contains_append,key,key,key]
end
structure Vw where
 l:Led
 rs:List Rec
 ts:List Int
 bk:List ((Int×Int)×Int)
 ds:List (Int×(Int×Int))
 deriving Inhabited
def cm(b:List ((Int×Int)×Int)):List (V×V):=b.map fun q=>(.agg [vInt q.1.1,vInt q.1.2],vInt q.2)
def Q1:V->Int×Int
 | .agg [.int _ a,.int _ b]=>(a,b)
 |_=>(0,0)
def Cy(es:List (V×V)):List ((Int×Int)×Int):=es.map fun q=>(Q1 q.1,kQ q.2)
def bU(d:List (Int×(Int×Int))):List (V×V):=d.map fun q=>(vInt q.1,.agg [vInt q.2.1,vInt q.2.2])
def HO(es:List (V×V)):List (Int×(Int×Int)):=es.map fun q=>(kQ q.1,Q1 q.2)
@[go_sem] theorem HP(b:List ((Int×Int)×Int)):Cy (cm b)=b:=by
  unfold Cy cm
  rw[List.map_map]
  exact List.map_id _
@[go_sem] theorem HN(b:List (Int×(Int×Int))):HO (bU b)=b:=by
  unfold HO bU
  rw[List.map_map]
  exact List.map_id _
def bG(x:Vw)(nb nd:Name):O:=.box [.v (jE x.l),.v (.sl (x.rs.map encR)),.v (.sl (x.ts.map vInt)),.map nb,.map nd]
def wU(lp:V)(rs ts:List V)(eb ed:List (V×V)):Vw:=⟨Cx lp,rs.map lJ,ts.map kQ,Cy eb,HO ed⟩
theorem acs(x:Vw):wU (jE x.l) (x.rs.map encR) (x.ts.map vInt) (cm x.bk) (bU x.ds)=x:=by
 obtain⟨⟨p,r,t,s⟩,rs,ts,bk,ds⟩:=x
 simp only[wU,jE,Cx,QX,Cv,QV,wV,sp,HP,HN]
def jA(obj:Name->Option O)(nv:Name):Option (Name×Name×Vw):=match obj nv with
 |some (.box [.v lp,.v (.sl rs),.v (.sl ts),.map nb,.map nd])=>match obj nb,obj nd with
  |some (.map 2 eb),some (.map 0 ed)=>some (nb,nd,wU lp rs ts eb ed)
  |_,_=>none
 |_=>none
def pn(obj:Name->Option O)(nv nb nd:Name)(x:Vw):Prop:=
 obj nv=some (bG x nb nd)/\obj nb=some (.map 2 (cm x.bk))/\obj nd=some (.map 0 (bU x.ds))/\(nv==nb)=false/\(nv==nd)=false/\(nb==nd)=false
structure VSpec where
 pre:Vw->List V->Prop
 val:Vw->List V->D
 wr:Option (Vw->List V->List (Int×(Int×Int)))
def VSpec.app(s:VSpec)(obj:Name->Option O)(t:Name)(ds:List D):R:=match ds with
 | .ref nv 0::r=>match jA obj nv,mF r with
   |some (nb,nd,x),some xs=>⟨pn obj nv nb nd x/\s.pre x xs,(s.val x xs).ren (cout [nv,nb,nd] t),match s.wr with | none=>obj | some f=>upd obj nd (some (.map 0 (bU (f x xs))))⟩
   |_,_=>.bad obj
 |_=>.bad obj
def VSpec.foot(_:VSpec)(obj:Name->Option O)(_:Name)(ds:List D):List Name:=match ds with
 | .ref nv _::_=>nv::(match obj nv with | some (.box [_,_,_,.map nb,.map nd])=>[nb,nd] | _=>[])
 |_=>[]
def VSpec.toSpec(s:VSpec):Spec:=⟨s.app,s.foot,s.foot⟩
theorem VSpec.near(s:VSpec):s.toSpec.Near:=by
 refine xX fun obj obj2 t ds ha=>?_
 match ds with
 | .ref nv off::r=>
   have h1:obj2 nv=obj nv:=ha nv (by simp[VSpec.foot])
   refine⟨by simp only[VSpec.foot,h1],?_⟩
   cases off with
   |succ k=>exact .none _ ha
   |zero=>
    have iq:b8 (R.bad obj) (R.bad obj2) obj obj2 (s.foot obj t (.ref nv 0::r)):=.none _ ha
    by_cases hg:∃ a b c nb nd,obj nv=some (.box [a,b,c,.map nb,.map nd])
    ·obtain⟨a,b,c,nb,nd,hb⟩:=hg
     have mq:obj2 nb=obj nb:=ha nb (by simp[VSpec.foot,hb])
     have lC:obj2 nd=obj nd:=ha nd (by simp[VSpec.foot,hb])
     have hgv:jA obj2 nv=jA obj nv:=by
      unfold jA
      rw[h1,hb]
      split<;>first | rfl | (rename_i e;cases e;rw[mq,lC])
     have cz:∀ vV vU x,jA obj nv=some (vV,vU,x)->vV=nb/\vU=nd:=by
      intro vV vU x h
      unfold jA at h
      rw[hb]at h
      split at h
      ·rename_i e
       cases e
       split at h
       ·cases h;exact⟨rfl,rfl⟩
       ·cases h
      ·cases h
     show b8 (s.app obj t (.ref nv 0::r)) (s.app obj2 t (.ref nv 0::r)) obj obj2 _
     unfold VSpec.app
     simp only[hgv]
     split
     ·rename_i vV vU x xs hx Bt
      obtain⟨rfl,rfl⟩:=cz _ _ _ hx
      have aa:pn obj2 nv vV vU x=pn obj nv vV vU x:=by unfold pn;rw[h1,mq,lC]
      rw[aa]
      cases s.wr with
      |none=>exact .none _ ha
      |some f=>exact .one (by simp[VSpec.foot,hb]) ha
     ·exact iq
    ·have e1:jA obj nv=none:=by
       unfold jA
       split
       ·rename_i h;exact(hg ⟨_,_,_,_,_,h⟩).elim
       ·rfl
     have e2:jA obj2 nv=none:=by
      unfold jA
      rw[h1]
      split
      ·rename_i h;exact(hg ⟨_,_,_,_,_,h⟩).elim
      ·rfl
     show b8 (s.app obj t (.ref nv 0::r)) (s.app obj2 t (.ref nv 0::r)) obj obj2 _
     unfold VSpec.app
     simp only[e1,e2]
     exact iq
 |[]=>exact⟨rfl,.none _ ha⟩
 | .v _::_=>exact⟨rfl,.none _ ha⟩
 | .nilsl::_=>exact⟨rfl,.none _ ha⟩
 | .nilmap::_=>exact⟨rfl,.none _ ha⟩
 | .msl _ _::_=>exact⟨rfl,.none _ ha⟩
 | .aref _ _ _ _::_=>exact⟨rfl,.none _ ha⟩
 | .map _::_=>exact⟨rfl,.none _ ha⟩
 | .yld _::_=>exact⟨rfl,.none _ ha⟩
 | .clo _ _ _::_=>exact⟨rfl,.none _ ha⟩
 | .agg _::_=>exact⟨rfl,.none _ ha⟩
 | .tup _::_=>exact⟨rfl,.none _ ha⟩
 | .any::_=>exact⟨rfl,.none _ ha⟩
def VSpec.c(s:VSpec):CSpec where
 pre:=fun os ds=>∃ (x:Vw) (xs:List V),os=[bG x [1,1] [2,1],.map 2 (cm x.bk),.map 0 (bU x.ds)]/\ds=.ref [0,1] 0::xs.map .v/\s.pre x xs
 out:=fun os ds=>match os,ds with
  |[.box [.v lp,.v (.sl rs),.v (.sl ts),_,_],.map _ eb,.map _ ed],_::r=>match mF r with
   |some xs=>⟨match s.wr with | none=>[] | some f=>[(2,.map 0 (bU (f (wU lp rs ts eb ed) xs)))],[],s.val (wU lp rs ts eb ed) xs⟩
   |none=>⟨[],[],.any⟩
  |_,_=>⟨[],[],.any⟩
theorem VSpec.c_out(s:VSpec)(x:Vw)(xs:List V):s.c.out [bG x [1,1] [2,1],.map 2 (cm x.bk),.map 0 (bU x.ds)] (.ref [0,1] 0::xs.map .v)=
 ⟨match s.wr with | none=>[] | some f=>[(2,.map 0 (bU (f x xs)))],[],s.val x xs⟩:=by
 simp only[VSpec.c,bG,Dc,acs]
theorem KE{obj:Name->Option O}{nv nb nd:Name}{x:Vw}(h:pn obj nv nb nd x)(xs:List V):reach obj (.ref nv 0::xs.map .v)=[nv,nb,nd]:=by
 obtain⟨h1,h2,h3,h4,h5,h6⟩:=h
 unfold reach
 have e:dw (.ref nv 0::xs.map .v)=[nv]:=by simp only[dw,mX,EY,List.append_nil]
 rw[e]
 show dW obj (2996+1+1+1+1) [nv] []=[nv,nb,nd]
 simp only[dW,dj,List.any_nil,Bool.false_eq_true,if_false,h1,bG,mW,dw,mX,List.nil_append,List.append_nil,List.any_cons,h4,h5,h6,Bool.or_false,h2,h3,List.cons_append]
theorem VSpec.sound{P:Program}{f:FuncId}{s:VSpec}(h:aT P f s.c.toSpec)(aH:f≠yid):aT P f s.toSpec:=by
 refine xw h s.near aH fun obj t ds aa=>?_
 have fM:(s.app obj t ds).ok:=aa
 show ∃ nA,_/\_/\_/\_=(s.app obj t ds).d/\_=(s.app obj t ds).obj
 unfold VSpec.app at fM |-
 split at fM
 ·rename_i nv r
  split at fM
  ·rename_i nb nd x xs yW Bt
   obtain⟨hv,hp⟩:=fM
   have hlen:=Iy Bt
   have tz:=hv
   obtain⟨h1,h2,h3,h4,h5,h6⟩:=tz
   have n4:nv≠nb:=by simpa using h4
   have n5:nv≠nd:=by simpa using h5
   have n6:nb≠nd:=by simpa using h6
   have hr:=KE hv xs
   have i0:idx [nv,nb,nd] nv=0:=by simp[idx]
   have i1:idx [nv,nb,nd] nb=1:=by simp[idx,n4]
   have i2:idx [nv,nb,nd] nd=2:=by simp[idx,n5,n6]
   have e1:cS obj (.ref nv 0::xs.map .v)=[bG x [1,1] [2,1],.map 2 (cm x.bk),.map 0 (bU x.ds)]:=by
    unfold cS
    rw[hr]
    simp only[List.map_cons,List.map_nil,cX,h1,h2,h3,bG,O.ren,D.renL,D.ren,cin,i1,i2]
   have e2:dr obj (.ref nv 0::xs.map .v)=.ref [0,1] 0::xs.map .v:=by
    unfold dr
    rw[hr]
    simp only[D.renL,D.ren,cin,i0,Ef]
   have e5:(shut obj [nv,nb,nd]&&D.closL (dj [nv,nb,nd]) (.ref nv 0::xs.map .v)&&fresh obj t [])=true:=by
    simp[shut,h1,h2,h3,bG,O.clos,D.closL,D.clos,dj,fresh,H9]
   refine⟨.ref nv 0::xs.map .v,by simpa using hlen,fun φ m us hl rX i a b=>?_,?_⟩
   ·cases i with
    |zero=>exact rX 0 (by simp) b
    |succ i=>
     simp only[List.length_cons,List.length_map]at a
     simp only[List.getElem_cons_succ,List.getElem_map]
     exact .v _ _ (Ix Bt i (by omega) (by omega) _ (by have:=rX (i+1) (by simp;omega) b;simpa using this))
   ·have e4:s.c.pre [bG x [1,1] [2,1],.map 2 (cm x.bk),.map 0 (bU x.ds)] (.ref [0,1] 0::xs.map .v):=⟨x,xs,rfl,rfl,hp⟩
    simp only[CSpec.toSpec,e1,e2,hr,s.c_out,e4,e5,yW,Bt,and_self,dQ]
    refine⟨trivial,trivial,?_⟩
    cases s.wr with
    |none=>rfl
    |some f=>simp only[cU,O.ren,List.getD_cons_zero,List.getD_cons_succ]
  ·exact fM.elim
 ·exact fM.elim
def xL(P:Program)(rs:List ResultVar)(x:Vw)(d:D)(w:Option (List (Int×(Int×Int)))):Exit->S->Prop
 | .normal,σ=>(cf P σ rs).ok/\(cf P σ rs).d=d/\σ.obj [0,1]=some (bG x [1,1] [2,1])/\σ.obj [1,1]=some (.map 2 (cm x.bk))/\σ.obj [2,1]=some (.map 0 (bU (w.getD x.ds)))
 | .ret,σ=>(cf P σ rs).ok/\(cf P σ rs).d=d/\σ.obj [0,1]=some (bG x [1,1] [2,1])/\σ.obj [1,1]=some (.map 2 (cm x.bk))/\σ.obj [2,1]=some (.map 0 (bU (w.getD x.ds)))
 |_,_=>False
theorem DF{P:Program}{f:FuncId}{fn:Func}{nt:Nat}{rs:List ResultVar}{s:VSpec}(hf:P.funcs[f]?=some fn)(cM:fn.ntmps=nt)(cg:fn.results.toList=rs)(hn:(fn.name== "runtime.NumGoroutine")=false)(hy:f<1000000000)(cA:∀ x xs,s.pre x xs->D.clos (fun _=>false) (s.val x xs)=true)
 (hb:∃ c,fn.body=some c/\∀ x xs,s.pre x xs->xs.length+1<=nt/\∀ H:Name->Option O,H [0,1]=some (bG x [1,1] [2,1])->H [1,1]=some (.map 2 (cm x.bk))->H [2,1]=some (.map 0 (bU x.ds))->
   (∀ hs,cG [0] (cv [0] hs) H=True)->(∀ hs es,cG [0] (cv [0] hs) (fun nm=>if nm=[2,1]then some (.map 0 es)else H nm)=True)->
   CL P [c] (bu nt [0] H (dt 0 (.ref [0,1] 0::xs.map .v)) []) (xL P rs x (s.val x xs) (s.wr.map fun f=>f x xs))):aT P f s.toSpec:=by
 obtain⟨c,hc,h⟩:=hb
 have aH:f≠yid:=Nat.ne_of_lt (show f<yid from hy)
 refine VSpec.sound (pI hf hc cM cg (jb hf hc hn) aH ?_) aH
 rintro os ds ⟨x,xs,rfl,rfl,hp⟩
 obtain⟨h1,h2⟩:=h x xs hp
 refine⟨by simpa using h1,?_⟩
 have hO:∀ hs,cG [0] (cv [0] hs) (ba [bG x [1,1] [2,1],.map 2 (cm x.bk),.map 0 (bU x.ds)]):=fun hs=>p7 (by
  intro o ho dom hd
  simp only[List.mem_cons,List.not_mem_nil,or_false]at ho
  rcases ho with rfl | rfl | rfl
  ·simp[bG,O.clos,D.closL,D.clos,hd]
  ·rfl
  ·rfl) hs
 have :=h2 (ba [bG x [1,1] [2,1],.map 2 (cm x.bk),.map 0 (bU x.ds)]) rfl rfl rfl (fun hs=>eq_true (hO hs)) (fun hs es=>eq_true (vd (nm:=[2,1]) (o:=.map 0 es) rfl (hO hs)))
 refine CW.mono (kg this) fun e σ hk=>?_
 rw[s.c_out]
 have key:(cf P σ rs).ok/\(cf P σ rs).d=s.val x xs/\σ.obj [0,1]=some (bG x [1,1] [2,1])/\σ.obj [1,1]=some (.map 2 (cm x.bk))/\σ.obj [2,1]=some (.map 0 (bU ((s.wr.map fun f=>f x xs).getD x.ds)))->
     (cf P σ rs).ok/\(cf P σ rs).d=s.val x xs/\gZ [bG x [1,1] [2,1],.map 2 (cm x.bk),.map 0 (bU x.ds)] ⟨match s.wr with | none=>[] | some f=>[(2,.map 0 (bU (f x xs)))],[],s.val x xs⟩ σ:=by
  rintro⟨k1,k2,k3,k4,k5⟩
  refine⟨k1,k2,?_⟩
  have hd:=clos_imp (dom:=fun _=>false) (dom':=dC 3 []) (fun _ h=>by cases h) _ (cA x xs hp)
  cases hw:s.wr with
  |none=>
   rw[hw]at k5
   refine⟨⟨k3,k4,k5,trivial⟩,trivial,?_⟩
   show (D.clos (dC 3 []) (s.val x xs)&&_&&_&&_)=true
   rw[hd];rfl
  |some f=>
   rw[hw]at k5
   refine⟨⟨k3,k4,k5,trivial⟩,trivial,?_⟩
   show (D.clos (dC 3 []) (s.val x xs)&&_&&_&&_)=true
   rw[hd];rfl
 cases e with
 |normal=>exact key hk
 |ret=>exact key hk
 |_=>exact hk.elim
def v0(p:Vw->Prop)(g:Vw->D)(w:Option (Vw->List (Int×(Int×Int)))):VSpec:=
 ⟨fun x xs=>match xs with | []=>p x | _=>False,fun x xs=>match xs with | []=>g x | _=>.any,w.map fun w x xs=>match xs with | []=>w x | _=>[]⟩
theorem Jh{p:Vw->Prop}{g:Vw->D}{w:Option (Vw->List (Int×(Int×Int)))}{x:Vw}{xs:List V}(h:(v0 p g w).pre x xs):
 xs=[]/\p x/\(v0 p g w).val x xs=g x/\((v0 p g w).wr.map fun f=>f x xs)=w.map fun w=>w x:=by
 unfold v0 at h
 simp only at h
 split at h
 ·exact⟨rfl,h,rfl,by cases w<;>rfl⟩
 ·exact h.elim
def v1{α:Type}(A:En α)(p:Vw->α->Prop)(g:Vw->α->D)(w:Option (Vw->α->List (Int×(Int×Int)))):VSpec:=
 ⟨fun x xs=>match xs with | [a]=>A.enc (A.dec a)=a/\p x (A.dec a) | _=>False,fun x xs=>match xs with | [a]=>g x (A.dec a) | _=>.any,w.map fun w x xs=>match xs with | [a]=>w x (A.dec a) | _=>[]⟩
theorem Jg{α:Type}{A:En α}{p:Vw->α->Prop}{g:Vw->α->D}{w:Option (Vw->α->List (Int×(Int×Int)))}{x:Vw}{xs:List V}(h:(v1 A p g w).pre x xs):
 ∃ a,xs=[A.enc a]/\p x a/\(v1 A p g w).val x xs=g x a/\((v1 A p g w).wr.map fun f=>f x xs)=w.map fun w=>w x a:=by
 unfold v1 at h
 simp only at h
 split at h
 ·exact⟨_,by rw[h.1],h.2,rfl,by cases w<;>rfl⟩
 ·exact h.elim
def v2{α β:Type}(A:En α)(B:En β)(p:Vw->α->β->Prop)(g:Vw->α->β->D)(w:Option (Vw->α->β->List (Int×(Int×Int)))):VSpec:=
 ⟨fun x xs=>match xs with | [a,b]=>A.enc (A.dec a)=a/\B.enc (B.dec b)=b/\p x (A.dec a) (B.dec b) | _=>False,fun x xs=>match xs with | [a,b]=>g x (A.dec a) (B.dec b) | _=>.any,w.map fun w x xs=>match xs with | [a,b]=>w x (A.dec a) (B.dec b) | _=>[]⟩
theorem Jf{α β:Type}{A:En α}{B:En β}{p:Vw->α->β->Prop}{g:Vw->α->β->D}{w:Option (Vw->α->β->List (Int×(Int×Int)))}{x:Vw}{xs:List V}(h:(v2 A B p g w).pre x xs):
 ∃ a b,xs=[A.enc a,B.enc b]/\p x a b/\(v2 A B p g w).val x xs=g x a b/\((v2 A B p g w).wr.map fun f=>f x xs)=w.map fun w=>w x a b:=by
 unfold v2 at h
 simp only at h
 split at h
 ·exact⟨_,_,by rw[h.1,h.2.1],h.2.2,rfl,by cases w<;>rfl⟩
 ·exact h.elim
def v3{α β γ:Type}(A:En α)(B:En β)(C:En γ)(p:Vw->α->β->γ->Prop)(g:Vw->α->β->γ->D)(w:Option (Vw->α->β->γ->List (Int×(Int×Int)))):VSpec:=
 ⟨fun x xs=>match xs with | [a,b,c]=>A.enc (A.dec a)=a/\B.enc (B.dec b)=b/\C.enc (C.dec c)=c/\p x (A.dec a) (B.dec b) (C.dec c) | _=>False,fun x xs=>match xs with | [a,b,c]=>g x (A.dec a) (B.dec b) (C.dec c) | _=>.any,w.map fun w x xs=>match xs with | [a,b,c]=>w x (A.dec a) (B.dec b) (C.dec c) | _=>[]⟩
section
variable {P:Program} {f:FuncId} {fn:Func} {nt:Nat} {rs:List ResultVar}
theorem TE{p:Vw->Prop}{g:Vw->D}{w:Option (Vw->List (Int×(Int×Int)))}(hf:P.funcs[f]?=some fn)(cM:fn.ntmps=nt)(cg:fn.results.toList=rs)(hn:(fn.name== "runtime.NumGoroutine")=false)(hy:f<1000000000)(cA:∀ x,D.clos (fun _=>false) (g x )=true)
 (hb:∃ cc,fn.body=some cc/\1<=nt/\∀ x,p x->∀ H:Name->Option O,H [0,1]=some (bG x [1,1] [2,1])->H [1,1]=some (.map 2 (cm x.bk))->H [2,1]=some (.map 0 (bU x.ds))->
   (∀ hs,cG [0] (cv [0] hs) H=True)->(∀ hs es,cG [0] (cv [0] hs) (fun nm=>if nm=[2,1]then some (.map 0 es)else H nm)=True)->
   CL P [cc] (bu nt [0] H (dt 0 (.ref [0,1] 0::[].map .v)) []) (xL P rs x (g x ) (w.map fun w=>w x ))):aT P f (v0 p g w).toSpec:=by
 obtain⟨cc,hc,h1,h⟩:=hb
 refine DF hf cM cg hn hy (fun x xs hp=>by
  obtain⟨rfl,_,hg,_⟩:=Jh hp
  rw[hg];exact cA x ) ⟨cc,hc,fun x xs hp=>?_⟩
 obtain⟨rfl,hp,hg,hw⟩:=Jh hp
 rw[hg,hw]
 exact⟨h1,h x hp⟩
theorem z6{α:Type}{A:En α}{p:Vw->α->Prop}{g:Vw->α->D}{w:Option (Vw->α->List (Int×(Int×Int)))}(hf:P.funcs[f]?=some fn)(cM:fn.ntmps=nt)(cg:fn.results.toList=rs)(hn:(fn.name== "runtime.NumGoroutine")=false)(hy:f<1000000000)(cA:∀ x a,D.clos (fun _=>false) (g x a)=true)
 (hb:∃ cc,fn.body=some cc/\2<=nt/\∀ x a,p x a->∀ H:Name->Option O,H [0,1]=some (bG x [1,1] [2,1])->H [1,1]=some (.map 2 (cm x.bk))->H [2,1]=some (.map 0 (bU x.ds))->
   (∀ hs,cG [0] (cv [0] hs) H=True)->(∀ hs es,cG [0] (cv [0] hs) (fun nm=>if nm=[2,1]then some (.map 0 es)else H nm)=True)->
   CL P [cc] (bu nt [0] H (dt 0 (.ref [0,1] 0::[A.enc a].map .v)) []) (xL P rs x (g x a) (w.map fun w=>w x a))):aT P f (v1 A p g w).toSpec:=by
 obtain⟨cc,hc,h1,h⟩:=hb
 refine DF hf cM cg hn hy (fun x xs hp=>by
  obtain⟨a,rfl,_,hg,_⟩:=Jg hp
  rw[hg];exact cA x a) ⟨cc,hc,fun x xs hp=>?_⟩
 obtain⟨a,rfl,hp,hg,hw⟩:=Jg hp
 rw[hg,hw]
 exact⟨h1,h x a hp⟩
theorem z5{α β:Type}{A:En α}{B:En β}{p:Vw->α->β->Prop}{g:Vw->α->β->D}{w:Option (Vw->α->β->List (Int×(Int×Int)))}(hf:P.funcs[f]?=some fn)(cM:fn.ntmps=nt)(cg:fn.results.toList=rs)(hn:(fn.name== "runtime.NumGoroutine")=false)(hy:f<1000000000)(cA:∀ x a b,D.clos (fun _=>false) (g x a b)=true)
 (hb:∃ cc,fn.body=some cc/\3<=nt/\∀ x a b,p x a b->∀ H:Name->Option O,H [0,1]=some (bG x [1,1] [2,1])->H [1,1]=some (.map 2 (cm x.bk))->H [2,1]=some (.map 0 (bU x.ds))->
   (∀ hs,cG [0] (cv [0] hs) H=True)->(∀ hs es,cG [0] (cv [0] hs) (fun nm=>if nm=[2,1]then some (.map 0 es)else H nm)=True)->
   CL P [cc] (bu nt [0] H (dt 0 (.ref [0,1] 0::[A.enc a,B.enc b].map .v)) []) (xL P rs x (g x a b) (w.map fun w=>w x a b))):aT P f (v2 A B p g w).toSpec:=by
 obtain⟨cc,hc,h1,h⟩:=hb
 refine DF hf cM cg hn hy (fun x xs hp=>by
  obtain⟨a,b,rfl,_,hg,_⟩:=Jf hp
  rw[hg];exact cA x a b) ⟨cc,hc,fun x xs hp=>?_⟩
 obtain⟨a,b,rfl,hp,hg,hw⟩:=Jf hp
 rw[hg,hw]
 exact⟨h1,h x a b hp⟩
end
attribute [go_sem] v0 v1 v2 v3 xL Option.map_some Option.map_none Option.getD_some Option.getD_none
attribute [go_sem] VSpec.toSpec VSpec.app jA pn bG wU
noncomputable section
def K16:List (Nat×Spec):=[(166,SS)]
theorem S':KS K16:=tc J8.sound<|tn
attribute [go_sem] K16
def zeroR:Rec:=⟨0,0,0,[],0,0,0⟩
def hU(r:Rec):D:=.agg [.v (vInt r.so),.v (vInt r.bo),.v (vInt r.pa),.v (.sl (r.lv.map vInt)),.v (vInt r.da),.v (vInt r.kn),.v (vInt r.un)]
attribute [go_sem] hU
def om:Option Rec->D
 |some r=>hU r
 |none=>.agg [.v (vInt 0),.v (vInt 0),.v (vInt 0),.nilsl,.v (vInt 0),.v (vInt 0),.v (vInt 0)]
theorem mQ(r:Option Rec)(p:Name->Bool):D.clos p (om r)=true:=by cases r<;>rfl
def cO(l:List Rec)(s:Int):Option Rec:=l.find? fun r=>r.so==s
theorem KJ{l:List Rec}{s:Int}(h:dK (fun x=>x.so==s) l<0):cO l s=none:=by
 unfold cO
 rw[List.find?_eq_none]
 intro x hx hp
 unfold dK at h
 rw[if_pos (List.any_eq_true.2 ⟨x,hx,hp⟩)]at h
 omega
theorem KI{l:List Rec}{s:Int}(h:¬ dK (fun x=>x.so==s) l<0):∃ (i:Nat) (hi:i<l.length),dK (fun x=>x.so==s) l=i/\cO l s=some l[i]:=by
 unfold dK at h |-
 split at h
 ·rename_i jz
  have ae:l.findIdx (fun x=>x.so==s)<l.length:=List.findIdx_lt_length_of_exists (by obtain⟨x,hx,hp⟩:=List.any_eq_true.1 jz;exact⟨x,hx,hp⟩)
  rw[if_pos jz]
  refine⟨_,ae,rfl,?_⟩
  unfold cO
  rw[List.find?_eq_some_iff_getElem]
  exact⟨List.findIdx_getElem (w:=ae),_,ae,rfl,fun j hj=>by simpa using List.not_of_lt_findIdx hj⟩
 ·omega
def Sz:VSpec:=v1 iI (fun _ _=>True) (fun x s=>.tup [om (cO x.rs s),.v (.bool (cO x.rs s).isSome)]) none
def S77:Spec:=Sz.toSpec
attribute [go_sem] Sz S77
set_option maxHeartbeats 4000000 in
theorem Fx:aT Tryz.prog 77 S77:=by
 refine z6 (rs:=[.cell 4 36,.tmp 5]) Tryz.func77 Tryz.ntmps77 (by rfl) (by kernel_rfl) (by decide) (fun _ _=>by first | rfl | exact mQ _ _ | simp[D.clos,D.closL,mQ]) ⟨_,rfl,lb rfl,fun x s hp H h0 h1 h2 hO ah=>?_⟩
 simp only[iI,bG,dt,List.map_cons,List.map_nil,Nat.zero_add,Option.map_some,Option.map_none]at h0 |-
 have hΓ:=S'
 repeat refine sq ?_
 refine rx hΓ [0,3,4] [[3,0],[4,0]] (fun K' hK=>by simp only[go_sem,hO,ah,h0,h1,h2];(repeat (refine⟨au,?_⟩));exact hK _ (by simp only[go_sem,hO,ah,h0,h1,h2]) (by simp only[go_sem,hO,ah,h0,h1,h2]<;>rfl)) ?_
 repeat refine sq ?_
 refine rx hΓ [0,4,6] [[4,0]] (fun K' hK=>by simp only[go_sem,hO,ah,h0,h1,h2,true_or,or_true];(repeat (refine⟨au,?_⟩));exact hK _ (by simp only[go_sem,hO,ah,h0,h1,h2,true_or,or_true]) (by simp only[go_sem,hO,ah,h0,h1,h2,true_or,or_true]<;>rfl)) ?_
 repeat refine sq ?_
 refine rx hΓ [0,4,6,14] [[4,0]] (fun K' hK=>by simp only[go_sem,hO,ah,h0,h1,h2];(repeat (refine⟨au,?_⟩));exact hK _ (by simp only[go_sem,hO,ah,h0,h1,h2]) (by simp only[go_sem,hO,ah,h0,h1,h2]<;>rfl)) ?_
 repeat refine sq ?_
 refine aC (fun hb=>?_) fun hb=>?_
 ·repeat refine sq ?_
  have e:cO x.rs s=none:=KJ (by simpa using hb)
  repeat refine sq ?_
  refine rx hΓ [4,5] [[4,0]] (fun K' hK=>by simp only[go_sem,hO,ah,h0,h1,h2];(repeat (refine⟨au,?_⟩));exact hK _ (by simp only[go_sem,hO,ah,h0,h1,h2]) (by simp only[go_sem,hO,ah,h0,h1,h2]<;>rfl)) ?_
  refine aB ?_
  simp only[go_sem,hO,ah,h0,h1,h2]
  rw[e];rfl
 ·repeat refine sq ?_
  obtain⟨i,hi,e1,e⟩:=KI (by simpa using hb)
  have bP:(i:Int)<x.rs.length:=by omega
  rw[e1]
  refine aF ?_
  repeat refine sq ?_
  refine rx hΓ [4,5] [[4,0]] (fun K' hK=>by simp only[go_sem,hO,ah,h0,h1,h2,ai hi,ak,an,bP];(repeat (refine⟨au,?_⟩));exact hK _ (by simp only[go_sem,hO,ah,h0,h1,h2,ai hi,ak,an,bP]) (by simp only[go_sem,hO,ah,h0,h1,h2,ai hi,ak,an,bP]<;>rfl)) ?_
  refine aB ?_
  simp only[go_sem,hO,ah,h0,h1,h2]
  rw[e];rfl
end
noncomputable section
structure Rg where
 (lo hi:Int)
 deriving Inhabited,DecidableEq
def uI(r:Rg):V:=.agg [vInt r.lo,vInt r.hi]
def wW:V->Rg
 | .agg [.int _ a,.int _ b]=>⟨a,b⟩
 |_=>default
def FH:En Rg:=⟨uI,wW⟩
attribute [go_sem] uI wW FH
@[go_sem] theorem ai8(p:Rg):(⟨p.lo,p.hi⟩:Rg)=p:=rfl
def aL:List (Int×(Int×Int))->Int->Int×Int
 |[],_=>(0,0)
 |(k,d)::r,i=>if k=i then d else aL r i
def oW:List (Int×(Int×Int))->Int->Int×Int->List (Int×(Int×Int))
 |[],i,d=>[(i,d)]
 |(k,e)::r,i,d=>if k=i then(i,d)::r else(k,e)::oW r i d
theorem gj(d:List (Int×(Int×Int)))(i:Int):(fF (bU d) (vInt i)).getD (.agg [vInt 0,vInt 0])=.agg [vInt (aL d i).1,vInt (aL d i).2]:=by
 induction d with
 |nil=>rfl
 |cons q r ih=>
  obtain⟨k,e⟩:=q
  show (if fW (vInt k) (vInt i)=true then some (V.agg [vInt e.1,vInt e.2])else fF (bU r) (vInt i)).getD _=_
  by_cases h:k=i
  ·subst h;simp[fW,aL]
  ·have h':(k==i)=false:=by simpa using h
   simp only[fW,h',Bool.false_eq_true,if_false,aL,h]
   exact ih
theorem LO(d:List (Int×(Int×Int)))(i a b:Int):eG (bU d) (vInt i) (.agg [vInt a,vInt b])=bU (oW d i (a,b)):=by
 induction d with
 |nil=>rfl
 |cons q r ih=>
  obtain⟨k,e⟩:=q
  show (if fW (vInt k) (vInt i)=true then(vInt i,V.agg [vInt a,vInt b])::bU r else(vInt k,V.agg [vInt e.1,vInt e.2])::eG (bU r) (vInt i) (.agg [vInt a,vInt b]))=_
  by_cases h:k=i
  ·subst h;simp[fW,oW,bU]
  ·have h':(k==i)=false:=by simpa using h
   simp only[fW,h',Bool.false_eq_true,if_false,oW,h,ih]
   rfl
def bO(a b:Int):Int:=if b>a then b else a
def dH(a b:Int):Int:=if b<a then b else a
def EX(x:Vw)(i:Int)(r:Rg):List (Int×(Int×Int)):=oW x.ds i (bO (aL x.ds i).1 r.lo,dH (aL x.ds i).2 r.hi)
def SB:VSpec:=v2 iI FH (fun _ _ _=>True) (fun _ _ _=>.tup []) (some EX)
def S165:Spec:=SB.toSpec
attribute [go_sem] SB S165
set_option maxHeartbeats 4000000 in
theorem Fy:aT Tryz.prog 165 S165:=by
 refine z5 (rs:=[]) Tryz.func165 Tryz.ntmps165 (by rfl) (by kernel_rfl) (by decide) (fun _ _ _=>by first | rfl | simp[D.clos,D.closL,mQ]) ⟨_,rfl,lb rfl,fun x i r hp H h0 h1 h2 hO ah=>?_⟩
 have hP:=fE
 simp only[iI,FH,uI,bG,dt,List.map_cons,List.map_nil,Nat.zero_add,Option.map_some,Option.map_none]at h0 |-
 have hΓ:=@fD Tryz.prog
 repeat refine sq ?_
 refine rx hΓ [0,1,5] [[5,0]] (fun K' hK=>by simp only[go_sem,hO,ah,h0,h1,h2];(repeat (refine⟨au,?_⟩));exact hK _ (by simp only[go_sem,hO,ah,h0,h1,h2]) (by simp only[go_sem,hO,ah,h0,h1,h2]<;>rfl)) ?_
 repeat refine sq ?_
 refine rx hΓ [0,1,5,6] [[5,0],[6,0]] (fun K' hK=>by simp only[go_sem,hO,ah,h0,h1,h2,gj];(repeat (refine⟨au,?_⟩));exact hK _ (by simp only[go_sem,hO,ah,h0,h1,h2,gj]) (by simp only[go_sem,hO,ah,h0,h1,h2,gj]<;>rfl)) ?_
 repeat refine sq ?_
 refine oZ hΓ hP [[],[0],[0,1],[0,1,2],[],[],[5],[],[7],[5,6,7,8],[],[10],[],[12],[10,11,12,13],[5,6,7,8,9,10,11,12,13,14],u16] (by kernel_rfl) fun K' hK=>?_
 simp only[go_sem,hO,ah,h0,h1,h2,LO]
 repeat (refine⟨au,?_⟩)
 first | refine⟨by rfl,?_⟩ | skip
 refine hK _ ?_
 clear K' hK
 simp only[go_sem]
 exact⟨h0,h1,rfl⟩
end
def bq(l:Led)(k:Int):List Rec:=l.rs.filter fun r=>bF r.kn r.un k
def du(l:Led)(k:Int):List Sig:=l.ss.filter fun s=>bF s.kn s.un k
def iv(pa:Int)(lv:List Int)(r:Rec):Bool:=r.pa==pa&&r.lv.any fun n=>lv.contains n
def dU(rs:List Rec)(pa:Int)(lv:List Int):List Rec:=rs.filter (iv pa lv)
abbrev Bk:=List ((Int×Int)×Int)
abbrev Ds:=List (Int×(Int×Int))
def bb:Bk->Int×Int->Option Int
 |[],_=>none
 |(k,i)::r,q=>if k=q then some i else bb r q
def sA:Bk->Int×Int->Int->Bk
 |[],q,i=>[(q,i)]
 |(k,e)::r,q,i=>if k=q then(q,i)::r else(k,e)::sA r q i
theorem ME(a b c d:Int):fW (.agg [vInt a,vInt b]) (.agg [vInt c,vInt d])=decide ((a,b)=(c,d)):=by
 show (a==c&&b==d)=_
 by_cases h1:a=c<;>by_cases h2:b=d<;>simp[h1,h2]
theorem aA(b:Bk)(p f:Int):fF (cm b) (.agg [vInt p,vInt f])=(bb b (p,f)).map vInt:=by
 induction b with
 |nil=>rfl
 |cons q r ih=>
  obtain⟨⟨k1,k2⟩,i⟩:=q
  show (if fW (.agg [vInt k1,vInt k2]) (.agg [vInt p,vInt f])=true then some (vInt i)else fF (cm r) (.agg [vInt p,vInt f]))=_
  rw[ih,ME]
  simp only[bb]
  by_cases h:(k1,k2)=(p,f)
  ·rw[if_pos h,if_pos (by simpa using h)];rfl
  ·rw[if_neg h,if_neg (by simpa using h)]
theorem Xx(b:Bk)(p f i:Int):eG (cm b) (.agg [vInt p,vInt f]) (vInt i)=cm (sA b (p,f) i):=by
 induction b with
 |nil=>rfl
 |cons q r ih=>
  obtain⟨⟨k1,k2⟩,e⟩:=q
  show (if fW (.agg [vInt k1,vInt k2]) (.agg [vInt p,vInt f])=true then(V.agg [vInt p,vInt f],vInt i)::cm r else(.agg [vInt k1,vInt k2],vInt e)::eG (cm r) (.agg [vInt p,vInt f]) (vInt i))=_
  rw[ih,ME]
  simp only[sA]
  by_cases h:(k1,k2)=(p,f)
  ·rw[if_pos h,if_pos (by simpa using h)];rfl
  ·rw[if_neg h,if_neg (by simpa using h)];rfl
def kE(d:Ds)(i:Int)(r:Rg):Ds:=oW d i (bO (aL d i).1 r.lo,dH (aL d i).2 r.hi)
def aG(l:Led)(i:Nat):Ret:=l.ts.getD i default
def gA(k:Int)(rs:List Rec)(bk:Bk)(x:Ret):Option Rec:=match cO rs x.re with
 |none=>none
 |some r=>if bF x.kn x.un k&&!(decide (bO x.lo (r.da+1)>x.hi)||x.lv.any fun f=>(bb bk (r.so,f)).isSome||!r.lv.contains f)then some r else none
def qM(b:Bk)(so:Int)(i:Int)(lv:List Int):Bk:=lv.foldl (fun b f=>sA b (so,f) i) b
def mZ(l:Led)(k:Int)(v:Vw)(i:Nat):Vw:=match gA k v.rs v.bk (aG l i)with
 |none=>v
 |some r=>{ v with bk:=qM v.bk r.so i (aG l i).lv,ts:=v.ts++[(i:Int)],ds:=oW v.ds i (bO (aG l i).lo (r.da+1),(aG l i).hi) }
def aE(l:Led)(k:Int):Nat->Vw
 | 0=>⟨l,bq l k,[],[],[]⟩
 |s+1=>mZ l k (aE l k s) s
def mS(rs:List Rec)(s:Int):Rec:=(cO rs s).getD zeroR
def kD(d:Ds)(i da:Int)(os:List Rec):Ds:=os.foldl (fun d o=>if o.da>da then kE d i ⟨0,o.da⟩else d) d
def gP(l:Led)(rs:List Rec)(ts:List Int)(d:Ds):Nat->Ds
 | 0=>d
 |j+1=>kD (gP l rs ts d j) (ts.getD j 0) (mS rs (aG l (ts.getD j 0).toNat).re).da (dU rs (mS rs (aG l (ts.getD j 0).toNat).re).pa (aG l (ts.getD j 0).toNat).lv)
def aj(l:Led)(k:Int):Vw:={ aE l k l.ts.length with ds:=gP l (bq l k) (aE l k l.ts.length).ts (aE l k l.ts.length).ds (aE l k l.ts.length).ts.length }
theorem XU(l:Led)(k:Int)(v:Vw)(i:Nat):(mZ l k v i).l=v.l/\(mZ l k v i).rs=v.rs:=by
 unfold mZ
 split<;>exact⟨rfl,rfl⟩
theorem qj(l:Led)(k:Int)(i:Nat):(aE l k i).l=l/\(aE l k i).rs=bq l k:=by
 induction i with
 |zero=>exact⟨rfl,rfl⟩
 |succ i ih=>
  have :=XU l k (aE l k i) i
  exact⟨this.1.trans ih.1,this.2.trans ih.2⟩
def sr(x:Vw)(a b:Rec):Bool:=a.lv.any fun f=>(a.pa==b.pa&&b.lv.contains f)&&(a.da==b.da||match bb x.bk (a.so,f)with
 |none=>true
 |some i=>decide (bO (aG x.l i.toNat).lo (a.da+1)>b.da))
def gH(x:Vw)(a b:Rec):Bool:=if a.da>b.da then sr x b a else sr x a b
def ou(x:Vw)(i:Nat):Option (Int×Int):=((x.rs.drop (i+1)).find? (gH x (x.rs.getD i zeroR))).map fun b=>((x.rs.getD i zeroR).so,b.so)
def ew(x:Vw):Option (Int×Int):=(List.range x.rs.length).findSome? (ou x)
def o0(day:Int)(o:Option Rec)(r:Rec):Option Rec:=if decide (r.da<=day)&&(o.isNone||decide (r.da>=(o.getD zeroR).da))then some r else o
def eo(rs:List Rec)(pa le day:Int):Option Rec:=(dU rs pa [le]).foldl (o0 day) none
def cH:Rg:=⟨0,100000⟩
def cI:Rg:=⟨1,0⟩
def bd(x:Vw)(s:Sig):Int×Rg:=match eo x.rs s.pa s.le s.da with
 |none=>if s.pe=0 then(-1,cH)else(-1,cI)
 |some r=>match bb x.bk (r.so,s.le)with
  |none=>if s.pe=r.bo then(-1,cH)else(-1,cI)
  |some i=>if s.pe=0 then(i,⟨0,s.da⟩)else if s.pe=r.bo then(i,⟨s.da+1,100000⟩)else(-1,cI)
def gG(x:Vw)(d:Ds)(s:Sig):Ds:=if (bd x s).1>=0 then kE d (bd x s).1 (bd x s).2 else d
def cl(x:Vw)(d:Ds)(l:List Sig):Ds:=l.foldl (gG x) d
def eR(x:Vw)(s:Sig):Bool:=decide ((bd x s).1>=0)||!decide ((bd x s).2.lo>(bd x s).2.hi)
def wL(ts:List Int)(d:Ds):Bool:=ts.all fun i=>decide ((aL d i).1<=(aL d i).2)
def fI(x:Vw)(l:List Sig):Bool:=l.all (eR x)&&wL x.ts (cl x x.ds l)
open Go
def di(obj:Name->Option O):List Name->List O->Prop
 |[],[]=>True
 |x::xs,o::os=>obj x=some o/\di obj xs os
 |_,_=>False
theorem l3{obj:Name->Option O}:∀ {Ls:List Name} {F:List O},di obj Ls F↔Ls.map obj=F.map some
 |[],[]=>by simp[di]
 |x::xs,o::os=>by simp only[di,List.map_cons,List.cons.injEq,l3]
 |[],_::_=>by simp[di]
 |_::_,[]=>by simp[di]
theorem EO{obj obj2:Name->Option O}{Ls:List Name}{F:List O}(h:di obj Ls F)(ha:∀ x∈Ls,obj2 x=obj x):di obj2 Ls F:=by
 rw[l3]at h |-
 rw[<-h]
 exact List.map_congr_left ha
theorem EN{obj:Name->Option O}:∀ {Ls:List Name} {F:List O},di obj Ls F->∀ i (h:i<Ls.length) (h':i<F.length),obj Ls[i]=some F[i]
 |_::_,_::_,h,0,_,_=>h.1
 |_::_,_::_,h,i+1,h1,h2=>by
  simp only[List.getElem_cons_succ]
  exact EN h.2 i (by simpa using h1) (by simpa using h2)
def AN(K:Exit->S->Prop)(σ:S):Option Code->Prop
 |none=>K .normal σ
 |some .ret=>K .ret σ
 |some (.exit id)=>K (.exit id) σ
 |_=>False
theorem Ym{K:Exit->S->Prop}{obj:Name->Option O}{nm:Name}{σ:S}{env:List E}{ps:List Nat}{a b:Code}(pd:Option Code)(h:obj nm=some (.loop env ps a b (if pd.isNone then .ready else .done) pd))
 (hK:AN K σ pd):rM K obj nm σ:=by
 unfold rM
 rw[h]
 rcases pd with _ | c
 ·exact hK
 ·cases c<;>first | exact hK.elim | exact hK
def LR(m:Nat):List Name:=(List.range m).map fun i=>[i,1]
def LI(m:Nat):List Name:=(List.range m).map fun i=>[i+1,1]
theorem pQ(m:Nat):(LR m).length=m:=by simp[LR]
theorem iX(m:Nat):(LI m).length=m:=by simp[LI]
theorem S5(m:Nat):(LR m).Nodup:=by
 unfold LR
 exact List.Pairwise.map _ (fun a b h=>by simpa using h) List.nodup_range
theorem CK{Ls:List Name}(hn:Ls.Nodup):Ls.map (cin Ls)=LR Ls.length:=by
 refine List.ext_getElem (by simp[LR]) fun i h1 h2=>?_
 simp only[List.getElem_map,LR,List.getElem_range,cin]
 rw[FG hn (by simpa using h1)]
theorem Ib{R:Name}{Ls:List Name}(hn:Ls.Nodup)(hR:R∉Ls):Ls.map (cin (R::Ls))=LI Ls.length:=by
 refine List.ext_getElem (by simp[LI]) fun i h1 h2=>?_
 simp only[List.getElem_map,LI,List.getElem_range,cin]
 have h3:i<Ls.length:=by simpa using h1
 have h4:=FG (L:=R::Ls) (List.nodup_cons.2 ⟨hR,hn⟩) (i:=i+1) (by simp;omega)
 simp only[List.getElem_cons_succ]at h4
 rw[h4]
theorem Rh(Ls:List Name)(t:Name):(LR Ls.length).map (cout Ls t)=Ls:=by
 refine List.ext_getElem (by simp[LR]) fun i h1 h2=>?_
 simp only[List.getElem_map,LR,List.getElem_range,cout]
 exact mu h2
theorem Rf(R:Name)(Ls:List Name)(t:Name):(LI Ls.length).map (cout (R::Ls) t)=Ls:=by
 refine List.ext_getElem (by simp[LI]) fun i h1 h2=>?_
 simp only[List.getElem_map,LI,List.getElem_range,cout]
 rw[mu (by simpa using h2)]
 simp
def eP:List Name->List O->(Name->Option O)->(Name->Option O)
 |x::xs,o::os,obj=>eP xs os (upd obj x (some o))
 |_,_,obj=>obj
theorem xE:∀ {Ls:List Name} {F:List O} {obj:Name->Option O} {x:Name},x∉Ls->eP Ls F obj x=obj x
 |[],_,_,_,_=>by simp[eP]
 |_::_,[],_,_,_=>by simp[eP]
 |y::ys,o::os,obj,x,h=>by
  simp only[List.mem_cons,not_or]at h
  simp only[eP]
  rw[xE h.2,bm _ _ _ h.1]
theorem JW:∀ {Ls:List Name} {F:List O} {obj:Name->Option O},Ls.Nodup->Ls.length=F.length->di (eP Ls F obj) Ls F
 |[],[],_,_,_=>trivial
 |[],_::_,_,_,h=>by simp at h
 |_::_,[],_,_,h=>by simp at h
 |y::ys,o::os,obj,hn,h=>by
  rw[List.nodup_cons]at hn
  refine⟨?_,JW (obj:=upd obj y (some o)) hn.2 (by simpa using h)⟩
  simp only[eP]
  rw[xE hn.1,aX]
def fS:Nat->List O->List (Nat×O)
 |_,[]=>[]
 |k,o::r=>(k,o)::fS (k+1) r
theorem Eu{t:Name}{L:List Name}:∀ {Ls:List Name} {k:Nat} {F:List O} {obj:Name->Option O},Ls.length=F.length->(∀ i (h:i<Ls.length),L.getD (k+i) []=Ls[i])->
 cU L t (fS k F) obj=eP Ls (F.map (O.ren (cout L t))) obj
 |[],k,[],obj,_,_=>rfl
 |[],k,_::_,obj,h,_=>by simp at h
 |_::_,k,[],obj,h,_=>by simp at h
 |x::xs,k,o::os,obj,h,hL=>by
  simp only[fS,cU,List.map_cons,eP]
  have h0:=hL 0 (by simp)
  simp only[Nat.add_zero,List.getElem_cons_zero]at h0
  rw[h0]
  exact Eu (by simpa using h) fun i hi=>by
   have :=hL (i+1) (by simpa using hi)
   rw[show k+1+i=k+(i+1)by omega]
   simpa using this
theorem Fi:∀ {F:List O} {k i:Nat} {o:O},i<k->fG (fS k F) i o=o
 |[],k,i,o,_=>rfl
 |f::r,k,i,o,h=>by
  simp only[fS,fG]
  rw[if_neg (by omega)]
  exact Fi (by omega)
theorem EK{σ:S}:∀ {F os:List O} {k:Nat} {u:List (Nat×O)},F.length=os.length->(∀ i,k<=i->∀ o,fG u i o=fG (fS k F) i o)->
 (∀ i (h:i<F.length),σ.obj [k+i,1]=some F[i])->s8 σ u k os
 |[],[],_,_,_,_,_=>trivial
 |[],_::_,_,_,h,_,_=>by simp at h
 |_::_,[],_,_,h,_,_=>by simp at h
 |f::fs,o::os,k,u,h,hu,hs=>by
  refine⟨?_,EK (F:=fs) (by simpa using h) (fun i hi x=>?_) fun i hi=>?_⟩
  ·have h0:=hs 0 (by simp)
   simp only[Nat.add_zero,List.getElem_cons_zero]at h0
   rw[h0,hu k (Nat.le_refl _) o]
   simp only[fS,fG,if_true]
   rw[Fi (by omega)]
  ·rw[hu i (by omega) x]
   simp only[fS,fG]
   rw[if_neg (by omega)]
  ·have:=hs (i+1) (by simpa using hi)
   rw[show k+1+i=k+(i+1)by omega]
   simpa using this
structure Lp where
 m:Nat
 env:List Name->List E
 fam:List Name->Nat->List O
 ps:List Nat
 asg:Code
 body:Code
 n:Nat
 vals:Nat->List D
 st:Nat->Option Code
 fu:Nat
structure Lp.Ok (r:Lp):Prop where
 len:∀ Ls s,Ls.length=r.m->(r.fam Ls s).length=r.m
 renE:∀ f Ls,Ls.length=r.m->(r.env Ls).map (E.ren f)=r.env (Ls.map f)
 renF:∀ f Ls s,Ls.length=r.m->(r.fam Ls s).map (O.ren f)=r.fam (Ls.map f) s
 reach:∀ Ls s obj acc k,Ls.length=r.m->Ls.Nodup->(∀ x∈Ls,x∉acc)->di obj Ls (r.fam Ls s)->dW obj (k+r.fu) (dw ((r.env Ls).map (·.d))) acc=acc++Ls
 closE:∀ dom Ls,Ls.length=r.m->(∀ x∈Ls,dom x=true)->D.closL dom ((r.env Ls).map (·.d))=true
 closF:∀ dom Ls s,Ls.length=r.m->(∀ x∈Ls,dom x=true)->∀ o∈r.fam Ls s,O.clos dom o=true
 psz:∀ Ls,Ls.length=r.m->(r.ps.all fun p=>decide (p<(r.env Ls).length))=true
 args:∀ s,(r.vals s).length=r.ps.length
 fuel:r.fu<=2000
 vnam:∀ s,dw (r.vals s)=[]
 vcl:∀ s dom,D.closL dom (r.vals s)=true
 vren:∀ s f,D.renL f (r.vals s)=r.vals s
 inj:∀ s s',s<r.n->s'<r.n->r.vals s=r.vals s'->s=s'
theorem Xu(a b:List D):dw (a++b)=dw a++dw b:=by
 induction a with
 |nil=>rfl
 |cons x r ih=>simp only[List.cons_append,dw,ih,List.append_assoc]
theorem acU(dom:Name->Bool)(a b:List D):D.closL dom (a++b)=(D.closL dom a&&D.closL dom b):=by
 induction a with
 |nil=>simp[D.closL]
 |cons x r ih=>simp only[List.cons_append,D.closL,ih,Bool.and_assoc]
noncomputable def Lp.y(r:Lp):YSpec where
 pre:=fun env ps asg body os ds=>∃ s,s<r.n/\(∀ j,j<s->r.st j=none)/\env=r.env (LR r.m)/\ps=r.ps/\asg=r.asg/\body=r.body/\os=r.fam (LR r.m) s/\ds=r.vals s
 out:=fun _ _ _ _ _ ds=>by
  classical exact if h:∃ s,s<r.n/\ds=r.vals s then(⟨fS 0 (r.fam (LR r.m) (h.choose+1)),[],.v (.bool true)⟩,r.st h.choose)else(⟨[],[],.any⟩,none)
theorem Lp.y_out{r:Lp}(hr:r.Ok){s:Nat}(hs:s<r.n)(env:List E)(ps:List Nat)(asg body:Code)(os:List O):
 r.y.out env ps asg body os (r.vals s)=(⟨fS 0 (r.fam (LR r.m) (s+1)),[],.v (.bool true)⟩,r.st s):=by
 have h:∃ s',s'<r.n/\r.vals s=r.vals s':=⟨s,hs,rfl⟩
 have e:h.choose=s:=(hr.inj _ _ hs h.choose_spec.1 h.choose_spec.2).symm
 simp only[Lp.y]
 rw[dif_pos h,e]
def V1(m:Nat)(F:List O)(p:Option Code):Exit->S->Prop
 | .normal,σ=>p=none/\di σ.obj (LR m) F
 | .ret,σ=>p=some .ret/\di σ.obj (LR m) F
 | .exit id,σ=>p=some (.exit id)/\di σ.obj (LR m) F
 |_,_=>False
theorem ack{os F:List O}{σ:S}{m:Nat}(h1:os.length=m)(h2:F.length=m)(hc:∀ dom:Name->Bool,(∀ x∈LR m,dom x=true)->∀ o∈F,O.clos dom o=true)(h:di σ.obj (LR m) F):
 gZ os ⟨fS 0 F,[],.v (.bool true)⟩ σ:=by
 have kN:∀ i (hi:i<F.length),σ.obj [i,1]=some F[i]:=by
  rw[l3]at h
  intro i hi
  have h3:=congrArg (fun l=>l[i]?) h
  have bP:i<m:=by omega
  simpa[LR,hi,bP]using h3
 refine⟨EK (F:=F) (by omega) (fun i _ o=>rfl) fun i hi=>by rw[Nat.zero_add];exact kN i hi,trivial,?_⟩
 have sd:∀ x∈LR m,dC os.length [] x=true:=by
  intro x hx
  obtain⟨i,hi,rfl⟩:=List.mem_map.1 hx
  have :=List.mem_range.1 hi
  simp[dC]
  omega
 have eM:∀ (F':List O) (k:Nat),(∀ o∈F',O.clos (dC os.length []) o=true)->k+F'.length<=os.length->((fS k F').all fun x=>O.clos (dC os.length []) x.2&&decide (x.1<os.length))=true:=by
  intro F'
  induction F' with
  |nil=>intros;rfl
  |cons f fs ih=>
   intro k hf hk
   simp only[List.length_cons]at hk
   simp only[fS,List.all_cons,Bool.and_eq_true,decide_eq_true_eq]
   exact⟨⟨hf f (by simp),by omega⟩,by have:=ih (k+1) (fun o ho=>hf o (by simp[ho])) (by omega);simpa using this⟩
 have :=eM F 0 (hc _ sd) (by omega)
 simp only[D.clos,this,List.all_nil,List.map_nil,distinct,Bool.and_self]
theorem Lp.y_sound{P:Program}{r:Lp}(hr:r.Ok)(h:∀ s,s<r.n->(∀ j,j<s->r.st j=none)->
 CW P r.asg ⟨(r.env (LR r.m)).length,rm (uH (r.env (LR r.m))) r.ps (r.vals s),ba (r.fam (LR r.m) s),[0],0⟩ (Ll fun σ1=>CW P r.body σ1 (V1 r.m (r.fam (LR r.m) (s+1)) (r.st s)))):aT P yid r.y.toSpec:=by
 refine I7 ?_
 rintro env ps asg body os ds ⟨s,hs,hj,rfl,rfl,rfl,rfl,rfl,rfl⟩ _
 rw[Lp.y_out hr hs]
 refine CW.mono (h s hs hj) fun e σ hk=>?_
 cases e with
 |normal=>
  refine CW.mono hk fun e σ hk=>?_
  have fin:di σ.obj (LR r.m) (r.fam (LR r.m) (s+1))->gZ (r.fam (LR r.m) s) ⟨fS 0 (r.fam (LR r.m) (s+1)),[],.v (.bool true)⟩ σ:=
   ack (hr.len _ _ (pQ _)) (hr.len _ _ (pQ _)) fun dom hd=>hr.closF dom _ _ (pQ _) hd
  cases e with
  |normal=>exact⟨hk.1,fin hk.2⟩
  |ret=>exact⟨hk.1,fin hk.2⟩
  |exit id=>exact⟨hk.1,fin hk.2⟩
  |goto l=>exact hk.elim
  |panic c=>exact hk.elim
  |outgrown=>exact hk.elim
 |ret=>exact hk.elim
 |exit id=>exact hk.elim
 |goto l=>exact hk.elim
 |panic c=>exact hk.elim
 |outgrown=>exact hk.elim
def Lp.rc(r:Lp)(Ls:List Name)(st:LoopState)(pd:Option Code):O:=.loop (r.env Ls) r.ps r.asg r.body st pd
theorem Lp.y_app{r:Lp}(hr:r.Ok){s:Nat}(hs:s<r.n)(hj:∀ j,j<s->r.st j=none){obj:Name->Option O}{t R:Name}{Ls:List Name}(hl:Ls.length=r.m)(hn:Ls.Nodup)(hR:R∉Ls)
 (h0:obj R=some (r.rc Ls .ready none)) (hF:di obj Ls (r.fam Ls s)):
 r.y.toSpec.app obj t (.yld R::r.vals s)=⟨True,.v (.bool (r.st s).isNone),upd (eP Ls (r.fam Ls (s+1)) obj) R (some (r.rc Ls (if (r.st s).isNone then .ready else .done) (r.st s)))⟩:=by
 have kK:reach obj (roots (r.env Ls) (r.vals s))=Ls:=by
  unfold reach roots
  rw[Xu,hr.vnam,List.append_nil]
  have :=hr.reach Ls s obj [] (3000-r.fu) hl hn (fun _ _=>by simp) hF
  rwa [show 3000-r.fu+r.fu=3000 by have:=hr.fuel;omega]at this
 have e1:cS obj (roots (r.env Ls) (r.vals s))=r.fam (LR r.m) s:=by
  unfold cS
  rw[kK]
  have :Ls.map (cX Ls obj)=(r.fam Ls s).map (O.ren (cin Ls)):=by
   rw[l3]at hF
   refine List.ext_getElem (by simp[hr.len _ _ hl,hl]) fun i h1 h2=>?_
   have h3:i<Ls.length:=by simpa using h1
   have h4:i<(r.fam Ls s).length:=by rw[hr.len _ _ hl,<-hl];exact h3
   have h5:=congrArg (fun l=>l[i]?) hF
   have h6:obj Ls[i]=some (r.fam Ls s)[i]:=by simpa[h3,h4]using h5
   simp only[List.getElem_map,cX,h6]
  rw[this,hr.renF _ _ _ hl,CK hn,hl]
 have e2:jh obj (r.env Ls) (r.vals s)=r.env (LR r.m):=by
  unfold jh
  rw[kK,hr.renE _ _ hl,CK hn,hl]
 have e3:kq obj (r.env Ls) (r.vals s)=r.vals s:=by
  unfold kq
  exact hr.vren s _
 have e4:r.y.o obj (r.env Ls) r.ps r.asg r.body (r.vals s)=(⟨fS 0 (r.fam (LR r.m) (s+1)),[],.v (.bool true)⟩,r.st s):=by
  unfold YSpec.o
  rw[e1,e2,e3,Lp.y_out hr hs]
 have eB:r.y.pre (r.env (LR r.m)) r.ps r.asg r.body (r.fam (LR r.m) s) (r.vals s):=⟨s,hs,hj,rfl,rfl,rfl,rfl,rfl,rfl⟩
 have cA:D.closL (dj Ls) (roots (r.env Ls) (r.vals s))=true:=by
  unfold roots
  rw[acU,hr.vcl,Bool.and_true]
  exact hr.closE _ _ hl fun x hx=>ig.2 hx
 have js:shut obj Ls=true:=by
  unfold shut
  rw[List.all_eq_true]
  intro x hx
  obtain⟨i,hi,rfl⟩:=List.getElem_of_mem hx
  rw[l3]at hF
  have h4:i<(r.fam Ls s).length:=by rw[hr.len _ _ hl,<-hl];exact hi
  have h5:=congrArg (fun l=>l[i]?) hF
  have h6:obj Ls[i]=some (r.fam Ls s)[i]:=by simpa[hi,h4]using h5
  rw[h6]
  exact hr.closF _ _ _ hl (fun x hx=>ig.2 hx) _ (List.getElem_mem h4)
 have hnR:dj Ls R=false:=by
  cases h:dj Ls R with
  |false=>rfl
  |true=>exact(hR (ig.1 h)).elim
 have hp:cU Ls t (fS 0 (r.fam (LR r.m) (s+1))) obj=eP Ls (r.fam Ls (s+1)) obj:=by
  rw[Eu (Ls:=Ls) (by rw[hr.len _ _ (pQ _),hl]) fun i hi=>by rw[Nat.zero_add];exact mu hi,hr.renF _ _ _ (pQ _)]
  have :(LR r.m).map (cout Ls t)=Ls:=by rw[<-hl];exact Rh Ls t
  rw[this]
 unfold Lp.rc at h0
 simp only[YSpec.toSpec,h0,e1,e2,e3,e4,kK,cA,js,hnR,fresh,List.all_nil,Bool.and_self,Bool.not_false,hr.args,decide_true,hr.psz Ls hl,eB,dQ,hp,and_self]
 rfl
def Lp.e(r:Lp):Nat:=match (List.range r.n).find? (fun s=>(r.st s).isSome)with | some s=>s+1 | none=>r.n
def Lp.pd(r:Lp):Option Code:=match (List.range r.n).find? (fun s=>(r.st s).isSome)with | some s=>r.st s | none=>none
def Lp.fin(r:Lp)(Ls:List Name):O:=r.rc Ls (if r.pd.isNone then .ready else .done) r.pd
def Lp.it(r:Lp)(eE:List V):CSpec where
 pre:=fun os ds=>os=r.rc (LI r.m) .ready none::r.fam (LI r.m) 0/\ds=.yld [0,1]::eE.map .v
 out:=fun _ _=>⟨(0,r.fin (LI r.m))::fS 1 (r.fam (LI r.m) r.e),[],.tup []⟩
theorem Lp.it_end{P:Program}{r:Lp}(hr:r.Ok){σ:S}(h0:σ.obj [0,1]=some (r.fin (LI r.m)))(h1:di σ.obj (LI r.m) (r.fam (LI r.m) r.e)):
 (cf P σ []).ok/\(cf P σ []).d=.tup []/\gZ (r.rc (LI r.m) .ready none::r.fam (LI r.m) 0) ⟨(0,r.fin (LI r.m))::fS 1 (r.fam (LI r.m) r.e),[],.tup []⟩ σ:=by
 have Gs:=hr.len (LI r.m) 0 (iX _)
 have hle:=hr.len (LI r.m) r.e (iX _)
 have kN:∀ i (hi:i<(r.fam (LI r.m) r.e).length),σ.obj [1+i,1]=some (r.fam (LI r.m) r.e)[i]:=by
  intro i hi
  have h3:=EN h1 i (by rw[iX];omega) hi
  rw[Nat.add_comm]
  simpa only[LI,List.getElem_map,List.getElem_range]using h3
 have sd:∀ x∈LI r.m,dC (r.m+1) [] x=true:=by
  intro x hx
  obtain⟨i,hi,rfl⟩:=List.mem_map.1 hx
  have :=List.mem_range.1 hi
  simp[dC]
  omega
 refine⟨fun x hx=>by simp at hx,rfl,⟨⟨?_,EK (F:=r.fam (LI r.m) r.e) (by omega) (fun i hi o=>by simp only[fG];rw[if_neg (by omega)]) kN⟩,trivial,?_⟩⟩
 ·simp only[fG,if_true]
  rw[h0,Fi (by omega)]
 have eM:∀ (F':List O) (k:Nat),(∀ o∈F',O.clos (dC (r.m+1) []) o=true)->k+F'.length<=r.m+1->((fS k F').all fun x=>O.clos (dC (r.m+1) []) x.2&&decide (x.1<r.m+1))=true:=by
  intro F'
  induction F' with
  |nil=>intros;rfl
  |cons f fs ih=>
   intro k hf hk
   simp only[List.length_cons]at hk
   simp only[fS,List.all_cons,Bool.and_eq_true,decide_eq_true_eq]
   exact⟨⟨hf f (by simp),by omega⟩,by have:=ih (k+1) (fun o ho=>hf o (by simp[ho])) (by omega);simpa using this⟩
 have h5:=eM (r.fam (LI r.m) r.e) 1 (hr.closF _ _ _ (iX _) sd) (by omega)
 have h6:O.clos (dC (r.m+1) []) (r.fin (LI r.m))=true:=hr.closE _ _ (iX _) sd
 have hlen:(r.rc (LI r.m) .ready none::r.fam (LI r.m) 0).length=r.m+1:=by rw[List.length_cons,Gs]
 have h7:D.clos (dC (r.m+1) []) (.tup [])=true:=rfl
 simp only[hlen,h7,List.all_cons,h6,h5,List.all_nil,List.map_nil,distinct,Bool.and_self,Bool.true_and,Bool.and_true]
 simp
structure Dx (r:Lp) (eE:List Name->List D):Prop where
 ren:∀ f Ls,Ls.length=r.m->D.renL f (eE Ls)=eE (Ls.map f)
 clo:∀ dom Ls,Ls.length=r.m->(∀ x∈Ls,dom x=true)->D.closL dom (eE Ls)=true
 reach:∀ Ls s obj R k,Ls.length=r.m->(R::Ls).Nodup->di obj Ls (r.fam Ls s)->obj R=some (r.rc Ls .ready none)->dW obj (k+r.fu+1) (R::dw (eE Ls)) []=R::Ls
def Lp.itC(r:Lp)(eE:List Name->List D):CSpec where
 pre:=fun os ds=>os=r.rc (LI r.m) .ready none::r.fam (LI r.m) 0/\ds=.yld [0,1]::eE (LI r.m)
 out:=fun _ _=>⟨(0,r.fin (LI r.m))::fS 1 (r.fam (LI r.m) r.e),[],.tup []⟩
theorem Lp.itC_app{r:Lp}(hr:r.Ok){eE:List Name->List D}(yZ:Dx r eE){obj:Name->Option O}{t R:Name}{Ls:List Name}(hl:Ls.length=r.m)(hn:Ls.Nodup)(hR:R∉Ls)
 (h0:obj R=some (r.rc Ls .ready none)) (hF:di obj Ls (r.fam Ls 0)):
 (r.itC eE).toSpec.app obj t (.yld R::eE Ls)=⟨True,.tup [],eP Ls (r.fam Ls r.e) (upd obj R (some (r.fin Ls)))⟩:=by
 have wy:(R::Ls).Nodup:=List.nodup_cons.2 ⟨hR,hn⟩
 have kK:reach obj (.yld R::eE Ls)=R::Ls:=by
  unfold reach
  have :=yZ.reach Ls 0 obj R (2999-r.fu) hl wy hF h0
  rw[show 2999-r.fu+r.fu+1=3000 by have:=hr.fuel;omega]at this
  exact this
 have aby:∀ s,di obj Ls (r.fam Ls s)->Ls.map (cX (R::Ls) obj)=(r.fam Ls s).map (O.ren (cin (R::Ls))):=by
  intro s hF
  rw[l3]at hF
  refine List.ext_getElem (by simp[hr.len _ _ hl,hl]) fun i h1 h2=>?_
  have h3:i<Ls.length:=by simpa using h1
  have h4:i<(r.fam Ls s).length:=by rw[hr.len _ _ hl,<-hl];exact h3
  have h5:=congrArg (fun l=>l[i]?) hF
  have h6:obj Ls[i]=some (r.fam Ls s)[i]:=by simpa[h3,h4]using h5
  simp only[List.getElem_map,cX,h6]
 have e1:cS obj (.yld R::eE Ls)=r.rc (LI r.m) .ready none::r.fam (LI r.m) 0:=by
  unfold cS
  rw[kK,List.map_cons,aby 0 hF,hr.renF _ _ _ hl,Ib hn hR,hl]
  congr 1
  unfold Lp.rc at h0 |-
  simp only[cX,h0,O.ren]
  rw[hr.renE _ _ hl,Ib hn hR,hl]
 have e2:dr obj (.yld R::eE Ls)=.yld [0,1]::eE (LI r.m):=by
  unfold dr
  rw[kK]
  simp only[D.renL,D.ren,yZ.ren _ _ hl]
  rw[Ib hn hR,hl]
  simp only[cin,idx,if_true]
 have eB:(r.itC eE).pre (r.rc (LI r.m) .ready none::r.fam (LI r.m) 0) (.yld [0,1]::eE (LI r.m)):=⟨rfl,rfl⟩
 have j7:∀ os ds,(r.itC eE).out os ds=⟨(0,r.fin (LI r.m))::fS 1 (r.fam (LI r.m) r.e),[],.tup []⟩:=fun _ _=>rfl
 have GB:∀ x∈Ls,dj (R::Ls) x=true:=fun x hx=>ig.2 (List.mem_cons_of_mem _ hx)
 have js:shut obj (R::Ls)=true:=by
  unfold shut
  rw[List.all_eq_true]
  intro x hx
  rcases List.mem_cons.1 hx with rfl | hx
  ·rw[h0]
   unfold Lp.rc
   exact hr.closE _ _ hl GB
  obtain⟨i,hi,rfl⟩:=List.getElem_of_mem hx
  rw[l3]at hF
  have h4:i<(r.fam Ls 0).length:=by rw[hr.len _ _ hl,<-hl];exact hi
  have h5:=congrArg (fun l=>l[i]?) hF
  have h6:obj Ls[i]=some (r.fam Ls 0)[i]:=by simpa[hi,h4]using h5
  rw[h6]
  exact hr.closF _ _ _ hl GB _ (List.getElem_mem h4)
 have cA:D.closL (dj (R::Ls)) (.yld R::eE Ls)=true:=by
  show (dj (R::Ls) R&&D.closL _ _)=true
  rw[yZ.clo _ _ hl GB]
  simp[dj]
 have hp:∀ obj',cU (R::Ls) t (fS 1 (r.fam (LI r.m) r.e)) obj'=eP Ls (r.fam Ls r.e) obj':=by
  intro obj'
  rw[Eu (Ls:=Ls) (by rw[hr.len _ _ (iX _),hl]) fun i hi=>by
   rw[Nat.add_comm,List.getD_cons_succ];exact mu hi,hr.renF _ _ _ (iX _)]
  have :(LI r.m).map (cout (R::Ls) t)=Ls:=by rw[<-hl];exact Rf R Ls t
  rw[this]
 have hf:O.ren (cout (R::Ls) t) (r.fin (LI r.m))=r.fin Ls:=by
  unfold Lp.fin Lp.rc
  simp only[O.ren]
  rw[hr.renE _ _ (iX _)]
  have :(LI r.m).map (cout (R::Ls) t)=Ls:=by rw[<-hl];exact Rf R Ls t
  rw[this]
 simp only[CSpec.toSpec,e1,e2,kK,j7,js,cA,fresh,List.all_nil,Bool.and_self,eB,and_self,dQ,cU,List.getD_cons_zero,hf,hp,D.ren,D.renL]
theorem Rz{P:Program}{r:Lp}(hr:r.Ok){eE:List Name->List D}(yZ:Dx r eE){g:Operand}{ps:Array Tmp}{asg body:Code}{σ:S}{rest:List Code}{K:Exit->S->Prop}(k k':Nat){f:FuncId}{Ls:List Name}
 (hc:dh σ g=true) (hg:ax σ g=.clo (.func f) [] (eE Ls)) (aH:f≠yid) (hs:aT P f (r.itC eE).toSpec) (tQ:σ.obj (k::σ.pre)=none)
 (he:(List.range σ.nt).map σ.env=r.env Ls) (fH:ps.toList=r.ps) (ha:asg=r.asg) (hb:body=r.body) (hl:Ls.length=r.m) (hn:Ls.Nodup) (hR:(k::σ.pre)∉Ls) (hF:di σ.obj Ls (r.fam Ls 0))
 (hK:∀ o:O,AN (kr (fun σ'=>CL P rest σ' K) K) { σ with obj:=upd (eP Ls (r.fam Ls r.e) σ.obj) (k::σ.pre) (some o) } r.pd):CL P (.rangeFunc g ps asg body::rest) σ K:=by
 subst ha
 subst hb
 generalize zh:k::σ.pre=R at *
 have abF:∀ x∈Ls,(upd σ.obj R (some (r.rc Ls .ready none))) x=σ.obj x:=fun x hx=>bm _ _ _ (by rintro rfl;exact hR hx)
 have B':=Lp.itC_app hr yZ (t:=k'::σ.pre) hl hn hR (aX σ.obj R (some (r.rc Ls .ready none))) (EO hF abF)
 have OL:O.loop ((List.range σ.nt).map σ.env) ps.toList r.asg r.body .ready none=r.rc Ls .ready none:=by unfold Lp.rc;rw[he,fH]
 have qA:fA (ax σ g) [.yld R]=.yld R::eE Ls:=by rw[hg];rfl
 have eK:hJ (ax σ g)=some f:=by rw[hg];simp[hJ,aH]
 have aaD:∀ (F:List O) (obj:Name->Option O) (a b:Option O),upd (eP Ls F (upd obj R a)) R b=upd (eP Ls F obj) R b:=by
  intro F obj a b
  funext x
  by_cases h:x=R
  ·subst h;rw[aX,aX]
  ·rw[bm _ _ _ h,bm _ _ _ h]
   have :∀ (Ls:List Name) (F:List O) (o1 o2:Name->Option O),o1 x=o2 x->eP Ls F o1 x=eP Ls F o2 x:=by
    intro Ls
    induction Ls with
    |nil=>intro F o1 o2 h;simpa[eP]using h
    |cons y ys ih=>
     intro F o1 o2 h
     cases F with
     |nil=>simpa[eP]using h
     |cons f fs=>
      simp only[eP]
      refine ih fs _ _ ?_
      by_cases e:x=y
      ·subst e;rw[aX,aX]
      ·rw[bm _ _ _ e,bm _ _ _ e,h]
   exact this Ls F _ _ (bm _ _ _ h)
 refine ac' (Γ:=fun x=>if x=f then some (r.itC eE).toSpec else none) (fun x s hx=>by
  split at hx
  ·rename_i e;cases hx;subst e;exact hs
  ·cases hx) k k' hc eK aH (if_pos rfl) (by rw[zh];exact tQ) ?_ ?_
 ·rw[zh,qA,OL,B'];trivial
 ·rw[zh,qA,OL,B']
  have oO:eP Ls (r.fam Ls r.e) (upd (upd σ.obj R (some (r.rc Ls .ready none))) R (some (r.fin Ls))) R=some (r.fin Ls):=by rw[xE hR,aX]
  have oC:oa (eP Ls (r.fam Ls r.e) (upd (upd σ.obj R (some (r.rc Ls .ready none))) R (some (r.fin Ls)))) R=
      upd (eP Ls (r.fam Ls r.e) σ.obj) R (some (r.rc Ls .exhausted r.pd)):=by
   unfold oa
   rw[oO]
   unfold Lp.fin Lp.rc
   simp only[aaD]
  refine Ym r.pd oO ?_
  rw[oC]
  exact hK (r.rc Ls .exhausted r.pd)
theorem Tz{σ:S}(b nm:Name)(i k sz:Nat)(cs:List D)(L:List V)(hb:σ.obj b=some (.box cs))(hi:cs[i]?=some (.msl nm k))(hn:σ.obj nm=some (.arr sz L))(hk:k=L.length):
 iW σ ⟨σ.nt,σ.env,upd (upd σ.obj nm (some (.farr sz L))) b (some (.box (cs.set i (.v (.sl L))))),σ.pre,σ.base⟩:=by
 intro G φ m a w hC
 have aH:b≠nm:=fun e=>by subst e;rw[hb]at hn;cases hn
 obtain⟨h1,h2,h3,us,T,f,h4,h5,h6,h7⟩:=hC.objs b _ hb
 obtain⟨lA,GD⟩:=List.getElem?_eq_some_iff.1 hi
 have h0:i<us.size:=by omega
 have h8:=h7 i lA h0
 rw[GD]at h8
 have de:aQ 6 σ.obj (.msl nm k)=⟨k=L.length,.sl L,upd σ.obj nm (some (.farr sz L))⟩:=by simp only[aQ,hn]
 obtain⟨m2,k1,k2,k3,k4,_⟩:=qF 6 _ _ _ _ _ _ hC _ _ h8 (by rw[de];exact hk)
 rw[de]at k2 k3 k4
 simp only at k2 k3 k4
 have dg:(upd σ.obj nm (some (.farr sz L))) b=some (.box cs):=by rw[bm _ _ _ aH];exact hb
 have wk:=Ext.same (φ:=φ) (o':=.box (cs.set i (.v (.sl L)))) dg rfl rfl
 have Ox:=wk
 rw[hM]at Ox
 refine⟨_,m2,k2.chg (w':=w) b (.box (cs.set i (.v (.sl L)))) _ wk ⟨rfl,rfl,rfl,Nat.le_refl _⟩ (fun _ _ _=>rfl) (fun _=>.inr ⟨⟨_,dg,rfl,h2⟩,rfl⟩) ?_⟩
 rw[hM]
 refine⟨h1,h2,fun d hd=>?_,us,T,f,h4,h5,by simpa using h6,fun j hj eW=>?_⟩
 ·rcases List.mem_or_eq_of_mem_set hd with h | h
  ·exact h3 d h
  ·subst h;rfl
 ·simp only[List.length_set]at hj
  rw[List.getElem_set]
  by_cases bJ:i=j
  ·subst bJ
   rw[if_pos rfl]
   exact .v _ _ k4
  ·rw[if_neg bJ]
   exact((h7 j hj eW).ext k1 k3).ext (Mem.le_refl m2) Ox
theorem pU{σ τ:S}(b nm:Name)(i k sz:Nat)(cs:List D)(L:List V)(hb:σ.obj b=some (.box cs))(hi:cs[i]?=some (.msl nm k))(hn:σ.obj nm=some (.arr sz L))(hk:k=L.length)(ks:List Nat)(ns:List Name)
 (h:je ks ns ⟨σ.nt,σ.env,upd (upd σ.obj nm (some (.farr sz L))) b (some (.box (cs.set i (.v (.sl L))))),σ.pre,σ.base⟩)
 (j8:jq ks ns ⟨σ.nt,σ.env,upd (upd σ.obj nm (some (.farr sz L))) b (some (.box (cs.set i (.v (.sl L))))),σ.pre,σ.base⟩=τ):iW σ τ:=
 (Tz b nm i k sz cs L hb hi hn hk).trans (vk ks ns h j8)
set_option maxHeartbeats 8000000
noncomputable section
@[go_sem] def P184:PSpec:=p2 fc iI (fun _ _=>True) (fun l v=>vInt (dK (fun x=>v==x) l)) true
@[go_sem] def aeb:Spec:=P184.toSpec
theorem U':aZ Tryz.prog 184 P184:=by
 refine dG (rs:=[.tmp 4]) Tryz.func184 Tryz.ntmps184 fun l v hp hw=>?_
 simp only[iI,fc]at hw |-
 have hΓ:=@fD Tryz.prog
 have hl:l.length<=maxLen:=by have:=hw.1.1;simpa using this
 repeat refine sq ?_
 refine rx hΓ [0,1] [] (fun K' hK=>by simp only[go_sem];exact aq) ?_
 repeat refine sq ?_
 refine rx hΓ [0,1,7,8] [] (fun K' hK=>by simp only[go_sem];exact aq) ?_
 repeat refine sq ?_
 refine aR ?_
 repeat refine sq ?_
 refine cp (fun s:Nat=>[(8,⟨true,.v (vInt s)⟩)]) (fun s=>[]) (fun s=>s<=l.length/\∀ k (h:k<l.length),k<s->(fun x:Int=>v==x) l[k]=false) (fun s=>l.length-s) 0 ?_ ?_ ?_ ?_
 ·exact⟨Nat.zero_le _,by simp⟩
 ·rfl
 ·rfl
 rintro i ⟨hi,hR⟩
 simp only[go_sem]
 repeat refine sq ?_
 refine rx hΓ [0,1,7,8,9] [] (fun K' hK=>by simp only[go_sem];exact aq) ?_
 repeat refine sq ?_
 refine aC (fun hb=>?_) fun hb=>?_
 ·have ae:i<l.length:=by simpa using hb
  have aw:(i:Int)<l.length:=by omega
  clear hb
  repeat refine sq ?_
  refine aF ?_
  repeat refine sq ?_
  refine aR ?_
  repeat refine sq ?_
  refine rx hΓ [0,1,5,7,8] [] (fun K' hK=>by simp only[go_sem,ai ae,ak,an,aw];exact aq) ?_
  repeat refine sq ?_
  refine rx hΓ [0,1,5,7,8,16] [] (fun K' hK=>by simp only[go_sem,ai ae,ak,an,aw];exact aq) ?_
  repeat refine sq ?_
  refine aC (fun hb=>?_) fun hb=>?_
  ·repeat refine sq ?_
   refine rx hΓ [4] [] (fun K' hK=>by simp only[go_sem,ai ae,ak,an,aw];exact aq) ?_
   refine aB ?_
   simp only[go_sem]
   rw[oA (p:=fun x=>v==x) ae (by simpa using hb) hR]
  ·repeat refine sq ?_
   refine aF ?_
   refine bW ?_
   simp only[go_sem]
   refine kp [0,1,7,8] [] ?_
   repeat refine sq ?_
   refine aW hΓ fun K' hK=>?_
   simp only[go_sem,ai ae,ak,an,aw]
   repeat (refine⟨au,?_⟩)
   refine hK _ ?_
   clear K' hK
   simp only[go_sem]
   refine⟨i+1,⟨ae,?_⟩,by(show l.length-(i+1)<l.length-i;omega),?_⟩
   ·intro k hk dE
    rcases Nat.lt_succ_iff_lt_or_eq.1 dE with h5 | rfl
    ·exact hR k hk h5
    ·simpa using hb
   refine bh [0,1,7,8] [] ?_ ?_<;>simp only[go_sem,bc ae hl,be]
 ·have bE:i=l.length:=by
   have :¬ (i:Int)<l.length:=by simpa using hb
   omega
  clear hb
  subst bE
  repeat refine sq ?_
  refine bN ?_
  simp only[go_sem]
  refine kp [] [] ?_
  repeat refine sq ?_
  refine rx hΓ [4] [] (fun K' hK=>by simp only[go_sem];exact aq) ?_
  refine aB ?_
  simp only[go_sem]
  rw[tk (p:=fun x=>v==x) fun k hk=>hR k hk hk]
def K18a:List (Nat×Spec):=[(184,aeb)]
theorem afx:KS K18a:=tc U'.sound<|tn
attribute [go_sem] K18a
theorem adT(l:List Int)(v:Int):(l.any fun x=>v==x)=l.contains v:=(List.contains_eq_any_beq (l:=l) (a:=v)).symm
@[go_sem] def P108:PSpec:=p2 fc iI (fun _ _=>True) (fun l v=>.bool (l.contains v)) true
@[go_sem] def zQ:Spec:=P108.toSpec
theorem D3:aZ Tryz.prog 108 P108:=by
 refine dG (rs:=[.tmp 4]) Tryz.func108 Tryz.ntmps108 fun l v hp hw=>?_
 simp only[iI,fc]at hw |-
 have hΓ:=afx
 repeat refine sq ?_
 refine rx hΓ [0,1] [] (fun K' hK=>by simp only[go_sem];exact aq) ?_
 repeat refine sq ?_
 refine rx hΓ [4] [] (fun K' hK=>by simp only[go_sem,true_or,rR,adT];exact aq) ?_
 refine aB ?_
 simp only[go_sem]
 all_goals exact el
def K18b:List (Nat×Spec):=[(108,zQ),(150,IN)]
theorem I2:KS K18b:=tc D3.sound<|tc D1.sound<|tn
attribute [go_sem] K18b
def FJ:En (List Int):=⟨fun l=>.ptr [.sl (l.map vInt)],fun v=>match v with | .ptr [.sl l]=>l.map kQ | _=>[]⟩
attribute [go_sem] FJ
@[go_sem] def P194:PSpec:=p2 iI FJ (fun _ _=>True) (fun n l=>.bool (l.contains n)) true
@[go_sem] def SO:Spec:=P194.toSpec
theorem U3:aZ Tryz.prog 194 P194:=by
 refine dG (rs:=[.tmp 3]) Tryz.func194 Tryz.ntmps194 fun n l hp hw=>?_
 simp only[iI,FJ]at hw |-
 have hΓ:=I2
 repeat refine sq ?_
 refine rx hΓ [0,1] [] (fun K' hK=>by simp only[go_sem];exact aq) ?_
 repeat refine sq ?_
 refine rx hΓ [3] [] (fun K' hK=>by simp only[go_sem];exact aq) ?_
 refine aB ?_
 simp only[go_sem]
 all_goals exact el
@[go_sem] def P161:PSpec:=p1 iI (fun _=>True) (fun n=>.bool (!dayB n)) true
@[go_sem] def SU:Spec:=P161.toSpec
theorem Vo:aZ Tryz.prog 161 P161:=by
 refine gJ (rs:=[.tmp 2]) Tryz.func161 Tryz.ntmps161 fun n hp hw=>?_
 simp only[iI]at hw |-
 have hΓ:=I2
 repeat refine sq ?_
 refine rx hΓ [0] [] (fun K' hK=>by simp only[go_sem];exact aq) ?_
 repeat refine sq ?_
 refine rx hΓ [2] [] (fun K' hK=>by simp only[go_sem];exact aq) ?_
 refine aB ?_
 simp only[go_sem]
 all_goals exact el
@[go_sem] def P185:PSpec:=p1 iI (fun _=>True) (fun n=>.bool (!dayB n)) true
@[go_sem] def SQ:Spec:=P185.toSpec
theorem U9:aZ Tryz.prog 185 P185:=by
 refine gJ (rs:=[.tmp 2]) Tryz.func185 Tryz.ntmps185 fun n hp hw=>?_
 simp only[iI]at hw |-
 have hΓ:=I2
 repeat refine sq ?_
 refine rx hΓ [0] [] (fun K' hK=>by simp only[go_sem];exact aq) ?_
 repeat refine sq ?_
 refine rx hΓ [2] [] (fun K' hK=>by simp only[go_sem];exact aq) ?_
 refine aB ?_
 simp only[go_sem]
 all_goals exact el
def ym:En (Nat×List V):=⟨fun g=>.clo (.func g.1) [] g.2,fun v=>match v with | .clo (.func g) _ cs=>(g,cs) | _=>(0,[])⟩
def pG:Nat×List V->Int->Bool
 |(194,[.ptr [.sl l]]),x=>(l.map kQ).contains x
 |_,x=>!dayB x
def AX(g:Nat×List V):Prop:=g=(161,[])\/g=(185,[])\/∃ lv:List Int,g=(194,[.ptr [.sl (lv.map vInt)]])
def K18c:List (Nat×Spec):=[(194,SO),(161,SU),(185,SQ)]
theorem afw:KS K18c:=tc U3.sound<|tc Vo.sound<|tc U9.sound<|tn
attribute [go_sem] K18c
def S9:FuncId->Option Spec:=tbl K18c
theorem afu:∀ f s,S9 f=some s->aT Tryz.prog f s:=afw
theorem WX{g:Nat×List V}(h:AX g):∃ s,S9 g.1=some s/\(¬ g.1=1000000000)/\∀ obj t x,s.app obj t (.v (vInt x)::g.2.map .v)=⟨True,.v (.bool (pG g x)),obj⟩:=by
 rcases h with rfl | rfl | ⟨lv,rfl⟩
 ·exact⟨SU,rfl,by decide,fun obj t x=>by simp only[go_sem,List.map_nil];rfl⟩
 ·exact⟨SQ,rfl,by decide,fun obj t x=>by simp only[go_sem,List.map_nil];rfl⟩
 ·exact⟨SO,rfl,(show ¬ (194:Nat)=1000000000 by decide),fun obj t x=>by simp only[go_sem,List.map_cons,List.map_nil,sp,pG]⟩
@[go_sem] def P192:PSpec:=p2 fc ym (fun _ g=>AX g) (fun l g=>vInt (dK (pG g) l)) true
@[go_sem] def ad9:Spec:=P192.toSpec
theorem U4:aZ Tryz.prog 192 P192:=by
 refine dG (rs:=[.tmp 4]) Tryz.func192 Tryz.ntmps192 fun l g hp hw=>?_
 simp only[ym,fc]at hw |-
 have hΓ:=afu
 have hl:l.length<=maxLen:=by have:=hw.1.1;simpa using this
 obtain⟨s_,hs,hy,ha⟩:=WX hp
 repeat refine sq ?_
 refine rx hΓ [0,1] [] (fun K' hK=>by simp only[go_sem];exact aq) ?_
 repeat refine sq ?_
 refine rx hΓ [0,1,7,8] [] (fun K' hK=>by simp only[go_sem];exact aq) ?_
 repeat refine sq ?_
 refine aR ?_
 repeat refine sq ?_
 refine cp (fun s:Nat=>[(8,⟨true,.v (vInt s)⟩)]) (fun s=>[]) (fun s=>s<=l.length/\∀ k (h:k<l.length),k<s->pG g l[k]=false) (fun s=>l.length-s) 0 ?_ ?_ ?_ ?_
 ·exact⟨Nat.zero_le _,by simp⟩
 ·rfl
 ·rfl
 rintro i ⟨hi,hR⟩
 simp only[go_sem]
 repeat refine sq ?_
 refine rx hΓ [0,1,7,8,9] [] (fun K' hK=>by simp only[go_sem];exact aq) ?_
 repeat refine sq ?_
 refine aC (fun hb=>?_) fun hb=>?_
 ·have ae:i<l.length:=by simpa using hb
  have aw:(i:Int)<l.length:=by omega
  clear hb
  repeat refine sq ?_
  refine aF ?_
  repeat refine sq ?_
  refine aR ?_
  repeat refine sq ?_
  refine rx hΓ [0,1,5,7,8] [] (fun K' hK=>by simp only[go_sem,ai ae,ak,an,aw];exact aq) ?_
  repeat refine sq ?_
  refine rx hΓ [0,1,5,7,8,16] [] (fun K' hK=>by simp only[go_sem,ai ae,ak,an,aw,hs,hy,ha];exact aq) ?_
  repeat refine sq ?_
  refine aC (fun hb=>?_) fun hb=>?_
  ·repeat refine sq ?_
   refine rx hΓ [4] [] (fun K' hK=>by simp only[go_sem,ai ae,ak,an,aw];exact aq) ?_
   refine aB ?_
   simp only[go_sem]
   rw[oA (p:=pG g) ae (by simpa using hb) hR]
  ·repeat refine sq ?_
   refine aF ?_
   refine bW ?_
   simp only[go_sem]
   refine kp [0,1,7,8] [] ?_
   repeat refine sq ?_
   refine aW hΓ fun K' hK=>?_
   simp only[go_sem,ai ae,ak,an,aw]
   repeat (refine⟨au,?_⟩)
   refine hK _ ?_
   clear K' hK
   simp only[go_sem]
   refine⟨i+1,⟨ae,?_⟩,by(show l.length-(i+1)<l.length-i;omega),?_⟩
   ·intro k hk dE
    rcases Nat.lt_succ_iff_lt_or_eq.1 dE with h5 | rfl
    ·exact hR k hk h5
    ·simpa using hb
   refine bh [0,1,7,8] [] ?_ ?_<;>simp only[go_sem,bc ae hl,be]
 ·have bE:i=l.length:=by
   have :¬ (i:Int)<l.length:=by simpa using hb
   omega
  clear hb
  subst bE
  repeat refine sq ?_
  refine bN ?_
  simp only[go_sem]
  refine kp [] [] ?_
  repeat refine sq ?_
  refine rx hΓ [4] [] (fun K' hK=>by simp only[go_sem];exact aq) ?_
  refine aB ?_
  simp only[go_sem]
  rw[tk (p:=pG g) fun k hk=>hR k hk hk]
def K18d:List (Nat×Spec):=[(192,ad9)]
theorem afv:KS K18d:=tc U4.sound<|tn
attribute [go_sem] K18d
@[go_sem] def P160:PSpec:=p2 fc ym (fun _ g=>AX g) (fun l g=>.bool (l.any (pG g))) true
@[go_sem] def S160:Spec:=P160.toSpec
theorem Vp:aZ Tryz.prog 160 P160:=by
 refine dG (rs:=[.tmp 4]) Tryz.func160 Tryz.ntmps160 fun l g hp hw=>?_
 simp only[ym,fc]at hw |-
 have hΓ:=afv
 repeat refine sq ?_
 refine rx hΓ [0,1] [] (fun K' hK=>by simp only[go_sem];exact aq) ?_
 repeat refine sq ?_
 refine rx hΓ [4] [] (fun K' hK=>by simp only[go_sem,true_or,rR,hp];exact aq) ?_
 refine aB ?_
 simp only[go_sem]
 all_goals exact el
theorem N7:aT Tryz.prog 160 S160:=Vp.sound
end
noncomputable section
structure o7 (x:Vw):Prop where
 ok:bw x.l
 bk:∀ q i,bb x.bk q=some i->0<=i/\i<x.l.ts.length
 rs:∀ r∈x.rs,dP r=true
 rn:x.rs.length<=60
 tn:x.ts.length<=60
 ts:∀ i∈x.ts,0<=i/\i<x.l.ts.length
theorem Eh{r:Rec}(h:dP r=true):0<r.lv.length/\r.lv.length<=30:=by
 unfold dP at h
 simp only[Bool.and_eq_true]at h
 exact⟨(pt.1 h.1.1.2).1,(pt.1 h.1.1.2).2.1⟩
theorem KD{r:Rec}(h:dP r=true):0<=r.da/\r.da<=100000:=by
 unfold dP at h
 simp only[Bool.and_eq_true]at h
 have :=h.1.2
 unfold dayB bL at this
 simpa using this
theorem V3{r:Ret}(h:jQ r=true):0<r.lv.length/\r.lv.length<=30:=by
 unfold jQ at h
 simp only[Bool.and_eq_true]at h
 exact⟨(pt.1 h.1.1.1.2).1,(pt.1 h.1.1.1.2).2.1⟩
theorem zX{d:Int}(h:0<=d/\d<=100000):IntKind.i64.wrap (d+1)=d+1:=wrap_i64 (by omega) (by omega)
theorem mL{l:Led}{i:Nat}(h:i<l.ts.length):aG l i=l.ts[i]:=by unfold aG;exact cj h
theorem bw.recs{l:Led}(h:bw l):∀ r∈l.rs,dP r=true:=fun r hr=>by
 obtain⟨j,hj,rfl⟩:=List.getElem_of_mem hr
 exact lN h.rs hj
theorem bw.rets{l:Led}(h:bw l){i:Nat}(hi:i<l.ts.length):jQ (aG l i)=true:=by
 rw[mL hi]
 exact lN h.ts hi
def uL(x:Vw)(a b:Rec)(f:Int):Bool:=(a.pa==b.pa&&b.lv.contains f)&&(a.da==b.da||match bb x.bk (a.so,f)with
 |none=>true
 |some i=>decide (bO (aG x.l i.toNat).lo (a.da+1)>b.da))
theorem HT(x:Vw)(a b:Rec):sr x a b=a.lv.any (uL x a b):=rfl
theorem qO{α:Type}{p:α->Bool}{l:List α}{i:Nat}(h:i<l.length)(hp:p l[i]=true):l.any p=true:=List.any_eq_true.2 ⟨_,List.getElem_mem h,hp⟩
theorem sB{α:Type}{p:α->Bool}{l:List α}(h:∀ k (hk:k<l.length),p l[k]=false):l.any p=false:=by
 rw[List.any_eq_false]
 intro x hx
 obtain⟨k,hk,rfl⟩:=List.getElem_of_mem hx
 rw[h k hk];decide
theorem DG{l:Led}{i:Int}(h0:0<=i)(h:i<l.ts.length):(l.ts.map encT).getD i.toNat default=encT (aG l i.toNat):=by
 have h':i.toNat<l.ts.length:=by omega
 rw[ai h',mL h']
def rL(a b:Rec):Rec:=if a.da>b.da then b else a
def j9(a b:Rec):Rec:=if a.da>b.da then a else b
theorem acG(x:Vw)(a b:Rec):gH x a b=sr x (rL a b) (j9 a b):=by
 unfold gH rL j9
 split<;>rfl
theorem XT{a b:Rec}(ha:dP a=true)(hb:dP b=true):dP (rL a b)=true/\dP (j9 a b)=true:=by
 unfold rL j9
 split
 ·exact⟨hb,ha⟩
 ·exact⟨ha,hb⟩
def uQ(r:Rec):List D:=[.v (vInt r.so),.v (vInt r.bo),.v (vInt r.pa),.v (.sl (r.lv.map vInt)),.v (vInt r.da),.v (vInt r.kn),.v (vInt r.un)]
attribute [go_sem] uQ
def K19:List (Nat×Spec):=[(108,zQ)]
theorem aft:KS K19:=tc D3.sound<|tn
attribute [go_sem] K19
def SC:VSpec:=v2 iR iR (fun x a b=>o7 x/\dP a=true/\dP b=true) (fun x a b=>.v (.bool (gH x a b))) none
def S129:Spec:=SC.toSpec
attribute [go_sem] SC S129
set_option maxHeartbeats 8000000 in
theorem N9:aT Tryz.prog 129 S129:=by
 refine z5 (rs:=[.tmp 6]) Tryz.func129 Tryz.ntmps129 (by rfl) (by kernel_rfl) (by decide) (fun _ _ _=>by first | rfl | simp[D.clos,D.closL,mQ]) ⟨_,rfl,lb rfl,fun x a b hp H h0 h1 h2 hO ah=>?_⟩
 have hP:=fE
 simp only[iR,encR,bG,dt,List.map_cons,List.map_nil,Nat.zero_add,Option.map_some,Option.map_none]at h0 |-
 have hΓ:=aft
 obtain⟨hv,ha,B6⟩:=hp
 rw[acG]
 obtain⟨BC,mh⟩:=XT ha B6
 repeat refine sq ?_
 refine rx hΓ [0,4,5] [[4,0],[5,0]] (fun K' hK=>by simp only[go_sem,hO,ah,h0,h1,h2];(repeat (refine⟨au,?_⟩));exact hK _ (by simp only[go_sem,hO,ah,h0,h1,h2]) (by simp only[go_sem,hO,ah,h0,h1,h2]<;>rfl)) ?_
 repeat refine sq ?_
 refine rx hΓ [0,4,5,15] [[4,0],[5,0]] (fun K' hK=>by simp only[go_sem,hO,ah,h0,h1,h2];(repeat (refine⟨au,?_⟩));exact hK _ (by simp only[go_sem,hO,ah,h0,h1,h2]) (by simp only[go_sem,hO,ah,h0,h1,h2]<;>rfl)) ?_
 repeat refine sq ?_
 refine adb (bu 80 [0] H [(0,⟨true,.ref [0,1] 0⟩),(4,⟨true,.ref [4,0] 0⟩),(5,⟨true,.ref [5,0] 0⟩)] [([4,0],.box (uQ (rL a b))),([5,0],.box (uQ (j9 a b)))]) rfl rfl (fun hb=>?_) (fun hb=>?_) ?_
 ·repeat refine sq ?_
  rw[show rL a b=b from if_pos (by simpa using hb),show j9 a b=a from if_pos (by simpa using hb)]
  repeat refine sq ?_
  refine aW hΓ fun K' hK=>?_
  simp only[go_sem,hO,ah,h0,h1,h2]
  repeat (refine⟨au,?_⟩)
  refine hK _ ?_
  clear K' hK
  simp only[go_sem]
  refine vk [0,4,5] [[4,0],[5,0]] ?_ ?_
  ·simp only[go_sem,hO,ah,h0,h1,h2]
  ·simp only[go_sem,hO,ah,h0,h1,h2]
 ·repeat refine sq ?_
  rw[show rL a b=a from if_neg (by simpa using hb),show j9 a b=b from if_neg (by simpa using hb)]
  refine aF ?_
  refine bW ?_
  simp only[go_sem]
  refine vk [0,4,5] [[4,0],[5,0]] ?_ ?_
  ·simp only[go_sem,hO,ah,h0,h1,h2]
  ·simp only[go_sem,hO,ah,h0,h1,h2]
 generalize rL a b=p at *
 generalize j9 a b=q at *
 have hl:p.lv.length<=maxLen:=by have:=(Eh BC).2;unfold maxLen;omega
 repeat refine sq ?_
 refine rx hΓ [0,4,5,19,20,21] [[4,0],[5,0]] (fun K' hK=>by simp only[go_sem,hO,ah,h0,h1,h2];(repeat (refine⟨au,?_⟩));exact hK _ (by simp only[go_sem,hO,ah,h0,h1,h2]) (by simp only[go_sem,hO,ah,h0,h1,h2]<;>rfl)) ?_
 repeat refine sq ?_
 refine aR ?_
 repeat refine sq ?_
 refine cp (fun s:Nat=>[(21,⟨true,.v (vInt s)⟩)]) (fun s=>[]) (fun s=>s<=p.lv.length/\∀ k (h:k<p.lv.length),k<s->uL x p q p.lv[k]=false) (fun s=>p.lv.length-s) 0 ?_ ?_ ?_ ?_
 ·exact⟨Nat.zero_le _,by simp⟩
 ·rfl
 ·rfl
 rintro i ⟨hi,hR⟩
 simp only[go_sem]
 repeat refine sq ?_
 refine rx hΓ [0,4,5,19,20,21,22] [[4,0],[5,0]] (fun K' hK=>by simp only[go_sem,hO,ah,h0,h1,h2];(repeat (refine⟨au,?_⟩));exact hK _ (by simp only[go_sem,hO,ah,h0,h1,h2]) (by simp only[go_sem,hO,ah,h0,h1,h2]<;>rfl)) ?_
 repeat refine sq ?_
 refine aC (fun hb=>?_) fun hb=>?_
 ·have ae:i<p.lv.length:=by simpa using hb
  have aw:(i:Int)<p.lv.length:=by omega
  clear hb
  have iM:=zX (KD BC)
  repeat refine sq ?_
  refine aF ?_
  repeat refine sq ?_
  refine aR ?_
  repeat refine sq ?_
  refine rx hΓ [0,4,5,8,19,20,21] [[4,0],[5,0]] (fun K' hK=>by simp only[go_sem,hO,ah,h0,h1,h2,ai ae,ak,an,aw];(repeat (refine⟨au,?_⟩));exact hK _ (by simp only[go_sem,hO,ah,h0,h1,h2,ai ae,ak,an,aw]) (by simp only[go_sem,hO,ah,h0,h1,h2,ai ae,ak,an,aw]<;>rfl)) ?_
  repeat refine sq ?_
  refine rx hΓ [0,4,5,8,19,20,21,36] [[4,0],[5,0]] (fun K' hK=>by simp only[go_sem,hO,ah,h0,h1,h2,ai ae,ak,an,aw];(repeat (refine⟨au,?_⟩));exact hK _ (by simp only[go_sem,hO,ah,h0,h1,h2,ai ae,ak,an,aw]) (by simp only[go_sem,hO,ah,h0,h1,h2,ai ae,ak,an,aw]<;>rfl)) ?_
  repeat refine sq ?_
  refine aC (fun hb=>?_) fun hb=>?_
  ·repeat refine sq ?_
   refine bN ?_
   simp only[go_sem]
   refine fz [0,4,5,19,20,21] [[4,0],[5,0]] ?_ ?_
   ·simp only[go_sem,hO,ah,h0,h1,h2]
   simp only[go_sem,hO,ah,h0,h1,h2]
   repeat refine sq ?_
   refine aW hΓ fun K' hK=>?_
   simp only[go_sem,hO,ah,h0,h1,h2,ai ae,ak,an,aw]
   repeat (refine⟨au,?_⟩)
   refine hK _ ?_
   clear K' hK
   simp only[go_sem]
   refine⟨i+1,⟨ae,?_⟩,by(show p.lv.length-(i+1)<p.lv.length-i;omega),?_⟩
   ·intro k hk dE
    rcases Nat.lt_succ_iff_lt_or_eq.1 dE with h5 | rfl
    ·exact hR k hk h5
    ·unfold uL;grind
   refine bh [0,4,5,19,20,21] [[4,0],[5,0]] ?_ ?_<;>simp only[go_sem,bc ae hl,be,hO,ah,h0,h1,h2]
  ·repeat refine sq ?_
   refine aF ?_
   rcases aM:bb x.bk (p.so,p.lv[i])with _ | j
   ·repeat refine sq ?_
    refine dx hΓ hP [[],[0],[0,1],[0,1,2],[],[4],[],[4,5,6],u8,u9,ck,ck,eF,gK] [0,4,5,9,10,19,20,21] [[4,0],[5,0]] (by kernel_rfl) (fun K' hK=>by simp only[go_sem,hO,ah,h0,h1,h2,ai ae,ak,an,aw,aA,aM,Option.map_none,Option.isSome_none,Option.getD_none];(repeat (refine⟨au,?_⟩));(first | refine⟨by rfl,?_⟩ | skip);exact hK _ (by simp only[go_sem,hO,ah,h0,h1,h2,ai ae,ak,an,aw,aA,aM,Option.map_none,Option.isSome_none,Option.getD_none]) (by simp only[go_sem,hO,ah,h0,h1,h2,ai ae,ak,an,aw,aA,aM,Option.map_none,Option.isSome_none,Option.getD_none]<;>rfl)) ?_
    repeat refine sq ?_
    refine dx hΓ hP [[],[0],[],[2],u4,u5,u6,u7,u8,u9,ck,eF,eO,gK,jk,vt,u16,ck,jj,nY,pV,xp,ck,[0,1,2,3,4,5,6,7,8,9,22],[0,1,2,3,4,5,6,7,8,9,22,23],z',ck,[0,1,2,3,4,5,6,7,8,9,26],z8,z7] [0,4,5,19,20,21,78] [[4,0],[5,0]] (by kernel_rfl) (fun K' hK=>by simp only[go_sem,hO,ah,h0,h1,h2,ai ae,ak,an,aw,aA,aM,Option.map_none,Option.isSome_none,Option.getD_none];(repeat (refine⟨au,?_⟩));(first | refine⟨by rfl,?_⟩ | skip);exact hK _ (by simp only[go_sem,hO,ah,h0,h1,h2,ai ae,ak,an,aw,aA,aM,Option.map_none,Option.isSome_none,Option.getD_none]) (by simp only[go_sem,hO,ah,h0,h1,h2,ai ae,ak,an,aw,aA,aM,Option.map_none,Option.isSome_none,Option.getD_none]<;>rfl)) ?_
    repeat refine sq ?_
    refine aC (fun hb=>?_) fun hb=>?_
    ·repeat refine sq ?_
     refine rx hΓ [6] [] (fun K' hK=>by simp only[go_sem,hO,ah,h0,h1,h2,ai ae,ak,an,aw,aA,aM,Option.map_none,Option.isSome_none,Option.getD_none];(repeat (refine⟨au,?_⟩));exact hK _ (by simp only[go_sem,hO,ah,h0,h1,h2,ai ae,ak,an,aw,aA,aM,Option.map_none,Option.isSome_none,Option.getD_none]) (by simp only[go_sem,hO,ah,h0,h1,h2,ai ae,ak,an,aw,aA,aM,Option.map_none,Option.isSome_none,Option.getD_none]<;>rfl)) ?_
     refine aB ?_
     simp only[go_sem,hO,ah,h0,h1,h2]
     rw[HT,qO ae (by unfold uL;rw[aM];grind [bO])]
    ·repeat refine sq ?_
     refine aF ?_
     refine bW ?_
     simp only[go_sem]
     refine fz [0,4,5,19,20,21] [[4,0],[5,0]] ?_ ?_
     ·simp only[go_sem,hO,ah,h0,h1,h2]
     simp only[go_sem,hO,ah,h0,h1,h2]
     repeat refine sq ?_
     refine aW hΓ fun K' hK=>?_
     simp only[go_sem,hO,ah,h0,h1,h2,ai ae,ak,an,aw,aA,aM,Option.map_none,Option.isSome_none,Option.getD_none]
     repeat (refine⟨au,?_⟩)
     refine hK _ ?_
     clear K' hK
     simp only[go_sem]
     refine⟨i+1,⟨ae,?_⟩,by(show p.lv.length-(i+1)<p.lv.length-i;omega),?_⟩
     ·intro k hk dE
      rcases Nat.lt_succ_iff_lt_or_eq.1 dE with h5 | rfl
      ·exact hR k hk h5
      ·unfold uL;rw[aM];grind [bO]
     refine bh [0,4,5,19,20,21] [[4,0],[5,0]] ?_ ?_<;>simp only[go_sem,bc ae hl,be,hO,ah,h0,h1,h2]
   ·obtain⟨cK,iu⟩:=hv.bk _ _ aM
    have lk:=DG cK iu
    repeat refine sq ?_
    refine dx hΓ hP [[],[0],[0,1],[0,1,2],[],[4],[],[4,5,6],u8,u9,ck,ck,eF,gK] [0,4,5,9,10,19,20,21] [[4,0],[5,0]] (by kernel_rfl) (fun K' hK=>by simp only[go_sem,hO,ah,h0,h1,h2,ai ae,ak,an,aw,aA,aM,Option.map_some,Option.isSome_some,Option.getD_some,lk,cK,iu,iM];(repeat (refine⟨au,?_⟩));(first | refine⟨by rfl,?_⟩ | skip);exact hK _ (by simp only[go_sem,hO,ah,h0,h1,h2,ai ae,ak,an,aw,aA,aM,Option.map_some,Option.isSome_some,Option.getD_some,lk,cK,iu,iM]) (by simp only[go_sem,hO,ah,h0,h1,h2,ai ae,ak,an,aw,aA,aM,Option.map_some,Option.isSome_some,Option.getD_some,lk,cK,iu,iM]<;>rfl)) ?_
    repeat refine sq ?_
    refine dx hΓ hP [[],[0],[],[2],u4,u5,u6,u7,u8,u9,ck,eF,eO,gK,jk,vt,u16,ck,jj,nY,pV,xp,ck,[0,1,2,3,4,5,6,7,8,9,22],[0,1,2,3,4,5,6,7,8,9,22,23],z',ck,[0,1,2,3,4,5,6,7,8,9,26],z8,z7] [0,4,5,19,20,21,78] [[4,0],[5,0]] (by kernel_rfl) (fun K' hK=>by simp only[go_sem,hO,ah,h0,h1,h2,ai ae,ak,an,aw,aA,aM,Option.map_some,Option.isSome_some,Option.getD_some,lk,cK,iu,iM];(repeat (refine⟨au,?_⟩));(first | refine⟨by rfl,?_⟩ | skip);exact hK _ (by simp only[go_sem,hO,ah,h0,h1,h2,ai ae,ak,an,aw,aA,aM,Option.map_some,Option.isSome_some,Option.getD_some,lk,cK,iu,iM]) (by simp only[go_sem,hO,ah,h0,h1,h2,ai ae,ak,an,aw,aA,aM,Option.map_some,Option.isSome_some,Option.getD_some,lk,cK,iu,iM]<;>rfl)) ?_
    repeat refine sq ?_
    refine aC (fun hb=>?_) fun hb=>?_
    ·repeat refine sq ?_
     refine rx hΓ [6] [] (fun K' hK=>by simp only[go_sem,hO,ah,h0,h1,h2,ai ae,ak,an,aw,aA,aM,Option.map_some,Option.isSome_some,Option.getD_some,lk,cK,iu,iM];(repeat (refine⟨au,?_⟩));exact hK _ (by simp only[go_sem,hO,ah,h0,h1,h2,ai ae,ak,an,aw,aA,aM,Option.map_some,Option.isSome_some,Option.getD_some,lk,cK,iu,iM]) (by simp only[go_sem,hO,ah,h0,h1,h2,ai ae,ak,an,aw,aA,aM,Option.map_some,Option.isSome_some,Option.getD_some,lk,cK,iu,iM]<;>rfl)) ?_
     refine aB ?_
     simp only[go_sem,hO,ah,h0,h1,h2]
     rw[HT,qO ae (by unfold uL;rw[aM];grind [bO])]
    ·repeat refine sq ?_
     refine aF ?_
     refine bW ?_
     simp only[go_sem]
     refine fz [0,4,5,19,20,21] [[4,0],[5,0]] ?_ ?_
     ·simp only[go_sem,hO,ah,h0,h1,h2]
     simp only[go_sem,hO,ah,h0,h1,h2]
     repeat refine sq ?_
     refine aW hΓ fun K' hK=>?_
     simp only[go_sem,hO,ah,h0,h1,h2,ai ae,ak,an,aw,aA,aM,Option.map_some,Option.isSome_some,Option.getD_some,lk,cK,iu,iM]
     repeat (refine⟨au,?_⟩)
     refine hK _ ?_
     clear K' hK
     simp only[go_sem]
     refine⟨i+1,⟨ae,?_⟩,by(show p.lv.length-(i+1)<p.lv.length-i;omega),?_⟩
     ·intro k hk dE
      rcases Nat.lt_succ_iff_lt_or_eq.1 dE with h5 | rfl
      ·exact hR k hk h5
      ·unfold uL;rw[aM];grind [bO]
     refine bh [0,4,5,19,20,21] [[4,0],[5,0]] ?_ ?_<;>simp only[go_sem,bc ae hl,be,hO,ah,h0,h1,h2]
 ·have bE:i=p.lv.length:=by
   have :¬ (i:Int)<p.lv.length:=by simpa using hb
   omega
  clear hb
  subst bE
  repeat refine sq ?_
  refine bN ?_
  simp only[go_sem]
  refine fz [] [] ?_ ?_
  ·simp only[go_sem,hO,ah,h0,h1,h2]
  simp only[go_sem,hO,ah,h0,h1,h2]
  repeat refine sq ?_
  refine rx hΓ [6] [] (fun K' hK=>by simp only[go_sem,hO,ah,h0,h1,h2];(repeat (refine⟨au,?_⟩));exact hK _ (by simp only[go_sem,hO,ah,h0,h1,h2]) (by simp only[go_sem,hO,ah,h0,h1,h2]<;>rfl)) ?_
  refine aB ?_
  simp only[go_sem,hO,ah,h0,h1,h2]
  rw[HT,sB fun k hk=>hR k hk hk]
end
noncomputable section
@[go_sem] theorem ai5(x:Vw):(⟨x.l,x.rs,x.ts,x.bk,x.ds⟩:Vw)=x:=rfl
def AH:Option (Int×Int)->D
 |some p=>.tup [.v (.sl [vInt p.1,vInt p.2]),.v (.bool true)]
 |none=>.tup [.nilsl,.v (.bool false)]
theorem Wc(r:Option (Int×Int))(p:Name->Bool):D.clos p (AH r)=true:=by cases r<;>rfl
theorem AP{x:Vw}{i:Nat}(h:i<x.rs.length)(hn:∀ k (hk:k<(x.rs.drop (i+1)).length),gH x x.rs[i] (x.rs.drop (i+1))[k]=false):ou x i=none:=by
 unfold ou
 have e:(x.rs.drop (i+1)).find? (gH x x.rs[i])=none:=List.find?_eq_none.2 fun y hy=>by
  obtain⟨k,hk,rfl⟩:=List.getElem_of_mem hy
  rw[hn k hk];decide
 rw[cj h,e]
 rfl
theorem La{x:Vw}{i k:Nat}(h:i<x.rs.length)(hk:k<(x.rs.drop (i+1)).length)(hn:∀ j (hj:j<(x.rs.drop (i+1)).length),j<k->gH x x.rs[i] (x.rs.drop (i+1))[j]=false)(hb:gH x x.rs[i] (x.rs.drop (i+1))[k]=true):
 ou x i=some (x.rs[i].so,(x.rs.drop (i+1))[k].so):=by
 unfold ou
 have e:(x.rs.drop (i+1)).find? (gH x x.rs[i])=some (x.rs.drop (i+1))[k]:=List.find?_eq_some_iff_getElem.2 ⟨hb,k,hk,rfl,fun j hj=>by rw[hn j (by omega) hj];rfl⟩
 rw[cj h,e]
 rfl
theorem K8{x:Vw}{i:Nat}{p:Int×Int}(h:i<x.rs.length)(hn:∀ k,k<i->ou x k=none)(hp:ou x i=some p):ew x=some p:=by
 unfold ew
 rw[List.findSome?_eq_some_iff]
 refine⟨List.range i,i,(List.range' (i+1) (x.rs.length-(i+1))),?_,hp,fun a ha=>hn a (List.mem_range.1 ha)⟩
 rw[List.range_eq_range',List.range_eq_range']
 have :x.rs.length=i+(1+(x.rs.length-(i+1))):=by omega
 conv=>lhs;rw[this]
 rw[<-List.range'_append_1,<-List.range'_append_1,Nat.zero_add]
 rfl
theorem EA{x:Vw}(hn:∀ k,k<x.rs.length->ou x k=none):ew x=none:=by
 unfold ew
 rw[List.findSome?_eq_none_iff]
 exact fun a ha=>hn a (List.mem_range.1 ha)
def K20:List (Nat×Spec):=[(129,S129)]
theorem afs:KS K20:=tc N9<|tn
attribute [go_sem] K20
def SF:VSpec:=v0 (fun x=>o7 x) (fun x=>AH (ew x)) none
def S120:Spec:=SF.toSpec
attribute [go_sem] SF S120
set_option maxHeartbeats 8000000 in
theorem Oc:aT Tryz.prog 120 S120:=by
 refine TE (rs:=[.tmp 2,.tmp 3]) Tryz.func120 Tryz.ntmps120 (by rfl) (by kernel_rfl) (by decide) (fun _=>by first | rfl | exact Wc _ _ | simp[D.clos,D.closL,mQ]) ⟨_,rfl,lb rfl,fun x hp H h0 h1 h2 hO ah=>?_⟩
 simp only[bG,dt,List.map_cons,List.map_nil,Nat.zero_add,Option.map_some,Option.map_none]at h0 |-
 have hΓ:=afs
 have m8:x.rs.length<=maxLen:=by have:=hp.rn;unfold maxLen;omega
 repeat refine sq ?_
 refine rx hΓ [0] [] (fun K' hK=>by simp only[go_sem,hO,ah,h0,h1,h2];(repeat (refine⟨au,?_⟩));exact hK _ (by simp only[go_sem,hO,ah,h0,h1,h2]) (by simp only[go_sem,hO,ah,h0,h1,h2]<;>rfl)) ?_
 repeat refine sq ?_
 refine rx hΓ [0,11,12,13] [] (fun K' hK=>by simp only[go_sem,hO,ah,h0,h1,h2];(repeat (refine⟨au,?_⟩));exact hK _ (by simp only[go_sem,hO,ah,h0,h1,h2]) (by simp only[go_sem,hO,ah,h0,h1,h2]<;>rfl)) ?_
 repeat refine sq ?_
 refine aR ?_
 repeat refine sq ?_
 refine cp (fun s:Nat=>[(13,⟨true,.v (vInt s)⟩)]) (fun s=>[]) (fun s=>s<=x.rs.length/\∀ k,k<s->ou x k=none) (fun s=>x.rs.length-s) 0 ?_ ?_ ?_ ?_
 ·exact⟨Nat.zero_le _,by simp⟩
 ·rfl
 ·rfl
 rintro i ⟨hi,hR⟩
 simp only[go_sem]
 repeat refine sq ?_
 refine rx hΓ [0,11,12,13,14] [] (fun K' hK=>by simp only[go_sem,hO,ah,h0,h1,h2];(repeat (refine⟨au,?_⟩));exact hK _ (by simp only[go_sem,hO,ah,h0,h1,h2]) (by simp only[go_sem,hO,ah,h0,h1,h2]<;>rfl)) ?_
 repeat refine sq ?_
 refine aC (fun hb=>?_) fun hb=>?_
 ·have ae:i<x.rs.length:=by simpa using hb
  have aw:(i:Int)<x.rs.length:=by omega
  clear hb
  have yv:IntKind.i64.wrap ((i:Int)+1)=((i+1:Nat):Int):=bc ae m8
  have np:x.rs.length-(i+1)<=maxLen:=by omega
  have yz:List.take (x.rs.length-(i+1)) ((x.rs.drop (i+1)).map encR)=(x.rs.drop (i+1)).map encR:=List.take_of_length_le (by simp)
  have dS:=hp.rs x.rs[i] (List.getElem_mem ae)
  repeat refine sq ?_
  refine aF ?_
  repeat refine sq ?_
  refine aR ?_
  repeat refine sq ?_
  refine rx hΓ [0,4,5,11,12,13] [[5,0]] (fun K' hK=>by simp only[go_sem,hO,ah,h0,h1,h2,ai ae,ak,an,aw];(repeat (refine⟨au,?_⟩));exact hK _ (by simp only[go_sem,hO,ah,h0,h1,h2,ai ae,ak,an,aw]) (by simp only[go_sem,hO,ah,h0,h1,h2,ai ae,ak,an,aw]<;>rfl)) ?_
  repeat refine sq ?_
  refine rx hΓ [0,5,11,12,13,24,25,26] [[5,0]] (fun K' hK=>by simp only[go_sem,hO,ah,h0,h1,h2,ai ae,ak,an,aw,yv,<-List.map_drop,yz];(repeat (refine⟨by first | exact au | exact⟨by omega,Int.le_refl _,fun y hy=>(EH _ y hy).1⟩,?_⟩));exact hK _ (by simp only[go_sem,hO,ah,h0,h1,h2,ai ae,ak,an,aw,yv,<-List.map_drop,yz]) (by simp only[go_sem,hO,ah,h0,h1,h2,ai ae,ak,an,aw,yv,<-List.map_drop,yz]<;>rfl)) ?_
  repeat refine sq ?_
  refine aR ?_
  repeat refine sq ?_
  refine cp (fun s:Nat=>[(26,⟨true,.v (vInt s)⟩)]) (fun s=>[]) (fun s=>s<=(x.rs.drop (i+1)).length/\∀ k (hk:k<(x.rs.drop (i+1)).length),k<s->gH x x.rs[i] (x.rs.drop (i+1))[k]=false) (fun s=>(x.rs.drop (i+1)).length-s) 0 ?_ ?_ ?_ ?_
  ·exact⟨Nat.zero_le _,by simp⟩
  ·rfl
  ·rfl
  rintro i1 ⟨hi,hR⟩
  simp only[go_sem]
  repeat refine sq ?_
  refine rx hΓ [0,5,11,12,13,24,25,26,27] [[5,0]] (fun K' hK=>by simp only[go_sem,hO,ah,h0,h1,h2,ai ae,ak,an,aw];(repeat (refine⟨au,?_⟩));exact hK _ (by simp only[go_sem,hO,ah,h0,h1,h2,ai ae,ak,an,aw]) (by simp only[go_sem,hO,ah,h0,h1,h2,ai ae,ak,an,aw]<;>rfl)) ?_
  repeat refine sq ?_
  refine aC (fun hb=>?_) fun hb=>?_
  ·have aS:i1<(x.rs.drop (i+1)).length:=by simpa using hb
   have bC:(i1:Int)<(x.rs.drop (i+1)).length:=by omega
   clear hb
   have eH:=hp.rs (x.rs.drop (i+1))[i1] (List.mem_of_mem_drop (List.getElem_mem aS))
   repeat refine sq ?_
   refine aF ?_
   repeat refine sq ?_
   refine aR ?_
   repeat refine sq ?_
   refine rx hΓ [0,5,7,11,12,13,24,25,26] [[5,0],[7,0]] (fun K' hK=>by simp only[go_sem,hO,ah,h0,h1,h2,ai ae,ak,an,aw,ai aS,ak,an,bC];(repeat (refine⟨au,?_⟩));exact hK _ (by simp only[go_sem,hO,ah,h0,h1,h2,ai ae,ak,an,aw,ai aS,ak,an,bC]) (by simp only[go_sem,hO,ah,h0,h1,h2,ai ae,ak,an,aw,ai aS,ak,an,bC]<;>rfl)) ?_
   repeat refine sq ?_
   refine rx hΓ [0,5,7,11,12,13,24,25,26,33] [[5,0],[7,0]] (fun K' hK=>by simp only[go_sem,hO,ah,h0,h1,h2,ai ae,ak,an,aw,ai aS,ak,an,bC];(repeat (refine⟨au,?_⟩));exact hK _ (by simp only[go_sem,hO,ah,h0,h1,h2,ai ae,ak,an,aw,ai aS,ak,an,bC]) (by simp only[go_sem,hO,ah,h0,h1,h2,ai ae,ak,an,aw,ai aS,ak,an,bC]<;>rfl)) ?_
   repeat refine sq ?_
   refine aC (fun hb=>?_) fun hb=>?_
   ·repeat refine sq ?_
    refine rx hΓ [2,3] [] (fun K' hK=>by simp only[go_sem,hO,ah,h0,h1,h2,ai ae,ak,an,aw,ai aS,ak,an,bC];(repeat (refine⟨au,?_⟩));exact hK _ (by simp only[go_sem,hO,ah,h0,h1,h2,ai ae,ak,an,aw,ai aS,ak,an,bC]) (by simp only[go_sem,hO,ah,h0,h1,h2,ai ae,ak,an,aw,ai aS,ak,an,bC]<;>rfl)) ?_
    refine aB ?_
    simp only[go_sem,hO,ah,h0,h1,h2]
    rw[K8 ae (by assumption) (La ae aS hR (by simpa using hb))];rfl
   ·repeat refine sq ?_
    refine aF ?_
    refine bW ?_
    simp only[go_sem]
    refine fz [0,5,11,12,13,24,25,26] [[5,0]] ?_ ?_
    ·simp only[go_sem,hO,ah,h0,h1,h2]
    simp only[go_sem,hO,ah,h0,h1,h2]
    repeat refine sq ?_
    refine aW hΓ fun K' hK=>?_
    simp only[go_sem,hO,ah,h0,h1,h2,ai ae,ak,an,aw,ai aS,ak,an,bC]
    repeat (refine⟨au,?_⟩)
    refine hK _ ?_
    clear K' hK
    simp only[go_sem]
    refine⟨i1+1,⟨aS,?_⟩,by(show (x.rs.drop (i+1)).length-(i1+1)<(x.rs.drop (i+1)).length-i1;omega),?_⟩
    ·intro k hk dE
     rcases Nat.lt_succ_iff_lt_or_eq.1 dE with h5 | rfl
     ·exact hR k hk h5
     ·simpa using hb
    refine bh [0,5,11,12,13,24,25,26] [[5,0]] ?_ ?_<;>simp only[go_sem,bc aS (by rw[List.length_drop];omega:(x.rs.drop (i+1)).length<=maxLen),be,hO,ah,h0,h1,h2]
  ·have jy:i1=(x.rs.drop (i+1)).length:=by
    have :¬ (i1:Int)<(x.rs.drop (i+1)).length:=by simpa using hb
    omega
   clear hb
   subst jy
   repeat refine sq ?_
   refine bN ?_
   simp only[go_sem]
   refine fz [0,11,12,13] [] ?_ ?_
   ·simp only[go_sem,hO,ah,h0,h1,h2]
   simp only[go_sem,hO,ah,h0,h1,h2]
   repeat refine sq ?_
   refine aW hΓ fun K' hK=>?_
   simp only[go_sem,hO,ah,h0,h1,h2,ai ae,ak,an,aw]
   repeat (refine⟨au,?_⟩)
   refine hK _ ?_
   clear K' hK
   simp only[go_sem]
   refine⟨i+1,⟨ae,?_⟩,by(show x.rs.length-(i+1)<x.rs.length-i;omega),?_⟩
   ·intro k hk
    rcases Nat.lt_succ_iff_lt_or_eq.1 hk with h5 | rfl
    ·exact(by assumption:∀ k,k<i->ou x k=none) k h5
    ·exact AP ae fun j hj=>hR j hj hj
   refine bh [0,11,12,13] [] ?_ ?_<;>simp only[go_sem,bc ae m8,be,hO,ah,h0,h1,h2]
 ·have bE:i=x.rs.length:=by
   have :¬ (i:Int)<x.rs.length:=by simpa using hb
   omega
  clear hb
  subst bE
  repeat refine sq ?_
  refine bN ?_
  simp only[go_sem]
  refine fz [] [] ?_ ?_
  ·simp only[go_sem,hO,ah,h0,h1,h2]
  simp only[go_sem,hO,ah,h0,h1,h2]
  repeat refine sq ?_
  refine rx hΓ [2,3] [] (fun K' hK=>by simp only[go_sem,hO,ah,h0,h1,h2];(repeat (refine⟨au,?_⟩));exact hK _ (by simp only[go_sem,hO,ah,h0,h1,h2]) (by simp only[go_sem,hO,ah,h0,h1,h2]<;>rfl)) ?_
  refine aB ?_
  simp only[go_sem,hO,ah,h0,h1,h2]
  rw[EA hR];rfl
end
def kX(obj:Name->Option O)(L:List O):Name->Option O:=fun nm=>match ba L nm with | some o=>some o | none=>obj nm
theorem Ud{L1 L2:List O}(h:L2.length=L1.length):kX (ba L1) L2=ba L2:=by
 funext nm
 unfold kX
 cases hx:dz nm with
 |false=>rw[AQ hx,AQ hx]
 |true=>
  obtain⟨i,rfl⟩:=yl.1 hx
  simp only[ba]
  by_cases hi:i<L2.length
  ·rw[List.getElem?_eq_getElem hi]
  ·rw[List.getElem?_eq_none (by omega),List.getElem?_eq_none (by omega)]
theorem E4(n:Nat)(p:Name)(F H:Name->Option O)(L:List O)(l:List (Nat×E))(h:List (Name×O)):
 bu n p (kX (fun nm=>if own p nm=true then F nm else H nm) L) l h=bu n p (kX H L) l h:=
 A7 fun nm hn=>by unfold kX;simp[hn]
theorem IU(p:Name)(dom:Name->Bool)(F H:Name->Option O)(L:List O):
 cG p dom (kX (fun nm=>if own p nm=true then F nm else H nm) L)=cG p dom (kX H L):=by
 have e:∀ nm,own p nm=false->kX (fun nm=>if own p nm=true then F nm else H nm) L nm=kX H L nm:=fun nm hn=>by unfold kX;simp[hn]
 exact propext ⟨fun k nm q hn h=>k nm q hn (by rw[e nm hn];exact h),fun k nm q hn h=>k nm q hn (by rw[<-e nm hn];exact h)⟩
def Lp.I(r:Lp)(s:Nat):List O:=r.rc (LI r.m) .ready none::r.fam (LI r.m) s
theorem Lp.I_len{r:Lp}(hr:r.Ok)(s:Nat):(r.I s).length=r.m+1:=by unfold Lp.I;rw[List.length_cons,hr.len _ _ (iX _)]
theorem Lp.I_clos{r:Lp}(hr:r.Ok)(s:Nat):∀ o∈r.I s,∀ dom:Name->Bool,(∀ i,dom [i,1]=true)->O.clos dom o=true:=by
 intro o ho dom hd
 have kP:∀ x∈LI r.m,dom x=true:=fun x hx=>by
  obtain⟨i,_,rfl⟩:=List.mem_map.1 hx
  exact hd _
 rcases List.mem_cons.1 ho with rfl | ho
 ·exact hr.closE _ _ (iX _) kP
 ·exact hr.closF _ _ _ (iX _) kP _ ho
theorem Lp.y_setU{r:Lp}(hr:r.Ok)(dq:∀ j,r.st j=none){s:Nat}(hs:s<r.n)(obj:Name->Option O)(tm:Name)(ho:∀ nm,dz nm=true->obj nm=ba (r.I s) nm):
 r.y.toSpec.app obj tm (.yld [0,1]::r.vals s)=⟨True,.v (.bool true),kX obj (r.I (s+1))⟩:=by
 have uz:(LI r.m).Nodup:=List.Pairwise.map _ (fun a b h=>by simpa using h) List.nodup_range
 have zh:([0,1]:Name)∉LI r.m:=fun h=>by
  obtain⟨i,_,hi⟩:=List.mem_map.1 h
  simp at hi
 have h0:obj [0,1]=some (r.rc (LI r.m) .ready none):=by
  rw[ho _ rfl];rfl
 have hF:di obj (LI r.m) (r.fam (LI r.m) s):=by
  rw[l3]
  refine List.ext_getElem (by rw[List.length_map,List.length_map,iX,hr.len _ _ (iX _)]) fun i h3 h4=>?_
  simp only[List.getElem_map,LI,List.getElem_range]
  rw[ho _ rfl]
  simp only[Lp.I,ba,List.getElem?_cons_succ]
  have h5:i<(r.fam (LI r.m) s).length:=by simpa using h4
  rw[List.getElem?_eq_getElem h5]
  rfl
 have B':=Lp.y_app hr hs (fun j _=>dq j) (t:=tm) (iX _) uz zh h0 hF
 rw[B',dq s]
 simp only[Option.isNone_none,if_true]
 congr 1
 funext nm
 have hlen:=hr.len (LI r.m) (s+1) (iX _)
 by_cases hR:nm=[0,1]
 ·subst hR
  rw[aX]
  rfl
 ·rw[bm _ _ _ hR]
  unfold kX
  cases hx:dz nm with
  |false=>
   rw[AQ hx,xE]
   intro gD
   obtain⟨i,_,rfl⟩:=List.mem_map.1 gD
   cases hx
  |true=>
   obtain⟨i,rfl⟩:=yl.1 hx
   have eM:=JW (obj:=obj) (F:=r.fam (LI r.m) (s+1)) uz (by rw[iX,hlen])
   match i,hR with
   | 0,hR=>exact(hR rfl).elim
   |i+1,_=>
    simp only[Lp.I,ba,List.getElem?_cons_succ]
    by_cases hi:i<r.m
    ·have h6:=EN eM i (by rw[iX];exact hi) (by rw[hlen];exact hi)
     simp only[LI,List.getElem_map,List.getElem_range]at h6
     rw[show (r.fam (LI r.m) (s+1))[i]?=some (r.fam (LI r.m) (s+1))[i]from List.getElem?_eq_getElem (by rw[hlen];exact hi)]
     exact h6
    ·rw[List.getElem?_eq_none (by rw[hlen];omega),xE]
     intro gD
     obtain⟨j,Pp,hj3⟩:=List.mem_map.1 gD
     have :=List.mem_range.1 Pp
     simp at hj3
     omega
theorem Lp.go_e{r:Lp}(dq:∀ j,r.st j=none):r.e=r.n/\r.pd=none:=by
 have :(List.range r.n).find? (fun s=>(r.st s).isSome)=none:=List.find?_eq_none.2 fun s _=>by rw[dq s];decide
 unfold Lp.e Lp.pd
 rw[this]
 exact⟨rfl,rfl⟩
theorem Lp.go_end{P:Program}{r:Lp}(hr:r.Ok)(dq:∀ j,r.st j=none){σ:S}(fN:∀ i,σ.obj [i,1]=ba (r.I r.n) [i,1]):
 (cf P σ []).ok/\(cf P σ []).d=.tup []/\gZ (r.rc (LI r.m) .ready none::r.fam (LI r.m) 0) ⟨(0,r.fin (LI r.m))::fS 1 (r.fam (LI r.m) r.e),[],.tup []⟩ σ:=by
 obtain⟨e1,e2⟩:=Lp.go_e dq
 refine Lp.it_end hr ?_ ?_
 ·rw[fN]
  unfold Lp.fin
  rw[e2]
  rfl
 ·rw[l3,e1]
  refine List.ext_getElem (by rw[List.length_map,List.length_map,iX,hr.len _ _ (iX _)]) fun i h3 h4=>?_
  simp only[List.getElem_map,LI,List.getElem_range]
  rw[fN]
  simp only[Lp.I,ba,List.getElem?_cons_succ]
  have h5:i<(r.fam (LI r.m) r.n).length:=by simpa using h4
  rw[List.getElem?_eq_getElem h5]
  rfl
theorem Lp.itC_sound{P:Program}{r:Lp}(hr:r.Ok)(dq:∀ j,r.st j=none){eE:List Name->List D}{f:FuncId}{fn:Func}{nt:Nat}(hf:P.funcs[f]?=some fn)(cM:fn.ntmps=nt)(cg:fn.results.toList=[])(hn:(fn.name== "runtime.NumGoroutine")=false)(hy:f<1000000000)
 (hw:∃ c,fn.body=some c/\(eE (LI r.m)).length+1<=nt/\CL P [c] (bu nt [0] (ba (r.I 0)) (dt 0 (.yld [0,1]::eE (LI r.m))) []) (fun e σ=>(e=.normal\/e=.ret)/\∀ i,σ.obj [i,1]=ba (r.I r.n) [i,1])):aT P f (r.itC eE).toSpec:=by
 obtain⟨c,hc,hl,hw⟩:=hw
 refine pI hf hc cM cg (jb hf hc hn) (Nat.ne_of_lt (show f<yid from hy)) ?_
 rintro os ds ⟨rfl,rfl⟩
 refine⟨by simpa using hl,CW.mono (kg hw) ?_⟩
 rintro e σ ⟨he,fN⟩
 rcases he with rfl | rfl
 ·exact Lp.go_end hr dq fN
 ·exact Lp.go_end hr dq fN
noncomputable section
def qZ(obj:Name->Option O)(t:Name):List D->R
 |[.ref nv 0,.v (.int .i64 pa),.v (.sl lv)]=>match jA obj nv with
  |some (nb,nd,x)=>⟨pn obj nv nb nd x/\obj (3::0::t)=none,.clo (.func 193) [] [.ref (3::0::t) 0,.v (.ptr [vInt pa]),.v (.ptr [.sl lv])],upd obj (3::0::t) (some (.box [.ref nv 0]))⟩
  |_=>.bad obj
 |_=>.bad obj
def DB(obj:Name->Option O)(t:Name):List D->List Name
 | .ref nv _::_=>(3::0::t)::nv::(match obj nv with | some (.box [_,_,_,.map nb,.map nd])=>[nb,nd] | _=>[])
 |_=>[]
def withS:Spec:=⟨qZ,DB,DB⟩
theorem ab8{obj obj2:Name->Option O}{nv:Name}(h1:obj2 nv=obj nv)(h2:∀ nm∈(match obj nv with | some (.box [_,_,_,.map nb,.map nd])=>[nb,nd] | _=>[]),obj2 nm=obj nm):jA obj2 nv=jA obj nv:=by
 unfold jA
 rw[h1]
 split
 ·rename_i lp rs ts nb nd h
  rw[h]at h2
  rw[h2 nb (by simp),h2 nd (by simp)]
 ·rfl
theorem ab7{obj:Name->Option O}{nv nb nd:Name}{x:Vw}(h:jA obj nv=some (nb,nd,x)):(match obj nv with | some (.box [_,_,_,.map nb,.map nd])=>[nb,nd] | _=>[])=[nb,nd]:=by
 unfold jA at h
 split at h
 ·rename_i e
  split at h
  ·cases h;rw[e]
  ·cases h
 ·cases h
theorem To:withS.Near:=by
 refine xX fun obj obj2 t ds ha=>?_
 unfold DB at ha |-
 split
 ·rename_i nv off r
  simp only at ha
  have h1:obj2 nv=obj nv:=ha nv (by simp)
  have hg:=ab8 h1 fun nm hn=>ha nm (by simp[hn])
  refine⟨by rw[h1],?_⟩
  unfold qZ
  split
  ·rename_i nv' pa lv e
   cases e
   simp only[hg]
   split
   ·rename_i nb nd x hx
    have aD:=ab7 hx
    rw[aD]at ha |-
    have aa:pn obj2 nv nb nd x=pn obj nv nb nd x:=by unfold pn;rw[h1,ha nb (by simp),ha nd (by simp)]
    rw[aa,ha (3::0::t) (by simp)]
    exact .one (by simp) ha
   ·exact .none _ ha
  ·exact .none _ ha
 ·refine⟨rfl,?_⟩
  rename_i nl
  unfold qZ
  split
  ·exact(nl _ _ _ rfl).elim
  ·exact .none _ (fun _ h=>by cases h)
attribute [go_sem] withS qZ
def zY:CSpec where
 pre:=fun os ds=>∃ (x:Vw) (pa:Int) (lv:List V),os=[bG x [1,1] [2,1],.map 2 (cm x.bk),.map 0 (bU x.ds)]/\ds=[.ref [0,1] 0,.v (vInt pa),.v (.sl lv)]
 out:=fun _ ds=>match ds with
  |[_,.v p,.v l]=>⟨[],[([3,0],.box [.ref [0,1] 0])],.clo (.func 193) [] [.ref [3,0] 0,.v (.ptr [p]),.v (.ptr [l])]⟩
  |_=>⟨[],[],.any⟩
theorem Tn{f:FuncId}(h:aT Tryz.prog f zY.toSpec)(aH:f≠yid):aT Tryz.prog f withS:=by
 refine xw h To aH fun obj t ds aa=>?_
 change (qZ obj t ds).ok at aa
 refine⟨ds,rfl,fun _ _ _ _ h=>h,?_⟩
 show _/\_=(qZ obj t ds).d/\_=(qZ obj t ds).obj
 unfold qZ at aa |-
 split at aa
 ·rename_i nv pa lv
  split at aa
  ·rename_i nb nd x yW
   obtain⟨hv,de⟩:=aa
   have tz:=hv
   obtain⟨h1,h2,h3,h4,h5,h6⟩:=tz
   have n4:nv≠nb:=by simpa using h4
   have n5:nv≠nd:=by simpa using h5
   have n6:nb≠nd:=by simpa using h6
   have hr:=KE hv [vInt pa,.sl lv]
   simp only[List.map_cons,List.map_nil]at hr
   have i0:idx [nv,nb,nd] nv=0:=by simp[idx]
   have i1:idx [nv,nb,nd] nb=1:=by simp[idx,n4]
   have i2:idx [nv,nb,nd] nd=2:=by simp[idx,n5,n6]
   have e1:cS obj [.ref nv 0,.v (vInt pa),.v (.sl lv)]=[bG x [1,1] [2,1],.map 2 (cm x.bk),.map 0 (bU x.ds)]:=by
    unfold cS
    rw[hr]
    simp only[List.map_cons,List.map_nil,cX,h1,h2,h3,bG,O.ren,D.renL,D.ren,cin,i1,i2]
   have e2:dr obj [.ref nv 0,.v (vInt pa),.v (.sl lv)]=[.ref [0,1] 0,.v (vInt pa),.v (.sl lv)]:=by
    unfold dr
    rw[hr]
    simp only[D.renL,D.ren,cin,i0]
   have e5:(shut obj [nv,nb,nd]&&D.closL (dj [nv,nb,nd]) [.ref nv 0,.v (vInt pa),.v (.sl lv)]&&fresh obj t [([3,0],.box [.ref [0,1] 0])])=true:=by
    simp[shut,h1,h2,h3,bG,O.clos,D.closL,D.clos,dj,fresh,de]
   have e4:zY.pre [bG x [1,1] [2,1],.map 2 (cm x.bk),.map 0 (bU x.ds)] [.ref [0,1] 0,.v (vInt pa),.v (.sl lv)]:=⟨x,pa,lv,rfl,rfl⟩
   have e6:∀ os,zY.out os [.ref [0,1] 0,.v (vInt pa),.v (.sl lv)]=⟨[],[([3,0],.box [.ref [0,1] 0])],.clo (.func 193) [] [.ref [3,0] 0,.v (.ptr [vInt pa]),.v (.ptr [.sl lv])]⟩:=fun _=>rfl
   have wQ:dr obj [.ref nv 0,.v (V.int .i64 pa),.v (.sl lv)]=[.ref [0,1] 0,.v (vInt pa),.v (.sl lv)]:=e2
   have QP:cS obj [.ref nv 0,.v (V.int .i64 pa),.v (.sl lv)]=_:=e1
   have rX:reach obj [.ref nv 0,.v (V.int .i64 pa),.v (.sl lv)]=_:=hr
   have e5':(shut obj [nv,nb,nd]&&D.closL (dj [nv,nb,nd]) [.ref nv 0,.v (V.int .i64 pa),.v (.sl lv)]&&fresh obj t [([3,0],.box [.ref [0,1] 0])])=true:=e5
   simp only[CSpec.toSpec,QP,wQ,rX,e6,e4,e5',yW,and_self,dQ,cU]
   exact⟨trivial,rfl,rfl⟩
  ·exact aa.elim
 ·exact aa.elim
def S164:Spec:=withS
attribute [go_sem] S164
set_option maxHeartbeats 4000000 in
theorem FA:aT Tryz.prog 164 S164:=by
 refine Tn ?_ (mU _ (by decide))
 refine pI (nt:=8) (rs:=[.tmp 6]) Tryz.func164 rfl (by rfl) (by kernel_rfl) (jb Tryz.func164 rfl (by kernel_rfl)) (mU _ (by decide)) ?_
 rintro os ds ⟨x,pa,lv,rfl,rfl⟩
 refine⟨lb rfl,?_⟩
 have j7:∀ os,zY.out os [.ref [0,1] 0,.v (vInt pa),.v (.sl lv)]=⟨[],[([3,0],.box [.ref [0,1] 0])],.clo (.func 193) [] [.ref [3,0] 0,.v (.ptr [vInt pa]),.v (.ptr [.sl lv])]⟩:=fun _=>rfl
 rw[j7]
 refine kg ?_
 have hΓ:=@fD Tryz.prog
 have hO:∀ hs,cG [0] (cv [0] hs) (ba [bG x [1,1] [2,1],.map 2 (cm x.bk),.map 0 (bU x.ds)])=True:=fun hs=>eq_true (p7 (by
  intro o ho dom hd
  simp only[List.mem_cons,List.not_mem_nil,or_false]at ho
  rcases ho with rfl | rfl | rfl
  ·simp[bG,O.clos,D.closL,D.clos,hd]
  ·rfl
  ·rfl) hs)
 have h0:ba [bG x [1,1] [2,1],.map 2 (cm x.bk),.map 0 (bU x.ds)] [0,1]=some (bG x [1,1] [2,1]):=rfl
 have h1:ba [bG x [1,1] [2,1],.map 2 (cm x.bk),.map 0 (bU x.ds)] [1,1]=some (.map 2 (cm x.bk)):=rfl
 have h2:ba [bG x [1,1] [2,1],.map 2 (cm x.bk),.map 0 (bU x.ds)] [2,1]=some (.map 0 (bU x.ds)):=rfl
 generalize ba [bG x [1,1] [2,1],.map 2 (cm x.bk),.map 0 (bU x.ds)]=H at *
 repeat refine sq ?_
 refine rx hΓ [3,4,5] [[3,0],[4,0],[5,0]] (fun K' hK=>by simp only[go_sem,hO];(repeat (refine⟨au,?_⟩));exact hK _ (by simp only[go_sem,hO]) (by simp only[go_sem,hO]<;>rfl)) ?_
 refine bQ (dV 4 (.ref [4,0] 0) (by simp only[go_sem]) (by simp only[go_sem]) [3,4,5] [[3,0],[4,0],[5,0]] ?_ rfl) ?_
 ·simp only[go_sem,hO]
 simp only[go_sem,hO]
 refine bQ (dV 5 (.ref [5,0] 0) (by simp only[go_sem]) (by simp only[go_sem]) [3,4,5] [[3,0]] ?_ rfl) ?_
 ·simp only[go_sem,hO]
 simp only[go_sem,hO]
 repeat refine sq ?_
 refine rx hΓ [6] [[3,0],[4,0],[5,0]] (fun K' hK=>by simp only[go_sem,hO];(repeat (refine⟨au,?_⟩));exact hK _ (by simp only[go_sem,hO]) (by simp only[go_sem,hO]<;>rfl)) ?_
 refine aB ?_
 simp only[go_sem,hO]
 exact⟨⟨h0,h1,h2⟩,rfl⟩
end
attribute [go_sem] ym
theorem vL(lv:List Int):pG (194,[.ptr [.sl (lv.map vInt)]])=fun n=>lv.contains n:=by
 funext n
 simp only[pG,sp]
set_option maxHeartbeats 8000000 in
theorem TD{sY:Spec}(hY:aT Tryz.prog yid sY){x:Vw}{nb nd:Name}{pa:Int}{lv:List Int}{ia ic:Nat}{I:Nat->List O}(hv:∀ r∈x.rs,dP r=true)(oF:x.rs.length<=60)
 (hI:∀ s,(I s).length=(I 0).length) (hc:∀ s,∀ o∈I s,∀ dom:Name->Bool,(∀ i,dom [i,1]=true)->O.clos dom o=true)
 (ha:ba (I 0) [ia,1]=some (.box [.ref [ic,1] 0])) (hx:ba (I 0) [ic,1]=some (bG x nb nd))
 (dq:∀ s (h:s<x.rs.length),iv pa lv x.rs[s]=false->I (s+1)=I s)
 (kb:∀ s (h:s<x.rs.length),iv pa lv x.rs[s]=true->∀ obj tm,(∀ nm,dz nm=true->obj nm=ba (I s) nm)->sY.app obj tm [.yld [0,1],hU x.rs[s]]=⟨True,.v (.bool true),kX obj (I (s+1))⟩):
 ∃ c',Tryz.f193.body=some c'/\CL Tryz.prog [c'] (bu 33 [0] (ba (I 0)) [(0,⟨true,.yld [0,1]⟩),(1,⟨true,.ref [ia,1] 0⟩),(2,⟨true,.v (.ptr [vInt pa])⟩),(3,⟨true,.v (.ptr [.sl (lv.map vInt)])⟩)] [])
   (fun e σ=>(e=.normal\/e=.ret)/\∀ i,σ.obj [i,1]=ba (I x.rs.length) [i,1]):=by
 refine⟨_,rfl,?_⟩
 obtain⟨Γ,hΓ,eJ,eI⟩:∃ Γ:FuncId->Option Spec,(∀ f s,Γ f=some s->aT Tryz.prog f s)/\Γ 160=some S160/\Γ 1000000000=some sY:=by
  refine⟨fun f=>if f=160 then some S160 else if f=1000000000 then some sY else none,fun f s h=>?_,rfl,rfl⟩
  dsimp only at h
  split at h
  ·rename_i e;cases h;subst e;exact N7
  ·split at h
   ·rename_i e;cases h;subst e;exact hY
   ·cases h
 have hO:∀ s hs,cG [0] (cv [0] hs) (ba (I s))=True:=fun s hs=>eq_true (p7 (hc s) hs)
 have By:∀ s,kX (ba (I s)) (I (s+1))=ba (I (s+1)):=fun s=>Ud ((hI _).trans (hI s).symm)
 obtain⟨H,hH⟩:∃ H:Nat->Name->Option O,∀ s,ba (I s)=H s:=⟨_,fun _=>rfl⟩
 simp only[hH]at hO By kb ha hx |-
 simp only[bG]at hx
 have m8:x.rs.length<=maxLen:=by unfold maxLen;omega
 repeat refine sq ?_
 refine rx hΓ [0,2,3,10,11,12] [] (fun K' hK=>by simp only[go_sem,hO,ha,hx];(repeat (refine⟨au,?_⟩));exact hK _ (by simp only[go_sem,hO,ha,hx]) (by simp only[go_sem,hO,ha,hx]<;>rfl)) ?_
 repeat refine sq ?_
 refine aR ?_
 repeat refine sq ?_
 refine Ia (fun s:Nat=>bu 33 [0] (H s) [(0,⟨true,.yld [0,1]⟩),(2,⟨true,.v (.ptr [vInt pa])⟩),(3,⟨true,.v (.ptr [.sl (lv.map vInt)])⟩),(10,⟨true,.v (.sl (x.rs.map encR))⟩),(11,⟨true,.v (vInt x.rs.length)⟩),(12,⟨true,.v (vInt s)⟩)] [])
  (fun s=>s<=x.rs.length) (fun s=>x.rs.length-s) 0 (Nat.zero_le _) (eN.refl _) ?_
 rintro i hi
 repeat refine sq ?_
 refine rx hΓ [0,2,3,10,11,12,13] [] (fun K' hK=>by simp only[go_sem,hO];(repeat (refine⟨au,?_⟩));exact hK _ (by simp only[go_sem,hO]) (by simp only[go_sem,hO]<;>rfl)) ?_
 repeat refine sq ?_
 refine aC (fun hb=>?_) fun hb=>?_
 ·have ae:i<x.rs.length:=by simpa using hb
  have aw:(i:Int)<x.rs.length:=by omega
  have FN:IntKind.i64.wrap ((i:Int)+1)=((i+1:Nat):Int):=bc ae m8
  clear hb
  have hlf:=Eh (hv x.rs[i] (List.getElem_mem ae))
  repeat refine sq ?_
  refine aF ?_
  repeat refine sq ?_
  refine aR ?_
  repeat refine sq ?_
  refine rx hΓ [0,2,3,6,10,11,12] [[6,0]] (fun K' hK=>by simp only[go_sem,hO,ai ae,ak,an,aw];(repeat (refine⟨au,?_⟩));exact hK _ (by simp only[go_sem,hO,ai ae,ak,an,aw]) (by simp only[go_sem,hO,ai ae,ak,an,aw]<;>rfl)) ?_
  have PH:(if iv pa lv x.rs[i]=true then H (i+1)else H i)=H (i+1):=by
   split
   ·rfl
   ·rename_i h;rw[<-hH,<-hH,dq i ae (by simpa using h)]
  by_cases lr:x.rs[i].pa=pa
  ·have nc:(x.rs[i].pa==pa)=true:=by simp[lr]
   cases jz:x.rs[i].lv.any fun n=>lv.contains n with
   |true=>
    have oL:iv pa lv x.rs[i]=true:=by unfold iv;rw[jz];simp[lr]
    have Ca:=fun (F:Name->Option O) (tm:Name)=>kb i ae oL (fun nm=>if own [0] nm=true then F nm else H i nm) tm fun nm hn=>by
     obtain⟨k,rfl⟩:=yl.1 hn
     simp[vM]
    simp only[hU]at Ca
    repeat refine sq ?_
    refine rx hΓ [0,2,3,10,11,12,31] [] (fun K' hK=>by simp only[go_sem,hO,eJ,eI,nc,vL,jz,Ca,E4,IU,By,Bool.not_true];(repeat (refine⟨by first | exact au | exact⟨trivial,.inr (.inr ⟨_,rfl⟩)⟩ | exact .inr (.inr ⟨_,rfl⟩),?_⟩));exact hK _ (by simp only[go_sem,hO,eJ,eI,nc,vL,jz,Ca,E4,IU,By,Bool.not_true]) (by simp only[go_sem,hO,eJ,eI,nc,vL,jz,Ca,E4,IU,By,Bool.not_true]<;>rfl)) ?_
    repeat refine sq ?_
    refine aC (fun hb=>?_) fun hb=>?_
    ·cases hb
    repeat refine sq ?_
    refine aF ?_
    refine bW ?_
    simp only[go_sem]
    refine fz [0,2,3,10,11,12] [] ?_ ?_
    ·simp only[go_sem,hO]
    simp only[go_sem,hO]
    repeat refine sq ?_
    refine aW hΓ fun K' hK=>?_
    simp only[go_sem]
    repeat (refine⟨au,?_⟩)
    refine hK _ ?_
    clear K' hK
    simp only[go_sem]
    refine⟨i+1,ae,by omega,?_⟩
    refine bh [0,2,3,10,11,12] [] ?_ ?_<;>simp only[go_sem,hO,FN,be]
   |false=>
    have oL:iv pa lv x.rs[i]=false:=by unfold iv;rw[jz];simp
    have G8:H (i+1)=H i:=by rw[<-hH,<-hH,dq i ae oL]
    repeat refine sq ?_
    refine rx hΓ [0,2,3,10,11,12,31] [] (fun K' hK=>by simp only[go_sem,hO,eJ,eI,nc,vL,jz];(repeat (refine⟨by first | exact au | exact⟨trivial,.inr (.inr ⟨_,rfl⟩)⟩ | exact .inr (.inr ⟨_,rfl⟩),?_⟩));exact hK _ (by simp only[go_sem,hO,eJ,eI,nc,vL,jz]) (by simp only[go_sem,hO,eJ,eI,nc,vL,jz]<;>rfl)) ?_
    repeat refine sq ?_
    refine aC (fun hb=>?_) fun hb=>?_
    ·cases hb
    repeat refine sq ?_
    refine aF ?_
    refine bW ?_
    simp only[go_sem]
    refine fz [0,2,3,10,11,12] [] ?_ ?_
    ·simp only[go_sem,hO]
    simp only[go_sem,hO]
    repeat refine sq ?_
    refine aW hΓ fun K' hK=>?_
    simp only[go_sem]
    repeat (refine⟨au,?_⟩)
    refine hK _ ?_
    clear K' hK
    simp only[go_sem]
    refine⟨i+1,ae,by omega,?_⟩
    rw[G8]
    refine bh [0,2,3,10,11,12] [] ?_ ?_<;>simp only[go_sem,hO,FN,be]
  ·have nc:(x.rs[i].pa==pa)=false:=by simp[lr]
   have oL:iv pa lv x.rs[i]=false:=by unfold iv;simp[lr]
   have G8:H (i+1)=H i:=by rw[<-hH,<-hH,dq i ae oL]
   repeat refine sq ?_
   refine rx hΓ [0,2,3,10,11,12,31] [] (fun K' hK=>by simp only[go_sem,hO,eJ,eI,nc];(repeat (refine⟨au,?_⟩));exact hK _ (by simp only[go_sem,hO,eJ,eI,nc]) (by simp only[go_sem,hO,eJ,eI,nc]<;>rfl)) ?_
   repeat refine sq ?_
   refine aC (fun hb=>?_) fun hb=>?_
   ·cases hb
   repeat refine sq ?_
   refine aF ?_
   refine bW ?_
   simp only[go_sem]
   refine fz [0,2,3,10,11,12] [] ?_ ?_
   ·simp only[go_sem,hO]
   simp only[go_sem,hO]
   repeat refine sq ?_
   refine aW hΓ fun K' hK=>?_
   simp only[go_sem]
   repeat (refine⟨au,?_⟩)
   refine hK _ ?_
   clear K' hK
   simp only[go_sem]
   refine⟨i+1,ae,by omega,?_⟩
   rw[G8]
   refine bh [0,2,3,10,11,12] [] ?_ ?_<;>simp only[go_sem,hO,FN,be]
 ·have bE:i=x.rs.length:=by
    have :¬ (i:Int)<x.rs.length:=by simpa using hb
    omega
  subst bE
  clear hb
  repeat refine sq ?_
  refine bN ?_
  simp only[go_sem]
  refine bW ?_
  simp only[go_sem]
  first | exact .inl trivial | exact⟨by simp,fun k=>by simp[vM]⟩
set_option maxRecDepth 10000
noncomputable section
theorem sM{α:Type}{p:α->Bool}{l:List α}{s:Nat}(h:s<l.length):((l.take (s+1)).filter p)=(l.take s).filter p++(if p l[s]=true then[l[s]]else[]):=by
 rw[List.take_add_one,List.getElem?_eq_getElem h,List.filter_append]
 simp only[Option.toList_some,List.filter_cons,List.filter_nil]
theorem acf{α:Type}{p:α->Bool}{l:List α}{s:Nat}{z:α}(h:s<l.length)(hp:p l[s]=true):((l.take s).filter p).length<(l.filter p).length/\(l.filter p).getD ((l.take s).filter p).length z=l[s]:=by
 have e:l.filter p=(l.take s).filter p++(l[s]::(l.drop (s+1)).filter p):=by
  conv=>lhs;rw[<-List.take_append_drop s l,List.filter_append,List.drop_eq_getElem_cons h,List.filter_cons,if_pos hp]
 refine⟨?_,?_⟩
 ·rw[e,List.length_append,List.length_cons];omega
 ·rw[e];simp[List.getD]
def kR(j:Nat)(pa:Int)(lv:List Int)(Ls:List Name):List D:=[.ref (Ls.getD j []) 0,.v (.ptr [vInt pa]),.v (.ptr [.sl (lv.map vInt)])]
theorem J7{r:Lp}(hr:r.Ok)(dq:∀ j,r.st j=none)(hy:aT Tryz.prog yid r.y.toSpec){x:Vw}{nb nd:Name}{pa:Int}{lv:List Int}{j jc:Nat}(hv:∀ q∈x.rs,dP q=true)(oF:x.rs.length<=60)
 (hn:r.n=(dU x.rs pa lv).length) (aav:∀ s,r.vals s=[hU ((dU x.rs pa lv).getD s zeroR)]) (hj:j<r.m) (ha:ba (r.I 0) [j+1,1]=some (.box [.ref [jc+1,1] 0])) (hx:ba (r.I 0) [jc+1,1]=some (bG x nb nd)):
 aT Tryz.prog 193 (r.itC (kR j pa lv)).toSpec:=by
 have gF:kR j pa lv (LI r.m)=[.ref [j+1,1] 0,.v (.ptr [vInt pa]),.v (.ptr [.sl (lv.map vInt)])]:=by
  unfold kR
  have :(LI r.m).getD j []=[j+1,1]:=by simp[LI,hj]
  rw[this]
 obtain⟨c,hc,h⟩:=TD hy (x:=x) (nb:=nb) (nd:=nd) (pa:=pa) (lv:=lv) (ia:=j+1) (ic:=jc+1) (I:=fun s=>r.I ((x.rs.take s).filter (iv pa lv)).length) hv oF
  (fun s=>by rw[Lp.I_len hr,Lp.I_len hr]) (fun s=>Lp.I_clos hr _) (by simpa using ha) (by simpa using hx)
  (fun s hs hh=>by rw[sM hs,hh];simp)
  (fun s hs hh obj tm ho=>by
    obtain⟨h1,h2⟩:=acf (z:=zeroR) hs hh
    have :=Lp.y_setU hr dq (s:=((x.rs.take s).filter (iv pa lv)).length) (by rw[hn];exact h1) obj tm ho
    rw[aav]at this
    unfold dU at this
    rw[h2]at this
    rw[this,sM hs,hh]
    simp)
 refine Lp.itC_sound hr dq Tryz.func193 Tryz.ntmps193 (by rfl) (by kernel_rfl) (by decide) ⟨c,hc,by rw[gF];exact lb rfl,?_⟩
 rw[gF]
 have h0:r.I ((x.rs.take 0).filter (iv pa lv)).length=r.I 0:=by simp
 have h9:r.I ((x.rs.take x.rs.length).filter (iv pa lv)).length=r.I r.n:=by rw[List.take_length,hn];rfl
 simp only[h0,h9]at h
 exact h
theorem KH{a b:Rec}(h:hU a=hU b):a=b:=by
 obtain⟨a1,a2,a3,al,a4,a5,a6⟩:=a
 obtain⟨b1,b2,b3,bl,b4,b5,b6⟩:=b
 simp only[hU,D.agg.injEq,List.cons.injEq,D.v.injEq,vInt,V.int.injEq,V.sl.injEq,true_and,and_true]at h
 obtain⟨rfl,rfl,rfl,hl,rfl,rfl,rfl⟩:=h
 have :=congrArg (List.map kQ) hl
 have e:∀ l:List Int,(l.map fun n=>V.int .i64 n).map kQ=l:=fun l=>sp l
 rw[e,e]at this
 rw[this]
theorem Je{l:List Rec}(hn:l.Nodup):∀ s s',s<l.length->s'<l.length->([hU (l.getD s zeroR)]:List D)=[hU (l.getD s' zeroR)]->s=s':=by
 intro s s' h h' e
 have e1:=KH (List.cons.inj e).1
 rw[cj h,cj h']at e1
 exact(List.getElem_inj hn).1 e1
def sP:Code->Option (Array Tmp×Code×Code)
 | .seq a b=>match sP a with | some x=>some x | none=>sP b
 | .block _ b=>sP b
 | .loop b=>sP b
 | .cond _ a b=>match sP a with | some x=>some x | none=>sP b
 | .rangeFunc _ ps a b=>some (ps,a,b)
 |_=>none
def ru(fn:Func):Array Tmp×Code×Code:=((fn.body.bind sP).getD (#[],.skip,.skip))
theorem l5{Ls:List Name}(h:Ls.length=5):∃ a b c d e,Ls=[a,b,c,d,e]:=by
 match Ls,h with
 |[a,b,c,d,e],_=>exact⟨a,b,c,d,e,rfl⟩
theorem rF{Ls:List Name}(h:Ls.length=7):∃ a b c d e f g,Ls=[a,b,c,d,e,f,g]:=by
 match Ls,h with
 |[a,b,c,d,e,f,g],_=>exact⟨a,b,c,d,e,f,g,rfl⟩
def jo(l:Led)(k i j:Int)(n:Nat)(x:Vw)(r:Rec)(lv:List Int):Lp where
 m:=5
 env:=fun Ls=>(List.range 181).map (ey eAny [(0,⟨true,.v (jE l)⟩),(5,⟨true,.ref (Ls.getD 0 []) 0⟩),(17,⟨true,.v (.ptr [vInt i])⟩),(19,⟨true,.v (.ptr [vInt r.so,vInt r.bo,vInt r.pa,.sl (r.lv.map vInt),vInt r.da,vInt r.kn,vInt r.un])⟩),(141,⟨true,.v (.sl (x.ts.map vInt))⟩),(142,⟨true,.v (vInt n)⟩),(143,⟨true,.v (vInt j)⟩),(166,⟨true,.clo (.func 193) [] (kR 4 r.pa lv Ls)⟩)])
 fam:=fun Ls s=>[.box [.ref (Ls.getD 1 []) 0],bG x (Ls.getD 2 []) (Ls.getD 3 []),.map 2 (cm x.bk),.map 0 (bU (kD x.ds i r.da ((dU x.rs r.pa lv).take s))),.box [.ref (Ls.getD 1 []) 0]]
 ps:=(ru Tryz.f76).1.toList
 asg:=(ru Tryz.f76).2.1
 body:=(ru Tryz.f76).2.2
 n:=(dU x.rs r.pa lv).length
 vals:=fun s=>[hU ((dU x.rs r.pa lv).getD s zeroR)]
 st:=fun _=>none
 fu:=100
theorem Mb(l:Led)(k i j:Int)(n:Nat)(x:Vw)(r:Rec)(lv:List Int)(hn:x.rs.Nodup):(jo l k i j n x r lv).Ok where
 len:=fun Ls s _=>rfl
 renE:=fun f Ls h=>by obtain⟨a,b,c,d,e,rfl⟩:=l5 h;rfl
 renF:=fun f Ls s h=>by obtain⟨a,b,c,d,e,rfl⟩:=l5 h;rfl
 reach:=fun Ls s obj acc q h cz hd hF=>by
  obtain⟨a,b,c,d,e,rfl⟩:=l5 h
  obtain⟨h1,h2,h3,h4,h5,_⟩:=hF
  have en:dw (((jo l k i j n x r lv).env [a,b,c,d,e]).map (·.d))=[a,e]:=rfl
  rw[en]
  show dW obj (q+91+1+1+1+1+1+1+1+1+1) _ acc=_
  simp only[List.mem_cons,List.not_mem_nil,or_false,forall_eq_or_imp,forall_eq]at hd
  obtain⟨d1,d2,d3,d4,d5⟩:=hd
  simp only[List.nodup_cons,List.mem_cons,List.not_mem_nil,or_false,not_or,not_false_eq_true,List.nodup_nil,and_true]at cz
  obtain⟨⟨a1,a2,a3,a4⟩,⟨b1,b2,b3⟩,⟨c1,c2⟩,e1⟩:=cz
  simp[dW,ig,h1,h2,h3,h4,h5,mW,dw,mX,bG,d1,d2,d3,d4,d5,Ne.symm a1,Ne.symm a2,Ne.symm a3,Ne.symm a4,Ne.symm b1,Ne.symm b2,Ne.symm b3,Ne.symm c1,Ne.symm c2,Ne.symm e1]
 closE:=fun dom Ls h hd=>by
  obtain⟨a,b,c,d,e,rfl⟩:=l5 h
  have h1:=hd a (by simp)
  have h2:=hd e (by simp)
  simp[jo,List.range,List.range.loop,ey,D.closL,D.clos,eAny,h1,h2,kR]
 closF:=fun dom Ls s h hd o ho=>by
  obtain⟨a,b,c,d,e,rfl⟩:=l5 h
  have h1:=hd b (by simp)
  have h2:=hd c (by simp)
  have h3:=hd d (by simp)
  simp only[jo,List.mem_cons,List.not_mem_nil,or_false]at ho
  rcases ho with rfl | rfl | rfl | rfl | rfl<;>simp[O.clos,D.closL,D.clos,bG,h1,h2,h3]
 psz:=fun Ls h=>by rfl
 args:=fun s=>by rfl
 fuel:=(show (100:Nat)<=2000 by decide)
 vnam:=fun _=>rfl
 vcl:=fun _ _=>rfl
 vren:=fun _ _=>rfl
 inj:=Je (hn.filter _)
def K23:List (Nat×Spec):=[(165,S165)]
theorem afr:KS K23:=tc Fy<|tn
attribute [go_sem] K23
theorem Xk(d:Ds)(i da:Int){os:List Rec}{s:Nat}(h:s<os.length):kD d i da (os.take (s+1))=if os[s].da>da then kE (kD d i da (os.take s)) i ⟨0,os[s].da⟩else kD d i da (os.take s):=by
 unfold kD
 rw[List.take_add_one,List.getElem?_eq_getElem h,List.foldl_append]
 rfl
set_option maxHeartbeats 4000000 in
theorem XV(l:Led)(k i j:Int)(n:Nat)(x:Vw)(r:Rec)(lv:List Int)(hn:x.rs.Nodup):aT Tryz.prog yid (jo l k i j n x r lv).y.toSpec:=by
 refine Lp.y_sound (Mb l k i j n x r lv hn) fun s hs _=>?_
 have hΓ:=afr
 have i7:s<(dU x.rs r.pa lv).length:=hs
 have GQ:(jo l k i j n x r lv).fam (LR 5) s=[.box [.ref [1,1] 0],bG x [2,1] [3,1],.map 2 (cm x.bk),.map 0 (bU (kD x.ds i r.da ((dU x.rs r.pa lv).take s))),.box [.ref [1,1] 0]]:=rfl
 have um:(jo l k i j n x r lv).fam (LR 5) (s+1)=[.box [.ref [1,1] 0],bG x [2,1] [3,1],.map 2 (cm x.bk),.map 0 (bU (kD x.ds i r.da ((dU x.rs r.pa lv).take (s+1)))),.box [.ref [1,1] 0]]:=rfl
 have dq:(jo l k i j n x r lv).st s=none:=rfl
 have hv:(jo l k i j n x r lv).vals s=[hU ((dU x.rs r.pa lv)[s])]:=by rw[<-cj (z:=zeroR) i7];rfl
 have hm:(jo l k i j n x r lv).m=5:=rfl
 rw[hm,GQ,um,dq,hv,Xk _ _ _ i7]
 generalize (dU x.rs r.pa lv)[s]=o
 generalize kD x.ds i r.da ((dU x.rs r.pa lv).take s)=d
 generalize jt:[O.box [.ref [1,1] 0],bG x [2,1] [3,1],.map 2 (cm x.bk),.map 0 (bU d),.box [.ref [1,1] 0]]=os
 have hO:∀ hs,cG [0] (cv [0] hs) (ba os)=True:=by
  subst jt
  refine fun hs=>eq_true (p7 ?_ hs)
  intro o ho dom hd
  simp only[List.mem_cons,List.not_mem_nil,or_false]at ho
  rcases ho with rfl | rfl | rfl | rfl | rfl<;>simp[O.clos,D.closL,D.clos,bG,hd]
 have ah:∀ hs es,cG [0] (cv [0] hs) (fun nm=>if nm=[3,1]then some (.map 0 es)else ba os nm)=True:=fun hs es=>eq_true (vd (nm:=[3,1]) (o:=.map 0 es) rfl (by rw[hO];trivial))
 have h0:ba os [0,1]=some (.box [.ref [1,1] 0]):=by subst jt;rfl
 have h1:ba os [1,1]=some (bG x [2,1] [3,1]):=by subst jt;rfl
 have h2:ba os [2,1]=some (.map 2 (cm x.bk)):=by subst jt;rfl
 have h3:ba os [3,1]=some (.map 0 (bU d)):=by subst jt;rfl
 have h4:ba os [4,1]=some (.box [.ref [1,1] 0]):=by subst jt;rfl
 generalize hH:ba os=H at *
 clear jt hH
 simp only[bG]at h1 |-
 have oF:ru Tryz.f76=(_,_,_):=rfl
 refine w5 (DC 181 [0] H [(5,⟨true,.ref [0,1] 0⟩),(17,⟨true,.v (.ptr [vInt i])⟩),(19,⟨true,.v (.ptr [vInt r.so,vInt r.bo,vInt r.pa,.sl (r.lv.map vInt),vInt r.da,vInt r.kn,vInt r.un])⟩),(167,⟨true,hU o⟩)] [] rfl rfl (fun _ _=>rfl) ?_ (by simp) ?_ ?_) ?_
 ·intro q hq
  simp only[List.mem_cons,List.not_mem_nil,or_false]at hq
  rcases hq with rfl | rfl | rfl | rfl<;>rfl
 ·simp[D.clos,D.closL,cv,own,hU]
 ·rw[hO];trivial
 simp only[jo,oF]
 refine kg ?_
 repeat refine sq ?_
 refine aW hΓ fun K' hK=>?_
 simp only[go_sem,hO,ah,h0,h1,h2,h3,h4]
 repeat (refine⟨au,?_⟩)
 refine hK _ ?_
 clear K' hK
 simp only[go_sem]
 (show CW _ _ _ _)
 refine kg ?_
 repeat refine sq ?_
 refine aR ?_
 repeat refine sq ?_
 refine rx hΓ [5,17,19,21,172] [[5,0],[17,0],[19,0],[21,0],[23,0],[24,0],[26,0],[49,0],[124,0]] (fun K' hK=>by simp only[go_sem,hO,ah,h0,h1,h2,h3,h4];(repeat (refine⟨au,?_⟩));exact hK _ (by simp only[go_sem,hO,ah,h0,h1,h2,h3,h4]) (by simp only[go_sem,hO,ah,h0,h1,h2,h3,h4]<;>rfl)) ?_
 repeat refine sq ?_
 refine aC (fun hb=>?_) fun hb=>?_
 ·repeat refine sq ?_
  refine aW hΓ fun K' hK=>?_
  simp only[go_sem,hO,ah,h0,h1,h2,h3,h4]
  repeat (refine⟨au,?_⟩)
  refine hK _ ?_
  clear K' hK
  simp only[go_sem]
  refine bW ?_
  have dg:o.da>r.da:=by simpa using hb
  rw[if_pos dg]
  refine⟨rfl,?_⟩
  show di _ [[0,1],[1,1],[2,1],[3,1],[4,1]] _
  simp only[di,go_sem,h0,h1,h2,h3,h4,HN]
  simp[EX,kE]
 ·repeat refine sq ?_
  refine aF ?_
  refine bW ?_
  simp only[go_sem]
  have dg:¬ o.da>r.da:=by simpa using hb
  rw[if_neg dg]
  refine⟨rfl,?_⟩
  show di _ [[0,1],[1,1],[2,1],[3,1],[4,1]] _
  simp only[di,go_sem,h0,h1,h2,h3,h4,HN]
end
end Go.Eng
