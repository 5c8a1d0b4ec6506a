import Derived.Test.YtepaolcgegdpoaaGreatK7
/- Texts LW29 to LM4. -/
set_option linter.all false
namespace Go.Eng
open Go Go.Proofs
set_option maxRecDepth 10000
noncomputable section
theorem Lg{α:Type}{p:α->Bool}{l:List α}{i:Nat}(h:i<l.length):((l.take (i+1)).filter p)=(l.take i).filter p++(if p l[i]=true then[l[i]]else[]):=xf h
def uo:FuncId->Option Spec:=fun f=>if f=77 then some S77m else if f=160 then some S160m else if f=162 then some S162 else if f=164 then some S164 else none
theorem aaU:∀ f s,uo f=some s->aF Tryz.prog f s:=fun f s h=>by
 unfold uo at h
 split at h
 ·rename_i e;cases h;subst e;exact UP
 ·split at h
  ·rename_i e;cases h;subst e;exact U2
  ·split at h
   ·rename_i e;cases h;subst e;exact Ju
   ·split at h
    ·rename_i e;cases h;subst e;exact Cb
    ·cases h
@[go_sem] theorem aeP:uo 77=some S77m:=rfl
@[go_sem] theorem aeS:uo 160=some S160m:=rfl
@[go_sem] theorem aeR:uo 162=some S162:=rfl
@[go_sem] theorem aeQ:uo 164=some S164:=rfl
def l6(l:Led)(k:Int)(s:Nat):List Rec:=(l.rs.take s).filter fun r=>di r.kn r.un k
theorem Qp(l:Led)(k:Int):l6 l k l.rs.length=bM l k:=by unfold l6 bM;rw[List.take_length]
theorem Qm{l:Led}{k:Int}{i:Nat}(h:i<l.rs.length)(hc:di l.rs[i].kn l.rs[i].un k=true):l6 l k (i+1)=l6 l k i++[l.rs[i]]:=by
 unfold l6;rw[Lg h,if_pos hc]
theorem Qn{l:Led}{k:Int}{i:Nat}(h:i<l.rs.length)(hc:di l.rs[i].kn l.rs[i].un k=false):l6 l k (i+1)=l6 l k i:=by
 unfold l6;rw[Lg h,if_neg (by rw[hc];decide)];simp
theorem Qo(l:Led)(k:Int)(i:Nat):(l6 l k i).length<=l.rs.length:=Nat.le_trans (List.length_filter_le _ _) (by simp;omega)
attribute [go_sem] bW
def K29b:List (Nat×Spec):=[(77,S77),(164,S164),(165,S165)]
theorem aaT:KS K29b:=tc UQ<|tc Cb<|tc Ca<|tn
attribute [go_sem] K29b
theorem SP(l:Led)(k i j:Int)(n:Nat)(x:Vw)(r:Rec)(lv:List Int):Av (hJ l k i j n x r lv) (jD 4 r.pa lv) where
 ren:=fun f Ls h=>by obtain⟨a,b,c,d,e,rfl⟩:=kE h;rfl
 clo:=fun dom Ls h hd=>by
  obtain⟨a,b,c,d,e,rfl⟩:=kE h
  have h4:=hd e (by simp)
  simp[D.closL,D.clos,h4,jD]
 reach:=fun Ls s obj R q h bR hF h0=>by
  obtain⟨a,b,c,d,e,rfl⟩:=kE h
  obtain⟨h1,h2,h3,h4,h5,_⟩:=hF
  have en:b8 (((hJ l k i j n x r lv).env [a,b,c,d,e]).map (·.d))=[a,e]:=rfl
  have ec:b8 (jD 4 r.pa lv [a,b,c,d,e])=[e]:=rfl
  rw[ec]
  show cE obj (q+90+1+1+1+1+1+1+1+1+1+1+1) _ []=_
  simp only[List.nodup_cons,List.mem_cons,List.not_mem_nil,or_false,not_or,not_false_eq_true,List.nodup_nil,and_true]at bR
  obtain⟨⟨r1,r2,r3,r4,r5⟩,⟨a1,a2,a3,a4⟩,⟨b1,b2,b3⟩,⟨c1,c2⟩,e1⟩:=bR
  simp[cE,fx,h0,h1,h2,h3,h4,h5,Lp.rc,gZ,en,b8,iU,ba,Ne.symm r1,Ne.symm r2,Ne.symm r3,Ne.symm r4,Ne.symm r5,Ne.symm a1,Ne.symm a2,Ne.symm a3,Ne.symm a4,Ne.symm b1,Ne.symm b2,Ne.symm b3,Ne.symm c1,Ne.symm c2,Ne.symm e1]
theorem YV(b:Bk)(so i:Int){lv:List Int}{s:Nat}(h:s<lv.length):oW b so i (lv.take (s+1))=qg (oW b so i (lv.take s)) (so,lv[s]) i:=by
 unfold oW
 rw[List.take_add_one,List.getElem?_eq_getElem h,List.foldl_append]
 rfl
def Ao:NSpec:=n2 jT iI (fun l _=>bS l) (fun l k=>[([26,0],ba (aE l k) [23,0] [24,0]),([23,0],.map 2 (bD (aE l k).bk)),([24,0],.map 0 (bw (aE l k).ds))]) (fun _ _=>.ref [26,0] 0)
def S76:Spec:=Ao.toSpec
attribute [go_sem] Ao S76
set_option maxHeartbeats 16000000 in
theorem UR:aF Tryz.prog 76 S76:=by
 refine xQ (nt:=181) (rs:=[.tmp 4]) Tryz.func76 rfl (by rfl) (by kernel_rfl) (by kernel_rfl) (by decide) ?_
 intro xs hp
 obtain⟨l,k,rfl,hp,dT,dz⟩:=BC hp
 replace dT:Ao.new _=_:=dT
 replace dz:Ao.d _=_:=dz
 rw[dT,dz]
 clear dT dz
 refine⟨lb rfl,?_⟩
 have hP:=eE
 simp only[iI,iB,dZ,iP,iR,iT,iS,iL,jT,cW,iC,iF,db,encR,encT,encS,fD,ey,List.map_cons,List.map_nil,cZ,Nat.zero_add]
 have hΓ:=aaU
 have kL:l.rs.length<=maxLen:=by have:=hp.rsn;unfold maxLen;omega
 have gg:l.ts.length<=maxLen:=by have:=hp.tsn;unfold maxLen;omega
 repeat refine sq ?_
 refine rx hΓ [0,1] [] (fun K' hK=>by simp only[go_sem];exact an) ?_
 repeat refine sq ?_
 refine rx hΓ [0,1,5] [[5,0],[23,0],[24,0],[26,0],[49,0],[124,0]] (fun K' hK=>by simp only[go_sem];exact an) ?_
 refine bG (jH [26,0] [49,0] 1 7 _ rfl rfl rfl [0,1,5] [[5,0],[23,0],[24,0],[26,0],[49,0],[124,0]] ?_ rfl) ?_
 ·simp only[go_sem,List.set_cons_succ,List.set_cons_zero]
 simp only[go_sem,List.set_cons_succ,List.set_cons_zero]
 refine bG (jH [26,0] [124,0] 2 1 _ rfl rfl rfl [0,1,5] [[5,0],[23,0],[24,0],[26,0],[49,0],[124,0]] ?_ rfl) ?_
 ·simp only[go_sem,List.set_cons_succ,List.set_cons_zero]
 simp only[go_sem,List.set_cons_succ,List.set_cons_zero]
 repeat refine sq ?_
 refine rx hΓ [0,1,5,30,31,32] [[5,0],[23,0],[24,0],[26,0],[49,0],[124,0]] (fun K' hK=>by simp only[go_sem];exact an) ?_
 repeat refine sq ?_
 refine aI ?_
 repeat refine sq ?_
 refine bT (fun s:Nat=>[(32,⟨true,.v (vInt s)⟩)]) (fun s=>[([26,0],.box [.v (ey l),.msl [49,0] (l6 l k s).length,.msl [124,0] 0,.map [23,0],.map [24,0]]),([49,0],.arr 7 ((l6 l k s).map encR))]) (fun s=>s<=l.rs.length) (fun s=>l.rs.length-s) 0 ?_ ?_ ?_ ?_
 ·exact Nat.zero_le _
 ·rfl
 ·rfl
 rintro i hi
 simp only[go_sem]
 repeat refine sq ?_
 refine rx hΓ [0,1,5,30,31,32,33] [[5,0],[23,0],[24,0],[26,0],[49,0],[124,0]] (fun K' hK=>by simp only[go_sem];exact an) ?_
 repeat refine sq ?_
 refine ax (fun hb=>?_) fun hb=>?_
 ·have ab:i<l.rs.length:=by simpa using hb
  have ao:(i:Int)<l.rs.length:=by omega
  clear hb
  have pK:=Qo l k i
  have iZ:=hp.rsn
  repeat refine sq ?_
  refine aC ?_
  repeat refine sq ?_
  refine aI ?_
  repeat refine sq ?_
  refine rx hΓ [0,1,5,7,30,31,32] [[5,0],[7,0],[23,0],[24,0],[26,0],[49,0],[124,0]] (fun K' hK=>by simp only[go_sem,ah ab,ai,aj,ao];exact an) ?_
  repeat refine sq ?_
  refine rx hΓ [0,1,5,7,30,31,32,41] [[5,0],[7,0],[23,0],[24,0],[26,0],[49,0],[124,0]] (fun K' hK=>by simp only[go_sem,ah ab,ai,aj,ao];exact an) ?_
  repeat refine sq ?_
  refine ax (fun hb=>?_) fun hb=>?_
  ·repeat refine sq ?_
   have hT:=Qm ab hb
   repeat refine sq ?_
   refine mO hΓ hP [[],[],[1],[1,2],[1,2,3],[],[5],[1,2,3,4,5,6],u8,u9,dq] (by kernel_rfl) fun K' hK=>?_
   simp only[go_sem,ah ab,ai,aj,ao]
   repeat (refine⟨ak,?_⟩)
   first | refine⟨by rfl,?_⟩ | skip
   refine hK _ ?_
   clear K' hK
   simp only[go_sem]
   refine kp [0,1,5,30,31,32] [[5,0],[23,0],[24,0],[26,0],[49,0],[124,0]] ?_
   repeat refine sq ?_
   refine aS hΓ fun K' hK=>?_
   simp only[go_sem,ah ab,ai,aj,ao]
   repeat (refine⟨ak,?_⟩)
   refine hK _ ?_
   clear K' hK
   simp only[go_sem]
   refine⟨i+1,ab,by(show l.rs.length-(i+1)<l.rs.length-i;omega),?_⟩
   refine bd [0,1,5,30,31,32] [[5,0],[23,0],[24,0],[26,0],[49,0],[124,0]] ?_ ?_<;>simp only[go_sem,aV ab kL,aY,hT,List.map_append,List.map_cons,List.map_nil,List.length_append,List.length_cons,List.length_nil]
  ·repeat refine sq ?_
   have hT:=Qn ab hb
   refine aC ?_
   refine bA ?_
   simp only[go_sem]
   refine kp [0,1,5,30,31,32] [[5,0],[23,0],[24,0],[26,0],[49,0],[124,0]] ?_
   repeat refine sq ?_
   refine aS hΓ fun K' hK=>?_
   simp only[go_sem,ah ab,ai,aj,ao]
   repeat (refine⟨ak,?_⟩)
   refine hK _ ?_
   clear K' hK
   simp only[go_sem]
   refine⟨i+1,ab,by(show l.rs.length-(i+1)<l.rs.length-i;omega),?_⟩
   refine bd [0,1,5,30,31,32] [[5,0],[23,0],[24,0],[26,0],[49,0],[124,0]] ?_ ?_<;>simp only[go_sem,aV ab kL,aY,hT,List.map_append,List.map_cons,List.map_nil,List.length_append,List.length_cons,List.length_nil]
 ·have bj:i=l.rs.length:=by
   have :¬ (i:Int)<l.rs.length:=by simpa using hb
   omega
  clear hb
  subst bj
  repeat refine sq ?_
  refine bC ?_
  simp only[go_sem]
  refine kp [0,1,5] [[5,0],[23,0],[24,0],[26,0],[49,0],[124,0]] ?_
  simp only[Qp]
  repeat refine sq ?_
  refine rx hΓ [0,1,5,56,57,58] [[5,0],[23,0],[24,0],[26,0],[49,0],[124,0]] (fun K' hK=>by simp only[go_sem];exact an) ?_
  refine bG (uw [26,0] [49,0] 1 _ _ _ _ rfl rfl rfl (by first | rfl | (simp only[List.length_map];done)) [0,1,5,56,57,58] [[5,0],[23,0],[24,0],[26,0],[49,0],[124,0]] ?_ rfl) ?_
  ·simp only[go_sem,List.set_cons_succ,List.set_cons_zero]
  simp only[go_sem,List.set_cons_succ,List.set_cons_zero]
  repeat refine sq ?_
  refine aI ?_
  repeat refine sq ?_
  refine bT (fun s:Nat=>[(58,⟨true,.v (vInt s)⟩)]) (fun s=>[([26,0],.box [.v (ey l),.v (.sl ((bM l k).map encR)),.msl [124,0] (ay l k s).ts.length,.map [23,0],.map [24,0]]),([124,0],.arr 1 ((ay l k s).ts.map vInt)),([23,0],.map 2 (bD (ay l k s).bk)),([24,0],.map 0 (bw (ay l k s).ds))]) (fun s=>s<=l.ts.length) (fun s=>l.ts.length-s) 0 ?_ ?_ ?_ ?_
  ·exact Nat.zero_le _
  ·rfl
  ·rfl
  rintro i1 hi
  simp only[go_sem]
  repeat refine sq ?_
  refine rx hΓ [0,1,5,56,57,58,59] [[5,0],[23,0],[24,0],[26,0],[49,0],[124,0]] (fun K' hK=>by simp only[go_sem];exact an) ?_
  repeat refine sq ?_
  refine ax (fun hb=>?_) fun hb=>?_
  ·have aJ:i1<l.ts.length:=by simpa using hb
   have bq:(i1:Int)<l.ts.length:=by omega
   clear hb
   have hx:aN l i1=l.ts[i1]:=lf aJ
   obtain⟨e1,e2⟩:=qJ l k i1
   have hk:=ye l k i1 (Nat.le_of_lt aJ)
   have tu:=hp.rets aJ
   rw[hx]at tu
   have ri:=(Qw tu).2
   have yQ:l.ts[i1].lv.length<=maxLen:=by unfold maxLen;omega
   have yv:=hk.tn
   have aes:=hp.tsn
   have vz:∀ (obj:Name->Option O) (t:Name),obj [26,0]=some (.box [.v (ey l),.v (.sl ((bM l k).map encR)),.msl [124,0] (ay l k i1).ts.length,.map [23,0],.map [24,0]])->obj [124,0]=some (.arr 1 ((ay l k i1).ts.map vInt))->obj [23,0]=some (.map 2 (bD (ay l k i1).bk))->obj [24,0]=some (.map 0 (bw (ay l k i1).ds))->
       S77m.app obj t [.ref [26,0] 0,.v (vInt l.ts[i1].re)]=⟨True,.tup [l9 (dP (bM l k) l.ts[i1].re),.v (.bool (dP (bM l k) l.ts[i1].re).isSome)],obj⟩:=fun obj t h1 h2 h3 h4=>by
    have :=Ro.c_app Be (a:=(ay l k i1,l.ts[i1].re)) trivial (t:=t) (obj:=obj) (Ls:=[[26,0],[124,0],[23,0],[24,0]]) rfl (by decide) (by show bW obj _ (pY (ay l k i1) _);simp only[pY,j',e1,e2];exact⟨h1,h2,h3,h4,trivial⟩)
    refine this.trans ?_
    show (⟨True,.tup [l9 (dP (ay l k i1).rs l.ts[i1].re),.v (.bool (dP (ay l k i1).rs l.ts[i1].re).isSome)],obj⟩:R)=_
    rw[e2]
   have WO:∀ (r:Rec) (obj:Name->Option O) (t:Name),obj [5,0]=some (.box [.ref [26,0] 0])->obj [26,0]=some (.box [.v (ey l),.v (.sl ((bM l k).map encR)),.msl [124,0] (ay l k i1).ts.length,.map [23,0],.map [24,0]])->obj [124,0]=some (.arr 1 ((ay l k i1).ts.map vInt))->obj [23,0]=some (.map 2 (bD (ay l k i1).bk))->obj [24,0]=some (.map 0 (bw (ay l k i1).ds))->
       S160m.app obj t [.v (.sl (l.ts[i1].lv.map vInt)),.clo (.func 163) [] [.ref [5,0] 0,.v (.ptr [vInt r.so,vInt r.bo,vInt r.pa,.sl (r.lv.map vInt),vInt r.da,vInt r.kn,vInt r.un])]]=⟨True,.v (.bool (l.ts[i1].lv.any (gX (ay l k i1).bk r))),obj⟩:=fun r obj t h0 h1 h2 h3 h4=>by
    have :=Ro.c_app (ua lL) (a:=(ay l k i1,r,l.ts[i1].lv)) yQ (t:=t) (obj:=obj) (Ls:=[[5,0],[26,0],[124,0],[23,0],[24,0]]) rfl (by decide) (by
     show bW obj _ (.box [.ref [26,0] 0]::pY (ay l k i1) [[26,0],[124,0],[23,0],[24,0]])
     simp only[pY,j',e1,e2];exact⟨h0,h1,h2,h3,h4,trivial⟩)
    exact this
   repeat refine sq ?_
   refine aC ?_
   repeat refine sq ?_
   refine aI ?_
   repeat refine sq ?_
   refine rx hΓ [0,1,5,8,9,56,57,58] [[5,0],[9,0],[23,0],[24,0],[26,0],[49,0],[124,0]] (fun K' hK=>by simp only[go_sem,ah aJ,ai,aj,bq];exact an) ?_
   rcases ee:dP (bM l k) l.ts[i1].re with _ | r
   ·have pN:ay l k (i1+1)=ay l k i1:=pB (Rr (by rw[hx];exact ee))
    repeat refine sq ?_
    refine rx hΓ [0,1,5,8,9,10,11,56,57,58] [[5,0],[9,0],[10,0],[23,0],[24,0],[26,0],[49,0],[124,0]] (fun K' hK=>by simp only[go_sem,ah aJ,ai,aj,bq,ee,bt,Option.isSome_none];rw[vz _ _ rfl rfl rfl rfl];simp only[go_sem,ah aJ,ai,aj,bq,ee,bt,Option.isSome_none];exact an) ?_
    refine bG (c0 10 (.ref [10,0] 0) (by simp only[go_sem]) (by simp only[go_sem]) [0,1,5,8,9,10,11,56,57,58] [[5,0],[9,0],[10,0],[23,0],[24,0],[26,0],[49,0],[124,0]] ?_ rfl) ?_
    ·simp only[go_sem]
    simp only[go_sem]
    repeat refine sq ?_
    refine rx hΓ [0,1,5,8,9,10,56,57,58,80] [[5,0],[9,0],[10,0],[23,0],[24,0],[26,0],[49,0],[124,0]] (fun K' hK=>by simp only[go_sem,ah aJ,ai,aj,bq,ee,bt,Option.isSome_none];exact an) ?_
    repeat refine sq ?_
    refine ax (fun hb=>?_) fun hb=>?_
    ·repeat refine sq ?_
     refine bC ?_
     simp only[go_sem]
     refine kp [0,1,5,56,57,58] [[5,0],[23,0],[24,0],[26,0],[49,0],[124,0]] ?_
     repeat refine sq ?_
     refine aS hΓ fun K' hK=>?_
     simp only[go_sem,ah aJ,ai,aj,bq,ee,bt,Option.isSome_none]
     repeat (refine⟨ak,?_⟩)
     refine hK _ ?_
     clear K' hK
     simp only[go_sem]
     refine⟨i1+1,aJ,by(show l.ts.length-(i1+1)<l.ts.length-i1;omega),?_⟩
     refine bd [0,1,5,56,57,58] [[5,0],[23,0],[24,0],[26,0],[49,0],[124,0]] ?_ ?_<;>simp only[go_sem,aV aJ gg,aY,pN]
    ·cases hb
   ·obtain⟨JS,ck⟩:=Gx ee
    have vA:=A' hp k r JS
    have gv:=wY (Gq vA)
    repeat refine sq ?_
    refine rx hΓ [0,1,5,8,9,10,11,56,57,58] [[5,0],[9,0],[10,0],[23,0],[24,0],[26,0],[49,0],[124,0]] (fun K' hK=>by simp only[go_sem,ah aJ,ai,aj,bq,ee,aH,Option.isSome_some];rw[vz _ _ rfl rfl rfl rfl];simp only[go_sem,ah aJ,ai,aj,bq,ee,aH,Option.isSome_some];exact an) ?_
    refine bG (c0 10 (.ref [10,0] 0) (by simp only[go_sem]) (by simp only[go_sem]) [0,1,5,8,9,10,11,56,57,58] [[5,0],[9,0],[10,0],[23,0],[24,0],[26,0],[49,0],[124,0]] ?_ rfl) ?_
    ·simp only[go_sem]
    simp only[go_sem]
    repeat refine sq ?_
    refine rx hΓ [0,1,5,8,9,10,56,57,58,80] [[5,0],[9,0],[10,0],[23,0],[24,0],[26,0],[49,0],[124,0]] (fun K' hK=>by simp only[go_sem,ah aJ,ai,aj,bq,ee,aH,Option.isSome_some];exact an) ?_
    repeat refine sq ?_
    refine ax (fun hb=>?_) fun hb=>?_
    ·repeat refine sq ?_
     have pN:ay l k (i1+1)=ay l k i1:=pB (Rq (by rw[hx];exact ee) (by rw[hx];simpa using hb))
     refine bC ?_
     simp only[go_sem]
     refine kp [0,1,5,56,57,58] [[5,0],[23,0],[24,0],[26,0],[49,0],[124,0]] ?_
     repeat refine sq ?_
     refine aS hΓ fun K' hK=>?_
     simp only[go_sem,ah aJ,ai,aj,bq,ee,aH,Option.isSome_some]
     repeat (refine⟨ak,?_⟩)
     refine hK _ ?_
     clear K' hK
     simp only[go_sem]
     refine⟨i1+1,aJ,by(show l.ts.length-(i1+1)<l.ts.length-i1;omega),?_⟩
     refine bd [0,1,5,56,57,58] [[5,0],[23,0],[24,0],[26,0],[49,0],[124,0]] ?_ ?_<;>simp only[go_sem,aV aJ gg,aY,pN]
    ·repeat refine sq ?_
     have oH:di l.ts[i1].kn l.ts[i1].un k=true:=by simpa using hb
     refine aC ?_
     repeat refine sq ?_
     refine rx hΓ [0,1,5,8,9,10,12,56,57,58] [[5,0],[9,0],[10,0],[23,0],[24,0],[26,0],[49,0],[124,0]] (fun K' hK=>by simp only[go_sem,ah aJ,ai,aj,bq,ee,aH,Option.isSome_some,gv];exact an) ?_
     obtain⟨fs,nw⟩:∃ fs,dJ l.ts[i1].lo (r.da+1)=fs:=⟨_,rfl⟩
     have Km:=nw
     unfold dJ at Km
     rw[Km]
     repeat refine sq ?_
     refine rx hΓ [0,1,5,8,9,10,12,13,56,57,58] [[5,0],[9,0],[10,0],[23,0],[24,0],[26,0],[49,0],[124,0]] (fun K' hK=>by simp only[go_sem,ah aJ,ai,aj,bq,ee,aH,Option.isSome_some];exact an) ?_
     repeat refine sq ?_
     refine rx hΓ [0,1,5,8,9,10,12,56,57,58,99] [[5,0],[9,0],[10,0],[23,0],[24,0],[26,0],[49,0],[124,0]] (fun K' hK=>by simp only[go_sem,ah aJ,ai,aj,bq,ee,aH,Option.isSome_some];rw[WO r _ _ rfl rfl rfl rfl rfl];simp only[go_sem,ah aJ,ai,aj,bq,ee,aH,Option.isSome_some];exact an) ?_
     repeat refine sq ?_
     refine ax (fun hb=>?_) fun hb=>?_
     ·repeat refine sq ?_
      have pN:ay l k (i1+1)=ay l k i1:=pB (Rp (by rw[hx];exact ee) (by rw[hx,nw];exact hb))
      refine bC ?_
      simp only[go_sem]
      refine kp [0,1,5,56,57,58] [[5,0],[23,0],[24,0],[26,0],[49,0],[124,0]] ?_
      repeat refine sq ?_
      refine aS hΓ fun K' hK=>?_
      simp only[go_sem,ah aJ,ai,aj,bq,ee,aH,Option.isSome_some]
      repeat (refine⟨ak,?_⟩)
      refine hK _ ?_
      clear K' hK
      simp only[go_sem]
      refine⟨i1+1,aJ,by(show l.ts.length-(i1+1)<l.ts.length-i1;omega),?_⟩
      refine bd [0,1,5,56,57,58] [[5,0],[23,0],[24,0],[26,0],[49,0],[124,0]] ?_ ?_<;>simp only[go_sem,aV aJ gg,aY,pN]
     ·repeat refine sq ?_
      have pN:=u3 (Rm (k:=k) (rs:=bM l k) (bk:=(ay l k i1).bk) (x:=aN l i1) (r:=r) (by rw[hx];exact ee) (by rw[hx];exact oH) (by rw[hx,nw];exact hb))
      rw[hx,nw]at pN
      refine aC ?_
      repeat refine sq ?_
      refine rx hΓ [0,1,5,8,9,10,12,56,57,58,101,102,103] [[5,0],[9,0],[10,0],[23,0],[24,0],[26,0],[49,0],[124,0]] (fun K' hK=>by simp only[go_sem,ah aJ,ai,aj,bq,ee,aH,Option.isSome_some];exact an) ?_
      repeat refine sq ?_
      refine aI ?_
      repeat refine sq ?_
      refine bT (fun s:Nat=>[(103,⟨true,.v (vInt s)⟩)]) (fun s=>[([23,0],.map 2 (bD (oW (ay l k i1).bk r.so i1 (l.ts[i1].lv.take s))))]) (fun s=>s<=l.ts[i1].lv.length) (fun s=>l.ts[i1].lv.length-s) 0 ?_ ?_ ?_ ?_
      ·exact Nat.zero_le _
      ·rfl
      ·rfl
      rintro i2 hi
      simp only[go_sem]
      repeat refine sq ?_
      refine rx hΓ [0,1,5,8,9,10,12,56,57,58,101,102,103,104] [[5,0],[9,0],[10,0],[23,0],[24,0],[26,0],[49,0],[124,0]] (fun K' hK=>by simp only[go_sem,ah aJ,ai,aj,bq,ee,aH,Option.isSome_some];exact an) ?_
      repeat refine sq ?_
      refine ax (fun hb=>?_) fun hb=>?_
      ·have ct:i2<l.ts[i1].lv.length:=by simpa using hb
       have gP:(i2:Int)<l.ts[i1].lv.length:=by omega
       clear hb
       have Xr:=YV (ay l k i1).bk r.so i1 ct
       repeat refine sq ?_
       refine aC ?_
       repeat refine sq ?_
       refine aI ?_
       repeat refine sq ?_
       refine rx hΓ [0,1,5,8,9,10,12,15,56,57,58,101,102,103] [[5,0],[9,0],[10,0],[23,0],[24,0],[26,0],[49,0],[124,0]] (fun K' hK=>by simp only[go_sem,ah aJ,ai,aj,bq,ee,aH,Option.isSome_some,ah ct,ai,aj,gP];exact an) ?_
       repeat refine sq ?_
       refine mO hΓ hP [[],[0],[0,1],[0,1,2],[],[4],[],[4,5,6],[],u9] (by kernel_rfl) fun K' hK=>?_
       simp only[go_sem,ah aJ,ai,aj,bq,ee,aH,Option.isSome_some,ah ct,ai,aj,gP,Sn]
       repeat (refine⟨ak,?_⟩)
       first | refine⟨by rfl,?_⟩ | skip
       refine hK _ ?_
       clear K' hK
       simp only[go_sem]
       refine kp [0,1,5,8,9,10,12,56,57,58,101,102,103] [[5,0],[9,0],[10,0],[23,0],[24,0],[26,0],[49,0],[124,0]] ?_
       repeat refine sq ?_
       refine aS hΓ fun K' hK=>?_
       simp only[go_sem,ah aJ,ai,aj,bq,ee,aH,Option.isSome_some,ah ct,ai,aj,gP]
       repeat (refine⟨ak,?_⟩)
       refine hK _ ?_
       clear K' hK
       simp only[go_sem]
       refine⟨i2+1,ct,by(show l.ts[i1].lv.length-(i2+1)<l.ts[i1].lv.length-i2;omega),?_⟩
       refine bd [0,1,5,8,9,10,12,56,57,58,101,102,103] [[5,0],[9,0],[10,0],[23,0],[24,0],[26,0],[49,0],[124,0]] ?_ ?_<;>simp only[go_sem,aV ct yQ,aY,Xr]
      ·have mA:i2=l.ts[i1].lv.length:=by
        have :¬ (i2:Int)<l.ts[i1].lv.length:=by simpa using hb
        omega
       clear hb
       subst mA
       repeat refine sq ?_
       refine bC ?_
       simp only[go_sem]
       refine kp [0,1,5,8,9,12,56,57,58] [[5,0],[9,0],[23,0],[24,0],[26,0],[49,0],[124,0]] ?_
       repeat refine sq ?_
       refine dx hΓ hP [[],[],[1],[1,2],[1,2,3],[],[5],[1,2,3,4,5,6],u8,u9,dq] [0,1,5,8,9,12,56,57,58] [[5,0],[9,0],[23,0],[24,0],[26,0],[49,0],[124,0]] (by kernel_rfl) (fun K' hK=>by simp only[go_sem,ah aJ,ai,aj,bq,ee,aH,Option.isSome_some];exact oT) ?_
       repeat refine sq ?_
       refine mO hΓ hP [[],[0],[0,1],[0,1,2],[],[],[],[6],[6,7],[5,6,7,8],dq] (by kernel_rfl) fun K' hK=>?_
       simp only[go_sem,ah aJ,ai,aj,bq,ee,aH,Option.isSome_some,Hh]
       repeat (refine⟨ak,?_⟩)
       first | refine⟨by rfl,?_⟩ | skip
       refine hK _ ?_
       clear K' hK
       simp only[go_sem]
       refine kp [0,1,5,56,57,58] [[5,0],[23,0],[24,0],[26,0],[49,0],[124,0]] ?_
       repeat refine sq ?_
       refine aS hΓ fun K' hK=>?_
       simp only[go_sem,ah aJ,ai,aj,bq,ee,aH,Option.isSome_some]
       repeat (refine⟨ak,?_⟩)
       refine hK _ ?_
       clear K' hK
       simp only[go_sem]
       refine⟨i1+1,aJ,by(show l.ts.length-(i1+1)<l.ts.length-i1;omega),?_⟩
       refine bd [0,1,5,56,57,58] [[5,0],[23,0],[24,0],[26,0],[49,0],[124,0]] ?_ ?_<;>simp only[go_sem,aV aJ gg,aY,pN,List.take_length,List.map_append,List.map_cons,List.map_nil,List.length_append,List.length_cons,List.length_nil]
  ·have gz:i1=l.ts.length:=by
    have :¬ (i1:Int)<l.ts.length:=by simpa using hb
    omega
   clear hb
   subst gz
   repeat refine sq ?_
   refine bC ?_
   simp only[go_sem]
   refine kp [0,5] [[5,0],[23,0],[24,0],[26,0],[49,0],[124,0]] ?_
   have hk:=ye l k l.ts.length (Nat.le_refl _)
   obtain⟨e1,e2⟩:=qJ l k l.ts.length
   have hΓ:=aaT
   have VG:(ay l k l.ts.length).ts.length<=maxLen:=Nat.le_trans hk.tn gg
   refine bG (uw [26,0] [124,0] 2 _ _ _ _ rfl rfl rfl (by first | rfl | (simp only[List.length_map];done)) [0,5] [[5,0],[23,0],[24,0],[26,0],[49,0],[124,0]] ?_ rfl) ?_
   ·simp only[go_sem,List.set_cons_succ,List.set_cons_zero]
   simp only[go_sem,List.set_cons_succ,List.set_cons_zero]
   repeat refine sq ?_
   refine rx hΓ [0,5,141,142,143] [[5,0],[23,0],[24,0],[26,0],[49,0],[124,0]] (fun K' hK=>by simp only[go_sem];exact an) ?_
   repeat refine sq ?_
   refine aI ?_
   repeat refine sq ?_
   refine bT (fun s:Nat=>[(143,⟨true,.v (vInt s)⟩)]) (fun s=>[([24,0],.map 0 (bw (gN l (bM l k) (ay l k l.ts.length).ts (ay l k l.ts.length).ds s)))]) (fun s=>s<=(ay l k l.ts.length).ts.length) (fun s=>(ay l k l.ts.length).ts.length-s) 0 ?_ ?_ ?_ ?_
   ·exact Nat.zero_le _
   ·rfl
   ·rfl
   rintro i3 hi
   simp only[go_sem]
   repeat refine sq ?_
   refine rx hΓ [0,5,141,142,143,144] [[5,0],[23,0],[24,0],[26,0],[49,0],[124,0]] (fun K' hK=>by simp only[go_sem];exact an) ?_
   repeat refine sq ?_
   refine ax (fun hb=>?_) fun hb=>?_
   ·have nu:i3<(ay l k l.ts.length).ts.length:=by simpa using hb
    have yP:(i3:Int)<(ay l k l.ts.length).ts.length:=by omega
    clear hb
    obtain⟨⟨cY,jW⟩,r,mn⟩:=hk.ts (ay l k l.ts.length).ts[i3] (List.getElem_mem nu)
    have lz:=Fj cY jW
    have hD:gN l (bM l k) (ay l k l.ts.length).ts (ay l k l.ts.length).ds (i3+1)=kC (gN l (bM l k) (ay l k l.ts.length).ts (ay l k l.ts.length).ds i3) (ay l k l.ts.length).ts[i3] r.da (eB (bM l k) r.pa (aN l (ay l k l.ts.length).ts[i3].toNat).lv):=by
     show kC _ ((ay l k l.ts.length).ts.getD i3 0) (m7 (bM l k) (aN l ((ay l k l.ts.length).ts.getD i3 0).toNat).re).da (eB _ (m7 (bM l k) (aN l ((ay l k l.ts.length).ts.getD i3 0).toNat).re).pa _)=_
     rw[dM nu];unfold m7;rw[mn];rfl
    repeat refine sq ?_
    refine aC ?_
    repeat refine sq ?_
    refine aI ?_
    repeat refine sq ?_
    refine rx hΓ [0,5,17,141,142,143] [[5,0],[17,0],[23,0],[24,0],[26,0],[49,0],[124,0]] (fun K' hK=>by simp only[go_sem,ah nu,ai,aj,yP];exact an) ?_
    refine bG (c0 17 (.ref [17,0] 0) (by simp only[go_sem]) (by simp only[go_sem]) [0,5,17,141,142,143] [[5,0],[17,0],[23,0],[24,0],[26,0],[49,0],[124,0]] ?_ rfl) ?_
    ·simp only[go_sem]
    simp only[go_sem]
    repeat refine sq ?_
    refine dx hΓ hP [[],[0],[0,1],[0,1,2],[],u5,u6,[],u8] [0,5,17,18,141,142,143] [[5,0],[17,0],[18,0],[23,0],[24,0],[26,0],[49,0],[124,0]] (by kernel_rfl) (fun K' hK=>by simp only[go_sem,ah nu,ai,aj,yP,lz,cY,jW];exact oT) ?_
    refine bG (c0 18 (.ref [18,0] 0) (by simp only[go_sem]) (by simp only[go_sem]) [0,5,17,18,141,142,143] [[5,0],[17,0],[18,0],[23,0],[24,0],[26,0],[49,0],[124,0]] ?_ rfl) ?_
    ·simp only[go_sem]
    simp only[go_sem]
    repeat refine sq ?_
    refine rx hΓ [0,5,17,18,19,141,142,143] [[5,0],[17,0],[18,0],[19,0],[23,0],[24,0],[26,0],[49,0],[124,0]] (fun K' hK=>by simp only[go_sem,ah nu,ai,aj,yP,mn,aH,Option.isSome_some];exact an) ?_
    refine bG (c0 19 (.ref [19,0] 0) (by simp only[go_sem]) (by simp only[go_sem]) [0,5,17,18,19,141,142,143] [[5,0],[17,0],[18,0],[19,0],[23,0],[24,0],[26,0],[49,0],[124,0]] ?_ rfl) ?_
    ·simp only[go_sem]
    simp only[go_sem]
    repeat refine sq ?_
    refine rx hΓ [0,5,17,19,141,142,143,166] [[5,0],[17,0],[19,0],[23,0],[24,0],[26,0],[49,0],[124,0],[3,0,166,0]] (fun K' hK=>by simp only[go_sem,ah nu,ai,aj,yP];exact an) ?_
    repeat refine sq ?_
    refine aI ?_
    repeat refine sq ?_
    have bR:=Gl hp k
    have aa:=Hy l k (ay l k l.ts.length).ts[i3] (i3:Nat) (ay l k l.ts.length).ts.length ⟨l,bM l k,(ay l k l.ts.length).ts,(ay l k l.ts.length).bk,gN l (bM l k) (ay l k l.ts.length).ts (ay l k l.ts.length).ds i3⟩ r (aN l (ay l k l.ts.length).ts[i3].toNat).lv bR
    have ev:aF Tryz.prog 193 ((hJ l k (ay l k l.ts.length).ts[i3] (i3:Nat) (ay l k l.ts.length).ts.length ⟨l,bM l k,(ay l k l.ts.length).ts,(ay l k l.ts.length).bk,gN l (bM l k) (ay l k l.ts.length).ts (ay l k l.ts.length).ds i3⟩ r (aN l (ay l k l.ts.length).ts[i3].toNat).lv).itC (jD 4 r.pa (aN l (ay l k l.ts.length).ts[i3].toNat).lv)).toSpec:=F1 aa (fun _=>rfl) (SO l k (ay l k l.ts.length).ts[i3] (i3:Nat) (ay l k l.ts.length).ts.length ⟨l,bM l k,(ay l k l.ts.length).ts,(ay l k l.ts.length).bk,gN l (bM l k) (ay l k l.ts.length).ts (ay l k l.ts.length).ds i3⟩ r (aN l (ay l k l.ts.length).ts[i3].toNat).lv bR) (A' hp k) (Gm hp k) rfl (fun _=>rfl) (j:=4) (jc:=1) (show 4<5 by decide) rfl rfl
    refine Ma aa (SP l k (ay l k l.ts.length).ts[i3] (i3:Nat) (ay l k l.ts.length).ts.length ⟨l,bM l k,(ay l k l.ts.length).ts,(ay l k l.ts.length).bk,gN l (bM l k) (ay l k l.ts.length).ts (ay l k l.ts.length).ds i3⟩ r (aN l (ay l k l.ts.length).ts[i3].toNat).lv) (f:=193) 200 201 (Ls:=[[5,0],[26,0],[23,0],[24,0],[3,0,166,0]]) rfl rfl (by decide) ev rfl rfl rfl rfl rfl rfl (by decide) (show ([200,0]:Name)∉[[5,0],[26,0],[23,0],[24,0],[3,0,166,0]]by decide) ⟨rfl,rfl,rfl,rfl,rfl,trivial⟩ fun o=>?_
    obtain⟨g1,g2⟩:=Lp.go_e (r:=(hJ l k (ay l k l.ts.length).ts[i3] (i3:Nat) (ay l k l.ts.length).ts.length ⟨l,bM l k,(ay l k l.ts.length).ts,(ay l k l.ts.length).bk,gN l (bM l k) (ay l k l.ts.length).ts (ay l k l.ts.length).ds i3⟩ r (aN l (ay l k l.ts.length).ts[i3].toNat).lv)) (fun _=>rfl)
    have g3:(hJ l k (ay l k l.ts.length).ts[i3] (i3:Nat) (ay l k l.ts.length).ts.length ⟨l,bM l k,(ay l k l.ts.length).ts,(ay l k l.ts.length).bk,gN l (bM l k) (ay l k l.ts.length).ts (ay l k l.ts.length).ds i3⟩ r (aN l (ay l k l.ts.length).ts[i3].toNat).lv).fam [[5,0],[26,0],[23,0],[24,0],[3,0,166,0]] (hJ l k (ay l k l.ts.length).ts[i3] (i3:Nat) (ay l k l.ts.length).ts.length ⟨l,bM l k,(ay l k l.ts.length).ts,(ay l k l.ts.length).bk,gN l (bM l k) (ay l k l.ts.length).ts (ay l k l.ts.length).ds i3⟩ r (aN l (ay l k l.ts.length).ts[i3].toNat).lv).e=[.box [.ref [26,0] 0],ba ⟨l,bM l k,(ay l k l.ts.length).ts,(ay l k l.ts.length).bk,gN l (bM l k) (ay l k l.ts.length).ts (ay l k l.ts.length).ds i3⟩ [23,0] [24,0],.map 2 (bD (ay l k l.ts.length).bk),.map 0 (bw (gN l (bM l k) (ay l k l.ts.length).ts (ay l k l.ts.length).ds (i3+1))),.box [.ref [26,0] 0]]:=by
     rw[g1,hD,<-List.take_length (l:=eB (bM l k) r.pa (aN l (ay l k l.ts.length).ts[i3].toNat).lv)]
     rfl
    rw[g2,g3]
    simp only[m8,fN]
    refine bA ?_
    show CL Tryz.prog (_::_) _ _
    refine dd [0,5,141,142,143] [[5,0],[23,0],[24,0],[26,0],[49,0],[124,0]] ?_ ?_
    ·simp only[go_sem,bV]
    simp only[go_sem,bV]
    repeat refine sq ?_
    refine aS hΓ fun K' hK=>?_
    simp only[go_sem]
    repeat (refine⟨ak,?_⟩)
    refine hK _ ?_
    clear K' hK
    simp only[go_sem]
    refine⟨i3+1,nu,by(show (ay l k l.ts.length).ts.length-(i3+1)<(ay l k l.ts.length).ts.length-i3;omega),?_⟩
    refine bd [0,5,141,142,143] [[5,0],[23,0],[24,0],[26,0],[49,0],[124,0]] ?_ ?_<;>simp only[go_sem,aV nu VG,aY]
   ·have Wo:i3=(ay l k l.ts.length).ts.length:=by
     have :¬ (i3:Int)<(ay l k l.ts.length).ts.length:=by simpa using hb
     omega
    clear hb
    subst Wo
    repeat refine sq ?_
    refine bC ?_
    simp only[go_sem]
    refine kp [5] [[5,0],[23,0],[24,0],[26,0],[49,0],[124,0]] ?_
    repeat refine sq ?_
    refine rx hΓ [4] [[23,0],[24,0],[26,0],[49,0],[124,0]] (fun K' hK=>by simp only[go_sem];exact an) ?_
    refine av ?_
    simp only[go_sem]
    rw[show (aE l k).l=l from e1,show (aE l k).rs=bM l k from e2];first | exact⟨rfl,rfl,rfl⟩ | exact⟨rfl,rfl,rfl,trivial⟩ | exact⟨⟨rfl,rfl,rfl⟩,rfl⟩ | trace_state
end
set_option maxHeartbeats 8000000
noncomputable section
def gn(l:Led)(ds:List Int):Int:=if nG l=0 then gD (!ds.any fun d=>!dayB d) 6 else nG l
theorem QW:pG (161,[])=fun n=>!dayB n:=rfl
theorem Q':xK (161,[]):=.inl rfl
def K30a:List (Nat×Spec):=[(37,EI),(160,S160)]
theorem aaR:KS K30a:=tc Pr.sound<|tc Jv<|tn
attribute [go_sem] K30a
@[go_sem] def P75:PSpec:=p2 iL dZ (fun _ _=>True) (fun l ds=>vInt (gn l ds)) true
@[go_sem] def oZ:Spec:=P75.toSpec
theorem FZ:aT Tryz.prog 75 P75:=by
 refine cV (rs:=[.tmp 4]) Tryz.func75 Tryz.ntmps75 fun l ds hp hw=>?_
 simp only[dZ,iL,fD]at hw |-
 have hΓ:=aaR
 repeat refine sq ?_
 refine rx hΓ [1,2] [[2,0]] (fun K' hK=>by simp only[go_sem];exact an) ?_
 refine bG (c0 2 (.ref [2,0] 0) (by simp only[go_sem]) (by simp only[go_sem]) [1,2] [[2,0]] ?_ rfl) ?_
 ·simp only[go_sem]
 simp only[go_sem]
 repeat refine sq ?_
 refine rx hΓ [1,5] [] (fun K' hK=>by simp only[go_sem];exact an) ?_
 repeat refine sq ?_
 refine rx hΓ [1,5,9] [] (fun K' hK=>by simp only[go_sem];exact an) ?_
 repeat refine sq ?_
 refine ax (fun hb=>?_) fun hb=>?_
 ·repeat refine sq ?_
  have hc:¬ nG l=0:=by simpa using hb
  unfold gn;rw[if_neg hc]
  repeat refine sq ?_
  refine rx hΓ [4] [] (fun K' hK=>by simp only[go_sem];exact an) ?_
  refine av ?_
  simp only[go_sem]
  all_goals exact dp
 ·repeat refine sq ?_
  have hc:nG l=0:=by simpa using hb
  unfold gn;rw[if_pos hc]
  refine aC ?_
  repeat refine sq ?_
  refine rx hΓ [12] [] (fun K' hK=>by simp only[go_sem,Q',QW];exact an) ?_
  repeat refine sq ?_
  refine ax (fun hb=>?_) fun hb=>?_
  ·repeat refine sq ?_
   rw[show (ds.any fun d=>!dayB d)=true from hb]
   repeat refine sq ?_
   refine rx hΓ [4] [] (fun K' hK=>by simp only[go_sem];exact an) ?_
   refine av ?_
   simp only[go_sem]
   all_goals exact dp
  ·repeat refine sq ?_
   rw[show (ds.any fun d=>!dayB d)=false from hb]
   refine aC ?_
   repeat refine sq ?_
   refine rx hΓ [4] [] (fun K' hK=>by simp only[go_sem];exact an) ?_
   refine av ?_
   simp only[go_sem]
   all_goals exact dp
def aaQ:List (Nat×Spec):=[(76,S76),(128,S128)]
attribute [go_sem] aaQ
def sv(x:Vw)(t:Name):List (Name×O):=[(26::0::t,ba x (23::0::t) (24::0::t)),(23::0::t,.map 2 (bD x.bk)),(24::0::t,.map 0 (bw x.ds))]
def EG:Option (Int×Int)->Vw->List (Name×O)
 |none,x=>sv x [11,0]
 |some _,_=>[]
def EF:Option (Int×Int)->D
 |none=>.tup [.ref [26,0,11,0] 0,.v (vInt 0)]
 |some _=>.tup [.v .nilp,.v (vInt 25)]
attribute [go_sem] sv
theorem sd(x:Vw):EG none x=sv x [11,0]:=rfl
theorem wL(p:Int×Int)(x:Vw):EG (some p) x=[]:=rfl
theorem sc:EF none=.tup [.ref [26,0,11,0] 0,.v (vInt 0)]:=rfl
theorem wK(p:Int×Int):EF (some p)=.tup [.v .nilp,.v (vInt 25)]:=rfl
theorem Bc(p:Int×Int):xz (some p)=.tup [.v (.sl [vInt p.1,vInt p.2]),.v (.bool true)]:=rfl
theorem Bd:xz none=.tup [.nilsl,.v (.bool false)]:=rfl
def K30c:List (Nat×Spec):=[(76,S76),(120,S120)]
theorem aaP:KS K30c:=tc UR<|tc U7<|tn
attribute [go_sem] K30c
def Ap:NSpec:=n2 jT iI (fun l _=>bS l) (fun l k=>EG (fP (aE l k)) (aE l k)) (fun l k=>EF (fP (aE l k)))
def S121:Spec:=Ap.toSpec
attribute [go_sem] Ap S121
theorem U6:aF Tryz.prog 121 S121:=by
 refine xQ (nt:=19) (rs:=[.tmp 4,.tmp 5]) Tryz.func121 rfl (by rfl) (by kernel_rfl) (by kernel_rfl) (by decide) ?_
 intro xs hp
 obtain⟨l,k,rfl,hp,dT,dz⟩:=BC hp
 replace dT:Ap.new _=_:=dT
 replace dz:Ap.d _=_:=dz
 rw[dT,dz]
 clear dT dz
 refine⟨lb rfl,?_⟩
 simp only[iI,iB,dZ,iP,iR,iT,iS,iL,jT,cW,iC,iF,db,encR,encT,encS,fD,ey,List.map_cons,List.map_nil,cZ,Nat.zero_add]
 have hΓ:=aaP
 repeat refine sq ?_
 refine rx hΓ [0,1] [] (fun K' hK=>by simp only[go_sem];exact an) ?_
 repeat refine sq ?_
 refine rx hΓ [6] [[26,0,11,0],[23,0,11,0],[24,0,11,0]] (fun K' hK=>by simp only[go_sem];exact an) ?_
 rcases jz:fP (aE l k)with _ | p
 ·repeat refine sq ?_
  refine rx hΓ [6,8] [[26,0,11,0],[23,0,11,0],[24,0,11,0]] (fun K' hK=>by simp only[go_sem,jz,Bd];(repeat (refine⟨by first | exact ak | exact(uY hp k).1,?_⟩));exact eX) ?_
  repeat refine sq ?_
  refine rx hΓ [6,17] [[26,0,11,0],[23,0,11,0],[24,0,11,0]] (fun K' hK=>by simp only[go_sem,jz,Bd];exact an) ?_
  repeat refine sq ?_
  refine ax (fun hb=>?_) fun hb=>?_
  ·cases hb
  ·repeat refine sq ?_
   refine aC ?_
   repeat refine sq ?_
   refine rx hΓ [4,5] [[26,0,11,0],[23,0,11,0],[24,0,11,0]] (fun K' hK=>by simp only[go_sem,jz,Bd];exact an) ?_
   refine av ?_
   simp only[go_sem,sd,sc,wL,wK]
   all_goals first | done | rfl | trace_state
 ·repeat refine sq ?_
  refine rx hΓ [6,8] [[26,0,11,0],[23,0,11,0],[24,0,11,0]] (fun K' hK=>by simp only[go_sem,jz,Bc];(repeat (refine⟨by first | exact ak | exact(uY hp k).1,?_⟩));exact eX) ?_
  repeat refine sq ?_
  refine rx hΓ [6,17] [[26,0,11,0],[23,0,11,0],[24,0,11,0]] (fun K' hK=>by simp only[go_sem,jz,Bc];exact an) ?_
  repeat refine sq ?_
  refine ax (fun hb=>?_) fun hb=>?_
  ·repeat refine sq ?_
   refine rx hΓ [4,5] [[26,0,11,0],[23,0,11,0],[24,0,11,0]] (fun K' hK=>by simp only[go_sem,jz,Bc];exact an) ?_
   refine av ?_
   simp only[go_sem,sd,sc,wL,wK]
   all_goals first | done | rfl | trace_state
  ·cases hb
theorem Ox{l:Led}(h:bS l)(k:Int):(gJ l k).length<=60/\∀ s∈gJ l k,AR s:=by
 refine⟨Nat.le_trans (List.length_filter_le _ _) h.ssn,fun s hs=>?_⟩
 obtain⟨j,hj,rfl⟩:=List.getElem_of_mem (List.mem_filter.1 hs).1
 have :=lN h.ss hj
 unfold lj at this
 simp only[Bool.and_eq_true]at this
 have hd:=this.1.2
 unfold dayB b7 at hd
 simp at hd
 exact hd
def cw(x:Vw)(k:Int):Vw:={ x with ds:=fj x x.ds (gJ x.l k) }
def sH:Option (Int×Int)->Bool->Vw->Int->List (Name×O)
 |none,true,x,k=>sv (cw x k) [11,0,11,0]
 |_,_,_,_=>[]
def Oj:Option (Int×Int)->Bool->Int
 |some _,_=>25
 |none,false=>27
 |none,true=>0
def sD:Option (Int×Int)->Bool->D
 |some _,_=>.tup [.v .nilp,.v (vInt 25)]
 |none,false=>.tup [.v .nilp,.v (vInt 27)]
 |none,true=>.tup [.ref [26,0,11,0,11,0] 0,.v (vInt 0)]
theorem sE(x:Vw)(k:Int):sH none true x k=sv (cw x k) [11,0,11,0]:=rfl
theorem sF(x:Vw)(k:Int):sH none false x k=[]:=rfl
theorem AO(p:Int×Int)(b:Bool)(x:Vw)(k:Int):sH (some p) b x k=[]:=by cases b<;>rfl
theorem sB:sD none true=.tup [.ref [26,0,11,0,11,0] 0,.v (vInt 0)]:=rfl
theorem sC:sD none false=.tup [.v .nilp,.v (vInt 27)]:=rfl
theorem AN(p:Int×Int)(b:Bool):sD (some p) b=.tup [.v .nilp,.v (vInt 25)]:=by cases b<;>rfl
def K30d:List (Nat×Spec):=[(121,S121),(122,S122),(128,S128)]
theorem aaO:KS K30d:=tc U6<|tc U5<|tc U4<|tn
attribute [go_sem] K30d
def An:NSpec:=n2 jT iI (fun l _=>bS l) (fun l k=>sH (fP (aE l k)) (iq (aE l k) (gJ (aE l k).l k)) (aE l k) k) (fun l k=>sD (fP (aE l k)) (iq (aE l k) (gJ (aE l k).l k)))
def S78:Spec:=An.toSpec
attribute [go_sem] An S78
theorem Jt:aF Tryz.prog 78 S78:=by
 refine xQ (nt:=24) (rs:=[.tmp 4,.tmp 5]) Tryz.func78 rfl (by rfl) (by kernel_rfl) (by kernel_rfl) (by decide) ?_
 intro xs hp
 obtain⟨l,k,rfl,hp,dT,dz⟩:=BC hp
 replace dT:An.new _=_:=dT
 replace dz:An.d _=_:=dz
 rw[dT,dz]
 clear dT dz
 refine⟨lb rfl,?_⟩
 simp only[iI,iB,dZ,iP,iR,iT,iS,iL,jT,cW,iC,iF,db,encR,encT,encS,fD,ey,List.map_cons,List.map_nil,cZ,Nat.zero_add]
 have hΓ:=aaO
 obtain⟨hv,bR⟩:=uY hp k
 obtain⟨Cw,VK⟩:=Ox hv.ok k
 repeat refine sq ?_
 refine rx hΓ [0,1] [] (fun K' hK=>by simp only[go_sem];exact an) ?_
 rcases jz:fP (aE l k)with _ | p
 ·repeat refine sq ?_
  refine rx hΓ [1,6,7] [[26,0,11,0,11,0],[23,0,11,0,11,0],[24,0,11,0,11,0]] (fun K' hK=>by simp only[go_sem,jz,sd,sc];exact an) ?_
  repeat refine sq ?_
  refine rx hΓ [1,6,7,15] [[26,0,11,0,11,0],[23,0,11,0,11,0],[24,0,11,0,11,0]] (fun K' hK=>by simp only[go_sem,jz,sd,sc];exact an) ?_
  repeat refine sq ?_
  refine ax (fun hb=>?_) fun hb=>?_
  ·cases hb
  ·repeat refine sq ?_
   refine aC ?_
   repeat refine sq ?_
   refine rx hΓ [6,22] [[26,0,11,0,11,0],[23,0,11,0,11,0],[24,0,11,0,11,0]] (fun K' hK=>by simp only[go_sem,jz,sd,sc];(repeat (refine⟨by first | exact ak | exact hv.ok.ssn | exact⟨⟨⟨hv,bR⟩,Cw⟩,VK⟩,?_⟩));exact eX) ?_
   repeat refine sq ?_
   refine ax (fun hb=>?_) fun hb=>?_
   ·repeat refine sq ?_
    have hf:iq (aE l k) (gJ (aE l k).l k)=false:=by simpa using hb
    repeat refine sq ?_
    refine rx hΓ [4,5] [[26,0,11,0,11,0],[23,0,11,0,11,0],[24,0,11,0,11,0]] (fun K' hK=>by simp only[go_sem,jz,sd,sc];exact an) ?_
    refine av ?_
    simp only[go_sem,sE,sF,AO,sB,sC,AN]
    all_goals first | done | rfl | (rw[hf];simp only[go_sem,sE,sF,sB,sC,cw];done) | trace_state
   ·repeat refine sq ?_
    have hf:iq (aE l k) (gJ (aE l k).l k)=true:=by simpa using hb
    refine aC ?_
    repeat refine sq ?_
    refine rx hΓ [4,5] [[26,0,11,0,11,0],[23,0,11,0,11,0],[24,0,11,0,11,0]] (fun K' hK=>by simp only[go_sem,jz,sd,sc];exact an) ?_
    refine av ?_
    simp only[go_sem,sE,sF,AO,sB,sC,AN]
    all_goals first | done | rfl | (rw[hf];simp only[go_sem,sE,sF,sB,sC,cw];done) | trace_state
 ·repeat refine sq ?_
  refine rx hΓ [1,6,7] [[26,0,11,0,11,0],[23,0,11,0,11,0],[24,0,11,0,11,0]] (fun K' hK=>by simp only[go_sem,jz,wL,wK];exact an) ?_
  repeat refine sq ?_
  refine rx hΓ [1,6,7,15] [[26,0,11,0,11,0],[23,0,11,0,11,0],[24,0,11,0,11,0]] (fun K' hK=>by simp only[go_sem,jz,wL,wK];exact an) ?_
  repeat refine sq ?_
  refine ax (fun hb=>?_) fun hb=>?_
  ·repeat refine sq ?_
   refine rx hΓ [4,5] [[26,0,11,0,11,0],[23,0,11,0,11,0],[24,0,11,0,11,0]] (fun K' hK=>by simp only[go_sem,jz,wL,wK];exact an) ?_
   refine av ?_
   simp only[go_sem,sE,sF,AO,sB,sC,AN]
   all_goals first | done | rfl | (rw[hf];simp only[go_sem,sE,sF,sB,sC,cw];done) | trace_state
  ·cases hb
end
noncomputable section
theorem ta(l:Led)(k:Int):(aE l k).l=l:=(qJ l k l.ts.length).1
theorem zz{l:Led}{ds:List Int}(h:gn l ds=0):bS l/\∀ d∈ds,dayB d=true:=by
 unfold gn at h
 split at h
 ·rename_i hc
  refine⟨?_,?_⟩
  ·refine Classical.byContradiction fun hn=>?_
   rw[wy hn]at hc;cases hc
  ·unfold gD at h
   split at h
   ·rename_i hd
    intro d WJ
    have :(ds.any fun d=>!dayB d)=false:=by simpa using hd
    rw[List.any_eq_false]at this
    have :=this d WJ
    simpa using this
   ·cases h
 ·rename_i hc;exact(hc h).elim
def pg(l:Led)(k:Int):Bool:=(fP (aE l k)).isNone&&iq (aE l k) (gJ (aE l k).l k)
def K31:List (Nat×Spec):=[(75,oZ),(76,S76),(120,S120),(121,S121),(122,S122),(128,S128),(77,S77),(129,S129)]
attribute [go_sem] K31
end
noncomputable section
def aaN:List (Nat×Spec):=[(75,oZ),(76,S76)]
attribute [go_sem] aaN
def o6(x:Vw)(pa le day:Int):List Int:=match iA x.rs pa le day with
 |none=>[0]
 |some r=>match bH x.bk (r.so,le)with
  |none=>[r.bo]
  |some i=>(if (cv x.ds i).1<=day then[0]else[])++(if (cv x.ds i).2>day then[r.bo]else[])
def K32b:List (Nat×Spec):=[(119,S119)]
theorem aaM:KS K32b:=tc Jx<|tn
attribute [go_sem] K32b
def MR:VSpec:=v2 iX iI (fun x _ _=>la x/\x.rs.Nodup) (fun x f day=>.v (.sl ((o6 x f.pa f.le day).map vInt))) none
def S80:Spec:=MR.toSpec
attribute [go_sem] MR S80
set_option maxHeartbeats 8000000 in
theorem Js:aF Tryz.prog 80 S80:=by
 refine w6 (rs:=[.tmp 6]) Tryz.func80 Tryz.ntmps80 (by rfl) (by kernel_rfl) (by decide) (fun _ _ _=>by first | rfl | simp[D.clos,D.closL,ln]) ⟨_,rfl,lb rfl,fun x f day hp H h0 h1 h2 hO ae=>?_⟩
 have hP:=eE
 simp only[iX,iI,eH,ba,cZ,List.map_cons,List.map_nil,Nat.zero_add,Option.map_some,Option.map_none]at h0 |-
 have hΓ:=aaM
 obtain⟨pa,le⟩:=f
 have kI:o6 x pa le day=match iA x.rs pa le day with
  |none=>[0]
  |some r=>match bH x.bk (r.so,le)with
   |none=>[r.bo]
   |some i=>(if (cv x.ds i).1<=day then[0]else[])++(if (cv x.ds i).2>day then[r.bo]else[]):=rfl
 rw[kI]
 clear kI
 repeat refine sq ?_
 refine rx hΓ [0,2,4] [[4,0]] (fun K' hK=>by simp only[go_sem,hO,ae,h0,h1,h2];(repeat (refine⟨ak,?_⟩));exact hK _ (by simp only[go_sem,hO,ae,h0,h1,h2]) (by simp only[go_sem,hO,ae,h0,h1,h2]<;>rfl)) ?_
 rcases au:iA x.rs pa le day with _ | r
 ·repeat refine sq ?_
  refine rx hΓ [0,2,4,7,8] [[4,0],[7,0]] (fun K' hK=>by simp only[go_sem,hO,ae,h0,h1,h2,au,bt,Option.isSome_none];(repeat (refine⟨ak,?_⟩));exact hK _ (by simp only[go_sem,hO,ae,h0,h1,h2,au,bt,Option.isSome_none]) (by simp only[go_sem,hO,ae,h0,h1,h2,au,bt,Option.isSome_none]<;>rfl)) ?_
  repeat refine sq ?_
  refine rx hΓ [0,2,4,7,20] [[4,0],[7,0]] (fun K' hK=>by simp only[go_sem,hO,ae,h0,h1,h2,au,bt,Option.isSome_none];(repeat (refine⟨ak,?_⟩));exact hK _ (by simp only[go_sem,hO,ae,h0,h1,h2,au,bt,Option.isSome_none]) (by simp only[go_sem,hO,ae,h0,h1,h2,au,bt,Option.isSome_none]<;>rfl)) ?_
  repeat refine sq ?_
  refine ax (fun hb=>?_) fun hb=>?_
  ·repeat refine sq ?_
   refine rx hΓ [6] [[51,0],[65,0]] (fun K' hK=>by simp only[go_sem,hO,ae,h0,h1,h2,au,bt,Option.isSome_none];(repeat (refine⟨ak,?_⟩));exact hK _ (by simp only[go_sem,hO,ae,h0,h1,h2,au,bt,Option.isSome_none]) (by simp only[go_sem,hO,ae,h0,h1,h2,au,bt,Option.isSome_none]<;>rfl)) ?_
   refine av ?_
   simp only[go_sem,hO,ae,h0,h1,h2]
   all_goals first | rfl | (simp only[aU];rfl) | (simp_all;done) | trace_state
  ·cases hb
 ·repeat refine sq ?_
  refine rx hΓ [0,2,4,7,8] [[4,0],[7,0]] (fun K' hK=>by simp only[go_sem,hO,ae,h0,h1,h2,au,aH,Option.isSome_some];(repeat (refine⟨ak,?_⟩));exact hK _ (by simp only[go_sem,hO,ae,h0,h1,h2,au,aH,Option.isSome_some]) (by simp only[go_sem,hO,ae,h0,h1,h2,au,aH,Option.isSome_some]<;>rfl)) ?_
  repeat refine sq ?_
  refine rx hΓ [0,2,4,7,20] [[4,0],[7,0]] (fun K' hK=>by simp only[go_sem,hO,ae,h0,h1,h2,au,aH,Option.isSome_some];(repeat (refine⟨ak,?_⟩));exact hK _ (by simp only[go_sem,hO,ae,h0,h1,h2,au,aH,Option.isSome_some]) (by simp only[go_sem,hO,ae,h0,h1,h2,au,aH,Option.isSome_some]<;>rfl)) ?_
  repeat refine sq ?_
  refine ax (fun hb=>?_) fun hb=>?_
  ·cases hb
  ·repeat refine sq ?_
   refine aC ?_
   rcases aU:bH x.bk (r.so,le)with _ | j
   ·repeat refine sq ?_
    refine dx hΓ hP [[],[0],[0,1],[0,1,2],[],[4],[],[6],[4,5,6,7],u9,dq,fm,fm,fM,ji] [0,2,7,9,10] [[7,0]] (by kernel_rfl) (fun K' hK=>by simp only[go_sem,hO,ae,h0,h1,h2,au,aH,Option.isSome_some,aw,aU,Option.map_none,Option.isSome_none,Option.getD_none];(repeat (refine⟨ak,?_⟩));(first | refine⟨by rfl,?_⟩ | skip);exact hK _ (by simp only[go_sem,hO,ae,h0,h1,h2,au,aH,Option.isSome_some,aw,aU,Option.map_none,Option.isSome_none,Option.getD_none]) (by simp only[go_sem,hO,ae,h0,h1,h2,au,aH,Option.isSome_some,aw,aU,Option.map_none,Option.isSome_none,Option.getD_none]<;>rfl)) ?_
    repeat refine sq ?_
    refine rx hΓ [0,2,7,9,36] [[7,0]] (fun K' hK=>by simp only[go_sem,hO,ae,h0,h1,h2,au,aH,Option.isSome_some,aw,aU,Option.map_none,Option.isSome_none,Option.getD_none];(repeat (refine⟨ak,?_⟩));exact hK _ (by simp only[go_sem,hO,ae,h0,h1,h2,au,aH,Option.isSome_some,aw,aU,Option.map_none,Option.isSome_none,Option.getD_none]) (by simp only[go_sem,hO,ae,h0,h1,h2,au,aH,Option.isSome_some,aw,aU,Option.map_none,Option.isSome_none,Option.getD_none]<;>rfl)) ?_
    repeat refine sq ?_
    refine ax (fun hb=>?_) fun hb=>?_
    ·repeat refine sq ?_
     refine rx hΓ [6] [[51,0],[65,0]] (fun K' hK=>by simp only[go_sem,hO,ae,h0,h1,h2,au,aH,Option.isSome_some,aw,aU,Option.map_none,Option.isSome_none,Option.getD_none];(repeat (refine⟨ak,?_⟩));exact hK _ (by simp only[go_sem,hO,ae,h0,h1,h2,au,aH,Option.isSome_some,aw,aU,Option.map_none,Option.isSome_none,Option.getD_none]) (by simp only[go_sem,hO,ae,h0,h1,h2,au,aH,Option.isSome_some,aw,aU,Option.map_none,Option.isSome_none,Option.getD_none]<;>rfl)) ?_
     refine av ?_
     simp only[go_sem,hO,ae,h0,h1,h2]
     all_goals first | rfl | (simp only[aU];rfl) | (simp_all;done) | trace_state
    ·cases hb
   ·repeat refine sq ?_
    refine dx hΓ hP [[],[0],[0,1],[0,1,2],[],[4],[],[6],[4,5,6,7],u9,dq,fm,fm,fM,ji] [0,2,7,9,10] [[7,0]] (by kernel_rfl) (fun K' hK=>by simp only[go_sem,hO,ae,h0,h1,h2,au,aH,Option.isSome_some,aw,aU,Option.map_some,Option.isSome_some,Option.getD_some];(repeat (refine⟨ak,?_⟩));(first | refine⟨by rfl,?_⟩ | skip);exact hK _ (by simp only[go_sem,hO,ae,h0,h1,h2,au,aH,Option.isSome_some,aw,aU,Option.map_some,Option.isSome_some,Option.getD_some]) (by simp only[go_sem,hO,ae,h0,h1,h2,au,aH,Option.isSome_some,aw,aU,Option.map_some,Option.isSome_some,Option.getD_some]<;>rfl)) ?_
    repeat refine sq ?_
    refine rx hΓ [0,2,7,9,36] [[7,0]] (fun K' hK=>by simp only[go_sem,hO,ae,h0,h1,h2,au,aH,Option.isSome_some,aw,aU,Option.map_some,Option.isSome_some,Option.getD_some];(repeat (refine⟨ak,?_⟩));exact hK _ (by simp only[go_sem,hO,ae,h0,h1,h2,au,aH,Option.isSome_some,aw,aU,Option.map_some,Option.isSome_some,Option.getD_some]) (by simp only[go_sem,hO,ae,h0,h1,h2,au,aH,Option.isSome_some,aw,aU,Option.map_some,Option.isSome_some,Option.getD_some]<;>rfl)) ?_
    repeat refine sq ?_
    refine ax (fun hb=>?_) fun hb=>?_
    ·cases hb
    ·repeat refine sq ?_
     refine aC ?_
     repeat refine sq ?_
     refine rx hΓ [0,2,7,9,11] [[7,0],[51,0],[65,0]] (fun K' hK=>by simp only[go_sem,hO,ae,h0,h1,h2,au,aH,Option.isSome_some,aw,aU,Option.map_some,Option.isSome_some,Option.getD_some];(repeat (refine⟨ak,?_⟩));exact hK _ (by simp only[go_sem,hO,ae,h0,h1,h2,au,aH,Option.isSome_some,aw,aU,Option.map_some,Option.isSome_some,Option.getD_some]) (by simp only[go_sem,hO,ae,h0,h1,h2,au,aH,Option.isSome_some,aw,aU,Option.map_some,Option.isSome_some,Option.getD_some]<;>rfl)) ?_
     refine bG (AB 11 [51,0] 1 (by simp only[go_sem]) (by simp only[go_sem]) [0,2,7,9,11] [[7,0],[51,0],[65,0]] ?_ rfl) ?_
     ·simp only[go_sem,hO,ae,h0,h1,h2]
     simp only[go_sem,hO,ae,h0,h1,h2]
     repeat refine sq ?_
     refine rx hΓ [0,2,7,9,11,48] [[7,0],[51,0],[65,0]] (fun K' hK=>by simp only[go_sem,hO,ae,h0,h1,h2,au,aH,Option.isSome_some,aw,aU,Option.map_some,Option.isSome_some,Option.getD_some,jv];(repeat (refine⟨ak,?_⟩));exact hK _ (by simp only[go_sem,hO,ae,h0,h1,h2,au,aH,Option.isSome_some,aw,aU,Option.map_some,Option.isSome_some,Option.getD_some,jv]) (by simp only[go_sem,hO,ae,h0,h1,h2,au,aH,Option.isSome_some,aw,aU,Option.map_some,Option.isSome_some,Option.getD_some,jv]<;>rfl)) ?_
     repeat refine sq ?_
     refine ax (fun hb=>?_) fun hb=>?_
     ·repeat refine sq ?_
      refine rx hΓ [0,2,7,9,11] [[7,0],[51,0],[65,0]] (fun K' hK=>by simp only[go_sem,hO,ae,h0,h1,h2,au,aH,Option.isSome_some,aw,aU,Option.map_some,Option.isSome_some,Option.getD_some];(repeat (refine⟨ak,?_⟩));exact hK _ (by simp only[go_sem,hO,ae,h0,h1,h2,au,aH,Option.isSome_some,aw,aU,Option.map_some,Option.isSome_some,Option.getD_some]) (by simp only[go_sem,hO,ae,h0,h1,h2,au,aH,Option.isSome_some,aw,aU,Option.map_some,Option.isSome_some,Option.getD_some]<;>rfl)) ?_
      repeat refine sq ?_
      refine rx hΓ [7,11,60] [[7,0],[51,0],[65,0]] (fun K' hK=>by simp only[go_sem,hO,ae,h0,h1,h2,au,aH,Option.isSome_some,aw,aU,Option.map_some,Option.isSome_some,Option.getD_some,jv];(repeat (refine⟨ak,?_⟩));exact hK _ (by simp only[go_sem,hO,ae,h0,h1,h2,au,aH,Option.isSome_some,aw,aU,Option.map_some,Option.isSome_some,Option.getD_some,jv]) (by simp only[go_sem,hO,ae,h0,h1,h2,au,aH,Option.isSome_some,aw,aU,Option.map_some,Option.isSome_some,Option.getD_some,jv]<;>rfl)) ?_
      repeat refine sq ?_
      refine ax (fun hb=>?_) fun hb=>?_
      ·repeat refine sq ?_
       refine rx hΓ [11] [[51,0],[65,0]] (fun K' hK=>by simp only[go_sem,hO,ae,h0,h1,h2,au,aH,Option.isSome_some,aw,aU,Option.map_some,Option.isSome_some,Option.getD_some];(repeat (refine⟨ak,?_⟩));exact hK _ (by simp only[go_sem,hO,ae,h0,h1,h2,au,aH,Option.isSome_some,aw,aU,Option.map_some,Option.isSome_some,Option.getD_some]) (by simp only[go_sem,hO,ae,h0,h1,h2,au,aH,Option.isSome_some,aw,aU,Option.map_some,Option.isSome_some,Option.getD_some]<;>rfl)) ?_
       repeat refine sq ?_
       refine rx hΓ [6] [[51,0],[65,0]] (fun K' hK=>by simp only[go_sem,hO,ae,h0,h1,h2,au,aH,Option.isSome_some,aw,aU,Option.map_some,Option.isSome_some,Option.getD_some];(repeat (refine⟨ak,?_⟩));exact hK _ (by simp only[go_sem,hO,ae,h0,h1,h2,au,aH,Option.isSome_some,aw,aU,Option.map_some,Option.isSome_some,Option.getD_some]) (by simp only[go_sem,hO,ae,h0,h1,h2,au,aH,Option.isSome_some,aw,aU,Option.map_some,Option.isSome_some,Option.getD_some]<;>rfl)) ?_
       first | refine bG (c0 6 (.msl [51,0] 2) rfl (by simp only[go_sem]) [6] [] ?_ rfl) ?_ | refine bG (c0 6 (.msl [51,0] 1) rfl (by simp only[go_sem]) [6] [] ?_ rfl) ?_ | refine bG (c0 6 (.msl [51,0] 0) rfl (by simp only[go_sem]) [6] [] ?_ rfl) ?_
       ·simp only[go_sem,hO,h0,h1,h2]
       simp only[go_sem,hO,h0,h1,h2]
       refine av ?_
       simp only[go_sem,hO,ae,h0,h1,h2]
       all_goals first | rfl | (simp only[aU];rfl) | (simp_all;done) | trace_state
      ·repeat refine sq ?_
       refine aC ?_
       repeat refine sq ?_
       refine rx hΓ [6] [[51,0],[65,0]] (fun K' hK=>by simp only[go_sem,hO,ae,h0,h1,h2,au,aH,Option.isSome_some,aw,aU,Option.map_some,Option.isSome_some,Option.getD_some];(repeat (refine⟨ak,?_⟩));exact hK _ (by simp only[go_sem,hO,ae,h0,h1,h2,au,aH,Option.isSome_some,aw,aU,Option.map_some,Option.isSome_some,Option.getD_some]) (by simp only[go_sem,hO,ae,h0,h1,h2,au,aH,Option.isSome_some,aw,aU,Option.map_some,Option.isSome_some,Option.getD_some]<;>rfl)) ?_
       first | refine bG (c0 6 (.msl [51,0] 2) rfl (by simp only[go_sem]) [6] [] ?_ rfl) ?_ | refine bG (c0 6 (.msl [51,0] 1) rfl (by simp only[go_sem]) [6] [] ?_ rfl) ?_ | refine bG (c0 6 (.msl [51,0] 0) rfl (by simp only[go_sem]) [6] [] ?_ rfl) ?_
       ·simp only[go_sem,hO,h0,h1,h2]
       simp only[go_sem,hO,h0,h1,h2]
       refine av ?_
       simp only[go_sem,hO,ae,h0,h1,h2]
       all_goals first | rfl | (simp only[aU];rfl) | (simp_all;done) | trace_state
     ·repeat refine sq ?_
      refine aC ?_
      repeat refine sq ?_
      refine rx hΓ [7,11,60] [[7,0],[51,0],[65,0]] (fun K' hK=>by simp only[go_sem,hO,ae,h0,h1,h2,au,aH,Option.isSome_some,aw,aU,Option.map_some,Option.isSome_some,Option.getD_some,jv];(repeat (refine⟨ak,?_⟩));exact hK _ (by simp only[go_sem,hO,ae,h0,h1,h2,au,aH,Option.isSome_some,aw,aU,Option.map_some,Option.isSome_some,Option.getD_some,jv]) (by simp only[go_sem,hO,ae,h0,h1,h2,au,aH,Option.isSome_some,aw,aU,Option.map_some,Option.isSome_some,Option.getD_some,jv]<;>rfl)) ?_
      repeat refine sq ?_
      refine ax (fun hb=>?_) fun hb=>?_
      ·repeat refine sq ?_
       refine rx hΓ [11] [[51,0],[65,0]] (fun K' hK=>by simp only[go_sem,hO,ae,h0,h1,h2,au,aH,Option.isSome_some,aw,aU,Option.map_some,Option.isSome_some,Option.getD_some];(repeat (refine⟨ak,?_⟩));exact hK _ (by simp only[go_sem,hO,ae,h0,h1,h2,au,aH,Option.isSome_some,aw,aU,Option.map_some,Option.isSome_some,Option.getD_some]) (by simp only[go_sem,hO,ae,h0,h1,h2,au,aH,Option.isSome_some,aw,aU,Option.map_some,Option.isSome_some,Option.getD_some]<;>rfl)) ?_
       repeat refine sq ?_
       refine rx hΓ [6] [[51,0],[65,0]] (fun K' hK=>by simp only[go_sem,hO,ae,h0,h1,h2,au,aH,Option.isSome_some,aw,aU,Option.map_some,Option.isSome_some,Option.getD_some];(repeat (refine⟨ak,?_⟩));exact hK _ (by simp only[go_sem,hO,ae,h0,h1,h2,au,aH,Option.isSome_some,aw,aU,Option.map_some,Option.isSome_some,Option.getD_some]) (by simp only[go_sem,hO,ae,h0,h1,h2,au,aH,Option.isSome_some,aw,aU,Option.map_some,Option.isSome_some,Option.getD_some]<;>rfl)) ?_
       first | refine bG (c0 6 (.msl [51,0] 2) rfl (by simp only[go_sem]) [6] [] ?_ rfl) ?_ | refine bG (c0 6 (.msl [51,0] 1) rfl (by simp only[go_sem]) [6] [] ?_ rfl) ?_ | refine bG (c0 6 (.msl [51,0] 0) rfl (by simp only[go_sem]) [6] [] ?_ rfl) ?_
       ·simp only[go_sem,hO,h0,h1,h2]
       simp only[go_sem,hO,h0,h1,h2]
       refine av ?_
       simp only[go_sem,hO,ae,h0,h1,h2]
       all_goals first | rfl | (simp only[aU];rfl) | (simp_all;done) | trace_state
      ·repeat refine sq ?_
       refine aC ?_
       repeat refine sq ?_
       refine rx hΓ [6] [[51,0],[65,0]] (fun K' hK=>by simp only[go_sem,hO,ae,h0,h1,h2,au,aH,Option.isSome_some,aw,aU,Option.map_some,Option.isSome_some,Option.getD_some];(repeat (refine⟨ak,?_⟩));exact hK _ (by simp only[go_sem,hO,ae,h0,h1,h2,au,aH,Option.isSome_some,aw,aU,Option.map_some,Option.isSome_some,Option.getD_some]) (by simp only[go_sem,hO,ae,h0,h1,h2,au,aH,Option.isSome_some,aw,aU,Option.map_some,Option.isSome_some,Option.getD_some]<;>rfl)) ?_
       first | refine bG (c0 6 (.msl [51,0] 2) rfl (by simp only[go_sem]) [6] [] ?_ rfl) ?_ | refine bG (c0 6 (.msl [51,0] 1) rfl (by simp only[go_sem]) [6] [] ?_ rfl) ?_ | refine bG (c0 6 (.msl [51,0] 0) rfl (by simp only[go_sem]) [6] [] ?_ rfl) ?_
       ·simp only[go_sem,hO,h0,h1,h2]
       simp only[go_sem,hO,h0,h1,h2]
       refine av ?_
       simp only[go_sem,hO,ae,h0,h1,h2]
       all_goals first | rfl | (simp only[aU];rfl) | (simp_all;done) | trace_state
end
noncomputable section
def eS(l:Led)(k:Int):Int:=Oj (fP (aE l k)) (iq (aE l k) (gJ (aE l k).l k))
theorem xk{l:Led}{k:Int}(h:pg l k=false):sH (fP (aE l k)) (iq (aE l k) (gJ (aE l k).l k)) (aE l k) k=[]/\sD (fP (aE l k)) (iq (aE l k) (gJ (aE l k).l k))=.tup [.v .nilp,.v (vInt (eS l k))]/\(eS l k != 0)=true:=by
 unfold pg at h
 unfold eS
 cases hp:fP (aE l k)with
 |some p=>
  cases iq (aE l k) (gJ (aE l k).l k)<;>exact⟨rfl,rfl,rfl⟩
 |none=>
  rw[hp]at h
  have h2:iq (aE l k) (gJ (aE l k).l k)=false:=by simpa using h
  rw[h2]
  exact⟨rfl,rfl,rfl⟩
theorem xj{l:Led}{k:Int}(h:pg l k=true):sH (fP (aE l k)) (iq (aE l k) (gJ (aE l k).l k)) (aE l k) k=sv (cw (aE l k) k) [11,0,11,0]/\sD (fP (aE l k)) (iq (aE l k) (gJ (aE l k).l k))=.tup [.ref [26,0,11,0,11,0] 0,.v (vInt 0)]/\eS l k=0:=by
 unfold pg at h
 simp only[Bool.and_eq_true,Option.isNone_iff_eq_none]at h
 unfold eS
 rw[h.1,h.2]
 exact⟨rfl,rfl,rfl⟩
theorem xh{l:Led}(h:bS l)(k:Int):la (cw (aE l k) k)/\(cw (aE l k) k).rs.Nodup:=⟨(uY h k).1.ds _,(uY h k).2⟩
def aaL:List (Nat×Spec):=[(78,S78)]
attribute [go_sem] aaL
def jI(l:Led)(f:Fol)(day k:Int):Int:=if gn l [day,k]=0 then(if b7 f.le 1 (dC l.ps f.pa)=true then eS l k else 26)else gn l [day,k]
def uy(l:Led)(f:Fol)(day k:Int):List Int:=if jI l f day k=0 then o6 (cw (aE l k) k) f.pa f.le day else[]
def w5(l:Led)(f:Fol)(day k:Int):V:=.tup [.sl ((uy l f day k).map vInt),vInt (jI l f day k)]
theorem bS.srt{l:Led}(h:bS l):Go.Eng.srt Pap.id l.ps:=xJ (kY.1 h.ps)
def K33b:List (Nat×Spec):=[(75,oZ),(79,wQ),(96,sg),(78,S78),(80,S80)]
theorem aaK:KS K33b:=tc FZ.sound<|tc FY.sound<|tc uG.sound<|tc Jt<|tc Js<|tn
attribute [go_sem] K33b
@[go_sem] def P23:PSpec:=p4 iL iX iI iI (fun _ _ _ _=>True) (fun l f day k=>w5 l f day k) false
@[go_sem] def ZJ:Spec:=P23.toSpec
set_option maxHeartbeats 8000000 in
theorem Pv:aT Tryz.prog 23 P23:=by
 refine qp (rs:=[.tmp 8,.tmp 9]) Tryz.func23 Tryz.ntmps23 fun l f day k hp hw=>?_
 have hP:=eE
 simp only[iX,iI,iL,eH,fD]at hw |-
 have hΓ:=aaK
 unfold w5 uy
 repeat refine sq ?_
 refine rx hΓ [2,3,4,5] [[4,0],[5,0]] (fun K' hK=>by simp only[go_sem];exact an) ?_
 refine bG (c0 4 (.ref [4,0] 0) (by simp only[go_sem]) (by simp only[go_sem]) [2,3,4,5] [[4,0],[5,0]] ?_ rfl) ?_
 ·simp only[go_sem]
 simp only[go_sem]
 repeat refine sq ?_
 refine rx hΓ [2,3,4,5,10] [[4,0],[5,0]] (fun K' hK=>by simp only[go_sem];exact an) ?_
 repeat refine sq ?_
 refine rx hΓ [2,3,4,5,10,19] [[4,0],[5,0]] (fun K' hK=>by simp only[go_sem];exact an) ?_
 repeat refine sq ?_
 refine ax (fun hb=>?_) fun hb=>?_
 ·repeat refine sq ?_
  have hc:¬ gn l [day,k]=0:=by simpa using hb
  have he:jI l f day k=gn l [day,k]:=by unfold jI;rw[if_neg hc]
  rw[he,if_neg hc]
  repeat refine sq ?_
  refine rx hΓ [8,9] [] (fun K' hK=>by simp only[go_sem];exact an) ?_
  refine av ?_
  simp only[go_sem]
  all_goals first | done | rfl | trace_state
 ·repeat refine sq ?_
  have hc:gn l [day,k]=0:=by simpa using hb
  obtain⟨aa,_⟩:=zz hc
  have yw:=aa.srt
  refine aC ?_
  repeat refine sq ?_
  refine dx hΓ hP [[],[0],[],[2],[2,3],u5,u6] [2,3,4,5,27] [[4,0],[5,0]] (by kernel_rfl) (fun K' hK=>by simp only[go_sem,yw];exact oT) ?_
  repeat refine sq ?_
  refine ax (fun hb=>?_) fun hb=>?_
  ·repeat refine sq ?_
   have he:jI l f day k=26:=by unfold jI;rw[if_pos hc,if_neg (by simpa using hb)]
   rw[he]
   repeat refine sq ?_
   refine rx hΓ [8,9] [] (fun K' hK=>by simp only[go_sem];exact an) ?_
   refine av ?_
   simp only[go_sem]
   all_goals first | done | rfl | trace_state
  ·repeat refine sq ?_
   have he:jI l f day k=eS l k:=by unfold jI;rw[if_pos hc,if_pos (by simpa using hb)]
   rw[he]
   refine aC ?_
   rcases vx:pg l k with _ | _
   ·obtain⟨q1,q2,q3⟩:=xk vx
    have q4:¬ eS l k=0:=by simpa using q3
    rw[if_neg q4]
    repeat refine sq ?_
    refine rx hΓ [2,5,11,12] [[5,0],[26,0,11,0,11,0,30,0],[23,0,11,0,11,0,30,0],[24,0,11,0,11,0,30,0]] (fun K' hK=>by simp only[go_sem,q1,q2,q3];exact an) ?_
    repeat refine sq ?_
    refine rx hΓ [2,5,11,12,34] [[5,0],[26,0,11,0,11,0,30,0],[23,0,11,0,11,0,30,0],[24,0,11,0,11,0,30,0]] (fun K' hK=>by simp only[go_sem,q1,q2,q3];exact an) ?_
    repeat refine sq ?_
    refine ax (fun hb=>?_) fun hb=>?_
    ·repeat refine sq ?_
     refine rx hΓ [8,9] [] (fun K' hK=>by simp only[go_sem,q1,q2,q3];exact an) ?_
     refine av ?_
     simp only[go_sem]
     all_goals first | done | rfl | trace_state
    ·cases hb
   ·obtain⟨q1,q2,q3⟩:=xj vx
    obtain⟨hv,bR⟩:=xh aa k
    rw[if_pos q3,q3]
    repeat refine sq ?_
    refine rx hΓ [2,5,11,12] [[5,0],[26,0,11,0,11,0,30,0],[23,0,11,0,11,0,30,0],[24,0,11,0,11,0,30,0]] (fun K' hK=>by simp only[go_sem,q1,q2];exact an) ?_
    repeat refine sq ?_
    refine rx hΓ [2,5,11,12,34] [[5,0],[26,0,11,0,11,0,30,0],[23,0,11,0,11,0,30,0],[24,0,11,0,11,0,30,0]] (fun K' hK=>by simp only[go_sem,q1,q2];exact an) ?_
    repeat refine sq ?_
    refine ax (fun hb=>?_) fun hb=>?_
    ·cases hb
    ·repeat refine sq ?_
     refine aC ?_
     repeat refine sq ?_
     refine rx hΓ [8,9] [] (fun K' hK=>by simp only[go_sem,q1,q2];(repeat (refine⟨by first | exact ak | exact⟨hv,bR⟩,?_⟩));exact eX) ?_
     refine av ?_
     simp only[go_sem]
     all_goals first | done | rfl | trace_state
end
noncomputable section
def two(b:Bool):Int:=if b then 2 else 0
def aaJ:List (Nat×Spec):=[(75,oZ),(76,S76),(77,S77),(78,S78)]
attribute [go_sem] aaJ
end
noncomputable section
def K35:List (Nat×Spec):=[(75,oZ),(79,wQ),(78,S78),(80,S80)]
attribute [go_sem] K35
end
set_option maxHeartbeats 8000000
noncomputable section
def pf(p:Pap):List Fol:=(List.range p.lv.toNat).map fun j=>⟨p.id,((j+1:Nat):Int)⟩
def kf(l:Led)(i:Nat):List Fol:=(l.ps.take i).flatMap pf
def cl(l:Led):List Fol:=l.ps.flatMap pf
theorem XI{l:Led}{i:Nat}(h:i<l.ps.length):kf l (i+1)=kf l i++pf l.ps[i]:=by
 unfold kf
 rw[List.take_add_one,List.getElem?_eq_getElem h,List.flatMap_append]
 simp
theorem XJ(l:Led):kf l l.ps.length=cl l:=by unfold kf cl;rw[List.take_length]
theorem Bh(p:Pap):(pf p).length=p.lv.toNat:=by simp[pf]
theorem XL{l:Led}{i:Nat}(h:i<l.ps.length):∃ r,cl l=kf l i++(pf l.ps[i]++r):=by
 refine⟨(l.ps.drop (i+1)).flatMap pf,?_⟩
 unfold cl kf
 conv=>lhs;rw[<-List.take_append_drop i l.ps,List.flatMap_append,List.drop_eq_getElem_cons h,List.flatMap_cons]
theorem XH{l:Led}{i j:Nat}{z:Fol}(h:i<l.ps.length)(hj:j<(l.ps[i]).lv.toNat):(kf l i).length+j<(cl l).length/\(cl l).getD ((kf l i).length+j) z=⟨(l.ps[i]).id,((j+1:Nat):Int)⟩:=by
 obtain⟨r,hr⟩:=XL h
 have hp:=Bh l.ps[i]
 rw[hr]
 refine⟨by simp only[List.length_append];omega,?_⟩
 rw[List.getD_eq_getElem?_getD,List.getElem?_append_right (by omega),Nat.add_sub_cancel_left,List.getElem?_append_left (by omega)]
 simp[pf,hj]
@[go_sem] def P93:PSpec:=p1 jT (fun _=>True) (fun l=>.clo (.func 182) [] [.ptr [ey l]]) false
@[go_sem] def M2:Spec:=P93.toSpec
theorem O9:aT Tryz.prog 93 P93:=by
 refine fI (rs:=[.tmp 2]) Tryz.func93 Tryz.ntmps93 fun l hp hw=>?_
 simp only[jT,ey]at hw |-
 have hΓ:=@dI Tryz.prog
 repeat refine sq ?_
 refine rx hΓ [1] [[1,0]] (fun K' hK=>by simp only[go_sem];exact an) ?_
 refine bG (c0 1 (.ref [1,0] 0) (by simp only[go_sem]) (by simp only[go_sem]) [1] [[1,0]] ?_ rfl) ?_
 ·simp only[go_sem]
 simp only[go_sem]
 repeat refine sq ?_
 refine rx hΓ [2] [[1,0]] (fun K' hK=>by simp only[go_sem];exact an) ?_
 refine av ?_
 simp only[go_sem]
 all_goals exact dp
theorem NU{sY:Spec}(hY:aF Tryz.prog yid sY){l:Led}(aa:bS l){I:Nat->List O}
 (hI:∀ s,(I s).length=(I 0).length) (hc:∀ s,∀ o∈I s,∀ dom:Name->Bool,(∀ i,dom [i,1]=true)->O.clos dom o=true)
 (j7:∀ s,s<(cl l).length->∀ obj tm,(∀ nm,c9 nm=true->obj nm=aM (I s) nm)->sY.app obj tm [.yld [0,1],.agg [.v (vInt ((cl l).getD s default).pa),.v (vInt ((cl l).getD s default).le)]]=⟨True,.v (.bool true),gY obj (I (s+1))⟩):
 ∃ c',Tryz.f182.body=some c'/\CL Tryz.prog [c'] (be 29 [0] (aM (I 0)) [(0,⟨true,.yld [0,1]⟩),(1,⟨true,.v (.ptr [ey l])⟩)] [])
   (fun e σ=>(e=.normal\/e=.ret)/\∀ i,σ.obj [i,1]=aM (I (cl l).length) [i,1]):=by
 refine⟨_,rfl,?_⟩
 obtain⟨Γ,hΓ,dz⟩:∃ Γ:FuncId->Option Spec,(∀ f s,Γ f=some s->aF Tryz.prog f s)/\Γ 1000000000=some sY:=by
  refine⟨fun f=>if f=1000000000 then some sY else none,fun f s h=>?_,rfl⟩
  dsimp only at h
  split at h
  ·rename_i e;cases h;subst e;exact hY
  ·cases h
 have hO:∀ s hs,bx [0] (bp [0] hs) (aM (I s))=True:=fun s hs=>eq_true (jL (hc s) hs)
 have oD:∀ s,gY (aM (I s)) (I (s+1))=aM (I (s+1)):=fun s=>FM ((hI _).trans (hI s).symm)
 obtain⟨H,hH⟩:∃ H:Nat->Name->Option O,∀ s,aM (I s)=H s:=⟨_,fun _=>rfl⟩
 simp only[hH]at hO oD j7 |-
 have pM:=aa.psn
 have mr:l.ps.length<=maxLen:=by unfold maxLen;omega
 simp only[ey]
 repeat refine sq ?_
 refine rx hΓ [0,9,10,11] [] (fun K' hK=>by simp only[go_sem,hO];(repeat (refine⟨ak,?_⟩));exact hK _ (by simp only[go_sem,hO]) (by simp only[go_sem,hO]<;>rfl)) ?_
 repeat refine sq ?_
 refine aI ?_
 repeat refine sq ?_
 refine wv (fun s:Nat=>be 29 [0] (H (kf l s).length) [(0,⟨true,.yld [0,1]⟩),(9,⟨true,.v (.sl (l.ps.map db))⟩),(10,⟨true,.v (vInt l.ps.length)⟩),(11,⟨true,.v (vInt s)⟩)] [])
  (fun s=>s<=l.ps.length) (fun s=>l.ps.length-s) 0 (Nat.zero_le _) (dG.refl _) ?_
 rintro i hi
 repeat refine sq ?_
 refine rx hΓ [0,9,10,11,12] [] (fun K' hK=>by simp only[go_sem,hO];(repeat (refine⟨ak,?_⟩));exact hK _ (by simp only[go_sem,hO]) (by simp only[go_sem,hO]<;>rfl)) ?_
 repeat refine sq ?_
 refine ax (fun hb=>?_) fun hb=>?_
 ·have ab:i<l.ps.length:=by simpa using hb
  have ao:(i:Int)<l.ps.length:=by omega
  have qQ:IntKind.i64.wrap ((i:Int)+1)=((i+1:Nat):Int):=aV ab mr
  clear hb
  have hpb:0<=(l.ps[i]).lv/\(l.ps[i]).lv<=30:=by
   have :=lN aa.ps ab
   unfold lr b7 at this
   simp at this
   omega
  obtain⟨lv,ri⟩:∃ lv:Nat,(l.ps[i]).lv=lv:=⟨(l.ps[i]).lv.toNat,by omega⟩
  have ct:(l.ps[i]).lv.toNat=lv:=by omega
  repeat refine sq ?_
  refine aC ?_
  repeat refine sq ?_
  refine aI ?_
  repeat refine sq ?_
  refine rx hΓ [0,4,9,10,11] [[4,0]] (fun K' hK=>by simp only[go_sem,hO,ah ab,ai,aj,ao];(repeat (refine⟨ak,?_⟩));exact hK _ (by simp only[go_sem,hO,ah ab,ai,aj,ao]) (by simp only[go_sem,hO,ah ab,ai,aj,ao]<;>rfl)) ?_
  repeat refine sq ?_
  refine rx hΓ [0,4,5,9,10,11] [[4,0]] (fun K' hK=>by simp only[go_sem,hO];(repeat (refine⟨ak,?_⟩));exact hK _ (by simp only[go_sem,hO]) (by simp only[go_sem,hO]<;>rfl)) ?_
  repeat refine sq ?_
  refine aI ?_
  repeat refine sq ?_
  refine wv (fun j:Nat=>be 29 [0] (H ((kf l i).length+j)) [(0,⟨true,.yld [0,1]⟩),(4,⟨true,.ref [4,0] 0⟩),(5,⟨true,.v (vInt ((j+1:Nat):Int))⟩),(9,⟨true,.v (.sl (l.ps.map db))⟩),(10,⟨true,.v (vInt l.ps.length)⟩),(11,⟨true,.v (vInt i)⟩)] [([4,0],.box [.v (vInt (l.ps[i]).id),.v (vInt (l.ps[i]).lv)])])
   (fun j=>j<=lv) (fun j=>lv-j) 0 (Nat.zero_le _) (dG.refl _) ?_
  rintro j hj
  repeat refine sq ?_
  refine rx hΓ [0,4,5,9,10,11,18] [[4,0]] (fun K' hK=>by simp only[go_sem,hO];(repeat (refine⟨ak,?_⟩));exact hK _ (by simp only[go_sem,hO]) (by simp only[go_sem,hO]<;>rfl)) ?_
  repeat refine sq ?_
  refine ax (fun hb=>?_) fun hb=>?_
  ·have kM:j<lv:=by
     have :((j+1:Nat):Int)<=(l.ps[i]).lv:=by simpa using hb
     omega
   have Vx:IntKind.i64.wrap (((j+1:Nat):Int)+1)=((j+1+1:Nat):Int):=aV (n:=100) (by omega) (by unfold maxLen;omega)
   clear hb
   obtain⟨tG,i5⟩:=XH (z:=default) ab (show j<(l.ps[i]).lv.toNat by omega)
   have oL:=fun (F:Name->Option O) (tm:Name)=>j7 _ tG (fun nm=>if own [0] nm=true then F nm else H ((kf l i).length+j) nm) tm fun nm hn=>by
    obtain⟨k,rfl⟩:=th.1 hn
    simp[pq]
   rw[i5]at oL
   have Cv:∀ (obj:Name->Option O) (L:List O),gY obj L [4,0]=obj [4,0]:=fun _ _=>rfl
   repeat refine sq ?_
   refine aC ?_
   repeat refine sq ?_
   refine aI ?_
   repeat refine sq ?_
   refine rx hΓ [0,4,5,9,10,11,27] [[4,0]] (fun K' hK=>by simp only[go_sem,hO,dz,oL,Cv,s8,um,oD,Bool.not_true];(repeat (refine⟨ak,?_⟩));exact hK _ (by simp only[go_sem,hO,dz,oL,Cv,s8,um,oD,Bool.not_true]) (by simp only[go_sem,hO,dz,oL,Cv,s8,um,oD,Bool.not_true]<;>rfl)) ?_
   repeat refine sq ?_
   refine ax (fun hb=>?_) fun hb=>?_
   ·cases hb
   repeat refine sq ?_
   refine aC ?_
   refine bA ?_
   simp only[go_sem]
   refine dd [0,4,5,9,10,11] [[4,0]] ?_ ?_
   ·simp only[go_sem,hO]
   simp only[go_sem,hO]
   repeat refine sq ?_
   refine aS hΓ fun K' hK=>?_
   simp only[go_sem]
   repeat (refine⟨ak,?_⟩)
   refine hK _ ?_
   clear K' hK
   simp only[go_sem]
   refine⟨j+1,kM,by omega,?_⟩
   refine bd [0,4,5,9,10,11] [[4,0]] ?_ ?_<;>simp only[go_sem,hO,Vx,Nat.add_assoc]
  ·have C5:j=lv:=by
     have :¬ ((j+1:Nat):Int)<=(l.ps[i]).lv:=by simpa using hb
     omega
   subst C5
   clear hb
   repeat refine sq ?_
   refine bC ?_
   simp only[go_sem]
   refine dd [0,9,10,11] [] ?_ ?_
   ·simp only[go_sem,hO]
   simp only[go_sem,hO]
   repeat refine sq ?_
   refine aS hΓ fun K' hK=>?_
   simp only[go_sem]
   repeat (refine⟨ak,?_⟩)
   refine hK _ ?_
   clear K' hK
   simp only[go_sem]
   have nw:(kf l (i+1)).length=(kf l i).length+j:=by rw[XI ab,List.length_append,Bh];omega
   refine⟨i+1,ab,by omega,?_⟩
   rw[nw]
   refine bd [0,9,10,11] [] ?_ ?_<;>simp only[go_sem,hO,qQ,aY]
 ·have bj:i=l.ps.length:=by
    have :¬ (i:Int)<l.ps.length:=by simpa using hb
    omega
  subst bj
  clear hb
  repeat refine sq ?_
  refine bC ?_
  simp only[go_sem]
  refine bA ?_
  simp only[go_sem]
  rw[XJ]
  first | exact .inl trivial | exact⟨by simp,fun k=>by simp[pq]⟩
end
open Go
def p5{α β γ δ ε:Type}(A:En α)(B:En β)(C:En γ)(D:En δ)(E':En ε)(p:α->β->γ->δ->ε->Prop)(g:α->β->γ->δ->ε->V)(fl:Bool):PSpec:=
 ⟨fun xs=>match xs with | [x,y,z,u,v]=>A.enc (A.dec x)=x/\B.enc (B.dec y)=y/\C.enc (C.dec z)=z/\D.enc (D.dec u)=u/\E'.enc (E'.dec v)=v/\p (A.dec x) (B.dec y) (C.dec z) (D.dec u) (E'.dec v) | _=>False,
  fun xs=>match xs with | [x,y,z,u,v]=>g (A.dec x) (B.dec y) (C.dec z) (D.dec u) (E'.dec v) | _=>.bool false,fl⟩
attribute [go_sem] p5
noncomputable section
theorem xo{r:Lp}(hr:r.Ok)(cq:∀ j,r.st j=none)(hy:aF Tryz.prog yid r.y.toSpec){l:Led}(aa:bS l)
 (hn:r.n=(cl l).length) (Cr:∀ s,r.vals s=[.agg [.v (vInt ((cl l).getD s default).pa),.v (vInt ((cl l).getD s default).le)]]):aF Tryz.prog 182 (r.it [.ptr [ey l]]).toSpec:=by
 obtain⟨c,hc,h⟩:=NU hy aa (I:=r.I) (fun s=>by rw[Lp.I_len hr,Lp.I_len hr]) (fun s=>Lp.I_clos hr _)
  (fun s hs obj tm ho=>by
    have :=Lp.y_setU hr cq (s:=s) (by rw[hn];exact hs) obj tm ho
    rw[Cr]at this
    exact this)
 refine Lp.it_sound hr cq Tryz.func182 Tryz.ntmps182 (by rfl) (by kernel_rfl) (by decide) ⟨c,hc,lb rfl,?_⟩
 rw[hn]
 exact h
theorem zH{P:Program}{r:Lp}(hr:r.Ok){caps:List V}{g:Operand}{ps:Array Tmp}{asg body:Code}{σ:S}{rest:List Code}{K:Exit->S->Prop}(k k':Nat){f:FuncId}{Ls:List Name}
 (hc:cI σ g=true) (hg:aq σ g=.v (.clo (.func f) [] caps)) (aB:f≠yid) (hs:aF P f (r.it caps).toSpec) (mv:σ.obj (k::σ.pre)=none)
 (he:(List.range σ.nt).map σ.env=r.env Ls) (fh:ps.toList=r.ps) (ha:asg=r.asg) (hb:body=r.body) (hl:Ls.length=r.m) (hn:Ls.Nodup) (hR:(k::σ.pre)∉Ls) (hF:bW σ.obj Ls (r.fam Ls 0))
 (hK:∀ o:O,m8 (fN (fun σ'=>CL P rest σ' K) K) { σ with obj:=upd (bV Ls (r.fam Ls r.e) σ.obj) (k::σ.pre) (some o) } r.pd):CL P (.rangeFunc g ps asg body::rest) σ K:=
 YJ (Γ:=fun x=>if x=f then some (r.it caps).toSpec else none) (fun x s hx=>by
  split at hx
  ·rename_i e;cases hx;subst e;exact hs
  ·cases hx) hr k k' hc hg aB (if_pos rfl) mv he fh ha hb hl hn hR hF hK
def aaI:List (Nat×Spec):=[(108,Al)]
attribute [go_sem] aaI
def aaH:List (Nat×Spec):=[]
attribute [go_sem] aaH
theorem GH{p:Pap}{f:Fol}(h:f∈pf p):f.pa=p.id:=by
 obtain⟨a,_,rfl⟩:=List.mem_map.1 h
 rfl
theorem QP(p:Pap):(pf p).Nodup:=by
 unfold pf
 refine List.Pairwise.map _ (fun a b mD e=>mD ?_) List.nodup_range
 simp at e
 omega
theorem G':∀ ps:List Pap,ps.Pairwise (fun p q=>p.id<q.id)->(ps.flatMap pf).Nodup
 |[],_=>by simp
 |p::r,h=>by
  obtain⟨h1,h2⟩:=List.pairwise_cons.1 h
  rw[List.flatMap_cons,List.nodup_append]
  refine⟨QP p,G' r h2,fun a ha b hb e=>?_⟩
  subst e
  obtain⟨q,hq,hb⟩:=List.mem_flatMap.1 hb
  have e1:=GH ha
  have e2:=GH hb
  have :=h1 q hq
  omega
theorem K8{l:Led}(h:bS l):(cl l).Nodup:=by
 have hs:Go.Eng.srt Pap.id l.ps:=h.srt
 exact G' _ (List.pairwise_iff_getElem.2 fun i j hi hj ew=>hs i j hi hj ew)
theorem DD{l:Led}(h:bS l):(cl l).length<=360:=by
 have hl:∀ ps:List Pap,(∀ p∈ps,p.lv<=30)->(ps.flatMap pf).length<=30*ps.length:=by
  intro ps
  induction ps with
  |nil=>intro _;simp
  |cons p r ih=>
   intro hh
   have h1:=hh p (by simp)
   have h2:=ih fun q hq=>hh q (by simp[hq])
   rw[List.flatMap_cons,List.length_append,Bh,List.length_cons]
   omega
 have h1:=hl l.ps fun p hp=>by
  obtain⟨j,hj,rfl⟩:=List.getElem_of_mem hp
  have :=lN h.ps hj
  unfold lr b7 at this
  simp at this
  omega
 have :=h.psn
 unfold cl
 omega
def ku(f:Fol):D:=.agg [.v (vInt f.pa),.v (vInt f.le)]
theorem K0{l:List Fol}(hn:l.Nodup):∀ s s',s<l.length->s'<l.length->([ku (l.getD s default)]:List D)=[ku (l.getD s' default)]->s=s':=by
 intro s s' h h' e
 rw[dM h,dM h']at e
 have e1:l[s]=l[s']:=by
  generalize l[s]=a at e |-
  generalize l[s']=b at e |-
  obtain⟨a1,a2⟩:=a
  obtain⟨b1,b2⟩:=b
  simp only[ku,List.cons.injEq,D.agg.injEq,D.v.injEq,vInt,V.int.injEq,true_and,and_true]at e
  rw[e.1,e.2]
 exact(List.getElem_inj hn).1 e1
theorem aep(l:List Fol):∀ y∈l.map eH,y.cells.length=2/\y.okc=true:=by
 intro y hy;obtain⟨x,_,rfl⟩:=List.mem_map.1 hy;exact⟨rfl,rfl⟩
end
noncomputable section
def K38:List (Nat×Spec):=[(37,EI),(96,sg),(75,oZ),(78,S78),(93,M2)]
attribute [go_sem] K38
def aaG:List (Nat×Spec):=[]
attribute [go_sem] aaG
end
set_option maxHeartbeats 8000000
noncomputable section
def aR(n m:Int):Int:=(n.tmod m+m).tmod m
theorem Fl{n m:Int}(h:0<m): -m<n.tmod m/\n.tmod m<m:=by
 have h1:=Int.tmod_lt_of_pos n h
 have h2:=Int.tmod_lt_of_pos (-n) h
 rw[Int.neg_tmod]at h2
 omega
theorem dS{n m:Int}(h:0<m):0<=aR n m/\aR n m<m:=by
 unfold aR
 have h1:=Fl (n:=n) h
 exact⟨Int.tmod_nonneg _ (by omega),Int.tmod_lt_of_pos _ h⟩
@[go_sem] def P20:PSpec:=p2 iI iI (fun _ m=>0<m/\m<=1000000) (fun n m=>vInt (aR n m)) true
@[go_sem] def M9:Spec:=P20.toSpec
theorem F0:aT Tryz.prog 20 P20:=by
 refine cV (rs:=[.tmp 4]) Tryz.func20 Tryz.ntmps20 fun n m hp hw=>?_
 simp only[iI]at hw |-
 have hΓ:=@dI Tryz.prog
 have vI:m≠0:=by omega
 have hr:=Fl (n:=n) hp.1
 have vn:IntKind.i64.wrap (n.tmod m+m)=n.tmod m+m:=wrap_i64 (by omega) (by omega)
 repeat refine sq ?_
 refine rx hΓ [0,1] [] (fun K' hK=>by simp only[go_sem];exact an) ?_
 repeat refine sq ?_
 refine rx hΓ [4] [] (fun K' hK=>by simp only[go_sem,vI,vn];exact an) ?_
 refine av ?_
 simp only[go_sem]
 rfl
def Ej(n i:Int):Bool:=IntKind.i64.wrap ((BitVec.ofInt 64 n&&& BitVec.ofInt 64 (IntKind.i64.wrap (1*2 ^ min i.toNat 64))).toNat:Int) != 0
def fk(n:Int):Nat->List Int
 | 0=>[]
 |m+1=>if Ej n ((m+1:Nat):Int)=true then fk n m++[((m+1:Nat):Int)]else fk n m
theorem Mh(n:Int):∀ m,(fk n m).length<=m
 | 0=>Nat.le_refl _
 |m+1=>by
  have :=Mh n m
  rw[fk]
  split
  ·rw[List.length_append];simp;omega
  ·omega
def iz(n many:Int):List Int:=if fk n many.toNat=[]then[1]else fk n many.toNat
@[go_sem] def P83:PSpec:=p2 iI iI (fun _ m=>0<=m/\m<=30) (fun n m=>.sl ((iz n m).map vInt)) false
@[go_sem] def ZD:Spec:=P83.toSpec
theorem Pf:aT Tryz.prog 83 P83:=by
 refine cV (rs:=[.tmp 4]) Tryz.func83 Tryz.ntmps83 fun n m hp hw=>?_
 simp only[iI]at hw |-
 have hΓ:=@dI Tryz.prog
 obtain⟨nn,rfl⟩:∃ nn:Nat,m=nn:=⟨m.toNat,by omega⟩
 have aA:nn+1<=maxLen:=by unfold maxLen;omega
 repeat refine sq ?_
 refine rx hΓ [0,1] [] (fun K' hK=>by simp only[go_sem];exact an) ?_
 repeat refine sq ?_
 refine rx hΓ [0,1,5] [[20,0]] (fun K' hK=>by simp only[go_sem];exact an) ?_
 refine bG (AB 5 [20,0] 1 (by simp only[go_sem]) (by simp only[go_sem]) [0,1,5] [[20,0]] ?_ rfl) ?_
 ·simp only[go_sem]
 simp only[go_sem]
 repeat refine sq ?_
 refine rx hΓ [0,1,5,6] [[20,0]] (fun K' hK=>by simp only[go_sem];exact an) ?_
 repeat refine sq ?_
 refine aI ?_
 repeat refine sq ?_
 refine bT (fun s:Nat=>[(6,⟨true,.v (vInt s)⟩),(5,⟨true,.msl [20,0] (fk n (s-1)).length⟩)]) (fun s=>[([20,0],.arr 1 ((fk n (s-1)).map vInt))]) (fun s=>s<=(nn+1)/\1<=s) (fun s=>(nn+1)-s) 1 ?_ ?_ ?_ ?_
 ·exact⟨by omega,Nat.le_refl 1⟩
 ·rfl
 ·rfl
 rintro i ⟨hi,hR⟩
 have W5:=Mh n (i-1)
 simp only[go_sem]
 repeat refine sq ?_
 refine rx hΓ [0,1,5,6,9] [[20,0]] (fun K' hK=>by simp only[go_sem];exact an) ?_
 repeat refine sq ?_
 refine ax (fun hb=>?_) fun hb=>?_
 ·repeat refine sq ?_
  have ab:i<nn+1:=by
   have :(i:Int)<=nn:=by simpa using hb
   omega
  refine aC ?_
  repeat refine sq ?_
  refine aI ?_
  repeat refine sq ?_
  refine rx hΓ [0,1,5,6,16] [[20,0]] (fun K' hK=>by simp only[go_sem];exact an) ?_
  repeat refine sq ?_
  refine ax (fun hb=>?_) fun hb=>?_
  ·repeat refine sq ?_
   have eS:fk n (i+1-1)=fk n (i-1)++[(i:Int)]:=by
    obtain⟨m,rfl⟩:∃ m,i=m+1:=⟨i-1,by omega⟩
    rw[Nat.add_sub_cancel,Nat.add_sub_cancel,fk,if_pos (show Ej n ((m+1:Nat):Int)=true from hb)]
   repeat refine sq ?_
   refine aS hΓ fun K' hK=>?_
   simp only[go_sem]
   repeat (refine⟨ak,?_⟩)
   refine hK _ ?_
   clear K' hK
   simp only[go_sem]
   refine kp [0,1,5,6] [[20,0]] ?_
   repeat refine sq ?_
   refine aS hΓ fun K' hK=>?_
   simp only[go_sem]
   repeat (refine⟨ak,?_⟩)
   refine hK _ ?_
   clear K' hK
   simp only[go_sem]
   refine⟨i+1,⟨ab,?_⟩,by(show (nn+1)-(i+1)<(nn+1)-i;omega),?_⟩
   ·omega
   refine bd [0,1,5,6] [[20,0]] ?_ ?_<;>simp only[go_sem,aV ab aA,aY,eS,List.map_append,List.length_append,List.map_cons,List.map_nil,List.length_cons,List.length_nil]
  ·repeat refine sq ?_
   have eS:fk n (i+1-1)=fk n (i-1):=by
    obtain⟨m,rfl⟩:∃ m,i=m+1:=⟨i-1,by omega⟩
    rw[Nat.add_sub_cancel,Nat.add_sub_cancel,fk,if_neg (fun h=>by rw[show Ej n ((m+1:Nat):Int)=false from hb]at h;cases h)]
   refine aC ?_
   refine bA ?_
   simp only[go_sem]
   refine kp [0,1,5,6] [[20,0]] ?_
   repeat refine sq ?_
   refine aS hΓ fun K' hK=>?_
   simp only[go_sem]
   repeat (refine⟨ak,?_⟩)
   refine hK _ ?_
   clear K' hK
   simp only[go_sem]
   refine⟨i+1,⟨ab,?_⟩,by(show (nn+1)-(i+1)<(nn+1)-i;omega),?_⟩
   ·omega
   refine bd [0,1,5,6] [[20,0]] ?_ ?_<;>simp only[go_sem,aV ab aA,aY,eS,List.map_append,List.length_append,List.map_cons,List.map_nil,List.length_cons,List.length_nil]
 ·repeat refine sq ?_
  have bj:i=nn+1:=by
   have :¬ (i:Int)<=nn:=by simpa using hb
   omega
  subst bj
  rw[Nat.add_sub_cancel]at W5
  refine bC ?_
  simp only[go_sem]
  refine kp [5] [[20,0]] ?_
  repeat refine sq ?_
  refine rx hΓ [5,23] [[20,0]] (fun K' hK=>by simp only[go_sem];exact an) ?_
  repeat refine sq ?_
  refine ax (fun hb=>?_) fun hb=>?_
  ·repeat refine sq ?_
   have hz:fk n nn=[]:=by
    apply List.eq_nil_of_length_eq_zero
    have :((fk n nn).length:Int)=0:=by simpa using hb
    omega
   have e:iz n nn=[1]:=by unfold iz;rw[ai,if_pos hz]
   repeat refine sq ?_
   refine rx hΓ [5] [[20,0]] (fun K' hK=>by simp only[go_sem];exact an) ?_
   repeat refine sq ?_
   refine rx hΓ [4] [[20,0]] (fun K' hK=>by simp only[go_sem];exact an) ?_
   refine av ?_
   simp only[go_sem]
   first | (rw[e];done) | (rw[e];rfl) | trace_state
  ·repeat refine sq ?_
   have hz:¬ fk n nn=[]:=by
    intro h
    have h2:(((fk n nn).length:Int)==0)=false:=hb
    rw[h]at h2
    cases h2
   have e:iz n nn=fk n nn:=by unfold iz;rw[ai,if_neg hz]
   refine aC ?_
   repeat refine sq ?_
   refine rx hΓ [4] [[20,0]] (fun K' hK=>by simp only[go_sem];exact an) ?_
   refine av ?_
   simp only[go_sem]
   first | (rw[e];done) | (rw[e];rfl) | trace_state
end
set_option maxHeartbeats 8000000
noncomputable section
def dW(l:Led)(so k:Int):Int:=bY (fun r=>r.so==so&&di r.kn r.un k) l.rs
def ow(so k:Int)(r:Rec):Bool:=r.so==so&&di r.kn r.un k
theorem Qc{l:Led}{so k:Int}{i:Nat}(h:i<l.rs.length)(hp:ow so k l.rs[i]=true)(hn:∀ j (hj:j<l.rs.length),j<i->ow so k l.rs[j]=false):dW l so k=i:=mi h hp hn
theorem Qb{l:Led}{so k:Int}(hn:∀ j (hj:j<l.rs.length),j<l.rs.length->ow so k l.rs[j]=false):dW l so k= -1:=by
 unfold dW bY
 rw[if_neg]
 intro h
 obtain⟨x,hx,hp⟩:=List.any_eq_true.1 h
 obtain⟨j,hj,rfl⟩:=List.getElem_of_mem hx
 have :=hn j hj hj
 unfold ow at this
 rw[this]at hp
 exact absurd hp (by decide)
def K39:List (Nat×Spec):=[(157,Ak)]
theorem aaF:KS K39:=tc AU.sound<|tn
attribute [go_sem] K39
@[go_sem] def P70:PSpec:=p3 iL iI iI (fun l _ _=>l.rs.length<=60) (fun l so k=>vInt (dW l so k)) true
@[go_sem] def EH:Spec:=P70.toSpec
theorem Pm:aT Tryz.prog 70 P70:=by
 refine o7 (rs:=[.tmp 6]) Tryz.func70 Tryz.ntmps70 fun l so k hp hw=>?_
 simp only[iI,iL,fD]at hw |-
 have hΓ:=aaF
 have hl:l.rs.length<=maxLen:=by unfold maxLen;omega
 repeat refine sq ?_
 refine rx hΓ [1,2,3] [[3,0]] (fun K' hK=>by simp only[go_sem];exact an) ?_
 repeat refine sq ?_
 refine rx hΓ [1,2,3,7] [[3,0]] (fun K' hK=>by simp only[go_sem];exact an) ?_
 repeat refine sq ?_
 refine aI ?_
 repeat refine sq ?_
 refine bT (fun s:Nat=>[(7,⟨true,.v (vInt s)⟩)]) (fun s=>[]) (fun s=>s<=l.rs.length/\∀ j (hj:j<l.rs.length),j<s->ow so k l.rs[j]=false) (fun s=>l.rs.length-s) 0 ?_ ?_ ?_ ?_
 ·exact⟨Nat.zero_le _,by simp⟩
 ·rfl
 ·rfl
 rintro i ⟨hi,hR⟩
 simp only[go_sem]
 repeat refine sq ?_
 refine rx hΓ [1,2,3,7,13] [[3,0]] (fun K' hK=>by simp only[go_sem];exact an) ?_
 repeat refine sq ?_
 refine ax (fun hb=>?_) fun hb=>?_
 ·have ab:i<l.rs.length:=by simpa using hb
  have ao:(i:Int)<l.rs.length:=by omega
  clear hb
  repeat refine sq ?_
  refine aC ?_
  repeat refine sq ?_
  refine aI ?_
  repeat refine sq ?_
  refine rx hΓ [1,2,3,7,8] [[3,0],[8,0]] (fun K' hK=>by simp only[go_sem,ah ab,ai,aj,ao];exact an) ?_
  repeat refine sq ?_
  refine rx hΓ [1,2,3,7,32] [[3,0]] (fun K' hK=>by simp only[go_sem,ah ab,ai,aj,ao];exact an) ?_
  repeat refine sq ?_
  refine ax (fun hb=>?_) fun hb=>?_
  ·repeat refine sq ?_
   have e:dW l so k=i:=Qc ab (by unfold ow;simpa using hb) (fun j hj dw=>hR j hj dw)
   repeat refine sq ?_
   refine rx hΓ [6] [] (fun K' hK=>by simp only[go_sem,ah ab,ai,aj,ao];exact an) ?_
   refine av ?_
   simp only[go_sem]
   rw[e]
  ·repeat refine sq ?_
   refine aC ?_
   refine bA ?_
   simp only[go_sem]
   refine kp [1,2,3,7] [[3,0]] ?_
   repeat refine sq ?_
   refine aS hΓ fun K' hK=>?_
   simp only[go_sem,ah ab,ai,aj,ao]
   repeat (refine⟨ak,?_⟩)
   refine hK _ ?_
   clear K' hK
   simp only[go_sem]
   refine⟨i+1,⟨ab,?_⟩,by(show l.rs.length-(i+1)<l.rs.length-i;omega),?_⟩
   ·intro j hj dw
    rcases Nat.lt_succ_iff_lt_or_eq.1 dw with h5 | rfl
    ·exact hR j hj h5
    ·unfold ow;simpa using hb
   refine bd [1,2,3,7] [[3,0]] ?_ ?_<;>simp only[go_sem,aV ab hl,aY]
 ·have bj:i=l.rs.length:=by
   have :¬ (i:Int)<l.rs.length:=by simpa using hb
   omega
  clear hb
  subst bj
  repeat refine sq ?_
  refine bC ?_
  simp only[go_sem]
  refine kp [] [] ?_
  repeat refine sq ?_
  refine rx hΓ [6] [] (fun K' hK=>by simp only[go_sem];exact an) ?_
  refine av ?_
  simp only[go_sem]
  rw[Qb hR]
def wm(t:Ret)(r:Rec):Int:=dJ t.lo (r.da+1)
def Gn(r:Rec):Prop:=0<=r.da/\r.da<=100000
@[go_sem] def P158:PSpec:=p2 iT iR (fun _ r=>Gn r) (fun t r=>vInt (wm t r)) true
@[go_sem] def EM:Spec:=P158.toSpec
theorem PX:aT Tryz.prog 158 P158:=by
 refine cV (rs:=[.tmp 4]) Tryz.func158 Tryz.ntmps158 fun t r hp hw=>?_
 simp only[iR,iT,encR,encT]at hw |-
 have hΓ:=@dI Tryz.prog
 have gv:=wY hp
 repeat refine sq ?_
 refine rx hΓ [2,3] [[2,0],[3,0]] (fun K' hK=>by simp only[go_sem];exact an) ?_
 repeat refine sq ?_
 refine rx hΓ [4] [] (fun K' hK=>by simp only[go_sem,gv];exact an) ?_
 refine av ?_
 simp only[go_sem]
 all_goals exact dp
def Ac(l:Led)(ds:List Int):Int:=if uQ l=false then 24 else if ds.all dayB then 0 else 6
def aaE:List (Nat×Spec):=[]
attribute [go_sem] aaE
end
noncomputable section
theorem GY{l:Led}(h:bS l){r:Rec}(hr:r∈l.rs):Gn r:=by
 obtain⟨j,hj,rfl⟩:=List.getElem_of_mem hr
 have :=lN h.rs hj
 unfold dO at this
 simp only[Bool.and_eq_true]at this
 have hd:=this.1.2
 unfold dayB b7 at hd
 simp at hd
 exact hd
theorem Q9{l:Led}(h:bS l){i:Nat}(hi:i<l.ts.length):l.ts[i].lv.length<=30:=by
 have :=lN h.ts hi
 unfold jo at this
 simp only[Bool.and_eq_true]at this
 exact(ot.1 this.1.1.1.2).2.1
def cp(l:Led)(i:Nat):Rec:=l.rs.getD i zeroR
theorem AZ(l:Led)(so k:Int):dW l so k= -1\/∃ j,∃ h:j<l.rs.length,dW l so k=(j:Int)/\ow so k l.rs[j]=true:=by
 unfold dW bY
 by_cases h:(l.rs.any fun r=>r.so==so&&di r.kn r.un k)=true
 ·rw[if_pos h]
  have ab:l.rs.findIdx (fun r=>r.so==so&&di r.kn r.un k)<l.rs.length:=List.findIdx_lt_length_of_exists (by obtain⟨x,hx,hp⟩:=List.any_eq_true.1 h;exact⟨x,hx,hp⟩)
  exact .inr ⟨_,ab,rfl,List.findIdx_getElem (w:=ab)⟩
 ·rw[if_neg h];exact .inl rfl
def l3(l:Led)(row:List Bool)(x:Ret)(f:Int)(j:Nat):Bool:=!(row.getD j false&&(aN l j).re==x.re&&(aN l j).lv.contains f)
def kX(p:Nat->Bool)(j:Nat):Bool:=(List.range j).all p
def om(l:Led)(row:List Bool)(i:Nat)(r:Rec)(x:Ret)(f:Int):Bool:=r.lv.contains f&&kX (l3 l row x f) i
def iM(l:Led)(k:Int)(row:List Bool)(i:Nat):Bool:=
 if dW l (aN l i).re k<0 then false else
   (di (aN l i).kn (aN l i).un k&&!decide (wm (aN l i) (cp l (dW l (aN l i).re k).toNat)>(aN l i).hi))&&
     (aN l i).lv.all (om l row i (cp l (dW l (aN l i).re k).toNat) (aN l i))
def bF(l:Led)(k:Int):Nat->List Bool
 | 0=>List.replicate l.ts.length false
 |s+1=>if iM l k (bF l k s) s=true then(bF l k s).set s true else bF l k s
theorem qt(l:Led)(k:Int)(s:Nat):(bF l k s).length=l.ts.length:=by
 induction s with
 |zero=>simp[bF]
 |succ s ih=>unfold bF;split<;>simp[ih]
theorem xd(l:Led)(k:Int){s j:Nat}(h:s<=j):(bF l k s).getD j false=false:=by
 induction s with
 |zero=>
  simp only[bF,List.getD_eq_getElem?_getD,List.getElem?_replicate]
  split<;>rfl
 |succ s ih=>
  unfold bF
  split
  ·rw[List.getD_eq_getElem?_getD,List.getElem?_set_ne (by omega),<-List.getD_eq_getElem?_getD];exact ih (by omega)
  ·exact ih (by omega)
theorem Fp(l:Led)(k:Int){s:Nat}(h:s<l.ts.length):(bF l k s).set s (iM l k (bF l k s) s)=bF l k (s+1):=by
 rw[bF]
 split
 ·rename_i e;rw[e]
 ·rename_i e
  have e2:iM l k (bF l k s) s=false:=by simpa using e
  have e3:=xd l k (Nat.le_refl s)
  rw[List.getD_eq_getElem?_getD,List.getElem?_eq_getElem (by rw[qt];exact h)]at e3
  have e4:(bF l k s)[s]'(by rw[qt];exact h)=false:=e3
  rw[e2,<-e4]
  exact List.set_getElem_self _
theorem xc(l:Led)(k:Int){s:Nat}(e:iM l k (bF l k s) s=false):bF l k (s+1)=bF l k s:=by
 rw[bF,if_neg (by rw[e];decide)]
theorem QA(l:Led)(k:Int):List.replicate l.ts.length (V.bool false)=(bF l k 0).map V.bool:=by rw[bF,List.map_replicate]
theorem lk{l:Led}{i:Nat}(h:i<l.rs.length):cp l i=l.rs[i]:=by unfold cp;rw[List.getD_eq_getElem?_getD,List.getElem?_eq_getElem h];rfl
theorem uW{L:List Bool}{j:Nat}{d:V}(h:j<L.length):(L.map V.bool).getD j d=.bool (L.getD j false):=by
 simp[List.getD_eq_getElem?_getD,h]
theorem Zk(p:Nat->Bool)(j:Nat):kX p (j+1)=(kX p j&&p j):=by
 unfold kX
 rw[List.range_succ,List.all_append];simp
theorem xU:decide ((-1:Int)<0)=true:=rfl
theorem OB(row:List Bool)(i:Nat)(b:Bool):(row.map V.bool).set i (.bool b)=(row.set i b).map V.bool:=List.map_set.symm
def K40:List (Nat×Spec):=[(70,EH),(157,Ak),(158,EM),(15,uj)]
theorem aaC:KS K40:=tc Pm.sound<|tc AU.sound<|tc PX.sound<|tc AW.sound<|tn
attribute [go_sem] K40
@[go_sem] def P71:PSpec:=p2 iL iI (fun l _=>bS l) (fun l k=>.sl ((bF l k l.ts.length).map .bool)) false
@[go_sem] def M6:Spec:=P71.toSpec
set_option maxHeartbeats 8000000 in
theorem Pl:aT Tryz.prog 71 P71:=by
 refine cV (rs:=[.tmp 4]) Tryz.func71 Tryz.ntmps71 fun l k hp hw=>?_
 have hP:=eE
 simp only[iI,iL,fD]at hw |-
 have hΓ:=aaC
 have iZ:=hp.rsn
 have yv:=hp.tsn
 have gg:l.ts.length<=maxLen:=by unfold maxLen;omega
 repeat refine sq ?_
 refine rx hΓ [1,2] [[2,0]] (fun K' hK=>by simp only[go_sem];exact an) ?_
 repeat refine sq ?_
 refine rx hΓ [1,2,5] [[2,0],[15,0]] (fun K' hK=>by simp only[go_sem,ai,QA l k];exact an) ?_
 repeat refine sq ?_
 refine rx hΓ [1,2,5,6] [[2,0],[15,0]] (fun K' hK=>by simp only[go_sem];exact an) ?_
 repeat refine sq ?_
 refine aI ?_
 repeat refine sq ?_
 refine bT (fun s:Nat=>[(6,⟨true,.v (vInt s)⟩)]) (fun s=>[([15,0],.arr 1 ((bF l k s).map .bool))]) (fun s=>s<=l.ts.length) (fun s=>l.ts.length-s) 0 ?_ ?_ ?_ ?_
 ·exact Nat.zero_le _
 ·rfl
 ·rfl
 rintro i hi
 simp only[go_sem]
 repeat refine sq ?_
 refine rx hΓ [1,2,5,6,20] [[2,0],[15,0]] (fun K' hK=>by simp only[go_sem];exact an) ?_
 repeat refine sq ?_
 refine ax (fun hb=>?_) fun hb=>?_
 ·have ab:i<l.ts.length:=by simpa using hb
  have ao:(i:Int)<l.ts.length:=by omega
  clear hb
  have pK:=qt l k i
  generalize Cy:bF l k i=row at pK
  repeat refine sq ?_
  refine aC ?_
  repeat refine sq ?_
  refine aI ?_
  repeat refine sq ?_
  refine rx hΓ [1,2,5,6,7] [[2,0],[7,0],[15,0]] (fun K' hK=>by simp only[go_sem,ah ab,ai,aj,ao];exact an) ?_
  repeat refine sq ?_
  refine rx hΓ [1,2,5,6,7,8] [[2,0],[7,0],[15,0]] (fun K' hK=>by simp only[go_sem,ah ab,ai,aj,ao,iZ];exact an) ?_
  rcases AZ l l.ts[i].re k with gx | ⟨j0,cY,gx,hrp⟩
  ·repeat refine sq ?_
   refine dx hΓ hP [[],[0],[0,1],[0,1,2],u4,[0,1,2],[0,1,2,5],[0,1,2],u8,u9,dq,fm,fM,fM,[0,1,2,3,4,5,6,7,8,9,10,11,13],fM,[0,1,2,3,4,5,6,7,8,9,10,11,13,14,15],[0,1,2,3,4,5,6,7,8,9,10,11,13,14,15,16],iJ,fM,[0,1,2,3,4,5,6,7,8,9,10,11,19],[0,1,2,3,4,5,6,7,8,9,10,11,19,20],xb,sx] [1,2,5,6,7,8,56] [[2,0],[7,0],[15,0]] (by kernel_rfl) (fun K' hK=>by simp only[go_sem,ah ab,ai,aj,ao,gx,List.length_map];(repeat (refine⟨by first | exact ak | exact fun h=>⟨h,GY hp (List.getElem_mem cY)⟩ | (cases di l.ts[i].kn l.ts[i].un k<;>rfl),?_⟩));exact jB) ?_
   repeat refine sq ?_
   refine ax (fun hb=>?_) fun hb=>?_
   ·repeat refine sq ?_
    have e0:bF l k (i+1)=row:=by
     rw[xc l k (by unfold iM;rw[lf ab,gx];rfl),Cy]
    refine bC ?_
    simp only[go_sem]
    refine kp [1,2,5,6] [[2,0],[15,0]] ?_
    repeat refine sq ?_
    refine aS hΓ fun K' hK=>?_
    simp only[go_sem,ah ab,ai,aj,ao,gx]
    repeat (refine⟨ak,?_⟩)
    refine hK _ ?_
    clear K' hK
    simp only[go_sem]
    refine⟨i+1,ab,by(show l.ts.length-(i+1)<l.ts.length-i;omega),?_⟩
    refine bd [1,2,5,6] [[2,0],[15,0]] ?_ ?_<;>simp only[go_sem,aV ab gg,aY,e0]
   ·cases hb
  ·have gi:decide ((j0:Int)<0)=false:=by simp
   have C6:(j0:Int)<l.rs.length:=by omega
   repeat refine sq ?_
   refine dx hΓ hP [[],[0],[0,1],[0,1,2],u4,[0,1,2],[0,1,2,5],[0,1,2],u8,u9,dq,fm,fM,fM,[0,1,2,3,4,5,6,7,8,9,10,11,13],fM,[0,1,2,3,4,5,6,7,8,9,10,11,13,14,15],[0,1,2,3,4,5,6,7,8,9,10,11,13,14,15,16],iJ,fM,[0,1,2,3,4,5,6,7,8,9,10,11,19],[0,1,2,3,4,5,6,7,8,9,10,11,19,20],xb,sx] [1,2,5,6,7,8,56] [[2,0],[7,0],[15,0]] (by kernel_rfl) (fun K' hK=>by simp only[go_sem,ah ab,ai,aj,ao,gx,ah cY,gi,List.length_map];(repeat (refine⟨by first | exact ak | exact fun h=>⟨h,GY hp (List.getElem_mem cY)⟩ | (cases di l.ts[i].kn l.ts[i].un k<;>rfl),?_⟩));exact jB) ?_
   repeat refine sq ?_
   refine ax (fun hb=>?_) fun hb=>?_
   ·repeat refine sq ?_
    have e0:bF l k (i+1)=row:=by
     rw[xc l k (by unfold iM;rw[lf ab,gx,if_neg (by omega),ai,lk cY];simp only[Bool.and_eq_false_iff];exact .inl (by simpa[Bool.and_eq_false_iff]using hb)),Cy]
    refine bC ?_
    simp only[go_sem]
    refine kp [1,2,5,6] [[2,0],[15,0]] ?_
    repeat refine sq ?_
    refine aS hΓ fun K' hK=>?_
    simp only[go_sem,ah ab,ai,aj,ao,gx,ah cY,gi]
    repeat (refine⟨ak,?_⟩)
    refine hK _ ?_
    clear K' hK
    simp only[go_sem]
    refine⟨i+1,ab,by(show l.ts.length-(i+1)<l.ts.length-i;omega),?_⟩
    refine bd [1,2,5,6] [[2,0],[15,0]] ?_ ?_<;>simp only[go_sem,aV ab gg,aY,e0]
   ·repeat refine sq ?_
    have Ku:di l.ts[i].kn l.ts[i].un k=true:=by cases WR:di l.ts[i].kn l.ts[i].un k with | true=>rfl | false=>rw[WR]at hb;simp at hb
    have WE:¬ wm l.ts[i] l.rs[j0]>l.ts[i].hi:=by rw[Ku]at hb;simpa using hb
    have VH:iM l k row i=l.ts[i].lv.all (om l row i l.rs[j0] l.ts[i]):=by
     unfold iM
     rw[lf ab,gx,if_neg (by omega),ai,lk cY,Ku,decide_eq_false WE]
     rfl
    have JK:=Q9 hp ab
    have Cq:l.ts[i].lv.length<=maxLen:=by unfold maxLen;omega
    clear hb
    refine aC ?_
    repeat refine sq ?_
    refine rx hΓ [1,2,5,6,7,8,9] [[2,0],[7,0],[15,0]] (fun K' hK=>by simp only[go_sem,ah ab,ai,aj,ao,gx,ah cY,gi];exact an) ?_
    repeat refine sq ?_
    refine rx hΓ [1,2,5,6,7,8,9,10] [[2,0],[7,0],[15,0]] (fun K' hK=>by simp only[go_sem,ah ab,ai,aj,ao,gx,ah cY,gi];exact an) ?_
    repeat refine sq ?_
    refine aI ?_
    repeat refine sq ?_
    refine bT (fun s:Nat=>[(10,⟨true,.v (vInt s)⟩),(9,⟨true,.v (.bool ((l.ts[i].lv.take s).all (om l row i l.rs[j0] l.ts[i])))⟩)]) (fun s=>[]) (fun s=>s<=l.ts[i].lv.length) (fun s=>l.ts[i].lv.length-s) 0 ?_ ?_ ?_ ?_
    ·exact Nat.zero_le _
    ·rfl
    ·rfl
    rintro i1 hi
    generalize hB:(l.ts[i].lv.take i1).all (om l row i l.rs[j0] l.ts[i])=B
    simp only[go_sem]
    repeat refine sq ?_
    refine rx hΓ [1,2,5,6,7,8,9,10,61] [[2,0],[7,0],[15,0]] (fun K' hK=>by simp only[go_sem,ah ab,ai,aj,ao,gx,ah cY,gi];exact an) ?_
    repeat refine sq ?_
    refine ax (fun hb=>?_) fun hb=>?_
    ·have aJ:i1<l.ts[i].lv.length:=by simpa using hb
     have bq:(i1:Int)<l.ts[i].lv.length:=by omega
     clear hb
     have hA:(l.ts[i].lv.take (i1+1)).all (om l row i l.rs[j0] l.ts[i])=(kX (l3 l row l.ts[i] l.ts[i].lv[i1]) i&&(B&&l.rs[j0].lv.contains l.ts[i].lv[i1])):=by rw[<-hB,wI aJ,om,<-Bool.and_assoc,Bool.and_comm]
     repeat refine sq ?_
     refine aC ?_
     repeat refine sq ?_
     refine aI ?_
     repeat refine sq ?_
     refine dx hΓ hP [[],[0],[0,1],[0,1,2],[0,1],u5,u6,u7,[0,1],[0,1,8],[0,1],[0,1,8,9,10],[0,1,8,9,10,11],qs,ji,pb] [1,2,5,6,7,8,9,10] [[2,0],[7,0],[15,0]] (by kernel_rfl) (fun K' hK=>by simp only[go_sem,ah ab,ai,aj,ao,gx,ah cY,gi,ah aJ,ai,aj,bq,ah cY,C6];exact oT) ?_
     repeat refine sq ?_
     refine rx hΓ [1,2,5,6,7,8,9,10,11] [[2,0],[7,0],[15,0]] (fun K' hK=>by simp only[go_sem,ah ab,ai,aj,ao,gx,ah cY,gi,ah aJ,ai,aj,bq];exact an) ?_
     repeat refine sq ?_
     refine aI ?_
     repeat refine sq ?_
     refine bT (fun s:Nat=>[(11,⟨true,.v (vInt s)⟩),(9,⟨true,.v (.bool (kX (l3 l row l.ts[i] l.ts[i].lv[i1]) s&&(B&&l.rs[j0].lv.contains l.ts[i].lv[i1])))⟩)]) (fun s=>[]) (fun s=>s<=i) (fun s=>i-s) 0 ?_ ?_ ?_ ?_
     ·exact Nat.zero_le _
     ·rfl
     ·rfl
     rintro j hi
     generalize hC:(kX (l3 l row l.ts[i] l.ts[i].lv[i1]) j&&(B&&l.rs[j0].lv.contains l.ts[i].lv[i1]))=C
     simp only[go_sem]
     repeat refine sq ?_
     refine rx hΓ [1,2,5,6,7,8,9,10,11,81] [[2,0],[7,0],[15,0]] (fun K' hK=>by simp only[go_sem,ah ab,ai,aj,ao,gx,ah cY,gi,ah aJ,ai,aj,bq];exact an) ?_
     repeat refine sq ?_
     refine ax (fun hb=>?_) fun hb=>?_
     ·have ct:j<i:=by simpa using hb
      have gP:(j:Int)<i:=by omega
      clear hb
      have C4:j<l.ts.length:=by omega
      have Kf:j<row.length:=by omega
      have Ke:(j:Int)<l.ts.length:=by omega
      have hT:(kX (l3 l row l.ts[i] l.ts[i].lv[i1]) (j+1)&&(B&&l.rs[j0].lv.contains l.ts[i].lv[i1]))=(C&&!((row.getD j false&&l.ts[j].re==l.ts[i].re)&&l.ts[j].lv.contains l.ts[i].lv[i1])):=by
       rw[<-hC,Zk,l3,lf C4,Bool.and_right_comm]
      repeat refine sq ?_
      refine aC ?_
      repeat refine sq ?_
      refine aI ?_
      repeat refine sq ?_
      refine mO hΓ hP [[],[0],[0,1],[0,1],u4,u5,u6,u7,u8,u7,dq,fm,fM,u7,[0,1,2,3,4,5,6,13],pb,u16,nP,iJ,o9,iJ,uB,xb,sx,iJ,[0,1,2,3,4,5,6,7,8,9,10,11,12,13,14,15,16,17,24],iJ,[0,1,2,3,4,5,6,7,8,9,10,11,12,13,14,15,16,17,24,25,26],[0,1,2,3,4,5,6,7,8,9,10,11,12,13,14,15,16,17,24,25,26,27],w8,Fh,Fg,u32,N0] (by kernel_rfl) fun K' hK=>?_
      simp only[go_sem,ah ab,ai,aj,ao,gx,ah cY,gi,ah aJ,ai,aj,bq,ah ab,ah aJ,ah cY,C6,uW Kf,ah C4,Ke,bq,ao,ai,aj,List.length_map,Bool.decide_and,Bool.decide_eq_true]
      repeat (refine⟨ak,?_⟩)
      first | refine⟨by rfl,?_⟩ | skip
      refine hK _ ?_
      clear K' hK
      simp only[go_sem]
      refine kp [1,2,5,6,7,8,9,10,11] [[2,0],[7,0],[15,0]] ?_
      repeat refine sq ?_
      refine aS hΓ fun K' hK=>?_
      simp only[go_sem,ah ab,ai,aj,ao,gx,ah cY,gi,ah aJ,ai,aj,bq,ah ab,ah aJ,ah cY,C6,uW Kf,ah C4,Ke,bq,ao,ai,aj,List.length_map]
      repeat (refine⟨ak,?_⟩)
      refine hK _ ?_
      clear K' hK
      simp only[go_sem]
      refine⟨j+1,ct,by(show i-(j+1)<i-j;omega),?_⟩
      refine bd [1,2,5,6,7,8,9,10,11] [[2,0],[7,0],[15,0]] ?_ ?_<;>simp only[go_sem,aV ct (by omega),aY,hT]
     ·have mA:j=i:=by
       have :¬ (j:Int)<i:=by simpa using hb
       omega
      clear hb
      rw[mA]at hC
      repeat refine sq ?_
      refine bC ?_
      simp only[go_sem]
      refine kp [1,2,5,6,7,8,9,10] [[2,0],[7,0],[15,0]] ?_
      repeat refine sq ?_
      refine aS hΓ fun K' hK=>?_
      simp only[go_sem,ah ab,ai,aj,ao,gx,ah cY,gi,ah aJ,ai,aj,bq]
      repeat (refine⟨ak,?_⟩)
      refine hK _ ?_
      clear K' hK
      simp only[go_sem]
      refine⟨i1+1,aJ,by(show l.ts[i].lv.length-(i1+1)<l.ts[i].lv.length-i1;omega),?_⟩
      refine bd [1,2,5,6,7,8,9,10] [[2,0],[7,0],[15,0]] ?_ ?_<;>simp only[go_sem,aV aJ Cq,aY,hA,hC]
    ·have gz:i1=l.ts[i].lv.length:=by
      have :¬ (i1:Int)<l.ts[i].lv.length:=by simpa using hb
      omega
     clear hb
     subst gz
     repeat refine sq ?_
     refine bC ?_
     simp only[go_sem]
     refine kp [1,2,5,6,9] [[2,0],[15,0]] ?_
     have e0:bF l k (i+1)=row.set i B:=by
      rw[<-Fp l k ab,Cy,VH,<-hB,List.take_length]
     repeat refine sq ?_
     refine aS hΓ fun K' hK=>?_
     simp only[go_sem,ah ab,ai,aj,ao,gx,ah cY,gi,OB]
     repeat (refine⟨ak,?_⟩)
     refine hK _ ?_
     clear K' hK
     simp only[go_sem]
     refine kp [1,2,5,6] [[2,0],[15,0]] ?_
     repeat refine sq ?_
     refine aS hΓ fun K' hK=>?_
     simp only[go_sem,ah ab,ai,aj,ao,gx,ah cY,gi]
     repeat (refine⟨ak,?_⟩)
     refine hK _ ?_
     clear K' hK
     simp only[go_sem]
     refine⟨i+1,ab,by(show l.ts.length-(i+1)<l.ts.length-i;omega),?_⟩
     refine bd [1,2,5,6] [[2,0],[15,0]] ?_ ?_<;>simp only[go_sem,aV ab gg,aY,e0]
 ·have bj:i=l.ts.length:=by
   have :¬ (i:Int)<l.ts.length:=by simpa using hb
   omega
  clear hb
  subst bj
  repeat refine sq ?_
  refine bC ?_
  simp only[go_sem]
  refine kp [5] [[15,0]] ?_
  repeat refine sq ?_
  refine rx hΓ [4] [[15,0]] (fun K' hK=>by simp only[go_sem];exact an) ?_
  refine av ?_
  simp only[go_sem]
  rw[qt]
end
noncomputable section
structure RV where
 l:Led
 k:Int
 ts:List Bool
 ds:List Rg
 deriving Inhabited
def DR(x:RV):V:=.agg [.sl (x.l.ps.map db),.sl (x.l.rs.map encR),.sl (x.l.ts.map encT),.sl (x.l.ss.map encS),vInt x.k,.sl (x.ts.map .bool),.sl (x.ds.map rN)]
def LF:V->RV
 | .agg [.sl a,.sl b,.sl c,.sl d,.int _ k,.sl t,.sl g]=>⟨⟨a.map p8,b.map gF,c.map iv,d.map jd⟩,k,t.map zy,g.map tW⟩
 |_=>default
theorem X8(r:Rg):tW (rN r)=r:=rfl
@[go_sem] theorem aeG(l:List Rg):(l.map rN).map tW=l:=pz X8 l
def nj:En RV:=⟨DR,LF⟩
attribute [go_sem] DR LF nj rN tW
@[go_sem] theorem aeA(x:RV):(⟨x.l,x.k,x.ts,x.ds⟩:RV)=x:=rfl
def l5(x:RV)(so f:Int)(j:Nat):Bool:=(x.ts.getD j false&&(aN x.l j).re==so)&&(aN x.l j).lv.contains f
def ll(x:RV)(i:Nat)(f:Int):Int:=if (List.range x.ts.length).any (l5 x (cp x.l i).so f)=true then((List.range x.ts.length).findIdx (l5 x (cp x.l i).so f):Int)else -1
theorem Qv{x:RV}{i:Nat}{f:Int}{j:Nat}(h:j<x.ts.length)(hp:l5 x (cp x.l i).so f j=true)(hn:∀ m,m<x.ts.length->m<j->l5 x (cp x.l i).so f m=false):ll x i f=j:=by
 have :=mi (p:=l5 x (cp x.l i).so f) (l:=List.range x.ts.length) (i:=j) (by simpa using h) (by simpa using hp) (fun m hm np=>by simpa using hn m (by simpa using hm) np)
 exact this
theorem Qu{x:RV}{i:Nat}{f:Int}(hn:∀ m,m<x.ts.length->m<x.ts.length->l5 x (cp x.l i).so f m=false):ll x i f= -1:=by
 unfold ll
 rw[if_neg]
 intro h
 obtain⟨m,hm,hp⟩:=List.any_eq_true.1 h
 have jV:m<x.ts.length:=by simpa using hm
 rw[hn m jV jV]at hp
 exact absurd hp (by decide)
def K41:List (Nat×Spec):=[(15,uj)]
theorem aaB:KS K41:=tc AW.sound<|tn
attribute [go_sem] K41
@[go_sem] def P103:PSpec:=p3 nj iI iI (fun x a _=>(bS x.l/\x.ts.length=x.l.ts.length)/\0<=a/\a<x.l.rs.length) (fun x a f=>vInt (ll x a.toNat f)) true
@[go_sem] def wR:Spec:=P103.toSpec
set_option maxHeartbeats 8000000 in
theorem Qa:aT Tryz.prog 103 P103:=by
 refine o7 (rs:=[.tmp 6]) Tryz.func103 Tryz.ntmps103 fun x a f hp hw=>?_
 have hP:=eE
 simp only[iI,nj]at hw |-
 have hΓ:=aaB
 obtain⟨⟨aa,vq⟩,W3,tN⟩:=hp
 have yv:=aa.tsn
 have hl:x.ts.length<=maxLen:=by unfold maxLen;omega
 obtain⟨n,rfl⟩:∃ n:Nat,a=n:=⟨a.toNat,by omega⟩
 have hn:n<x.l.rs.length:=by omega
 rw[ai]
 repeat refine sq ?_
 refine rx hΓ [1,2,3] [[3,0]] (fun K' hK=>by simp only[go_sem];exact an) ?_
 repeat refine sq ?_
 refine rx hΓ [1,2,3,7] [[3,0]] (fun K' hK=>by simp only[go_sem];exact an) ?_
 repeat refine sq ?_
 refine aI ?_
 repeat refine sq ?_
 refine bT (fun s:Nat=>[(7,⟨true,.v (vInt s)⟩)]) (fun s=>[]) (fun s=>s<=x.ts.length/\∀ m,m<x.ts.length->m<s->l5 x (cp x.l n).so f m=false) (fun s=>x.ts.length-s) 0 ?_ ?_ ?_ ?_
 ·exact⟨Nat.zero_le _,fun m _ h=>by omega⟩
 ·rfl
 ·rfl
 rintro i ⟨hi,hR⟩
 simp only[go_sem]
 repeat refine sq ?_
 refine rx hΓ [1,2,3,7,12] [[3,0]] (fun K' hK=>by simp only[go_sem];exact an) ?_
 repeat refine sq ?_
 refine ax (fun hb=>?_) fun hb=>?_
 ·have ab:i<x.ts.length:=by simpa using hb
  have ao:(i:Int)<x.ts.length:=by omega
  clear hb
  have vJ:i<x.l.ts.length:=by omega
  have CX:(i:Int)<x.l.ts.length:=by omega
  have rh:(n:Int)<x.l.rs.length:=by omega
  repeat refine sq ?_
  refine aC ?_
  repeat refine sq ?_
  refine aI ?_
  repeat refine sq ?_
  refine dx hΓ hP [[],[0],[],[0,1,2],u4,u5,u6,u7,u8,u6,dq,fm,fM,u6,[0,1,2,3,4,5,13],[0,1,2,3,4,5,13,14],u6,[0,1,2,3,4,5,13,14,15,16],[0,1,2,3,4,5,13,14,15,16,17],[0,1,2,3,4,5,13,14,15,16,17,18],qq,uB,xb,sx,Fi,xa,sx,N1,w9,w8,sx,Fg,u32] [1,2,3,7,47] [[3,0]] (by kernel_rfl) (fun K' hK=>by simp only[go_sem,uW ab,ah hn,ah vJ,rh,CX,ai,aj,ao,List.length_map];exact oT) ?_
  repeat refine sq ?_
  refine ax (fun hb=>?_) fun hb=>?_
  ·repeat refine sq ?_
   have e:ll x n f=i:=Qv ab (by unfold l5;rw[lf vJ,lk hn];simpa using hb) hR
   repeat refine sq ?_
   refine rx hΓ [6] [] (fun K' hK=>by simp only[go_sem,uW ab,ah hn,ah vJ,rh,CX,ai,aj,ao,List.length_map];exact an) ?_
   refine av ?_
   simp only[go_sem]
   rw[e]
  ·repeat refine sq ?_
   refine aC ?_
   refine bA ?_
   simp only[go_sem]
   refine kp [1,2,3,7] [[3,0]] ?_
   repeat refine sq ?_
   refine aS hΓ fun K' hK=>?_
   simp only[go_sem,uW ab,ah hn,ah vJ,rh,CX,ai,aj,ao,List.length_map]
   repeat (refine⟨ak,?_⟩)
   refine hK _ ?_
   clear K' hK
   simp only[go_sem]
   refine⟨i+1,⟨ab,?_⟩,by(show x.ts.length-(i+1)<x.ts.length-i;omega),?_⟩
   ·intro m hm V4
    rcases Nat.lt_succ_iff_lt_or_eq.1 V4 with h5 | rfl
    ·exact hR m hm h5
    ·unfold l5;rw[lf vJ,lk hn];simpa using hb
   refine bd [1,2,3,7] [[3,0]] ?_ ?_<;>simp only[go_sem,aV ab hl,aY]
 ·have bj:i=x.ts.length:=by
   have :¬ (i:Int)<x.ts.length:=by simpa using hb
   omega
  clear hb
  subst bj
  repeat refine sq ?_
  refine bC ?_
  simp only[go_sem]
  refine kp [] [] ?_
  repeat refine sq ?_
  refine rx hΓ [6] [] (fun K' hK=>by simp only[go_sem];exact an) ?_
  refine av ?_
  simp only[go_sem]
  rw[Qu hR]
end
set_option maxHeartbeats 8000000
noncomputable section
def xM(k:Int)(f:Fol)(r:Rec):Bool:=(di r.kn r.un k&&r.pa==f.pa)&&r.lv.contains f.le
def K42:List (Nat×Spec):=[(157,Ak),(15,uj)]
theorem aaA:KS K42:=tc AU.sound<|tc AW.sound<|tn
attribute [go_sem] K42
@[go_sem] def P188:PSpec:=p3 nj iI iX (fun x a _=>0<=a/\a<x.l.rs.length) (fun x a f=>.bool (xM x.k f (cp x.l a.toNat))) true
@[go_sem] def EK:Spec:=P188.toSpec
theorem PC:aT Tryz.prog 188 P188:=by
 refine o7 (rs:=[.tmp 6]) Tryz.func188 Tryz.ntmps188 fun x a f hp hw=>?_
 simp only[iX,iI,nj,eH]at hw |-
 have hΓ:=aaA
 obtain⟨W3,tN⟩:=hp
 obtain⟨n,rfl⟩:∃ n:Nat,a=n:=⟨a.toNat,by omega⟩
 have hn:n<x.l.rs.length:=by omega
 rw[ai,lk hn]
 repeat refine sq ?_
 refine rx hΓ [1,3,5] [[3,0],[5,0]] (fun K' hK=>by simp only[go_sem];exact an) ?_
 repeat refine sq ?_
 refine rx hΓ [3,5,7] [[3,0],[5,0],[7,0]] (fun K' hK=>by simp only[go_sem,ah hn,ai,aj,tN,List.length_map];exact an) ?_
 repeat refine sq ?_
 refine rx hΓ [6] [] (fun K' hK=>by simp only[go_sem,Bool.decide_and,Bool.decide_eq_true];exact an) ?_
 refine av ?_
 simp only[go_sem]
 rfl
def hM(x:RV)(f:Fol)(day:Int):Nat->Int
 | 0=> -1
 |s+1=>if ((xM x.k f (cp x.l s)&&decide ((cp x.l s).da<=day))&&(decide (hM x f day s<0)||decide ((cp x.l s).da>(cp x.l (hM x f day s).toNat).da)))=true then(s:Int)else hM x f day s
theorem HF(x:RV)(f:Fol)(day:Int)(s:Nat):hM x f day s= -1\/∃ j,j<s/\hM x f day s=(j:Int):=by
 induction s with
 |zero=>exact .inl rfl
 |succ s ih=>
  unfold hM
  split
  ·exact .inr ⟨s,by omega,rfl⟩
  ·rcases ih with h | ⟨j,hj,h⟩
   ·exact .inl h
   ·exact .inr ⟨j,by omega,h⟩
def qK(x:RV)(f:Fol)(day:Int):Int:=hM x f day x.l.rs.length
def K42b:List (Nat×Spec):=[(188,EK)]
theorem aaz:KS K42b:=tc PC.sound<|tn
attribute [go_sem] K42b
@[go_sem] def P159:PSpec:=p3 nj iX iI (fun x _ _=>bS x.l) (fun x f day=>vInt (qK x f day)) true
@[go_sem] def EL:Spec:=P159.toSpec
theorem PW:aT Tryz.prog 159 P159:=by
 refine o7 (rs:=[.tmp 6]) Tryz.func159 Tryz.ntmps159 fun x f day hp hw=>?_
 simp only[iX,iI,nj,eH]at hw |-
 have hΓ:=aaz
 have iZ:=hp.rsn
 have hl:x.l.rs.length<=maxLen:=by unfold maxLen;omega
 repeat refine sq ?_
 refine rx hΓ [2,3,4] [[3,0],[4,0]] (fun K' hK=>by simp only[go_sem];exact an) ?_
 repeat refine sq ?_
 refine rx hΓ [2,3,4,7] [[3,0],[4,0]] (fun K' hK=>by simp only[go_sem];exact an) ?_
 repeat refine sq ?_
 refine rx hΓ [2,3,4,7,8] [[3,0],[4,0]] (fun K' hK=>by simp only[go_sem];exact an) ?_
 repeat refine sq ?_
 refine aI ?_
 repeat refine sq ?_
 refine bT (fun s:Nat=>[(8,⟨true,.v (vInt s)⟩),(7,⟨true,.v (vInt (hM x f day s))⟩)]) (fun s=>[]) (fun s=>s<=x.l.rs.length) (fun s=>x.l.rs.length-s) 0 ?_ ?_ ?_ ?_
 ·exact Nat.zero_le _
 ·rfl
 ·rfl
 rintro i hi
 generalize hL:hM x f day i=L
 simp only[go_sem]
 repeat refine sq ?_
 refine rx hΓ [2,3,4,7,8,15] [[3,0],[4,0]] (fun K' hK=>by simp only[go_sem];exact an) ?_
 repeat refine sq ?_
 refine ax (fun hb=>?_) fun hb=>?_
 ·have ab:i<x.l.rs.length:=by simpa using hb
  have ao:(i:Int)<x.l.rs.length:=by omega
  clear hb
  have hc:=HF x f day i
  rw[hL]at hc
  have lH:=lk ab
  have kK:dJ (-1) 0=0:=rfl
  have y9:0<x.l.rs.length:=by omega
  have y8:(0:Int)<x.l.rs.length:=by omega
  repeat refine sq ?_
  refine aC ?_
  repeat refine sq ?_
  refine aI ?_
  repeat refine sq ?_
  refine rx hΓ [2,3,4,7,8,9] [[3,0],[4,0]] (fun K' hK=>by simp only[go_sem,ah ab,ai,aj,ao];exact an) ?_
  rcases hc with hc | ⟨j,hj,hc⟩
  ·subst hc
   repeat refine sq ?_
   refine rx hΓ [2,3,4,7,8,49] [[3,0],[4,0]] (fun K' hK=>by simp only[go_sem,ah ab,ai,aj,ao,kK,ah y9,y8,ai,xU,lH,Bool.decide_and,Bool.decide_eq_true];exact an) ?_
   repeat refine sq ?_
   refine ax (fun hb=>?_) fun hb=>?_
   ·repeat refine sq ?_
    have eL:hM x f day (i+1)=(i:Int):=by
     rw[hM,hL,lH,if_pos (by simpa using hb)]
    repeat refine sq ?_
    refine aS hΓ fun K' hK=>?_
    simp only[go_sem,ah ab,ai,aj,ao,kK,ah y9,y8,ai,xU,lH]
    repeat (refine⟨ak,?_⟩)
    refine hK _ ?_
    clear K' hK
    simp only[go_sem]
    refine kp [2,3,4,7,8] [[3,0],[4,0]] ?_
    repeat refine sq ?_
    refine aS hΓ fun K' hK=>?_
    simp only[go_sem,ah ab,ai,aj,ao,kK,ah y9,y8,ai,xU,lH]
    repeat (refine⟨ak,?_⟩)
    refine hK _ ?_
    clear K' hK
    simp only[go_sem]
    refine⟨i+1,ab,by(show x.l.rs.length-(i+1)<x.l.rs.length-i;omega),?_⟩
    refine bd [2,3,4,7,8] [[3,0],[4,0]] ?_ ?_<;>simp only[go_sem,aV ab hl,aY,eL]
   ·repeat refine sq ?_
    have eL:hM x f day (i+1)= -1:=by
     rw[hM,hL,lH,if_neg (by simpa using hb)]
    refine aC ?_
    refine bA ?_
    simp only[go_sem]
    refine kp [2,3,4,7,8] [[3,0],[4,0]] ?_
    repeat refine sq ?_
    refine aS hΓ fun K' hK=>?_
    simp only[go_sem,ah ab,ai,aj,ao,kK,ah y9,y8,ai,xU,lH]
    repeat (refine⟨ak,?_⟩)
    refine hK _ ?_
    clear K' hK
    simp only[go_sem]
    refine⟨i+1,ab,by(show x.l.rs.length-(i+1)<x.l.rs.length-i;omega),?_⟩
    refine bd [2,3,4,7,8] [[3,0],[4,0]] ?_ ?_<;>simp only[go_sem,aV ab hl,aY,eL]
  ·subst hc
   have gi:decide ((j:Int)<0)=false:=by simp
   have np:(if (0:Int)>(j:Int)then(0:Int)else(j:Int))=j:=if_neg (by omega)
   have kM:j<x.l.rs.length:=by omega
   have yR:(j:Int)<x.l.rs.length:=by omega
   repeat refine sq ?_
   refine rx hΓ [2,3,4,7,8,49] [[3,0],[4,0]] (fun K' hK=>by simp only[go_sem,ah ab,ai,aj,ao,np,gi,ah kM,yR,lH,Bool.decide_and,Bool.decide_eq_true];exact an) ?_
   repeat refine sq ?_
   refine ax (fun hb=>?_) fun hb=>?_
   ·repeat refine sq ?_
    have eL:hM x f day (i+1)=(i:Int):=by
     rw[hM,hL,lH,ai,lk kM,gi,Bool.false_or,if_pos (by simpa using hb)]
    repeat refine sq ?_
    refine aS hΓ fun K' hK=>?_
    simp only[go_sem,ah ab,ai,aj,ao,np,gi,ah kM,yR,lH]
    repeat (refine⟨ak,?_⟩)
    refine hK _ ?_
    clear K' hK
    simp only[go_sem]
    refine kp [2,3,4,7,8] [[3,0],[4,0]] ?_
    repeat refine sq ?_
    refine aS hΓ fun K' hK=>?_
    simp only[go_sem,ah ab,ai,aj,ao,np,gi,ah kM,yR,lH]
    repeat (refine⟨ak,?_⟩)
    refine hK _ ?_
    clear K' hK
    simp only[go_sem]
    refine⟨i+1,ab,by(show x.l.rs.length-(i+1)<x.l.rs.length-i;omega),?_⟩
    refine bd [2,3,4,7,8] [[3,0],[4,0]] ?_ ?_<;>simp only[go_sem,aV ab hl,aY,eL]
   ·repeat refine sq ?_
    have eL:hM x f day (i+1)=(j:Int):=by
     rw[hM,hL,lH,ai,lk kM,gi,Bool.false_or,if_neg (by simpa using hb)]
    refine aC ?_
    refine bA ?_
    simp only[go_sem]
    refine kp [2,3,4,7,8] [[3,0],[4,0]] ?_
    repeat refine sq ?_
    refine aS hΓ fun K' hK=>?_
    simp only[go_sem,ah ab,ai,aj,ao,np,gi,ah kM,yR,lH]
    repeat (refine⟨ak,?_⟩)
    refine hK _ ?_
    clear K' hK
    simp only[go_sem]
    refine⟨i+1,ab,by(show x.l.rs.length-(i+1)<x.l.rs.length-i;omega),?_⟩
    refine bd [2,3,4,7,8] [[3,0],[4,0]] ?_ ?_<;>simp only[go_sem,aV ab hl,aY,eL]
 ·have bj:i=x.l.rs.length:=by
   have :¬ (i:Int)<x.l.rs.length:=by simpa using hb
   omega
  clear hb
  subst bj
  repeat refine sq ?_
  refine bC ?_
  simp only[go_sem]
  refine kp [7] [] ?_
  repeat refine sq ?_
  refine rx hΓ [6] [] (fun K' hK=>by simp only[go_sem];exact an) ?_
  refine av ?_
  simp only[go_sem]
  rw[<-hL];rfl
def aay:List (Nat×Spec):=[(157,Ak)]
attribute [go_sem] aay
end
noncomputable section
def ER(x:RV):Prop:=bS x.l/\x.ts.length=x.l.ts.length/\∀ i,x.ts.getD i false=true->¬ dW x.l (aN x.l i).re x.k<0
def K43:List (Nat×Spec):=[(70,EH),(158,EM),(188,EK)]
attribute [go_sem] K43
end
noncomputable section
theorem Tf(x:RV)(f:Fol)(day:Int):qK x f day= -1\/∃ j,j<x.l.rs.length/\qK x f day=(j:Int):=HF x f day _
theorem Qr(x:RV)(i:Nat)(f:Int):ll x i f= -1\/∃ j,j<x.ts.length/\ll x i f=(j:Int):=by
 unfold ll
 by_cases h:(List.range x.ts.length).any (l5 x (cp x.l i).so f)=true
 ·rw[if_pos h]
  have ab:(List.range x.ts.length).findIdx (l5 x (cp x.l i).so f)<(List.range x.ts.length).length:=List.findIdx_lt_length_of_exists (by obtain⟨y,hy,hp⟩:=List.any_eq_true.1 h;exact⟨y,hy,hp⟩)
  exact .inr ⟨_,by simpa using ab,rfl⟩
 ·rw[if_neg h];exact .inl rfl
theorem Si(a b:Int):dJ a b=if b>a then b else a:=rfl
def K44:List (Nat×Spec):=[(159,EL),(103,wR)]
attribute [go_sem] K44
end
noncomputable section
def K45:List (Nat×Spec):=[]
attribute [go_sem] K45
end
noncomputable section
def pj(l:Led)(k:Int):RV:=⟨l,k,bF l k l.ts.length,[]⟩
def K46:List (Nat×Spec):=[(71,M6)]
attribute [go_sem] K46
@[go_sem] def P73:PSpec:=p2 iL iI (fun l _=>bS l) (fun l k=>DR (pj l k)) false
@[go_sem] def M5:Spec:=P73.toSpec
end
noncomputable section
def Yi(x:RV)(a b:Nat)(f:Int):Bool:=(xM x.k ⟨(cp x.l a).pa,f⟩ (cp x.l a)&&xM x.k ⟨(cp x.l a).pa,f⟩ (cp x.l b))&&
 (((cp x.l a).da==(cp x.l b).da||decide (ll x a f<0))||decide (wm (aN x.l (ll x a f).toNat) (cp x.l a)>(cp x.l b).da))
def Yg(x:RV)(a b:Nat):Bool:=(cp x.l a).lv.any (Yi x a b)
def K47:List (Nat×Spec):=[(188,EK),(103,wR),(158,EM)]
attribute [go_sem] K47
def Nl:PSpec:=p3 nj iI iI (fun x a b=>ER x/\(0<=a/\a<x.l.rs.length/\0<=b/\b<x.l.rs.length)/\¬ (cp x.l a.toNat).da>(cp x.l b.toNat).da) (fun x a b=>.bool (Yg x a.toNat b.toNat)) true
end
noncomputable section
def Z0:Spec:=Nl.toSpec
attribute [go_sem] Nl Z0
def K48:List (Nat×Spec):=[]
attribute [go_sem] K48
theorem aT.or{P:Program}{f:FuncId}{s s1 s2:PSpec}(h1:aT P f s1)(h2:aT P f s2)(hs:s.flat=true->s1.flat=true/\s2.flat=true)
 (hc:∀ xs,s.pre xs->(s1.pre xs/\s1.fn xs=s.fn xs)\/(s2.pre xs/\s2.fn xs=s.fn xs)):aT P f s where
 ne:=h1.ne
 enter:=h1.enter
 flat:=fun hf xs hp=>by
  rcases hc xs hp with⟨a,e⟩ | ⟨a,e⟩
  ·rw[<-e];exact h1.flat (hs hf).1 xs a
  ·rw[<-e];exact h2.flat (hs hf).2 xs a
 calls:=fun m w xs args ha hr hp=>by
  rcases hc xs hp with⟨a,e⟩ | ⟨a,e⟩
  ·rw[<-e];exact h1.calls m w xs args ha hr a
  ·rw[<-e];exact h2.calls m w xs args ha hr a
end
noncomputable section
def K49:List (Nat×Spec):=[(159,EL),(103,wR)]
attribute [go_sem] K49
end
noncomputable section
def K50:List (Nat×Spec):=[]
attribute [go_sem] K50
end
noncomputable section
theorem Fq(l:Led)(k:Int){s i:Nat}(h:(bF l k s).getD i false=true):i<s/\iM l k (bF l k i) i=true:=by
 induction s with
 |zero=>rw[xd l k (Nat.zero_le i)]at h;cases h
 |succ s ih=>
  by_cases hi:i<s
  ·have e:(bF l k (s+1)).getD i false=(bF l k s).getD i false:=by
     rw[bF]
     split
     ·rw[List.getD_eq_getElem?_getD,List.getElem?_set_ne (by omega),<-List.getD_eq_getElem?_getD]
     ·rfl
   rw[e]at h
   exact⟨by omega,(ih h).2⟩
  ·by_cases hs:i=s
   ·subst hs
    refine⟨by omega,?_⟩
    cases hb:iM l k (bF l k i) i with
    |true=>rfl
    |false=>rw[xc l k hb,xd l k (Nat.le_refl i)]at h;cases h
   ·rw[xd l k (by omega)]at h;cases h
theorem Oc{l:Led}{k:Int}{row:List Bool}{i:Nat}(h:iM l k row i=true):¬ dW l (aN l i).re k<0:=by
 unfold iM at h
 split at h
 ·cases h
 ·assumption
theorem Qd{l:Led}(h:bS l)(k:Int):ER (pj l k):=⟨h,qt _ _ _,fun _ hi=>Oc (Fq l k hi).2⟩
def K51:List (Nat×Spec):=[(73,M5)]
attribute [go_sem] K51
end
noncomputable section
structure Ask where
 (da kn pa le pe so:Int)
 deriving Inhabited
def LB(x:Ask):V:=.agg [vInt x.da,vInt x.kn,vInt x.pa,vInt x.le,vInt x.pe,vInt x.so]
def LM:V->Ask
 | .agg [.int _ a,.int _ b,.int _ c,.int _ d,.int _ e,.int _ f]=>⟨a,b,c,d,e,f⟩
 |_=>default
def Vk:En Ask:=⟨LB,LM⟩
attribute [go_sem] LB LM Vk
@[go_sem] theorem aeF(x:Ask):(⟨x.da,x.kn,x.pa,x.le,x.pe,x.so⟩:Ask)=x:=rfl
def K52:List (Nat×Spec):=[]
attribute [go_sem] K52
end
noncomputable section
def K62:List (Nat×Spec):=[]
attribute [go_sem] K62
def aav:List (Nat×Spec):=[]
attribute [go_sem] aav
def jG(x:RV)(f:Fol)(az:List Int)(day:Int):Int:=
 if qK x f day<0 then 0 else
 if(decide (ll x (qK x f day).toNat f.le>=0)&&decide (az.getD (ll x (qK x f day).toNat f.le).toNat 0<=day))=true then 0 else(cp x.l (qK x f day).toNat).bo
def K62c:List (Nat×Spec):=[(159,EL),(103,wR)]
theorem aau:KS K62c:=tc PW.sound<|tc Qa.sound<|tn
attribute [go_sem] K62c
@[go_sem] def P74:PSpec:=p4 nj iX dZ iI (fun x _ az _=>ER x/\az.length=x.ts.length) (fun x f az day=>vInt (jG x f az day)) true
@[go_sem] def M4:Spec:=P74.toSpec
set_option maxHeartbeats 8000000 in
theorem Pg:aT Tryz.prog 74 P74:=by
 refine qp (rs:=[.tmp 8]) Tryz.func74 Tryz.ntmps74 fun x f az day hp hw=>?_
 simp only[iX,iI,dZ,nj,eH]at hw |-
 have hΓ:=aau
 obtain⟨⟨aa,vq,-⟩,ry⟩:=hp
 repeat refine sq ?_
 refine rx hΓ [2,3,4,5] [[4,0],[5,0]] (fun K' hK=>by simp only[go_sem];exact an) ?_
 rcases Tf x f day with ie | ⟨q,hq,ie⟩
 ·repeat refine sq ?_
  refine rx hΓ [2,3,4,5,9] [[4,0],[5,0]] (fun K' hK=>by simp only[go_sem,ie,lG];(repeat (refine⟨by first | exact ak | exact aa,?_⟩));exact eX) ?_
  repeat refine sq ?_
  refine rx hΓ [2,3,4,5,9,16] [[4,0],[5,0]] (fun K' hK=>by simp only[go_sem,ie,lG];exact an) ?_
  repeat refine sq ?_
  refine ax (fun hb=>?_) fun hb=>?_
  ·repeat refine sq ?_
   have e:jG x f az day=0:=by unfold jG;rw[ie];rfl
   repeat refine sq ?_
   refine rx hΓ [8] [] (fun K' hK=>by simp only[go_sem,ie,lG];exact an) ?_
   refine av ?_
   simp only[go_sem]
   rw[e]
  ·cases hb
 ·have cz:(q:Int)<x.l.rs.length:=by omega
  have DQ:=lk hq
  repeat refine sq ?_
  refine rx hΓ [2,3,4,5,9] [[4,0],[5,0]] (fun K' hK=>by simp only[go_sem,ie,lG];(repeat (refine⟨by first | exact ak | exact aa,?_⟩));exact eX) ?_
  repeat refine sq ?_
  refine rx hΓ [2,3,4,5,9,16] [[4,0],[5,0]] (fun K' hK=>by simp only[go_sem,ie,lG];exact an) ?_
  repeat refine sq ?_
  refine ax (fun hb=>?_) fun hb=>?_
  ·cases hb
  ·repeat refine sq ?_
   refine aC ?_
   rcases Qr x q f.le with mo | ⟨j,hj,mo⟩
   ·have vP:decide ((-1:Int)>=0)=false:=rfl
    have dL:=vP
    have np:=vP
    repeat refine sq ?_
    refine rx hΓ [2,3,4,9,10] [[4,0]] (fun K' hK=>by simp only[go_sem,ie,lG,mo,ah hq,cz,ai,aj,List.length_map,ah hq,cz,ai,aj,List.length_map];(repeat (refine⟨by first | exact ak | exact⟨⟨aa,vq⟩,cz⟩,?_⟩));exact eX) ?_
    repeat refine sq ?_
    refine rx hΓ [4,9,32] [[4,0]] (fun K' hK=>by simp only[go_sem,ie,lG,mo,ah hq,cz,ai,aj,List.length_map,np,vP,dL,ai,aj,List.length_map,decide_true,Bool.true_and,Bool.decide_and,Bool.decide_eq_true,true_and];exact an) ?_
    repeat refine sq ?_
    refine ax (fun hb=>?_) fun hb=>?_
    ·cases hb
    ·repeat refine sq ?_
     have e:jG x f az day=x.l.rs[q].bo:=by unfold jG;rw[ie,if_neg (by omega),ai,mo,DQ];rfl
     refine aC ?_
     repeat refine sq ?_
     refine rx hΓ [8] [] (fun K' hK=>by simp only[go_sem,ie,lG,mo,ah hq,cz,ai,aj,List.length_map];exact an) ?_
     refine av ?_
     simp only[go_sem]
     rw[e]
   ·have C3:j<az.length:=by omega
    have dL:(j:Int)<az.length:=by omega
    have vP:(az.map vInt).getD j default=vInt az[j]:=ah C3
    have np:(if (0:Int)>(j:Int)then(0:Int)else(j:Int))=j:=if_neg (by omega)
    have Kg:decide ((j:Int)>=0)=true:=by simp
    repeat refine sq ?_
    refine rx hΓ [2,3,4,9,10] [[4,0]] (fun K' hK=>by simp only[go_sem,ie,lG,mo,ah hq,cz,ai,aj,List.length_map,ah hq,cz,ai,aj,List.length_map];(repeat (refine⟨by first | exact ak | exact⟨⟨aa,vq⟩,cz⟩,?_⟩));exact eX) ?_
    repeat refine sq ?_
    refine rx hΓ [4,9,32] [[4,0]] (fun K' hK=>by simp only[go_sem,ie,lG,mo,ah hq,cz,ai,aj,List.length_map,np,vP,dL,ai,aj,List.length_map,decide_true,Bool.true_and,Bool.decide_and,Bool.decide_eq_true,true_and];exact an) ?_
    repeat refine sq ?_
    refine ax (fun hb=>?_) fun hb=>?_
    ·repeat refine sq ?_
     have e:jG x f az day=0:=by unfold jG;rw[ie,if_neg (by omega),ai,mo,DQ,ai,dM C3,Kg,Bool.true_and,if_pos (by simpa using hb)]
     repeat refine sq ?_
     refine rx hΓ [8] [] (fun K' hK=>by simp only[go_sem,ie,lG,mo,ah hq,cz,ai,aj,List.length_map];exact an) ?_
     refine av ?_
     simp only[go_sem]
     rw[e]
    ·repeat refine sq ?_
     have e:jG x f az day=x.l.rs[q].bo:=by unfold jG;rw[ie,if_neg (by omega),ai,mo,DQ,ai,dM C3,Kg,Bool.true_and,if_neg (by simpa using hb)]
     refine aC ?_
     repeat refine sq ?_
     refine rx hΓ [8] [] (fun K' hK=>by simp only[go_sem,ie,lG,mo,ah hq,cz,ai,aj,List.length_map];exact an) ?_
     refine av ?_
     simp only[go_sem]
     rw[e]
end
noncomputable section
def aK(l:Led)(so:Int):Led:=⟨l.ps,l.rs.filter fun r=>r.so != so,l.ts.filter fun r=>r.so != so,l.ss.filter fun r=>r.so != so⟩
def gC{α:Type}(f:α->Int)(so:Int)(l:List α)(s:Nat):List α:=(l.take s).filter fun r=>f r != so
theorem DA{α:Type}{f:α->Int}{so:Int}{l:List α}{s:Nat}(h:s<l.length)(hc:(f l[s] != so)=true):gC f so l (s+1)=gC f so l s++[l[s]]:=by
 unfold gC
 rw[List.take_add_one,List.getElem?_eq_getElem h,List.filter_append]
 simp[hc]
theorem DC{α:Type}{f:α->Int}{so:Int}{l:List α}{s:Nat}(h:s<l.length)(hc:(f l[s] != so)=false):gC f so l (s+1)=gC f so l s:=by
 unfold gC
 rw[List.take_add_one,List.getElem?_eq_getElem h,List.filter_append]
 simp[hc]
theorem DB{α:Type}(f:α->Int)(so:Int)(l:List α)(s:Nat):(gC f so l s).length<=s:=by
 unfold gC
 exact Nat.le_trans (List.length_filter_le _ _) (by simp;omega)
theorem XK{α:Type}(f:α->Int)(so:Int)(l:List α):gC f so l l.length=l.filter fun r=>f r != so:=by unfold gC;rw[List.take_length]
def K64:List (Nat×Spec):=[(95,M1)]
theorem aat:KS K64:=tc O7.sound<|tn
attribute [go_sem] K64
@[go_sem] def P22:PSpec:=p2 iL iI (fun l _=>xn l) (fun l so=>fD (aK l so)) false
@[go_sem] def M8:Spec:=P22.toSpec
set_option maxHeartbeats 8000000 in
theorem Pw:aT Tryz.prog 22 P22:=by
 refine cV (rs:=[.cell 4 31]) Tryz.func22 Tryz.ntmps22 fun l so hp hw=>?_
 have hP:=eE
 simp only[iI,iL,fD]at hw |-
 have hΓ:=aat
 have CF:=hp
 obtain⟨yN,lB,pQ,CQ,yM,yL⟩:=hp
 have kL:l.rs.length<=maxLen:=by unfold maxLen;omega
 have gg:l.ts.length<=maxLen:=by unfold maxLen;omega
 have tz:l.ss.length<=maxLen:=by unfold maxLen;omega
 repeat refine sq ?_
 refine rx hΓ [1,2,4] [[2,0],[4,0],[38,0],[63,0],[88,0]] (fun K' hK=>by simp only[go_sem];exact an) ?_
 repeat refine sq ?_
 refine rx hΓ [1,4,5] [[4,0],[5,0],[38,0],[63,0],[88,0]] (fun K' hK=>by simp only[go_sem];(repeat (refine⟨by first | exact ak | exact CF,?_⟩));exact eX) ?_
 repeat refine sq ?_
 refine rx hΓ [1,4,5,6] [[4,0],[5,0],[6,0],[38,0],[63,0],[88,0]] (fun K' hK=>by simp only[go_sem];exact an) ?_
 refine bG (jH [6,0] [38,0] 1 7 _ rfl rfl rfl [1,4,5,6] [[4,0],[5,0],[6,0],[38,0],[63,0],[88,0]] ?_ rfl) ?_
 ·simp only[go_sem,List.set_cons_succ,List.set_cons_zero]
 simp only[go_sem,List.set_cons_succ,List.set_cons_zero]
 refine bG (jH [6,0] [63,0] 2 8 _ rfl rfl rfl [1,4,5,6] [[4,0],[5,0],[6,0],[38,0],[63,0],[88,0]] ?_ rfl) ?_
 ·simp only[go_sem,List.set_cons_succ,List.set_cons_zero]
 simp only[go_sem,List.set_cons_succ,List.set_cons_zero]
 repeat refine sq ?_
 refine rx hΓ [1,4,5,6,7] [[4,0],[5,0],[6,0],[38,0],[63,0],[88,0]] (fun K' hK=>by simp only[go_sem];exact an) ?_
 refine bG (jH [6,0] [88,0] 3 7 _ rfl rfl rfl [1,4,5,6,7] [[4,0],[5,0],[6,0],[38,0],[63,0],[88,0]] ?_ rfl) ?_
 ·simp only[go_sem,List.set_cons_succ,List.set_cons_zero]
 simp only[go_sem,List.set_cons_succ,List.set_cons_zero]
 repeat refine sq ?_
 refine aI ?_
 repeat refine sq ?_
 refine bT (fun s:Nat=>[(7,⟨true,.v (vInt s)⟩)]) (fun s=>[([6,0],.box [.v (.sl (l.ps.map db)),.msl [38,0] (gC Rec.so so l.rs s).length,.msl [63,0] 0,.msl [88,0] 0]),([38,0],.arr 7 ((gC Rec.so so l.rs s).map encR))]) (fun s=>s<=l.rs.length) (fun s=>l.rs.length-s) 0 ?_ ?_ ?_ ?_
 ·exact Nat.zero_le _
 ·rfl
 ·rfl
 rintro i hi
 simp only[go_sem]
 repeat refine sq ?_
 refine rx hΓ [1,4,5,6,7,19] [[4,0],[5,0],[6,0],[38,0],[63,0],[88,0]] (fun K' hK=>by simp only[go_sem];exact an) ?_
 repeat refine sq ?_
 refine ax (fun hb=>?_) fun hb=>?_
 ·have ab:i<l.rs.length:=by simpa using hb
  have ao:(i:Int)<l.rs.length:=by omega
  clear hb
  have dU:=DB Rec.so so l.rs i
  repeat refine sq ?_
  refine aC ?_
  repeat refine sq ?_
  refine aI ?_
  repeat refine sq ?_
  refine rx hΓ [1,4,5,6,7,29] [[4,0],[5,0],[6,0],[38,0],[63,0],[88,0]] (fun K' hK=>by simp only[go_sem,ah ab,ai,aj,ao];exact an) ?_
  repeat refine sq ?_
  refine ax (fun hb=>?_) fun hb=>?_
  ·repeat refine sq ?_
   have eS:=DA (f:=Rec.so) (so:=so) ab (by simpa using hb)
   repeat refine sq ?_
   refine mO hΓ hP [[],[0],[],[2],[],[2,3,4],[2,3,4,5],[2,3,4,5,6],u8,u9,dq] (by kernel_rfl) fun K' hK=>?_
   simp only[go_sem,ah ab,ai,aj,ao]
   repeat (refine⟨ak,?_⟩)
   first | refine⟨by rfl,?_⟩ | skip
   refine hK _ ?_
   clear K' hK
   simp only[go_sem]
   refine kp [1,4,5,6,7] [[4,0],[5,0],[6,0],[38,0],[63,0],[88,0]] ?_
   repeat refine sq ?_
   refine aS hΓ fun K' hK=>?_
   simp only[go_sem,ah ab,ai,aj,ao]
   repeat (refine⟨ak,?_⟩)
   refine hK _ ?_
   clear K' hK
   simp only[go_sem]
   refine⟨i+1,ab,by(show l.rs.length-(i+1)<l.rs.length-i;omega),?_⟩
   refine bd [1,4,5,6,7] [[4,0],[5,0],[6,0],[38,0],[63,0],[88,0]] ?_ ?_<;>simp only[go_sem,aV ab kL,aY,eS,List.map_append,List.length_append,List.map_cons,List.map_nil,List.length_cons,List.length_nil]
  ·repeat refine sq ?_
   have eS:=DC (f:=Rec.so) (so:=so) ab (by simpa using hb)
   refine aC ?_
   refine bA ?_
   simp only[go_sem]
   refine kp [1,4,5,6,7] [[4,0],[5,0],[6,0],[38,0],[63,0],[88,0]] ?_
   repeat refine sq ?_
   refine aS hΓ fun K' hK=>?_
   simp only[go_sem,ah ab,ai,aj,ao]
   repeat (refine⟨ak,?_⟩)
   refine hK _ ?_
   clear K' hK
   simp only[go_sem]
   refine⟨i+1,ab,by(show l.rs.length-(i+1)<l.rs.length-i;omega),?_⟩
   refine bd [1,4,5,6,7] [[4,0],[5,0],[6,0],[38,0],[63,0],[88,0]] ?_ ?_<;>simp only[go_sem,aV ab kL,aY,eS,List.map_append,List.length_append,List.map_cons,List.map_nil,List.length_cons,List.length_nil]
 ·have bj:i=l.rs.length:=by
   have :¬ (i:Int)<l.rs.length:=by simpa using hb
   omega
  clear hb
  subst bj
  repeat refine sq ?_
  refine bC ?_
  simp only[go_sem]
  refine kp [1,4,5,6] [[4,0],[5,0],[6,0],[38,0],[63,0],[88,0]] ?_
  repeat refine sq ?_
  refine rx hΓ [1,4,5,6,8] [[4,0],[5,0],[6,0],[38,0],[63,0],[88,0]] (fun K' hK=>by simp only[go_sem];exact an) ?_
  repeat refine sq ?_
  refine aI ?_
  repeat refine sq ?_
  refine bT (fun s:Nat=>[(8,⟨true,.v (vInt s)⟩)]) (fun s=>[([6,0],.box [.v (.sl (l.ps.map db)),.msl [38,0] (gC Rec.so so l.rs l.rs.length).length,.msl [63,0] (gC Ret.so so l.ts s).length,.msl [88,0] 0]),([63,0],.arr 8 ((gC Ret.so so l.ts s).map encT))]) (fun s=>s<=l.ts.length) (fun s=>l.ts.length-s) 0 ?_ ?_ ?_ ?_
  ·exact Nat.zero_le _
  ·rfl
  ·rfl
  rintro i hi
  simp only[go_sem]
  repeat refine sq ?_
  refine rx hΓ [1,4,5,6,8,44] [[4,0],[5,0],[6,0],[38,0],[63,0],[88,0]] (fun K' hK=>by simp only[go_sem];exact an) ?_
  repeat refine sq ?_
  refine ax (fun hb=>?_) fun hb=>?_
  ·have aJ:i<l.ts.length:=by simpa using hb
   have bq:(i:Int)<l.ts.length:=by omega
   clear hb
   have dU:=DB Ret.so so l.ts i
   repeat refine sq ?_
   refine aC ?_
   repeat refine sq ?_
   refine aI ?_
   repeat refine sq ?_
   refine rx hΓ [1,4,5,6,8,54] [[4,0],[5,0],[6,0],[38,0],[63,0],[88,0]] (fun K' hK=>by simp only[go_sem,ah aJ,ai,aj,bq];exact an) ?_
   repeat refine sq ?_
   refine ax (fun hb=>?_) fun hb=>?_
   ·repeat refine sq ?_
    have eS:=DA (f:=Ret.so) (so:=so) aJ (by simpa using hb)
    repeat refine sq ?_
    refine mO hΓ hP [[],[0],[],[2],[],[2,3,4],[2,3,4,5],[2,3,4,5,6],u8,u9,dq] (by kernel_rfl) fun K' hK=>?_
    simp only[go_sem,ah aJ,ai,aj,bq]
    repeat (refine⟨ak,?_⟩)
    first | refine⟨by rfl,?_⟩ | skip
    refine hK _ ?_
    clear K' hK
    simp only[go_sem]
    refine kp [1,4,5,6,8] [[4,0],[5,0],[6,0],[38,0],[63,0],[88,0]] ?_
    repeat refine sq ?_
    refine aS hΓ fun K' hK=>?_
    simp only[go_sem,ah aJ,ai,aj,bq]
    repeat (refine⟨ak,?_⟩)
    refine hK _ ?_
    clear K' hK
    simp only[go_sem]
    refine⟨i+1,aJ,by(show l.ts.length-(i+1)<l.ts.length-i;omega),?_⟩
    refine bd [1,4,5,6,8] [[4,0],[5,0],[6,0],[38,0],[63,0],[88,0]] ?_ ?_<;>simp only[go_sem,aV aJ gg,aY,eS,List.map_append,List.length_append,List.map_cons,List.map_nil,List.length_cons,List.length_nil]
   ·repeat refine sq ?_
    have eS:=DC (f:=Ret.so) (so:=so) aJ (by simpa using hb)
    refine aC ?_
    refine bA ?_
    simp only[go_sem]
    refine kp [1,4,5,6,8] [[4,0],[5,0],[6,0],[38,0],[63,0],[88,0]] ?_
    repeat refine sq ?_
    refine aS hΓ fun K' hK=>?_
    simp only[go_sem,ah aJ,ai,aj,bq]
    repeat (refine⟨ak,?_⟩)
    refine hK _ ?_
    clear K' hK
    simp only[go_sem]
    refine⟨i+1,aJ,by(show l.ts.length-(i+1)<l.ts.length-i;omega),?_⟩
    refine bd [1,4,5,6,8] [[4,0],[5,0],[6,0],[38,0],[63,0],[88,0]] ?_ ?_<;>simp only[go_sem,aV aJ gg,aY,eS,List.map_append,List.length_append,List.map_cons,List.map_nil,List.length_cons,List.length_nil]
  ·have gz:i=l.ts.length:=by
    have :¬ (i:Int)<l.ts.length:=by simpa using hb
    omega
   clear hb
   subst gz
   repeat refine sq ?_
   refine bC ?_
   simp only[go_sem]
   refine kp [1,4,5,6] [[4,0],[5,0],[6,0],[38,0],[63,0],[88,0]] ?_
   repeat refine sq ?_
   refine rx hΓ [1,4,5,6,9] [[4,0],[5,0],[6,0],[38,0],[63,0],[88,0]] (fun K' hK=>by simp only[go_sem];exact an) ?_
   repeat refine sq ?_
   refine aI ?_
   repeat refine sq ?_
   refine bT (fun s:Nat=>[(9,⟨true,.v (vInt s)⟩)]) (fun s=>[([6,0],.box [.v (.sl (l.ps.map db)),.msl [38,0] (gC Rec.so so l.rs l.rs.length).length,.msl [63,0] (gC Ret.so so l.ts l.ts.length).length,.msl [88,0] (gC Sig.so so l.ss s).length]),([88,0],.arr 7 ((gC Sig.so so l.ss s).map encS))]) (fun s=>s<=l.ss.length) (fun s=>l.ss.length-s) 0 ?_ ?_ ?_ ?_
   ·exact Nat.zero_le _
   ·rfl
   ·rfl
   rintro i hi
   simp only[go_sem]
   repeat refine sq ?_
   refine rx hΓ [1,4,5,6,9,69] [[4,0],[5,0],[6,0],[38,0],[63,0],[88,0]] (fun K' hK=>by simp only[go_sem];exact an) ?_
   repeat refine sq ?_
   refine ax (fun hb=>?_) fun hb=>?_
   ·have ct:i<l.ss.length:=by simpa using hb
    have gP:(i:Int)<l.ss.length:=by omega
    clear hb
    have dU:=DB Sig.so so l.ss i
    repeat refine sq ?_
    refine aC ?_
    repeat refine sq ?_
    refine aI ?_
    repeat refine sq ?_
    refine rx hΓ [1,4,5,6,9,79] [[4,0],[5,0],[6,0],[38,0],[63,0],[88,0]] (fun K' hK=>by simp only[go_sem,ah ct,ai,aj,gP];exact an) ?_
    repeat refine sq ?_
    refine ax (fun hb=>?_) fun hb=>?_
    ·repeat refine sq ?_
     have eS:=DA (f:=Sig.so) (so:=so) ct (by simpa using hb)
     repeat refine sq ?_
     refine mO hΓ hP [[],[0],[],[2],[],[2,3,4],[2,3,4,5],[2,3,4,5,6],u8,u9,dq] (by kernel_rfl) fun K' hK=>?_
     simp only[go_sem,ah ct,ai,aj,gP]
     repeat (refine⟨ak,?_⟩)
     first | refine⟨by rfl,?_⟩ | skip
     refine hK _ ?_
     clear K' hK
     simp only[go_sem]
     refine kp [1,4,5,6,9] [[4,0],[5,0],[6,0],[38,0],[63,0],[88,0]] ?_
     repeat refine sq ?_
     refine aS hΓ fun K' hK=>?_
     simp only[go_sem,ah ct,ai,aj,gP]
     repeat (refine⟨ak,?_⟩)
     refine hK _ ?_
     clear K' hK
     simp only[go_sem]
     refine⟨i+1,ct,by(show l.ss.length-(i+1)<l.ss.length-i;omega),?_⟩
     refine bd [1,4,5,6,9] [[4,0],[5,0],[6,0],[38,0],[63,0],[88,0]] ?_ ?_<;>simp only[go_sem,aV ct tz,aY,eS,List.map_append,List.length_append,List.map_cons,List.map_nil,List.length_cons,List.length_nil]
    ·repeat refine sq ?_
     have eS:=DC (f:=Sig.so) (so:=so) ct (by simpa using hb)
     refine aC ?_
     refine bA ?_
     simp only[go_sem]
     refine kp [1,4,5,6,9] [[4,0],[5,0],[6,0],[38,0],[63,0],[88,0]] ?_
     repeat refine sq ?_
     refine aS hΓ fun K' hK=>?_
     simp only[go_sem,ah ct,ai,aj,gP]
     repeat (refine⟨ak,?_⟩)
     refine hK _ ?_
     clear K' hK
     simp only[go_sem]
     refine⟨i+1,ct,by(show l.ss.length-(i+1)<l.ss.length-i;omega),?_⟩
     refine bd [1,4,5,6,9] [[4,0],[5,0],[6,0],[38,0],[63,0],[88,0]] ?_ ?_<;>simp only[go_sem,aV ct tz,aY,eS,List.map_append,List.length_append,List.map_cons,List.map_nil,List.length_cons,List.length_nil]
   ·have mA:i=l.ss.length:=by
     have :¬ (i:Int)<l.ss.length:=by simpa using hb
     omega
    clear hb
    subst mA
    repeat refine sq ?_
    refine bC ?_
    simp only[go_sem]
    refine kp [4,6] [[4,0],[6,0],[38,0],[63,0],[88,0]] ?_
    repeat refine sq ?_
    refine rx hΓ [4] [[4,0],[38,0],[63,0],[88,0]] (fun K' hK=>by simp only[go_sem,XK];exact an) ?_
    refine av ?_
    simp only[go_sem]
    all_goals exact dp
end
theorem wJ{α:Type}{eU:α->Bool}{num:α->Int}{l:List α}:gT eU num l=true↔(∀ x∈l,eU x=true)/\l.Pairwise (fun a b=>num a<num b):=by
 rw[kY]
 constructor
 ·intro h
  refine⟨fun x hx=>?_,?_⟩
  ·obtain⟨j,hj,rfl⟩:=List.getElem_of_mem hx
   exact(h j hj hj).1
  ·rw[List.pairwise_iff_getElem]
   exact fun i j hi hj ew=>xJ h i j hi hj ew
 ·rintro⟨h1,h2⟩ j hj _
  refine⟨h1 _ (List.getElem_mem hj),fun h0=>?_⟩
  rw[List.pairwise_iff_getElem]at h2
  exact h2 (j-1) j (by omega) hj (by omega)
theorem EE{α:Type}{eU:α->Bool}{num:α->Int}{l:List α}(p:α->Bool)(h:gT eU num l=true):gT eU num (l.filter p)=true:=by
 rw[wJ]at h |-
 exact⟨fun x hx=>h.1 x (List.mem_filter.1 hx).1,h.2.filter p⟩
theorem Ay{l:Led}(h:bS l)(so:Int):bS (aK l so) where
 ps:=h.ps
 psn:=h.psn
 rs:=EE _ h.rs
 rsn:=Nat.le_trans (List.length_filter_le _ _) h.rsn
 ts:=EE _ h.ts
 tsn:=Nat.le_trans (List.length_filter_le _ _) h.tsn
 ss:=EE _ h.ss
 ssn:=Nat.le_trans (List.length_filter_le _ _) h.ssn
 rl:=fun j hj=>by
  have hm:(aK l so).rs[j]∈l.rs:=(List.mem_filter.1 (List.getElem_mem hj)).1
  obtain⟨i,hi,e⟩:=List.getElem_of_mem hm
  have :=h.rl i hi
  rw[e]at this
  exact this
 sl:=fun j hj=>by
  have hm:(aK l so).ss[j]∈l.ss:=(List.mem_filter.1 (List.getElem_mem hj)).1
  obtain⟨i,hi,e⟩:=List.getElem_of_mem hm
  have :=h.sl i hi
  rw[e]at this
  exact this
 nd:=by
  refine List.Nodup.sublist ?_ h.nd
  unfold sA aK
  exact((List.filter_sublist.map _).append (List.filter_sublist.map _)).append (List.filter_sublist.map _)
structure R5 where
 (a b c d e:Int)
 deriving Inhabited
structure R7 where
 (a b c d e f g:Int)
 deriving Inhabited
structure Raw where
 rs:List R5
 ts:List R7
 ss:List R5
 deriving Inhabited
def mps:List Pap:=[⟨1,4⟩,⟨2,3⟩,⟨5,2⟩]
def dR(n:Int):Pap:=mps.getD (aR n 3).toNat default
def r5(l:List R5)(i:Nat):R5:=l.getD i default
def r7(l:List R7)(i:Nat):R7:=l.getD i default
def eI(r:Raw):Nat->Int
 | 0=>0
 |i+1=>eI r i+aR (r5 r.rs i).d 20
def fO(r:Raw)(i:Nat):Rec:=⟨3*i+1,1+aR (r5 r.rs i).a 4,(dR (r5 r.rs i).b).id,iz (r5 r.rs i).c (dR (r5 r.rs i).b).lv,eI r (i+1),eI r (i+1)+aR (r5 r.rs i).e 5,0⟩
def e8(r:Raw)(m:Nat):List Rec:=(List.range m).map (fO r)
def nR(r:Raw):Nat:=min r.rs.length 8
def xT(r:Raw)(j:Nat):Rec:=(e8 r (nR r)).getD (aR (r7 r.ts j).a (nR r)).toNat zeroR
def el(r:Raw)(j:Nat):Int:=(xT r j).da+aR (r7 r.ts j).c 30
def tM(r:Raw)(j:Nat):Ret:=⟨3*j+2,(xT r j).so,1+aR (r7 r.ts j).g 4,iz (r7 r.ts j).b (dC mps (xT r j).pa),dJ 0 (el r j-aR (r7 r.ts j).d 12),el r j+aR (r7 r.ts j).e 12,el r j+aR (r7 r.ts j).e 12+aR (r7 r.ts j).f 9,0⟩
def nT(r:Raw):Nat:=if nR r=0 then 0 else min r.ts.length 8
def iK(r:Raw)(m:Nat):List Ret:=(List.range m).map (tM r)
def kS(r:Raw)(m:Nat):List Int:=(List.range m).map (el r)
def fc(r:Raw)(ss:List Sig):Led:=⟨mps,e8 r (nR r),iK r (nT r),ss⟩
def kq(r:Raw)(j:Nat):Int:=aR (r5 r.ss j).d (eI r (nR r)+20)
def m6(r:Raw)(j:Nat):Int:=1+aR (r5 r.ss j).c (dR (r5 r.ss j).b).lv
def mZ(r:Raw)(j:Nat)(ss:List Sig):Int:=if (aR (r5 r.ss j).e 4 != 3)=true then jG (pj (fc r ss) 900) ⟨(dR (r5 r.ss j).b).id,m6 r j⟩ (kS r (nT r)) (kq r j)else aR (r5 r.ss j).a 5
def sJ(r:Raw)(j:Nat)(ss:List Sig):Sig:=⟨3*j+3,mZ r j ss,(dR (r5 r.ss j).b).id,m6 r j,kq r j,kq r j+aR (r5 r.ss j).e 30,0⟩
def dt(r:Raw):Nat->List Sig
 | 0=>[]
 |j+1=>dt r j++[sJ r j (dt r j)]
def nS(r:Raw):Nat:=min r.ss.length 6
def cj(r:Raw):Led:=fc r (dt r (nS r))
theorem xZ(n:Int):dR n∈mps:=by
 have h:=dS (n:=n) (m:=3) (by decide)
 unfold dR
 have hl:(aR n 3).toNat<mps.length:=by show _<3;omega
 rw[dM hl]
 exact List.getElem_mem hl
theorem xY{p:Pap}(h:p∈mps):dC mps p.id=p.lv/\2<=p.lv/\p.lv<=4/\1<=p.id/\p.id<=5:=by
 unfold mps at h
 simp only[List.mem_cons,List.not_mem_nil,or_false]at h
 rcases h with rfl | rfl | rfl<;>decide
theorem zM(n:Int):∀ m,∀ x∈fk n m,1<=x/\x<=m
 | 0,x,h=>nomatch h
 |m+1,x,h=>by
  rw[fk]at h
  split at h
  ·rcases List.mem_append.1 h with h | h
   ·have:=zM n m x h;omega
   ·simp only[List.mem_singleton]at h;omega
  ·have:=zM n m x h;omega
theorem Ei(n:Int):∀ m,(fk n m).Pairwise (· < ·)
 | 0=>List.Pairwise.nil
 |m+1=>by
  rw[fk]
  split
  ·rw[List.pairwise_append]
   refine⟨Ei n m,List.pairwise_singleton _ _,fun a ha b hb=>?_⟩
   have :=zM n m a ha
   simp only[List.mem_singleton]at hb
   omega
  ·exact Ei n m
theorem HE{l:List Int}{m:Int}(h0:l≠[])(hp:l.Pairwise (· < ·))(hm:∀ x∈l,1<=x/\x<=m)(tO:m<=30):jQ l=true:=by
 have cL:0<l.length:=List.length_pos_iff.2 h0
 have ab:l.length-1<l.length:=by omega
 have h1:=hm _ (List.getElem_mem cL)
 have h2:=hm _ (List.getElem_mem ab)
 unfold jQ b7
 rw[dM cL,dM ab]
 simp only[Bool.and_eq_true,decide_eq_true_eq]
 refine⟨⟨⟨cL,?_⟩,by omega⟩,by omega⟩
 rw[xt]
 intro j hj cY
 rw[List.pairwise_iff_getElem]at hp
 exact hp (j-1) j (by omega) hj (by omega)
theorem Mi(n:Int){m:Int}(h1:1<=m)(h2:m<=30):jQ (iz n m)=true/\∀ x∈iz n m,1<=x/\x<=m:=by
 unfold iz
 split
 ·refine⟨HE (m:=1) (by simp) (List.pairwise_singleton _ _) (fun x hx=>?_) (by decide),fun x hx=>?_⟩
  ·simp only[List.mem_singleton]at hx;omega
  ·simp only[List.mem_singleton]at hx;omega
 ·rename_i h0
  have hm:∀ x∈fk n m.toNat,1<=x/\x<=m:=fun x hx=>by have:=zM n _ x hx;omega
  exact⟨HE h0 (Ei n _) hm h2,hm⟩
theorem wo(r:Raw):∀ i,0<=eI r i/\eI r i<=20*i
 | 0=>by exact⟨Int.le_refl _,Int.le_refl _⟩
 |i+1=>by
  have :=wo r i
  have h:=dS (n:=(r5 r.rs i).d) (m:=20) (by decide)
  rw[eI]
  omega
theorem hU{n lo hi:Int}(h1:lo<=n)(h2:n<=hi):b7 n lo hi=true:=by
 unfold b7
 rw[decide_eq_true h1,decide_eq_true h2];rfl
theorem AH{k:Int}(h1:0<=k)(h2:k<=100000):lg k 0=true:=by
 unfold lg dayB
 rw[hU h1 h2];rfl
theorem uM(r:Raw){i:Nat}(hi:i<8):dO (fO r i)=true/\ov (fO r i).lv<=dC mps (fO r i).pa/\(fO r i).da<=160/\(fO r i).bo<=4/\1<=(fO r i).bo/\0<=(fO r i).da/\2<=dC mps (fO r i).pa/\dC mps (fO r i).pa<=4:=by
 obtain⟨e,l1,l2,p1,p2⟩:=xY (xZ (r5 r.rs i).b)
 obtain⟨b1,b2⟩:=Mi (r5 r.rs i).c (m:=(dR (r5 r.rs i).b).lv) (by omega) (by omega)
 have h4:=dS (n:=(r5 r.rs i).a) (m:=4) (by decide)
 have h5:=dS (n:=(r5 r.rs i).e) (m:=5) (by decide)
 have hd:=wo r (i+1)
 have V':ov (fO r i).lv<=(dR (r5 r.rs i).b).lv:=by
  show ov (iz _ _)<=_
  unfold ov
  have hb:=b1
  unfold jQ at hb
  simp only[Bool.and_eq_true,decide_eq_true_eq]at hb
  have ab:(iz (r5 r.rs i).c (dR (r5 r.rs i).b).lv).length-1<(iz (r5 r.rs i).c (dR (r5 r.rs i).b).lv).length:=by omega
  rw[dM ab]
  exact(b2 _ (List.getElem_mem ab)).2
 refine⟨?_,by show _<=dC mps (dR _).id;rw[e];exact V',?_,?_,?_,hd.1,by show _<=dC mps (dR _).id;omega,by show dC mps (dR _).id<=_;omega⟩
 ·have ht:lg (eI r (i+1)+aR (r5 r.rs i).e 5) 0=true:=AH (by omega) (by omega)
  have hb:dO (fO r i)=(b7 (3*(i:Int)+1) 1 99999&&b7 (1+aR (r5 r.rs i).a 4) 1 99&&b7 (dR (r5 r.rs i).b).id 1 999&&jQ (iz (r5 r.rs i).c (dR (r5 r.rs i).b).lv)&&dayB (eI r (i+1))&&lg (eI r (i+1)+aR (r5 r.rs i).e 5) 0):=rfl
  rw[hb,ht,b1,hU (by omega) (by omega),hU (by omega) (by omega),hU (by omega) (by omega)]
  unfold dayB
  rw[hU (by omega) (by omega)]
  rfl
 ·show eI r (i+1)<=160;omega
 ·show 1+aR _ 4<=4;omega
 ·show 1<=1+aR _ 4;omega
theorem jn(r:Raw)(m:Nat):(e8 r m).length=m:=by unfold e8;simp
theorem A4{r:Raw}{m i:Nat}(h:i<(e8 r m).length):(e8 r m)[i]=fO r i:=by
 have e:(e8 r m)[i]=fO r ((List.range m)[i]'(by simpa[e8]using h)):=List.getElem_map (fO r) (h:=h)
 rw[e,List.getElem_range]
theorem qF(r:Raw):nR r<=8:=Nat.min_le_right _ _
theorem E7{r:Raw}(h:nR r≠0)(j:Nat):∃ i,i<nR r/\xT r j=fO r i:=by
 have hm:=dS (n:=(r7 r.ts j).a) (m:=(nR r:Int)) (by omega)
 refine⟨(aR (r7 r.ts j).a (nR r)).toNat,by omega,?_⟩
 unfold xT
 rw[dM (by rw[jn];omega),A4]
theorem Fx{r:Raw}(h:nR r≠0){j:Nat}(hj:j<8):jo (tM r j)=true/\0<=el r j/\el r j<=200:=by
 obtain⟨i,hi,e⟩:=E7 h j
 have h8:=qF r
 obtain⟨c1,-,c3,-,-,c6,c7,c8⟩:=uM r (show i<8 by omega)
 have vv:(xT r j).so=3*(i:Int)+1:=by rw[e];rfl
 have BK:=dS (n:=(r7 r.ts j).c) (m:=30) (by decide)
 have m4:=dS (n:=(r7 r.ts j).g) (m:=4) (by decide)
 have SB:=dS (n:=(r7 r.ts j).d) (m:=12) (by decide)
 have SA:=dS (n:=(r7 r.ts j).e) (m:=12) (by decide)
 have m9:=dS (n:=(r7 r.ts j).f) (m:=9) (by decide)
 have au:el r j=(fO r i).da+aR (r7 r.ts j).c 30:=by unfold el;rw[e]
 obtain⟨b1,-⟩:=Mi (r7 r.ts j).b (m:=dC mps (xT r j).pa) (by rw[e];omega) (by rw[e];omega)
 have kK:0<=dJ 0 (el r j-aR (r7 r.ts j).d 12)/\dJ 0 (el r j-aR (r7 r.ts j).d 12)<=el r j:=by unfold dJ;split<;>omega
 refine⟨?_,by omega,by omega⟩
 have hb:jo (tM r j)=(b7 (3*(j:Int)+2) 1 99999&&b7 (xT r j).so 1 99999&&b7 (1+aR (r7 r.ts j).g 4) 1 99&&jQ (iz (r7 r.ts j).b (dC mps (xT r j).pa))&&b7 (dJ 0 (el r j-aR (r7 r.ts j).d 12)) 0 (el r j+aR (r7 r.ts j).e 12)&&dayB (el r j+aR (r7 r.ts j).e 12)&&lg (el r j+aR (r7 r.ts j).e 12+aR (r7 r.ts j).f 9) 0):=rfl
 rw[hb,b1,AH (by omega) (by omega),hU (by omega) (by omega),hU (by omega) (by omega),hU (by omega) (by omega),hU (by omega) (by omega)]
 unfold dayB
 rw[hU (by omega) (by omega)]
 rfl
theorem xV(r:Raw):nT r<=8:=by unfold nT;split<;>omega
theorem Hf{r:Raw}{j:Nat}(h:j<nT r):nR r≠0:=by
 intro h0
 unfold nT at h
 rw[if_pos h0]at h
 omega
theorem NG{r:Raw}{ss:List Sig}(f:Fol)(az:List Int)(day:Int):0<=jG (pj (fc r ss) 900) f az day/\jG (pj (fc r ss) 900) f az day<=4:=by
 have WU:∀ q:Nat,0<=(cp (fc r ss) q).bo/\(cp (fc r ss) q).bo<=4:=fun q=>by
  by_cases hq:q<(fc r ss).rs.length
  ·rw[lk hq]
   have e:(fc r ss).rs[q]=fO r q:=A4 hq
   have hl:(fc r ss).rs.length=nR r:=jn _ _
   have h8:=qF r
   rw[e]
   obtain⟨-,-,-,c4,c5,-⟩:=uM r (show q<8 by omega)
   omega
  ·have:cp (fc r ss) q=zeroR:=by
     unfold cp
     rw[List.getD_eq_getElem?_getD,List.getElem?_eq_none (by omega)];rfl
   rw[this]
   decide
 unfold jG
 split
 ·decide
 ·split
  ·decide
  ·exact WU _
theorem Ow(r:Raw){j:Nat}(hj:j<6)(ss:List Sig):lj (sJ r j ss)=true/\(sJ r j ss).le<=dC mps (sJ r j ss).pa:=by
 obtain⟨e,l1,l2,p1,p2⟩:=xY (xZ (r5 r.ss j).b)
 have ml:=dS (n:=(r5 r.ss j).c) (m:=(dR (r5 r.ss j).b).lv) (by omega)
 have hd:=wo r (nR r)
 have h8:=qF r
 have md:=dS (n:=(r5 r.ss j).d) (m:=eI r (nR r)+20) (by omega)
 have BK:=dS (n:=(r5 r.ss j).e) (m:=30) (by decide)
 have m5:=dS (n:=(r5 r.ss j).a) (m:=5) (by decide)
 have yz:0<=mZ r j ss/\mZ r j ss<=4:=by
  unfold mZ
  split
  ·exact NG _ _ _
  ·omega
 have jU:m6 r j=1+aR (r5 r.ss j).c (dR (r5 r.ss j).b).lv:=rfl
 have yx:kq r j=aR (r5 r.ss j).d (eI r (nR r)+20):=rfl
 refine⟨?_,?_⟩
 ·have hb:lj (sJ r j ss)=(b7 (3*(j:Int)+3) 1 99999&&b7 (mZ r j ss) 0 99&&b7 (dR (r5 r.ss j).b).id 1 999&&b7 (m6 r j) 1 30&&dayB (kq r j)&&lg (kq r j+aR (r5 r.ss j).e 30) 0):=rfl
  rw[hb,AH (by omega) (by omega),hU (by omega) (by omega),hU (by omega) (by omega),hU (by omega) (by omega),hU (by omega) (by omega)]
  unfold dayB
  rw[hU (by omega) (by omega)]
  rfl
 ·show m6 r j<=dC mps (dR (r5 r.ss j).b).id
  rw[e];omega
theorem AM(r:Raw):∀ s,(dt r s).length=s
 | 0=>rfl
 |s+1=>by rw[dt,List.length_append,AM];rfl
theorem xi(r:Raw):∀ s,s<=6->(∀ x∈dt r s,(lj x=true/\x.le<=dC mps x.pa)/\∃ j:Nat,j<s/\x.so=3*(j:Int)+3)/\(dt r s).Pairwise (fun a b=>a.so<b.so)
 | 0,_=>⟨fun x h=>(nomatch h),List.Pairwise.nil⟩
 |s+1,hs=>by
  obtain⟨h1,h2⟩:=xi r s (by omega)
  rw[dt]
  refine⟨fun x hx=>?_,?_⟩
  ·rcases List.mem_append.1 hx with hx | hx
   ·obtain⟨a,j,hj,b⟩:=h1 x hx
    exact⟨a,j,by omega,b⟩
   ·simp only[List.mem_singleton]at hx
    subst hx
    exact⟨Ow r (by omega) _,s,by omega,rfl⟩
  ·rw[List.pairwise_append]
   refine⟨h2,List.pairwise_singleton _ _,fun a ha b hb=>?_⟩
   obtain⟨-,j,hj,e⟩:=h1 a ha
   simp only[List.mem_singleton]at hb
   subst hb
   show a.so<3*(s:Int)+3
   omega
theorem Hl(r:Raw){s:Nat}(hs:s<=6):bS (fc r (dt r s)) where
 ps:=by
  rw[wJ]
  show (∀ x∈mps,lr x=true)/\mps.Pairwise (fun a b=>a.id<b.id)
  exact⟨by decide,by decide⟩
 psn:=by show 3<=12;decide
 rs:=by
  have h8:=qF r
  rw[wJ]
  refine⟨fun x hx=>?_,?_⟩
  ·obtain⟨i,hi,rfl⟩:=List.mem_map.1 hx
   have bE:i<nR r:=List.mem_range.1 hi
   exact(uM r (by omega)).1
  ·show (e8 r (nR r)).Pairwise _
   unfold e8
   rw[List.pairwise_map]
   refine List.pairwise_lt_range.imp fun {a b} mD=>?_
   show 3*(a:Int)+1<3*(b:Int)+1
   omega
 rsn:=by have:=qF r;show (e8 r (nR r)).length<=60;rw[jn];omega
 ts:=by
  have h8:=xV r
  rw[wJ]
  refine⟨fun x hx=>?_,?_⟩
  ·obtain⟨i,hi,rfl⟩:=List.mem_map.1 hx
   have bE:i<nT r:=List.mem_range.1 hi
   exact(Fx (Hf bE) (by omega)).1
  ·show (iK r (nT r)).Pairwise _
   unfold iK
   rw[List.pairwise_map]
   refine List.pairwise_lt_range.imp fun {a b} mD=>?_
   show 3*(a:Int)+2<3*(b:Int)+2
   omega
 tsn:=by have:=xV r;show ((List.range (nT r)).map _).length<=60;rw[List.length_map,List.length_range];omega
 ss:=by
  obtain⟨h1,h2⟩:=xi r s hs
  rw[wJ]
  exact⟨fun x hx=>(h1 x hx).1.1,h2⟩
 ssn:=by show (dt r s).length<=60;rw[AM];omega
 rl:=fun j hj=>by
  have e:(fc r (dt r s)).rs[j]=fO r j:=A4 hj
  have hl:(fc r (dt r s)).rs.length=nR r:=jn _ _
  have h8:=qF r
  rw[e]
  exact(uM r (by omega)).2.1
 sl:=fun j hj=>by
  obtain⟨h1,-⟩:=xi r s hs
  exact(h1 _ (List.getElem_mem hj)).1.2
 nd:=by
  obtain⟨h1,h2⟩:=xi r s hs
  unfold sA
  rw[List.nodup_append,List.nodup_append]
  have m1:∀ x∈(fc r (dt r s)).rs.map Rec.so,∃ i:Nat,x=3*(i:Int)+1:=fun x hx=>by
   obtain⟨y,hy,rfl⟩:=List.mem_map.1 hx
   obtain⟨i,-,rfl⟩:=List.mem_map.1 hy
   exact⟨i,rfl⟩
  have m2:∀ x∈(fc r (dt r s)).ts.map Ret.so,∃ i:Nat,x=3*(i:Int)+2:=fun x hx=>by
   obtain⟨y,hy,rfl⟩:=List.mem_map.1 hx
   obtain⟨i,-,rfl⟩:=List.mem_map.1 hy
   exact⟨i,rfl⟩
  have m3:∀ x∈(fc r (dt r s)).ss.map Sig.so,∃ i:Nat,x=3*(i:Int)+3:=fun x hx=>by
   obtain⟨y,hy,rfl⟩:=List.mem_map.1 hx
   obtain⟨-,j,-,e⟩:=h1 y hy
   exact⟨j,e⟩
  have n1:((fc r (dt r s)).rs.map Rec.so).Nodup:=by
   show ((e8 r (nR r)).map Rec.so).Nodup
   unfold e8
   rw[List.map_map,List.nodup_iff_pairwise_ne,List.pairwise_map]
   refine List.pairwise_lt_range.imp fun {a b} mD=>?_
   show 3*(a:Int)+1≠3*(b:Int)+1
   omega
  have n2:((fc r (dt r s)).ts.map Ret.so).Nodup:=by
   show ((iK r (nT r)).map Ret.so).Nodup
   unfold iK
   rw[List.map_map,List.nodup_iff_pairwise_ne,List.pairwise_map]
   refine List.pairwise_lt_range.imp fun {a b} mD=>?_
   show 3*(a:Int)+2≠3*(b:Int)+2
   omega
  have n3:((fc r (dt r s)).ss.map Sig.so).Nodup:=by
   show ((dt r s).map Sig.so).Nodup
   rw[List.nodup_iff_pairwise_ne,List.pairwise_map]
   exact h2.imp fun {a b} mD=>by omega
  refine⟨⟨n1,n2,fun a ha b hb=>?_⟩,n3,fun a ha b hb=>?_⟩
  ·obtain⟨i,rfl⟩:=m1 a ha
   obtain⟨j,rfl⟩:=m2 b hb
   omega
  ·obtain⟨j,rfl⟩:=m3 b hb
   rcases List.mem_append.1 ha with ha | ha
   ·obtain⟨i,rfl⟩:=m1 a ha;omega
   ·obtain⟨i,rfl⟩:=m2 a ha;omega
end Go.Eng
