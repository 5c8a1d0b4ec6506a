import Derived.Test.YtepaolcgegdpoaaGreatK7
/- Texts LW28 to LW43. -/
set_option linter.all false
namespace Go.Eng
open Go Go.Proofs
set_option maxHeartbeats 8000000
set_option maxRecDepth 10000
noncomputable section
attribute [go_sem] HM
theorem wx{Ls:List Name}(h:Ls.length=4):∃ a b c d,Ls=[a,b,c,d]:=by
 match Ls,h with
 |[a,b,c,d],_=>exact⟨a,b,c,d,rfl⟩
def lg(x:Vw)(nr nb nd:Name):O:=.box [.v (eV x.l),.v (.sl (x.rs.map encR)),.msl nr x.ts.length,.map nb,.map nd]
def rj(x:Vw)(Ls:List Name):List O:=[lg x (Ls.getD 1 []) (Ls.getD 2 []) (Ls.getD 3 []),.arr 1 (x.ts.map vInt),.map 2 (bM x.bk),.map 0 (bE x.ds)]
theorem Zs{x y:Vw}{a b c:Name}(h:lg x a b c=lg y a b c):x.rs=y.rs:=by
 simp only[lg,O.box.injEq,List.cons.injEq,D.v.injEq,V.sl.injEq]at h
 have :=congrArg (List.map i4) h.2.1
 rwa [vv,vv]at this
def ka:Ro (Vw×Int) where
 m:=4
 fam:=fun a Ls=>rj a.1 Ls
 args:=fun a Ls=>[.ref (Ls.getD 0 []) 0,.v (vInt a.2)]
 ok:=fun _=>True
 val:=fun a=>.tup [nc (eJ a.1.rs a.2),.v (.bool (eJ a.1.rs a.2).isSome)]
theorem SN(o:Option Rec)(f:Name->Name):(nc o).ren f=nc o:=by cases o<;>rfl
theorem Ck:ka.Ok where
 len:=fun _ _ _=>rfl
 renF:=fun a f Ls h=>by obtain⟨a,b,c,d,rfl⟩:=wx h;rfl
 renA:=fun a f Ls h=>by obtain⟨a,b,c,d,rfl⟩:=wx h;rfl
 reach:=fun x Ls obj h ca hF=>by
  obtain⟨a,b,c,d,rfl⟩:=wx h
  obtain⟨h1,h2,h3,h4,_⟩:=hF
  have en:cA (ka.args x [a,b,c,d])=[a]:=rfl
  unfold Go.Eng.reach
  rw[en]
  show c6 obj (2993+1+1+1+1+1+1+1) _ []=_
  simp only[List.nodup_cons,List.mem_cons,List.not_mem_nil,or_false,not_or,not_false_eq_true,List.nodup_nil,and_true]at ca
  obtain⟨⟨a1,a2,a3⟩,⟨b1,b2⟩,c1⟩:=ca
  simp[c6,gD,h1,h2,h3,h4,jK,cA,jL,lg,Ne.symm a1,Ne.symm a2,Ne.symm a3,Ne.symm b1,Ne.symm b2,Ne.symm c1]
 closF:=fun x dom Ls h hd o ho=>by
  obtain⟨a,b,c,d,rfl⟩:=wx h
  have h1:=hd b (by simp)
  have h2:=hd c (by simp)
  have h3:=hd d (by simp)
  simp only[ka,rj,List.mem_cons,List.not_mem_nil,or_false]at ho
  rcases ho with rfl | rfl | rfl | rfl<;>simp[O.clos,D.closL,D.clos,lg,h1,h2,h3]
 closA:=fun x dom Ls h hd=>by
  obtain⟨a,b,c,d,rfl⟩:=wx h
  have h1:=hd a (by simp)
  simp[ka,D.closL,D.clos,h1]
 det:=fun a b _ _ h1 h2=>by
  have e1:a.1.rs=b.1.rs:=Zs (List.cons.inj h1).1
  have e2:a.2=b.2:=by
   have :=(List.cons.inj (List.cons.inj h2).2).1
   simpa[vInt]using this
  simp only[ka,e1,e2]
 vcl:=fun a dom=>by simp[ka,D.clos,D.closL,ma]
 vren:=fun a f=>by simp[ka,D.ren,D.renL,SN]
def S77m:Spec:=ka.c.toSpec
theorem WV:aM Tryz.prog 77 S77m:=by
 refine Ro.sound Ck (rs:=[.cell 4 36,.tmp 5]) Tryz.func77 Tryz.ntmps77 (by rfl) (by kernel_rfl) (by decide) ⟨_,rfl,?_⟩
 rintro⟨x,s⟩ _
 refine⟨lb rfl,?_⟩
 have hΓ:=Ps
 have hO:=Ro.outC Ck (x,s)
 have h0:aS (ka.fam (x,s) (LR ka.m)) [0,1]=some (lg x [1,1] [2,1] [3,1]):=rfl
 generalize aS (ka.fam (x,s) (LR ka.m))=H at *
 have ha:ka.args (x,s) (LR ka.m)=[.ref [0,1] 0,.v (vInt s)]:=rfl
 have hv:ka.val (x,s)=.tup [nc (eJ x.rs s),.v (.bool (eJ x.rs s).isSome)]:=rfl
 rw[ha,hv]
 simp only[lg,dD,Nat.zero_add]at h0 |-
 repeat refine sq ?_
 refine rx hΓ [0,3,4] [[3,0],[4,0]] (fun K' hK=>by simp only[go_sem,hO,h0];(repeat (refine⟨ao,?_⟩));exact hK _ (by simp only[go_sem,hO,h0]) (by simp only[go_sem,hO,h0]<;>rfl)) ?_
 repeat refine sq ?_
 refine rx hΓ [0,4,6] [[4,0]] (fun K' hK=>by simp only[go_sem,hO,h0,true_or,or_true];(repeat (refine⟨ao,?_⟩));exact hK _ (by simp only[go_sem,hO,h0,true_or,or_true]) (by simp only[go_sem,hO,h0,true_or,or_true]<;>rfl)) ?_
 repeat refine sq ?_
 refine rx hΓ [0,4,6,14] [[4,0]] (fun K' hK=>by simp only[go_sem,hO,h0];(repeat (refine⟨ao,?_⟩));exact hK _ (by simp only[go_sem,hO,h0]) (by simp only[go_sem,hO,h0]<;>rfl)) ?_
 repeat refine sq ?_
 refine au (fun hb=>?_) fun hb=>?_
 ·repeat refine sq ?_
  have e:eJ x.rs s=none:=If (by simpa using hb)
  repeat refine sq ?_
  refine rx hΓ [4,5] [[4,0]] (fun K' hK=>by simp only[go_sem,hO,h0];(repeat (refine⟨ao,?_⟩));exact hK _ (by simp only[go_sem,hO,h0]) (by simp only[go_sem,hO,h0]<;>rfl)) ?_
  refine aq ?_
  simp only[go_sem,hO,h0]
  rw[e];exact⟨.inr trivial,rfl⟩
 ·repeat refine sq ?_
  obtain⟨i,hi,e1,e⟩:=Ie (by simpa using hb)
  have bU:(i:Int)<x.rs.length:=by omega
  rw[e1]
  refine ay ?_
  repeat refine sq ?_
  refine rx hΓ [4,5] [[4,0]] (fun K' hK=>by simp only[go_sem,hO,h0,ae hi,ah,aj,bU];(repeat (refine⟨ao,?_⟩));exact hK _ (by simp only[go_sem,hO,h0,ae hi,ah,aj,bU]) (by simp only[go_sem,hO,h0,ae hi,ah,aj,bU]<;>rfl)) ?_
  refine aq ?_
  simp only[go_sem,hO,h0]
  rw[e];exact⟨.inr trivial,rfl⟩
def nh(r:Rec):V:=.ptr [vInt r.so,vInt r.bo,vInt r.pa,.sl (r.lv.map vInt),vInt r.da,vInt r.kn,vInt r.un]
theorem Il{a b:Rec}(h:nh a=nh b):a=b:=by
 refine Ib ?_
 obtain⟨a1,a2,a3,al,a4,a5,a6⟩:=a
 obtain⟨b1,b2,b3,bl,b4,b5,b6⟩:=b
 simp only[nh,V.ptr.injEq,List.cons.injEq,and_true]at h
 simp only[gS,D.agg.injEq,List.cons.injEq,D.v.injEq,and_true]
 exact h
def jf(bk:Bk)(r:Rec)(f:Int):Bool:=(bJ bk (r.so,f)).isSome||!r.lv.contains f
def tQ{β:Type}(ar:β->Rec->Name->List D)(ok:β->Prop)(val:Bk->Rec->β->V):Ro (Vw×Rec×β) where
 m:=5
 fam:=fun a Ls=>.box [.ref (Ls.getD 1 []) 0]::rj a.1 (Ls.drop 1)
 args:=fun a Ls=>ar a.2.2 a.2.1 (Ls.getD 0 [])
 ok:=fun a=>ok a.2.2
 val:=fun a=>.v (val a.1.bk a.2.1 a.2.2)
theorem GH{β:Type}{ar:β->Rec->Name->List D}{ok:β->Prop}{val:Bk->Rec->β->V}(h1:∀ b r n,cA (ar b r n)=[n])(h2:∀ f b r n,D.renL f (ar b r n)=ar b r (f n))(h3:∀ dom b r n,dom n=true->D.closL dom (ar b r n)=true)
 (h4:∀ b r b' r' n,ar b r n=ar b' r' n->b=b'/\r=r'):(tQ ar ok val).Ok where
 len:=fun _ _ _=>rfl
 renF:=fun a f Ls h=>by obtain⟨a,b,c,d,e,rfl⟩:=lJ h;rfl
 renA:=fun a f Ls h=>by obtain⟨a,b,c,d,e,rfl⟩:=lJ h;exact h2 _ _ _ _
 reach:=fun x Ls obj h ca hF=>by
  obtain⟨a,b,c,d,e,rfl⟩:=lJ h
  obtain⟨k1,k2,k3,k4,k5,_⟩:=hF
  have en:cA ((tQ ar ok val).args x [a,b,c,d,e])=[a]:=h1 _ _ _
  unfold Go.Eng.reach
  rw[en]
  show c6 obj (2993+1+1+1+1+1+1+1) _ []=_
  simp only[List.nodup_cons,List.mem_cons,List.not_mem_nil,or_false,not_or,not_false_eq_true,List.nodup_nil,and_true]at ca
  obtain⟨⟨a1,a2,a3,a4⟩,⟨b1,b2,b3⟩,⟨c1,c2⟩,d1⟩:=ca
  simp[c6,gD,k1,k2,k3,k4,k5,jK,cA,jL,lg,Ne.symm a1,Ne.symm a2,Ne.symm a3,Ne.symm a4,Ne.symm b1,Ne.symm b2,Ne.symm b3,Ne.symm c1,Ne.symm c2,Ne.symm d1]
 closF:=fun x dom Ls h hd o ho=>by
  obtain⟨a,b,c,d,e,rfl⟩:=lJ h
  have h1:=hd b (by simp)
  have h2:=hd c (by simp)
  have h3:=hd d (by simp)
  have h4:=hd e (by simp)
  simp only[tQ,rj,List.drop_succ_cons,List.drop_zero,List.mem_cons,List.not_mem_nil,or_false]at ho
  rcases ho with rfl | rfl | rfl | rfl | rfl<;>simp[O.clos,D.closL,D.clos,lg,h1,h2,h3,h4]
 closA:=fun x dom Ls h hd=>by
  obtain⟨a,b,c,d,e,rfl⟩:=lJ h
  exact h3 _ _ _ _ (hd a (by simp))
 det:=fun a b _ _ k1 k2=>by
  have e1:a.1.bk=b.1.bk:=by
   have :=(List.cons.inj (List.cons.inj (List.cons.inj (List.cons.inj k1).2).2).2).1
   simp only[O.map.injEq,true_and]at this
   have :=congrArg Ay this
   rwa [Fk,Fk]at this
  obtain⟨e2,e3⟩:=h4 _ _ _ _ _ k2
  simp only[tQ,e1,e2,e3]
 vcl:=fun _ _=>rfl
 vren:=fun _ _=>rfl
def tkRo:Ro (Vw×Rec×Int):=tQ (fun f r n=>[.v (vInt f),.ref n 0,.v (nh r)]) (fun _=>True) (fun bk r f=>.bool (jf bk r f))
theorem BC:tkRo.Ok:=GH (fun _ _ _=>rfl) (fun _ _ _ _=>rfl) (fun dom b r n h=>by simp[D.closL,D.clos,h]) (fun b r b' r' n h=>by
 simp only[List.cons.injEq,D.v.injEq,and_true,true_and]at h
 exact⟨by simpa[vInt]using h.1,Il h.2⟩)
def S163m:Spec:=tkRo.c.toSpec
def K28a:List (Nat×Spec):=[(108,Bi)]
theorem ac6:KS K28a:=tc B4.sound<|tn
attribute [go_sem] K28a
theorem W3:aM Tryz.prog 163 S163m:=by
 refine Ro.sound BC (rs:=[.tmp 4]) Tryz.func163 Tryz.ntmps163 (by rfl) (by kernel_rfl) (by decide) ⟨_,rfl,?_⟩
 rintro⟨x,r,f⟩ _
 refine⟨lb rfl,?_⟩
 have hΓ:=ac6
 have hP:=c8
 have hO:=Ro.outC BC (x,r,f)
 have h0:aS (tkRo.fam (x,r,f) (LR tkRo.m)) [0,1]=some (.box [.ref [1,1] 0]):=rfl
 have h1:aS (tkRo.fam (x,r,f) (LR tkRo.m)) [1,1]=some (lg x [2,1] [3,1] [4,1]):=rfl
 have h3:aS (tkRo.fam (x,r,f) (LR tkRo.m)) [3,1]=some (.map 2 (bM x.bk)):=rfl
 generalize aS (tkRo.fam (x,r,f) (LR tkRo.m))=H at *
 have ha:tkRo.args (x,r,f) (LR tkRo.m)=[.v (vInt f),.ref [0,1] 0,.v (nh r)]:=rfl
 have hv:tkRo.val (x,r,f)=.v (.bool (jf x.bk r f)):=rfl
 rw[ha,hv]
 simp only[lg,dD,Nat.zero_add,nh]at h1 |-
 repeat refine sq ?_
 refine rx hΓ [0,1,2] [] (fun K' hK=>by simp only[go_sem,hO,h0,h1,h3];(repeat (refine⟨ao,?_⟩));exact hK _ (by simp only[go_sem,hO,h0,h1,h3]) (by simp only[go_sem,hO,h0,h1,h3]<;>rfl)) ?_
 repeat refine sq ?_
 refine dx hΓ hP [[],[0],[0,1],[0,1,2],[],[4],[],[4,5,6],u8,u9,bI,bI,cz,fJ] [0,2,6] [] (by kernel_rfl) (fun K' hK=>by simp only[go_sem,hO,h0,h1,h3,aB];(repeat (refine⟨ao,?_⟩));(first | refine⟨by rfl,?_⟩ | skip);exact hK _ (by simp only[go_sem,hO,h0,h1,h3,aB]) (by simp only[go_sem,hO,h0,h1,h3,aB]<;>rfl)) ?_
 repeat refine sq ?_
 refine rx hΓ [4] [] (fun K' hK=>by simp only[go_sem,hO,h0,h1,h3];(repeat (refine⟨ao,?_⟩));exact hK _ (by simp only[go_sem,hO,h0,h1,h3]) (by simp only[go_sem,hO,h0,h1,h3]<;>rfl)) ?_
 refine aq ?_
 simp only[go_sem,hO,h0,h1,h3]
 exact⟨.inr trivial,by unfold jf;cases bJ x.bk (r.so,f)<;>rfl⟩
def iD(v:Bk->Rec->List Int->V):Ro (Vw×Rec×List Int):=tQ (fun l r n=>[.v (.sl (l.map vInt)),.clo (.func 163) [] [.ref n 0,.v (nh r)]]) (fun l=>l.length<=maxLen) v
theorem vA(v:Bk->Rec->List Int->V):(iD v).Ok:=GH (fun _ _ _=>rfl) (fun _ _ _ _=>rfl) (fun dom b r n h=>by simp[D.closL,D.clos,h]) (fun b r b' r' n h=>by
 simp only[List.cons.injEq,D.v.injEq,D.clo.injEq,V.sl.injEq,and_true,true_and]at h
 refine⟨?_,Il h.2⟩
 have :=congrArg (List.map ky) h.1
 rwa [p9,p9]at this)
def mh(bk:Bk)(r:Rec)(l:List Int):V:=vInt (cf (jf bk r) l)
def mM(bk:Bk)(r:Rec)(l:List Int):V:=.bool (l.any (jf bk r))
def S192m:Spec:=(iD mh).c.toSpec
def S160m:Spec:=(iD mM).c.toSpec
def Gx:FuncId->Option Spec:=fun f=>if f=163 then some S163m else none
theorem ac5:∀ f s,Gx f=some s->aM Tryz.prog f s:=fun f s h=>by
 unfold Gx at h
 split at h
 ·rename_i e;cases h;subst e;exact W3
 ·cases h
theorem Gw:Gx 163=some S163m:=rfl
theorem WX:aM Tryz.prog 192 S192m:=by
 refine Ro.sound (vA mh) (rs:=[.tmp 4]) Tryz.func192 Tryz.ntmps192 (by rfl) (by kernel_rfl) (by decide) ⟨_,rfl,?_⟩
 rintro⟨x,r,l⟩ hl
 replace hl:l.length<=maxLen:=hl
 refine⟨lb rfl,?_⟩
 have hΓ:=ac5
 have hO:=Ro.outC (vA mh) (x,r,l)
 have eO:ct (aS ((iD mh).fam (x,r,l) (LR (iD mh).m))) (LR 5) ((iD mh).fam (x,r,l) (LR 5)):=⟨rfl,rfl,rfl,rfl,rfl,trivial⟩
 generalize aS ((iD mh).fam (x,r,l) (LR (iD mh).m))=H at *
 have pR:∀ (F:Name->Option O) (t:Name) (f:Int),S163m.app (fun nm=>if own [0] nm=true then F nm else H nm) t [.v (vInt f),.ref [0,1] 0,.v (nh r)]=⟨True,.v (.bool (jf x.bk r f)),fun nm=>if own [0] nm=true then F nm else H nm⟩:=fun F t f=>Ro.c_app BC (a:=(x,r,f)) trivial (t:=t) (obj:=fun nm=>if own [0] nm=true then F nm else H nm) (Ls:=LR 5) rfl (Pk 5) (yY eO fun y hy=>by
  obtain⟨i,_,rfl⟩:=List.mem_map.1 hy
  simp[qy])
 have ha:(iD mh).args (x,r,l) (LR (iD mh).m)=[.v (.sl (l.map vInt)),.clo (.func 163) [] [.ref [0,1] 0,.v (nh r)]]:=rfl
 have hv:(iD mh).val (x,r,l)=.v (vInt (cf (jf x.bk r) l)):=rfl
 rw[ha,hv]
 simp only[dD,Nat.zero_add]
 repeat refine sq ?_
 refine rx hΓ [0,1] [] (fun K' hK=>by simp only[go_sem,hO];(repeat (refine⟨ao,?_⟩));exact hK _ (by simp only[go_sem,hO]) (by simp only[go_sem,hO]<;>rfl)) ?_
 repeat refine sq ?_
 refine rx hΓ [0,1,7,8] [] (fun K' hK=>by simp only[go_sem,hO];(repeat (refine⟨ao,?_⟩));exact hK _ (by simp only[go_sem,hO]) (by simp only[go_sem,hO]<;>rfl)) ?_
 repeat refine sq ?_
 refine aC ?_
 repeat refine sq ?_
 refine bA (fun s:Nat=>[(8,⟨true,.v (vInt s)⟩)]) (fun s=>[]) (fun s=>s<=l.length/\∀ k (h:k<l.length),k<s->jf x.bk r l[k]=false) (fun s=>l.length-s) 0 ?_ ?_ ?_ ?_
 ·exact⟨Nat.zero_le _,by simp⟩
 ·rfl
 ·rfl
 rintro i ⟨hi,hR⟩
 simp only[go_sem]
 repeat refine sq ?_
 refine rx hΓ [0,1,7,8,9] [] (fun K' hK=>by simp only[go_sem,hO];(repeat (refine⟨ao,?_⟩));exact hK _ (by simp only[go_sem,hO]) (by simp only[go_sem,hO]<;>rfl)) ?_
 repeat refine sq ?_
 refine au (fun hb=>?_) fun hb=>?_
 ·have aa:i<l.length:=by simpa using hb
  have an:(i:Int)<l.length:=by omega
  clear hb
  repeat refine sq ?_
  refine ay ?_
  repeat refine sq ?_
  refine aC ?_
  repeat refine sq ?_
  refine rx hΓ [0,1,5,7,8] [] (fun K' hK=>by simp only[go_sem,hO,ae aa,ah,aj,an];(repeat (refine⟨ao,?_⟩));exact hK _ (by simp only[go_sem,hO,ae aa,ah,aj,an]) (by simp only[go_sem,hO,ae aa,ah,aj,an]<;>rfl)) ?_
  repeat refine sq ?_
  refine rx hΓ [0,1,5,7,8,16] [] (fun K' hK=>by simp only[go_sem,hO,ae aa,ah,aj,an,Gw,pR];(repeat (refine⟨ao,?_⟩));exact hK _ (by simp only[go_sem,hO,ae aa,ah,aj,an,Gw,pR]) (by simp only[go_sem,hO,ae aa,ah,aj,an,Gw,pR]<;>rfl)) ?_
  repeat refine sq ?_
  refine au (fun hb=>?_) fun hb=>?_
  ·repeat refine sq ?_
   refine rx hΓ [4] [] (fun K' hK=>by simp only[go_sem,hO,ae aa,ah,aj,an];(repeat (refine⟨ao,?_⟩));exact hK _ (by simp only[go_sem,hO,ae aa,ah,aj,an]) (by simp only[go_sem,hO,ae aa,ah,aj,an]<;>rfl)) ?_
   refine aq ?_
   simp only[go_sem,hO]
   rw[lM (p:=jf x.bk r) aa (by simpa using hb) hR];exact⟨.inr trivial,rfl⟩
  ·repeat refine sq ?_
   refine ay ?_
   refine br ?_
   simp only[go_sem]
   refine dv [0,1,7,8] [] ?_ ?_
   ·simp only[go_sem,hO]
   simp only[go_sem,hO]
   repeat refine sq ?_
   refine aI hΓ fun K' hK=>?_
   simp only[go_sem,hO,ae aa,ah,aj,an]
   repeat (refine⟨ao,?_⟩)
   refine hK _ ?_
   clear K' hK
   simp only[go_sem]
   refine⟨i+1,⟨aa,?_⟩,by(show l.length-(i+1)<l.length-i;omega),?_⟩
   ·intro k hk du
    rcases Nat.lt_succ_iff_lt_or_eq.1 du with h5 | rfl
    ·exact hR k hk h5
    ·simpa using hb
   refine aT [0,1,7,8] [] ?_ ?_<;>simp only[go_sem,aO aa hl,aQ,hO]
 ·have aV:i=l.length:=by
   have :¬ (i:Int)<l.length:=by simpa using hb
   omega
  clear hb
  subst aV
  repeat refine sq ?_
  refine be ?_
  simp only[go_sem]
  refine dv [] [] ?_ ?_
  ·simp only[go_sem,hO]
  simp only[go_sem,hO]
  repeat refine sq ?_
  refine rx hΓ [4] [] (fun K' hK=>by simp only[go_sem,hO];(repeat (refine⟨ao,?_⟩));exact hK _ (by simp only[go_sem,hO]) (by simp only[go_sem,hO]<;>rfl)) ?_
  refine aq ?_
  simp only[go_sem,hO]
  rw[oG (p:=jf x.bk r) fun k hk=>hR k hk hk];exact⟨.inr trivial,rfl⟩
def Gv:FuncId->Option Spec:=fun f=>if f=192 then some S192m else none
theorem ac4:∀ f s,Gv f=some s->aM Tryz.prog f s:=fun f s h=>by
 unfold Gv at h
 split at h
 ·rename_i e;cases h;subst e;exact WX
 ·cases h
theorem Gu:Gv 192=some S192m:=rfl
theorem W4:aM Tryz.prog 160 S160m:=by
 refine Ro.sound (vA mM) (rs:=[.tmp 4]) Tryz.func160 Tryz.ntmps160 (by rfl) (by kernel_rfl) (by decide) ⟨_,rfl,?_⟩
 rintro⟨x,r,l⟩ hl
 replace hl:l.length<=maxLen:=hl
 refine⟨lb rfl,?_⟩
 have hΓ:=ac4
 have hO:=Ro.outC (vA mM) (x,r,l)
 have eO:ct (aS ((iD mM).fam (x,r,l) (LR (iD mM).m))) (LR 5) ((iD mM).fam (x,r,l) (LR 5)):=⟨rfl,rfl,rfl,rfl,rfl,trivial⟩
 generalize aS ((iD mM).fam (x,r,l) (LR (iD mM).m))=H at *
 have pR:∀ (F:Name->Option O) (t:Name),S192m.app (fun nm=>if own [0] nm=true then F nm else H nm) t [.v (.sl (l.map vInt)),.clo (.func 163) [] [.ref [0,1] 0,.v (nh r)]]=⟨True,.v (vInt (cf (jf x.bk r) l)),fun nm=>if own [0] nm=true then F nm else H nm⟩:=fun F t=>Ro.c_app (vA mh) (a:=(x,r,l)) hl (t:=t) (obj:=fun nm=>if own [0] nm=true then F nm else H nm) (Ls:=LR 5) rfl (Pk 5) (yY eO fun y hy=>by
  obtain⟨i,_,rfl⟩:=List.mem_map.1 hy
  simp[qy])
 have ha:(iD mM).args (x,r,l) (LR (iD mM).m)=[.v (.sl (l.map vInt)),.clo (.func 163) [] [.ref [0,1] 0,.v (nh r)]]:=rfl
 have hv:(iD mM).val (x,r,l)=.v (.bool (l.any (jf x.bk r))):=rfl
 rw[ha,hv]
 simp only[dD,Nat.zero_add]
 repeat refine sq ?_
 refine rx hΓ [0,1] [] (fun K' hK=>by simp only[go_sem,hO];(repeat (refine⟨ao,?_⟩));exact hK _ (by simp only[go_sem,hO]) (by simp only[go_sem,hO]<;>rfl)) ?_
 repeat refine sq ?_
 refine rx hΓ [4] [] (fun K' hK=>by simp only[go_sem,hO,Gu,pR,qO];(repeat (refine⟨ao,?_⟩));exact hK _ (by simp only[go_sem,hO,Gu,pR,qO]) (by simp only[go_sem,hO,Gu,pR,qO]<;>rfl)) ?_
 refine aq ?_
 simp only[go_sem,hO]
 first | exact .inr trivial | exact⟨.inr trivial,rfl⟩
end
theorem aaG(b:Bk)(q p:Int×Int)(i:Int):bJ (rB b q i) p=if q=p then some i else bJ b p:=by
 induction b with
 |nil=>rfl
 |cons e r ih=>
  obtain⟨k,j⟩:=e
  simp only[rB]
  by_cases h:k=q
  ·rw[if_pos h]
   subst h
   simp only[bJ]
   split<;>rfl
  ·rw[if_neg h]
   simp only[bJ,ih]
   by_cases h2:k=p
   ·subst h2
    rw[if_pos rfl,if_pos rfl,if_neg (fun e=>h e.symm)]
   ·rw[if_neg h2,if_neg h2]
theorem FJ(so i:Int)(lv:List Int)(b:Bk)(s f:Int):bJ (qc b so i lv) (s,f)=if s=so/\f∈lv then some i else bJ b (s,f):=by
 induction lv generalizing b with
 |nil=>simp[qc]
 |cons a r ih=>
  show bJ (qc (rB b (so,a) i) so i r) (s,f)=_
  rw[ih,aaG]
  by_cases h1:s=so
  ·subst h1
   by_cases h2:f∈r
   ·simp[h2]
   ·by_cases h3:a=f
    ·subst h3;simp[h2]
    ·have h4:¬ f=a:=fun e=>h3 e.symm
     simp[h2,h3,h4]
  ·have h4:¬ (so,a)=(s,f):=fun e=>h1 (by cases e;rfl)
   simp[h1,h4]
theorem Jc{k:Int}{rs:List Rec}{bk:Bk}{x:Ret}{r:Rec}(h:ji k rs bk x=some r):eJ rs x.re=some r/\cG x.kn x.un k=true/\¬ cI x.lo (r.da+1)>x.hi/\x.lv.any (jf bk r)=false:=by
 unfold ji at h
 split at h
 ·cases h
 ·rename_i q hq
  split at h
  ·rename_i hc
   cases h
   simp only[Bool.and_eq_true,Bool.not_eq_true',Bool.or_eq_false_iff,decide_eq_false_iff_not]at hc
   exact⟨hq,hc.1,hc.2.1,hc.2.2⟩
  ·cases h
theorem TD{k:Int}{rs:List Rec}{bk:Bk}{x:Ret}(h:eJ rs x.re=none):ji k rs bk x=none:=by
 unfold ji;rw[h]
theorem TC{k:Int}{rs:List Rec}{bk:Bk}{x:Ret}{r:Rec}(h:eJ rs x.re=some r)(hc:cG x.kn x.un k=false):ji k rs bk x=none:=by
 unfold ji;rw[h];simp[hc]
theorem TB{k:Int}{rs:List Rec}{bk:Bk}{x:Ret}{r:Rec}(h:eJ rs x.re=some r)(hc:(decide (cI x.lo (r.da+1)>x.hi)||x.lv.any (jf bk r))=true):ji k rs bk x=none:=by
 unfold ji;rw[h]
 have jr:(decide (cI x.lo (r.da+1)>x.hi)||x.lv.any fun f=>(bJ bk (r.so,f)).isSome||!r.lv.contains f)=true:=hc
 simp only[jr,Bool.not_true,Bool.and_false,Bool.false_eq_true,if_false]
theorem TA{k:Int}{rs:List Rec}{bk:Bk}{x:Ret}{r:Rec}(h:eJ rs x.re=some r)(h1:cG x.kn x.un k=true)(hc:(decide (cI x.lo (r.da+1)>x.hi)||x.lv.any (jf bk r))=false):ji k rs bk x=some r:=by
 unfold ji;rw[h]
 have jr:(decide (cI x.lo (r.da+1)>x.hi)||x.lv.any fun f=>(bJ bk (r.so,f)).isSome||!r.lv.contains f)=false:=hc
 simp only[jr,h1,Bool.not_false,Bool.and_true,if_true]
theorem wD{l:Led}{k:Int}{i:Nat}(h:ji k (bK l k) (aF l k i).bk (aK l i)=none):aF l k (i+1)=aF l k i:=by
 show qJ l k (aF l k i) i=_
 unfold qJ
 rw[(pA l k i).2,h]
theorem CV{l:Led}{k:Int}{i:Nat}{r:Rec}(h:ji k (bK l k) (aF l k i).bk (aK l i)=some r):aF l k (i+1)=
 { aF l k i with bk:=qc (aF l k i).bk r.so i (aK l i).lv,ts:=(aF l k i).ts++[(i:Int)],ds:=nW (aF l k i).ds i (cI (aK l i).lo (r.da+1),(aK l i).hi) }:=by
 show qJ l k (aF l k i) i=_
 have h':ji k (aF l k i).rs (aF l k i).bk (aK l i)=some r:=by rw[(pA l k i).2];exact h
 unfold qJ
 rw[h']
structure ab9 (l:Led) (k:Int) (i:Nat):Prop where
 bk:∀ q j,bJ (aF l k i).bk q=some j->0<=j/\j<l.ts.length
 tn:(aF l k i).ts.length<=i
 ts:∀ j∈(aF l k i).ts,(0<=j/\j<l.ts.length)/\∃ r,eJ (bK l k) (aK l j.toNat).re=some r
theorem ze(l:Led)(k:Int):∀ i,i<=l.ts.length->ab9 l k i
 | 0,_=>⟨fun q j (h:none=some j)=>(by cases h),Nat.le_refl 0,fun j (h:j∈([]:List Int))=>(by cases h)⟩
 |i+1,hi=>by
  have ih:=ze l k i (by omega)
  cases hn:ji k (bK l k) (aF l k i).bk (aK l i)with
  |none=>
   have e:=wD hn
   exact⟨by rw[e];exact ih.bk,by rw[e];exact Nat.le_succ_of_le ih.tn,by rw[e];exact ih.ts⟩
  |some r=>
   have e:=CV hn
   refine⟨?_,?_,?_⟩
   ·rintro⟨s,f⟩ j h
    rw[e]at h
    simp only[FJ]at h
    split at h
    ·cases h;omega
    ·exact ih.bk _ _ h
   ·rw[e]
    have :=ih.tn
    simp;omega
   ·intro j hj
    rw[e]at hj
    rcases List.mem_append.1 hj with hj | hj
    ·exact ih.ts j hj
    ·simp only[List.mem_singleton]at hj
     subst hj
     exact⟨by omega,r,by rw[Int.toNat_natCast];exact(Jc hn).1⟩
theorem Ig{rs:List Rec}{s:Int}{r:Rec}(h:eJ rs s=some r):r∈rs/\r.so=s:=by
 unfold eJ at h
 exact⟨List.mem_of_find?_eq_some h,by simpa using List.find?_some h⟩
theorem Ce{l:Led}(h:bp l)(k:Int):∀ r∈bK l k,dG r=true:=fun r hr=>h.recs r ((List.mem_filter.1 hr).1)
theorem HZ{l:Led}(h:bp l)(k:Int):(bK l k).length<=60:=Nat.le_trans (List.length_filter_le _ _) h.rsn
theorem HY{l:Led}(h:bp l)(k:Int):(bK l k).Nodup:=by
 refine List.Nodup.sublist List.filter_sublist ?_
 have hs:srt Rec.so l.rs:=wq (gu.1 h.rs)
 rw[List.nodup_iff_pairwise_ne,List.pairwise_iff_getElem]
 intro i j hi hj b7 e
 have :=hs i j hi hj b7
 rw[e]at this
 omega
theorem qH{l:Led}(h:bp l)(k:Int):l4 (ax l k)/\(ax l k).rs.Nodup:=by
 have hk:=ze l k l.ts.length (Nat.le_refl _)
 obtain⟨e1,e2⟩:=pA l k l.ts.length
 refine⟨⟨?_,?_,?_,?_,?_,?_⟩,?_⟩
 ·show bp (aF l k l.ts.length).l;rw[e1];exact h
 ·show ∀ q i,bJ (aF l k l.ts.length).bk q=some i->0<=i/\i<(aF l k l.ts.length).l.ts.length
  rw[e1];exact hk.bk
 ·show ∀ r∈(aF l k l.ts.length).rs,_;rw[e2];exact Ce h k
 ·show (aF l k l.ts.length).rs.length<=60;rw[e2];exact HZ h k
 ·exact Nat.le_trans hk.tn h.tsn
 ·show ∀ i∈(aF l k l.ts.length).ts,0<=i/\i<(aF l k l.ts.length).l.ts.length
  rw[e1];exact fun i hi=>(hk.ts i hi).1
 ·show (aF l k l.ts.length).rs.Nodup;rw[e2];exact HY h k
noncomputable section
theorem M6{α:Type}{p:α->Bool}{l:List α}{i:Nat}(h:i<l.length):((l.take (i+1)).filter p)=(l.take i).filter p++(if p l[i]=true then[l[i]]else[]):=yt h
def vJ:FuncId->Option Spec:=fun f=>if f=77 then some S77m else if f=160 then some S160m else if f=162 then some S162 else if f=164 then some S164 else none
theorem ac3:∀ f s,vJ f=some s->aM Tryz.prog f s:=fun f s h=>by
 unfold vJ at h
 split at h
 ·rename_i e;cases h;subst e;exact WV
 ·split at h
  ·rename_i e;cases h;subst e;exact W4
  ·split at h
   ·rename_i e;cases h;subst e;exact Lq
   ·split at h
    ·rename_i e;cases h;subst e;exact Dg
    ·cases h
@[go_sem] theorem agL:vJ 77=some S77m:=rfl
@[go_sem] theorem agP:vJ 160=some S160m:=rfl
@[go_sem] theorem agO:vJ 162=some S162:=rfl
@[go_sem] theorem agM:vJ 164=some S164:=rfl
def m8(l:Led)(k:Int)(s:Nat):List Rec:=(l.rs.take s).filter fun r=>cG r.kn r.un k
theorem Sz(l:Led)(k:Int):m8 l k l.rs.length=bK l k:=by unfold m8 bK;rw[List.take_length]
theorem Sw{l:Led}{k:Int}{i:Nat}(h:i<l.rs.length)(hc:cG l.rs[i].kn l.rs[i].un k=true):m8 l k (i+1)=m8 l k i++[l.rs[i]]:=by
 unfold m8;rw[M6 h,if_pos hc]
theorem Sx{l:Led}{k:Int}{i:Nat}(h:i<l.rs.length)(hc:cG l.rs[i].kn l.rs[i].un k=false):m8 l k (i+1)=m8 l k i:=by
 unfold m8;rw[M6 h,if_neg (by rw[hc];decide)];simp
theorem Sy(l:Led)(k:Int)(i:Nat):(m8 l k i).length<=l.rs.length:=Nat.le_trans (List.length_filter_le _ _) (by simp;omega)
attribute [go_sem] ct
def K29b:List (Nat×Spec):=[(77,S77),(164,S164),(165,S165)]
theorem ac2:KS K29b:=tc WW<|tc Dg<|tc Df<|tn
attribute [go_sem] K29b
theorem UU(l:Led)(k i j:Int)(n:Nat)(x:Vw)(r:Rec)(lv:List Int):Bs (jj l k i j n x r lv) (kC 4 r.pa lv) where
 ren:=fun f Ls h=>by obtain⟨a,b,c,d,e,rfl⟩:=lJ h;rfl
 clo:=fun dom Ls h hd=>by
  obtain⟨a,b,c,d,e,rfl⟩:=lJ h
  have h4:=hd e (by simp)
  simp[D.closL,D.clos,h4,kC]
 reach:=fun Ls s obj R q h ca hF h0=>by
  obtain⟨a,b,c,d,e,rfl⟩:=lJ h
  obtain⟨h1,h2,h3,h4,h5,_⟩:=hF
  have en:cA (((jj l k i j n x r lv).env [a,b,c,d,e]).map (·.d))=[a,e]:=rfl
  have ec:cA (kC 4 r.pa lv [a,b,c,d,e])=[e]:=rfl
  rw[ec]
  show c6 obj (q+90+1+1+1+1+1+1+1+1+1+1+1) _ []=_
  simp only[List.nodup_cons,List.mem_cons,List.not_mem_nil,or_false,not_or,not_false_eq_true,List.nodup_nil,and_true]at ca
  obtain⟨⟨r1,r2,r3,r4,r5⟩,⟨a1,a2,a3,a4⟩,⟨b1,b2,b3⟩,⟨c1,c2⟩,e1⟩:=ca
  simp[c6,gD,h0,h1,h2,h3,h4,h5,Lp.rc,jK,en,cA,jL,bg,Ne.symm r1,Ne.symm r2,Ne.symm r3,Ne.symm r4,Ne.symm r5,Ne.symm a1,Ne.symm a2,Ne.symm a3,Ne.symm a4,Ne.symm b1,Ne.symm b2,Ne.symm b3,Ne.symm c1,Ne.symm c2,Ne.symm e1]
theorem aaH(b:Bk)(so i:Int){lv:List Int}{s:Nat}(h:s<lv.length):qc b so i (lv.take (s+1))=rB (qc b so i (lv.take s)) (so,lv[s]) i:=by
 unfold qc
 rw[List.take_add_one,List.getElem?_eq_getElem h,List.foldl_append]
 rfl
def Bn:NSpec:=n2 jQ iI (fun l _=>bp l) (fun l k=>[([26,0],bg (ax l k) [23,0] [24,0]),([23,0],.map 2 (bM (ax l k).bk)),([24,0],.map 0 (bE (ax l k).ds))]) (fun _ _=>.ref [26,0] 0)
def S76:Spec:=Bn.toSpec
attribute [go_sem] Bn S76
set_option maxHeartbeats 16000000 in
theorem De:aM Tryz.prog 76 S76:=by
 refine y0 (nt:=181) (rs:=[.tmp 4]) Tryz.func76 rfl (by rfl) (by kernel_rfl) (by kernel_rfl) (by decide) ?_
 intro xs hp
 obtain⟨l,k,rfl,hp,et,dP⟩:=CG hp
 replace et:Bn.new _=_:=et
 replace dP:Bn.d _=_:=dP
 rw[et,dP]
 clear et dP
 refine⟨lb rfl,?_⟩
 have hP:=c8
 simp only[iI,iB,cm,iP,iR,iT,iS,iL,jQ,cW,iC,iF,fA,encR,encT,encS,dq,eV,List.map_cons,List.map_nil,dD,Nat.zero_add]
 have hΓ:=ac3
 have jT:l.rs.length<=maxLen:=by have:=hp.rsn;unfold maxLen;omega
 have fP:l.ts.length<=maxLen:=by have:=hp.tsn;unfold maxLen;omega
 repeat refine sq ?_
 refine rx hΓ [0,1] [] (fun K' hK=>by simp only[go_sem];exact ak) ?_
 repeat refine sq ?_
 refine rx hΓ [0,1,5] [[5,0],[23,0],[24,0],[26,0],[49,0],[124,0]] (fun K' hK=>by simp only[go_sem];exact ak) ?_
 refine bH (l6 [26,0] [49,0] 1 7 _ rfl rfl rfl [0,1,5] [[5,0],[23,0],[24,0],[26,0],[49,0],[124,0]] ?_ rfl) ?_
 ·simp only[go_sem,List.set_cons_succ,List.set_cons_zero]
 simp only[go_sem,List.set_cons_succ,List.set_cons_zero]
 refine bH (l6 [26,0] [124,0] 2 1 _ rfl rfl rfl [0,1,5] [[5,0],[23,0],[24,0],[26,0],[49,0],[124,0]] ?_ rfl) ?_
 ·simp only[go_sem,List.set_cons_succ,List.set_cons_zero]
 simp only[go_sem,List.set_cons_succ,List.set_cons_zero]
 repeat refine sq ?_
 refine rx hΓ [0,1,5,30,31,32] [[5,0],[23,0],[24,0],[26,0],[49,0],[124,0]] (fun K' hK=>by simp only[go_sem];exact ak) ?_
 repeat refine sq ?_
 refine aC ?_
 repeat refine sq ?_
 refine bA (fun s:Nat=>[(32,⟨true,.v (vInt s)⟩)]) (fun s=>[([26,0],.box [.v (eV l),.msl [49,0] (m8 l k s).length,.msl [124,0] 0,.map [23,0],.map [24,0]]),([49,0],.arr 7 ((m8 l k s).map encR))]) (fun s=>s<=l.rs.length) (fun s=>l.rs.length-s) 0 ?_ ?_ ?_ ?_
 ·exact Nat.zero_le _
 ·rfl
 ·rfl
 rintro i hi
 simp only[go_sem]
 repeat refine sq ?_
 refine rx hΓ [0,1,5,30,31,32,33] [[5,0],[23,0],[24,0],[26,0],[49,0],[124,0]] (fun K' hK=>by simp only[go_sem];exact ak) ?_
 repeat refine sq ?_
 refine au (fun hb=>?_) fun hb=>?_
 ·have aa:i<l.rs.length:=by simpa using hb
  have an:(i:Int)<l.rs.length:=by omega
  clear hb
  have sA:=Sy l k i
  have gm:=hp.rsn
  repeat refine sq ?_
  refine ay ?_
  repeat refine sq ?_
  refine aC ?_
  repeat refine sq ?_
  refine rx hΓ [0,1,5,7,30,31,32] [[5,0],[7,0],[23,0],[24,0],[26,0],[49,0],[124,0]] (fun K' hK=>by simp only[go_sem,ae aa,ah,aj,an];exact ak) ?_
  repeat refine sq ?_
  refine rx hΓ [0,1,5,7,30,31,32,41] [[5,0],[7,0],[23,0],[24,0],[26,0],[49,0],[124,0]] (fun K' hK=>by simp only[go_sem,ae aa,ah,aj,an];exact ak) ?_
  repeat refine sq ?_
  refine au (fun hb=>?_) fun hb=>?_
  ·repeat refine sq ?_
   have hT:=Sw aa hb
   repeat refine sq ?_
   refine mK hΓ hP [[],[],[1],[1,2],[1,2,3],[],[5],[1,2,3,4,5,6],u8,u9,bI] (by kernel_rfl) fun K' hK=>?_
   simp only[go_sem,ae aa,ah,aj,an]
   repeat (refine⟨ao,?_⟩)
   first | refine⟨by rfl,?_⟩ | skip
   refine hK _ ?_
   clear K' hK
   simp only[go_sem]
   refine kp [0,1,5,30,31,32] [[5,0],[23,0],[24,0],[26,0],[49,0],[124,0]] ?_
   repeat refine sq ?_
   refine aI hΓ fun K' hK=>?_
   simp only[go_sem,ae aa,ah,aj,an]
   repeat (refine⟨ao,?_⟩)
   refine hK _ ?_
   clear K' hK
   simp only[go_sem]
   refine⟨i+1,aa,by(show l.rs.length-(i+1)<l.rs.length-i;omega),?_⟩
   refine aT [0,1,5,30,31,32] [[5,0],[23,0],[24,0],[26,0],[49,0],[124,0]] ?_ ?_<;>simp only[go_sem,aO aa jT,aQ,hT,List.map_append,List.map_cons,List.map_nil,List.length_append,List.length_cons,List.length_nil]
  ·repeat refine sq ?_
   have hT:=Sx aa hb
   refine ay ?_
   refine br ?_
   simp only[go_sem]
   refine kp [0,1,5,30,31,32] [[5,0],[23,0],[24,0],[26,0],[49,0],[124,0]] ?_
   repeat refine sq ?_
   refine aI hΓ fun K' hK=>?_
   simp only[go_sem,ae aa,ah,aj,an]
   repeat (refine⟨ao,?_⟩)
   refine hK _ ?_
   clear K' hK
   simp only[go_sem]
   refine⟨i+1,aa,by(show l.rs.length-(i+1)<l.rs.length-i;omega),?_⟩
   refine aT [0,1,5,30,31,32] [[5,0],[23,0],[24,0],[26,0],[49,0],[124,0]] ?_ ?_<;>simp only[go_sem,aO aa jT,aQ,hT,List.map_append,List.map_cons,List.map_nil,List.length_append,List.length_cons,List.length_nil]
 ·have aV:i=l.rs.length:=by
   have :¬ (i:Int)<l.rs.length:=by simpa using hb
   omega
  clear hb
  subst aV
  repeat refine sq ?_
  refine be ?_
  simp only[go_sem]
  refine kp [0,1,5] [[5,0],[23,0],[24,0],[26,0],[49,0],[124,0]] ?_
  simp only[Sz]
  repeat refine sq ?_
  refine rx hΓ [0,1,5,56,57,58] [[5,0],[23,0],[24,0],[26,0],[49,0],[124,0]] (fun K' hK=>by simp only[go_sem];exact ak) ?_
  refine bH (yi [26,0] [49,0] 1 _ _ _ _ rfl rfl rfl (by first | rfl | (simp only[List.length_map];done)) [0,1,5,56,57,58] [[5,0],[23,0],[24,0],[26,0],[49,0],[124,0]] ?_ rfl) ?_
  ·simp only[go_sem,List.set_cons_succ,List.set_cons_zero]
  simp only[go_sem,List.set_cons_succ,List.set_cons_zero]
  repeat refine sq ?_
  refine aC ?_
  repeat refine sq ?_
  refine bA (fun s:Nat=>[(58,⟨true,.v (vInt s)⟩)]) (fun s=>[([26,0],.box [.v (eV l),.v (.sl ((bK l k).map encR)),.msl [124,0] (aF l k s).ts.length,.map [23,0],.map [24,0]]),([124,0],.arr 1 ((aF l k s).ts.map vInt)),([23,0],.map 2 (bM (aF l k s).bk)),([24,0],.map 0 (bE (aF l k s).ds))]) (fun s=>s<=l.ts.length) (fun s=>l.ts.length-s) 0 ?_ ?_ ?_ ?_
  ·exact Nat.zero_le _
  ·rfl
  ·rfl
  rintro i1 hi
  simp only[go_sem]
  repeat refine sq ?_
  refine rx hΓ [0,1,5,56,57,58,59] [[5,0],[23,0],[24,0],[26,0],[49,0],[124,0]] (fun K' hK=>by simp only[go_sem];exact ak) ?_
  repeat refine sq ?_
  refine au (fun hb=>?_) fun hb=>?_
  ·have aE:i1<l.ts.length:=by simpa using hb
   have bc:(i1:Int)<l.ts.length:=by omega
   clear hb
   have hx:aK l i1=l.ts[i1]:=kG aE
   obtain⟨e1,e2⟩:=pA l k i1
   have hk:=ze l k i1 (Nat.le_of_lt aE)
   have kj:=hp.rets aE
   rw[hx]at kj
   have pL:=(SF kj).2
   have L8:l.ts[i1].lv.length<=maxLen:=by unfold maxLen;omega
   have ml:=hk.tn
   have ago:=hp.tsn
   have sB:∀ (obj:Name->Option O) (t:Name),obj [26,0]=some (.box [.v (eV l),.v (.sl ((bK l k).map encR)),.msl [124,0] (aF l k i1).ts.length,.map [23,0],.map [24,0]])->obj [124,0]=some (.arr 1 ((aF l k i1).ts.map vInt))->obj [23,0]=some (.map 2 (bM (aF l k i1).bk))->obj [24,0]=some (.map 0 (bE (aF l k i1).ds))->
       S77m.app obj t [.ref [26,0] 0,.v (vInt l.ts[i1].re)]=⟨True,.tup [nc (eJ (bK l k) l.ts[i1].re),.v (.bool (eJ (bK l k) l.ts[i1].re).isSome)],obj⟩:=fun obj t h1 h2 h3 h4=>by
    have :=Ro.c_app Ck (a:=(aF l k i1,l.ts[i1].re)) trivial (t:=t) (obj:=obj) (Ls:=[[26,0],[124,0],[23,0],[24,0]]) rfl (by decide) (by show ct obj _ (rj (aF l k i1) _);simp only[rj,lg,e1,e2];exact⟨h1,h2,h3,h4,trivial⟩)
    refine this.trans ?_
    show (⟨True,.tup [nc (eJ (aF l k i1).rs l.ts[i1].re),.v (.bool (eJ (aF l k i1).rs l.ts[i1].re).isSome)],obj⟩:R)=_
    rw[e2]
   have YE:∀ (r:Rec) (obj:Name->Option O) (t:Name),obj [5,0]=some (.box [.ref [26,0] 0])->obj [26,0]=some (.box [.v (eV l),.v (.sl ((bK l k).map encR)),.msl [124,0] (aF l k i1).ts.length,.map [23,0],.map [24,0]])->obj [124,0]=some (.arr 1 ((aF l k i1).ts.map vInt))->obj [23,0]=some (.map 2 (bM (aF l k i1).bk))->obj [24,0]=some (.map 0 (bE (aF l k i1).ds))->
       S160m.app obj t [.v (.sl (l.ts[i1].lv.map vInt)),.clo (.func 163) [] [.ref [5,0] 0,.v (.ptr [vInt r.so,vInt r.bo,vInt r.pa,.sl (r.lv.map vInt),vInt r.da,vInt r.kn,vInt r.un])]]=⟨True,.v (.bool (l.ts[i1].lv.any (jf (aF l k i1).bk r))),obj⟩:=fun r obj t h0 h1 h2 h3 h4=>by
    have :=Ro.c_app (vA mM) (a:=(aF l k i1,r,l.ts[i1].lv)) L8 (t:=t) (obj:=obj) (Ls:=[[5,0],[26,0],[124,0],[23,0],[24,0]]) rfl (by decide) (by
     show ct obj _ (.box [.ref [26,0] 0]::rj (aF l k i1) [[26,0],[124,0],[23,0],[24,0]])
     simp only[rj,lg,e1,e2];exact⟨h0,h1,h2,h3,h4,trivial⟩)
    exact this
   repeat refine sq ?_
   refine ay ?_
   repeat refine sq ?_
   refine aC ?_
   repeat refine sq ?_
   refine rx hΓ [0,1,5,8,9,56,57,58] [[5,0],[9,0],[23,0],[24,0],[26,0],[49,0],[124,0]] (fun K' hK=>by simp only[go_sem,ae aE,ah,aj,bc];exact ak) ?_
   rcases cp:eJ (bK l k) l.ts[i1].re with _ | r
   ·have qS:aF l k (i1+1)=aF l k i1:=wD (TD (by rw[hx];exact cp))
    repeat refine sq ?_
    refine rx hΓ [0,1,5,8,9,10,11,56,57,58] [[5,0],[9,0],[10,0],[23,0],[24,0],[26,0],[49,0],[124,0]] (fun K' hK=>by simp only[go_sem,ae aE,ah,aj,bc,cp,bz,Option.isSome_none];rw[sB _ _ rfl rfl rfl rfl];simp only[go_sem,ae aE,ah,aj,bc,cp,bz,Option.isSome_none];exact ak) ?_
    refine bH (cZ 10 (.ref [10,0] 0) (by simp only[go_sem]) (by simp only[go_sem]) [0,1,5,8,9,10,11,56,57,58] [[5,0],[9,0],[10,0],[23,0],[24,0],[26,0],[49,0],[124,0]] ?_ rfl) ?_
    ·simp only[go_sem]
    simp only[go_sem]
    repeat refine sq ?_
    refine rx hΓ [0,1,5,8,9,10,56,57,58,80] [[5,0],[9,0],[10,0],[23,0],[24,0],[26,0],[49,0],[124,0]] (fun K' hK=>by simp only[go_sem,ae aE,ah,aj,bc,cp,bz,Option.isSome_none];exact ak) ?_
    repeat refine sq ?_
    refine au (fun hb=>?_) fun hb=>?_
    ·repeat refine sq ?_
     refine be ?_
     simp only[go_sem]
     refine kp [0,1,5,56,57,58] [[5,0],[23,0],[24,0],[26,0],[49,0],[124,0]] ?_
     repeat refine sq ?_
     refine aI hΓ fun K' hK=>?_
     simp only[go_sem,ae aE,ah,aj,bc,cp,bz,Option.isSome_none]
     repeat (refine⟨ao,?_⟩)
     refine hK _ ?_
     clear K' hK
     simp only[go_sem]
     refine⟨i1+1,aE,by(show l.ts.length-(i1+1)<l.ts.length-i1;omega),?_⟩
     refine aT [0,1,5,56,57,58] [[5,0],[23,0],[24,0],[26,0],[49,0],[124,0]] ?_ ?_<;>simp only[go_sem,aO aE fP,aQ,qS]
    ·cases hb
   ·obtain⟨LL,cg⟩:=Ig cp
    have wY:=Ce hp k r LL
    have jn:=vL (H7 wY)
    repeat refine sq ?_
    refine rx hΓ [0,1,5,8,9,10,11,56,57,58] [[5,0],[9,0],[10,0],[23,0],[24,0],[26,0],[49,0],[124,0]] (fun K' hK=>by simp only[go_sem,ae aE,ah,aj,bc,cp,aJ,Option.isSome_some];rw[sB _ _ rfl rfl rfl rfl];simp only[go_sem,ae aE,ah,aj,bc,cp,aJ,Option.isSome_some];exact ak) ?_
    refine bH (cZ 10 (.ref [10,0] 0) (by simp only[go_sem]) (by simp only[go_sem]) [0,1,5,8,9,10,11,56,57,58] [[5,0],[9,0],[10,0],[23,0],[24,0],[26,0],[49,0],[124,0]] ?_ rfl) ?_
    ·simp only[go_sem]
    simp only[go_sem]
    repeat refine sq ?_
    refine rx hΓ [0,1,5,8,9,10,56,57,58,80] [[5,0],[9,0],[10,0],[23,0],[24,0],[26,0],[49,0],[124,0]] (fun K' hK=>by simp only[go_sem,ae aE,ah,aj,bc,cp,aJ,Option.isSome_some];exact ak) ?_
    repeat refine sq ?_
    refine au (fun hb=>?_) fun hb=>?_
    ·repeat refine sq ?_
     have qS:aF l k (i1+1)=aF l k i1:=wD (TC (by rw[hx];exact cp) (by rw[hx];simpa using hb))
     refine be ?_
     simp only[go_sem]
     refine kp [0,1,5,56,57,58] [[5,0],[23,0],[24,0],[26,0],[49,0],[124,0]] ?_
     repeat refine sq ?_
     refine aI hΓ fun K' hK=>?_
     simp only[go_sem,ae aE,ah,aj,bc,cp,aJ,Option.isSome_some]
     repeat (refine⟨ao,?_⟩)
     refine hK _ ?_
     clear K' hK
     simp only[go_sem]
     refine⟨i1+1,aE,by(show l.ts.length-(i1+1)<l.ts.length-i1;omega),?_⟩
     refine aT [0,1,5,56,57,58] [[5,0],[23,0],[24,0],[26,0],[49,0],[124,0]] ?_ ?_<;>simp only[go_sem,aO aE fP,aQ,qS]
    ·repeat refine sq ?_
     have YA:cG l.ts[i1].kn l.ts[i1].un k=true:=by simpa using hb
     refine ay ?_
     repeat refine sq ?_
     refine rx hΓ [0,1,5,8,9,10,12,56,57,58] [[5,0],[9,0],[10,0],[23,0],[24,0],[26,0],[49,0],[124,0]] (fun K' hK=>by simp only[go_sem,ae aE,ah,aj,bc,cp,aJ,Option.isSome_some,jn];exact ak) ?_
     obtain⟨fs,oK⟩:∃ fs,cI l.ts[i1].lo (r.da+1)=fs:=⟨_,rfl⟩
     have Mm:=oK
     unfold cI at Mm
     rw[Mm]
     repeat refine sq ?_
     refine rx hΓ [0,1,5,8,9,10,12,13,56,57,58] [[5,0],[9,0],[10,0],[23,0],[24,0],[26,0],[49,0],[124,0]] (fun K' hK=>by simp only[go_sem,ae aE,ah,aj,bc,cp,aJ,Option.isSome_some];exact ak) ?_
     repeat refine sq ?_
     refine rx hΓ [0,1,5,8,9,10,12,56,57,58,99] [[5,0],[9,0],[10,0],[23,0],[24,0],[26,0],[49,0],[124,0]] (fun K' hK=>by simp only[go_sem,ae aE,ah,aj,bc,cp,aJ,Option.isSome_some];rw[YE r _ _ rfl rfl rfl rfl rfl];simp only[go_sem,ae aE,ah,aj,bc,cp,aJ,Option.isSome_some];exact ak) ?_
     repeat refine sq ?_
     refine au (fun hb=>?_) fun hb=>?_
     ·repeat refine sq ?_
      have qS:aF l k (i1+1)=aF l k i1:=wD (TB (by rw[hx];exact cp) (by rw[hx,oK];exact hb))
      refine be ?_
      simp only[go_sem]
      refine kp [0,1,5,56,57,58] [[5,0],[23,0],[24,0],[26,0],[49,0],[124,0]] ?_
      repeat refine sq ?_
      refine aI hΓ fun K' hK=>?_
      simp only[go_sem,ae aE,ah,aj,bc,cp,aJ,Option.isSome_some]
      repeat (refine⟨ao,?_⟩)
      refine hK _ ?_
      clear K' hK
      simp only[go_sem]
      refine⟨i1+1,aE,by(show l.ts.length-(i1+1)<l.ts.length-i1;omega),?_⟩
      refine aT [0,1,5,56,57,58] [[5,0],[23,0],[24,0],[26,0],[49,0],[124,0]] ?_ ?_<;>simp only[go_sem,aO aE fP,aQ,qS]
     ·repeat refine sq ?_
      have qS:=CV (TA (k:=k) (rs:=bK l k) (bk:=(aF l k i1).bk) (x:=aK l i1) (r:=r) (by rw[hx];exact cp) (by rw[hx];exact YA) (by rw[hx,oK];exact hb))
      rw[hx,oK]at qS
      refine ay ?_
      repeat refine sq ?_
      refine rx hΓ [0,1,5,8,9,10,12,56,57,58,101,102,103] [[5,0],[9,0],[10,0],[23,0],[24,0],[26,0],[49,0],[124,0]] (fun K' hK=>by simp only[go_sem,ae aE,ah,aj,bc,cp,aJ,Option.isSome_some];exact ak) ?_
      repeat refine sq ?_
      refine aC ?_
      repeat refine sq ?_
      refine bA (fun s:Nat=>[(103,⟨true,.v (vInt s)⟩)]) (fun s=>[([23,0],.map 2 (bM (qc (aF l k i1).bk r.so i1 (l.ts[i1].lv.take s))))]) (fun s=>s<=l.ts[i1].lv.length) (fun s=>l.ts[i1].lv.length-s) 0 ?_ ?_ ?_ ?_
      ·exact Nat.zero_le _
      ·rfl
      ·rfl
      rintro i2 hi
      simp only[go_sem]
      repeat refine sq ?_
      refine rx hΓ [0,1,5,8,9,10,12,56,57,58,101,102,103,104] [[5,0],[9,0],[10,0],[23,0],[24,0],[26,0],[49,0],[124,0]] (fun K' hK=>by simp only[go_sem,ae aE,ah,aj,bc,cp,aJ,Option.isSome_some];exact ak) ?_
      repeat refine sq ?_
      refine au (fun hb=>?_) fun hb=>?_
      ·have cC:i2<l.ts[i1].lv.length:=by simpa using hb
       have gF:(i2:Int)<l.ts[i1].lv.length:=by omega
       clear hb
       have Zf:=aaH (aF l k i1).bk r.so i1 cC
       repeat refine sq ?_
       refine ay ?_
       repeat refine sq ?_
       refine aC ?_
       repeat refine sq ?_
       refine rx hΓ [0,1,5,8,9,10,12,15,56,57,58,101,102,103] [[5,0],[9,0],[10,0],[23,0],[24,0],[26,0],[49,0],[124,0]] (fun K' hK=>by simp only[go_sem,ae aE,ah,aj,bc,cp,aJ,Option.isSome_some,ae cC,ah,aj,gF];exact ak) ?_
       repeat refine sq ?_
       refine mK hΓ hP [[],[0],[0,1],[0,1,2],[],[4],[],[4,5,6],[],u9] (by kernel_rfl) fun K' hK=>?_
       simp only[go_sem,ae aE,ah,aj,bc,cp,aJ,Option.isSome_some,ae cC,ah,aj,gF,Uv]
       repeat (refine⟨ao,?_⟩)
       first | refine⟨by rfl,?_⟩ | skip
       refine hK _ ?_
       clear K' hK
       simp only[go_sem]
       refine kp [0,1,5,8,9,10,12,56,57,58,101,102,103] [[5,0],[9,0],[10,0],[23,0],[24,0],[26,0],[49,0],[124,0]] ?_
       repeat refine sq ?_
       refine aI hΓ fun K' hK=>?_
       simp only[go_sem,ae aE,ah,aj,bc,cp,aJ,Option.isSome_some,ae cC,ah,aj,gF]
       repeat (refine⟨ao,?_⟩)
       refine hK _ ?_
       clear K' hK
       simp only[go_sem]
       refine⟨i2+1,cC,by(show l.ts[i1].lv.length-(i2+1)<l.ts[i1].lv.length-i2;omega),?_⟩
       refine aT [0,1,5,8,9,10,12,56,57,58,101,102,103] [[5,0],[9,0],[10,0],[23,0],[24,0],[26,0],[49,0],[124,0]] ?_ ?_<;>simp only[go_sem,aO cC L8,aQ,Zf]
      ·have nI:i2=l.ts[i1].lv.length:=by
        have :¬ (i2:Int)<l.ts[i1].lv.length:=by simpa using hb
        omega
       clear hb
       subst nI
       repeat refine sq ?_
       refine be ?_
       simp only[go_sem]
       refine kp [0,1,5,8,9,12,56,57,58] [[5,0],[9,0],[23,0],[24,0],[26,0],[49,0],[124,0]] ?_
       repeat refine sq ?_
       refine dx hΓ hP [[],[],[1],[1,2],[1,2,3],[],[5],[1,2,3,4,5,6],u8,u9,bI] [0,1,5,8,9,12,56,57,58] [[5,0],[9,0],[23,0],[24,0],[26,0],[49,0],[124,0]] (by kernel_rfl) (fun K' hK=>by simp only[go_sem,ae aE,ah,aj,bc,cp,aJ,Option.isSome_some];exact eQ) ?_
       repeat refine sq ?_
       refine mK hΓ hP [[],[0],[0,1],[0,1,2],[],[],[],[6],[6,7],[5,6,7,8],bI] (by kernel_rfl) fun K' hK=>?_
       simp only[go_sem,ae aE,ah,aj,bc,cp,aJ,Option.isSome_some,Je]
       repeat (refine⟨ao,?_⟩)
       first | refine⟨by rfl,?_⟩ | skip
       refine hK _ ?_
       clear K' hK
       simp only[go_sem]
       refine kp [0,1,5,56,57,58] [[5,0],[23,0],[24,0],[26,0],[49,0],[124,0]] ?_
       repeat refine sq ?_
       refine aI hΓ fun K' hK=>?_
       simp only[go_sem,ae aE,ah,aj,bc,cp,aJ,Option.isSome_some]
       repeat (refine⟨ao,?_⟩)
       refine hK _ ?_
       clear K' hK
       simp only[go_sem]
       refine⟨i1+1,aE,by(show l.ts.length-(i1+1)<l.ts.length-i1;omega),?_⟩
       refine aT [0,1,5,56,57,58] [[5,0],[23,0],[24,0],[26,0],[49,0],[124,0]] ?_ ?_<;>simp only[go_sem,aO aE fP,aQ,qS,List.take_length,List.map_append,List.map_cons,List.map_nil,List.length_append,List.length_cons,List.length_nil]
  ·have fc:i1=l.ts.length:=by
    have :¬ (i1:Int)<l.ts.length:=by simpa using hb
    omega
   clear hb
   subst fc
   repeat refine sq ?_
   refine be ?_
   simp only[go_sem]
   refine kp [0,5] [[5,0],[23,0],[24,0],[26,0],[49,0],[124,0]] ?_
   have hk:=ze l k l.ts.length (Nat.le_refl _)
   obtain⟨e1,e2⟩:=pA l k l.ts.length
   have hΓ:=ac2
   have XB:(aF l k l.ts.length).ts.length<=maxLen:=Nat.le_trans hk.tn fP
   refine bH (yi [26,0] [124,0] 2 _ _ _ _ rfl rfl rfl (by first | rfl | (simp only[List.length_map];done)) [0,5] [[5,0],[23,0],[24,0],[26,0],[49,0],[124,0]] ?_ rfl) ?_
   ·simp only[go_sem,List.set_cons_succ,List.set_cons_zero]
   simp only[go_sem,List.set_cons_succ,List.set_cons_zero]
   repeat refine sq ?_
   refine rx hΓ [0,5,141,142,143] [[5,0],[23,0],[24,0],[26,0],[49,0],[124,0]] (fun K' hK=>by simp only[go_sem];exact ak) ?_
   repeat refine sq ?_
   refine aC ?_
   repeat refine sq ?_
   refine bA (fun s:Nat=>[(143,⟨true,.v (vInt s)⟩)]) (fun s=>[([24,0],.map 0 (bE (jk l (bK l k) (aF l k l.ts.length).ts (aF l k l.ts.length).ds s)))]) (fun s=>s<=(aF l k l.ts.length).ts.length) (fun s=>(aF l k l.ts.length).ts.length-s) 0 ?_ ?_ ?_ ?_
   ·exact Nat.zero_le _
   ·rfl
   ·rfl
   rintro i3 hi
   simp only[go_sem]
   repeat refine sq ?_
   refine rx hΓ [0,5,141,142,143,144] [[5,0],[23,0],[24,0],[26,0],[49,0],[124,0]] (fun K' hK=>by simp only[go_sem];exact ak) ?_
   repeat refine sq ?_
   refine au (fun hb=>?_) fun hb=>?_
   ·have gn:i3<(aF l k l.ts.length).ts.length:=by simpa using hb
    have pM:(i3:Int)<(aF l k l.ts.length).ts.length:=by omega
    clear hb
    obtain⟨⟨cq,dW⟩,r,nz⟩:=hk.ts (aF l k l.ts.length).ts[i3] (List.getElem_mem gn)
    have kT:=BB cq dW
    have hD:jk l (bK l k) (aF l k l.ts.length).ts (aF l k l.ts.length).ds (i3+1)=lH (jk l (bK l k) (aF l k l.ts.length).ts (aF l k l.ts.length).ds i3) (aF l k l.ts.length).ts[i3] r.da (dQ (bK l k) r.pa (aK l (aF l k l.ts.length).ts[i3].toNat).lv):=by
     show lH _ ((aF l k l.ts.length).ts.getD i3 0) (mb (bK l k) (aK l ((aF l k l.ts.length).ts.getD i3 0).toNat).re).da (dQ _ (mb (bK l k) (aK l ((aF l k l.ts.length).ts.getD i3 0).toNat).re).pa _)=_
     rw[dd gn];unfold mb;rw[nz];rfl
    repeat refine sq ?_
    refine ay ?_
    repeat refine sq ?_
    refine aC ?_
    repeat refine sq ?_
    refine rx hΓ [0,5,17,141,142,143] [[5,0],[17,0],[23,0],[24,0],[26,0],[49,0],[124,0]] (fun K' hK=>by simp only[go_sem,ae gn,ah,aj,pM];exact ak) ?_
    refine bH (cZ 17 (.ref [17,0] 0) (by simp only[go_sem]) (by simp only[go_sem]) [0,5,17,141,142,143] [[5,0],[17,0],[23,0],[24,0],[26,0],[49,0],[124,0]] ?_ rfl) ?_
    ·simp only[go_sem]
    simp only[go_sem]
    repeat refine sq ?_
    refine dx hΓ hP [[],[0],[0,1],[0,1,2],[],u5,u6,[],u8] [0,5,17,18,141,142,143] [[5,0],[17,0],[18,0],[23,0],[24,0],[26,0],[49,0],[124,0]] (by kernel_rfl) (fun K' hK=>by simp only[go_sem,ae gn,ah,aj,pM,kT,cq,dW];exact eQ) ?_
    refine bH (cZ 18 (.ref [18,0] 0) (by simp only[go_sem]) (by simp only[go_sem]) [0,5,17,18,141,142,143] [[5,0],[17,0],[18,0],[23,0],[24,0],[26,0],[49,0],[124,0]] ?_ rfl) ?_
    ·simp only[go_sem]
    simp only[go_sem]
    repeat refine sq ?_
    refine rx hΓ [0,5,17,18,19,141,142,143] [[5,0],[17,0],[18,0],[19,0],[23,0],[24,0],[26,0],[49,0],[124,0]] (fun K' hK=>by simp only[go_sem,ae gn,ah,aj,pM,nz,aJ,Option.isSome_some];exact ak) ?_
    refine bH (cZ 19 (.ref [19,0] 0) (by simp only[go_sem]) (by simp only[go_sem]) [0,5,17,18,19,141,142,143] [[5,0],[17,0],[18,0],[19,0],[23,0],[24,0],[26,0],[49,0],[124,0]] ?_ rfl) ?_
    ·simp only[go_sem]
    simp only[go_sem]
    repeat refine sq ?_
    refine rx hΓ [0,5,17,19,141,142,143,166] [[5,0],[17,0],[19,0],[23,0],[24,0],[26,0],[49,0],[124,0],[3,0,166,0]] (fun K' hK=>by simp only[go_sem,ae gn,ah,aj,pM];exact ak) ?_
    repeat refine sq ?_
    refine aC ?_
    repeat refine sq ?_
    have ca:=HY hp k
    have ab:=Jr l k (aF l k l.ts.length).ts[i3] (i3:Nat) (aF l k l.ts.length).ts.length ⟨l,bK l k,(aF l k l.ts.length).ts,(aF l k l.ts.length).bk,jk l (bK l k) (aF l k l.ts.length).ts (aF l k l.ts.length).ds i3⟩ r (aK l (aF l k l.ts.length).ts[i3].toNat).lv ca
    have fb:aM Tryz.prog 193 ((jj l k (aF l k l.ts.length).ts[i3] (i3:Nat) (aF l k l.ts.length).ts.length ⟨l,bK l k,(aF l k l.ts.length).ts,(aF l k l.ts.length).bk,jk l (bK l k) (aF l k l.ts.length).ts (aF l k l.ts.length).ds i3⟩ r (aK l (aF l k l.ts.length).ts[i3].toNat).lv).itC (kC 4 r.pa (aK l (aF l k l.ts.length).ts[i3].toNat).lv)).toSpec:=Hs ab (fun _=>rfl) (UT l k (aF l k l.ts.length).ts[i3] (i3:Nat) (aF l k l.ts.length).ts.length ⟨l,bK l k,(aF l k l.ts.length).ts,(aF l k l.ts.length).bk,jk l (bK l k) (aF l k l.ts.length).ts (aF l k l.ts.length).ds i3⟩ r (aK l (aF l k l.ts.length).ts[i3].toNat).lv ca) (Ce hp k) (HZ hp k) rfl (fun _=>rfl) (j:=4) (jc:=1) (show 4<5 by decide) rfl rfl
    refine NZ ab (UU l k (aF l k l.ts.length).ts[i3] (i3:Nat) (aF l k l.ts.length).ts.length ⟨l,bK l k,(aF l k l.ts.length).ts,(aF l k l.ts.length).bk,jk l (bK l k) (aF l k l.ts.length).ts (aF l k l.ts.length).ds i3⟩ r (aK l (aF l k l.ts.length).ts[i3].toNat).lv) (f:=193) 200 201 (Ls:=[[5,0],[26,0],[23,0],[24,0],[3,0,166,0]]) rfl rfl (by decide) fb rfl rfl rfl rfl rfl rfl (by decide) (show ([200,0]:Name)∉[[5,0],[26,0],[23,0],[24,0],[3,0,166,0]]by decide) ⟨rfl,rfl,rfl,rfl,rfl,trivial⟩ fun o=>?_
    obtain⟨g1,g2⟩:=Lp.go_e (r:=(jj l k (aF l k l.ts.length).ts[i3] (i3:Nat) (aF l k l.ts.length).ts.length ⟨l,bK l k,(aF l k l.ts.length).ts,(aF l k l.ts.length).bk,jk l (bK l k) (aF l k l.ts.length).ts (aF l k l.ts.length).ds i3⟩ r (aK l (aF l k l.ts.length).ts[i3].toNat).lv)) (fun _=>rfl)
    have g3:(jj l k (aF l k l.ts.length).ts[i3] (i3:Nat) (aF l k l.ts.length).ts.length ⟨l,bK l k,(aF l k l.ts.length).ts,(aF l k l.ts.length).bk,jk l (bK l k) (aF l k l.ts.length).ts (aF l k l.ts.length).ds i3⟩ r (aK l (aF l k l.ts.length).ts[i3].toNat).lv).fam [[5,0],[26,0],[23,0],[24,0],[3,0,166,0]] (jj l k (aF l k l.ts.length).ts[i3] (i3:Nat) (aF l k l.ts.length).ts.length ⟨l,bK l k,(aF l k l.ts.length).ts,(aF l k l.ts.length).bk,jk l (bK l k) (aF l k l.ts.length).ts (aF l k l.ts.length).ds i3⟩ r (aK l (aF l k l.ts.length).ts[i3].toNat).lv).e=[.box [.ref [26,0] 0],bg ⟨l,bK l k,(aF l k l.ts.length).ts,(aF l k l.ts.length).bk,jk l (bK l k) (aF l k l.ts.length).ts (aF l k l.ts.length).ds i3⟩ [23,0] [24,0],.map 2 (bM (aF l k l.ts.length).bk),.map 0 (bE (jk l (bK l k) (aF l k l.ts.length).ts (aF l k l.ts.length).ds (i3+1))),.box [.ref [26,0] 0]]:=by
     rw[g1,hD,<-List.take_length (l:=dQ (bK l k) r.pa (aK l (aF l k l.ts.length).ts[i3].toNat).lv)]
     rfl
    rw[g2,g3]
    simp only[oy,gx]
    refine br ?_
    show CL Tryz.prog (_::_) _ _
    refine dv [0,5,141,142,143] [[5,0],[23,0],[24,0],[26,0],[49,0],[124,0]] ?_ ?_
    ·simp only[go_sem,ck]
    simp only[go_sem,ck]
    repeat refine sq ?_
    refine aI hΓ fun K' hK=>?_
    simp only[go_sem]
    repeat (refine⟨ao,?_⟩)
    refine hK _ ?_
    clear K' hK
    simp only[go_sem]
    refine⟨i3+1,gn,by(show (aF l k l.ts.length).ts.length-(i3+1)<(aF l k l.ts.length).ts.length-i3;omega),?_⟩
    refine aT [0,5,141,142,143] [[5,0],[23,0],[24,0],[26,0],[49,0],[124,0]] ?_ ?_<;>simp only[go_sem,aO gn XB,aQ]
   ·have Ey:i3=(aF l k l.ts.length).ts.length:=by
     have :¬ (i3:Int)<(aF l k l.ts.length).ts.length:=by simpa using hb
     omega
    clear hb
    subst Ey
    repeat refine sq ?_
    refine be ?_
    simp only[go_sem]
    refine kp [5] [[5,0],[23,0],[24,0],[26,0],[49,0],[124,0]] ?_
    repeat refine sq ?_
    refine rx hΓ [4] [[23,0],[24,0],[26,0],[49,0],[124,0]] (fun K' hK=>by simp only[go_sem];exact ak) ?_
    refine aq ?_
    simp only[go_sem]
    rw[show (ax l k).l=l from e1,show (ax l k).rs=bK l k from e2];first | exact⟨rfl,rfl,rfl⟩ | exact⟨rfl,rfl,rfl,trivial⟩ | exact⟨⟨rfl,rfl,rfl⟩,rfl⟩ | trace_state
end
set_option maxHeartbeats 8000000
noncomputable section
def eu(l:Led)(ds:List Int):Int:=if mL l=0 then dC (!ds.any fun d=>!dayB d) 6 else mL l
theorem S1:pG (161,[])=fun n=>!dayB n:=rfl
theorem Tj:wt (161,[]):=.inl rfl
def K30a:List (Nat×Spec):=[(37,Gc),(160,S160)]
theorem ac1:KS K30a:=tc Rw.sound<|tc Dh<|tn
attribute [go_sem] K30a
@[go_sem] def P75:PSpec:=p2 iL cm (fun _ _=>True) (fun l ds=>vInt (eu l ds)) true
@[go_sem] def qg:Spec:=P75.toSpec
theorem yA:aL Tryz.prog 75 P75:=by
 refine cK (rs:=[.tmp 4]) Tryz.func75 Tryz.ntmps75 fun l ds hp hw=>?_
 simp only[cm,iL,dq]at hw |-
 have hΓ:=ac1
 repeat refine sq ?_
 refine rx hΓ [1,2] [[2,0]] (fun K' hK=>by simp only[go_sem];exact ak) ?_
 refine bH (cZ 2 (.ref [2,0] 0) (by simp only[go_sem]) (by simp only[go_sem]) [1,2] [[2,0]] ?_ rfl) ?_
 ·simp only[go_sem]
 simp only[go_sem]
 repeat refine sq ?_
 refine rx hΓ [1,5] [] (fun K' hK=>by simp only[go_sem];exact ak) ?_
 repeat refine sq ?_
 refine rx hΓ [1,5,9] [] (fun K' hK=>by simp only[go_sem];exact ak) ?_
 repeat refine sq ?_
 refine au (fun hb=>?_) fun hb=>?_
 ·repeat refine sq ?_
  have hc:¬ mL l=0:=by simpa using hb
  unfold eu;rw[if_neg hc]
  repeat refine sq ?_
  refine rx hΓ [4] [] (fun K' hK=>by simp only[go_sem];exact ak) ?_
  refine aq ?_
  simp only[go_sem]
  all_goals exact cD
 ·repeat refine sq ?_
  have hc:mL l=0:=by simpa using hb
  unfold eu;rw[if_pos hc]
  refine ay ?_
  repeat refine sq ?_
  refine rx hΓ [12] [] (fun K' hK=>by simp only[go_sem,Tj,S1];exact ak) ?_
  repeat refine sq ?_
  refine au (fun hb=>?_) fun hb=>?_
  ·repeat refine sq ?_
   rw[show (ds.any fun d=>!dayB d)=true from hb]
   repeat refine sq ?_
   refine rx hΓ [4] [] (fun K' hK=>by simp only[go_sem];exact ak) ?_
   refine aq ?_
   simp only[go_sem]
   all_goals exact cD
  ·repeat refine sq ?_
   rw[show (ds.any fun d=>!dayB d)=false from hb]
   refine ay ?_
   repeat refine sq ?_
   refine rx hΓ [4] [] (fun K' hK=>by simp only[go_sem];exact ak) ?_
   refine aq ?_
   simp only[go_sem]
   all_goals exact cD
def ac0:List (Nat×Spec):=[(76,S76),(128,S128)]
attribute [go_sem] ac0
def tR(x:Vw)(t:Name):List (Name×O):=[(26::0::t,bg x (23::0::t) (24::0::t)),(23::0::t,.map 2 (bM x.bk)),(24::0::t,.map 0 (bE x.ds))]
def F7:Option (Int×Int)->Vw->List (Name×O)
 |none,x=>tR x [11,0]
 |some _,_=>[]
def F6:Option (Int×Int)->D
 |none=>.tup [.ref [26,0,11,0] 0,.v (vInt 0)]
 |some _=>.tup [.v .nilp,.v (vInt 25)]
attribute [go_sem] tR
theorem tz(x:Vw):F7 none x=tR x [11,0]:=rfl
theorem xV(p:Int×Int)(x:Vw):F7 (some p) x=[]:=rfl
theorem tw:F6 none=.tup [.ref [26,0,11,0] 0,.v (vInt 0)]:=rfl
theorem xU(p:Int×Int):F6 (some p)=.tup [.v .nilp,.v (vInt 25)]:=rfl
theorem Ci(p:Int×Int):yO (some p)=.tup [.v (.sl [vInt p.1,vInt p.2]),.v (.bool true)]:=rfl
theorem Cj:yO none=.tup [.nilsl,.v (.bool false)]:=rfl
def K30c:List (Nat×Spec):=[(76,S76),(120,S120)]
theorem acZ:KS K30c:=tc De<|tc W9<|tn
attribute [go_sem] K30c
def Bo:NSpec:=n2 jQ iI (fun l _=>bp l) (fun l k=>F7 (gk (ax l k)) (ax l k)) (fun l k=>F6 (gk (ax l k)))
def S121:Spec:=Bo.toSpec
attribute [go_sem] Bo S121
theorem W8:aM Tryz.prog 121 S121:=by
 refine y0 (nt:=19) (rs:=[.tmp 4,.tmp 5]) Tryz.func121 rfl (by rfl) (by kernel_rfl) (by kernel_rfl) (by decide) ?_
 intro xs hp
 obtain⟨l,k,rfl,hp,et,dP⟩:=CG hp
 replace et:Bo.new _=_:=et
 replace dP:Bo.d _=_:=dP
 rw[et,dP]
 clear et dP
 refine⟨lb rfl,?_⟩
 simp only[iI,iB,cm,iP,iR,iT,iS,iL,jQ,cW,iC,iF,fA,encR,encT,encS,dq,eV,List.map_cons,List.map_nil,dD,Nat.zero_add]
 have hΓ:=acZ
 repeat refine sq ?_
 refine rx hΓ [0,1] [] (fun K' hK=>by simp only[go_sem];exact ak) ?_
 repeat refine sq ?_
 refine rx hΓ [6] [[26,0,11,0],[23,0,11,0],[24,0,11,0]] (fun K' hK=>by simp only[go_sem];exact ak) ?_
 rcases kq:gk (ax l k)with _ | p
 ·repeat refine sq ?_
  refine rx hΓ [6,8] [[26,0,11,0],[23,0,11,0],[24,0,11,0]] (fun K' hK=>by simp only[go_sem,kq,Cj];(repeat (refine⟨by first | exact ao | exact(qH hp k).1,?_⟩));exact cF) ?_
  repeat refine sq ?_
  refine rx hΓ [6,17] [[26,0,11,0],[23,0,11,0],[24,0,11,0]] (fun K' hK=>by simp only[go_sem,kq,Cj];exact ak) ?_
  repeat refine sq ?_
  refine au (fun hb=>?_) fun hb=>?_
  ·cases hb
  ·repeat refine sq ?_
   refine ay ?_
   repeat refine sq ?_
   refine rx hΓ [4,5] [[26,0,11,0],[23,0,11,0],[24,0,11,0]] (fun K' hK=>by simp only[go_sem,kq,Cj];exact ak) ?_
   refine aq ?_
   simp only[go_sem,tz,tw,xV,xU]
   all_goals first | done | rfl | trace_state
 ·repeat refine sq ?_
  refine rx hΓ [6,8] [[26,0,11,0],[23,0,11,0],[24,0,11,0]] (fun K' hK=>by simp only[go_sem,kq,Ci];(repeat (refine⟨by first | exact ao | exact(qH hp k).1,?_⟩));exact cF) ?_
  repeat refine sq ?_
  refine rx hΓ [6,17] [[26,0,11,0],[23,0,11,0],[24,0,11,0]] (fun K' hK=>by simp only[go_sem,kq,Ci];exact ak) ?_
  repeat refine sq ?_
  refine au (fun hb=>?_) fun hb=>?_
  ·repeat refine sq ?_
   refine rx hΓ [4,5] [[26,0,11,0],[23,0,11,0],[24,0,11,0]] (fun K' hK=>by simp only[go_sem,kq,Ci];exact ak) ?_
   refine aq ?_
   simp only[go_sem,tz,tw,xV,xU]
   all_goals first | done | rfl | trace_state
  ·cases hb
theorem Qv{l:Led}(h:bp l)(k:Int):(gj l k).length<=60/\∀ s∈gj l k,vX s:=by
 refine⟨Nat.le_trans (List.length_filter_le _ _) h.ssn,fun s hs=>?_⟩
 obtain⟨j,hj,rfl⟩:=List.getElem_of_mem (List.mem_filter.1 hs).1
 have :=jC h.ss hj
 unfold jH at this
 simp only[Bool.and_eq_true]at this
 have hd:=this.1.2
 unfold dayB bT at hd
 simp at hd
 exact hd
def aW(x:Vw)(k:Int):Vw:={ x with ds:=fH x x.ds (gj x.l k) }
def uf:Option (Int×Int)->Bool->Vw->Int->List (Name×O)
 |none,true,x,k=>tR (aW x k) [11,0,11,0]
 |_,_,_,_=>[]
def Qj:Option (Int×Int)->Bool->Int
 |some _,_=>25
 |none,false=>27
 |none,true=>0
def ua:Option (Int×Int)->Bool->D
 |some _,_=>.tup [.v .nilp,.v (vInt 25)]
 |none,false=>.tup [.v .nilp,.v (vInt 27)]
 |none,true=>.tup [.ref [26,0,11,0,11,0] 0,.v (vInt 0)]
theorem ub(x:Vw)(k:Int):uf none true x k=tR (aW x k) [11,0,11,0]:=rfl
theorem ue(x:Vw)(k:Int):uf none false x k=[]:=rfl
theorem BJ(p:Int×Int)(b:Bool)(x:Vw)(k:Int):uf (some p) b x k=[]:=by cases b<;>rfl
theorem tY:ua none true=.tup [.ref [26,0,11,0,11,0] 0,.v (vInt 0)]:=rfl
theorem t':ua none false=.tup [.v .nilp,.v (vInt 27)]:=rfl
theorem BI(p:Int×Int)(b:Bool):ua (some p) b=.tup [.v .nilp,.v (vInt 25)]:=by cases b<;>rfl
def K30d:List (Nat×Spec):=[(121,S121),(122,S122),(128,S128)]
theorem acY:KS K30d:=tc W8<|tc W7<|tc W6<|tn
attribute [go_sem] K30d
def Bm:NSpec:=n2 jQ iI (fun l _=>bp l) (fun l k=>uf (gk (ax l k)) (iZ (ax l k) (gj (ax l k).l k)) (ax l k) k) (fun l k=>ua (gk (ax l k)) (iZ (ax l k) (gj (ax l k).l k)))
def S78:Spec:=Bm.toSpec
attribute [go_sem] Bm S78
theorem Dd:aM Tryz.prog 78 S78:=by
 refine y0 (nt:=24) (rs:=[.tmp 4,.tmp 5]) Tryz.func78 rfl (by rfl) (by kernel_rfl) (by kernel_rfl) (by decide) ?_
 intro xs hp
 obtain⟨l,k,rfl,hp,et,dP⟩:=CG hp
 replace et:Bm.new _=_:=et
 replace dP:Bm.d _=_:=dP
 rw[et,dP]
 clear et dP
 refine⟨lb rfl,?_⟩
 simp only[iI,iB,cm,iP,iR,iT,iS,iL,jQ,cW,iC,iF,fA,encR,encT,encS,dq,eV,List.map_cons,List.map_nil,dD,Nat.zero_add]
 have hΓ:=acY
 obtain⟨hv,ca⟩:=qH hp k
 obtain⟨DE,XE⟩:=Qv hv.ok k
 repeat refine sq ?_
 refine rx hΓ [0,1] [] (fun K' hK=>by simp only[go_sem];exact ak) ?_
 rcases kq:gk (ax l k)with _ | p
 ·repeat refine sq ?_
  refine rx hΓ [1,6,7] [[26,0,11,0,11,0],[23,0,11,0,11,0],[24,0,11,0,11,0]] (fun K' hK=>by simp only[go_sem,kq,tz,tw];exact ak) ?_
  repeat refine sq ?_
  refine rx hΓ [1,6,7,15] [[26,0,11,0,11,0],[23,0,11,0,11,0],[24,0,11,0,11,0]] (fun K' hK=>by simp only[go_sem,kq,tz,tw];exact ak) ?_
  repeat refine sq ?_
  refine au (fun hb=>?_) fun hb=>?_
  ·cases hb
  ·repeat refine sq ?_
   refine ay ?_
   repeat refine sq ?_
   refine rx hΓ [6,22] [[26,0,11,0,11,0],[23,0,11,0,11,0],[24,0,11,0,11,0]] (fun K' hK=>by simp only[go_sem,kq,tz,tw];(repeat (refine⟨by first | exact ao | exact hv.ok.ssn | exact⟨⟨⟨hv,ca⟩,DE⟩,XE⟩,?_⟩));exact cF) ?_
   repeat refine sq ?_
   refine au (fun hb=>?_) fun hb=>?_
   ·repeat refine sq ?_
    have hf:iZ (ax l k) (gj (ax l k).l k)=false:=by simpa using hb
    repeat refine sq ?_
    refine rx hΓ [4,5] [[26,0,11,0,11,0],[23,0,11,0,11,0],[24,0,11,0,11,0]] (fun K' hK=>by simp only[go_sem,kq,tz,tw];exact ak) ?_
    refine aq ?_
    simp only[go_sem,ub,ue,BJ,tY,t',BI]
    all_goals first | done | rfl | (rw[hf];simp only[go_sem,ub,ue,tY,t',aW];done) | trace_state
   ·repeat refine sq ?_
    have hf:iZ (ax l k) (gj (ax l k).l k)=true:=by simpa using hb
    refine ay ?_
    repeat refine sq ?_
    refine rx hΓ [4,5] [[26,0,11,0,11,0],[23,0,11,0,11,0],[24,0,11,0,11,0]] (fun K' hK=>by simp only[go_sem,kq,tz,tw];exact ak) ?_
    refine aq ?_
    simp only[go_sem,ub,ue,BJ,tY,t',BI]
    all_goals first | done | rfl | (rw[hf];simp only[go_sem,ub,ue,tY,t',aW];done) | trace_state
 ·repeat refine sq ?_
  refine rx hΓ [1,6,7] [[26,0,11,0,11,0],[23,0,11,0,11,0],[24,0,11,0,11,0]] (fun K' hK=>by simp only[go_sem,kq,xV,xU];exact ak) ?_
  repeat refine sq ?_
  refine rx hΓ [1,6,7,15] [[26,0,11,0,11,0],[23,0,11,0,11,0],[24,0,11,0,11,0]] (fun K' hK=>by simp only[go_sem,kq,xV,xU];exact ak) ?_
  repeat refine sq ?_
  refine au (fun hb=>?_) fun hb=>?_
  ·repeat refine sq ?_
   refine rx hΓ [4,5] [[26,0,11,0,11,0],[23,0,11,0,11,0],[24,0,11,0,11,0]] (fun K' hK=>by simp only[go_sem,kq,xV,xU];exact ak) ?_
   refine aq ?_
   simp only[go_sem,ub,ue,BJ,tY,t',BI]
   all_goals first | done | rfl | (rw[hf];simp only[go_sem,ub,ue,tY,t',aW];done) | trace_state
  ·cases hb
end
noncomputable section
theorem sg(l:Led)(k:Int):(ax l k).l=l:=(pA l k l.ts.length).1
theorem mG{l:Led}{ds:List Int}(h:eu l ds=0):bp l/\∀ d∈ds,dayB d=true:=by
 unfold eu at h
 split at h
 ·rename_i hc
  refine⟨?_,?_⟩
  ·refine Classical.byContradiction fun hn=>?_
   rw[nZ hn]at hc;cases hc
  ·unfold dC at h
   split at h
   ·rename_i hd
    intro d ED
    have :(ds.any fun d=>!dayB d)=false:=by simpa using hd
    rw[List.any_eq_false]at this
    have :=this d ED
    simpa using this
   ·cases h
 ·rename_i hc;exact(hc h).elim
def qt(l:Led)(i:Int):Int:=(aK l i.toNat).so
def kI(l:Led)(k:Int):Bool:=(gk (ax l k)).isNone&&iZ (ax l k) (gj (ax l k).l k)
def K31:List (Nat×Spec):=[(75,qg),(76,S76),(120,S120),(121,S121),(122,S122),(128,S128),(77,S77),(129,S129)]
attribute [go_sem] K31
end
set_option maxHeartbeats 8000000
noncomputable section
def m9(l:Led)(s k:Int):Option Int:=(ax l k).ts.find? fun i=>qt l i==s
def gQ(l:Led)(s k:Int):Int:=if eu l [k]=0 then dC (m9 l s k).isSome 3 else eu l [k]
def jh(l:Led)(s k:Int):Int:=if eu l [k]=0 then(m9 l s k).getD 0 else 0
def K32a:List (Nat×Spec):=[(75,qg),(76,S76)]
theorem acX:KS K32a:=tc yA.sound<|tc De<|tn
attribute [go_sem] K32a
@[go_sem] def P97:PSpec:=p3 iL iI iI (fun _ _ _=>True) (fun l s k=>.tup [vInt (jh l s k),vInt (gQ l s k)]) true
@[go_sem] def OW:Spec:=P97.toSpec
theorem Q6:aL Tryz.prog 97 P97:=by
 refine gL (rs:=[.tmp 6,.tmp 7]) Tryz.func97 Tryz.ntmps97 fun l so k hp hw=>?_
 simp only[iI,iL,dq]at hw |-
 have hΓ:=acX
 repeat refine sq ?_
 refine rx hΓ [1,2,3] [[3,0]] (fun K' hK=>by simp only[go_sem];exact ak) ?_
 refine bH (cZ 3 (.ref [3,0] 0) (by simp only[go_sem]) (by simp only[go_sem]) [1,2,3] [[3,0]] ?_ rfl) ?_
 ·simp only[go_sem]
 simp only[go_sem]
 repeat refine sq ?_
 refine rx hΓ [1,2,3,8] [[3,0]] (fun K' hK=>by simp only[go_sem];exact ak) ?_
 repeat refine sq ?_
 refine rx hΓ [1,2,3,8,16] [[3,0]] (fun K' hK=>by simp only[go_sem];exact ak) ?_
 repeat refine sq ?_
 refine au (fun hb=>?_) fun hb=>?_
 ·repeat refine sq ?_
  have hc:¬ eu l [k]=0:=by simpa using hb
  unfold jh gQ;rw[if_neg hc,if_neg hc]
  repeat refine sq ?_
  refine rx hΓ [6,7] [] (fun K' hK=>by simp only[go_sem];exact ak) ?_
  refine aq ?_
  simp only[go_sem]
  all_goals exact cD
 ·repeat refine sq ?_
  have hc:eu l [k]=0:=by simpa using hb
  unfold jh gQ;rw[if_pos hc,if_pos hc]
  obtain⟨ab,_⟩:=mG hc
  obtain⟨hv,ca⟩:=qH ab k
  have fE:(ax l k).ts.length<=maxLen:=by have:=hv.tn;unfold maxLen;omega
  refine ay ?_
  repeat refine sq ?_
  refine rx hΓ [1,3,22,23,24] [[3,0]] (fun K' hK=>by simp only[go_sem];exact ak) ?_
  repeat refine sq ?_
  refine aC ?_
  repeat refine sq ?_
  refine bA (fun s:Nat=>[(24,⟨true,.v (vInt s)⟩)]) (fun s=>[]) (fun s=>s<=(ax l k).ts.length/\∀ j (h:j<(ax l k).ts.length),j<s->(qt l (ax l k).ts[j]==so)=false) (fun s=>(ax l k).ts.length-s) 0 ?_ ?_ ?_ ?_
  ·exact⟨Nat.zero_le _,by simp⟩
  ·rfl
  ·rfl
  rintro i ⟨hi,hR⟩
  simp only[go_sem]
  repeat refine sq ?_
  refine rx hΓ [1,3,22,23,24,25] [[3,0]] (fun K' hK=>by simp only[go_sem];exact ak) ?_
  repeat refine sq ?_
  refine au (fun hb=>?_) fun hb=>?_
  ·have aa:i<(ax l k).ts.length:=by simpa using hb
   have an:(i:Int)<(ax l k).ts.length:=by omega
   clear hb
   obtain⟨cq,dW⟩:=hv.ts _ (List.getElem_mem aa)
   rw[sg]at dW
   have kT:=BB (l:=l) cq dW
   repeat refine sq ?_
   refine ay ?_
   repeat refine sq ?_
   refine aC ?_
   repeat refine sq ?_
   refine rx hΓ [1,3,10,22,23,24] [[3,0]] (fun K' hK=>by simp only[go_sem,ae aa,ah,aj,an];exact ak) ?_
   repeat refine sq ?_
   refine rx hΓ [1,3,10,22,23,24,35] [[3,0]] (fun K' hK=>by simp only[go_sem,ae aa,ah,aj,an,kT,cq,dW];exact ak) ?_
   repeat refine sq ?_
   refine au (fun hb=>?_) fun hb=>?_
   ·repeat refine sq ?_
    refine rx hΓ [6,7] [] (fun K' hK=>by simp only[go_sem,ae aa,ah,aj,an];exact ak) ?_
    refine aq ?_
    simp only[go_sem]
    have e:m9 l so k=some (ax l k).ts[i]:=List.find?_eq_some_iff_getElem.2 ⟨hb,i,aa,rfl,fun j hj=>by rw[hR j (by omega) hj];rfl⟩
    rw[e];rfl
   ·repeat refine sq ?_
    refine ay ?_
    refine br ?_
    simp only[go_sem]
    refine kp [1,3,22,23,24] [[3,0]] ?_
    repeat refine sq ?_
    refine aI hΓ fun K' hK=>?_
    simp only[go_sem,ae aa,ah,aj,an]
    repeat (refine⟨ao,?_⟩)
    refine hK _ ?_
    clear K' hK
    simp only[go_sem]
    refine⟨i+1,⟨aa,?_⟩,by(show (ax l k).ts.length-(i+1)<(ax l k).ts.length-i;omega),?_⟩
    ·intro j hj dB
     rcases Nat.lt_succ_iff_lt_or_eq.1 dB with h5 | rfl
     ·exact hR j hj h5
     ·exact hb
    refine aT [1,3,22,23,24] [[3,0]] ?_ ?_<;>simp only[go_sem,aO aa fE,aQ]
  ·have aV:i=(ax l k).ts.length:=by
    have :¬ (i:Int)<(ax l k).ts.length:=by simpa using hb
    omega
   clear hb
   subst aV
   repeat refine sq ?_
   refine be ?_
   simp only[go_sem]
   refine kp [] [] ?_
   repeat refine sq ?_
   refine rx hΓ [6,7] [] (fun K' hK=>by simp only[go_sem];exact ak) ?_
   refine aq ?_
   simp only[go_sem]
   have e:m9 l so k=none:=List.find?_eq_none.2 fun y hy=>by
    obtain⟨j,hj,rfl⟩:=List.getElem_of_mem hy
    rw[hR j hj hj];decide
   rw[e];rfl
def tO(x:Vw)(pa le day:Int):List Int:=match fS x.rs pa le day with
 |none=>[0]
 |some r=>match bJ x.bk (r.so,le)with
  |none=>[r.bo]
  |some i=>(if (bt x.ds i).1<=day then[0]else[])++(if (bt x.ds i).2>day then[r.bo]else[])
def K32b:List (Nat×Spec):=[(119,S119)]
theorem acW:KS K32b:=tc Di<|tn
attribute [go_sem] K32b
def ON:VSpec:=v2 iQ iI (fun x _ _=>l4 x/\x.rs.Nodup) (fun x f day=>.v (.sl ((tO x f.pa f.le day).map vInt))) none
def S80:Spec:=ON.toSpec
attribute [go_sem] ON S80
theorem WU:aM Tryz.prog 80 S80:=by
 refine yj (rs:=[.tmp 6]) Tryz.func80 Tryz.ntmps80 (by rfl) (by kernel_rfl) (by decide) (fun _ _ _=>by first | rfl | simp[D.clos,D.closL,ma]) ⟨_,rfl,lb rfl,fun x f day hp H h0 h1 h2 hO ai=>?_⟩
 have hP:=c8
 simp only[iQ,iI,ea,bg,dD,List.map_cons,List.map_nil,Nat.zero_add,Option.map_some,Option.map_none]at h0 |-
 have hΓ:=acW
 obtain⟨pa,le⟩:=f
 have lP:tO x pa le day=match fS x.rs pa le day with
  |none=>[0]
  |some r=>match bJ x.bk (r.so,le)with
   |none=>[r.bo]
   |some i=>(if (bt x.ds i).1<=day then[0]else[])++(if (bt x.ds i).2>day then[r.bo]else[]):=rfl
 rw[lP]
 clear lP
 repeat refine sq ?_
 refine rx hΓ [0,2,4] [[4,0]] (fun K' hK=>by simp only[go_sem,hO,ai,h0,h1,h2];(repeat (refine⟨ao,?_⟩));exact hK _ (by simp only[go_sem,hO,ai,h0,h1,h2]) (by simp only[go_sem,hO,ai,h0,h1,h2]<;>rfl)) ?_
 rcases aw:fS x.rs pa le day with _ | r
 ·repeat refine sq ?_
  refine rx hΓ [0,2,4,7,8] [[4,0],[7,0]] (fun K' hK=>by simp only[go_sem,hO,ai,h0,h1,h2,aw,bz,Option.isSome_none];(repeat (refine⟨ao,?_⟩));exact hK _ (by simp only[go_sem,hO,ai,h0,h1,h2,aw,bz,Option.isSome_none]) (by simp only[go_sem,hO,ai,h0,h1,h2,aw,bz,Option.isSome_none]<;>rfl)) ?_
  repeat refine sq ?_
  refine rx hΓ [0,2,4,7,20] [[4,0],[7,0]] (fun K' hK=>by simp only[go_sem,hO,ai,h0,h1,h2,aw,bz,Option.isSome_none];(repeat (refine⟨ao,?_⟩));exact hK _ (by simp only[go_sem,hO,ai,h0,h1,h2,aw,bz,Option.isSome_none]) (by simp only[go_sem,hO,ai,h0,h1,h2,aw,bz,Option.isSome_none]<;>rfl)) ?_
  repeat refine sq ?_
  refine au (fun hb=>?_) fun hb=>?_
  ·repeat refine sq ?_
   refine rx hΓ [6] [[51,0],[65,0]] (fun K' hK=>by simp only[go_sem,hO,ai,h0,h1,h2,aw,bz,Option.isSome_none];(repeat (refine⟨ao,?_⟩));exact hK _ (by simp only[go_sem,hO,ai,h0,h1,h2,aw,bz,Option.isSome_none]) (by simp only[go_sem,hO,ai,h0,h1,h2,aw,bz,Option.isSome_none]<;>rfl)) ?_
   refine aq ?_
   simp only[go_sem,hO,ai,h0,h1,h2]
   all_goals first | rfl | (simp only[aP];rfl) | (simp_all;done) | trace_state
  ·cases hb
 ·repeat refine sq ?_
  refine rx hΓ [0,2,4,7,8] [[4,0],[7,0]] (fun K' hK=>by simp only[go_sem,hO,ai,h0,h1,h2,aw,aJ,Option.isSome_some];(repeat (refine⟨ao,?_⟩));exact hK _ (by simp only[go_sem,hO,ai,h0,h1,h2,aw,aJ,Option.isSome_some]) (by simp only[go_sem,hO,ai,h0,h1,h2,aw,aJ,Option.isSome_some]<;>rfl)) ?_
  repeat refine sq ?_
  refine rx hΓ [0,2,4,7,20] [[4,0],[7,0]] (fun K' hK=>by simp only[go_sem,hO,ai,h0,h1,h2,aw,aJ,Option.isSome_some];(repeat (refine⟨ao,?_⟩));exact hK _ (by simp only[go_sem,hO,ai,h0,h1,h2,aw,aJ,Option.isSome_some]) (by simp only[go_sem,hO,ai,h0,h1,h2,aw,aJ,Option.isSome_some]<;>rfl)) ?_
  repeat refine sq ?_
  refine au (fun hb=>?_) fun hb=>?_
  ·cases hb
  ·repeat refine sq ?_
   refine ay ?_
   rcases aP:bJ x.bk (r.so,le)with _ | j
   ·repeat refine sq ?_
    refine dx hΓ hP [[],[0],[0,1],[0,1,2],[],[4],[],[6],[4,5,6,7],u9,bI,cz,cz,dS,eE] [0,2,7,9,10] [[7,0]] (by kernel_rfl) (fun K' hK=>by simp only[go_sem,hO,ai,h0,h1,h2,aw,aJ,Option.isSome_some,aB,aP,Option.map_none,Option.isSome_none,Option.getD_none];(repeat (refine⟨ao,?_⟩));(first | refine⟨by rfl,?_⟩ | skip);exact hK _ (by simp only[go_sem,hO,ai,h0,h1,h2,aw,aJ,Option.isSome_some,aB,aP,Option.map_none,Option.isSome_none,Option.getD_none]) (by simp only[go_sem,hO,ai,h0,h1,h2,aw,aJ,Option.isSome_some,aB,aP,Option.map_none,Option.isSome_none,Option.getD_none]<;>rfl)) ?_
    repeat refine sq ?_
    refine rx hΓ [0,2,7,9,36] [[7,0]] (fun K' hK=>by simp only[go_sem,hO,ai,h0,h1,h2,aw,aJ,Option.isSome_some,aB,aP,Option.map_none,Option.isSome_none,Option.getD_none];(repeat (refine⟨ao,?_⟩));exact hK _ (by simp only[go_sem,hO,ai,h0,h1,h2,aw,aJ,Option.isSome_some,aB,aP,Option.map_none,Option.isSome_none,Option.getD_none]) (by simp only[go_sem,hO,ai,h0,h1,h2,aw,aJ,Option.isSome_some,aB,aP,Option.map_none,Option.isSome_none,Option.getD_none]<;>rfl)) ?_
    repeat refine sq ?_
    refine au (fun hb=>?_) fun hb=>?_
    ·repeat refine sq ?_
     refine rx hΓ [6] [[51,0],[65,0]] (fun K' hK=>by simp only[go_sem,hO,ai,h0,h1,h2,aw,aJ,Option.isSome_some,aB,aP,Option.map_none,Option.isSome_none,Option.getD_none];(repeat (refine⟨ao,?_⟩));exact hK _ (by simp only[go_sem,hO,ai,h0,h1,h2,aw,aJ,Option.isSome_some,aB,aP,Option.map_none,Option.isSome_none,Option.getD_none]) (by simp only[go_sem,hO,ai,h0,h1,h2,aw,aJ,Option.isSome_some,aB,aP,Option.map_none,Option.isSome_none,Option.getD_none]<;>rfl)) ?_
     refine aq ?_
     simp only[go_sem,hO,ai,h0,h1,h2]
     all_goals first | rfl | (simp only[aP];rfl) | (simp_all;done) | trace_state
    ·cases hb
   ·repeat refine sq ?_
    refine dx hΓ hP [[],[0],[0,1],[0,1,2],[],[4],[],[6],[4,5,6,7],u9,bI,cz,cz,dS,eE] [0,2,7,9,10] [[7,0]] (by kernel_rfl) (fun K' hK=>by simp only[go_sem,hO,ai,h0,h1,h2,aw,aJ,Option.isSome_some,aB,aP,Option.map_some,Option.isSome_some,Option.getD_some];(repeat (refine⟨ao,?_⟩));(first | refine⟨by rfl,?_⟩ | skip);exact hK _ (by simp only[go_sem,hO,ai,h0,h1,h2,aw,aJ,Option.isSome_some,aB,aP,Option.map_some,Option.isSome_some,Option.getD_some]) (by simp only[go_sem,hO,ai,h0,h1,h2,aw,aJ,Option.isSome_some,aB,aP,Option.map_some,Option.isSome_some,Option.getD_some]<;>rfl)) ?_
    repeat refine sq ?_
    refine rx hΓ [0,2,7,9,36] [[7,0]] (fun K' hK=>by simp only[go_sem,hO,ai,h0,h1,h2,aw,aJ,Option.isSome_some,aB,aP,Option.map_some,Option.isSome_some,Option.getD_some];(repeat (refine⟨ao,?_⟩));exact hK _ (by simp only[go_sem,hO,ai,h0,h1,h2,aw,aJ,Option.isSome_some,aB,aP,Option.map_some,Option.isSome_some,Option.getD_some]) (by simp only[go_sem,hO,ai,h0,h1,h2,aw,aJ,Option.isSome_some,aB,aP,Option.map_some,Option.isSome_some,Option.getD_some]<;>rfl)) ?_
    repeat refine sq ?_
    refine au (fun hb=>?_) fun hb=>?_
    ·cases hb
    ·repeat refine sq ?_
     refine ay ?_
     repeat refine sq ?_
     refine rx hΓ [0,2,7,9,11] [[7,0],[51,0],[65,0]] (fun K' hK=>by simp only[go_sem,hO,ai,h0,h1,h2,aw,aJ,Option.isSome_some,aB,aP,Option.map_some,Option.isSome_some,Option.getD_some];(repeat (refine⟨ao,?_⟩));exact hK _ (by simp only[go_sem,hO,ai,h0,h1,h2,aw,aJ,Option.isSome_some,aB,aP,Option.map_some,Option.isSome_some,Option.getD_some]) (by simp only[go_sem,hO,ai,h0,h1,h2,aw,aJ,Option.isSome_some,aB,aP,Option.map_some,Option.isSome_some,Option.getD_some]<;>rfl)) ?_
     refine bH (ql 11 [51,0] 1 (by simp only[go_sem]) (by simp only[go_sem]) [0,2,7,9,11] [[7,0],[51,0],[65,0]] ?_ rfl) ?_
     ·simp only[go_sem,hO,ai,h0,h1,h2]
     simp only[go_sem,hO,ai,h0,h1,h2]
     repeat refine sq ?_
     refine rx hΓ [0,2,7,9,11,48] [[7,0],[51,0],[65,0]] (fun K' hK=>by simp only[go_sem,hO,ai,h0,h1,h2,aw,aJ,Option.isSome_some,aB,aP,Option.map_some,Option.isSome_some,Option.getD_some,iO];(repeat (refine⟨ao,?_⟩));exact hK _ (by simp only[go_sem,hO,ai,h0,h1,h2,aw,aJ,Option.isSome_some,aB,aP,Option.map_some,Option.isSome_some,Option.getD_some,iO]) (by simp only[go_sem,hO,ai,h0,h1,h2,aw,aJ,Option.isSome_some,aB,aP,Option.map_some,Option.isSome_some,Option.getD_some,iO]<;>rfl)) ?_
     repeat refine sq ?_
     refine au (fun hb=>?_) fun hb=>?_
     ·repeat refine sq ?_
      refine rx hΓ [0,2,7,9,11] [[7,0],[51,0],[65,0]] (fun K' hK=>by simp only[go_sem,hO,ai,h0,h1,h2,aw,aJ,Option.isSome_some,aB,aP,Option.map_some,Option.isSome_some,Option.getD_some];(repeat (refine⟨ao,?_⟩));exact hK _ (by simp only[go_sem,hO,ai,h0,h1,h2,aw,aJ,Option.isSome_some,aB,aP,Option.map_some,Option.isSome_some,Option.getD_some]) (by simp only[go_sem,hO,ai,h0,h1,h2,aw,aJ,Option.isSome_some,aB,aP,Option.map_some,Option.isSome_some,Option.getD_some]<;>rfl)) ?_
      repeat refine sq ?_
      refine rx hΓ [7,11,60] [[7,0],[51,0],[65,0]] (fun K' hK=>by simp only[go_sem,hO,ai,h0,h1,h2,aw,aJ,Option.isSome_some,aB,aP,Option.map_some,Option.isSome_some,Option.getD_some,iO];(repeat (refine⟨ao,?_⟩));exact hK _ (by simp only[go_sem,hO,ai,h0,h1,h2,aw,aJ,Option.isSome_some,aB,aP,Option.map_some,Option.isSome_some,Option.getD_some,iO]) (by simp only[go_sem,hO,ai,h0,h1,h2,aw,aJ,Option.isSome_some,aB,aP,Option.map_some,Option.isSome_some,Option.getD_some,iO]<;>rfl)) ?_
      repeat refine sq ?_
      refine au (fun hb=>?_) fun hb=>?_
      ·repeat refine sq ?_
       refine rx hΓ [11] [[51,0],[65,0]] (fun K' hK=>by simp only[go_sem,hO,ai,h0,h1,h2,aw,aJ,Option.isSome_some,aB,aP,Option.map_some,Option.isSome_some,Option.getD_some];(repeat (refine⟨ao,?_⟩));exact hK _ (by simp only[go_sem,hO,ai,h0,h1,h2,aw,aJ,Option.isSome_some,aB,aP,Option.map_some,Option.isSome_some,Option.getD_some]) (by simp only[go_sem,hO,ai,h0,h1,h2,aw,aJ,Option.isSome_some,aB,aP,Option.map_some,Option.isSome_some,Option.getD_some]<;>rfl)) ?_
       repeat refine sq ?_
       refine rx hΓ [6] [[51,0],[65,0]] (fun K' hK=>by simp only[go_sem,hO,ai,h0,h1,h2,aw,aJ,Option.isSome_some,aB,aP,Option.map_some,Option.isSome_some,Option.getD_some];(repeat (refine⟨ao,?_⟩));exact hK _ (by simp only[go_sem,hO,ai,h0,h1,h2,aw,aJ,Option.isSome_some,aB,aP,Option.map_some,Option.isSome_some,Option.getD_some]) (by simp only[go_sem,hO,ai,h0,h1,h2,aw,aJ,Option.isSome_some,aB,aP,Option.map_some,Option.isSome_some,Option.getD_some]<;>rfl)) ?_
       first | refine bH (cZ 6 (.msl [51,0] 2) rfl (by simp only[go_sem]) [6] [] ?_ rfl) ?_ | refine bH (cZ 6 (.msl [51,0] 1) rfl (by simp only[go_sem]) [6] [] ?_ rfl) ?_ | refine bH (cZ 6 (.msl [51,0] 0) rfl (by simp only[go_sem]) [6] [] ?_ rfl) ?_
       ·simp only[go_sem,hO,h0,h1,h2]
       simp only[go_sem,hO,h0,h1,h2]
       refine aq ?_
       simp only[go_sem,hO,ai,h0,h1,h2]
       all_goals first | rfl | (simp only[aP];rfl) | (simp_all;done) | trace_state
      ·repeat refine sq ?_
       refine ay ?_
       repeat refine sq ?_
       refine rx hΓ [6] [[51,0],[65,0]] (fun K' hK=>by simp only[go_sem,hO,ai,h0,h1,h2,aw,aJ,Option.isSome_some,aB,aP,Option.map_some,Option.isSome_some,Option.getD_some];(repeat (refine⟨ao,?_⟩));exact hK _ (by simp only[go_sem,hO,ai,h0,h1,h2,aw,aJ,Option.isSome_some,aB,aP,Option.map_some,Option.isSome_some,Option.getD_some]) (by simp only[go_sem,hO,ai,h0,h1,h2,aw,aJ,Option.isSome_some,aB,aP,Option.map_some,Option.isSome_some,Option.getD_some]<;>rfl)) ?_
       first | refine bH (cZ 6 (.msl [51,0] 2) rfl (by simp only[go_sem]) [6] [] ?_ rfl) ?_ | refine bH (cZ 6 (.msl [51,0] 1) rfl (by simp only[go_sem]) [6] [] ?_ rfl) ?_ | refine bH (cZ 6 (.msl [51,0] 0) rfl (by simp only[go_sem]) [6] [] ?_ rfl) ?_
       ·simp only[go_sem,hO,h0,h1,h2]
       simp only[go_sem,hO,h0,h1,h2]
       refine aq ?_
       simp only[go_sem,hO,ai,h0,h1,h2]
       all_goals first | rfl | (simp only[aP];rfl) | (simp_all;done) | trace_state
     ·repeat refine sq ?_
      refine ay ?_
      repeat refine sq ?_
      refine rx hΓ [7,11,60] [[7,0],[51,0],[65,0]] (fun K' hK=>by simp only[go_sem,hO,ai,h0,h1,h2,aw,aJ,Option.isSome_some,aB,aP,Option.map_some,Option.isSome_some,Option.getD_some,iO];(repeat (refine⟨ao,?_⟩));exact hK _ (by simp only[go_sem,hO,ai,h0,h1,h2,aw,aJ,Option.isSome_some,aB,aP,Option.map_some,Option.isSome_some,Option.getD_some,iO]) (by simp only[go_sem,hO,ai,h0,h1,h2,aw,aJ,Option.isSome_some,aB,aP,Option.map_some,Option.isSome_some,Option.getD_some,iO]<;>rfl)) ?_
      repeat refine sq ?_
      refine au (fun hb=>?_) fun hb=>?_
      ·repeat refine sq ?_
       refine rx hΓ [11] [[51,0],[65,0]] (fun K' hK=>by simp only[go_sem,hO,ai,h0,h1,h2,aw,aJ,Option.isSome_some,aB,aP,Option.map_some,Option.isSome_some,Option.getD_some];(repeat (refine⟨ao,?_⟩));exact hK _ (by simp only[go_sem,hO,ai,h0,h1,h2,aw,aJ,Option.isSome_some,aB,aP,Option.map_some,Option.isSome_some,Option.getD_some]) (by simp only[go_sem,hO,ai,h0,h1,h2,aw,aJ,Option.isSome_some,aB,aP,Option.map_some,Option.isSome_some,Option.getD_some]<;>rfl)) ?_
       repeat refine sq ?_
       refine rx hΓ [6] [[51,0],[65,0]] (fun K' hK=>by simp only[go_sem,hO,ai,h0,h1,h2,aw,aJ,Option.isSome_some,aB,aP,Option.map_some,Option.isSome_some,Option.getD_some];(repeat (refine⟨ao,?_⟩));exact hK _ (by simp only[go_sem,hO,ai,h0,h1,h2,aw,aJ,Option.isSome_some,aB,aP,Option.map_some,Option.isSome_some,Option.getD_some]) (by simp only[go_sem,hO,ai,h0,h1,h2,aw,aJ,Option.isSome_some,aB,aP,Option.map_some,Option.isSome_some,Option.getD_some]<;>rfl)) ?_
       first | refine bH (cZ 6 (.msl [51,0] 2) rfl (by simp only[go_sem]) [6] [] ?_ rfl) ?_ | refine bH (cZ 6 (.msl [51,0] 1) rfl (by simp only[go_sem]) [6] [] ?_ rfl) ?_ | refine bH (cZ 6 (.msl [51,0] 0) rfl (by simp only[go_sem]) [6] [] ?_ rfl) ?_
       ·simp only[go_sem,hO,h0,h1,h2]
       simp only[go_sem,hO,h0,h1,h2]
       refine aq ?_
       simp only[go_sem,hO,ai,h0,h1,h2]
       all_goals first | rfl | (simp only[aP];rfl) | (simp_all;done) | trace_state
      ·repeat refine sq ?_
       refine ay ?_
       repeat refine sq ?_
       refine rx hΓ [6] [[51,0],[65,0]] (fun K' hK=>by simp only[go_sem,hO,ai,h0,h1,h2,aw,aJ,Option.isSome_some,aB,aP,Option.map_some,Option.isSome_some,Option.getD_some];(repeat (refine⟨ao,?_⟩));exact hK _ (by simp only[go_sem,hO,ai,h0,h1,h2,aw,aJ,Option.isSome_some,aB,aP,Option.map_some,Option.isSome_some,Option.getD_some]) (by simp only[go_sem,hO,ai,h0,h1,h2,aw,aJ,Option.isSome_some,aB,aP,Option.map_some,Option.isSome_some,Option.getD_some]<;>rfl)) ?_
       first | refine bH (cZ 6 (.msl [51,0] 2) rfl (by simp only[go_sem]) [6] [] ?_ rfl) ?_ | refine bH (cZ 6 (.msl [51,0] 1) rfl (by simp only[go_sem]) [6] [] ?_ rfl) ?_ | refine bH (cZ 6 (.msl [51,0] 0) rfl (by simp only[go_sem]) [6] [] ?_ rfl) ?_
       ·simp only[go_sem,hO,h0,h1,h2]
       simp only[go_sem,hO,h0,h1,h2]
       refine aq ?_
       simp only[go_sem,hO,ai,h0,h1,h2]
       all_goals first | rfl | (simp only[aP];rfl) | (simp_all;done) | trace_state
end
noncomputable section
def eS(l:Led)(k:Int):Int:=Qj (gk (ax l k)) (iZ (ax l k) (gj (ax l k).l k))
theorem tX{l:Led}{k:Int}(h:kI l k=false):uf (gk (ax l k)) (iZ (ax l k) (gj (ax l k).l k)) (ax l k) k=[]/\ua (gk (ax l k)) (iZ (ax l k) (gj (ax l k).l k))=.tup [.v .nilp,.v (vInt (eS l k))]/\(eS l k != 0)=true:=by
 unfold kI at h
 unfold eS
 cases hp:gk (ax l k)with
 |some p=>
  cases iZ (ax l k) (gj (ax l k).l k)<;>exact⟨rfl,rfl,rfl⟩
 |none=>
  rw[hp]at h
  have h2:iZ (ax l k) (gj (ax l k).l k)=false:=by simpa using h
  rw[h2]
  exact⟨rfl,rfl,rfl⟩
theorem tW{l:Led}{k:Int}(h:kI l k=true):uf (gk (ax l k)) (iZ (ax l k) (gj (ax l k).l k)) (ax l k) k=tR (aW (ax l k) k) [11,0,11,0]/\ua (gk (ax l k)) (iZ (ax l k) (gj (ax l k).l k))=.tup [.ref [26,0,11,0,11,0] 0,.v (vInt 0)]/\eS l k=0:=by
 unfold kI at h
 simp only[Bool.and_eq_true,Option.isNone_iff_eq_none]at h
 unfold eS
 rw[h.1,h.2]
 exact⟨rfl,rfl,rfl⟩
theorem vS{l:Led}(h:bp l)(k:Int):l4 (aW (ax l k) k)/\(aW (ax l k) k).rs.Nodup:=⟨(qH h k).1.ds _,(qH h k).2⟩
def lV(l:Led)(s k:Int):Int×Int:=if gQ l s k=0/\kI l k=true then bt (aW (ax l k) k).ds (jh l s k)else(0,0)
def i5(l:Led)(s k:Int):Int:=if gQ l s k=0 then eS l k else gQ l s k
theorem yH{l:Led}{s k:Int}(h:gQ l s k=0):bp l/\dayB k=true:=by
 unfold gQ at h
 split at h
 ·rename_i hc
  exact⟨(mG hc).1,(mG hc).2 k (by simp)⟩
 ·rename_i hc;exact(hc h).elim
def acV:List (Nat×Spec):=[(97,OW),(78,S78)]
attribute [go_sem] acV
theorem bp.srt{l:Led}(h:bp l):Go.Eng.srt Pap.id l.ps:=wq (gu.1 h.ps)
def acU:List (Nat×Spec):=[(75,qg),(79,x8),(96,tG),(78,S78),(80,S80)]
attribute [go_sem] acU
end
noncomputable section
def two(b:Bool):Int:=if b then 2 else 0
def acT:List (Nat×Spec):=[(75,qg),(76,S76),(77,S77),(78,S78)]
attribute [go_sem] acT
end
noncomputable section
theorem Jl{l:Led}(h:bp l)(x:Int):0<=ei l.ps x/\ei l.ps x<=30:=by
 unfold ei
 split
 ·rename_i p hp
  have hm:=List.mem_of_find?_eq_some hp
  obtain⟨j,hj,rfl⟩:=List.getElem_of_mem hm
  have :=jC h.ps hj
  unfold iM bT at this
  simp at this
  omega
 ·omega
def K35:List (Nat×Spec):=[(75,qg),(79,x8),(78,S78),(80,S80)]
attribute [go_sem] K35
end
set_option maxHeartbeats 8000000
noncomputable section
def pf(p:Pap):List Fol:=(List.range p.lv.toNat).map fun j=>⟨p.id,((j+1:Nat):Int)⟩
def gp(l:Led)(i:Nat):List Fol:=(l.ps.take i).flatMap pf
def bf(l:Led):List Fol:=l.ps.flatMap pf
theorem EX{l:Led}{i:Nat}(h:i<l.ps.length):gp l (i+1)=gp l i++pf l.ps[i]:=by
 unfold gp
 rw[List.take_add_one,List.getElem?_eq_getElem h,List.flatMap_append]
 simp
theorem MX(l:Led):gp l l.ps.length=bf l:=by unfold gp bf;rw[List.take_length]
theorem yR(p:Pap):(pf p).length=p.lv.toNat:=by simp[pf]
theorem Zx{l:Led}{i:Nat}(h:i<l.ps.length):∃ r,bf l=gp l i++(pf l.ps[i]++r):=by
 refine⟨(l.ps.drop (i+1)).flatMap pf,?_⟩
 unfold bf gp
 conv=>lhs;rw[<-List.take_append_drop i l.ps,List.flatMap_append,List.drop_eq_getElem_cons h,List.flatMap_cons]
theorem Zv{l:Led}{i j:Nat}{z:Fol}(h:i<l.ps.length)(hj:j<(l.ps[i]).lv.toNat):(gp l i).length+j<(bf l).length/\(bf l).getD ((gp l i).length+j) z=⟨(l.ps[i]).id,((j+1:Nat):Int)⟩:=by
 obtain⟨r,hr⟩:=Zx h
 have hp:=yR l.ps[i]
 rw[hr]
 refine⟨by simp only[List.length_append];omega,?_⟩
 rw[List.getD_eq_getElem?_getD,List.getElem?_append_right (by omega),Nat.add_sub_cancel_left,List.getElem?_append_left (by omega)]
 simp[pf,hj]
@[go_sem] def P93:PSpec:=p1 jQ (fun _=>True) (fun l=>.clo (.func 182) [] [.ptr [eV l]]) false
@[go_sem] def OY:Spec:=P93.toSpec
theorem Q9:aL Tryz.prog 93 P93:=by
 refine dR (rs:=[.tmp 2]) Tryz.func93 Tryz.ntmps93 fun l hp hw=>?_
 simp only[jQ,eV]at hw |-
 have hΓ:=@dT Tryz.prog
 repeat refine sq ?_
 refine rx hΓ [1] [[1,0]] (fun K' hK=>by simp only[go_sem];exact ak) ?_
 refine bH (cZ 1 (.ref [1,0] 0) (by simp only[go_sem]) (by simp only[go_sem]) [1] [[1,0]] ?_ rfl) ?_
 ·simp only[go_sem]
 simp only[go_sem]
 repeat refine sq ?_
 refine rx hΓ [2] [[1,0]] (fun K' hK=>by simp only[go_sem];exact ak) ?_
 refine aq ?_
 simp only[go_sem]
 all_goals exact cD
theorem PU{sY:Spec}(hY:aM Tryz.prog yid sY){l:Led}(ab:bp l){I:Nat->List O}
 (hI:∀ s,(I s).length=(I 0).length) (hc:∀ s,∀ o∈I s,∀ dom:Name->Bool,(∀ i,dom [i,1]=true)->O.clos dom o=true)
 (k9:∀ s,s<(bf l).length->∀ obj tm,(∀ nm,dt nm=true->obj nm=aS (I s) nm)->sY.app obj tm [.yld [0,1],.agg [.v (vInt ((bf l).getD s default).pa),.v (vInt ((bf l).getD s default).le)]]=⟨True,.v (.bool true),jg obj (I (s+1))⟩):
 ∃ c',Tryz.f182.body=some c'/\CL Tryz.prog [c'] (bm 29 [0] (aS (I 0)) [(0,⟨true,.yld [0,1]⟩),(1,⟨true,.v (.ptr [eV l])⟩)] [])
   (fun e σ=>(e=.normal\/e=.ret)/\∀ i,σ.obj [i,1]=aS (I (bf l).length) [i,1]):=by
 refine⟨_,rfl,?_⟩
 obtain⟨Γ,hΓ,dP⟩:∃ Γ:FuncId->Option Spec,(∀ f s,Γ f=some s->aM Tryz.prog f s)/\Γ 1000000000=some sY:=by
  refine⟨fun f=>if f=1000000000 then some sY else none,fun f s h=>?_,rfl⟩
  dsimp only at h
  split at h
  ·rename_i e;cases h;subst e;exact hY
  ·cases h
 have hO:∀ s hs,bG [0] (bC [0] hs) (aS (I s))=True:=fun s hs=>eq_true (lE (hc s) hs)
 have pI:∀ s,jg (aS (I s)) (I (s+1))=aS (I (s+1)):=fun s=>He ((hI _).trans (hI s).symm)
 obtain⟨H,hH⟩:∃ H:Nat->Name->Option O,∀ s,aS (I s)=H s:=⟨_,fun _=>rfl⟩
 simp only[hH]at hO pI k9 |-
 have pJ:=ab.psn
 have gW:l.ps.length<=maxLen:=by unfold maxLen;omega
 simp only[eV]
 repeat refine sq ?_
 refine rx hΓ [0,9,10,11] [] (fun K' hK=>by simp only[go_sem,hO];(repeat (refine⟨ao,?_⟩));exact hK _ (by simp only[go_sem,hO]) (by simp only[go_sem,hO]<;>rfl)) ?_
 repeat refine sq ?_
 refine aC ?_
 repeat refine sq ?_
 refine xJ (fun s:Nat=>bm 29 [0] (H (gp l s).length) [(0,⟨true,.yld [0,1]⟩),(9,⟨true,.v (.sl (l.ps.map fA))⟩),(10,⟨true,.v (vInt l.ps.length)⟩),(11,⟨true,.v (vInt s)⟩)] [])
  (fun s=>s<=l.ps.length) (fun s=>l.ps.length-s) 0 (Nat.zero_le _) (ef.refl _) ?_
 rintro i hi
 repeat refine sq ?_
 refine rx hΓ [0,9,10,11,12] [] (fun K' hK=>by simp only[go_sem,hO];(repeat (refine⟨ao,?_⟩));exact hK _ (by simp only[go_sem,hO]) (by simp only[go_sem,hO]<;>rfl)) ?_
 repeat refine sq ?_
 refine au (fun hb=>?_) fun hb=>?_
 ·have aa:i<l.ps.length:=by simpa using hb
  have an:(i:Int)<l.ps.length:=by omega
  have wP:IntKind.i64.wrap ((i:Int)+1)=((i+1:Nat):Int):=aO aa gW
  clear hb
  have sD:0<=(l.ps[i]).lv/\(l.ps[i]).lv<=30:=by
   have :=jC ab.ps aa
   unfold iM bT at this
   simp at this
   omega
  obtain⟨lv,pL⟩:∃ lv:Nat,(l.ps[i]).lv=lv:=⟨(l.ps[i]).lv.toNat,by omega⟩
  have cC:(l.ps[i]).lv.toNat=lv:=by omega
  repeat refine sq ?_
  refine ay ?_
  repeat refine sq ?_
  refine aC ?_
  repeat refine sq ?_
  refine rx hΓ [0,4,9,10,11] [[4,0]] (fun K' hK=>by simp only[go_sem,hO,ae aa,ah,aj,an];(repeat (refine⟨ao,?_⟩));exact hK _ (by simp only[go_sem,hO,ae aa,ah,aj,an]) (by simp only[go_sem,hO,ae aa,ah,aj,an]<;>rfl)) ?_
  repeat refine sq ?_
  refine rx hΓ [0,4,5,9,10,11] [[4,0]] (fun K' hK=>by simp only[go_sem,hO];(repeat (refine⟨ao,?_⟩));exact hK _ (by simp only[go_sem,hO]) (by simp only[go_sem,hO]<;>rfl)) ?_
  repeat refine sq ?_
  refine aC ?_
  repeat refine sq ?_
  refine xJ (fun j:Nat=>bm 29 [0] (H ((gp l i).length+j)) [(0,⟨true,.yld [0,1]⟩),(4,⟨true,.ref [4,0] 0⟩),(5,⟨true,.v (vInt ((j+1:Nat):Int))⟩),(9,⟨true,.v (.sl (l.ps.map fA))⟩),(10,⟨true,.v (vInt l.ps.length)⟩),(11,⟨true,.v (vInt i)⟩)] [([4,0],.box [.v (vInt (l.ps[i]).id),.v (vInt (l.ps[i]).lv)])])
   (fun j=>j<=lv) (fun j=>lv-j) 0 (Nat.zero_le _) (ef.refl _) ?_
  rintro j hj
  repeat refine sq ?_
  refine rx hΓ [0,4,5,9,10,11,18] [[4,0]] (fun K' hK=>by simp only[go_sem,hO];(repeat (refine⟨ao,?_⟩));exact hK _ (by simp only[go_sem,hO]) (by simp only[go_sem,hO]<;>rfl)) ?_
  repeat refine sq ?_
  refine au (fun hb=>?_) fun hb=>?_
  ·have fF:j<lv:=by
     have :((j+1:Nat):Int)<=(l.ps[i]).lv:=by simpa using hb
     omega
   have Xy:IntKind.i64.wrap (((j+1:Nat):Int)+1)=((j+1+1:Nat):Int):=aO (n:=100) (by omega) (by unfold maxLen;omega)
   clear hb
   obtain⟨u3,jU⟩:=Zv (z:=default) aa (show j<(l.ps[i]).lv.toNat by omega)
   have pT:=fun (F:Name->Option O) (tm:Name)=>k9 _ u3 (fun nm=>if own [0] nm=true then F nm else H ((gp l i).length+j) nm) tm fun nm hn=>by
    obtain⟨k,rfl⟩:=uP.1 hn
    simp[qy]
   rw[jU]at pT
   have DD:∀ (obj:Name->Option O) (L:List O),jg obj L [4,0]=obj [4,0]:=fun _ _=>rfl
   repeat refine sq ?_
   refine ay ?_
   repeat refine sq ?_
   refine aC ?_
   repeat refine sq ?_
   refine rx hΓ [0,4,5,9,10,11,27] [[4,0]] (fun K' hK=>by simp only[go_sem,hO,dP,pT,DD,uK,vH,pI,Bool.not_true];(repeat (refine⟨ao,?_⟩));exact hK _ (by simp only[go_sem,hO,dP,pT,DD,uK,vH,pI,Bool.not_true]) (by simp only[go_sem,hO,dP,pT,DD,uK,vH,pI,Bool.not_true]<;>rfl)) ?_
   repeat refine sq ?_
   refine au (fun hb=>?_) fun hb=>?_
   ·cases hb
   repeat refine sq ?_
   refine ay ?_
   refine br ?_
   simp only[go_sem]
   refine dv [0,4,5,9,10,11] [[4,0]] ?_ ?_
   ·simp only[go_sem,hO]
   simp only[go_sem,hO]
   repeat refine sq ?_
   refine aI hΓ fun K' hK=>?_
   simp only[go_sem]
   repeat (refine⟨ao,?_⟩)
   refine hK _ ?_
   clear K' hK
   simp only[go_sem]
   refine⟨j+1,fF,by omega,?_⟩
   refine aT [0,4,5,9,10,11] [[4,0]] ?_ ?_<;>simp only[go_sem,hO,Xy,Nat.add_assoc]
  ·have El:j=lv:=by
     have :¬ ((j+1:Nat):Int)<=(l.ps[i]).lv:=by simpa using hb
     omega
   subst El
   clear hb
   repeat refine sq ?_
   refine be ?_
   simp only[go_sem]
   refine dv [0,9,10,11] [] ?_ ?_
   ·simp only[go_sem,hO]
   simp only[go_sem,hO]
   repeat refine sq ?_
   refine aI hΓ fun K' hK=>?_
   simp only[go_sem]
   repeat (refine⟨ao,?_⟩)
   refine hK _ ?_
   clear K' hK
   simp only[go_sem]
   have oK:(gp l (i+1)).length=(gp l i).length+j:=by rw[EX aa,List.length_append,yR];omega
   refine⟨i+1,aa,by omega,?_⟩
   rw[oK]
   refine aT [0,9,10,11] [] ?_ ?_<;>simp only[go_sem,hO,wP,aQ]
 ·have aV:i=l.ps.length:=by
    have :¬ (i:Int)<l.ps.length:=by simpa using hb
    omega
  subst aV
  clear hb
  repeat refine sq ?_
  refine be ?_
  simp only[go_sem]
  refine br ?_
  simp only[go_sem]
  rw[MX]
  first | exact .inl trivial | exact⟨by simp,fun k=>by simp[qy]⟩
end
open Go
def p5{α β γ δ ε:Type}(A:En α)(B:En β)(C:En γ)(D:En δ)(E':En ε)(p:α->β->γ->δ->ε->Prop)(g:α->β->γ->δ->ε->V)(fl:Bool):PSpec:=
 ⟨fun xs=>match xs with | [x,y,z,u,v]=>A.enc (A.dec x)=x/\B.enc (B.dec y)=y/\C.enc (C.dec z)=z/\D.enc (D.dec u)=u/\E'.enc (E'.dec v)=v/\p (A.dec x) (B.dec y) (C.dec z) (D.dec u) (E'.dec v) | _=>False,
  fun xs=>match xs with | [x,y,z,u,v]=>g (A.dec x) (B.dec y) (C.dec z) (D.dec u) (E'.dec v) | _=>.bool false,fl⟩
theorem Iy{α β γ δ ε:Type}{A:En α}{B:En β}{C:En γ}{D:En δ}{E':En ε}{p:α->β->γ->δ->ε->Prop}{g:α->β->γ->δ->ε->V}{fl:Bool}{xs:List V}(h:(p5 A B C D E' p g fl).pre xs):
 ∃ a b c d e,xs=[A.enc a,B.enc b,C.enc c,D.enc d,E'.enc e]/\p a b c d e/\(p5 A B C D E' p g fl).fn xs=g a b c d e:=by
 unfold p5 at h
 simp only at h
 split at h
 ·exact⟨_,_,_,_,_,by rw[h.1,h.2.1,h.2.2.1,h.2.2.2.1,h.2.2.2.2.1],h.2.2.2.2.2,rfl⟩
 ·exact h.elim
theorem S2{α β γ δ ε:Type}{A:En α}{B:En β}{C:En γ}{D:En δ}{E':En ε}{p:α->β->γ->δ->ε->Prop}{g:α->β->γ->δ->ε->V}{fl:Bool}(hg:∀ a b c d e,(g a b c d e).flat=true):
 (p5 A B C D E' p g fl).flat=true->∀ xs,(p5 A B C D E' p g fl).pre xs->((p5 A B C D E' p g fl).fn xs).flat=true:=by
 intro _ xs h
 obtain⟨a,b,c,d,e,_,_,hh⟩:=Iy h
 rw[hh];exact hg _ _ _ _ _
attribute [go_sem] p5
theorem w5{P:Program}{f:FuncId}{fn:Func}{nt:Nat}{rs:List ResultVar}{α β γ δ ε:Type}{A:En α}{B:En β}{C:En γ}{D:En δ}{E':En ε}{p:α->β->γ->δ->ε->Prop}{g:α->β->γ->δ->ε->V}{fl:Bool}(hf:P.funcs[f]?=some fn)(cB:fn.ntmps=nt)(cg:fn.results.toList=rs)(hn:(fn.name== "runtime.NumGoroutine")=false)(hy:f<1000000000)
 (dK:fl=true->∀ a b c d e,(g a b c d e).flat=true) (hb:∃ c,fn.body=some c/\5<=nt/\∀ a b d e e',p a b d e e'->V.wfL [A.enc a,B.enc b,C.enc d,D.enc e,E'.enc e']->CL P [c] (bm nt [0] (fun _=>none) (fT 0 [A.enc a,B.enc b,C.enc d,D.enc e,E'.enc e']) []) (l' P rs (g a b d e e'))):aL P f (p5 A B C D E' p g fl):=by
 obtain⟨c,hc,h1,h⟩:=hb
 refine wm hf cB cg hn hy (fun e=>S2 (dK e) e) ⟨c,hc,fun xs hp hw=>?_⟩
 obtain⟨a,b,d,e,e',rfl,hp,hg⟩:=Iy hp
 rw[hg]
 exact⟨h1,h a b d e e' hp hw⟩
noncomputable section
theorem yC{r:Lp}(hr:r.Ok)(cL:∀ j,r.st j=none)(hy:aM Tryz.prog yid r.y.toSpec){l:Led}(ab:bp l)
 (hn:r.n=(bf l).length) (Dv:∀ s,r.vals s=[.agg [.v (vInt ((bf l).getD s default).pa),.v (vInt ((bf l).getD s default).le)]]):aM Tryz.prog 182 (r.it [.ptr [eV l]]).toSpec:=by
 obtain⟨c,hc,h⟩:=PU hy ab (I:=r.I) (fun s=>by rw[Lp.I_len hr,Lp.I_len hr]) (fun s=>Lp.I_clos hr _)
  (fun s hs obj tm ho=>by
    have :=Lp.y_setU hr cL (s:=s) (by rw[hn];exact hs) obj tm ho
    rw[Dv]at this
    exact this)
 refine Lp.it_sound hr cL Tryz.func182 Tryz.ntmps182 (by rfl) (by kernel_rfl) (by decide) ⟨c,hc,lb rfl,?_⟩
 rw[hn]
 exact h
theorem AK{P:Program}{r:Lp}(hr:r.Ok){caps:List V}{g:Operand}{ps:Array Tmp}{asg body:Code}{σ:S}{rest:List Code}{K:Exit->S->Prop}(k k':Nat){f:FuncId}{Ls:List Name}
 (hc:c7 σ g=true) (hg:av σ g=.v (.clo (.func f) [] caps)) (aG:f≠yid) (hs:aM P f (r.it caps).toSpec) (nC:σ.obj (k::σ.pre)=none)
 (he:(List.range σ.nt).map σ.env=r.env Ls) (fO:ps.toList=r.ps) (ha:asg=r.asg) (hb:body=r.body) (hl:Ls.length=r.m) (hn:Ls.Nodup) (hR:(k::σ.pre)∉Ls) (hF:ct σ.obj Ls (r.fam Ls 0))
 (hK:∀ o:O,oy (gx (fun σ'=>CL P rest σ' K) K) { σ with obj:=upd (ck Ls (r.fam Ls r.e) σ.obj) (k::σ.pre) (some o) } r.pd):CL P (.rangeFunc g ps asg body::rest) σ K:=
 aav (Γ:=fun x=>if x=f then some (r.it caps).toSpec else none) (fun x s hx=>by
  split at hx
  ·rename_i e;cases hx;subst e;exact hs
  ·cases hx) hr k k' hc hg aG (if_pos rfl) nC he fO ha hb hl hn hR hF hK
def acS:List (Nat×Spec):=[(108,Bi)]
attribute [go_sem] acS
def acR:List (Nat×Spec):=[]
attribute [go_sem] acR
theorem Ir{p:Pap}{f:Fol}(h:f∈pf p):f.pa=p.id:=by
 obtain⟨a,_,rfl⟩:=List.mem_map.1 h
 rfl
theorem SW(p:Pap):(pf p).Nodup:=by
 unfold pf
 refine List.Pairwise.map _ (fun a b oO e=>oO ?_) List.nodup_range
 simp at e
 omega
theorem I':∀ ps:List Pap,ps.Pairwise (fun p q=>p.id<q.id)->(ps.flatMap pf).Nodup
 |[],_=>by simp
 |p::r,h=>by
  obtain⟨h1,h2⟩:=List.pairwise_cons.1 h
  rw[List.flatMap_cons,List.nodup_append]
  refine⟨SW p,I' r h2,fun a ha b hb e=>?_⟩
  subst e
  obtain⟨q,hq,hb⟩:=List.mem_flatMap.1 hb
  have e1:=Ir ha
  have e2:=Ir hb
  have :=h1 q hq
  omega
theorem MY{l:Led}(h:bp l):(bf l).Nodup:=by
 have hs:Go.Eng.srt Pap.id l.ps:=h.srt
 exact I' _ (List.pairwise_iff_getElem.2 fun i j hi hj b7=>hs i j hi hj b7)
theorem xC{l:Led}(h:bp l):(bf l).length<=360:=by
 have hl:∀ ps:List Pap,(∀ p∈ps,p.lv<=30)->(ps.flatMap pf).length<=30*ps.length:=by
  intro ps
  induction ps with
  |nil=>intro _;simp
  |cons p r ih=>
   intro hh
   have h1:=hh p (by simp)
   have h2:=ih fun q hq=>hh q (by simp[hq])
   rw[List.flatMap_cons,List.length_append,yR,List.length_cons]
   omega
 have h1:=hl l.ps fun p hp=>by
  obtain⟨j,hj,rfl⟩:=List.getElem_of_mem hp
  have :=jC h.ps hj
  unfold iM bT at this
  simp at this
  omega
 have :=h.psn
 unfold bf
 omega
def lC(f:Fol):D:=.agg [.v (vInt f.pa),.v (vInt f.le)]
theorem MV{l:List Fol}(hn:l.Nodup):∀ s s',s<l.length->s'<l.length->([lC (l.getD s default)]:List D)=[lC (l.getD s' default)]->s=s':=by
 intro s s' h h' e
 rw[dd h,dd h']at e
 have e1:l[s]=l[s']:=by
  generalize l[s]=a at e |-
  generalize l[s']=b at e |-
  obtain⟨a1,a2⟩:=a
  obtain⟨b1,b2⟩:=b
  simp only[lC,List.cons.injEq,D.agg.injEq,D.v.injEq,vInt,V.int.injEq,true_and,and_true]at e
  rw[e.1,e.2]
 exact(List.getElem_inj hn).1 e1
theorem agm(l:List Fol):∀ y∈l.map ea,y.cells.length=2/\y.okc=true:=by
 intro y hy;obtain⟨x,_,rfl⟩:=List.mem_map.1 hy;exact⟨rfl,rfl⟩
end
noncomputable section
def K38:List (Nat×Spec):=[(37,Gc),(96,tG),(75,qg),(78,S78),(93,OY)]
attribute [go_sem] K38
def acQ:List (Nat×Spec):=[]
attribute [go_sem] acQ
end
set_option maxHeartbeats 8000000
noncomputable section
def dw(l:Led)(so k:Int):Int:=cf (fun r=>r.so==so&&cG r.kn r.un k) l.rs
def mi(so k:Int)(r:Rec):Bool:=r.so==so&&cG r.kn r.un k
theorem Sl{l:Led}{so k:Int}{i:Nat}(h:i<l.rs.length)(hp:mi so k l.rs[i]=true)(hn:∀ j (hj:j<l.rs.length),j<i->mi so k l.rs[j]=false):dw l so k=i:=lM h hp hn
theorem Sk{l:Led}{so k:Int}(hn:∀ j (hj:j<l.rs.length),j<l.rs.length->mi so k l.rs[j]=false):dw l so k= -1:=by
 unfold dw cf
 rw[if_neg]
 intro h
 obtain⟨x,hx,hp⟩:=List.any_eq_true.1 h
 obtain⟨j,hj,rfl⟩:=List.getElem_of_mem hx
 have :=hn j hj hj
 unfold mi at this
 rw[this]at hp
 exact absurd hp (by decide)
def K39:List (Nat×Spec):=[(157,Bh)]
theorem acP:KS K39:=tc yD.sound<|tn
attribute [go_sem] K39
@[go_sem] def P70:PSpec:=p3 iL iI iI (fun l _ _=>l.rs.length<=60) (fun l so k=>vInt (dw l so k)) true
@[go_sem] def Ga:Spec:=P70.toSpec
theorem Hq:aL Tryz.prog 70 P70:=by
 refine gL (rs:=[.tmp 6]) Tryz.func70 Tryz.ntmps70 fun l so k hp hw=>?_
 simp only[iI,iL,dq]at hw |-
 have hΓ:=acP
 have hl:l.rs.length<=maxLen:=by unfold maxLen;omega
 repeat refine sq ?_
 refine rx hΓ [1,2,3] [[3,0]] (fun K' hK=>by simp only[go_sem];exact ak) ?_
 repeat refine sq ?_
 refine rx hΓ [1,2,3,7] [[3,0]] (fun K' hK=>by simp only[go_sem];exact ak) ?_
 repeat refine sq ?_
 refine aC ?_
 repeat refine sq ?_
 refine bA (fun s:Nat=>[(7,⟨true,.v (vInt s)⟩)]) (fun s=>[]) (fun s=>s<=l.rs.length/\∀ j (hj:j<l.rs.length),j<s->mi so k l.rs[j]=false) (fun s=>l.rs.length-s) 0 ?_ ?_ ?_ ?_
 ·exact⟨Nat.zero_le _,by simp⟩
 ·rfl
 ·rfl
 rintro i ⟨hi,hR⟩
 simp only[go_sem]
 repeat refine sq ?_
 refine rx hΓ [1,2,3,7,13] [[3,0]] (fun K' hK=>by simp only[go_sem];exact ak) ?_
 repeat refine sq ?_
 refine au (fun hb=>?_) fun hb=>?_
 ·have aa:i<l.rs.length:=by simpa using hb
  have an:(i:Int)<l.rs.length:=by omega
  clear hb
  repeat refine sq ?_
  refine ay ?_
  repeat refine sq ?_
  refine aC ?_
  repeat refine sq ?_
  refine rx hΓ [1,2,3,7,8] [[3,0],[8,0]] (fun K' hK=>by simp only[go_sem,ae aa,ah,aj,an];exact ak) ?_
  repeat refine sq ?_
  refine rx hΓ [1,2,3,7,32] [[3,0]] (fun K' hK=>by simp only[go_sem,ae aa,ah,aj,an];exact ak) ?_
  repeat refine sq ?_
  refine au (fun hb=>?_) fun hb=>?_
  ·repeat refine sq ?_
   have e:dw l so k=i:=Sl aa (by unfold mi;simpa using hb) (fun j hj dB=>hR j hj dB)
   repeat refine sq ?_
   refine rx hΓ [6] [] (fun K' hK=>by simp only[go_sem,ae aa,ah,aj,an];exact ak) ?_
   refine aq ?_
   simp only[go_sem]
   rw[e]
  ·repeat refine sq ?_
   refine ay ?_
   refine br ?_
   simp only[go_sem]
   refine kp [1,2,3,7] [[3,0]] ?_
   repeat refine sq ?_
   refine aI hΓ fun K' hK=>?_
   simp only[go_sem,ae aa,ah,aj,an]
   repeat (refine⟨ao,?_⟩)
   refine hK _ ?_
   clear K' hK
   simp only[go_sem]
   refine⟨i+1,⟨aa,?_⟩,by(show l.rs.length-(i+1)<l.rs.length-i;omega),?_⟩
   ·intro j hj dB
    rcases Nat.lt_succ_iff_lt_or_eq.1 dB with h5 | rfl
    ·exact hR j hj h5
    ·unfold mi;simpa using hb
   refine aT [1,2,3,7] [[3,0]] ?_ ?_<;>simp only[go_sem,aO aa hl,aQ]
 ·have aV:i=l.rs.length:=by
   have :¬ (i:Int)<l.rs.length:=by simpa using hb
   omega
  clear hb
  subst aV
  repeat refine sq ?_
  refine be ?_
  simp only[go_sem]
  refine kp [] [] ?_
  repeat refine sq ?_
  refine rx hΓ [6] [] (fun K' hK=>by simp only[go_sem];exact ak) ?_
  refine aq ?_
  simp only[go_sem]
  rw[Sk hR]
def lk(t:Ret)(r:Rec):Int:=cI t.lo (r.da+1)
def H4(r:Rec):Prop:=0<=r.da/\r.da<=100000
@[go_sem] def P158:PSpec:=p2 iT iR (fun _ r=>H4 r) (fun t r=>vInt (lk t r)) true
@[go_sem] def Gg:Spec:=P158.toSpec
theorem B0:aL Tryz.prog 158 P158:=by
 refine cK (rs:=[.tmp 4]) Tryz.func158 Tryz.ntmps158 fun t r hp hw=>?_
 simp only[iR,iT,encR,encT]at hw |-
 have hΓ:=@dT Tryz.prog
 have jn:=vL hp
 repeat refine sq ?_
 refine rx hΓ [2,3] [[2,0],[3,0]] (fun K' hK=>by simp only[go_sem];exact ak) ?_
 repeat refine sq ?_
 refine rx hΓ [4] [] (fun K' hK=>by simp only[go_sem,jn];exact ak) ?_
 refine aq ?_
 simp only[go_sem]
 all_goals exact cD
def fg(l:Led)(ds:List Int):Int:=if pj l=false then 24 else if ds.all dayB then 0 else 6
def K39b:List (Nat×Spec):=[(69,Gb),(154,Gh)]
theorem acO:KS K39b:=tc Re.sound<|tc B1.sound<|tn
attribute [go_sem] K39b
@[go_sem] def P98:PSpec:=p2 iL cm (fun _ ds=>ds.length<=60) (fun l ds=>vInt (fg l ds)) true
@[go_sem] def rF:Spec:=P98.toSpec
theorem yz:aL Tryz.prog 98 P98:=by
 refine cK (rs:=[.tmp 4]) Tryz.func98 Tryz.ntmps98 fun l ds hp hw=>?_
 simp only[cm,iL,dq]at hw |-
 have hΓ:=acO
 have hl:ds.length<=maxLen:=by unfold maxLen;omega
 repeat refine sq ?_
 refine rx hΓ [1,2] [[2,0]] (fun K' hK=>by simp only[go_sem];exact ak) ?_
 repeat refine sq ?_
 refine rx hΓ [1,8] [] (fun K' hK=>by simp only[go_sem,aay];exact ak) ?_
 repeat refine sq ?_
 refine au (fun hb=>?_) fun hb=>?_
 ·repeat refine sq ?_
  have ho:pj l=false:=by simpa using hb
  repeat refine sq ?_
  refine rx hΓ [4] [] (fun K' hK=>by simp only[go_sem];exact ak) ?_
  refine aq ?_
  simp only[go_sem]
  unfold fg;rw[if_pos ho]
 ·repeat refine sq ?_
  have ho:pj l=true:=by simpa using hb
  refine ay ?_
  repeat refine sq ?_
  refine rx hΓ [1,5] [] (fun K' hK=>by simp only[go_sem];exact ak) ?_
  repeat refine sq ?_
  refine aC ?_
  repeat refine sq ?_
  refine bA (fun s:Nat=>[(5,⟨true,.v (vInt s)⟩)]) (fun s=>[]) (fun s=>s<=ds.length/\∀ j (hj:j<ds.length),j<s->dayB ds[j]=true) (fun s=>ds.length-s) 0 ?_ ?_ ?_ ?_
  ·exact⟨Nat.zero_le _,by simp⟩
  ·rfl
  ·rfl
  rintro i ⟨hi,hR⟩
  simp only[go_sem]
  repeat refine sq ?_
  refine rx hΓ [1,5,12] [] (fun K' hK=>by simp only[go_sem];exact ak) ?_
  repeat refine sq ?_
  refine au (fun hb=>?_) fun hb=>?_
  ·have aa:i<ds.length:=by simpa using hb
   have an:(i:Int)<ds.length:=by omega
   clear hb
   repeat refine sq ?_
   refine ay ?_
   repeat refine sq ?_
   refine aC ?_
   repeat refine sq ?_
   refine rx hΓ [1,5,20] [] (fun K' hK=>by simp only[go_sem,ae aa,ah,aj,an];exact ak) ?_
   repeat refine sq ?_
   refine au (fun hb=>?_) fun hb=>?_
   ·repeat refine sq ?_
    have e:fg l ds=6:=by
     unfold fg
     rw[if_neg (by simp[ho]),if_neg]
     intro h
     have :=List.all_eq_true.1 h _ (List.getElem_mem aa)
     simp[this]at hb
    repeat refine sq ?_
    refine rx hΓ [4] [] (fun K' hK=>by simp only[go_sem,ae aa,ah,aj,an];exact ak) ?_
    refine aq ?_
    simp only[go_sem]
    rw[e]
   ·repeat refine sq ?_
    refine ay ?_
    refine br ?_
    simp only[go_sem]
    refine kp [1,5] [] ?_
    repeat refine sq ?_
    refine aI hΓ fun K' hK=>?_
    simp only[go_sem,ae aa,ah,aj,an]
    repeat (refine⟨ao,?_⟩)
    refine hK _ ?_
    clear K' hK
    simp only[go_sem]
    refine⟨i+1,⟨aa,?_⟩,by(show ds.length-(i+1)<ds.length-i;omega),?_⟩
    ·intro j hj dB
     rcases Nat.lt_succ_iff_lt_or_eq.1 dB with h5 | rfl
     ·exact hR j hj h5
     ·simpa using hb
    refine aT [1,5] [] ?_ ?_<;>simp only[go_sem,aO aa hl,aQ]
  ·have aV:i=ds.length:=by
    have :¬ (i:Int)<ds.length:=by simpa using hb
    omega
   clear hb
   subst aV
   repeat refine sq ?_
   refine be ?_
   simp only[go_sem]
   refine kp [] [] ?_
   repeat refine sq ?_
   refine rx hΓ [4] [] (fun K' hK=>by simp only[go_sem];exact ak) ?_
   refine aq ?_
   simp only[go_sem]
   unfold fg;rw[if_neg (by simp[ho]),if_pos (List.all_eq_true.2 fun x hx=>by obtain⟨j,hj,rfl⟩:=List.getElem_of_mem hx;exact hR j hj hj)]
end
noncomputable section
theorem r8{l:Led}(h:bp l){r:Rec}(hr:r∈l.rs):H4 r:=by
 obtain⟨j,hj,rfl⟩:=List.getElem_of_mem hr
 have :=jC h.rs hj
 unfold dG at this
 simp only[Bool.and_eq_true]at this
 have hd:=this.1.2
 unfold dayB bT at hd
 simp at hd
 exact hd
theorem IM{l:Led}(h:bp l){i:Nat}(hi:i<l.ts.length):l.ts[i].lv.length<=30:=by
 have :=jC h.ts hi
 unfold gR at this
 simp only[Bool.and_eq_true]at this
 exact(lL.1 this.1.1.1.2).2.1
def aA(l:Led)(i:Nat):Rec:=l.rs.getD i ew
theorem v8(l:Led)(so k:Int):dw l so k= -1\/∃ j,∃ h:j<l.rs.length,dw l so k=(j:Int)/\mi so k l.rs[j]=true:=by
 unfold dw cf
 by_cases h:(l.rs.any fun r=>r.so==so&&cG r.kn r.un k)=true
 ·rw[if_pos h]
  have aa:l.rs.findIdx (fun r=>r.so==so&&cG r.kn r.un k)<l.rs.length:=List.findIdx_lt_length_of_exists (by obtain⟨x,hx,hp⟩:=List.any_eq_true.1 h;exact⟨x,hx,hp⟩)
  exact .inr ⟨_,aa,rfl,List.findIdx_getElem (w:=aa)⟩
 ·rw[if_neg h];exact .inl rfl
def m4(l:Led)(row:List Bool)(x:Ret)(f:Int)(j:Nat):Bool:=!(row.getD j false&&(aK l j).re==x.re&&(aK l j).lv.contains f)
def jB(p:Nat->Bool)(j:Nat):Bool:=(List.range j).all p
def oE(l:Led)(row:List Bool)(i:Nat)(r:Rec)(x:Ret)(f:Int):Bool:=r.lv.contains f&&jB (m4 l row x f) i
def iJ(l:Led)(k:Int)(row:List Bool)(i:Nat):Bool:=
 if dw l (aK l i).re k<0 then false else
   (cG (aK l i).kn (aK l i).un k&&!decide (lk (aK l i) (aA l (dw l (aK l i).re k).toNat)>(aK l i).hi))&&
     (aK l i).lv.all (oE l row i (aA l (dw l (aK l i).re k).toNat) (aK l i))
def bN(l:Led)(k:Int):Nat->List Bool
 | 0=>List.replicate l.ts.length false
 |s+1=>if iJ l k (bN l k s) s=true then(bN l k s).set s true else bN l k s
theorem m5(l:Led)(k:Int)(s:Nat):(bN l k s).length=l.ts.length:=by
 induction s with
 |zero=>simp[bN]
 |succ s ih=>unfold bN;split<;>simp[ih]
theorem yr(l:Led)(k:Int){s j:Nat}(h:s<=j):(bN l k s).getD j false=false:=by
 induction s with
 |zero=>
  simp only[bN,List.getD_eq_getElem?_getD,List.getElem?_replicate]
  split<;>rfl
 |succ s ih=>
  unfold bN
  split
  ·rw[List.getD_eq_getElem?_getD,List.getElem?_set_ne (by omega),<-List.getD_eq_getElem?_getD];exact ih (by omega)
  ·exact ih (by omega)
theorem GV(l:Led)(k:Int){s:Nat}(h:s<l.ts.length):(bN l k s).set s (iJ l k (bN l k s) s)=bN l k (s+1):=by
 rw[bN]
 split
 ·rename_i e;rw[e]
 ·rename_i e
  have e2:iJ l k (bN l k s) s=false:=by simpa using e
  have e3:=yr l k (Nat.le_refl s)
  rw[List.getD_eq_getElem?_getD,List.getElem?_eq_getElem (by rw[m5];exact h)]at e3
  have e4:(bN l k s)[s]'(by rw[m5];exact h)=false:=e3
  rw[e2,<-e4]
  exact List.set_getElem_self _
theorem yq(l:Led)(k:Int){s:Nat}(e:iJ l k (bN l k s) s=false):bN l k (s+1)=bN l k s:=by
 rw[bN,if_neg (by rw[e];decide)]
theorem SJ(l:Led)(k:Int):List.replicate l.ts.length (V.bool false)=(bN l k 0).map V.bool:=by rw[bN,List.map_replicate]
theorem eh{l:Led}{i:Nat}(h:i<l.rs.length):aA l i=l.rs[i]:=by unfold aA;rw[List.getD_eq_getElem?_getD,List.getElem?_eq_getElem h];rfl
theorem oD{L:List Bool}{j:Nat}{d:V}(h:j<L.length):(L.map V.bool).getD j d=.bool (L.getD j false):=by
 simp[List.getD_eq_getElem?_getD,h]
theorem abb(p:Nat->Bool)(j:Nat):jB p (j+1)=(jB p j&&p j):=by
 unfold jB
 rw[List.range_succ,List.all_append];simp
theorem pr:decide ((-1:Int)<0)=true:=rfl
theorem QA(row:List Bool)(i:Nat)(b:Bool):(row.map V.bool).set i (.bool b)=(row.set i b).map V.bool:=List.map_set.symm
def K40:List (Nat×Spec):=[(70,Ga),(157,Bh),(158,Gg),(15,vG)]
theorem acN:KS K40:=tc Hq.sound<|tc yD.sound<|tc B0.sound<|tc yE.sound<|tn
attribute [go_sem] K40
@[go_sem] def P71:PSpec:=p2 iL iI (fun l _=>bp l) (fun l k=>.sl ((bN l k l.ts.length).map .bool)) false
@[go_sem] def O1:Spec:=P71.toSpec
set_option maxHeartbeats 8000000 in
theorem Hp:aL Tryz.prog 71 P71:=by
 refine cK (rs:=[.tmp 4]) Tryz.func71 Tryz.ntmps71 fun l k hp hw=>?_
 have hP:=c8
 simp only[iI,iL,dq]at hw |-
 have hΓ:=acN
 have gm:=hp.rsn
 have ml:=hp.tsn
 have fP:l.ts.length<=maxLen:=by unfold maxLen;omega
 repeat refine sq ?_
 refine rx hΓ [1,2] [[2,0]] (fun K' hK=>by simp only[go_sem];exact ak) ?_
 repeat refine sq ?_
 refine rx hΓ [1,2,5] [[2,0],[15,0]] (fun K' hK=>by simp only[go_sem,ah,SJ l k];exact ak) ?_
 repeat refine sq ?_
 refine rx hΓ [1,2,5,6] [[2,0],[15,0]] (fun K' hK=>by simp only[go_sem];exact ak) ?_
 repeat refine sq ?_
 refine aC ?_
 repeat refine sq ?_
 refine bA (fun s:Nat=>[(6,⟨true,.v (vInt s)⟩)]) (fun s=>[([15,0],.arr 1 ((bN l k s).map .bool))]) (fun s=>s<=l.ts.length) (fun s=>l.ts.length-s) 0 ?_ ?_ ?_ ?_
 ·exact Nat.zero_le _
 ·rfl
 ·rfl
 rintro i hi
 simp only[go_sem]
 repeat refine sq ?_
 refine rx hΓ [1,2,5,6,20] [[2,0],[15,0]] (fun K' hK=>by simp only[go_sem];exact ak) ?_
 repeat refine sq ?_
 refine au (fun hb=>?_) fun hb=>?_
 ·have aa:i<l.ts.length:=by simpa using hb
  have an:(i:Int)<l.ts.length:=by omega
  clear hb
  have sA:=m5 l k i
  generalize DG:bN l k i=row at sA
  repeat refine sq ?_
  refine ay ?_
  repeat refine sq ?_
  refine aC ?_
  repeat refine sq ?_
  refine rx hΓ [1,2,5,6,7] [[2,0],[7,0],[15,0]] (fun K' hK=>by simp only[go_sem,ae aa,ah,aj,an];exact ak) ?_
  repeat refine sq ?_
  refine rx hΓ [1,2,5,6,7,8] [[2,0],[7,0],[15,0]] (fun K' hK=>by simp only[go_sem,ae aa,ah,aj,an,gm];exact ak) ?_
  rcases v8 l l.ts[i].re k with gl | ⟨j0,cq,gl,hrp⟩
  ·repeat refine sq ?_
   refine dx hΓ hP [[],[0],[0,1],[0,1,2],u4,[0,1,2],[0,1,2,5],[0,1,2],u8,u9,bI,cz,dS,dS,[0,1,2,3,4,5,6,7,8,9,10,11,13],dS,[0,1,2,3,4,5,6,7,8,9,10,11,13,14,15],[0,1,2,3,4,5,6,7,8,9,10,11,13,14,15,16],gO,dS,[0,1,2,3,4,5,6,7,8,9,10,11,19],[0,1,2,3,4,5,6,7,8,9,10,11,19,20],rP,qp] [1,2,5,6,7,8,56] [[2,0],[7,0],[15,0]] (by kernel_rfl) (fun K' hK=>by simp only[go_sem,ae aa,ah,aj,an,gl,List.length_map];(repeat (refine⟨by first | exact ao | exact fun h=>⟨h,r8 hp (List.getElem_mem cq)⟩ | (cases cG l.ts[i].kn l.ts[i].un k<;>rfl),?_⟩));exact iw) ?_
   repeat refine sq ?_
   refine au (fun hb=>?_) fun hb=>?_
   ·repeat refine sq ?_
    have e0:bN l k (i+1)=row:=by
     rw[yq l k (by unfold iJ;rw[kG aa,gl];rfl),DG]
    refine be ?_
    simp only[go_sem]
    refine kp [1,2,5,6] [[2,0],[15,0]] ?_
    repeat refine sq ?_
    refine aI hΓ fun K' hK=>?_
    simp only[go_sem,ae aa,ah,aj,an,gl]
    repeat (refine⟨ao,?_⟩)
    refine hK _ ?_
    clear K' hK
    simp only[go_sem]
    refine⟨i+1,aa,by(show l.ts.length-(i+1)<l.ts.length-i;omega),?_⟩
    refine aT [1,2,5,6] [[2,0],[15,0]] ?_ ?_<;>simp only[go_sem,aO aa fP,aQ,e0]
   ·cases hb
  ·have dn:decide ((j0:Int)<0)=false:=by simp
   have Eo:(j0:Int)<l.rs.length:=by omega
   repeat refine sq ?_
   refine dx hΓ hP [[],[0],[0,1],[0,1,2],u4,[0,1,2],[0,1,2,5],[0,1,2],u8,u9,bI,cz,dS,dS,[0,1,2,3,4,5,6,7,8,9,10,11,13],dS,[0,1,2,3,4,5,6,7,8,9,10,11,13,14,15],[0,1,2,3,4,5,6,7,8,9,10,11,13,14,15,16],gO,dS,[0,1,2,3,4,5,6,7,8,9,10,11,19],[0,1,2,3,4,5,6,7,8,9,10,11,19,20],rP,qp] [1,2,5,6,7,8,56] [[2,0],[7,0],[15,0]] (by kernel_rfl) (fun K' hK=>by simp only[go_sem,ae aa,ah,aj,an,gl,ae cq,dn,List.length_map];(repeat (refine⟨by first | exact ao | exact fun h=>⟨h,r8 hp (List.getElem_mem cq)⟩ | (cases cG l.ts[i].kn l.ts[i].un k<;>rfl),?_⟩));exact iw) ?_
   repeat refine sq ?_
   refine au (fun hb=>?_) fun hb=>?_
   ·repeat refine sq ?_
    have e0:bN l k (i+1)=row:=by
     rw[yq l k (by unfold iJ;rw[kG aa,gl,if_neg (by omega),ah,eh cq];simp only[Bool.and_eq_false_iff];exact .inl (by simpa[Bool.and_eq_false_iff]using hb)),DG]
    refine be ?_
    simp only[go_sem]
    refine kp [1,2,5,6] [[2,0],[15,0]] ?_
    repeat refine sq ?_
    refine aI hΓ fun K' hK=>?_
    simp only[go_sem,ae aa,ah,aj,an,gl,ae cq,dn]
    repeat (refine⟨ao,?_⟩)
    refine hK _ ?_
    clear K' hK
    simp only[go_sem]
    refine⟨i+1,aa,by(show l.ts.length-(i+1)<l.ts.length-i;omega),?_⟩
    refine aT [1,2,5,6] [[2,0],[15,0]] ?_ ?_<;>simp only[go_sem,aO aa fP,aQ,e0]
   ·repeat refine sq ?_
    have Mt:cG l.ts[i].kn l.ts[i].un k=true:=by cases YG:cG l.ts[i].kn l.ts[i].un k with | true=>rfl | false=>rw[YG]at hb;simp at hb
    have Yu:¬ lk l.ts[i] l.rs[j0]>l.ts[i].hi:=by rw[Mt]at hb;simpa using hb
    have XC:iJ l k row i=l.ts[i].lv.all (oE l row i l.rs[j0] l.ts[i]):=by
     unfold iJ
     rw[kG aa,gl,if_neg (by omega),ah,eh cq,Mt,decide_eq_false Yu]
     rfl
    have uV:=IM hp aa
    have pE:l.ts[i].lv.length<=maxLen:=by unfold maxLen;omega
    clear hb
    refine ay ?_
    repeat refine sq ?_
    refine rx hΓ [1,2,5,6,7,8,9] [[2,0],[7,0],[15,0]] (fun K' hK=>by simp only[go_sem,ae aa,ah,aj,an,gl,ae cq,dn];exact ak) ?_
    repeat refine sq ?_
    refine rx hΓ [1,2,5,6,7,8,9,10] [[2,0],[7,0],[15,0]] (fun K' hK=>by simp only[go_sem,ae aa,ah,aj,an,gl,ae cq,dn];exact ak) ?_
    repeat refine sq ?_
    refine aC ?_
    repeat refine sq ?_
    refine bA (fun s:Nat=>[(10,⟨true,.v (vInt s)⟩),(9,⟨true,.v (.bool ((l.ts[i].lv.take s).all (oE l row i l.rs[j0] l.ts[i])))⟩)]) (fun s=>[]) (fun s=>s<=l.ts[i].lv.length) (fun s=>l.ts[i].lv.length-s) 0 ?_ ?_ ?_ ?_
    ·exact Nat.zero_le _
    ·rfl
    ·rfl
    rintro i1 hi
    generalize hB:(l.ts[i].lv.take i1).all (oE l row i l.rs[j0] l.ts[i])=B
    simp only[go_sem]
    repeat refine sq ?_
    refine rx hΓ [1,2,5,6,7,8,9,10,61] [[2,0],[7,0],[15,0]] (fun K' hK=>by simp only[go_sem,ae aa,ah,aj,an,gl,ae cq,dn];exact ak) ?_
    repeat refine sq ?_
    refine au (fun hb=>?_) fun hb=>?_
    ·have aE:i1<l.ts[i].lv.length:=by simpa using hb
     have bc:(i1:Int)<l.ts[i].lv.length:=by omega
     clear hb
     have hA:(l.ts[i].lv.take (i1+1)).all (oE l row i l.rs[j0] l.ts[i])=(jB (m4 l row l.ts[i] l.ts[i].lv[i1]) i&&(B&&l.rs[j0].lv.contains l.ts[i].lv[i1])):=by rw[<-hB,xT aE,oE,<-Bool.and_assoc,Bool.and_comm]
     repeat refine sq ?_
     refine ay ?_
     repeat refine sq ?_
     refine aC ?_
     repeat refine sq ?_
     refine dx hΓ hP [[],[0],[0,1],[0,1,2],[0,1],u5,u6,u7,[0,1],[0,1,8],[0,1],[0,1,8,9,10],[0,1,8,9,10,11],fJ,eE,lx] [1,2,5,6,7,8,9,10] [[2,0],[7,0],[15,0]] (by kernel_rfl) (fun K' hK=>by simp only[go_sem,ae aa,ah,aj,an,gl,ae cq,dn,ae aE,ah,aj,bc,ae cq,Eo];exact eQ) ?_
     repeat refine sq ?_
     refine rx hΓ [1,2,5,6,7,8,9,10,11] [[2,0],[7,0],[15,0]] (fun K' hK=>by simp only[go_sem,ae aa,ah,aj,an,gl,ae cq,dn,ae aE,ah,aj,bc];exact ak) ?_
     repeat refine sq ?_
     refine aC ?_
     repeat refine sq ?_
     refine bA (fun s:Nat=>[(11,⟨true,.v (vInt s)⟩),(9,⟨true,.v (.bool (jB (m4 l row l.ts[i] l.ts[i].lv[i1]) s&&(B&&l.rs[j0].lv.contains l.ts[i].lv[i1])))⟩)]) (fun s=>[]) (fun s=>s<=i) (fun s=>i-s) 0 ?_ ?_ ?_ ?_
     ·exact Nat.zero_le _
     ·rfl
     ·rfl
     rintro j hi
     generalize hC:(jB (m4 l row l.ts[i] l.ts[i].lv[i1]) j&&(B&&l.rs[j0].lv.contains l.ts[i].lv[i1]))=C
     simp only[go_sem]
     repeat refine sq ?_
     refine rx hΓ [1,2,5,6,7,8,9,10,11,81] [[2,0],[7,0],[15,0]] (fun K' hK=>by simp only[go_sem,ae aa,ah,aj,an,gl,ae cq,dn,ae aE,ah,aj,bc];exact ak) ?_
     repeat refine sq ?_
     refine au (fun hb=>?_) fun hb=>?_
     ·have cC:j<i:=by simpa using hb
      have gF:(j:Int)<i:=by omega
      clear hb
      have pP:j<l.ts.length:=by omega
      have Mb:j<row.length:=by omega
      have va:(j:Int)<l.ts.length:=by omega
      have hT:(jB (m4 l row l.ts[i] l.ts[i].lv[i1]) (j+1)&&(B&&l.rs[j0].lv.contains l.ts[i].lv[i1]))=(C&&!((row.getD j false&&l.ts[j].re==l.ts[i].re)&&l.ts[j].lv.contains l.ts[i].lv[i1])):=by
       rw[<-hC,abb,m4,kG pP,Bool.and_right_comm]
      repeat refine sq ?_
      refine ay ?_
      repeat refine sq ?_
      refine aC ?_
      repeat refine sq ?_
      refine mK hΓ hP [[],[0],[0,1],[0,1],u4,u5,u6,u7,u8,u7,bI,cz,dS,u7,[0,1,2,3,4,5,6,13],lx,u16,iG,gO,l7,gO,jG,rP,qp,gO,[0,1,2,3,4,5,6,7,8,9,10,11,12,13,14,15,16,17,24],gO,[0,1,2,3,4,5,6,7,8,9,10,11,12,13,14,15,16,17,24,25,26],[0,1,2,3,4,5,6,7,8,9,10,11,12,13,14,15,16,17,24,25,26,27],tT,ym,BA,u32,yl] (by kernel_rfl) fun K' hK=>?_
      simp only[go_sem,ae aa,ah,aj,an,gl,ae cq,dn,ae aE,ah,aj,bc,ae aa,ae aE,ae cq,Eo,oD Mb,ae pP,va,bc,an,ah,aj,List.length_map,Bool.decide_and,Bool.decide_eq_true]
      repeat (refine⟨ao,?_⟩)
      first | refine⟨by rfl,?_⟩ | skip
      refine hK _ ?_
      clear K' hK
      simp only[go_sem]
      refine kp [1,2,5,6,7,8,9,10,11] [[2,0],[7,0],[15,0]] ?_
      repeat refine sq ?_
      refine aI hΓ fun K' hK=>?_
      simp only[go_sem,ae aa,ah,aj,an,gl,ae cq,dn,ae aE,ah,aj,bc,ae aa,ae aE,ae cq,Eo,oD Mb,ae pP,va,bc,an,ah,aj,List.length_map]
      repeat (refine⟨ao,?_⟩)
      refine hK _ ?_
      clear K' hK
      simp only[go_sem]
      refine⟨j+1,cC,by(show i-(j+1)<i-j;omega),?_⟩
      refine aT [1,2,5,6,7,8,9,10,11] [[2,0],[7,0],[15,0]] ?_ ?_<;>simp only[go_sem,aO cC (by omega),aQ,hT]
     ·have nI:j=i:=by
       have :¬ (j:Int)<i:=by simpa using hb
       omega
      clear hb
      rw[nI]at hC
      repeat refine sq ?_
      refine be ?_
      simp only[go_sem]
      refine kp [1,2,5,6,7,8,9,10] [[2,0],[7,0],[15,0]] ?_
      repeat refine sq ?_
      refine aI hΓ fun K' hK=>?_
      simp only[go_sem,ae aa,ah,aj,an,gl,ae cq,dn,ae aE,ah,aj,bc]
      repeat (refine⟨ao,?_⟩)
      refine hK _ ?_
      clear K' hK
      simp only[go_sem]
      refine⟨i1+1,aE,by(show l.ts[i].lv.length-(i1+1)<l.ts[i].lv.length-i1;omega),?_⟩
      refine aT [1,2,5,6,7,8,9,10] [[2,0],[7,0],[15,0]] ?_ ?_<;>simp only[go_sem,aO aE pE,aQ,hA,hC]
    ·have fc:i1=l.ts[i].lv.length:=by
      have :¬ (i1:Int)<l.ts[i].lv.length:=by simpa using hb
      omega
     clear hb
     subst fc
     repeat refine sq ?_
     refine be ?_
     simp only[go_sem]
     refine kp [1,2,5,6,9] [[2,0],[15,0]] ?_
     have e0:bN l k (i+1)=row.set i B:=by
      rw[<-GV l k aa,DG,XC,<-hB,List.take_length]
     repeat refine sq ?_
     refine aI hΓ fun K' hK=>?_
     simp only[go_sem,ae aa,ah,aj,an,gl,ae cq,dn,QA]
     repeat (refine⟨ao,?_⟩)
     refine hK _ ?_
     clear K' hK
     simp only[go_sem]
     refine kp [1,2,5,6] [[2,0],[15,0]] ?_
     repeat refine sq ?_
     refine aI hΓ fun K' hK=>?_
     simp only[go_sem,ae aa,ah,aj,an,gl,ae cq,dn]
     repeat (refine⟨ao,?_⟩)
     refine hK _ ?_
     clear K' hK
     simp only[go_sem]
     refine⟨i+1,aa,by(show l.ts.length-(i+1)<l.ts.length-i;omega),?_⟩
     refine aT [1,2,5,6] [[2,0],[15,0]] ?_ ?_<;>simp only[go_sem,aO aa fP,aQ,e0]
 ·have aV:i=l.ts.length:=by
   have :¬ (i:Int)<l.ts.length:=by simpa using hb
   omega
  clear hb
  subst aV
  repeat refine sq ?_
  refine be ?_
  simp only[go_sem]
  refine kp [5] [[15,0]] ?_
  repeat refine sq ?_
  refine rx hΓ [4] [[15,0]] (fun K' hK=>by simp only[go_sem];exact ak) ?_
  refine aq ?_
  simp only[go_sem]
  rw[m5]
end
noncomputable section
structure RV where
 l:Led
 k:Int
 ts:List Bool
 ds:List Rg
 deriving Inhabited
def vm(x:RV):V:=.agg [.sl (x.l.ps.map fA),.sl (x.l.rs.map encR),.sl (x.l.ts.map encT),.sl (x.l.ss.map encS),vInt x.k,.sl (x.ts.map .bool),.sl (x.ds.map encRg)]
def Nu:V->RV
 | .agg [.sl a,.sl b,.sl c,.sl d,.int _ k,.sl t,.sl g]=>⟨⟨a.map te,b.map i4,c.map jW,d.map kx⟩,k,t.map Az,g.map vu⟩
 |_=>default
theorem ZV(r:Rg):vu (encRg r)=r:=rfl
@[go_sem] theorem agD(l:List Rg):(l.map encRg).map vu=l:=uM ZV l
def e7:En RV:=⟨vm,Nu⟩
attribute [go_sem] vm Nu e7 encRg vu
@[go_sem] theorem agy(x:RV):(⟨x.l,x.k,x.ts,x.ds⟩:RV)=x:=rfl
def j'(x:RV)(so f:Int)(j:Nat):Bool:=(x.ts.getD j false&&(aK x.l j).re==so)&&(aK x.l j).lv.contains f
def c5(x:RV)(i:Nat)(f:Int):Int:=if (List.range x.ts.length).any (j' x (aA x.l i).so f)=true then((List.range x.ts.length).findIdx (j' x (aA x.l i).so f):Int)else -1
theorem HO{x:RV}{i:Nat}{f:Int}{j:Nat}(h:j<x.ts.length)(hp:j' x (aA x.l i).so f j=true)(hn:∀ m,m<x.ts.length->m<j->j' x (aA x.l i).so f m=false):c5 x i f=j:=by
 have :=lM (p:=j' x (aA x.l i).so f) (l:=List.range x.ts.length) (i:=j) (by simpa using h) (by simpa using hp) (fun m hm mw=>by simpa using hn m (by simpa using hm) mw)
 exact this
theorem HN{x:RV}{i:Nat}{f:Int}(hn:∀ m,m<x.ts.length->m<x.ts.length->j' x (aA x.l i).so f m=false):c5 x i f= -1:=by
 unfold c5
 rw[if_neg]
 intro h
 obtain⟨m,hm,hp⟩:=List.any_eq_true.1 h
 have kU:m<x.ts.length:=by simpa using hm
 rw[hn m kU kU]at hp
 exact absurd hp (by decide)
def K41:List (Nat×Spec):=[(15,vG)]
theorem acM:KS K41:=tc yE.sound<|tn
attribute [go_sem] K41
@[go_sem] def P103:PSpec:=p3 e7 iI iI (fun x a _=>(bp x.l/\x.ts.length=x.l.ts.length)/\0<=a/\a<x.l.rs.length) (fun x a f=>vInt (c5 x a.toNat f)) true
@[go_sem] def x9:Spec:=P103.toSpec
set_option maxHeartbeats 8000000 in
theorem yF:aL Tryz.prog 103 P103:=by
 refine gL (rs:=[.tmp 6]) Tryz.func103 Tryz.ntmps103 fun x a f hp hw=>?_
 have hP:=c8
 simp only[iI,e7]at hw |-
 have hΓ:=acM
 obtain⟨⟨ab,fE⟩,z8,ku⟩:=hp
 have ml:=ab.tsn
 have hl:x.ts.length<=maxLen:=by unfold maxLen;omega
 obtain⟨n,rfl⟩:∃ n:Nat,a=n:=⟨a.toNat,by omega⟩
 have hn:n<x.l.rs.length:=by omega
 rw[ah]
 repeat refine sq ?_
 refine rx hΓ [1,2,3] [[3,0]] (fun K' hK=>by simp only[go_sem];exact ak) ?_
 repeat refine sq ?_
 refine rx hΓ [1,2,3,7] [[3,0]] (fun K' hK=>by simp only[go_sem];exact ak) ?_
 repeat refine sq ?_
 refine aC ?_
 repeat refine sq ?_
 refine bA (fun s:Nat=>[(7,⟨true,.v (vInt s)⟩)]) (fun s=>[]) (fun s=>s<=x.ts.length/\∀ m,m<x.ts.length->m<s->j' x (aA x.l n).so f m=false) (fun s=>x.ts.length-s) 0 ?_ ?_ ?_ ?_
 ·exact⟨Nat.zero_le _,fun m _ h=>by omega⟩
 ·rfl
 ·rfl
 rintro i ⟨hi,hR⟩
 simp only[go_sem]
 repeat refine sq ?_
 refine rx hΓ [1,2,3,7,12] [[3,0]] (fun K' hK=>by simp only[go_sem];exact ak) ?_
 repeat refine sq ?_
 refine au (fun hb=>?_) fun hb=>?_
 ·have aa:i<x.ts.length:=by simpa using hb
  have an:(i:Int)<x.ts.length:=by omega
  clear hb
  have oI:i<x.l.ts.length:=by omega
  have Ea:(i:Int)<x.l.ts.length:=by omega
  have sJ:(n:Int)<x.l.rs.length:=by omega
  repeat refine sq ?_
  refine ay ?_
  repeat refine sq ?_
  refine aC ?_
  repeat refine sq ?_
  refine dx hΓ hP [[],[0],[],[0,1,2],u4,u5,u6,u7,u8,u6,bI,cz,dS,u6,[0,1,2,3,4,5,13],[0,1,2,3,4,5,13,14],u6,[0,1,2,3,4,5,13,14,15,16],[0,1,2,3,4,5,13,14,15,16,17],[0,1,2,3,4,5,13,14,15,16,17,18],gN,jG,rP,qp,vQ,qo,qp,qn,yn,tT,qp,BA,u32] [1,2,3,7,47] [[3,0]] (by kernel_rfl) (fun K' hK=>by simp only[go_sem,oD aa,ae hn,ae oI,sJ,Ea,ah,aj,an,List.length_map];exact eQ) ?_
  repeat refine sq ?_
  refine au (fun hb=>?_) fun hb=>?_
  ·repeat refine sq ?_
   have e:c5 x n f=i:=HO aa (by unfold j';rw[kG oI,eh hn];simpa using hb) hR
   repeat refine sq ?_
   refine rx hΓ [6] [] (fun K' hK=>by simp only[go_sem,oD aa,ae hn,ae oI,sJ,Ea,ah,aj,an,List.length_map];exact ak) ?_
   refine aq ?_
   simp only[go_sem]
   rw[e]
  ·repeat refine sq ?_
   refine ay ?_
   refine br ?_
   simp only[go_sem]
   refine kp [1,2,3,7] [[3,0]] ?_
   repeat refine sq ?_
   refine aI hΓ fun K' hK=>?_
   simp only[go_sem,oD aa,ae hn,ae oI,sJ,Ea,ah,aj,an,List.length_map]
   repeat (refine⟨ao,?_⟩)
   refine hK _ ?_
   clear K' hK
   simp only[go_sem]
   refine⟨i+1,⟨aa,?_⟩,by(show x.ts.length-(i+1)<x.ts.length-i;omega),?_⟩
   ·intro m hm w9
    rcases Nat.lt_succ_iff_lt_or_eq.1 w9 with h5 | rfl
    ·exact hR m hm h5
    ·unfold j';rw[kG oI,eh hn];simpa using hb
   refine aT [1,2,3,7] [[3,0]] ?_ ?_<;>simp only[go_sem,aO aa hl,aQ]
 ·have aV:i=x.ts.length:=by
   have :¬ (i:Int)<x.ts.length:=by simpa using hb
   omega
  clear hb
  subst aV
  repeat refine sq ?_
  refine be ?_
  simp only[go_sem]
  refine kp [] [] ?_
  repeat refine sq ?_
  refine rx hΓ [6] [] (fun K' hK=>by simp only[go_sem];exact ak) ?_
  refine aq ?_
  simp only[go_sem]
  rw[HN hR]
end
set_option maxHeartbeats 8000000
noncomputable section
def dr(k:Int)(f:Fol)(r:Rec):Bool:=(cG r.kn r.un k&&r.pa==f.pa)&&r.lv.contains f.le
def K42:List (Nat×Spec):=[(157,Bh),(15,vG)]
theorem acL:KS K42:=tc yD.sound<|tc yE.sound<|tn
attribute [go_sem] K42
@[go_sem] def P188:PSpec:=p3 e7 iI iQ (fun x a _=>0<=a/\a<x.l.rs.length) (fun x a f=>.bool (dr x.k f (aA x.l a.toNat))) true
@[go_sem] def Ge:Spec:=P188.toSpec
theorem BX:aL Tryz.prog 188 P188:=by
 refine gL (rs:=[.tmp 6]) Tryz.func188 Tryz.ntmps188 fun x a f hp hw=>?_
 simp only[iQ,iI,e7,ea]at hw |-
 have hΓ:=acL
 obtain⟨z8,ku⟩:=hp
 obtain⟨n,rfl⟩:∃ n:Nat,a=n:=⟨a.toNat,by omega⟩
 have hn:n<x.l.rs.length:=by omega
 rw[ah,eh hn]
 repeat refine sq ?_
 refine rx hΓ [1,3,5] [[3,0],[5,0]] (fun K' hK=>by simp only[go_sem];exact ak) ?_
 repeat refine sq ?_
 refine rx hΓ [3,5,7] [[3,0],[5,0],[7,0]] (fun K' hK=>by simp only[go_sem,ae hn,ah,aj,ku,List.length_map];exact ak) ?_
 repeat refine sq ?_
 refine rx hΓ [6] [] (fun K' hK=>by simp only[go_sem,Bool.decide_and,Bool.decide_eq_true];exact ak) ?_
 refine aq ?_
 simp only[go_sem]
 rfl
def fh(x:RV)(f:Fol)(day:Int):Nat->Int
 | 0=> -1
 |s+1=>if ((dr x.k f (aA x.l s)&&decide ((aA x.l s).da<=day))&&(decide (fh x f day s<0)||decide ((aA x.l s).da>(aA x.l (fh x f day s).toNat).da)))=true then(s:Int)else fh x f day s
theorem Jy(x:RV)(f:Fol)(day:Int)(s:Nat):fh x f day s= -1\/∃ j,j<s/\fh x f day s=(j:Int):=by
 induction s with
 |zero=>exact .inl rfl
 |succ s ih=>
  unfold fh
  split
  ·exact .inr ⟨s,by omega,rfl⟩
  ·rcases ih with h | ⟨j,hj,h⟩
   ·exact .inl h
   ·exact .inr ⟨j,by omega,h⟩
def cO(x:RV)(f:Fol)(day:Int):Int:=fh x f day x.l.rs.length
def K42b:List (Nat×Spec):=[(188,Ge)]
theorem acK:KS K42b:=tc BX.sound<|tn
attribute [go_sem] K42b
@[go_sem] def P159:PSpec:=p3 e7 iQ iI (fun x _ _=>bp x.l) (fun x f day=>vInt (cO x f day)) true
@[go_sem] def Gf:Spec:=P159.toSpec
theorem BZ:aL Tryz.prog 159 P159:=by
 refine gL (rs:=[.tmp 6]) Tryz.func159 Tryz.ntmps159 fun x f day hp hw=>?_
 simp only[iQ,iI,e7,ea]at hw |-
 have hΓ:=acK
 have gm:=hp.rsn
 have hl:x.l.rs.length<=maxLen:=by unfold maxLen;omega
 repeat refine sq ?_
 refine rx hΓ [2,3,4] [[3,0],[4,0]] (fun K' hK=>by simp only[go_sem];exact ak) ?_
 repeat refine sq ?_
 refine rx hΓ [2,3,4,7] [[3,0],[4,0]] (fun K' hK=>by simp only[go_sem];exact ak) ?_
 repeat refine sq ?_
 refine rx hΓ [2,3,4,7,8] [[3,0],[4,0]] (fun K' hK=>by simp only[go_sem];exact ak) ?_
 repeat refine sq ?_
 refine aC ?_
 repeat refine sq ?_
 refine bA (fun s:Nat=>[(8,⟨true,.v (vInt s)⟩),(7,⟨true,.v (vInt (fh x f day s))⟩)]) (fun s=>[]) (fun s=>s<=x.l.rs.length) (fun s=>x.l.rs.length-s) 0 ?_ ?_ ?_ ?_
 ·exact Nat.zero_le _
 ·rfl
 ·rfl
 rintro i hi
 generalize hL:fh x f day i=L
 simp only[go_sem]
 repeat refine sq ?_
 refine rx hΓ [2,3,4,7,8,15] [[3,0],[4,0]] (fun K' hK=>by simp only[go_sem];exact ak) ?_
 repeat refine sq ?_
 refine au (fun hb=>?_) fun hb=>?_
 ·have aa:i<x.l.rs.length:=by simpa using hb
  have an:(i:Int)<x.l.rs.length:=by omega
  clear hb
  have hc:=Jy x f day i
  rw[hL]at hc
  have ix:=eh aa
  have lR:cI (-1) 0=0:=rfl
  have Aa:0<x.l.rs.length:=by omega
  have z':(0:Int)<x.l.rs.length:=by omega
  repeat refine sq ?_
  refine ay ?_
  repeat refine sq ?_
  refine aC ?_
  repeat refine sq ?_
  refine rx hΓ [2,3,4,7,8,9] [[3,0],[4,0]] (fun K' hK=>by simp only[go_sem,ae aa,ah,aj,an];exact ak) ?_
  rcases hc with hc | ⟨j,hj,hc⟩
  ·subst hc
   repeat refine sq ?_
   refine rx hΓ [2,3,4,7,8,49] [[3,0],[4,0]] (fun K' hK=>by simp only[go_sem,ae aa,ah,aj,an,lR,ae Aa,z',ah,pr,ix,Bool.decide_and,Bool.decide_eq_true];exact ak) ?_
   repeat refine sq ?_
   refine au (fun hb=>?_) fun hb=>?_
   ·repeat refine sq ?_
    have eL:fh x f day (i+1)=(i:Int):=by
     rw[fh,hL,ix,if_pos (by simpa using hb)]
    repeat refine sq ?_
    refine aI hΓ fun K' hK=>?_
    simp only[go_sem,ae aa,ah,aj,an,lR,ae Aa,z',ah,pr,ix]
    repeat (refine⟨ao,?_⟩)
    refine hK _ ?_
    clear K' hK
    simp only[go_sem]
    refine kp [2,3,4,7,8] [[3,0],[4,0]] ?_
    repeat refine sq ?_
    refine aI hΓ fun K' hK=>?_
    simp only[go_sem,ae aa,ah,aj,an,lR,ae Aa,z',ah,pr,ix]
    repeat (refine⟨ao,?_⟩)
    refine hK _ ?_
    clear K' hK
    simp only[go_sem]
    refine⟨i+1,aa,by(show x.l.rs.length-(i+1)<x.l.rs.length-i;omega),?_⟩
    refine aT [2,3,4,7,8] [[3,0],[4,0]] ?_ ?_<;>simp only[go_sem,aO aa hl,aQ,eL]
   ·repeat refine sq ?_
    have eL:fh x f day (i+1)= -1:=by
     rw[fh,hL,ix,if_neg (by simpa using hb)]
    refine ay ?_
    refine br ?_
    simp only[go_sem]
    refine kp [2,3,4,7,8] [[3,0],[4,0]] ?_
    repeat refine sq ?_
    refine aI hΓ fun K' hK=>?_
    simp only[go_sem,ae aa,ah,aj,an,lR,ae Aa,z',ah,pr,ix]
    repeat (refine⟨ao,?_⟩)
    refine hK _ ?_
    clear K' hK
    simp only[go_sem]
    refine⟨i+1,aa,by(show x.l.rs.length-(i+1)<x.l.rs.length-i;omega),?_⟩
    refine aT [2,3,4,7,8] [[3,0],[4,0]] ?_ ?_<;>simp only[go_sem,aO aa hl,aQ,eL]
  ·subst hc
   have dn:decide ((j:Int)<0)=false:=by simp
   have mw:(if (0:Int)>(j:Int)then(0:Int)else(j:Int))=j:=if_neg (by omega)
   have fF:j<x.l.rs.length:=by omega
   have zQ:(j:Int)<x.l.rs.length:=by omega
   repeat refine sq ?_
   refine rx hΓ [2,3,4,7,8,49] [[3,0],[4,0]] (fun K' hK=>by simp only[go_sem,ae aa,ah,aj,an,mw,dn,ae fF,zQ,ix,Bool.decide_and,Bool.decide_eq_true];exact ak) ?_
   repeat refine sq ?_
   refine au (fun hb=>?_) fun hb=>?_
   ·repeat refine sq ?_
    have eL:fh x f day (i+1)=(i:Int):=by
     rw[fh,hL,ix,ah,eh fF,dn,Bool.false_or,if_pos (by simpa using hb)]
    repeat refine sq ?_
    refine aI hΓ fun K' hK=>?_
    simp only[go_sem,ae aa,ah,aj,an,mw,dn,ae fF,zQ,ix]
    repeat (refine⟨ao,?_⟩)
    refine hK _ ?_
    clear K' hK
    simp only[go_sem]
    refine kp [2,3,4,7,8] [[3,0],[4,0]] ?_
    repeat refine sq ?_
    refine aI hΓ fun K' hK=>?_
    simp only[go_sem,ae aa,ah,aj,an,mw,dn,ae fF,zQ,ix]
    repeat (refine⟨ao,?_⟩)
    refine hK _ ?_
    clear K' hK
    simp only[go_sem]
    refine⟨i+1,aa,by(show x.l.rs.length-(i+1)<x.l.rs.length-i;omega),?_⟩
    refine aT [2,3,4,7,8] [[3,0],[4,0]] ?_ ?_<;>simp only[go_sem,aO aa hl,aQ,eL]
   ·repeat refine sq ?_
    have eL:fh x f day (i+1)=(j:Int):=by
     rw[fh,hL,ix,ah,eh fF,dn,Bool.false_or,if_neg (by simpa using hb)]
    refine ay ?_
    refine br ?_
    simp only[go_sem]
    refine kp [2,3,4,7,8] [[3,0],[4,0]] ?_
    repeat refine sq ?_
    refine aI hΓ fun K' hK=>?_
    simp only[go_sem,ae aa,ah,aj,an,mw,dn,ae fF,zQ,ix]
    repeat (refine⟨ao,?_⟩)
    refine hK _ ?_
    clear K' hK
    simp only[go_sem]
    refine⟨i+1,aa,by(show x.l.rs.length-(i+1)<x.l.rs.length-i;omega),?_⟩
    refine aT [2,3,4,7,8] [[3,0],[4,0]] ?_ ?_<;>simp only[go_sem,aO aa hl,aQ,eL]
 ·have aV:i=x.l.rs.length:=by
   have :¬ (i:Int)<x.l.rs.length:=by simpa using hb
   omega
  clear hb
  subst aV
  repeat refine sq ?_
  refine be ?_
  simp only[go_sem]
  refine kp [7] [] ?_
  repeat refine sq ?_
  refine rx hΓ [6] [] (fun K' hK=>by simp only[go_sem];exact ak) ?_
  refine aq ?_
  simp only[go_sem]
  rw[<-hL];rfl
def gy(l:Led)(i:Nat):Sig:=l.ss.getD i default
def iK(x:RV):Nat->List Int
 | 0=>[]
 |s+1=>if cG (gy x.l s).kn (gy x.l s).un x.k=true then iK x s++[(s:Int)]else iK x s
theorem vV{l:Led}{i:Nat}(h:i<l.ss.length):gy l i=l.ss[i]:=by unfold gy;rw[List.getD_eq_getElem?_getD,List.getElem?_eq_getElem h];rfl
theorem Hb(x:RV)(s:Nat):(iK x s).length<=s:=by
 induction s with
 |zero=>exact Nat.le_refl _
 |succ s ih=>
  unfold iK
  split
  ·simp only[List.length_append,List.length_cons,List.length_nil];omega
  ·omega
def K42c:List (Nat×Spec):=[(157,Bh)]
theorem acJ:KS K42c:=tc yD.sound<|tn
attribute [go_sem] K42c
@[go_sem] def P135:PSpec:=p1 e7 (fun x=>bp x.l) (fun x=>.sl ((iK x x.l.ss.length).map vInt)) false
@[go_sem] def abQ:Spec:=P135.toSpec
theorem R7:aL Tryz.prog 135 P135:=by
 refine dR (rs:=[.tmp 2]) Tryz.func135 Tryz.ntmps135 fun x hp hw=>?_
 have hP:=c8
 simp only[e7]at hw |-
 have hΓ:=acJ
 have wV:=hp.ssn
 have hl:x.l.ss.length<=maxLen:=by unfold maxLen;omega
 repeat refine sq ?_
 refine rx hΓ [1] [[1,0]] (fun K' hK=>by simp only[go_sem];exact ak) ?_
 repeat refine sq ?_
 refine rx hΓ [1,3] [[1,0],[33,0]] (fun K' hK=>by simp only[go_sem];exact ak) ?_
 refine bH (ql 3 [33,0] 1 (by simp only[go_sem]) (by simp only[go_sem]) [1,3] [[1,0],[33,0]] ?_ rfl) ?_
 ·simp only[go_sem]
 simp only[go_sem]
 repeat refine sq ?_
 refine rx hΓ [1,3,4] [[1,0],[33,0]] (fun K' hK=>by simp only[go_sem];exact ak) ?_
 repeat refine sq ?_
 refine aC ?_
 repeat refine sq ?_
 refine bA (fun s:Nat=>[(4,⟨true,.v (vInt s)⟩),(3,⟨true,.msl [33,0] (iK x s).length⟩)]) (fun s=>[([33,0],.arr 1 ((iK x s).map vInt))]) (fun s=>s<=x.l.ss.length) (fun s=>x.l.ss.length-s) 0 ?_ ?_ ?_ ?_
 ·exact Nat.zero_le _
 ·rfl
 ·rfl
 rintro i hi
 simp only[go_sem]
 repeat refine sq ?_
 refine rx hΓ [1,3,4,10] [[1,0],[33,0]] (fun K' hK=>by simp only[go_sem];exact ak) ?_
 repeat refine sq ?_
 refine au (fun hb=>?_) fun hb=>?_
 ·have aa:i<x.l.ss.length:=by simpa using hb
  have an:(i:Int)<x.l.ss.length:=by omega
  clear hb
  have iU:=Hb x i
  repeat refine sq ?_
  refine ay ?_
  repeat refine sq ?_
  refine aC ?_
  repeat refine sq ?_
  refine dx hΓ hP [[],[0],[0,1],[],u4,u5,u6,[],[7],[7,8],[],[7,8,9,10],[7,8,9,10,11],[7,8,9,10,11,12],[],[14],u16] [1,3,4,29] [[1,0],[33,0]] (by kernel_rfl) (fun K' hK=>by simp only[go_sem,ae aa,ah,aj,an];exact eQ) ?_
  repeat refine sq ?_
  refine au (fun hb=>?_) fun hb=>?_
  ·repeat refine sq ?_
   have eS:iK x (i+1)=iK x i++[(i:Int)]:=by rw[iK,vV aa,if_pos (by simpa using hb)]
   repeat refine sq ?_
   refine aI hΓ fun K' hK=>?_
   simp only[go_sem,ae aa,ah,aj,an]
   repeat (refine⟨ao,?_⟩)
   refine hK _ ?_
   clear K' hK
   simp only[go_sem]
   refine kp [1,3,4] [[1,0],[33,0]] ?_
   repeat refine sq ?_
   refine aI hΓ fun K' hK=>?_
   simp only[go_sem,ae aa,ah,aj,an]
   repeat (refine⟨ao,?_⟩)
   refine hK _ ?_
   clear K' hK
   simp only[go_sem]
   refine⟨i+1,aa,by(show x.l.ss.length-(i+1)<x.l.ss.length-i;omega),?_⟩
   refine aT [1,3,4] [[1,0],[33,0]] ?_ ?_<;>simp only[go_sem,aO aa hl,aQ,eS,List.map_append,List.length_append,List.map_cons,List.map_nil,List.length_cons,List.length_nil]
  ·repeat refine sq ?_
   have eS:iK x (i+1)=iK x i:=by rw[iK,vV aa,if_neg (by simpa using hb)]
   refine ay ?_
   refine br ?_
   simp only[go_sem]
   refine kp [1,3,4] [[1,0],[33,0]] ?_
   repeat refine sq ?_
   refine aI hΓ fun K' hK=>?_
   simp only[go_sem,ae aa,ah,aj,an]
   repeat (refine⟨ao,?_⟩)
   refine hK _ ?_
   clear K' hK
   simp only[go_sem]
   refine⟨i+1,aa,by(show x.l.ss.length-(i+1)<x.l.ss.length-i;omega),?_⟩
   refine aT [1,3,4] [[1,0],[33,0]] ?_ ?_<;>simp only[go_sem,aO aa hl,aQ,eS,List.map_append,List.length_append,List.map_cons,List.map_nil,List.length_cons,List.length_nil]
 ·have aV:i=x.l.ss.length:=by
   have :¬ (i:Int)<x.l.ss.length:=by simpa using hb
   omega
  clear hb
  subst aV
  repeat refine sq ?_
  refine be ?_
  simp only[go_sem]
  refine kp [3] [[33,0]] ?_
  repeat refine sq ?_
  refine rx hΓ [2] [[33,0]] (fun K' hK=>by simp only[go_sem];exact ak) ?_
  refine aq ?_
  simp only[go_sem]
  all_goals exact cD
end
noncomputable section
def se(x:RV)(r:Rec)(lv:List Int)(i:Nat)(j:Nat):Bool:=decide ((aA x.l i).da>r.da)&&dr x.k ⟨r.pa,lv.getD j 0⟩ (aA x.l i)
def n7(x:RV)(r:Rec)(lv:List Int)(i:Nat)(hi:Int):Nat->Int
 | 0=>hi
 |j+1=>if se x r lv i j=true then dY (n7 x r lv i hi j) (aA x.l i).da else n7 x r lv i hi j
def n3(x:RV)(r:Rec)(t:Ret):Nat->Int
 | 0=>t.hi
 |i+1=>n7 x r t.lv i (n3 x r t i) t.lv.length
def lX(x:RV)(i:Nat):Rg:=if x.ts.getD i false=true then⟨lk (aK x.l i) (aA x.l (dw x.l (aK x.l i).re x.k).toNat),n3 x (aA x.l (dw x.l (aK x.l i).re x.k).toNat) (aK x.l i) x.l.rs.length⟩else⟨0,100000⟩
def od(x:RV):Prop:=bp x.l/\x.ts.length=x.l.ts.length/\∀ i,x.ts.getD i false=true->¬ dw x.l (aK x.l i).re x.k<0
theorem jN(a b:Int):dY a b=if b<a then b else a:=rfl
def K43:List (Nat×Spec):=[(70,Ga),(158,Gg),(188,Ge)]
theorem acI:KS K43:=tc Hq.sound<|tc B0.sound<|tc BX.sound<|tn
attribute [go_sem] K43
@[go_sem] def P195:PSpec:=p2 e7 iI (fun x i=>od x/\0<=i/\i<x.l.ts.length) (fun x i=>encRg (lX x i.toNat)) false
@[go_sem] def abw:Spec:=P195.toSpec
set_option maxHeartbeats 8000000 in
theorem RC:aL Tryz.prog 195 P195:=by
 refine cK (rs:=[.cell 4 38]) Tryz.func195 Tryz.ntmps195 fun x a hp hw=>?_
 have hP:=c8
 simp only[iI,e7]at hw |-
 have hΓ:=acI
 obtain⟨⟨ab,fE,XG⟩,z8,ku⟩:=hp
 have gm:=ab.rsn
 have ml:=ab.tsn
 have hl:x.l.rs.length<=maxLen:=by unfold maxLen;omega
 obtain⟨n,rfl⟩:∃ n:Nat,a=n:=⟨a.toNat,by omega⟩
 have hn:n<x.l.ts.length:=by omega
 have cB:n<x.ts.length:=by omega
 have XT:(n:Int)<x.ts.length:=by omega
 rw[ah]
 repeat refine sq ?_
 refine rx hΓ [1,2,4] [[2,0],[4,0]] (fun K' hK=>by simp only[go_sem];exact ak) ?_
 repeat refine sq ?_
 refine rx hΓ [1,2,4,15] [[2,0],[4,0]] (fun K' hK=>by simp only[go_sem,oD cB,ah,aj,XT,List.length_map];exact ak) ?_
 repeat refine sq ?_
 refine au (fun hb=>?_) fun hb=>?_
 ·repeat refine sq ?_
  have e:lX x n=⟨0,100000⟩:=by unfold lX;rw[if_neg (by simpa using hb)]
  repeat refine sq ?_
  refine rx hΓ [4] [[4,0]] (fun K' hK=>by simp only[go_sem];exact ak) ?_
  refine aq ?_
  simp only[go_sem]
  rw[e]
 ·repeat refine sq ?_
  have qQ:x.ts.getD n false=true:=by simpa using hb
  obtain⟨q,hq,gl,-⟩:=(v8 x.l x.l.ts[n].re x.k).resolve_left (fun h=>XG n qQ (by rw[kG hn,h];decide))
  have bZ:(q:Int)<x.l.rs.length:=by omega
  have xk:=r8 ab (List.getElem_mem hq)
  have e:lX x n=⟨lk x.l.ts[n] x.l.rs[q],n3 x x.l.rs[q] x.l.ts[n] x.l.rs.length⟩:=by
   unfold lX;rw[if_pos qQ,kG hn,gl,ah,eh hq]
  have uV:=IM ab hn
  have pE:x.l.ts[n].lv.length<=maxLen:=by unfold maxLen;omega
  refine ay ?_
  repeat refine sq ?_
  refine rx hΓ [2,4,5] [[2,0],[4,0],[5,0]] (fun K' hK=>by simp only[go_sem,ae hn,ah,aj,ku,List.length_map];exact ak) ?_
  repeat refine sq ?_
  refine dx hΓ hP [[],[0],[0,1],[],[3],[],[5],[],[7],[3,4,5,6,7,8],bI,cz,[],fJ] [2,4,5,6] [[2,0],[4,0],[5,0],[6,0]] (by kernel_rfl) (fun K' hK=>by simp only[go_sem,gm,gl,ae hq,bZ,ah,aj,List.length_map];exact eQ) ?_
  repeat refine sq ?_
  refine dx hΓ hP [[],[],[0,1],[],[3],[3,4],u6,[],u8] [2,4,5,6,7] [[2,0],[4,0],[5,0],[6,0],[7,0]] (by kernel_rfl) (fun K' hK=>by simp only[go_sem];(repeat (refine⟨by first | exact ao | exact xk,?_⟩));exact iw) ?_
  repeat refine sq ?_
  refine rx hΓ [2,4,5,6,7,8] [[2,0],[4,0],[5,0],[6,0],[7,0]] (fun K' hK=>by simp only[go_sem];exact ak) ?_
  repeat refine sq ?_
  refine aC ?_
  repeat refine sq ?_
  refine bA (fun s:Nat=>[(8,⟨true,.v (vInt s)⟩)]) (fun s=>[([7,0],.box [.v (vInt (lk x.l.ts[n] x.l.rs[q])),.v (vInt (n3 x x.l.rs[q] x.l.ts[n] s))])]) (fun s=>s<=x.l.rs.length) (fun s=>x.l.rs.length-s) 0 ?_ ?_ ?_ ?_
  ·exact Nat.zero_le _
  ·rfl
  ·rfl
  rintro i hi
  generalize hB:n3 x x.l.rs[q] x.l.ts[n] i=B
  simp only[go_sem]
  repeat refine sq ?_
  refine rx hΓ [2,4,5,6,7,8,47] [[2,0],[4,0],[5,0],[6,0],[7,0]] (fun K' hK=>by simp only[go_sem];exact ak) ?_
  repeat refine sq ?_
  refine au (fun hb=>?_) fun hb=>?_
  ·have aa:i<x.l.rs.length:=by simpa using hb
   have an:(i:Int)<x.l.rs.length:=by omega
   clear hb
   repeat refine sq ?_
   refine ay ?_
   repeat refine sq ?_
   refine aC ?_
   repeat refine sq ?_
   refine rx hΓ [2,4,5,6,7,8,9] [[2,0],[4,0],[5,0],[6,0],[7,0]] (fun K' hK=>by simp only[go_sem,ae aa,ah,aj,an];exact ak) ?_
   repeat refine sq ?_
   refine aC ?_
   repeat refine sq ?_
   refine bA (fun s:Nat=>[(9,⟨true,.v (vInt s)⟩)]) (fun s=>[([7,0],.box [.v (vInt (lk x.l.ts[n] x.l.rs[q])),.v (vInt (n7 x x.l.rs[q] x.l.ts[n].lv i B s))])]) (fun s=>s<=x.l.ts[n].lv.length) (fun s=>x.l.ts[n].lv.length-s) 0 ?_ ?_ ?_ ?_
   ·exact Nat.zero_le _
   ·rfl
   ·rfl
   rintro j hi
   generalize hC:n7 x x.l.rs[q] x.l.ts[n].lv i B j=C
   simp only[go_sem]
   repeat refine sq ?_
   refine rx hΓ [2,4,5,6,7,8,9,54] [[2,0],[4,0],[5,0],[6,0],[7,0]] (fun K' hK=>by simp only[go_sem,ae aa,ah,aj,an];exact ak) ?_
   repeat refine sq ?_
   refine au (fun hb=>?_) fun hb=>?_
   ·have aE:j<x.l.ts[n].lv.length:=by simpa using hb
    have bc:(j:Int)<x.l.ts[n].lv.length:=by omega
    clear hb
    have ix:=eh aa
    have vn:x.l.ts[n].lv.getD j 0=x.l.ts[n].lv[j]:=by rw[List.getD_eq_getElem?_getD,List.getElem?_eq_getElem aE];rfl
    repeat refine sq ?_
    refine ay ?_
    repeat refine sq ?_
    refine aC ?_
    repeat refine sq ?_
    refine dx hΓ hP [[],[0],[0,1],[],u4,u5,u6,[],[7],u9,bI,cz,cz,cz,[0,1,2,3,4,5,6,7,8,9,10,13],cz,[0,1,2,3,4,5,6,7,8,9,10,15],cz,[0,1,2,3,4,5,6,7,8,9,10,15,16,17],[0,1,2,3,4,5,6,7,8,9,10,15,16,17,18],[0,1,2,3,4,5,6,7,8,9,10,13,14,15,16,17,18,19],jG,rP] [2,4,5,6,7,8,9,79] [[2,0],[4,0],[5,0],[6,0],[7,0]] (by kernel_rfl) (fun K' hK=>by simp only[go_sem,ae aa,ah,aj,an,ae hn,ae aE,ae aa,ah,aj,bc,an,List.length_map,ix,vn,Bool.decide_and,Bool.decide_eq_true];(repeat (refine⟨by first | exact ao | exact⟨aj _,an⟩ | exact fun h=>⟨h,aj _,an⟩,?_⟩));exact iw) ?_
    repeat refine sq ?_
    refine au (fun hb=>?_) fun hb=>?_
    ·repeat refine sq ?_
     have eS:n7 x x.l.rs[q] x.l.ts[n].lv i B (j+1)=if x.l.rs[i].da<C then x.l.rs[i].da else C:=by
      rw[n7,hC,se,ix,vn,if_pos (by simpa using hb),jN]
     repeat refine sq ?_
     refine mK hΓ hP [[],[0],[],[2],[2,3],[],[2,3,4,5],[2,3,4,5,6],[2,3,4,5,6,7],u9,bI,cz] (by kernel_rfl) fun K' hK=>?_
     simp only[go_sem,ae aa,ah,aj,an,ae hn,ae aE,ae aa,ah,aj,bc,an,List.length_map,ix,vn]
     repeat (refine⟨ao,?_⟩)
     first | refine⟨by rfl,?_⟩ | skip
     refine hK _ ?_
     clear K' hK
     simp only[go_sem]
     refine kp [2,4,5,6,7,8,9] [[2,0],[4,0],[5,0],[6,0],[7,0]] ?_
     repeat refine sq ?_
     refine aI hΓ fun K' hK=>?_
     simp only[go_sem,ae aa,ah,aj,an,ae hn,ae aE,ae aa,ah,aj,bc,an,List.length_map,ix,vn]
     repeat (refine⟨ao,?_⟩)
     refine hK _ ?_
     clear K' hK
     simp only[go_sem]
     refine⟨j+1,aE,by(show x.l.ts[n].lv.length-(j+1)<x.l.ts[n].lv.length-j;omega),?_⟩
     refine aT [2,4,5,6,7,8,9] [[2,0],[4,0],[5,0],[6,0],[7,0]] ?_ ?_<;>simp only[go_sem,aO aE pE,aQ,eS]
    ·repeat refine sq ?_
     have eS:n7 x x.l.rs[q] x.l.ts[n].lv i B (j+1)=C:=by
      rw[n7,hC,se,ix,vn,if_neg (by simpa using hb)]
     refine ay ?_
     refine br ?_
     simp only[go_sem]
     refine kp [2,4,5,6,7,8,9] [[2,0],[4,0],[5,0],[6,0],[7,0]] ?_
     repeat refine sq ?_
     refine aI hΓ fun K' hK=>?_
     simp only[go_sem,ae aa,ah,aj,an,ae hn,ae aE,ae aa,ah,aj,bc,an,List.length_map,ix,vn]
     repeat (refine⟨ao,?_⟩)
     refine hK _ ?_
     clear K' hK
     simp only[go_sem]
     refine⟨j+1,aE,by(show x.l.ts[n].lv.length-(j+1)<x.l.ts[n].lv.length-j;omega),?_⟩
     refine aT [2,4,5,6,7,8,9] [[2,0],[4,0],[5,0],[6,0],[7,0]] ?_ ?_<;>simp only[go_sem,aO aE pE,aQ,eS]
   ·have fc:j=x.l.ts[n].lv.length:=by
     have :¬ (j:Int)<x.l.ts[n].lv.length:=by simpa using hb
     omega
    clear hb
    rw[fc]at hC
    repeat refine sq ?_
    refine be ?_
    simp only[go_sem]
    refine kp [2,4,5,6,7,8] [[2,0],[4,0],[5,0],[6,0],[7,0]] ?_
    repeat refine sq ?_
    refine aI hΓ fun K' hK=>?_
    simp only[go_sem,ae aa,ah,aj,an]
    repeat (refine⟨ao,?_⟩)
    refine hK _ ?_
    clear K' hK
    simp only[go_sem]
    refine⟨i+1,aa,by(show x.l.rs.length-(i+1)<x.l.rs.length-i;omega),?_⟩
    refine aT [2,4,5,6,7,8] [[2,0],[4,0],[5,0],[6,0],[7,0]] ?_ ?_<;>simp only[go_sem,aO aa hl,aQ,n3,hB,hC]
  ·have aV:i=x.l.rs.length:=by
    have :¬ (i:Int)<x.l.rs.length:=by simpa using hb
    omega
   clear hb
   subst aV
   repeat refine sq ?_
   refine be ?_
   simp only[go_sem]
   refine kp [4,7] [[4,0],[7,0]] ?_
   repeat refine sq ?_
   refine rx hΓ [4] [[4,0]] (fun K' hK=>by simp only[go_sem];exact ak) ?_
   refine aq ?_
   simp only[go_sem]
   simp only[e,hB]
end
end Go.Eng
