import Derived.Test.YtgbpdpdnlfdlfaaK5
/- Texts SW8 to SW19. -/
set_option linter.all false
namespace Go.Eng
open Go Go.Proofs
set_option maxRecDepth 100000
def yy(sz by_:Nat):PSpec:=⟨fun xs=>∃ l,xs=[.sl l]/\(∀ z∈l,z.cells.length=sz/\z.okc=true)/\l.length*by_<=140737488355328,fun xs=>xs.headD default,false⟩
theorem Qw{P:Program}{f T E sz by_:Nat}{Z:Value}(L:sW P f T E sz by_ Z)(hz:Z.cells.size=sz)(hb:0<by_):aS P f (yy sz by_):=by
 refine I2 (w8 L) L.ne (fun h=>by cases h) ?_
 rintro xs ⟨l,rfl,hl,hn⟩
 simp only[my,List.map_cons,List.map_nil,yy,List.headD_cons]
 cases l with
 |nil=>exact⟨trivial,trivial,rfl⟩
 |cons y r=>
  have e:gr P (fun _=>none) [0,0] T (.v (.sl (y::r)))=bI P (fun _=>none) [0,0] T T .nilsl (.v (.sl (y::r))):=rfl
  rw[e]
  have vp:(y::r).length*by_<=140737488355328:=hn
  have fb:(y::r).length<=maxLen:=by unfold maxLen;have:=Nat.le_mul_of_pos_right (y::r).length hb;omega
  simp only[bI,L.tE,L.tZ,av,aq,aD,aI]
  exact⟨⟨trivial,hl,hz,vp,fb,trivial⟩,trivial,trivial⟩
theorem aS.conv{P:Program}{f:FuncId}{s s':PSpec}(h:aS P f s)(hf:s'.flat=s.flat)(hp:∀ xs,s'.pre xs->s.pre xs/\s'.fn xs=s.fn xs):aS P f s':=by
 refine⟨h.ne,h.enter,fun dn xs hx=>?_,fun m w xs args hm ht hx da=>?_⟩
 ·rw[(hp xs hx).2];exact h.flat (hf▸dn) xs (hp xs hx).1
 ·rw[(hp xs da).2];exact h.calls m w xs args hm ht hx (hp xs da).1
noncomputable def xq:PSpec:=p1 cW (fun l=>l.length<=1000) (fun l=>.sl (l.map au)) false
noncomputable def S55:Spec:=xq.toSpec
theorem CM:an Try.prog 55 S55:=(aS.conv (s':=xq) (Qw Fi rfl (by decide)) rfl (by
 intro xs hx
 obtain⟨l,rfl,hl,e⟩:=tF hx
 exact⟨⟨_,rfl,fun z hz=>by obtain⟨x,_,rfl⟩:=List.mem_map.1 hz;exact⟨rfl,rfl⟩,by have:(l.map au).length*8<=140737488355328:=(by rw[List.length_map];omega);exact this⟩,e⟩)).sound
attribute [go_sem] xq S55
theorem xy{α β:Type}{f:α->β}{l:List α}{i:Nat}(h:i<l.length):(l.take (i+1)).map f=(l.take i).map f++[f l[i]]:=by
 rw[List.take_add_one,List.getElem?_eq_getElem h]
 simp only[List.map_append,Option.toList_some,List.map_cons,List.map_nil]
def oc(n:Iv):Prop:=n.pa.length<=1000/\n.gl.length<=1000/\∀ g∈n.gl,g.ms.length<=1000
def Fa(n:Iv):List (Name×O):=[([27,0],.arr 5 (n.gl.map encGl))]
def Fb(n:Iv):D:=.agg [.v (au n.ho),.v (.sl (n.pa.map au)),.msl [27,0] n.gl.length]
attribute [go_sem] Fa Fb
noncomputable def K8:List (Nat×Spec):=[(55,S55)]
theorem Rs:∀ f s,tbl K8 f=some s->an Try.prog f s:=tc CM<|tn
attribute [go_sem] K8
noncomputable def sS:NSpec:=n1 iN (fun n=>oc n) Fa Fb
noncomputable def S76:Spec:=sS.toSpec
attribute [go_sem] sS S76
set_option maxHeartbeats 8000000 in
theorem CF:an Try.prog 76 S76:=by
 refine Jm (nt:=31) (rs:=[.cell 2 25]) Try.func76 rfl (by rfl) (by kernel_rfl) (by kernel_rfl) (by decide) ?_
 intro xs hp
 obtain⟨n,rfl,hp,nz,iT⟩:=Jq hp
 replace nz:sS.new _=_:=nz
 replace iT:sS.d _=_:=iT
 rw[nz,iT]
 clear nz iT
 refine⟨lb rfl,?_⟩
 have hP:=bf
 simp only[iI,iB,cW,iI,iB,cW,iG,kx,iN,qU,C5,iC,iF,encGl,fI,pE,List.map_cons,List.map_nil,fj,Nat.zero_add]
 have hΓ:=Rs
 obtain⟨rn,lS,u7⟩:=hp
 have db:n.gl.length<=maxLen:=by unfold maxLen;omega
 repeat refine sq ?_
 refine rx hΓ [1,2] [[1,0],[2,0],[27,0]] (fun K' hK=>by simp only[go_sem];(repeat (refine⟨ai,?_⟩));exact hK _ (by simp only[go_sem]) (by simp only[go_sem]<;>rfl)) ?_
 repeat refine sq ?_
 refine dx hΓ hP [[],[0],[],[2],[2,3],[0,1,2,3,4],[],[0,1,2,3,4,5,6]] [1,2,3] [[1,0],[2,0],[3,0],[27,0]] (by kernel_rfl) (fun K' hK=>by simp only[go_sem];(repeat (refine⟨by first | exact rn | exact ai,?_⟩));(first | refine⟨by rfl,?_⟩ | skip);exact hK _ (by simp only[go_sem]) (by simp only[go_sem]<;>rfl)) ?_
 refine fi (lk [3,0] [27,0] 2 5 _ rfl rfl rfl [1,2,3] [[1,0],[2,0],[3,0],[27,0]] ?_ rfl) ?_
 ·simp only[go_sem,List.set_cons_succ,List.set_cons_zero]
 simp only[go_sem,List.set_cons_succ,List.set_cons_zero]
 repeat refine sq ?_
 refine rx hΓ [2,3,13,14,15] [[2,0],[3,0],[27,0]] (fun K' hK=>by simp only[go_sem];(repeat (refine⟨ai,?_⟩));exact hK _ (by simp only[go_sem]) (by simp only[go_sem]<;>rfl)) ?_
 repeat refine sq ?_
 refine bd ?_
 repeat refine sq ?_
 refine cL (fun s:Nat=>[(15,⟨true,.v (au s)⟩)]) (fun s=>[([3,0],.box [.v (au n.ho),.v (.sl (n.pa.map au)),.msl [27,0] s]),([27,0],.arr 5 ((n.gl.take s).map encGl))]) (fun s=>s<=n.gl.length) (fun s=>n.gl.length-s) 0 ?_ ?_ ?_ ?_
 ·exact Nat.zero_le _
 ·rfl
 ·rfl
 rintro i hi
 simp only[go_sem]
 repeat refine sq ?_
 refine rx hΓ [2,3,13,14,15,16] [[2,0],[3,0],[27,0]] (fun K' hK=>by simp only[go_sem];(repeat (refine⟨ai,?_⟩));exact hK _ (by simp only[go_sem]) (by simp only[go_sem]<;>rfl)) ?_
 repeat refine sq ?_
 refine aQ rfl rfl (fun hb=>?_) (fun hb=>?_)
 ·have ae:i<n.gl.length:=by simpa using hb
  have ax:(i:Int)<n.gl.length:=by omega
  clear hb
  have vv:=u7 n.gl[i] (List.getElem_mem ae)
  have Dx:min i n.gl.length=i:=by omega
  repeat refine sq ?_
  refine aR ?_
  repeat refine sq ?_
  refine bd ?_
  repeat refine sq ?_
  refine rx hΓ [2,3,5,13,14,15] [[2,0],[3,0],[5,0],[27,0]] (fun K' hK=>by simp only[go_sem,aA ae,Int.toNat_natCast,Int.natCast_nonneg,ax];(repeat (refine⟨ai,?_⟩));exact hK _ (by simp only[go_sem]) (by simp only[go_sem]<;>rfl)) ?_
  repeat refine sq ?_
  refine rx hΓ [2,3,5,13,14,15] [[2,0],[3,0],[5,0],[27,0]] (fun K' hK=>by simp only[go_sem,aA ae,Int.toNat_natCast,Int.natCast_nonneg,ax];(repeat (refine⟨by first | exact vv | exact ai,?_⟩));exact hK _ (by simp only[go_sem]) (by simp only[go_sem]<;>rfl)) ?_
  repeat refine sq ?_
  refine bw hΓ fun K' hK=>?_
  simp only[go_sem,aA ae,Int.toNat_natCast,Int.natCast_nonneg,ax]
  repeat (refine⟨ai,?_⟩)
  refine hK _ ?_
  clear K' hK
  simp only[go_sem]
  refine kp [2,3,13,14,15] [[2,0],[3,0],[27,0]] ?_
  repeat refine sq ?_
  refine bw hΓ fun K' hK=>?_
  simp only[go_sem,aA ae,Int.toNat_natCast,Int.natCast_nonneg,ax]
  repeat (refine⟨ai,?_⟩)
  refine hK _ ?_
  clear K' hK
  simp only[go_sem]
  refine⟨i+1,ae,by(show n.gl.length-(i+1)<n.gl.length-i;omega),?_⟩
  refine bN [2,3,13,14,15] [[2,0],[3,0],[27,0]] ?_ ?_
  ·simp only[go_sem,aT ae db,Int.natCast_add,Int.natCast_one,xy ae,List.length_take,Dx]
  ·simp only[go_sem,aT ae db,Int.natCast_add,Int.natCast_one,xy ae,List.length_take,Dx]
 ·have bH:i=n.gl.length:=by
   have :¬ (i:Int)<n.gl.length:=by simpa using hb
   omega
  clear hb
  subst bH
  repeat refine sq ?_
  refine cG ?_
  simp only[go_sem]
  refine kp [2,3] [[2,0],[3,0],[27,0]] ?_
  repeat refine sq ?_
  refine rx hΓ [2] [[2,0],[27,0]] (fun K' hK=>by simp only[go_sem];(repeat (refine⟨ai,?_⟩));exact hK _ (by simp only[go_sem]) (by simp only[go_sem]<;>rfl)) ?_
  refine aC ?_
  simp only[go_sem]
  rw[List.take_length]
def Zg:Value:=.agg #[.int .i64 0,.int .i64 0,.slice none 0 0,.int .i64 0,.int .i64 0]
theorem No:GC Try.prog 77 23 55 5 56 Zg:=
 ⟨by kernel_rfl,by kernel_rfl,by kernel_rfl,by decide,tL _ (by decide),iY Try.func77 (by rfl) (by kernel_rfl),
   Nl,Nn,Nm⟩
noncomputable def S77:Spec:=na Try.prog 23
theorem MO:an Try.prog 77 S77:=Ni No
attribute [go_sem] S77 na
def eD{α:Type}(l:List α)(k:Nat)(x:α):List α:=l.take k++[x]++l.drop k
theorem nc{α:Type}{l:List α}{k:Nat}{x:α}(h:k<=l.length):(eD l k x).length=l.length+1:=by
 unfold eD
 simp
 omega
theorem Nk{obj:Name->Option O}{t nm:Name}{ss:List Gl}{k:Nat}{s:Gl}(ho:obj nm=some (.arr 5 (ss.map encGl)))(hk:k<=ss.length)(hs:ss.length<=60):
 jZ Try.prog obj t 23 (.msl nm ss.length) (.v (au k)) (.v (.sl [.agg [au s.so,au s.ho,.sl (s.ms.map au),au s.kn,au s.un]]))=
  ⟨True,.msl nm (ss.length+1),upd obj nm (some (.arr 5 ((eD ss k s).map encGl)))⟩:=by
 show jZ Try.prog obj t 23 (.msl nm ss.length) (.v (au k)) (.v (.sl [encGl s]))=_
 have gf:bI Try.prog obj t 23 23 (.msl nm ss.length) (.v (.sl [encGl s]))=⟨True,.msl nm (ss.length+1),upd obj nm (some (.arr 5 (ss.map encGl++[encGl s])))⟩:=by
  simp only[bI,G4,G0,ho,av,List.length_map,List.length_cons,List.length_nil]
  refine congrArg (fun p=>R.mk p _ _) (eq_true ⟨trivial,?_,rfl,by omega,by unfold maxLen;omega,trivial,trivial⟩)
  intro y hy
  simp only[List.mem_singleton]at hy
  subst hy
  exact⟨rfl,rfl⟩
 have DE:(0:Int)<=(k:Int):=by omega
 have ar:[encGl s]≠[]:=by simp
 have On:([encGl s]:List V).length=1:=rfl
 cases hb:Nat.beq k ss.length with
 |true=>
  have e:=Nat.eq_of_beq_eq_true hb
  have e2:(eD ss k s).map encGl=ss.map encGl++[encGl s]:=by
   unfold eD
   rw[e,List.take_length,List.drop_length,List.append_nil,List.map_append]
   rfl
  simp only[jZ,ho,gf,Int.toNat_natCast,List.length_map,hb,DE,ar,e2,true_and,ne_eq,not_false_eq_true]
 |false=>
  have ae:k<ss.length:=by
   rcases Nat.lt_or_eq_of_le hk with h | h
   ·exact h
   ·subst h;simp at hb
  have e2:(eD ss k s).map encGl=(ss.map encGl).take k++[encGl s]++(ss.map encGl).drop k:=by
   unfold eD
   rw[List.map_append,List.map_append,List.map_take,List.map_drop]
   rfl
  simp only[jZ,ho,gf,Int.toNat_natCast,List.length_map,hb,DE,ar,ae,e2,true_and,ne_eq,not_false_eq_true,On]
theorem yx{l:List Int}(h:dY l=true):l.length<=20:=by
 unfold dY at h
 simp only[Bool.and_eq_true,decide_eq_true_eq]at h
 exact h.1
theorem pv{g:Gl}(h:eN g=true):g.ms.length<=20:=by
 unfold eN at h
 simp only[Bool.and_eq_true]at h
 exact yx h.2.2.1
theorem mL{n:Iv}{g:Gl}(h:bK n g=true):eN g=true:=by
 unfold bK at h
 simp only[Bool.and_eq_true]at h
 exact h.1
theorem IU{α:Type}[Inhabited α]{chk:α->Bool}{num:α->Int}{l:List α}(h:c9 chk num l=true):∀ x∈l,chk x=true:=fun x hx=>by
 obtain⟨j,hj,rfl⟩:=List.getElem_of_mem hx
 have h1:=pO.1 h j hj
 unfold dB at h1
 rw[cF hj]at h1
 simp only[Bool.and_eq_true]at h1
 exact h1.1
structure gu (n:Iv):Prop where
 ho:1<=n.ho/\n.ho<=24
 pa:dY n.pa=true
 pal:n.pa.length<=20
 pah:(n.pa.length:Int)<=n.ho
 gll:n.gl.length<=60
 gl:∀ g∈n.gl,bK n g=true
 srt:Go.Eng.srt Gl.so n.gl
theorem lE{n:Iv}(h:cw n=true):gu n:=by
 unfold cw ma at h
 simp only[Bool.and_eq_true,decide_eq_true_eq]at h
 obtain⟨⟨h1,h2,h3,h4⟩,h5⟩:=h
 exact⟨oH.1 h1,h2,yx h2,h3,h4,IU h5,yc h5⟩
theorem gu.short{n:Iv}(h:gu n):oc n:=⟨by have:=h.pal;omega,by have:=h.gll;omega,fun g hg=>by have:=pv (mL (h.gl g hg));omega⟩
theorem za{α:Type}(num:α->Int)(l:List α)(x:Int):cD num l x<=l.length:=(List.takeWhile_sublist _).length_le
theorem y8{l:List Gl}{x:Int}(hs:srt Gl.so l)(h:cY Gl.so l x=true):cD Gl.so l x<l.length:=by
 obtain⟨k,hk,e⟩:=mc.1 h
 have e2:cD Gl.so l x=k:=tT (Nat.le_of_lt hk) (fun j hj jK=>by have:=hs j k hj hk jK;omega) (fun j hj jK=>by
  rcases Nat.lt_or_eq_of_le jK with h | rfl
  ·have:=hs k j hk hj h;omega
  ·omega)
 omega
def eu:Iv:=⟨0,[],[]⟩
def c7(n:Iv)(g:Gl):Iv×Int:=
 if cw n=false then(eu,31)else if (!bK n g||cY Gl.so n.gl g.so)=true then(eu,30)
 else if n.gl.length=60 then(eu,2)else(⟨n.ho,n.pa,eD n.gl (cD Gl.so n.gl g.so) g⟩,0)
theorem m8(n:Iv):(eZ n != 0)=!cw n:=ER _ _ (by decide)
noncomputable def K9:List (Nat×Spec):=[(41,S41),(74,S74),(75,S75),(76,S76),(55,S55),(77,S77)]
theorem Rr:∀ f s,tbl K9 f=some s->an Try.prog f s:=tc qL<|tc CH<|tc CG<|tc CF<|tc CM<|tc MO<|tn
attribute [go_sem] K9
noncomputable def P28:PSpec:=p2 iN iG (fun _ _=>True) (fun n g=>.tup [fI (c7 n g).1,au (c7 n g).2]) false
noncomputable def S28:Spec:=P28.toSpec
attribute [go_sem] P28 S28
set_option maxHeartbeats 8000000 in
theorem It:aS Try.prog 28 P28:=by
 refine w2 (rs:=[.cell 4 25,.tmp 5]) Try.func28 Try.ntmps28 (by rfl) (by kernel_rfl) (by decide) (fun h=>by cases h) ⟨_,rfl,lb rfl,fun n g hp hw=>?_⟩
 have hP:=bf
 simp only[iG,iN]at hw |-
 have hΓ:=Rr
 repeat refine sq ?_
 refine rx hΓ [2,3,4] [[2,0],[3,0],[4,0],[27,0,39,0]] (fun K' hK=>by simp only[go_sem];(repeat (refine⟨ai,?_⟩));exact hK _ (by simp only[go_sem]) (by simp only[go_sem]<;>rfl)) ?_
 repeat refine sq ?_
 refine rx hΓ [2,3,4,6] [[2,0],[3,0],[4,0],[27,0,39,0]] (fun K' hK=>by simp only[go_sem];(repeat (refine⟨ai,?_⟩));exact hK _ (by simp only[go_sem]) (by simp only[go_sem]<;>rfl)) ?_
 repeat refine sq ?_
 refine rx hΓ [2,3,4,6,13] [[2,0],[3,0],[4,0],[27,0,39,0]] (fun K' hK=>by simp only[go_sem,m8];(repeat (refine⟨ai,?_⟩));exact hK _ (by simp only[go_sem]) (by simp only[go_sem]<;>rfl)) ?_
 repeat refine sq ?_
 refine aQ rfl rfl (fun hb=>?_) (fun hb=>?_)
 ·repeat refine sq ?_
  have ho:cw n=false:=by simpa using hb
  have e:eZ n=31:=by unfold eZ;rw[ho];rfl
  have e2:c7 n g=(eu,31):=by unfold c7;rw[if_pos ho]
  repeat refine sq ?_
  refine rx hΓ [4,5] [[4,0],[27,0,39,0]] (fun K' hK=>by simp only[go_sem];(repeat (refine⟨ai,?_⟩));exact hK _ (by simp only[go_sem]) (by simp only[go_sem]<;>rfl)) ?_
  refine aC ?_
  simp only[go_sem]
  rw[e2,e];rfl
 ·repeat refine sq ?_
  have ho:cw n=true:=by simpa using hb
  have hO:=lE ho
  have rh:=hO.srt
  have pb:=hO.gll
  have eb:=hO.short
  have nw:=za Gl.so n.gl g.so
  refine aR ?_
  repeat refine sq ?_
  refine rx hΓ [2,3,4,7,8] [[2,0],[3,0],[4,0],[27,0,39,0]] (fun K' hK=>by simp only[go_sem];(repeat (refine⟨by first | exact rh | exact ai,?_⟩));exact hK _ (by simp only[go_sem]) (by simp only[go_sem]<;>rfl)) ?_
  repeat refine sq ?_
  refine bd ?_
  repeat refine sq ?_
  refine rx hΓ [2,3,4,7,23] [[2,0],[3,0],[4,0],[27,0,39,0]] (fun K' hK=>by simp only[go_sem];(repeat (refine⟨ai,?_⟩));exact hK _ (by simp only[go_sem]) (by simp only[go_sem]<;>rfl)) ?_
  repeat refine sq ?_
  refine aQ rfl rfl (fun hb=>?_) (fun hb=>?_)
  ·repeat refine sq ?_
   have e2:c7 n g=(eu,30):=by unfold c7;rw[if_neg (by simp[ho]),if_pos hb]
   repeat refine sq ?_
   refine rx hΓ [4,5] [[4,0],[27,0,39,0]] (fun K' hK=>by simp only[go_sem];(repeat (refine⟨ai,?_⟩));exact hK _ (by simp only[go_sem]) (by simp only[go_sem]<;>rfl)) ?_
   refine aC ?_
   simp only[go_sem]
   rw[e2];rfl
  ·repeat refine sq ?_
   have D2:=hb
   have re:bK n g=true:=by have h:=hb;simp only[Bool.or_eq_false_iff,Bool.not_eq_false']at h;exact h.1
   have vr:=pv (mL re)
   have rz:g.ms.length<=1000:=by omega
   repeat refine sq ?_
   refine rx hΓ [2,3,4,7,32] [[2,0],[3,0],[4,0],[27,0,39,0]] (fun K' hK=>by simp only[go_sem,List.length_map];(repeat (refine⟨ai,?_⟩));exact hK _ (by simp only[go_sem]) (by simp only[go_sem]<;>rfl)) ?_
   repeat refine sq ?_
   refine aQ rfl rfl (fun hb=>?_) (fun hb=>?_)
   ·repeat refine sq ?_
    have mj:n.gl.length=60:=by simp at hb;omega
    have e2:c7 n g=(eu,2):=by
     unfold c7
     rw[if_neg (by simp[ho]),if_neg (by simp[D2]),if_pos mj]
    repeat refine sq ?_
    refine rx hΓ [4,5] [[4,0],[27,0,39,0]] (fun K' hK=>by simp only[go_sem];(repeat (refine⟨ai,?_⟩));exact hK _ (by simp only[go_sem]) (by simp only[go_sem]<;>rfl)) ?_
    refine aC ?_
    simp only[go_sem]
    rw[e2];rfl
   ·repeat refine sq ?_
    have mj:¬ n.gl.length=60:=by simp at hb;omega
    have e2:c7 n g=(⟨n.ho,n.pa,eD n.gl (cD Gl.so n.gl g.so) g⟩,0):=by
     unfold c7
     rw[if_neg (by simp[ho]),if_neg (by simp[D2]),if_neg mj]
    refine aR ?_
    refine fJ ?_
    simp only[go_sem]
    refine kp [2,3,4,7] [[2,0],[3,0],[4,0],[27,0,39,0]] ?_
    repeat refine sq ?_
    refine rx hΓ [3,4,7,9] [[3,0],[4,0],[9,0],[27,0,39,0]] (fun K' hK=>by simp only[go_sem];(repeat (refine⟨by first | exact eb | exact ai,?_⟩));exact hK _ (by simp only[go_sem]) (by simp only[go_sem]<;>rfl)) ?_
    repeat refine sq ?_
    refine rx hΓ [3,4,7,9] [[3,0],[4,0],[9,0],[27,0,39,0]] (fun K' hK=>by simp only[go_sem];(repeat (refine⟨by first | exact rz | exact ai,?_⟩));exact hK _ (by simp only[go_sem]) (by simp only[go_sem]<;>rfl)) ?_
    repeat refine sq ?_
    refine rx hΓ [4,9] [[4,0],[9,0],[27,0,39,0]] (fun K' hK=>by simp only[go_sem,Nk,nw,pb,nc];(repeat (refine⟨ai,?_⟩));exact hK _ (by simp only[go_sem]) (by simp only[go_sem]<;>rfl)) ?_
    repeat refine sq ?_
    refine rx hΓ [4,5] [[4,0],[27,0,39,0]] (fun K' hK=>by simp only[go_sem,nc,nw];(repeat (refine⟨ai,?_⟩));exact hK _ (by simp only[go_sem]) (by simp only[go_sem]<;>rfl)) ?_
    refine aC ?_
    simp only[go_sem]
    rw[e2]
    exact⟨(nc nw).symm,rfl⟩
theorem M1:an Try.prog 28 S28:=It.sound
def gy(l:List Gl)(x:Int):List Gl:=l.eraseIdx (cD Gl.so l x)
def gB(n:Iv)(x:Int):Iv×Bool:=if cY Gl.so n.gl x=true then(⟨n.ho,n.pa,gy n.gl x⟩,true)else(n,false)
theorem P5{obj:Name->Option O}{nm:Name}{ss:List Gl}{k:Nat}{j:Int}(ho:obj nm=some (.arr 5 (ss.map encGl)))(hk:k<ss.length)(hj:j=(k:Int)+1):
 nZ obj [.msl nm ss.length,.v (au k),.v (au j)]=⟨True,.v (.sl ((ss.eraseIdx k).map encGl)),upd obj nm (some (.farr 5 ((ss.map encGl).eraseIdx k++[zG])))⟩:=by
 have e:(ss.map encGl).eraseIdx k=(ss.eraseIdx k).map encGl:=by
  rw[List.eraseIdx_eq_take_drop_succ,List.eraseIdx_eq_take_drop_succ,List.map_append,List.map_take,List.map_drop]
 have h0:(0:Int)<=(k:Int):=by omega
 simp only[nZ,ho,Int.toNat_natCast,List.length_map,e,h0,hj,hk,true_and]
attribute [go_sem] S115
noncomputable def GB:List (Nat×Spec):=[(74,S74),(76,S76),(115,S115)]
theorem RX:∀ f s,tbl GB f=some s->an Try.prog f s:=tc CH<|tc CF<|tc CQ<|tn
attribute [go_sem] GB
noncomputable def P78:PSpec:=p2 iN iI (fun n _=>srt Gl.so n.gl/\oc n) (fun n x=>.tup [fI (gB n x).1,.bool (gB n x).2]) false
noncomputable def S78:Spec:=P78.toSpec
attribute [go_sem] P78 S78
set_option maxHeartbeats 8000000 in
theorem H3:aS Try.prog 78 P78:=by
 refine w2 (rs:=[.cell 4 25,.tmp 5]) Try.func78 Try.ntmps78 (by rfl) (by kernel_rfl) (by decide) (fun h=>by cases h) ⟨_,rfl,lb rfl,fun n x hp hw=>?_⟩
 have hP:=bf
 simp only[iI,iN]at hw |-
 have hΓ:=RX
 obtain⟨rh,eb⟩:=hp
 have OC:=eb.2.1
 repeat refine sq ?_
 refine rx hΓ [1,2,4] [[2,0],[4,0],[27,0,19,0]] (fun K' hK=>by simp only[go_sem];(repeat (refine⟨ai,?_⟩));exact hK _ (by simp only[go_sem]) (by simp only[go_sem]<;>rfl)) ?_
 repeat refine sq ?_
 refine rx hΓ [2,4,6,7] [[2,0],[4,0],[27,0,19,0]] (fun K' hK=>by simp only[go_sem];(repeat (refine⟨by first | exact rh | exact ai,?_⟩));exact hK _ (by simp only[go_sem]) (by simp only[go_sem]<;>rfl)) ?_
 repeat refine sq ?_
 refine rx hΓ [2,4,6,16] [[2,0],[4,0],[27,0,19,0]] (fun K' hK=>by simp only[go_sem];(repeat (refine⟨ai,?_⟩));exact hK _ (by simp only[go_sem]) (by simp only[go_sem]<;>rfl)) ?_
 repeat refine sq ?_
 refine aQ rfl rfl (fun hb=>?_) (fun hb=>?_)
 ·repeat refine sq ?_
  have e2:gB n x=(n,false):=if_neg (by simpa using hb)
  repeat refine sq ?_
  refine rx hΓ [4,5] [[4,0],[27,0,19,0]] (fun K' hK=>by simp only[go_sem];(repeat (refine⟨ai,?_⟩));exact hK _ (by simp only[go_sem]) (by simp only[go_sem]<;>rfl)) ?_
  refine aC ?_
  simp only[go_sem]
  first | (rw[e2];done) | (rw[e2];rfl)
 ·repeat refine sq ?_
  have hh:cY Gl.so n.gl x=true:=by simpa using hb
  have e2:gB n x=(⟨n.ho,n.pa,gy n.gl x⟩,true):=if_pos hh
  have nw:=y8 rh hh
  have ea:=aT nw (show n.gl.length<=maxLen by unfold maxLen;omega)
  have oN:((cD Gl.so n.gl x+1:Nat):Int)=(cD Gl.so n.gl x:Int)+1:=by omega
  refine aR ?_
  repeat refine sq ?_
  refine rx hΓ [4,6,8] [[4,0],[8,0],[27,0,19,0]] (fun K' hK=>by simp only[go_sem];(repeat (refine⟨by first | exact eb | exact ai,?_⟩));exact hK _ (by simp only[go_sem]) (by simp only[go_sem]<;>rfl)) ?_
  repeat refine sq ?_
  refine rx hΓ [4,8] [[4,0],[8,0],[27,0,19,0]] (fun K' hK=>by simp only[go_sem,ea,P5,nw,oN];(repeat (refine⟨ai,?_⟩));exact hK _ (by simp only[go_sem]) (by simp only[go_sem]<;>rfl)) ?_
  repeat refine sq ?_
  refine rx hΓ [4,5] [[4,0],[27,0,19,0]] (fun K' hK=>by simp only[go_sem];(repeat (refine⟨ai,?_⟩));exact hK _ (by simp only[go_sem]) (by simp only[go_sem]<;>rfl)) ?_
  refine aC ?_
  simp only[go_sem]
  first | (rw[e2];done) | (rw[e2];rfl)
theorem MN:an Try.prog 78 S78:=H3.sound
theorem qz(n:Iv)(x:Int):(gB n x).2=cY Gl.so n.gl x:=by unfold gB;cases cY Gl.so n.gl x<;>rfl
def ew(n:Iv)(x:Int):Iv×Int:=if cw n=false then(eu,31)else if cY Gl.so n.gl x=true then(⟨n.ho,n.pa,gy n.gl x⟩,0)else(eu,3)
noncomputable def GA:List (Nat×Spec):=[(41,S41),(78,S78)]
theorem RW:∀ f s,tbl GA f=some s->an Try.prog f s:=tc qL<|tc MN<|tn
attribute [go_sem] GA
noncomputable def P34:PSpec:=p2 iN iI (fun _ _=>True) (fun n x=>.tup [fI (ew n x).1,au (ew n x).2]) false
noncomputable def S34:Spec:=P34.toSpec
attribute [go_sem] P34 S34
set_option maxHeartbeats 8000000 in
theorem Iq:aS Try.prog 34 P34:=by
 refine w2 (rs:=[.cell 4 25,.tmp 5]) Try.func34 Try.ntmps34 (by rfl) (by kernel_rfl) (by decide) (fun h=>by cases h) ⟨_,rfl,lb rfl,fun n x hp hw=>?_⟩
 have hP:=bf
 simp only[iI,iN]at hw |-
 have hΓ:=RW
 repeat refine sq ?_
 refine rx hΓ [1,2,4] [[2,0],[4,0]] (fun K' hK=>by simp only[go_sem];(repeat (refine⟨ai,?_⟩));exact hK _ (by simp only[go_sem]) (by simp only[go_sem]<;>rfl)) ?_
 repeat refine sq ?_
 refine rx hΓ [1,2,4,6] [[2,0],[4,0]] (fun K' hK=>by simp only[go_sem];(repeat (refine⟨ai,?_⟩));exact hK _ (by simp only[go_sem]) (by simp only[go_sem]<;>rfl)) ?_
 repeat refine sq ?_
 refine rx hΓ [1,2,4,6,12] [[2,0],[4,0]] (fun K' hK=>by simp only[go_sem,m8];(repeat (refine⟨ai,?_⟩));exact hK _ (by simp only[go_sem]) (by simp only[go_sem]<;>rfl)) ?_
 repeat refine sq ?_
 refine aQ rfl rfl (fun hb=>?_) (fun hb=>?_)
 ·repeat refine sq ?_
  have ho:cw n=false:=by simpa using hb
  have e:eZ n=31:=by unfold eZ;rw[ho];rfl
  have e2:ew n x=(eu,31):=by unfold ew;rw[if_pos ho]
  repeat refine sq ?_
  refine rx hΓ [4,5] [[4,0]] (fun K' hK=>by simp only[go_sem];(repeat (refine⟨ai,?_⟩));exact hK _ (by simp only[go_sem]) (by simp only[go_sem]<;>rfl)) ?_
  refine aC ?_
  simp only[go_sem]
  first | (rw[e2,e];done) | (rw[e2,e];rfl) | (rw[e2,e3];done) | (rw[e2,e3];rfl) | (rw[e2];done) | (rw[e2];rfl)
 ·repeat refine sq ?_
  have ho:cw n=true:=by simpa using hb
  have hO:=lE ho
  have rm:srt Gl.so n.gl/\oc n:=⟨hO.srt,hO.short⟩
  refine aR ?_
  repeat refine sq ?_
  refine rx hΓ [4,7,8] [[4,0],[7,0]] (fun K' hK=>by simp only[go_sem];(repeat (refine⟨by first | exact rm | exact ai,?_⟩));exact hK _ (by simp only[go_sem]) (by simp only[go_sem]<;>rfl)) ?_
  repeat refine sq ?_
  refine rx hΓ [4,7,22] [[4,0],[7,0]] (fun K' hK=>by simp only[go_sem];(repeat (refine⟨ai,?_⟩));exact hK _ (by simp only[go_sem]) (by simp only[go_sem]<;>rfl)) ?_
  repeat refine sq ?_
  refine aQ rfl rfl (fun hb=>?_) (fun hb=>?_)
  ·repeat refine sq ?_
   have hh:¬ cY Gl.so n.gl x=true:=by rw[qz]at hb;simpa using hb
   have e2:ew n x=(eu,3):=by unfold ew;rw[if_neg (by simp[ho]),if_neg hh]
   repeat refine sq ?_
   refine rx hΓ [4,5] [[4,0]] (fun K' hK=>by simp only[go_sem];(repeat (refine⟨ai,?_⟩));exact hK _ (by simp only[go_sem]) (by simp only[go_sem]<;>rfl)) ?_
   refine aC ?_
   simp only[go_sem]
   first | (rw[e2,e];done) | (rw[e2,e];rfl) | (rw[e2,e3];done) | (rw[e2,e3];rfl) | (rw[e2];done) | (rw[e2];rfl)
  ·repeat refine sq ?_
   have hh:cY Gl.so n.gl x=true:=by rw[qz]at hb;simpa using hb
   have e2:ew n x=(⟨n.ho,n.pa,gy n.gl x⟩,0):=by unfold ew;rw[if_neg (by simp[ho]),if_pos hh]
   have e3:(gB n x).1=⟨n.ho,n.pa,gy n.gl x⟩:=by unfold gB;rw[if_pos hh]
   refine aR ?_
   repeat refine sq ?_
   refine rx hΓ [4,5] [[4,0]] (fun K' hK=>by simp only[go_sem];(repeat (refine⟨ai,?_⟩));exact hK _ (by simp only[go_sem]) (by simp only[go_sem]<;>rfl)) ?_
   refine aC ?_
   simp only[go_sem]
   first | (rw[e2,e];done) | (rw[e2,e];rfl) | (rw[e2,e3];done) | (rw[e2,e3];rfl) | (rw[e2];done) | (rw[e2];rfl)
theorem MZ:an Try.prog 34 S34:=Iq.sound
theorem y9{α:Type}{num:α->Int}{l:List α}{x:Int}{j:Nat}(hj:j<cD num l x)(h:j<l.length):num l[j] <x:=by
 unfold cD at hj
 induction l generalizing j with
 |nil=>simp at h
 |cons a r ih=>
  by_cases hd:num a<x
  ·simp only[List.takeWhile_cons,hd,decide_true,if_true,List.length_cons]at hj
   cases j with
   |zero=>exact hd
   |succ j=>exact ih (by omega) (by simpa using h)
  ·simp[List.takeWhile_cons,hd]at hj
theorem zb{α:Type}{num:α->Int}{x:Int}:∀ {l:List α} (h:cD num l x<l.length),x<=num l[cD num l x]
 |[],h=>by simp at h
 |a::r,h=>by
  by_cases hd:num a<x
  ·have e:cD num (a::r) x=cD num r x+1:=by unfold cD;simp[List.takeWhile_cons,hd]
   have :=zb (num:=num) (x:=x) (l:=r) (by rw[e]at h;simpa using h)
   simpa[e]using this
  ·have e:cD num (a::r) x=0:=by unfold cD;simp[List.takeWhile_cons,hd]
   simp only[e,List.getElem_cons_zero]
   omega
theorem zc{α:Type}{num:α->Int}{l:List α}{x:Int}(hs:srt num l){j:Nat}(hj:cD num l x<=j)(h:j<l.length):x<=num l[j]:=by
 have h0:cD num l x<l.length:=by omega
 have :=zb h0
 rcases Nat.lt_or_eq_of_le hj with h1 | h1
 ·have:=hs _ _ h0 h h1;omega
 ·subst h1;exact this
def eV{α:Type}(l:List α)(k:Nat)(s:α)(i:Nat):List α:=if i<=k then l.take i else(eD l k s).take (i+1)
theorem x6{α:Type}{l:List α}{k:Nat}{s:α}(h:k<l.length):eV l k s (k+1)=eV l k s k++[s]++[l[k]]:=by
 unfold eV eD
 rw[if_neg (by omega),if_pos (Nat.le_refl k)]
 have hd:l.drop k=l[k]::l.drop (k+1):=by rw[List.drop_eq_getElem_cons h]
 have hl:(l.take k).length=k:=by simp;omega
 rw[hd,List.append_assoc,List.take_append,hl,List.take_of_length_le (by omega)]
 have :k+1+1-k=2:=by omega
 rw[this,List.append_assoc]
 rfl
theorem xY{α:Type}{l:List α}{k i:Nat}{s:α}(h:i<l.length)(hk:k<=l.length)(jL:i≠k):eV l k s (i+1)=eV l k s i++[l[i]]:=by
 unfold eV
 by_cases h1:i<k
 ·rw[if_pos (by omega),if_pos (by omega),List.take_add_one,List.getElem?_eq_getElem h]
  rfl
 ·rw[if_neg (by omega),if_neg (by omega)]
  have hlen:=nc (x:=s) hk
  have hv:(eD l k s)[i+1]?=some l[i]:=by
   unfold eD
   have jH:(l.take k).length=k:=by simp;omega
   rw[List.getElem?_append_right (by rw[List.length_append,jH];simp;omega),List.length_append,jH,List.getElem?_drop]
   simp only[List.length_cons,List.length_nil]
   rw[show k+(i+1-(k+(0+1)))=i by omega,List.getElem?_eq_getElem h]
  rw[List.take_add_one,hv]
  rfl
theorem xZ{α:Type}{l:List α}{k i:Nat}{s:α}(h:i<=l.length)(hk:k<=l.length):(eV l k s i).length=if i<=k then i else i+1:=by
 unfold eV
 split
 ·simp;omega
 ·rw[List.length_take,nc hk];omega
theorem IQ{α:Type}{l:List α}{k:Nat}{s:α}(hk:k<=l.length):eD l k s=if k<l.length then eV l k s l.length else eV l k s l.length++[s]:=by
 unfold eV
 by_cases h:k<l.length
 ·rw[if_pos h,if_neg (by omega),List.take_of_length_le (by rw[nc hk];omega)]
 ·have:k=l.length:=by omega
  rw[if_neg h,if_pos (by omega)]
  unfold eD
  rw[this]
  simp
noncomputable def P85:PSpec:=p1 iG (fun g=>g.ms.length<=1000) (fun g=>encGl g) false
noncomputable def S85:Spec:=P85.toSpec
attribute [go_sem] P85 S85
set_option maxHeartbeats 4000000 in
theorem H0:aS Try.prog 85 P85:=by
 refine w1 (rs:=[.cell 2 55]) Try.func85 Try.ntmps85 (by rfl) (by kernel_rfl) (by decide) (fun h=>by cases h) ⟨_,rfl,lb rfl,fun g hp hw=>?_⟩
 have hP:=bf
 simp only[iG]at hw |-
 have hΓ:=@fS Try.prog
 replace hp:g.ms.length<=1000:=hp
 repeat refine sq ?_
 refine rx hΓ [1,2] [[1,0],[2,0],[6,0]] (fun K' hK=>by simp only[go_sem];(repeat (refine⟨ai,?_⟩));exact hK _ (by simp only[go_sem]) (by simp only[go_sem]<;>rfl)) ?_
 repeat refine sq ?_
 refine rx hΓ [1,2] [[1,0],[2,0],[6,0]] (fun K' hK=>by simp only[go_sem];(repeat (refine⟨ai,?_⟩));exact hK _ (by simp only[go_sem]) (by simp only[go_sem]<;>rfl)) ?_
 repeat refine sq ?_
 refine rx hΓ [2] [[2,0],[6,0]] (fun K' hK=>by simp only[go_sem];(repeat (refine⟨ai,?_⟩));exact hK _ (by simp only[go_sem]) (by simp only[go_sem]<;>rfl)) ?_
 refine aC ?_
 simp only[go_sem]
 skip
theorem CD:an Try.prog 85 S85:=H0.sound
theorem EZ(a b:Nat):decide ((a:Int)<(b:Int))=decide (a<b):=by
 by_cases h:a<b
 ·rw[decide_eq_true h,decide_eq_true (by omega)]
 ·rw[decide_eq_false h,decide_eq_false (by omega)]
def eC(l:List Gl)(x:Int)(z:Nat):List Gl:=(l.take z).filter fun g=>g.so != x
theorem K0(l:List Gl)(x:Int)(z:Nat):(eC l x z).length<=l.length:=by
 unfold eC
 refine Nat.le_trans (List.length_filter_le _ _) ?_
 rw[List.length_take];omega
theorem KZ{l:List Gl}{x:Int}{i:Nat}(h:i<l.length)(hx:(l[i].so != x)=true):eC l x (i+1)=eC l x i++[l[i]]:=by
 unfold eC
 rw[List.take_add_one,List.getElem?_eq_getElem h,List.filter_append]
 show _++List.filter _ [l[i]]=_
 rw[List.filter_cons_of_pos (by simpa using hx)]
 rfl
theorem K7{l:List Gl}{x:Int}{i:Nat}(h:i<l.length)(hx:(l[i].so != x)=false):eC l x (i+1)=eC l x i:=by
 unfold eC
 rw[List.take_add_one,List.getElem?_eq_getElem h,List.filter_append]
 show _++List.filter _ [l[i]]=_
 rw[List.filter_cons_of_neg (by simp[hx])]
 simp
def qA(n:Iv)(x:Int):Iv×Bool:=(⟨n.ho,n.pa,eC n.gl x n.gl.length⟩,decide ((eC n.gl x n.gl.length).length<n.gl.length))
noncomputable def Gz:List (Nat×Spec):=[(85,S85)]
theorem RV:∀ f s,tbl Gz f=some s->an Try.prog f s:=tc CD<|tn
attribute [go_sem] Gz
noncomputable def P86:PSpec:=p2 iN iI (fun n _=>oc n) (fun n x=>.tup [fI (qA n x).1,.bool (qA n x).2]) false
noncomputable def S86:Spec:=P86.toSpec
attribute [go_sem] P86 S86
set_option maxHeartbeats 8000000 in
theorem HZ:aS Try.prog 86 P86:=by
 refine w2 (rs:=[.cell 4 25,.tmp 5]) Try.func86 Try.ntmps86 (by rfl) (by kernel_rfl) (by decide) (fun h=>by cases h) ⟨_,rfl,lb rfl,fun n x hp hw=>?_⟩
 have hP:=bf
 simp only[iI,iN]at hw |-
 have hΓ:=RV
 obtain⟨rn,lS,u7⟩:=hp
 have db:n.gl.length<=maxLen:=by unfold maxLen;omega
 repeat refine sq ?_
 refine rx hΓ [1,2,4] [[2,0],[4,0],[13,0],[39,0]] (fun K' hK=>by simp only[go_sem];(repeat (refine⟨ai,?_⟩));exact hK _ (by simp only[go_sem]) (by simp only[go_sem]<;>rfl)) ?_
 repeat refine sq ?_
 refine dx hΓ hP [[],[0],[],[],[3],[2,3,4],[0,1,2,3,4,5],[],[0,1,2,3,4,5,6,7]] [1,2,4,6] [[2,0],[4,0],[6,0],[13,0],[39,0]] (by kernel_rfl) (fun K' hK=>by simp only[go_sem];(repeat (refine⟨ai,?_⟩));(first | refine⟨by rfl,?_⟩ | skip);exact hK _ (by simp only[go_sem]) (by simp only[go_sem]<;>rfl)) ?_
 refine fi (lk [6,0] [39,0] 2 5 _ rfl rfl rfl [1,2,4,6] [[2,0],[4,0],[6,0],[13,0],[39,0]] ?_ rfl) ?_
 ·simp only[go_sem,List.set_cons_succ,List.set_cons_zero]
 simp only[go_sem,List.set_cons_succ,List.set_cons_zero]
 repeat refine sq ?_
 refine rx hΓ [1,2,4,6,7] [[2,0],[4,0],[6,0],[13,0],[39,0]] (fun K' hK=>by simp only[go_sem];(repeat (refine⟨ai,?_⟩));exact hK _ (by simp only[go_sem]) (by simp only[go_sem]<;>rfl)) ?_
 repeat refine sq ?_
 refine bd ?_
 repeat refine sq ?_
 refine cL (fun s:Nat=>[(7,⟨true,.v (au s)⟩)]) (fun s=>[([6,0],.box [.v (au n.ho),.msl [13,0] n.pa.length,.msl [39,0] (eC n.gl x s).length]),([39,0],.arr 5 ((eC n.gl x s).map encGl))]) (fun s=>s<=n.gl.length) (fun s=>n.gl.length-s) 0 ?_ ?_ ?_ ?_
 ·exact Nat.zero_le _
 ·rfl
 ·rfl
 rintro i hi
 simp only[go_sem]
 repeat refine sq ?_
 refine rx hΓ [1,2,4,6,7,19] [[2,0],[4,0],[6,0],[13,0],[39,0]] (fun K' hK=>by simp only[go_sem];(repeat (refine⟨ai,?_⟩));exact hK _ (by simp only[go_sem]) (by simp only[go_sem]<;>rfl)) ?_
 repeat refine sq ?_
 refine aQ rfl rfl (fun hb=>?_) (fun hb=>?_)
 ·have ae:i<n.gl.length:=by simpa using hb
  have ax:(i:Int)<n.gl.length:=by omega
  clear hb
  have vv:=u7 n.gl[i] (List.getElem_mem ae)
  have fe:=K0 n.gl x i
  repeat refine sq ?_
  refine aR ?_
  repeat refine sq ?_
  refine bd ?_
  repeat refine sq ?_
  refine rx hΓ [1,2,4,6,7,29] [[2,0],[4,0],[6,0],[13,0],[39,0]] (fun K' hK=>by simp only[go_sem,aA ae,Int.toNat_natCast,Int.natCast_nonneg,ax];(repeat (refine⟨ai,?_⟩));exact hK _ (by simp only[go_sem]) (by simp only[go_sem]<;>rfl)) ?_
  repeat refine sq ?_
  refine aQ rfl rfl (fun hb=>?_) (fun hb=>?_)
  ·repeat refine sq ?_
   have hk:=KZ (x:=x) ae (by simpa using hb)
   repeat refine sq ?_
   refine kU hΓ hP [[],[0],[],[2],[],[2,3,4],[2,3,4,5],[2,3,4,5,6],[2,3,4,5,6,7],[0,1,2,3,4,5,6,7,8],[0,1,2,3,4,5,6,7,8,9],[0,1,2,3,4,5,6,7,8,9,10]] (by kernel_rfl) fun K' hK=>?_
   simp only[go_sem,aA ae,Int.toNat_natCast,Int.natCast_nonneg,ax]
   repeat (refine⟨by first | exact vv | exact ai,?_⟩)
   first | refine⟨by rfl,?_⟩ | skip
   refine hK _ ?_
   clear K' hK
   simp only[go_sem]
   refine kp [1,2,4,6,7] [[2,0],[4,0],[6,0],[13,0],[39,0]] ?_
   repeat refine sq ?_
   refine bw hΓ fun K' hK=>?_
   simp only[go_sem,aA ae,Int.toNat_natCast,Int.natCast_nonneg,ax]
   repeat (refine⟨ai,?_⟩)
   refine hK _ ?_
   clear K' hK
   simp only[go_sem]
   refine⟨i+1,ae,by(show n.gl.length-(i+1)<n.gl.length-i;omega),?_⟩
   refine bN [1,2,4,6,7] [[2,0],[4,0],[6,0],[13,0],[39,0]] ?_ ?_
   ·simp only[go_sem,aT ae db,Int.natCast_add,Int.natCast_one,hk,List.map_append,List.map_cons,List.map_nil,List.length_append,List.length_cons,List.length_nil]
   ·simp only[go_sem,aT ae db,Int.natCast_add,Int.natCast_one,hk,List.map_append,List.map_cons,List.map_nil,List.length_append,List.length_cons,List.length_nil]
  ·repeat refine sq ?_
   have hk:=K7 (x:=x) ae (by simpa using hb)
   refine aR ?_
   refine fJ ?_
   simp only[go_sem]
   refine kp [1,2,4,6,7] [[2,0],[4,0],[6,0],[13,0],[39,0]] ?_
   repeat refine sq ?_
   refine bw hΓ fun K' hK=>?_
   simp only[go_sem,aA ae,Int.toNat_natCast,Int.natCast_nonneg,ax]
   repeat (refine⟨ai,?_⟩)
   refine hK _ ?_
   clear K' hK
   simp only[go_sem]
   refine⟨i+1,ae,by(show n.gl.length-(i+1)<n.gl.length-i;omega),?_⟩
   refine bN [1,2,4,6,7] [[2,0],[4,0],[6,0],[13,0],[39,0]] ?_ ?_
   ·simp only[go_sem,aT ae db,Int.natCast_add,Int.natCast_one,hk,List.map_append,List.map_cons,List.map_nil,List.length_append,List.length_cons,List.length_nil]
   ·simp only[go_sem,aT ae db,Int.natCast_add,Int.natCast_one,hk,List.map_append,List.map_cons,List.map_nil,List.length_append,List.length_cons,List.length_nil]
 ·have bH:i=n.gl.length:=by
   have :¬ (i:Int)<n.gl.length:=by simpa using hb
   omega
  clear hb
  subst bH
  repeat refine sq ?_
  refine cG ?_
  simp only[go_sem]
  refine kp [2,4,6] [[2,0],[4,0],[6,0],[13,0],[39,0]] ?_
  repeat refine sq ?_
  refine dx hΓ hP [[],[],[1],[1,2],[],[4],[4,5],[1,2,3,4,5,6],[0],[0,1,2,3,4,5,6,7,8]] [4,5] [[4,0],[13,0],[39,0]] (by kernel_rfl) (fun K' hK=>by simp only[go_sem];(repeat (refine⟨ai,?_⟩));(first | refine⟨by rfl,?_⟩ | skip);exact hK _ (by simp only[go_sem]) (by simp only[go_sem]<;>rfl)) ?_
  refine aC ?_
  simp only[go_sem]
  (rw[EZ];rfl)
theorem MM:an Try.prog 86 S86:=HZ.sound
theorem uD{l:List Gl}{x:Int}(h:∀ g∈l,g.so≠x):l.filter (fun g=>g.so != x)=l:=List.filter_eq_self.2 fun g hg=>by simpa using h g hg
theorem KX{l:List Gl}{x:Int}(h:cY Gl.so l x=false):eC l x l.length=l:=by
 unfold eC
 rw[List.take_length]
 refine uD fun g hg e=>?_
 obtain⟨j,hj,rfl⟩:=List.getElem_of_mem hg
 rw[mc.2 ⟨j,hj,e⟩]at h;cases h
theorem KY{l:List Gl}{x:Int}(hs:srt Gl.so l)(h:cY Gl.so l x=true):eC l x l.length=gy l x/\(gy l x).length<l.length:=by
 have ae:=y8 hs h
 obtain⟨k,hk⟩:∃ k,k=cD Gl.so l x:=⟨_,rfl⟩
 have hx:(l[k]'(hk▸ae)).so=x:=by
  obtain⟨j,hj,e⟩:=mc.1 h
  have h1:¬ j<cD Gl.so l x:=fun hh=>by have:=y9 hh hj;omega
  have h2:=zc (num:=Gl.so) (x:=x) hs (Nat.le_refl _) ae
  rcases Nat.lt_or_eq_of_le (Nat.not_lt.1 h1)with h3 | h3
  ·have:=hs _ _ ae hj h3;omega
  ·subst hk;simp only[h3];exact e
 have hd:l.drop k=l[k]'(hk▸ae)::l.drop (k+1):=List.drop_eq_getElem_cons (hk▸ae)
 have e1:l.filter (fun g=>g.so != x)=l.take k++l.drop (k+1):=by
  have :l=l.take k++(l[k]'(hk▸ae)::l.drop (k+1)):=by rw[<-hd,List.take_append_drop]
  conv=>lhs;rw[this]
  rw[List.filter_append,List.filter_cons_of_neg (by simp[hx])]
  congr 1
  ·refine uD fun g hg e=>?_
   obtain⟨j,hj,rfl⟩:=List.getElem_of_mem hg
   rw[List.length_take]at hj
   rw[List.getElem_take]at e
   have :=hs j k (by omega) (hk▸ae) (by omega)
   omega
  ·refine uD fun g hg e=>?_
   obtain⟨j,hj,rfl⟩:=List.getElem_of_mem hg
   rw[List.length_drop]at hj
   rw[List.getElem_drop]at e
   have :=hs k (k+1+j) (hk▸ae) (by omega) (by omega)
   omega
 have e2:gy l x=l.take k++l.drop (k+1):=by unfold gy;rw[<-hk,List.eraseIdx_eq_take_drop_succ]
 constructor
 ·unfold eC;rw[List.take_length,e1,e2]
 ·unfold gy;rw[List.length_eraseIdx_of_lt ae];omega
theorem J0{n:Iv}(h:gu n)(x:Int):qA n x=gB n x:=by
 unfold qA gB
 cases hh:cY Gl.so n.gl x
 ·rw[KX hh];simp
 ·obtain⟨e1,e2⟩:=KY h.srt hh
  rw[e1,decide_eq_true e2];rfl
noncomputable def Gy:List (Nat×Spec):=[(42,S42),(86,S86)]
theorem RU:∀ f s,tbl Gy f=some s->an Try.prog f s:=tc qK<|tc MM<|tn
attribute [go_sem] Gy
noncomputable def P35:PSpec:=p2 iN iI (fun _ _=>True) (fun n x=>.tup [fI (ew n x).1,au (ew n x).2]) false
noncomputable def S35:Spec:=P35.toSpec
attribute [go_sem] P35 S35
set_option maxHeartbeats 8000000 in
theorem Ip:aS Try.prog 35 P35:=by
 refine w2 (rs:=[.cell 4 25,.tmp 5]) Try.func35 Try.ntmps35 (by rfl) (by kernel_rfl) (by decide) (fun h=>by cases h) ⟨_,rfl,lb rfl,fun n x hp hw=>?_⟩
 have hP:=bf
 simp only[iI,iN]at hw |-
 have hΓ:=RU
 repeat refine sq ?_
 refine rx hΓ [1,2,4] [[2,0],[4,0]] (fun K' hK=>by simp only[go_sem];(repeat (refine⟨ai,?_⟩));exact hK _ (by simp only[go_sem]) (by simp only[go_sem]<;>rfl)) ?_
 repeat refine sq ?_
 refine rx hΓ [1,2,4,10] [[2,0],[4,0]] (fun K' hK=>by simp only[go_sem,m8];(repeat (refine⟨ai,?_⟩));exact hK _ (by simp only[go_sem]) (by simp only[go_sem]<;>rfl)) ?_
 repeat refine sq ?_
 refine aQ rfl rfl (fun hb=>?_) (fun hb=>?_)
 ·repeat refine sq ?_
  have ho:cw n=false:=by simpa using hb
  have e:eZ n=31:=by unfold eZ;rw[ho];rfl
  have e2:ew n x=(eu,31):=by unfold ew;rw[if_pos ho]
  repeat refine sq ?_
  refine rx hΓ [4,5] [[4,0]] (fun K' hK=>by simp only[go_sem];(repeat (refine⟨ai,?_⟩));exact hK _ (by simp only[go_sem]) (by simp only[go_sem]<;>rfl)) ?_
  refine aC ?_
  simp only[go_sem]
  first | (rw[e2,e];done) | (rw[e2,e];rfl) | (rw[e2,e3];done) | (rw[e2,e3];rfl) | (rw[e2];done) | (rw[e2];rfl)
 ·repeat refine sq ?_
  have ho:cw n=true:=by simpa using hb
  have hO:=lE ho
  have eb:=hO.short
  have hle:=J0 hO x
  refine aR ?_
  repeat refine sq ?_
  refine rx hΓ [4,6,7] [[4,0],[6,0]] (fun K' hK=>by simp only[go_sem,hle];(repeat (refine⟨by first | exact eb | exact ai,?_⟩));exact hK _ (by simp only[go_sem]) (by simp only[go_sem]<;>rfl)) ?_
  repeat refine sq ?_
  refine rx hΓ [4,6,19] [[4,0],[6,0]] (fun K' hK=>by simp only[go_sem];(repeat (refine⟨ai,?_⟩));exact hK _ (by simp only[go_sem]) (by simp only[go_sem]<;>rfl)) ?_
  repeat refine sq ?_
  refine aQ rfl rfl (fun hb=>?_) (fun hb=>?_)
  ·repeat refine sq ?_
   have hh:¬ cY Gl.so n.gl x=true:=by rw[qz]at hb;simpa using hb
   have e2:ew n x=(eu,3):=by unfold ew;rw[if_neg (by simp[ho]),if_neg hh]
   repeat refine sq ?_
   refine rx hΓ [4,5] [[4,0]] (fun K' hK=>by simp only[go_sem];(repeat (refine⟨ai,?_⟩));exact hK _ (by simp only[go_sem]) (by simp only[go_sem]<;>rfl)) ?_
   refine aC ?_
   simp only[go_sem]
   first | (rw[e2,e];done) | (rw[e2,e];rfl) | (rw[e2,e3];done) | (rw[e2,e3];rfl) | (rw[e2];done) | (rw[e2];rfl)
  ·repeat refine sq ?_
   have hh:cY Gl.so n.gl x=true:=by rw[qz]at hb;simpa using hb
   have e2:ew n x=(⟨n.ho,n.pa,gy n.gl x⟩,0):=by unfold ew;rw[if_neg (by simp[ho]),if_pos hh]
   have e3:(gB n x).1=⟨n.ho,n.pa,gy n.gl x⟩:=by unfold gB;rw[if_pos hh]
   refine aR ?_
   repeat refine sq ?_
   refine rx hΓ [4,5] [[4,0]] (fun K' hK=>by simp only[go_sem];(repeat (refine⟨ai,?_⟩));exact hK _ (by simp only[go_sem]) (by simp only[go_sem]<;>rfl)) ?_
   refine aC ?_
   simp only[go_sem]
   first | (rw[e2,e];done) | (rw[e2,e];rfl) | (rw[e2,e3];done) | (rw[e2,e3];rfl) | (rw[e2];done) | (rw[e2];rfl)
theorem MY:an Try.prog 35 S35:=Ip.sound
noncomputable def Gx:List (Nat×Spec):=[(42,S42),(84,S84),(85,S85)]
theorem RT:∀ f s,tbl Gx f=some s->an Try.prog f s:=tc qK<|tc CE<|tc CD<|tn
attribute [go_sem] Gx
noncomputable def P33:PSpec:=p2 iN iG (fun _ _=>True) (fun n g=>.tup [fI (c7 n g).1,au (c7 n g).2]) false
noncomputable def S33:Spec:=P33.toSpec
attribute [go_sem] P33 S33
set_option maxHeartbeats 16000000 in
theorem Ir:aS Try.prog 33 P33:=by
 refine w2 (rs:=[.cell 4 25,.tmp 5]) Try.func33 Try.ntmps33 (by rfl) (by kernel_rfl) (by decide) (fun h=>by cases h) ⟨_,rfl,lb rfl,fun n g hp hw=>?_⟩
 have hP:=bf
 simp only[iG,iN]at hw |-
 have hΓ:=RT
 repeat refine sq ?_
 refine rx hΓ [2,3,4] [[2,0],[3,0],[4,0],[23,0],[60,0],[71,0],[85,0]] (fun K' hK=>by simp only[go_sem];(repeat (refine⟨ai,?_⟩));exact hK _ (by simp only[go_sem]) (by simp only[go_sem]<;>rfl)) ?_
 repeat refine sq ?_
 refine rx hΓ [2,3,4,11] [[2,0],[3,0],[4,0],[23,0],[60,0],[71,0],[85,0]] (fun K' hK=>by simp only[go_sem,m8];(repeat (refine⟨ai,?_⟩));exact hK _ (by simp only[go_sem]) (by simp only[go_sem]<;>rfl)) ?_
 repeat refine sq ?_
 refine aQ rfl rfl (fun hb=>?_) (fun hb=>?_)
 ·repeat refine sq ?_
  have ho:cw n=false:=by simpa using hb
  have e2:c7 n g=(eu,31):=by unfold c7;rw[if_pos ho]
  repeat refine sq ?_
  refine rx hΓ [4,5] [[4,0],[23,0],[60,0],[71,0],[85,0]] (fun K' hK=>by simp only[go_sem];(repeat (refine⟨ai,?_⟩));exact hK _ (by simp only[go_sem]) (by simp only[go_sem]<;>rfl)) ?_
  refine aC ?_
  simp only[go_sem]
  first | (rw[e2];done) | (rw[e2];rfl) | (rw[e2];simp[kC,encGl])
 ·repeat refine sq ?_
  have ho:cw n=true:=by simpa using hb
  have hO:=lE ho
  have NW:=hO.srt
  have pb:=hO.gll
  have eb:=hO.short
  have kD:=hO.pal
  have rC:n.gl.length<=maxLen:=by unfold maxLen;omega
  refine aR ?_
  repeat refine sq ?_
  refine rx hΓ [2,3,4,16] [[2,0],[3,0],[4,0],[23,0],[60,0],[71,0],[85,0]] (fun K' hK=>by simp only[go_sem];(repeat (refine⟨ai,?_⟩));exact hK _ (by simp only[go_sem]) (by simp only[go_sem]<;>rfl)) ?_
  repeat refine sq ?_
  refine aQ rfl rfl (fun hb=>?_) (fun hb=>?_)
  ·repeat refine sq ?_
   have e2:c7 n g=(eu,30):=by unfold c7;rw[if_neg (by simp[ho]),if_pos (by rw[hb];rfl)]
   repeat refine sq ?_
   refine rx hΓ [4,5] [[4,0],[23,0],[60,0],[71,0],[85,0]] (fun K' hK=>by simp only[go_sem];(repeat (refine⟨ai,?_⟩));exact hK _ (by simp only[go_sem]) (by simp only[go_sem]<;>rfl)) ?_
   refine aC ?_
   simp only[go_sem]
   first | (rw[e2];done) | (rw[e2];rfl) | (rw[e2];simp[kC,encGl])
  ·repeat refine sq ?_
   have re:bK n g=true:=by simpa using hb
   have vr:=pv (mL re)
   have rz:g.ms.length<=1000:=by omega
   obtain⟨k,hk⟩:∃ k,k=cD Gl.so n.gl g.so:=⟨_,rfl⟩
   have fe:k<=n.gl.length:=by rw[hk];exact za _ _ _
   have nx:∀ j (h:j<n.gl.length),j<k->n.gl[j].so<g.so:=fun j h hj=>y9 (hk▸hj) h
   have eI:∀ j (h:j<n.gl.length),k<=j->g.so<=n.gl[j].so:=fun j h hj=>zc NW (x:=g.so) (hk▸hj) h
   refine aR ?_
   repeat refine sq ?_
   refine dx hΓ hP [[],[0],[],[],[3],[2,3,4],[0,1,2,3,4,5],[],[0,1,2,3,4,5,6,7]] [2,3,4,6] [[2,0],[3,0],[4,0],[6,0],[23,0],[60,0],[71,0],[85,0]] (by kernel_rfl) (fun K' hK=>by simp only[go_sem];(repeat (refine⟨ai,?_⟩));(first | refine⟨by rfl,?_⟩ | skip);exact hK _ (by simp only[go_sem]) (by simp only[go_sem]<;>rfl)) ?_
   refine fi (lk [6,0] [71,0] 2 5 _ rfl rfl rfl [2,3,4,6] [[2,0],[3,0],[4,0],[6,0],[23,0],[60,0],[71,0],[85,0]] ?_ rfl) ?_
   ·simp only[go_sem,List.set_cons_succ,List.set_cons_zero]
   simp only[go_sem,List.set_cons_succ,List.set_cons_zero]
   repeat refine sq ?_
   refine rx hΓ [2,3,4,6,7] [[2,0],[3,0],[4,0],[6,0],[23,0],[60,0],[71,0],[85,0]] (fun K' hK=>by simp only[go_sem];(repeat (refine⟨ai,?_⟩));exact hK _ (by simp only[go_sem]) (by simp only[go_sem]<;>rfl)) ?_
   repeat refine sq ?_
   refine rx hΓ [2,3,4,6,7,8] [[2,0],[3,0],[4,0],[6,0],[23,0],[60,0],[71,0],[85,0]] (fun K' hK=>by simp only[go_sem];(repeat (refine⟨ai,?_⟩));exact hK _ (by simp only[go_sem]) (by simp only[go_sem]<;>rfl)) ?_
   repeat refine sq ?_
   refine bd ?_
   repeat refine sq ?_
   refine cL (fun s_:Nat=>[(8,⟨true,.v (au s_)⟩),(7,⟨true,.v (.bool (decide (k<s_)))⟩)]) (fun s_=>[([6,0],.box [.v (au n.ho),.msl [23,0] n.pa.length,.msl [71,0] (eV n.gl k g s_).length]),([71,0],.arr 5 ((eV n.gl k g s_).map encGl))]) (fun s_=>s_<=n.gl.length/\∀ j (h:j<n.gl.length),j<s_->n.gl[j].so≠g.so) (fun s_=>n.gl.length-s_) 0 ?_ ?_ ?_ ?_
   ·exact⟨Nat.zero_le _,fun j h h0=>absurd h0 (by omega)⟩
   ·rfl
   ·rfl
   rintro i ⟨hi,hR⟩
   simp only[go_sem]
   repeat refine sq ?_
   refine rx hΓ [2,3,4,6,7,8,29] [[2,0],[3,0],[4,0],[6,0],[23,0],[60,0],[71,0],[85,0]] (fun K' hK=>by simp only[go_sem];(repeat (refine⟨ai,?_⟩));exact hK _ (by simp only[go_sem]) (by simp only[go_sem]<;>rfl)) ?_
   repeat refine sq ?_
   refine aQ rfl rfl (fun hb=>?_) (fun hb=>?_)
   ·have ae:i<n.gl.length:=by simpa using hb
    have ax:(i:Int)<n.gl.length:=by omega
    clear hb
    have uW:=xZ (s:=g) (Nat.le_of_lt ae) fe
    have oW:(eV n.gl k g i).length<=61:=by rw[uW];split<;>omega
    have DJ:=pv (mL (hO.gl n.gl[i] (List.getElem_mem ae)))
    have DI:n.gl[i].ms.length<=1000:=by omega
    repeat refine sq ?_
    refine aR ?_
    repeat refine sq ?_
    refine bd ?_
    repeat refine sq ?_
    refine dx hΓ hP [[],[0],[],[0,1,2],[0,1,2,3],[0,1,2,3,4],[],[6],[0,1,2,3,4,5,6,7]] [2,3,4,6,7,8,40] [[2,0],[3,0],[4,0],[6,0],[23,0],[60,0],[71,0],[85,0]] (by kernel_rfl) (fun K' hK=>by simp only[go_sem,aA ae,Int.toNat_natCast,Int.natCast_nonneg,ax];(repeat (refine⟨ai,?_⟩));(first | refine⟨by rfl,?_⟩ | skip);exact hK _ (by simp only[go_sem]) (by simp only[go_sem]<;>rfl)) ?_
    repeat refine sq ?_
    refine aQ rfl rfl (fun hb=>?_) (fun hb=>?_)
    ·repeat refine sq ?_
     have cJ:cY Gl.so n.gl g.so=true:=mc.2 ⟨i,ae,by simpa using hb⟩
     have e2:c7 n g=(eu,30):=by unfold c7;rw[if_neg (by simp[ho]),if_pos (by rw[cJ,Bool.or_true])]
     repeat refine sq ?_
     refine rx hΓ [4,5] [[4,0],[23,0],[60,0],[71,0],[85,0]] (fun K' hK=>by simp only[go_sem,aA ae,Int.toNat_natCast,Int.natCast_nonneg,ax];(repeat (refine⟨ai,?_⟩));exact hK _ (by simp only[go_sem]) (by simp only[go_sem]<;>rfl)) ?_
     refine aC ?_
     simp only[go_sem]
     first | (rw[e2];done) | (rw[e2];rfl) | (rw[e2];simp[kC,encGl])
    ·repeat refine sq ?_
     have ar:n.gl[i].so≠g.so:=by simpa using hb
     have D8:∀ j (h:j<n.gl.length),j<i+1->n.gl[j].so≠g.so:=fun j h hj=>by
      rcases Nat.lt_succ_iff_lt_or_eq.1 hj with h1 | rfl
      ·exact hR j h h1
      ·exact ar
     refine aR ?_
     repeat refine sq ?_
     refine dx hΓ hP [[],[0],[],[0,1,2],[0,1,2,3],[0,1,2,3,4],[],[6],[0,1,2,3,4,5,6,7],[0,1,2,3,4,5,6,7,8],[0,1,2,3,4,5,6,7,8,9],[0,1,2,3,4,5,6,7,8,9,10],[0,1,2,3,4,5,6,7,8,9,10,11]] [2,3,4,6,7,8,54] [[2,0],[3,0],[4,0],[6,0],[23,0],[60,0],[71,0],[85,0]] (by kernel_rfl) (fun K' hK=>by simp only[go_sem,aA ae,Int.toNat_natCast,Int.natCast_nonneg,ax];(repeat (refine⟨ai,?_⟩));(first | refine⟨by rfl,?_⟩ | skip);exact hK _ (by simp only[go_sem]) (by simp only[go_sem]<;>rfl)) ?_
     repeat refine sq ?_
     refine aQ rfl rfl (fun hb=>?_) (fun hb=>?_)
     ·repeat refine sq ?_
      have jL:i=k:=by
       simp only[Bool.and_eq_true,Bool.not_eq_true',decide_eq_false_iff_not,decide_eq_true_eq]at hb
       rcases Nat.lt_trichotomy i k with h | h | h
       ·have:=nx i ae h;omega
       ·exact h
       ·omega
      subst jL
      repeat refine sq ?_
      refine dx hΓ hP [[],[0],[],[2],[2,3],[0,1,2,3,4],[0,1,2,3,4,5],[0,1,2,3,4,5,6]] [2,3,4,6,8] [[2,0],[3,0],[4,0],[6,0],[23,0],[60,0],[71,0],[85,0]] (by kernel_rfl) (fun K' hK=>by simp only[go_sem,aA ae,Int.toNat_natCast,Int.natCast_nonneg,ax];(repeat (refine⟨by first | exact rz | exact ai,?_⟩));(first | refine⟨by rfl,?_⟩ | skip);exact hK _ (by simp only[go_sem]) (by simp only[go_sem]<;>rfl)) ?_
      repeat refine sq ?_
      refine rx hΓ [2,3,4,6,7,8] [[2,0],[3,0],[4,0],[6,0],[23,0],[60,0],[71,0],[85,0]] (fun K' hK=>by simp only[go_sem,aA ae,Int.toNat_natCast,Int.natCast_nonneg,ax];(repeat (refine⟨ai,?_⟩));exact hK _ (by simp only[go_sem]) (by simp only[go_sem]<;>rfl)) ?_
      repeat refine sq ?_
      refine kU hΓ hP [[],[0],[],[2],[],[2,3,4],[2,3,4,5],[2,3,4,5,6],[2,3,4,5,6,7],[0,1,2,3,4,5,6,7,8],[0,1,2,3,4,5,6,7,8,9],[0,1,2,3,4,5,6,7,8,9,10]] (by kernel_rfl) fun K' hK=>?_
      simp only[go_sem,aA ae,Int.toNat_natCast,Int.natCast_nonneg,ax,List.length_append,List.length_map,List.length_cons,List.length_nil]
      repeat (refine⟨by first | exact DI | exact ai,?_⟩)
      first | refine⟨by rfl,?_⟩ | skip
      refine hK _ ?_
      clear K' hK
      simp only[go_sem]
      refine kp [2,3,4,6,7,8] [[2,0],[3,0],[4,0],[6,0],[23,0],[60,0],[71,0],[85,0]] ?_
      repeat refine sq ?_
      refine bw hΓ fun K' hK=>?_
      simp only[go_sem,aA ae,Int.toNat_natCast,Int.natCast_nonneg,ax]
      repeat (refine⟨ai,?_⟩)
      refine hK _ ?_
      clear K' hK
      simp only[go_sem]
      refine⟨i+1,⟨ae,?_⟩,by(show n.gl.length-(i+1)<n.gl.length-i;omega),?_⟩
      ·exact D8
      refine bN [2,3,4,6,7,8] [[2,0],[3,0],[4,0],[6,0],[23,0],[60,0],[71,0],[85,0]] ?_ ?_
      ·simp only[go_sem,aT ae rC,Int.natCast_add,Int.natCast_one,x6 ae,Nat.lt_succ_self,decide_true,List.map_append,List.length_append,List.map_cons,List.map_nil,List.length_cons,List.length_nil,List.append_assoc,Nat.lt_irrefl]
      ·simp only[go_sem,aT ae rC,Int.natCast_add,Int.natCast_one,x6 ae,Nat.lt_succ_self,decide_true,List.map_append,List.length_append,List.map_cons,List.map_nil,List.length_cons,List.length_nil,List.append_assoc,Nat.lt_irrefl]
     ·repeat refine sq ?_
      have jL:i≠k:=by
       rintro rfl
       have :=eI i ae (Nat.le_refl _)
       simp at hb
       omega
      have DR:decide (k<i+1)=decide (k<i):=by rw[Bool.eq_iff_iff];simp;omega
      refine aR ?_
      repeat refine sq ?_
      refine kU hΓ hP [[],[0],[],[2],[],[2,3,4],[2,3,4,5],[2,3,4,5,6],[2,3,4,5,6,7],[0,1,2,3,4,5,6,7,8],[0,1,2,3,4,5,6,7,8,9],[0,1,2,3,4,5,6,7,8,9,10]] (by kernel_rfl) fun K' hK=>?_
      simp only[go_sem,aA ae,Int.toNat_natCast,Int.natCast_nonneg,ax,List.length_append,List.length_map,List.length_cons,List.length_nil]
      repeat (refine⟨by first | exact DI | exact ai,?_⟩)
      first | refine⟨by rfl,?_⟩ | skip
      refine hK _ ?_
      clear K' hK
      simp only[go_sem]
      refine kp [2,3,4,6,7,8] [[2,0],[3,0],[4,0],[6,0],[23,0],[60,0],[71,0],[85,0]] ?_
      repeat refine sq ?_
      refine bw hΓ fun K' hK=>?_
      simp only[go_sem,aA ae,Int.toNat_natCast,Int.natCast_nonneg,ax]
      repeat (refine⟨ai,?_⟩)
      refine hK _ ?_
      clear K' hK
      simp only[go_sem]
      refine⟨i+1,⟨ae,?_⟩,by(show n.gl.length-(i+1)<n.gl.length-i;omega),?_⟩
      ·exact D8
      refine bN [2,3,4,6,7,8] [[2,0],[3,0],[4,0],[6,0],[23,0],[60,0],[71,0],[85,0]] ?_ ?_
      ·simp only[go_sem,aT ae rC,Int.natCast_add,Int.natCast_one,xY ae fe jL,DR,List.map_append,List.length_append,List.map_cons,List.map_nil,List.length_cons,List.length_nil]
      ·simp only[go_sem,aT ae rC,Int.natCast_add,Int.natCast_one,xY ae fe jL,DR,List.map_append,List.length_append,List.map_cons,List.map_nil,List.length_cons,List.length_nil]
   ·have bH:i=n.gl.length:=by
     have :¬ (i:Int)<n.gl.length:=by simpa using hb
     omega
    clear hb
    subst bH
    have rv:cY Gl.so n.gl g.so=false:=by rw[Bool.eq_false_iff];intro h;obtain⟨j,hj,e⟩:=mc.1 h;exact hR j hj hj e
    have DX:(!bK n g||cY Gl.so n.gl g.so)=false:=by rw[re,rv];rfl
    have uW:=xZ (s:=g) (Nat.le_refl n.gl.length) fe
    have oW:(eV n.gl k g n.gl.length).length<=61:=by rw[uW];split<;>omega
    have kC:=IQ (s:=g) fe
    repeat refine sq ?_
    refine cG ?_
    simp only[go_sem]
    refine kp [2,3,4,6,7] [[2,0],[3,0],[4,0],[6,0],[23,0],[60,0],[71,0],[85,0]] ?_
    repeat refine sq ?_
    refine rx hΓ [3,4,6,7,76] [[3,0],[4,0],[6,0],[23,0],[60,0],[71,0],[85,0]] (fun K' hK=>by simp only[go_sem,List.length_map];(repeat (refine⟨ai,?_⟩));exact hK _ (by simp only[go_sem]) (by simp only[go_sem]<;>rfl)) ?_
    repeat refine sq ?_
    refine aQ rfl rfl (fun hb=>?_) (fun hb=>?_)
    ·repeat refine sq ?_
     have mj:n.gl.length=60:=by simp at hb;omega
     have e2:c7 n g=(eu,2):=by
      unfold c7
      rw[if_neg (by simp[ho]),if_neg (by simp[DX]),if_pos mj]
     repeat refine sq ?_
     refine rx hΓ [4,5] [[4,0],[23,0],[60,0],[71,0],[85,0]] (fun K' hK=>by simp only[go_sem];(repeat (refine⟨ai,?_⟩));exact hK _ (by simp only[go_sem]) (by simp only[go_sem]<;>rfl)) ?_
     refine aC ?_
     simp only[go_sem]
     first | (rw[e2];done) | (rw[e2];rfl) | (rw[e2];simp[kC,encGl])
    ·repeat refine sq ?_
     have mj:¬ n.gl.length=60:=by simp at hb;omega
     have e2:c7 n g=(⟨n.ho,n.pa,eD n.gl k g⟩,0):=by
      unfold c7
      rw[if_neg (by simp[ho]),if_neg (by simp[DX]),if_neg mj,<-hk]
     refine aR ?_
     repeat refine sq ?_
     refine rx hΓ [3,4,6,79] [[3,0],[4,0],[6,0],[23,0],[60,0],[71,0],[85,0]] (fun K' hK=>by simp only[go_sem];(repeat (refine⟨ai,?_⟩));exact hK _ (by simp only[go_sem]) (by simp only[go_sem]<;>rfl)) ?_
     repeat refine sq ?_
     refine aQ rfl rfl (fun hb=>?_) (fun hb=>?_)
     ·repeat refine sq ?_
      rw[if_neg (by simpa using hb)]at kC
      repeat refine sq ?_
      refine dx hΓ hP [[],[0],[],[2],[2,3],[0,1,2,3,4],[0,1,2,3,4,5],[0,1,2,3,4,5,6]] [4,6] [[4,0],[6,0],[23,0],[60,0],[71,0],[85,0]] (by kernel_rfl) (fun K' hK=>by simp only[go_sem];(repeat (refine⟨by first | exact rz | exact ai,?_⟩));(first | refine⟨by rfl,?_⟩ | skip);exact hK _ (by simp only[go_sem]) (by simp only[go_sem]<;>rfl)) ?_
      repeat refine sq ?_
      refine rx hΓ [4,5] [[4,0],[23,0],[60,0],[71,0],[85,0]] (fun K' hK=>by simp only[go_sem];(repeat (refine⟨ai,?_⟩));exact hK _ (by simp only[go_sem]) (by simp only[go_sem]<;>rfl)) ?_
      refine aC ?_
      simp only[go_sem]
      first | (rw[e2];done) | (rw[e2];rfl) | (rw[e2];simp[kC,encGl])
     ·repeat refine sq ?_
      rw[if_pos (by simpa using hb)]at kC
      refine aR ?_
      repeat refine sq ?_
      refine rx hΓ [4,5] [[4,0],[23,0],[60,0],[71,0],[85,0]] (fun K' hK=>by simp only[go_sem];(repeat (refine⟨ai,?_⟩));exact hK _ (by simp only[go_sem]) (by simp only[go_sem]<;>rfl)) ?_
      refine aC ?_
      simp only[go_sem]
      first | (rw[e2];done) | (rw[e2];rfl) | (rw[e2];simp[kC,encGl])
theorem M0:an Try.prog 33 S33:=Ir.sound
def b8(H:Nat)(f:Nat->Nat):List V:=(List.range H).map fun h=>au (f h:Nat)
def bq(H:Nat)(f:Nat->Bool):List V:=(List.range H).map fun h=>V.bool (f h)
@[go_sem] theorem ey(H:Nat)(f:Nat->Nat):(b8 H f).length=H:=by unfold b8;rw[List.length_map,List.length_range]
@[go_sem] theorem cl(H:Nat)(f:Nat->Bool):(bq H f).length=H:=by unfold bq;rw[List.length_map,List.length_range]
theorem yn{α:Type}(H:Nat)(f:Nat->α)(i:Nat)(x:α):((List.range H).map f).set i x=(List.range H).map fun j=>if j=i then x else f j:=by
 refine List.ext_getElem (by simp) fun j h1 h2=>?_
 rw[List.getElem_set]
 simp only[List.getElem_map,List.getElem_range]
 by_cases e:i=j
 ·subst e;simp
 ·rw[if_neg e,if_neg (fun h=>e h.symm)]
theorem x7(H:Nat)(f:Nat->Nat)(i x:Nat):(b8 H f).set i (au (x:Nat))=b8 H fun j=>if j=i then x else f j:=by
 unfold b8
 rw[yn]
 refine List.map_congr_left fun j _=>?_
 show _=au ((if j=i then x else f j:Nat):Int)
 split<;>rfl
theorem tq(H:Nat)(f:Nat->Bool)(i:Nat)(x:Bool):(bq H f).set i (.bool x)=bq H fun j=>if j=i then x else f j:=by
 unfold bq
 rw[yn]
 refine List.map_congr_left fun j _=>?_
 show _=V.bool (if j=i then x else f j)
 split<;>rfl
theorem x8{H:Nat}(f:Nat->Nat){i:Nat}(h:i<H):(b8 H f).getD i default=au (f i:Nat):=by
 unfold b8
 simp[List.getD_eq_getElem?_getD,h]
theorem ot{H:Nat}(f:Nat->Bool){i:Nat}(h:i<H):(bq H f).getD i default=.bool (f i):=by
 unfold bq
 simp[List.getD_eq_getElem?_getD,h]
theorem IT{H:Nat}{f g:Nat->Nat}(h:∀ i,i<H->f i=g i):b8 H f=b8 H g:=by
 unfold b8
 exact List.map_congr_left fun j hj=>by rw[h j (List.mem_range.1 hj)]
theorem IS(H:Nat):List.replicate H (au 0)=b8 H fun _=>0:=by
 unfold b8
 refine List.ext_getElem (by simp) fun j h1 h2=>?_
 simp
theorem ya(H:Nat):List.replicate H (V.bool false)=bq H fun _=>false:=by
 unfold bq
 refine List.ext_getElem (by simp) fun j h1 h2=>?_
 simp
theorem adb(H:Nat)(f:Nat->Nat):∀ y∈b8 H f,y.cells.length=1/\y.okc=true:=by
 intro y hy;obtain⟨x,_,rfl⟩:=List.mem_map.1 hy;exact⟨rfl,rfl⟩
theorem yu{k:Nat}(h:k<=40):2 ^ k<=2 ^ 40:=Nat.pow_le_pow_right (by decide) h
theorem xJ{k:Nat}(h:k<=40):IntKind.i64.wrap (1*2 ^ (min ((k:Int)).toNat 64))=((2 ^ k:Nat):Int):=by
 have h2:=yu h
 rw[Int.toNat_natCast,Nat.min_eq_left (by omega),Int.one_mul]
 have e:((2:Int) ^ k)=((2 ^ k:Nat):Int):=by rw[Int.natCast_pow];rfl
 rw[e]
 generalize 2 ^ k=m at h2 |-
 exact wrap_i64 (by omega) (by omega)
theorem PY{k:Nat}(h:k<=40):IntKind.i64.wrap (((2 ^ k:Nat):Int)-1)=((2 ^ k-1:Nat):Int):=by
 have h2:=yu h
 have h3:0<2 ^ k:=Nat.pow_pos (by decide)
 generalize 2 ^ k=m at h2 h3 |-
 rw[wrap_i64 (by omega) (by omega)]
 omega
theorem Jd{a b:Nat}(ha:a<2 ^ 40)(hb:b<2 ^ 40):IntKind.i64.wrap ((BitVec.ofInt IntKind.i64.bits (a:Int)||| BitVec.ofInt IntKind.i64.bits (b:Int)).toNat:Int)=((a||| b:Nat):Int):=by
 have h:=Nat.or_lt_two_pow ha hb
 have e:(BitVec.ofInt IntKind.i64.bits (a:Int)||| BitVec.ofInt IntKind.i64.bits (b:Int)).toNat=a||| b:=by
  rw[BitVec.ofInt_natCast,BitVec.ofInt_natCast,BitVec.toNat_or,BitVec.toNat_ofNat,BitVec.toNat_ofNat]
  show a % 2 ^ 64||| b % 2 ^ 64=_
  rw[Nat.mod_eq_of_lt (by omega),Nat.mod_eq_of_lt (by omega)]
 rw[e,wrap_i64 (by omega) (by omega)]
theorem F4{a b:Nat}(ha:a<2 ^ 40)(hb:b<2 ^ 40):IntKind.i64.wrap ((BitVec.ofInt IntKind.i64.bits (a:Int)&&& BitVec.ofInt IntKind.i64.bits (b:Int)).toNat:Int)=((a&&& b:Nat):Int):=by
 have h:=Nat.and_lt_two_pow a hb
 have e:(BitVec.ofInt IntKind.i64.bits (a:Int)&&& BitVec.ofInt IntKind.i64.bits (b:Int)).toNat=a&&& b:=by
  rw[BitVec.ofInt_natCast,BitVec.ofInt_natCast,BitVec.toNat_and,BitVec.toNat_ofNat,BitVec.toNat_ofNat]
  show a % 2 ^ 64&&& b % 2 ^ 64=_
  rw[Nat.mod_eq_of_lt (by omega),Nat.mod_eq_of_lt (by omega)]
 rw[e,wrap_i64 (by omega) (by omega)]
theorem QN{a p:Nat}(ha:a<2 ^ 40)(hp:p<=40):((IntKind.i64.wrap ((BitVec.ofInt IntKind.i64.bits ((a:Int).fdiv (2 ^ (min ((p:Int)).toNat 64)))&&& BitVec.ofInt IntKind.i64.bits 1).toNat:Int))==1)=a.testBit p:=by
 rw[Int.toNat_natCast,Nat.min_eq_left (by omega),Int.fdiv_eq_ediv_of_nonneg _ (by exact Int.le_of_lt (Int.pow_pos (by decide)))]
 have e:((2:Int) ^ p)=((2 ^ p:Nat):Int):=by rw[Int.natCast_pow];rfl
 rw[e,<-Int.natCast_ediv]
 have h1:a / 2 ^ p<2 ^ 40:=Nat.lt_of_le_of_lt (Nat.div_le_self _ _) ha
 have :=F4 (a:=a / 2 ^ p) (b:=1) h1 (by decide)
 rw[show ((1:Nat):Int)=1 from rfl]at this
 rw[this]
 have e2:(a / 2 ^ p&&& 1)=(a / 2 ^ p) % 2:=Nat.and_one_is_mod _
 rw[e2,Nat.testBit_eq_decide_div_mod_eq]
 rw[Bool.eq_iff_iff]
 simp only[beq_iff_eq,decide_eq_true_eq]
 omega
def en(pa:List Int)(x:Int):Nat:=(e6 (fun y=>y==x) pa).toNat
def dE(pa ms:List Int):Nat->Nat
 | 0=>0
 |z+1=>dE pa ms z||| 2 ^ en pa (ms.getD z default)
def de(g:Gl):Nat:=(g.ho-1).toNat
def full(n:Iv):Nat:=2 ^ n.pa.length-1
def bQ(n:Iv)(k:Int):Nat->Nat->Nat
 | 0=>fun _=>full n
 |z+1=>if cr (n.gl.getD z default) k=true then fun h=>if h=de (n.gl.getD z default)then bQ n k z h&&& dE n.pa (n.gl.getD z default).ms (n.gl.getD z default).ms.length else bQ n k z h else bQ n k z
def cv(n:Iv)(k:Int):Nat->Nat->Bool
 | 0=>fun _=>false
 |z+1=>if cr (n.gl.getD z default) k=true then fun h=>if h=de (n.gl.getD z default)then(cv n k z h||(dE n.pa (n.gl.getD z default).ms (n.gl.getD z default).ms.length != 0))else cv n k z h else cv n k z
def f0(x:Nat):Nat->Nat->Nat
 | 0=>fun _=>0
 |z+1=>fun h=>if h=z then x else f0 x z h
theorem EJ(x:Nat):∀ {z h:Nat},h<z->f0 x z h=x
 |z+1,h,hh=>by
  show (if h=z then x else f0 x z h)=x
  split
  ·rfl
  ·exact EJ x (by omega)
theorem C1{pa:List Int}{x:Int}:en pa x<=pa.length:=by
 unfold en e6
 split
 ·rw[Int.toNat_natCast];exact List.findIdx_le_length
 ·exact Nat.zero_le _
theorem Nq{pa:List Int}{x:Int}(h:cf pa x=true):0<=e6 (fun y=>y==x) pa:=by
 unfold cf at h
 unfold e6
 rw[if_pos h]
 omega
theorem qt{pa ms:List Int}(h:pa.length<=20):∀ z,dE pa ms z<2 ^ 40
 | 0=>Nat.pow_pos (by decide)
 |z+1=>Nat.or_lt_two_pow (qt h z) (Nat.pow_lt_pow_right (by decide) (by have:=C1 (pa:=pa) (x:=ms.getD z default);omega))
theorem PZ{n:Iv}(h:n.pa.length<=20):full n<2 ^ 40:=by
 unfold full
 have :2 ^ n.pa.length<=2 ^ 20:=Nat.pow_le_pow_right (by decide) h
 omega
theorem qy{n:Iv}(h:n.pa.length<=20)(k:Int):∀ z j,bQ n k z j<2 ^ 40
 | 0,_=>PZ h
 |z+1,j=>by
  unfold bQ
  split
  ·show (if j=_ then bQ n k z j&&& _ else bQ n k z j)<_
   split
   ·exact Nat.and_lt_two_pow _ (qt h _)
   ·exact qy h k z j
  ·exact qy h k z j
theorem tY{n:Iv}{k:Int}{z:Nat}(h:cr (n.gl.getD z default) k=true):
 bQ n k (z+1)=(fun h=>if h=de (n.gl.getD z default)then bQ n k z (de (n.gl.getD z default))&&& dE n.pa (n.gl.getD z default).ms (n.gl.getD z default).ms.length else bQ n k z h)/\
 cv n k (z+1)=(fun h=>if h=de (n.gl.getD z default)then(cv n k z (de (n.gl.getD z default))||(dE n.pa (n.gl.getD z default).ms (n.gl.getD z default).ms.length != 0))else cv n k z h):=by
 constructor
 ·show (if cr (n.gl.getD z default) k=true then _ else _)=_
  rw[if_pos h]
  funext j
  show (if j=_ then _ else _)=_
  by_cases e:j=de (n.gl.getD z default)
  ·rw[if_pos e,if_pos e,e]
  ·rw[if_neg e,if_neg e]
 ·show (if cr (n.gl.getD z default) k=true then _ else _)=_
  rw[if_pos h]
  funext j
  show (if j=_ then _ else _)=_
  by_cases e:j=de (n.gl.getD z default)
  ·rw[if_pos e,if_pos e,e]
  ·rw[if_neg e,if_neg e]
theorem t'{n:Iv}{k:Int}{z:Nat}(h:cr (n.gl.getD z default) k=false):bQ n k (z+1)=bQ n k z/\cv n k (z+1)=cv n k z:=by
 constructor
 ·show (if cr (n.gl.getD z default) k=true then _ else _)=_
  rw[if_neg (by rw[h];decide)]
 ·show (if cr (n.gl.getD z default) k=true then _ else _)=_
  rw[if_neg (by rw[h];decide)]
def p5(n:Iv)(k:Int):List V:=[.sl (n.pa.map au),.sl (b8 n.ho.toNat (bQ n k n.gl.length)),.sl (bq n.ho.toNat (cv n k n.gl.length))]
noncomputable def Gw:List (Nat×Spec):=[(100,S100),(98,S98),(71,S71)]
theorem RS:∀ f s,tbl Gw f=some s->an Try.prog f s:=tc M'<|tc MD<|tc CI<|tn
attribute [go_sem] Gw
noncomputable def P97:PSpec:=p3 iN iI (iF 98) (fun n _ _=>gu n) (fun n k _=>.ptr (p5 n k)) false
noncomputable def S97:Spec:=P97.toSpec
attribute [go_sem] P97 S97
set_option maxHeartbeats 16000000 in
theorem HQ:aS Try.prog 97 P97:=by
 refine w3 (rs:=[.tmp 6]) Try.func97 Try.ntmps97 (by rfl) (by kernel_rfl) (by decide) (fun h=>by cases h) ⟨_,rfl,lb rfl,fun n k u hp hw=>?_⟩
 have hP:=bf
 simp only[iF,iI,iN,iC]at hw |-
 have hΓ:=RS
 have hO:gu n:=hp
 obtain⟨ga,dR⟩:=hO.ho
 have kD:=hO.pal
 have OC:=hO.gll
 obtain⟨H,hH⟩:∃ H,n.ho.toNat=H:=⟨_,rfl⟩
 have hHi:n.ho=(H:Int):=by omega
 have PA:H<=24:=by omega
 have mh:H<=maxLen:=by unfold maxLen;omega
 have db:n.gl.length<=maxLen:=by unfold maxLen;omega
 have h0:(0:Int)<=n.ho:=by omega
 have eb:IntKind.i64.wrap (1*2 ^ (min n.pa.length 64))=((2 ^ n.pa.length:Nat):Int):=by have:=xJ (k:=n.pa.length) (by omega);rwa [Int.toNat_natCast]at this
 have OI:=PY (k:=n.pa.length) (by omega)
 repeat refine sq ?_
 refine rx hΓ [1,2,3] [[3,0]] (fun K' hK=>by simp only[go_sem];(repeat (refine⟨ai,?_⟩));exact hK _ (by simp only[go_sem]) (by simp only[go_sem]<;>rfl)) ?_
 repeat refine sq ?_
 refine dx hΓ hP [[],[0],[],[2],[2,3],[],[5],[5,6],[0,1,2,3,4,5,6,7],[0,1,2,3,4,5,6,7,8],[0,1,2,3,4,5,6,7,8,9]] [1,2,3,7] [[3,0],[18,0],[21,0],[23,0]] (by kernel_rfl) (fun K' hK=>by simp only[go_sem,hH,IS,ya,h0];(repeat (refine⟨ai,?_⟩));(first | refine⟨by rfl,?_⟩ | skip);exact hK _ (by simp only[go_sem]) (by simp only[go_sem]<;>rfl)) ?_
 repeat refine sq ?_
 refine rx hΓ [1,2,3,7,28,29] [[3,0],[18,0],[21,0],[23,0]] (fun K' hK=>by simp only[go_sem];(repeat (refine⟨ai,?_⟩));exact hK _ (by simp only[go_sem]) (by simp only[go_sem]<;>rfl)) ?_
 repeat refine sq ?_
 refine bd ?_
 repeat refine sq ?_
 refine cL (fun z:Nat=>[(29,⟨true,.v (au z)⟩)]) (fun z=>[([18,0],.arr 1 (b8 H (f0 (full n) z)))]) (fun z=>z<=H) (fun z=>H-z) 0 ?_ ?_ ?_ ?_
 ·exact Nat.zero_le _
 ·rfl
 ·rfl
 rintro i hi
 simp only[go_sem]
 repeat refine sq ?_
 refine rx hΓ [1,2,3,7,28,29,30] [[3,0],[18,0],[21,0],[23,0]] (fun K' hK=>by simp only[go_sem];(repeat (refine⟨ai,?_⟩));exact hK _ (by simp only[go_sem]) (by simp only[go_sem]<;>rfl)) ?_
 repeat refine sq ?_
 refine aQ rfl rfl (fun hb=>?_) (fun hb=>?_)
 ·have ae:i<H:=by simpa using hb
  have ax:(i:Int)<H:=by omega
  clear hb
  have Df:(b8 H (f0 (full n) i)).set i (V.int IntKind.i64 (IntKind.i64.wrap (IntKind.i64.wrap (1*2 ^ min n.pa.length 64)-1)))=b8 H (f0 (full n) (i+1)):=by rw[eb,OI];exact x7 H _ i (full n)
  repeat refine sq ?_
  refine aR ?_
  repeat refine sq ?_
  refine bd ?_
  repeat refine sq ?_
  refine rx hΓ [1,2,3,7,8,28,29] [[3,0],[18,0],[21,0],[23,0]] (fun K' hK=>by simp only[go_sem,Int.toNat_natCast,Int.natCast_nonneg,ax,ey];(repeat (refine⟨ai,?_⟩));exact hK _ (by simp only[go_sem]) (by simp only[go_sem]<;>rfl)) ?_
  repeat refine sq ?_
  refine kU hΓ hP [[],[0],[0,1],[0,1,2],[],[],[5],[5,6],[5,6,7],[5,6,7,8],[0,1,2,3,4,5,6,7,8,9],[0,1,2,3,4,5,6,7,8,9,10]] (by kernel_rfl) fun K' hK=>?_
  simp only[go_sem,Int.toNat_natCast,Int.natCast_nonneg,ax,ey,Int.toNat_natCast,Int.natCast_nonneg,ax,List.length_map,ey]
  repeat (refine⟨ai,?_⟩)
  first | refine⟨by rfl,?_⟩ | skip
  refine hK _ ?_
  clear K' hK
  simp only[go_sem]
  refine kp [1,2,3,7,28,29] [[3,0],[18,0],[21,0],[23,0]] ?_
  repeat refine sq ?_
  refine bw hΓ fun K' hK=>?_
  simp only[go_sem,Int.toNat_natCast,Int.natCast_nonneg,ax,ey]
  repeat (refine⟨ai,?_⟩)
  refine hK _ ?_
  clear K' hK
  simp only[go_sem]
  refine⟨i+1,ae,by(show H-(i+1)<H-i;omega),?_⟩
  refine bN [1,2,3,7,28,29] [[3,0],[18,0],[21,0],[23,0]] ?_ ?_
  ·simp only[go_sem,aT ae mh,Int.natCast_add,Int.natCast_one,Df]
  ·simp only[go_sem,aT ae mh,Int.natCast_add,Int.natCast_one,Df]
 ·have bH:i=H:=by
   have :¬ (i:Int)<H:=by simpa using hb
   omega
  clear hb
  subst bH
  rw[IT (f:=f0 (full n) i) (g:=bQ n k 0) fun j hj=>EJ _ hj]
  repeat refine sq ?_
  refine cG ?_
  simp only[go_sem]
  refine kp [1,2,3,7] [[3,0],[18,0],[21,0],[23,0]] ?_
  repeat refine sq ?_
  refine rx hΓ [1,2,3,7,45,46,47] [[3,0],[18,0],[21,0],[23,0]] (fun K' hK=>by simp only[go_sem];(repeat (refine⟨ai,?_⟩));exact hK _ (by simp only[go_sem]) (by simp only[go_sem]<;>rfl)) ?_
  repeat refine sq ?_
  refine bd ?_
  repeat refine sq ?_
  refine cL (fun z:Nat=>[(47,⟨true,.v (au z)⟩)]) (fun z=>[([18,0],.arr 1 (b8 i (bQ n k z))),([21,0],.arr 1 (bq i (cv n k z)))]) (fun z=>z<=n.gl.length) (fun z=>n.gl.length-z) 0 ?_ ?_ ?_ ?_
  ·exact Nat.zero_le _
  ·rfl
  ·rfl
  rintro i1 hi
  simp only[go_sem]
  repeat refine sq ?_
  refine rx hΓ [1,2,3,7,45,46,47,48] [[3,0],[18,0],[21,0],[23,0]] (fun K' hK=>by simp only[go_sem];(repeat (refine⟨ai,?_⟩));exact hK _ (by simp only[go_sem]) (by simp only[go_sem]<;>rfl)) ?_
  repeat refine sq ?_
  refine aQ rfl rfl (fun hb=>?_) (fun hb=>?_)
  ·have eH:i1<n.gl.length:=by simpa using hb
   have dv:(i1:Int)<n.gl.length:=by omega
   clear hb
   have aa:=hO.gl n.gl[i1] (List.getElem_mem eH)
   have eK:n.gl.getD i1 default=n.gl[i1]:=cF eH
   have o9:=mL aa
   have vr:=pv o9
   obtain⟨g,hg⟩:∃ g,g=n.gl[i1]:=⟨_,rfl⟩
   have gb:(n.gl.map encGl).getD i1 default=encGl g:=by rw[aA eH,hg]
   rw[<-hg]at aa eK o9 vr
   have hhb:1<=g.ho/\g.ho<=n.ho:=by
    unfold bK at aa
    unfold eN at o9
    simp only[Bool.and_eq_true,decide_eq_true_eq]at aa o9
    exact⟨(oH.1 o9.2.1).1,aa.2.1⟩
   have Ol:∀ x∈g.ms,cf n.pa x=true:=fun x hx=>by
    unfold bK at aa
    simp only[Bool.and_eq_true,Bool.not_eq_true',List.any_eq_false,Bool.not_eq_true]at aa
    have :=aa.2.2 x hx
    simpa using this
   have DA:g.ms.length<=maxLen:=by unfold maxLen;omega
   have DS:IntKind.i64.wrap (g.ho-1)=(de g:Int):=by unfold de;rw[wrap_i64 (by omega) (by omega)];omega
   have D6:de g<i:=by unfold de;omega
   have D5:((de g:Nat):Int)<(i:Int):=by omega
   repeat refine sq ?_
   refine aR ?_
   repeat refine sq ?_
   refine bd ?_
   repeat refine sq ?_
   refine rx hΓ [1,2,3,7,10,45,46,47] [[3,0],[10,0],[18,0],[21,0],[23,0]] (fun K' hK=>by simp only[go_sem,gb,Int.toNat_natCast,Int.natCast_nonneg,dv,List.length_map,ey,cl,gb,Int.toNat_natCast,Int.natCast_nonneg,dv,List.length_map];(repeat (refine⟨ai,?_⟩));exact hK _ (by simp only[go_sem]) (by simp only[go_sem]<;>rfl)) ?_
   repeat refine sq ?_
   refine rx hΓ [1,2,3,7,10,45,46,47,60] [[3,0],[10,0],[18,0],[21,0],[23,0]] (fun K' hK=>by simp only[go_sem,gb,Int.toNat_natCast,Int.natCast_nonneg,dv,List.length_map,ey,cl];(repeat (refine⟨ai,?_⟩));exact hK _ (by simp only[go_sem]) (by simp only[go_sem]<;>rfl)) ?_
   repeat refine sq ?_
   refine aQ rfl rfl (fun hb=>?_) (fun hb=>?_)
   ·repeat refine sq ?_
    have hc:cr (n.gl.getD i1 default) k=false:=by rw[eK];simpa using hb
    obtain⟨ph,pg⟩:=t' hc
    refine cG ?_
    simp only[go_sem]
    refine kp [1,2,3,7,45,46,47] [[3,0],[18,0],[21,0],[23,0]] ?_
    repeat refine sq ?_
    refine bw hΓ fun K' hK=>?_
    simp only[go_sem,gb,Int.toNat_natCast,Int.natCast_nonneg,dv,List.length_map,ey,cl]
    repeat (refine⟨ai,?_⟩)
    refine hK _ ?_
    clear K' hK
    simp only[go_sem]
    refine⟨i1+1,eH,by(show n.gl.length-(i1+1)<n.gl.length-i1;omega),?_⟩
    refine bN [1,2,3,7,45,46,47] [[3,0],[18,0],[21,0],[23,0]] ?_ ?_
    ·simp only[go_sem,aT eH db,Int.natCast_add,Int.natCast_one,ph,pg]
    ·simp only[go_sem,aT eH db,Int.natCast_add,Int.natCast_one,ph,pg]
   ·repeat refine sq ?_
    have hc:cr (n.gl.getD i1 default) k=true:=by rw[eK];simpa using hb
    obtain⟨ph,pg⟩:=tY hc
    rw[eK]at ph pg
    refine aR ?_
    repeat refine sq ?_
    refine rx hΓ [1,2,3,7,10,11,45,46,47] [[3,0],[10,0],[18,0],[21,0],[23,0]] (fun K' hK=>by simp only[go_sem,gb,Int.toNat_natCast,Int.natCast_nonneg,dv,List.length_map,ey,cl];(repeat (refine⟨ai,?_⟩));exact hK _ (by simp only[go_sem]) (by simp only[go_sem]<;>rfl)) ?_
    repeat refine sq ?_
    refine rx hΓ [1,2,3,7,10,11,45,46,47,62,63,64] [[3,0],[10,0],[18,0],[21,0],[23,0]] (fun K' hK=>by simp only[go_sem,gb,Int.toNat_natCast,Int.natCast_nonneg,dv,List.length_map,ey,cl];(repeat (refine⟨ai,?_⟩));exact hK _ (by simp only[go_sem]) (by simp only[go_sem]<;>rfl)) ?_
    repeat refine sq ?_
    refine bd ?_
    repeat refine sq ?_
    refine cL (fun z:Nat=>[(64,⟨true,.v (au z)⟩),(11,⟨true,.v (au (dE n.pa g.ms z:Nat))⟩)]) (fun z=>[]) (fun z=>z<=g.ms.length) (fun z=>g.ms.length-z) 0 ?_ ?_ ?_ ?_
    ·exact Nat.zero_le _
    ·rfl
    ·rfl
    rintro i2 hi
    simp only[go_sem]
    repeat refine sq ?_
    refine rx hΓ [1,2,3,7,10,11,45,46,47,62,63,64,65] [[3,0],[10,0],[18,0],[21,0],[23,0]] (fun K' hK=>by simp only[go_sem,gb,Int.toNat_natCast,Int.natCast_nonneg,dv,List.length_map,ey,cl];(repeat (refine⟨ai,?_⟩));exact hK _ (by simp only[go_sem]) (by simp only[go_sem]<;>rfl)) ?_
    repeat refine sq ?_
    refine aQ rfl rfl (fun hb=>?_) (fun hb=>?_)
    ·have fc:i2<g.ms.length:=by simpa using hb
     have nv:(i2:Int)<g.ms.length:=by omega
     clear hb
     have jD:=Nq (Ol g.ms[i2] (List.getElem_mem fc))
     have NG:e6 (fun y=>y==g.ms[i2]) n.pa=(en n.pa g.ms[i2]:Int):=by unfold en;omega
     have hxl:=C1 (pa:=n.pa) (x:=g.ms[i2])
     have NV:IntKind.i64.wrap (1*2 ^ (min (en n.pa g.ms[i2]) 64))=((2 ^ en n.pa g.ms[i2]:Nat):Int):=by have:=xJ (k:=en n.pa g.ms[i2]) (by omega);rwa [Int.toNat_natCast]at this
     have nq:=Jd (a:=dE n.pa g.ms i2) (b:=2 ^ en n.pa g.ms[i2]) (qt kD _) (Nat.pow_lt_pow_right (by decide) (by omega))
     dsimp only[IntKind.bits]at nq
     have dJ:dE n.pa g.ms (i2+1)=dE n.pa g.ms i2||| 2 ^ en n.pa g.ms[i2]:=by show _||| 2 ^ en n.pa (g.ms.getD i2 default)=_;rw[cF fc]
     repeat refine sq ?_
     refine aR ?_
     repeat refine sq ?_
     refine bd ?_
     repeat refine sq ?_
     refine rx hΓ [1,2,3,7,10,11,13,45,46,47,62,63,64] [[3,0],[10,0],[18,0],[21,0],[23,0]] (fun K' hK=>by simp only[go_sem,gb,Int.toNat_natCast,Int.natCast_nonneg,dv,List.length_map,ey,cl,aA fc,Int.toNat_natCast,Int.natCast_nonneg,nv];(repeat (refine⟨ai,?_⟩));exact hK _ (by simp only[go_sem]) (by simp only[go_sem]<;>rfl)) ?_
     repeat refine sq ?_
     refine bw hΓ fun K' hK=>?_
     simp only[go_sem,gb,Int.toNat_natCast,Int.natCast_nonneg,dv,List.length_map,ey,cl,aA fc,Int.toNat_natCast,Int.natCast_nonneg,nv,NG,NV,nq,Int.natCast_nonneg]
     repeat (refine⟨ai,?_⟩)
     refine hK _ ?_
     clear K' hK
     simp only[go_sem]
     refine kp [1,2,3,7,10,11,45,46,47,62,63,64] [[3,0],[10,0],[18,0],[21,0],[23,0]] ?_
     repeat refine sq ?_
     refine bw hΓ fun K' hK=>?_
     simp only[go_sem,gb,Int.toNat_natCast,Int.natCast_nonneg,dv,List.length_map,ey,cl,aA fc,Int.toNat_natCast,Int.natCast_nonneg,nv]
     repeat (refine⟨ai,?_⟩)
     refine hK _ ?_
     clear K' hK
     simp only[go_sem]
     refine⟨i2+1,fc,by(show g.ms.length-(i2+1)<g.ms.length-i2;omega),?_⟩
     refine bN [1,2,3,7,10,11,45,46,47,62,63,64] [[3,0],[10,0],[18,0],[21,0],[23,0]] ?_ ?_
     ·simp only[go_sem,aT fc DA,Int.natCast_add,Int.natCast_one,dJ]
     ·simp only[go_sem,aT fc DA,Int.natCast_add,Int.natCast_one,dJ]
    ·have vK:i2=g.ms.length:=by
      have :¬ (i2:Int)<g.ms.length:=by simpa using hb
      omega
     clear hb
     subst vK
     have Oj:=qt (ms:=g.ms) kD g.ms.length
     have D4:=F4 (qy kD k i1 (de g)) Oj
     dsimp only[IntKind.bits]at D4
     have N0:(b8 i (bQ n k i1)).set (de g) (V.int IntKind.i64 ((bQ n k i1 (de g)&&& dE n.pa g.ms g.ms.length:Nat):Int))=b8 i (bQ n k (i1+1)):=by rw[ph];exact x7 i _ _ _
     have NZ:(bq i (cv n k i1)).set (de g) (V.bool (cv n k i1 (de g)||(dE n.pa g.ms g.ms.length != 0)))=bq i (cv n k (i1+1)):=by rw[pg];exact tq i _ _ _
     have OH:=x8 (bQ n k i1) D6
     have OG:=ot (cv n k i1) D6
     have Of:(((dE n.pa g.ms g.ms.length:Nat):Int) != 0)=(dE n.pa g.ms g.ms.length != 0):=by rw[Bool.eq_iff_iff];simp
     repeat refine sq ?_
     refine cG ?_
     simp only[go_sem]
     refine kp [1,2,3,7,10,11,45,46,47] [[3,0],[10,0],[18,0],[21,0],[23,0]] ?_
     repeat refine sq ?_
     refine dx hΓ hP [[],[0],[0,1],[0,1,2],[],[4],[4,5],[0,1,2,3,4,5,6],[0,1,2,3,4,5,6,7],[],[0,1,2,3,4,5,6,7,8,9],[0,1,2,3,4,5,6,7,8,9,10],[0,1,2,3,4,5,6,7,8,9,10,11]] [1,2,3,7,10,11,45,46,47] [[3,0],[10,0],[18,0],[21,0],[23,0]] (by kernel_rfl) (fun K' hK=>by simp only[go_sem,gb,Int.toNat_natCast,Int.natCast_nonneg,dv,List.length_map,ey,cl,DS,D5,OH,D4,N0,Int.toNat_natCast,Int.natCast_nonneg];(repeat (refine⟨ai,?_⟩));(first | refine⟨by rfl,?_⟩ | skip);exact hK _ (by simp only[go_sem]) (by simp only[go_sem]<;>rfl)) ?_
     repeat refine sq ?_
     refine kU hΓ hP [[],[0],[0,1],[0,1,2],[],[4],[4,5],[],[7],[7,8],[7,8,9],[],[11],[11,12],[7,8,9,10,11,12,13],[7,8,9,10,11,12,13,14],[7,8,9,10,11,12,13,14,15],[7,8,9,10,11,12,13,14,15,16],[7,8,9,10,11,12,13,14,15,16,17],[7,8,9,10,11,12,13,14,15,16,17,18],[0,1,2,3,4,5,6,7,8,9,10,11,12,13,14,15,16,17,18,19],[0,1,2,3,4,5,6,7,8,9,10,11,12,13,14,15,16,17,18,19,20]] (by kernel_rfl) fun K' hK=>?_
     simp only[go_sem,gb,Int.toNat_natCast,Int.natCast_nonneg,dv,List.length_map,ey,cl,DS,D5,OG,Of,NZ,Int.toNat_natCast,Int.natCast_nonneg]
     repeat (refine⟨ai,?_⟩)
     first | refine⟨by rfl,?_⟩ | skip
     refine hK _ ?_
     clear K' hK
     simp only[go_sem]
     refine kp [1,2,3,7,45,46,47] [[3,0],[18,0],[21,0],[23,0]] ?_
     repeat refine sq ?_
     refine bw hΓ fun K' hK=>?_
     simp only[go_sem,gb,Int.toNat_natCast,Int.natCast_nonneg,dv,List.length_map,ey,cl]
     repeat (refine⟨ai,?_⟩)
     refine hK _ ?_
     clear K' hK
     simp only[go_sem]
     refine⟨i1+1,eH,by(show n.gl.length-(i1+1)<n.gl.length-i1;omega),?_⟩
     refine bN [1,2,3,7,45,46,47] [[3,0],[18,0],[21,0],[23,0]] ?_ ?_
     ·simp only[go_sem,aT eH db,Int.natCast_add,Int.natCast_one]
     ·simp only[go_sem,aT eH db,Int.natCast_add,Int.natCast_one]
  ·have vL:i1=n.gl.length:=by
    have :¬ (i1:Int)<n.gl.length:=by simpa using hb
    omega
   clear hb
   subst vL
   repeat refine sq ?_
   refine cG ?_
   simp only[go_sem]
   refine kp [7] [[18,0],[21,0],[23,0]] ?_
   repeat refine sq ?_
   refine rx hΓ [6] [[18,0],[21,0],[23,0]] (fun K' hK=>by simp only[go_sem];(repeat (refine⟨ai,?_⟩));exact hK _ (by simp only[go_sem]) (by simp only[go_sem]<;>rfl)) ?_
   refine aC ?_
   simp only[go_sem]
   rw[<-hH];rfl
theorem ME:an Try.prog 97 S97:=HQ.sound
structure Ask where
 (pa ho:Int)
 (ps hs:Bool)
 deriving Inhabited,DecidableEq
def EX(a:Ask):V:=.agg [au a.pa,au a.ho,.bool a.ps,.bool a.hs]
def E5:V->Ask
 | .agg [.int _ a,.int _ b,.bool c,.bool d]=>⟨a,b,c,d⟩
 |_=>default
def uM:En Ask:=⟨EX,E5⟩
@[go_sem] theorem adr(a:Ask):(⟨a.pa,a.ho,a.ps,a.hs⟩:Ask)=a:=rfl
attribute [go_sem] uM EX E5
def cM(a:Ask)(n:Iv)(k:Int):Int:=
 if cw n=false then 31 else if (a.ps&&!cf n.pa a.pa)=true then 32 else if (a.hs&&!ba a.ho 1 n.ho)=true then 33 else if gF k=false then 6 else 0
def mA(a:Ask)(n:Iv)(k:Int):V:=if cM a n k=0 then .ptr (p5 n k)else .nilp
noncomputable def Gv:List (Nat×Spec):=[(41,S41),(61,S61),(65,S65),(91,S91),(97,S97)]
theorem RR:∀ f s,tbl Gv f=some s->an Try.prog f s:=tc qL<|tc CK<|tc qJ<|tc CA<|tc ME<|tn
attribute [go_sem] Gv
noncomputable def P48:PSpec:=p3 uM iN iI (fun _ _ _=>True) (fun a n k=>.tup [mA a n k,au (cM a n k)]) false
noncomputable def S48:Spec:=P48.toSpec
attribute [go_sem] P48 S48
set_option maxHeartbeats 8000000 in
theorem Ig:aS Try.prog 48 P48:=by
 refine w3 (rs:=[.tmp 6,.tmp 7]) Try.func48 Try.ntmps48 (by rfl) (by kernel_rfl) (by decide) (fun h=>by cases h) ⟨_,rfl,lb rfl,fun a n k hp hw=>?_⟩
 have hP:=bf
 simp only[uM,iI,iN]at hw |-
 have hΓ:=RR
 repeat refine sq ?_
 refine rx hΓ [2,3,4] [[3,0],[4,0]] (fun K' hK=>by simp only[go_sem];(repeat (refine⟨ai,?_⟩));exact hK _ (by simp only[go_sem]) (by simp only[go_sem]<;>rfl)) ?_
 repeat refine sq ?_
 refine bd ?_
 repeat refine sq ?_
 refine rx hΓ [2,3,4,8] [[3,0],[4,0]] (fun K' hK=>by simp only[go_sem,m8];(repeat (refine⟨ai,?_⟩));exact hK _ (by simp only[go_sem]) (by simp only[go_sem]<;>rfl)) ?_
 repeat refine sq ?_
 refine aQ rfl rfl (fun hb=>?_) (fun hb=>?_)
 ·repeat refine sq ?_
  have ho:cw n=false:=by simpa using hb
  have e:cM a n k=31:=by unfold cM;rw[if_pos ho]
  repeat refine sq ?_
  refine rx hΓ [6,7] [] (fun K' hK=>by simp only[go_sem];(repeat (refine⟨ai,?_⟩));exact hK _ (by simp only[go_sem]) (by simp only[go_sem]<;>rfl)) ?_
  refine aC ?_
  simp only[go_sem]
  (unfold mA;rw[e];rfl)
 ·repeat refine sq ?_
  have ho:cw n=true:=by simpa using hb
  have hO:gu n:=lE ho
  repeat refine sq ?_
  refine rx hΓ [2,3,4,12] [[3,0],[4,0]] (fun K' hK=>by simp only[go_sem];(repeat (refine⟨ai,?_⟩));exact hK _ (by simp only[go_sem]) (by simp only[go_sem]<;>rfl)) ?_
  repeat refine sq ?_
  refine aQ rfl rfl (fun hb=>?_) (fun hb=>?_)
  ·repeat refine sq ?_
   have e:cM a n k=32:=by unfold cM;rw[if_neg (by rw[ho];decide),if_pos hb]
   repeat refine sq ?_
   refine rx hΓ [6,7] [] (fun K' hK=>by simp only[go_sem];(repeat (refine⟨ai,?_⟩));exact hK _ (by simp only[go_sem]) (by simp only[go_sem]<;>rfl)) ?_
   refine aC ?_
   simp only[go_sem]
   (unfold mA;rw[e];rfl)
  ·repeat refine sq ?_
   have wo:=hb
   repeat refine sq ?_
   refine rx hΓ [2,4,23] [[4,0]] (fun K' hK=>by simp only[go_sem];(repeat (refine⟨ai,?_⟩));exact hK _ (by simp only[go_sem]) (by simp only[go_sem]<;>rfl)) ?_
   repeat refine sq ?_
   refine aQ rfl rfl (fun hb=>?_) (fun hb=>?_)
   ·repeat refine sq ?_
    have e:cM a n k=33:=by unfold cM;rw[if_neg (by rw[ho];decide),if_neg (by rw[wo];decide),if_pos hb]
    repeat refine sq ?_
    refine rx hΓ [6,7] [] (fun K' hK=>by simp only[go_sem];(repeat (refine⟨ai,?_⟩));exact hK _ (by simp only[go_sem]) (by simp only[go_sem]<;>rfl)) ?_
    refine aC ?_
    simp only[go_sem]
    (unfold mA;rw[e];rfl)
   ·repeat refine sq ?_
    have Eg:=hb
    repeat refine sq ?_
    refine rx hΓ [2,4,34] [[4,0]] (fun K' hK=>by simp only[go_sem];(repeat (refine⟨ai,?_⟩));exact hK _ (by simp only[go_sem]) (by simp only[go_sem]<;>rfl)) ?_
    repeat refine sq ?_
    refine aQ rfl rfl (fun hb=>?_) (fun hb=>?_)
    ·repeat refine sq ?_
     have e:cM a n k=6:=by unfold cM;rw[if_neg (by rw[ho];decide),if_neg (by rw[wo];decide),if_neg (by rw[Eg];decide),if_pos (by simpa using hb)]
     repeat refine sq ?_
     refine rx hΓ [6,7] [] (fun K' hK=>by simp only[go_sem];(repeat (refine⟨ai,?_⟩));exact hK _ (by simp only[go_sem]) (by simp only[go_sem]<;>rfl)) ?_
     refine aC ?_
     simp only[go_sem]
     (unfold mA;rw[e];rfl)
    ·repeat refine sq ?_
     have e:cM a n k=0:=by unfold cM;rw[if_neg (by rw[ho];decide),if_neg (by rw[wo];decide),if_neg (by rw[Eg];decide),if_neg (by have h:=hb;simp only[Bool.not_eq_false']at h;rw[h];decide)]
     refine aR ?_
     refine fJ ?_
     simp only[go_sem]
     refine kp [2,4] [[4,0]] ?_
     repeat refine sq ?_
     refine rx hΓ [6,7] [] (fun K' hK=>by simp only[go_sem];(repeat (refine⟨by first | exact hO | exact ai,?_⟩));exact hK _ (by simp only[go_sem]) (by simp only[go_sem]<;>rfl)) ?_
     refine aC ?_
     simp only[go_sem]
     (unfold mA;rw[e];rfl)
theorem MU:an Try.prog 48 S48:=Ig.sound
structure Vw where
 pa:List Int
 f:List Nat
 b:List Bool
def nO(v:Vw):V:=.ptr [.sl (v.pa.map au),.sl (v.f.map fun x=>au (x:Nat)),.sl (v.b.map V.bool)]
def wR:V->Vw
 | .ptr [.sl a,.sl f,.sl b]=>⟨a.map im,f.map fun x=>(im x).toNat,b.map r9⟩
 |_=>⟨[],[],[]⟩
theorem Qe(l:List Nat):((l.map fun x=>au (x:Nat)).map fun x=>(im x).toNat)=l:=by
 rw[List.map_map]
 have :((fun x=>(im x).toNat)∘fun x:Nat=>au (x:Nat))=id:=funext fun x=>Int.toNat_natCast x
 rw[this,List.map_id]
def uK:En Vw:=⟨nO,wR⟩
theorem Qd(v:Vw):wR (nO v)=v:=by
 cases v
 show (⟨_,_,_⟩:Vw)=_
 rw[wT,Qe,Qg]
@[go_sem] theorem ads(v:Vw):wR (.ptr [.sl (v.pa.map au),.sl (v.f.map fun x=>au (x:Nat)),.sl (v.b.map V.bool)])=v:=Qd v
def p0(n:Iv)(k:Int):Vw:=⟨n.pa,(List.range n.ho.toNat).map (bQ n k n.gl.length),(List.range n.ho.toNat).map (cv n k n.gl.length)⟩
theorem GX(n:Iv)(k:Int): .ptr (p5 n k)=nO (p0 n k):=by
 unfold nO p0 p5 b8 bq
 simp only[List.map_map]
 rfl
attribute [go_sem] uK nO
def dZ(pa:List Int)(s:Nat):Nat->List Int
 | 0=>[]
 |z+1=>if s.testBit z=true then dZ pa s z++[pa.getD z default]else dZ pa s z
theorem yW(pa:List Int)(s:Nat):∀ z,(dZ pa s z).length<=z
 | 0=>Nat.le_refl _
 |z+1=>by
  have :=yW pa s z
  unfold dZ
  split
  ·rw[List.length_append];simp only[List.length_cons,List.length_nil];omega
  ·omega
noncomputable def P87:PSpec:=p2 uK iI (fun v s=>v.pa.length<=20/\0<=s/\s<1099511627776) (fun v s=>.sl ((dZ v.pa s.toNat v.pa.length).map au)) false
noncomputable def S87:Spec:=P87.toSpec
attribute [go_sem] P87 S87
set_option maxHeartbeats 8000000 in
theorem HY:aS Try.prog 87 P87:=by
 refine w2 (rs:=[.tmp 4]) Try.func87 Try.ntmps87 (by rfl) (by kernel_rfl) (by decide) (fun h=>by cases h) ⟨_,rfl,lb rfl,fun v s hp hw=>?_⟩
 have hP:=bf
 simp only[iI,uK]at hw |-
 have hΓ:=@fS Try.prog
 obtain⟨kD,Dg,nl⟩:=hp
 obtain⟨t,ht⟩:∃ t:Nat,s=(t:Int):=⟨s.toNat,by omega⟩
 subst ht
 have NP:t<2 ^ 40:=by omega
 have hl:v.pa.length<=maxLen:=by unfold maxLen;omega
 repeat refine sq ?_
 refine rx hΓ [0,1] [] (fun K' hK=>by simp only[go_sem];(repeat (refine⟨ai,?_⟩));exact hK _ (by simp only[go_sem]) (by simp only[go_sem]<;>rfl)) ?_
 repeat refine sq ?_
 refine rx hΓ [0,1,5] [[26,0]] (fun K' hK=>by simp only[go_sem];(repeat (refine⟨ai,?_⟩));exact hK _ (by simp only[go_sem]) (by simp only[go_sem]<;>rfl)) ?_
 refine fi (sY 5 [26,0] 1 (by simp only[go_sem]) (by simp only[go_sem]) [0,1,5] [[26,0]] ?_ rfl) ?_
 ·simp only[go_sem]
 simp only[go_sem]
 repeat refine sq ?_
 refine rx hΓ [1,5,11,12,13] [[26,0]] (fun K' hK=>by simp only[go_sem];(repeat (refine⟨ai,?_⟩));exact hK _ (by simp only[go_sem]) (by simp only[go_sem]<;>rfl)) ?_
 repeat refine sq ?_
 refine bd ?_
 repeat refine sq ?_
 refine cL (fun z:Nat=>[(13,⟨true,.v (au z)⟩),(5,⟨true,.msl [26,0] (dZ v.pa t z).length⟩)]) (fun z=>[([26,0],.arr 1 ((dZ v.pa t z).map au))]) (fun z=>z<=v.pa.length) (fun z=>v.pa.length-z) 0 ?_ ?_ ?_ ?_
 ·exact Nat.zero_le _
 ·rfl
 ·rfl
 rintro i hi
 simp only[go_sem]
 repeat refine sq ?_
 refine rx hΓ [1,5,11,12,13,14] [[26,0]] (fun K' hK=>by simp only[go_sem];(repeat (refine⟨ai,?_⟩));exact hK _ (by simp only[go_sem]) (by simp only[go_sem]<;>rfl)) ?_
 repeat refine sq ?_
 refine aQ rfl rfl (fun hb=>?_) (fun hb=>?_)
 ·have ae:i<v.pa.length:=by simpa using hb
  have ax:(i:Int)<v.pa.length:=by omega
  clear hb
  have rK:=QN (a:=t) (p:=i) NP (by omega)
  dsimp only[IntKind.bits]at rK
  rw[Int.toNat_natCast]at rK
  have hnl:=yW v.pa t i
  repeat refine sq ?_
  refine aR ?_
  repeat refine sq ?_
  refine bd ?_
  repeat refine sq ?_
  refine rx hΓ [1,5,6,7,11,12,13] [[26,0]] (fun K' hK=>by simp only[go_sem,aA ae,Int.toNat_natCast,Int.natCast_nonneg,ax];(repeat (refine⟨ai,?_⟩));exact hK _ (by simp only[go_sem]) (by simp only[go_sem]<;>rfl)) ?_
  repeat refine sq ?_
  refine rx hΓ [1,5,7,11,12,13,22] [[26,0]] (fun K' hK=>by simp only[go_sem,aA ae,Int.toNat_natCast,Int.natCast_nonneg,ax];(repeat (refine⟨ai,?_⟩));exact hK _ (by simp only[go_sem]) (by simp only[go_sem]<;>rfl)) ?_
  repeat refine sq ?_
  refine aQ rfl rfl (fun hb=>?_) (fun hb=>?_)
  ·repeat refine sq ?_
   have hk:dZ v.pa t (i+1)=dZ v.pa t i++[v.pa[i]]:=by rw[<-cF (z:=default) ae];exact if_pos (by rw[<-rK];exact hb)
   repeat refine sq ?_
   refine bw hΓ fun K' hK=>?_
   simp only[go_sem,aA ae,Int.toNat_natCast,Int.natCast_nonneg,ax]
   repeat (refine⟨ai,?_⟩)
   refine hK _ ?_
   clear K' hK
   simp only[go_sem]
   refine kp [1,5,11,12,13] [[26,0]] ?_
   repeat refine sq ?_
   refine bw hΓ fun K' hK=>?_
   simp only[go_sem,aA ae,Int.toNat_natCast,Int.natCast_nonneg,ax]
   repeat (refine⟨ai,?_⟩)
   refine hK _ ?_
   clear K' hK
   simp only[go_sem]
   refine⟨i+1,ae,by(show v.pa.length-(i+1)<v.pa.length-i;omega),?_⟩
   refine bN [1,5,11,12,13] [[26,0]] ?_ ?_
   ·simp only[go_sem,aT ae hl,Int.natCast_add,Int.natCast_one,hk,List.map_append,List.map_cons,List.map_nil,List.length_append,List.length_cons,List.length_nil]
   ·simp only[go_sem,aT ae hl,Int.natCast_add,Int.natCast_one,hk,List.map_append,List.map_cons,List.map_nil,List.length_append,List.length_cons,List.length_nil]
  ·repeat refine sq ?_
   have hk:dZ v.pa t (i+1)=dZ v.pa t i:=if_neg (by rw[<-rK,hb];decide)
   refine aR ?_
   refine fJ ?_
   simp only[go_sem]
   refine kp [1,5,11,12,13] [[26,0]] ?_
   repeat refine sq ?_
   refine bw hΓ fun K' hK=>?_
   simp only[go_sem,aA ae,Int.toNat_natCast,Int.natCast_nonneg,ax]
   repeat (refine⟨ai,?_⟩)
   refine hK _ ?_
   clear K' hK
   simp only[go_sem]
   refine⟨i+1,ae,by(show v.pa.length-(i+1)<v.pa.length-i;omega),?_⟩
   refine bN [1,5,11,12,13] [[26,0]] ?_ ?_
   ·simp only[go_sem,aT ae hl,Int.natCast_add,Int.natCast_one,hk,List.map_append,List.map_cons,List.map_nil,List.length_append,List.length_cons,List.length_nil]
   ·simp only[go_sem,aT ae hl,Int.natCast_add,Int.natCast_one,hk,List.map_append,List.map_cons,List.map_nil,List.length_append,List.length_cons,List.length_nil]
 ·have bH:i=v.pa.length:=by
   have :¬ (i:Int)<v.pa.length:=by simpa using hb
   omega
  clear hb
  subst bH
  repeat refine sq ?_
  refine cG ?_
  simp only[go_sem]
  refine kp [5] [[26,0]] ?_
  repeat refine sq ?_
  refine rx hΓ [4] [[26,0]] (fun K' hK=>by simp only[go_sem];(repeat (refine⟨ai,?_⟩));exact hK _ (by simp only[go_sem]) (by simp only[go_sem]<;>rfl)) ?_
  refine aC ?_
  simp only[go_sem]
  rw[Int.toNat_natCast]
theorem ML:an Try.prog 87 S87:=HY.sound
theorem MK(n:Iv)(k:Int)(hO:gu n)(obj:Name->Option O)(t:Name)(x:Nat)(hx:x<2 ^ 40):
 S87.app obj t [.v (.ptr [.sl (n.pa.map au),.sl (b8 n.ho.toNat (bQ n k n.gl.length)),.sl (bq n.ho.toNat (cv n k n.gl.length))]),.v (au (x:Nat))]=⟨True,.v (.sl ((dZ n.pa x n.pa.length).map au)),obj⟩:=by
 rw[show V.ptr [.sl (n.pa.map au),.sl (b8 n.ho.toNat (bQ n k n.gl.length)),.sl (bq n.ho.toNat (cv n k n.gl.length))]=nO (p0 n k)from GX n k]
 have hp:(p0 n k).pa.length<=20:=hO.pal
 have h0:(0:Int)<=(x:Int):=by omega
 have h1:(x:Int)<1099511627776:=by omega
 simp only[go_sem,hp,h0,h1,Int.toNat_natCast]
 rfl
theorem MJ(n:Iv)(k:Int)(obj:Name->Option O)(t:Name)(x:Nat):S87.foot obj t [.v (.ptr [.sl (n.pa.map au),.sl (b8 n.ho.toNat (bQ n k n.gl.length)),.sl (bq n.ho.toNat (cv n k n.gl.length))]),.v (au (x:Nat))]=[]/\S87.wrt obj t [.v (.ptr [.sl (n.pa.map au),.sl (b8 n.ho.toNat (bQ n k n.gl.length)),.sl (bq n.ho.toNat (cv n k n.gl.length))]),.v (au (x:Nat))]=[]:=⟨rfl,rfl⟩
def gn(h:Int):Ask:=⟨0,h,false,true⟩
def jm(n:Iv)(h k:Int):List Int:=if cM (gn h) n k=0 then dZ n.pa (bQ n k n.gl.length (h-1).toNat) n.pa.length else[]
def jn(n:Iv)(h k:Int):Bool:=if cM (gn h) n k=0 then cv n k n.gl.length (h-1).toNat else false
theorem Q2{a:Ask}{n:Iv}{k:Int}(h:cM a n k=0):gu n/\(a.hs=true->1<=a.ho/\a.ho<=n.ho)/\(a.ps=true->cf n.pa a.pa=true)/\gF k=true:=by
 unfold cM at h
 split at h
 ·cases h
 next h1=>
  split at h
  ·cases h
  next h2=>
   split at h
   ·cases h
   next h3=>
    split at h
    ·cases h
    next h4=>
     refine⟨lE (by simpa using h1),fun hh=>?_,fun hh=>?_,by simpa using h4⟩
     ·rw[hh]at h3
      exact oH.1 (by simpa using h3)
     ·rw[hh]at h2
      simpa using h2
noncomputable def xr:List (Nat×Spec):=[(48,S48),(87,S87)]
theorem RQ:∀ f s,tbl xr f=some s->an Try.prog f s:=tc MU<|tc ML<|tn
attribute [go_sem] xr
noncomputable def P36:PSpec:=p3 iN iI iI (fun _ _ _=>True) (fun n h k=>.tup [.sl ((jm n h k).map au),.bool (jn n h k),au (cM (gn h) n k)]) false
noncomputable def S36:Spec:=P36.toSpec
attribute [go_sem] P36 S36
set_option maxHeartbeats 8000000 in
theorem Io:aS Try.prog 36 P36:=by
 refine w3 (rs:=[.tmp 6,.tmp 7,.tmp 8]) Try.func36 Try.ntmps36 (by rfl) (by kernel_rfl) (by decide) (fun h=>by cases h) ⟨_,rfl,lb rfl,fun n h k hp hw=>?_⟩
 have hP:=bf
 simp only[iI,iN]at hw |-
 obtain⟨Γ,sN,hΓ,PX,PW,hN,Ed⟩:∃ (Γ:FuncId->Option Spec) (sN:Spec),(∀ f s,Γ f=some s->an Try.prog f s)/\Γ 48=some S48/\Γ 87=some sN/\(∀ (hO:gu n) (obj:Name->Option O) (t:Name) (x:Nat),x<2 ^ 40->sN.app obj t [.v (.ptr [.sl (n.pa.map au),.sl (b8 n.ho.toNat (bQ n k n.gl.length)),.sl (bq n.ho.toNat (cv n k n.gl.length))]),.v (au (x:Nat))]=⟨True,.v (.sl ((dZ n.pa x n.pa.length).map au)),obj⟩)/\∀ (obj:Name->Option O) (t:Name) (x:Nat),sN.foot obj t [.v (.ptr [.sl (n.pa.map au),.sl (b8 n.ho.toNat (bQ n k n.gl.length)),.sl (bq n.ho.toNat (cv n k n.gl.length))]),.v (au (x:Nat))]=[]/\sN.wrt obj t [.v (.ptr [.sl (n.pa.map au),.sl (b8 n.ho.toNat (bQ n k n.gl.length)),.sl (bq n.ho.toNat (cv n k n.gl.length))]),.v (au (x:Nat))]=[]:=⟨tbl xr,S87,RQ,rfl,rfl,fun hO obj t x hx=>MK n k hO obj t x hx,fun obj t x=>MJ n k obj t x⟩
 have hA:(⟨0,h,false,true⟩:Ask)=gn h:=rfl
 repeat refine sq ?_
 refine rx hΓ [1,2,3] [[3,0]] (fun K' hK=>by simp only[go_sem];(repeat (refine⟨ai,?_⟩));exact hK _ (by simp only[go_sem]) (by simp only[go_sem]<;>rfl)) ?_
 repeat refine sq ?_
 refine rx hΓ [1,9,10] [] (fun K' hK=>by simp only[go_sem,PX,hA];(repeat (refine⟨ai,?_⟩));exact hK _ (by simp only[go_sem]) (by simp only[go_sem]<;>rfl)) ?_
 repeat refine sq ?_
 refine rx hΓ [1,9,10,20] [] (fun K' hK=>by simp only[go_sem];(repeat (refine⟨ai,?_⟩));exact hK _ (by simp only[go_sem]) (by simp only[go_sem]<;>rfl)) ?_
 repeat refine sq ?_
 refine aQ rfl rfl (fun hb=>?_) (fun hb=>?_)
 ·repeat refine sq ?_
  have e0:cM (gn h) n k≠0:=by simpa using hb
  have e1:jm n h k=[]:=if_neg e0
  have e2:jn n h k=false:=if_neg e0
  repeat refine sq ?_
  refine rx hΓ [6,7,8] [] (fun K' hK=>by simp only[go_sem];(repeat (refine⟨ai,?_⟩));exact hK _ (by simp only[go_sem]) (by simp only[go_sem]<;>rfl)) ?_
  refine aC ?_
  simp only[go_sem]
  first | (rw[e1,e2];done) | (rw[e1,e2];rfl) | (rw[e1,e2,e0];done) | (rw[e1,e2,e0];rfl)
 ·repeat refine sq ?_
  have e0:cM (gn h) n k=0:=by simpa using hb
  have e1:jm n h k=dZ n.pa (bQ n k n.gl.length (h-1).toNat) n.pa.length:=if_pos e0
  have e2:jn n h k=cv n k n.gl.length (h-1).toNat:=if_pos e0
  obtain⟨hO,vI,_,_⟩:=Q2 e0
  obtain⟨h1,h2⟩:=vI rfl
  have cZ:1<=h:=h1
  have rP:h<=n.ho:=h2
  have adh:=hO.ho
  have ev:mA (gn h) n k=.ptr [.sl (n.pa.map au),.sl (b8 n.ho.toNat (bQ n k n.gl.length)),.sl (bq n.ho.toNat (cv n k n.gl.length))]:=if_pos e0
  have ea:IntKind.i64.wrap (h-1)=(((h-1).toNat:Nat):Int):=by rw[wrap_i64 (by omega) (by omega)];omega
  obtain⟨j,hj⟩:∃ j,j=(h-1).toNat:=⟨_,rfl⟩
  rw[<-hj]at ea e1 e2
  have iS:j<n.ho.toNat:=by omega
  have rE:(j:Int)<((n.ho.toNat:Nat):Int):=by omega
  have nz:=x8 (bQ n k n.gl.length) iS
  have iT:=ot (cv n k n.gl.length) iS
  have NI:=qy hO.pal k n.gl.length j
  rw[ev]
  refine aR ?_
  repeat refine sq ?_
  refine dx hΓ hP [[],[],[1],[1,2],[1,2,3],[],[5],[1,2,3,4,5,6],[1,2,3,4,5,6,7],[0,1,2,3,4,5,6,7,8],[],[10],[10,11],[10,11,12],[],[14],[10,11,12,13,14,15],[10,11,12,13,14,15,16],[0,1,2,3,4,5,6,7,8,9],[0,1,2,3,4,5,6,7,8,9,10,11,12,13,14,15,16,17,18],[0,1,2,3,4,5,6,7,8,9,10,11,12,13,14,15,16,17,18,19]] [6,7,8] [] (by kernel_rfl) (fun K' hK=>by simp only[go_sem,PW,ea,nz,iT,rE,hN hO _ _ _ NI,(Ed _ _ _).1,(Ed _ _ _).2,Int.toNat_natCast,Int.natCast_nonneg];(repeat (refine⟨ai,?_⟩));(first | refine⟨by rfl,?_⟩ | skip);exact hK _ (by simp only[go_sem]) (by simp only[go_sem]<;>rfl)) ?_
  refine aC ?_
  simp only[go_sem]
  first | (rw[e1,e2];done) | (rw[e1,e2];rfl) | (rw[e1,e2,e0];done) | (rw[e1,e2,e0];rfl)
theorem MX:an Try.prog 36 S36:=Io.sound
theorem ade(H:Nat)(f:Nat->Bool):∀ y∈bq H f,y.cells.length=1/\y.okc=true:=by
 intro y hy;obtain⟨x,_,rfl⟩:=List.mem_map.1 hy;exact⟨rfl,rfl⟩
def fh{α:Type}(p:α->Bool)(l:List α)(z:Nat):List α:=(l.take z).filter p
theorem EF{α:Type}(p:α->Bool)(l:List α)(z:Nat):(fh p l z).length<=l.length:=by
 unfold fh
 refine Nat.le_trans (List.length_filter_le _ _) ?_
 rw[List.length_take];omega
theorem wC{α:Type}{p:α->Bool}{l:List α}{i:Nat}(h:i<l.length)(hx:p l[i]=true):fh p l (i+1)=fh p l i++[l[i]]:=by
 unfold fh
 rw[List.take_add_one,List.getElem?_eq_getElem h,List.filter_append]
 show _++List.filter _ [l[i]]=_
 rw[List.filter_cons_of_pos (by simpa using hx)]
 rfl
theorem wD{α:Type}{p:α->Bool}{l:List α}{i:Nat}(h:i<l.length)(hx:p l[i]=false):fh p l (i+1)=fh p l i:=by
 unfold fh
 rw[List.take_add_one,List.getElem?_eq_getElem h,List.filter_append]
 show _++List.filter _ [l[i]]=_
 rw[List.filter_cons_of_neg (by simp[hx])]
 simp
def bV(n:Iv)(k:Int):List Gl:=fh (fun g=>cr g k) n.gl n.gl.length
noncomputable def P52:PSpec:=p2 iN iI (fun n _=>n.gl.length<=60) (fun n k=>.sl ((bV n k).map encGl)) false
noncomputable def S52:Spec:=P52.toSpec
attribute [go_sem] P52 S52
set_option maxHeartbeats 8000000 in
theorem If:aS Try.prog 52 P52:=by
 refine w2 (rs:=[.tmp 4]) Try.func52 Try.ntmps52 (by rfl) (by kernel_rfl) (by decide) (fun h=>by cases h) ⟨_,rfl,lb rfl,fun n k hp hw=>?_⟩
 have hP:=bf
 simp only[iI,iN]at hw |-
 have hΓ:=@fS Try.prog
 replace hp:n.gl.length<=60:=hp
 have db:n.gl.length<=maxLen:=by unfold maxLen;omega
 repeat refine sq ?_
 refine rx hΓ [1,2] [[2,0]] (fun K' hK=>by simp only[go_sem];(repeat (refine⟨ai,?_⟩));exact hK _ (by simp only[go_sem]) (by simp only[go_sem]<;>rfl)) ?_
 repeat refine sq ?_
 refine rx hΓ [1,2,5] [[2,0],[38,0]] (fun K' hK=>by simp only[go_sem];(repeat (refine⟨ai,?_⟩));exact hK _ (by simp only[go_sem]) (by simp only[go_sem]<;>rfl)) ?_
 refine fi (sY 5 [38,0] 5 (by simp only[go_sem]) (by simp only[go_sem]) [1,2,5] [[2,0],[38,0]] ?_ rfl) ?_
 ·simp only[go_sem]
 simp only[go_sem]
 repeat refine sq ?_
 refine rx hΓ [1,2,5,6] [[2,0],[38,0]] (fun K' hK=>by simp only[go_sem];(repeat (refine⟨ai,?_⟩));exact hK _ (by simp only[go_sem]) (by simp only[go_sem]<;>rfl)) ?_
 repeat refine sq ?_
 refine bd ?_
 repeat refine sq ?_
 refine cL (fun z:Nat=>[(6,⟨true,.v (au z)⟩),(5,⟨true,.msl [38,0] (fh (fun g=>cr g k) n.gl z).length⟩)]) (fun z=>[([38,0],.arr 5 ((fh (fun g=>cr g k) n.gl z).map encGl))]) (fun z=>z<=n.gl.length) (fun z=>n.gl.length-z) 0 ?_ ?_ ?_ ?_
 ·exact Nat.zero_le _
 ·rfl
 ·rfl
 rintro i hi
 simp only[go_sem]
 repeat refine sq ?_
 refine rx hΓ [1,2,5,6,12] [[2,0],[38,0]] (fun K' hK=>by simp only[go_sem];(repeat (refine⟨ai,?_⟩));exact hK _ (by simp only[go_sem]) (by simp only[go_sem]<;>rfl)) ?_
 repeat refine sq ?_
 refine aQ rfl rfl (fun hb=>?_) (fun hb=>?_)
 ·have ae:i<n.gl.length:=by simpa using hb
  have ax:(i:Int)<n.gl.length:=by omega
  clear hb
  have dn:=EF (fun g=>cr g k) n.gl i
  repeat refine sq ?_
  refine aR ?_
  repeat refine sq ?_
  refine bd ?_
  repeat refine sq ?_
  refine rx hΓ [1,2,5,6,7] [[2,0],[7,0],[38,0]] (fun K' hK=>by simp only[go_sem,aA ae,Int.toNat_natCast,Int.natCast_nonneg,ax];(repeat (refine⟨ai,?_⟩));exact hK _ (by simp only[go_sem]) (by simp only[go_sem]<;>rfl)) ?_
  repeat refine sq ?_
  refine rx hΓ [1,2,5,6,7,34] [[2,0],[7,0],[38,0]] (fun K' hK=>by simp only[go_sem,aA ae,Int.toNat_natCast,Int.natCast_nonneg,ax];(repeat (refine⟨ai,?_⟩));exact hK _ (by simp only[go_sem]) (by simp only[go_sem]<;>rfl)) ?_
  repeat refine sq ?_
  refine aQ rfl rfl (fun hb=>?_) (fun hb=>?_)
  ·repeat refine sq ?_
   have hk:=wC (p:=fun g=>cr g k) ae hb
   repeat refine sq ?_
   refine bw hΓ fun K' hK=>?_
   simp only[go_sem,aA ae,Int.toNat_natCast,Int.natCast_nonneg,ax]
   repeat (refine⟨ai,?_⟩)
   refine hK _ ?_
   clear K' hK
   simp only[go_sem]
   refine kp [1,2,5,6] [[2,0],[38,0]] ?_
   repeat refine sq ?_
   refine bw hΓ fun K' hK=>?_
   simp only[go_sem,aA ae,Int.toNat_natCast,Int.natCast_nonneg,ax]
   repeat (refine⟨ai,?_⟩)
   refine hK _ ?_
   clear K' hK
   simp only[go_sem]
   refine⟨i+1,ae,by(show n.gl.length-(i+1)<n.gl.length-i;omega),?_⟩
   refine bN [1,2,5,6] [[2,0],[38,0]] ?_ ?_
   ·simp only[go_sem,aT ae db,Int.natCast_add,Int.natCast_one,hk,List.map_append,List.map_cons,List.map_nil,List.length_append,List.length_cons,List.length_nil]
   ·simp only[go_sem,aT ae db,Int.natCast_add,Int.natCast_one,hk,List.map_append,List.map_cons,List.map_nil,List.length_append,List.length_cons,List.length_nil]
  ·repeat refine sq ?_
   have hk:=wD (p:=fun g=>cr g k) ae hb
   refine aR ?_
   refine fJ ?_
   simp only[go_sem]
   refine kp [1,2,5,6] [[2,0],[38,0]] ?_
   repeat refine sq ?_
   refine bw hΓ fun K' hK=>?_
   simp only[go_sem,aA ae,Int.toNat_natCast,Int.natCast_nonneg,ax]
   repeat (refine⟨ai,?_⟩)
   refine hK _ ?_
   clear K' hK
   simp only[go_sem]
   refine⟨i+1,ae,by(show n.gl.length-(i+1)<n.gl.length-i;omega),?_⟩
   refine bN [1,2,5,6] [[2,0],[38,0]] ?_ ?_
   ·simp only[go_sem,aT ae db,Int.natCast_add,Int.natCast_one,hk,List.map_append,List.map_cons,List.map_nil,List.length_append,List.length_cons,List.length_nil]
   ·simp only[go_sem,aT ae db,Int.natCast_add,Int.natCast_one,hk,List.map_append,List.map_cons,List.map_nil,List.length_append,List.length_cons,List.length_nil]
 ·have bH:i=n.gl.length:=by
   have :¬ (i:Int)<n.gl.length:=by simpa using hb
   omega
  clear hb
  subst bH
  repeat refine sq ?_
  refine cG ?_
  simp only[go_sem]
  refine kp [5] [[38,0]] ?_
  repeat refine sq ?_
  refine rx hΓ [4] [[38,0]] (fun K' hK=>by simp only[go_sem];(repeat (refine⟨ai,?_⟩));exact hK _ (by simp only[go_sem]) (by simp only[go_sem]<;>rfl)) ?_
  refine aC ?_
  simp only[go_sem]
  rfl
theorem MT:an Try.prog 52 S52:=If.sound
def bx(x:Int)(h:Nat)(l:List Gl):Nat->Bool
 | 0=>true
 |z+1=>bx x h l z&&(((l.getD z default).ho != (h:Int)+1)||cf (l.getD z default).ms x)
def eo(h:Nat)(l:List Gl):Nat->Bool
 | 0=>false
 |z+1=>eo h l z||((l.getD z default).ho==(h:Int)+1&&decide ((l.getD z default).ms.length>0))
def fB(f:Nat->Bool):Nat->Nat->Bool
 | 0=>fun _=>false
 |z+1=>fun h=>if h=z then f z else fB f z h
theorem EI(f:Nat->Bool):∀ {z h:Nat},h<z->fB f z h=f h
 |z+1,h,hh=>by
  show (if h=z then f z else fB f z h)=f h
  split
  ·next e=>rw[e]
  ·exact EI f (by omega)
theorem yb{H:Nat}{f g:Nat->Bool}(h:∀ i,i<H->f i=g i):bq H f=bq H g:=by
 unfold bq
 exact List.map_congr_left fun j hj=>by rw[h j (List.mem_range.1 hj)]
def kj(f:Nat->Nat->Bool)(z:Nat)(x:Bool)(h:Nat):Bool:=if h=z then x else f z h
def nV(pa:List Int)(l:List Gl)(H p:Nat):List V:=bq H fun h=>bx (pa.getD p default) h l l.length
@[go_sem] theorem QS(pa:List Int)(l:List Gl)(H p:Nat):(nV pa l H p).length=H:=cl _ _
def jc(pa:List Int)(l:List Gl)(H z:Nat):List V:=(List.range z).map fun p=>.sl (nV pa l H p)
theorem Ft(pa:List Int)(l:List Gl)(H z:Nat):jc pa l H (z+1)=jc pa l H z++[.sl (nV pa l H z)]:=by
 unfold jc;rw[List.range_succ,List.map_append];rfl
@[go_sem] theorem QR(pa:List Int)(l:List Gl)(H z:Nat):(jc pa l H z).length=z:=by unfold jc;simp
theorem x9(H:Nat)(f:Nat->Bool):bq (H+1) f=bq H f++[.bool (f H)]:=by
 unfold bq;rw[List.range_succ,List.map_append];rfl
def km(z:Nat):List V:=List.replicate z (au (-1))
theorem qv(z:Nat):km (z+1)=km z++[au (-1)]:=List.replicate_succ'
@[go_sem] theorem js(z:Nat):(km z).length=z:=List.length_replicate
theorem ada(pa:List Int)(l:List Gl)(H z:Nat):∀ y∈jc pa l H z,y.cells.length=1/\y.okc=true:=by
 intro y hy;obtain⟨x,_,rfl⟩:=List.mem_map.1 hy;exact⟨rfl,rfl⟩
theorem adf(z:Nat):∀ y∈km z,y.cells.length=1/\y.okc=true:=by
 intro y hy;rw[List.eq_of_mem_replicate hy];exact⟨rfl,rfl⟩
def jW(n:Iv)(l:List Gl):List V:=[.sl (jc n.pa l n.ho.toNat n.pa.length),.sl (bq n.ho.toNat fun h=>eo h l l.length),.sl (km n.ho.toNat),.sl (km n.pa.length)]
noncomputable def Gu:List (Nat×Spec):=[(29,S29)]
theorem RP:∀ f s,tbl Gu f=some s->an Try.prog f s:=tc CP<|tn
attribute [go_sem] Gu
noncomputable def P66:PSpec:=p2 iN kx (fun n l=>(1<=n.ho/\n.ho<=24)/\n.pa.length<=20/\l.length<=60) (fun n l=>.agg (jW n l)) false
noncomputable def S66:Spec:=P66.toSpec
attribute [go_sem] P66 S66
set_option maxHeartbeats 16000000 in
theorem H8:aS Try.prog 66 P66:=by
 refine w2 (rs:=[.cell 4 104]) Try.func66 Try.ntmps66 (by rfl) (by kernel_rfl) (by decide) (fun h=>by cases h) ⟨_,rfl,lb rfl,fun n l hp hw=>?_⟩
 have hP:=bf
 simp only[kx,iN]at hw |-
 have hΓ:=RP
 obtain⟨⟨ga,dR⟩,kD,hll⟩:=hp
 obtain⟨nho,pa,ngl⟩:=n
 replace ga:(1:Int)<=nho:=ga
 replace dR:nho<=24:=dR
 obtain⟨H,rfl⟩:∃ H:Nat,nho=(H:Int):=⟨nho.toNat,by omega⟩
 replace kD:pa.length<=20:=kD
 have PA:H<=24:=by omega
 have mh:H<=maxLen:=by unfold maxLen;omega
 have lZ:pa.length<=maxLen:=by unfold maxLen;omega
 have db:l.length<=maxLen:=by unfold maxLen;omega
 have h0:(0:Int)<=(H:Int):=by omega
 repeat refine sq ?_
 refine rx hΓ [1,2,4] [[2,0],[4,0],[72,0],[77,0],[115,0],[120,0]] (fun K' hK=>by simp only[go_sem];(repeat (refine⟨ai,?_⟩));exact hK _ (by simp only[go_sem]) (by simp only[go_sem]<;>rfl)) ?_
 repeat refine sq ?_
 refine rx hΓ [1,2,4,5] [[2,0],[4,0],[5,0],[72,0],[77,0],[115,0],[120,0]] (fun K' hK=>by simp only[go_sem];(repeat (refine⟨ai,?_⟩));exact hK _ (by simp only[go_sem]) (by simp only[go_sem]<;>rfl)) ?_
 refine fi (lk [5,0] [72,0] 0 1 _ rfl rfl rfl [1,2,4,5] [[2,0],[4,0],[5,0],[72,0],[77,0],[115,0],[120,0]] ?_ rfl) ?_
 ·simp only[go_sem,List.set_cons_succ,List.set_cons_zero]
 simp only[go_sem,List.set_cons_succ,List.set_cons_zero]
 refine fi (lk [5,0] [77,0] 3 1 _ rfl rfl rfl [1,2,4,5] [[2,0],[4,0],[5,0],[72,0],[77,0],[115,0],[120,0]] ?_ rfl) ?_
 ·simp only[go_sem,List.set_cons_succ,List.set_cons_zero]
 simp only[go_sem,List.set_cons_succ,List.set_cons_zero]
 repeat refine sq ?_
 refine rx hΓ [1,2,4,5,6] [[2,0],[4,0],[5,0],[72,0],[77,0],[115,0],[120,0]] (fun K' hK=>by simp only[go_sem];(repeat (refine⟨ai,?_⟩));exact hK _ (by simp only[go_sem]) (by simp only[go_sem]<;>rfl)) ?_
 repeat refine sq ?_
 refine bd ?_
 repeat refine sq ?_
 refine cL (fun z:Nat=>[(6,⟨true,.v (au z)⟩)]) (fun z=>[([5,0],.box [.msl [72,0] z,.nilsl,.nilsl,.msl [77,0] z]),([72,0],.arr 1 (jc pa l H z)),([77,0],.arr 1 (km z))]) (fun z=>z<=pa.length) (fun z=>pa.length-z) 0 ?_ ?_ ?_ ?_
 ·exact Nat.zero_le _
 ·rfl
 ·rfl
 rintro i hi
 simp only[go_sem]
 repeat refine sq ?_
 refine rx hΓ [1,2,4,5,6,17] [[2,0],[4,0],[5,0],[72,0],[77,0],[115,0],[120,0]] (fun K' hK=>by simp only[go_sem];(repeat (refine⟨ai,?_⟩));exact hK _ (by simp only[go_sem]) (by simp only[go_sem]<;>rfl)) ?_
 repeat refine sq ?_
 refine aQ rfl rfl (fun hb=>?_) (fun hb=>?_)
 ·have ae:i<pa.length:=by simpa using hb
  have ax:(i:Int)<pa.length:=by omega
  clear hb
  repeat refine sq ?_
  refine aR ?_
  repeat refine sq ?_
  refine bd ?_
  repeat refine sq ?_
  refine rx hΓ [1,2,4,5,6,7] [[2,0],[4,0],[5,0],[22,0],[72,0],[77,0],[115,0],[120,0]] (fun K' hK=>by simp only[go_sem,aA ae,Int.toNat_natCast,Int.natCast_nonneg,ax,h0,Int.toNat_natCast,ya];(repeat (refine⟨ai,?_⟩));exact hK _ (by simp only[go_sem]) (by simp only[go_sem]<;>rfl)) ?_
  repeat refine sq ?_
  refine rx hΓ [1,2,4,5,6,7,8] [[2,0],[4,0],[5,0],[22,0],[72,0],[77,0],[115,0],[120,0]] (fun K' hK=>by simp only[go_sem,aA ae,Int.toNat_natCast,Int.natCast_nonneg,ax];(repeat (refine⟨ai,?_⟩));exact hK _ (by simp only[go_sem]) (by simp only[go_sem]<;>rfl)) ?_
  repeat refine sq ?_
  refine bd ?_
  repeat refine sq ?_
  refine cL (fun z:Nat=>[(8,⟨true,.v (au z)⟩)]) (fun z=>[([22,0],.arr 1 (bq H (fB (fun h=>bx (pa.getD i default) h l l.length) z)))]) (fun z=>z<=H) (fun z=>H-z) 0 ?_ ?_ ?_ ?_
  ·exact Nat.zero_le _
  ·rfl
  ·rfl
  rintro i1 hi
  simp only[go_sem]
  repeat refine sq ?_
  refine rx hΓ [1,2,4,5,6,7,8,26] [[2,0],[4,0],[5,0],[22,0],[72,0],[77,0],[115,0],[120,0]] (fun K' hK=>by simp only[go_sem,aA ae,Int.toNat_natCast,Int.natCast_nonneg,ax];(repeat (refine⟨ai,?_⟩));exact hK _ (by simp only[go_sem]) (by simp only[go_sem]<;>rfl)) ?_
  repeat refine sq ?_
  refine aQ rfl rfl (fun hb=>?_) (fun hb=>?_)
  ·have eH:i1<H:=by simpa using hb
   have dv:(i1:Int)<H:=by omega
   clear hb
   have O8:(bq H (fB (fun h=>bx (pa.getD i default) h l l.length) i1)).set i1 (.bool true)=bq H (kj (fB (fun h=>bx (pa.getD i default) h l l.length)) i1 (bx (pa.getD i default) i1 l 0)):=tq H _ i1 true
   repeat refine sq ?_
   refine aR ?_
   repeat refine sq ?_
   refine bd ?_
   repeat refine sq ?_
   refine rx hΓ [1,2,4,5,6,7,8] [[2,0],[4,0],[5,0],[22,0],[72,0],[77,0],[115,0],[120,0]] (fun K' hK=>by simp only[go_sem,aA ae,Int.toNat_natCast,Int.natCast_nonneg,ax,Int.toNat_natCast,Int.natCast_nonneg,dv,cl,O8];(repeat (refine⟨ai,?_⟩));exact hK _ (by simp only[go_sem]) (by simp only[go_sem]<;>rfl)) ?_
   repeat refine sq ?_
   refine rx hΓ [1,2,4,5,6,7,8,9] [[2,0],[4,0],[5,0],[22,0],[72,0],[77,0],[115,0],[120,0]] (fun K' hK=>by simp only[go_sem,aA ae,Int.toNat_natCast,Int.natCast_nonneg,ax,Int.toNat_natCast,Int.natCast_nonneg,dv,cl];(repeat (refine⟨ai,?_⟩));exact hK _ (by simp only[go_sem]) (by simp only[go_sem]<;>rfl)) ?_
   repeat refine sq ?_
   refine bd ?_
   repeat refine sq ?_
   refine cL (fun z:Nat=>[(9,⟨true,.v (au z)⟩)]) (fun z=>[([22,0],.arr 1 (bq H (kj (fB (fun h=>bx (pa.getD i default) h l l.length)) i1 (bx (pa.getD i default) i1 l z))))]) (fun z=>z<=l.length) (fun z=>l.length-z) 0 ?_ ?_ ?_ ?_
   ·exact Nat.zero_le _
   ·rfl
   ·rfl
   rintro i2 hi
   simp only[go_sem]
   repeat refine sq ?_
   refine rx hΓ [1,2,4,5,6,7,8,9,35] [[2,0],[4,0],[5,0],[22,0],[72,0],[77,0],[115,0],[120,0]] (fun K' hK=>by simp only[go_sem,aA ae,Int.toNat_natCast,Int.natCast_nonneg,ax,Int.toNat_natCast,Int.natCast_nonneg,dv,cl];(repeat (refine⟨ai,?_⟩));exact hK _ (by simp only[go_sem]) (by simp only[go_sem]<;>rfl)) ?_
   repeat refine sq ?_
   refine aQ rfl rfl (fun hb=>?_) (fun hb=>?_)
   ·have fc:i2<l.length:=by simpa using hb
    have nv:(i2:Int)<l.length:=by omega
    clear hb
    have DJ:(bq H (kj (fB (fun h=>bx (pa.getD i default) h l l.length)) i1 (bx (pa.getD i default) i1 l i2))).getD i1 default=.bool (bx (pa.getD i default) i1 l i2):=by rw[ot _ eH];unfold kj;rw[if_pos rfl]
    have NY:∀ x:Bool,(bq H (kj (fB (fun h=>bx (pa.getD i default) h l l.length)) i1 (bx (pa.getD i default) i1 l i2))).set i1 (.bool x)=bq H (kj (fB (fun h=>bx (pa.getD i default) h l l.length)) i1 x):=fun x=>by
     rw[tq]
     refine yb fun j _=>?_
     unfold kj
     by_cases e:j=i1
     ·rw[if_pos e,if_pos e]
     ·rw[if_neg e,if_neg e,if_neg e]
    have ea:IntKind.i64.wrap ((i1:Int)+1)=(i1:Int)+1:=wrap_i64 (by omega) (by omega)
    have N':(pa.map au).getD i default=au (pa.getD i default):=by rw[aA ae,cF ae]
    have Om:(i:Int)<(pa.length:Int):=by omega
    have Oq:(i1:Int)<(H:Int):=by omega
    have eM:bx (pa.getD i default) i1 l (i2+1)=(bx (pa.getD i default) i1 l i2&&((l[i2].ho != (i1:Int)+1)||cf l[i2].ms pa[i])):=by rw[<-cF (z:=default) fc,<-cF (z:=default) ae];rfl
    repeat refine sq ?_
    refine aR ?_
    repeat refine sq ?_
    refine bd ?_
    repeat refine sq ?_
    refine kU hΓ hP [[],[],[],[],[2,3],[2,3,4],[2,3,4,5],[2,3,4,5,6],[2,3,4,5,6],[2,3,4,5,6,7,8],[2,3,4,5,6,7,8,9],[2,3,4,5,6,7,8,9,10],[2,3,4,5,6],[2,3,4,5,6,12],[2,3,4,5,6,7,8,9,10,11,12,13],[2,3,4,5,6,7,8,9,10,11,12,13,14],[2,3,4,5,6,7,8,9,10,11,12,13,14,15],[2,3,4,5,6,7,8,9,10,11,12,13,14,15],[2,3,4,5,6,7,8,9,10,11,12,13,14,15,16,17],[2,3,4,5,6,7,8,9,10,11,12,13,14,15,16,17,18],[2,3,4,5,6,7,8,9,10,11,12,13,14,15,16,17,18,19],[2,3,4,5,6,7,8,9,10,11,12,13,14,15],[2,3,4,5,6,7,8,9,10,11,12,13,14,15,21],[2,3,4,5,6,7,8,9,10,11,12,13,14,15],[2,3,4,5,6,7,8,9,10,11,12,13,14,15,21,22,23],[2,3,4,5,6,7,8,9,10,11,12,13,14,15,21,22,23,24],[2,3,4,5,6,7,8,9,10,11,12,13,14,15,16,17,18,19,20,21,22,23,24,25],[2,3,4,5,6,7,8,9,10,11,12,13,14,15,16,17,18,19,20,21,22,23,24,25,26],[2,3,4,5,6,7,8,9,10,11,12,13,14,15,16,17,18,19,20,21,22,23,24,25,26,27],[0,1,2,3,4,5,6,7,8,9,10,11,12,13,14,15,16,17,18,19,20,21,22,23,24,25,26,27,28],[0,1,2,3,4,5,6,7,8,9,10,11,12,13,14,15,16,17,18,19,20,21,22,23,24,25,26,27,28,29]] (by kernel_rfl) fun K' hK=>?_
    simp only[go_sem,aA ae,Int.toNat_natCast,Int.natCast_nonneg,ax,Int.toNat_natCast,Int.natCast_nonneg,dv,cl,aA fc,Int.toNat_natCast,Int.natCast_nonneg,nv,DJ,ea,N',NY,Om,Oq,cl]
    repeat (refine⟨ai,?_⟩)
    first | refine⟨by rfl,?_⟩ | skip
    refine hK _ ?_
    clear K' hK
    simp only[go_sem]
    refine kp [1,2,4,5,6,7,8,9] [[2,0],[4,0],[5,0],[22,0],[72,0],[77,0],[115,0],[120,0]] ?_
    repeat refine sq ?_
    refine bw hΓ fun K' hK=>?_
    simp only[go_sem,aA ae,Int.toNat_natCast,Int.natCast_nonneg,ax,Int.toNat_natCast,Int.natCast_nonneg,dv,cl,aA fc,Int.toNat_natCast,Int.natCast_nonneg,nv]
    repeat (refine⟨ai,?_⟩)
    refine hK _ ?_
    clear K' hK
    simp only[go_sem]
    refine⟨i2+1,fc,by(show l.length-(i2+1)<l.length-i2;omega),?_⟩
    refine bN [1,2,4,5,6,7,8,9] [[2,0],[4,0],[5,0],[22,0],[72,0],[77,0],[115,0],[120,0]] ?_ ?_
    ·simp only[go_sem,aT fc db,Int.natCast_add,Int.natCast_one,eM]
    ·simp only[go_sem,aT fc db,Int.natCast_add,Int.natCast_one,eM]
   ·have vK:i2=l.length:=by
     have :¬ (i2:Int)<l.length:=by simpa using hb
     omega
    clear hb
    subst vK
    have nB:bq H (kj (fB (fun h=>bx (pa.getD i default) h l l.length)) i1 (bx (pa.getD i default) i1 l l.length))=bq H (fB (fun h=>bx (pa.getD i default) h l l.length) (i1+1)):=rfl
    repeat refine sq ?_
    refine cG ?_
    simp only[go_sem]
    refine kp [1,2,4,5,6,7,8] [[2,0],[4,0],[5,0],[22,0],[72,0],[77,0],[115,0],[120,0]] ?_
    repeat refine sq ?_
    refine bw hΓ fun K' hK=>?_
    simp only[go_sem,aA ae,Int.toNat_natCast,Int.natCast_nonneg,ax,Int.toNat_natCast,Int.natCast_nonneg,dv,cl]
    repeat (refine⟨ai,?_⟩)
    refine hK _ ?_
    clear K' hK
    simp only[go_sem]
    refine⟨i1+1,eH,by(show H-(i1+1)<H-i1;omega),?_⟩
    refine bN [1,2,4,5,6,7,8] [[2,0],[4,0],[5,0],[22,0],[72,0],[77,0],[115,0],[120,0]] ?_ ?_
    ·simp only[go_sem,aT eH mh,Int.natCast_add,Int.natCast_one,nB]
    ·simp only[go_sem,aT eH mh,Int.natCast_add,Int.natCast_one,nB]
  ·have vL:i1=H:=by
    have :¬ (i1:Int)<H:=by simpa using hb
    omega
   clear hb
   subst vL
   have pf:bq i1 (fB (fun h=>bx (pa.getD i default) h l l.length) i1)=nV pa l i1 i:=yb fun j hj=>EI _ hj
   rw[pf]
   refine fi (GS 7 (.msl [22,0] i1) (by simp only[go_sem]) (by simp only[go_sem]) [1,2,4,5,6,7] [[2,0],[4,0],[5,0],[22,0],[72,0],[77,0]] ?_ rfl) ?_
   ·simp only[go_sem]
   simp only[go_sem]
   repeat refine sq ?_
   refine cG ?_
   simp only[go_sem]
   refine kp [1,2,4,5,6,7] [[2,0],[4,0],[5,0],[22,0],[72,0],[77,0],[115,0],[120,0]] ?_
   repeat refine sq ?_
   refine rx hΓ [1,2,4,5,6] [[2,0],[4,0],[5,0],[72,0],[77,0],[115,0],[120,0]] (fun K' hK=>by simp only[go_sem,aA ae,Int.toNat_natCast,Int.natCast_nonneg,ax,QR,List.length_append,List.length_cons,List.length_nil];(repeat (refine⟨ai,?_⟩));exact hK _ (by simp only[go_sem]) (by simp only[go_sem]<;>rfl)) ?_
   repeat refine sq ?_
   refine bw hΓ fun K' hK=>?_
   simp only[go_sem,aA ae,Int.toNat_natCast,Int.natCast_nonneg,ax,js,List.length_append,List.length_cons,List.length_nil]
   repeat (refine⟨ai,?_⟩)
   refine hK _ ?_
   clear K' hK
   simp only[go_sem]
   refine kp [1,2,4,5,6] [[2,0],[4,0],[5,0],[72,0],[77,0],[115,0],[120,0]] ?_
   repeat refine sq ?_
   refine bw hΓ fun K' hK=>?_
   simp only[go_sem,aA ae,Int.toNat_natCast,Int.natCast_nonneg,ax]
   repeat (refine⟨ai,?_⟩)
   refine hK _ ?_
   clear K' hK
   simp only[go_sem]
   refine⟨i+1,ae,by(show pa.length-(i+1)<pa.length-i;omega),?_⟩
   refine bN [1,2,4,5,6] [[2,0],[4,0],[5,0],[72,0],[77,0],[115,0],[120,0]] ?_ ?_
   ·simp only[go_sem,aT ae lZ,Int.natCast_add,Int.natCast_one,Ft,qv]
   ·simp only[go_sem,aT ae lZ,Int.natCast_add,Int.natCast_one,Ft,qv]
 ·have bH:i=pa.length:=by
   have :¬ (i:Int)<pa.length:=by simpa using hb
   omega
  clear hb
  subst bH
  repeat refine sq ?_
  refine cG ?_
  simp only[go_sem]
  refine kp [1,2,4,5] [[2,0],[4,0],[5,0],[72,0],[77,0],[115,0],[120,0]] ?_
  repeat refine sq ?_
  refine rx hΓ [1,2,4,5,10] [[2,0],[4,0],[5,0],[72,0],[77,0],[115,0],[120,0]] (fun K' hK=>by simp only[go_sem];(repeat (refine⟨ai,?_⟩));exact hK _ (by simp only[go_sem]) (by simp only[go_sem]<;>rfl)) ?_
  refine fi (lk [5,0] [115,0] 1 1 _ rfl rfl rfl [1,2,4,5,10] [[2,0],[4,0],[5,0],[72,0],[77,0],[115,0],[120,0]] ?_ rfl) ?_
  ·simp only[go_sem,List.set_cons_succ,List.set_cons_zero]
  simp only[go_sem,List.set_cons_succ,List.set_cons_zero]
  refine fi (lk [5,0] [120,0] 2 1 _ rfl rfl rfl [1,2,4,5,10] [[2,0],[4,0],[5,0],[72,0],[77,0],[115,0],[120,0]] ?_ rfl) ?_
  ·simp only[go_sem,List.set_cons_succ,List.set_cons_zero]
  simp only[go_sem,List.set_cons_succ,List.set_cons_zero]
  repeat refine sq ?_
  refine bd ?_
  repeat refine sq ?_
  refine cL (fun z:Nat=>[(10,⟨true,.v (au z)⟩)]) (fun z=>[([5,0],.box [.msl [72,0] pa.length,.msl [115,0] z,.msl [120,0] z,.msl [77,0] pa.length]),([115,0],.arr 1 (bq z fun h=>eo h l l.length)),([120,0],.arr 1 (km z))]) (fun z=>z<=H) (fun z=>H-z) 0 ?_ ?_ ?_ ?_
  ·exact Nat.zero_le _
  ·rfl
  ·rfl
  rintro i3 hi
  simp only[go_sem]
  repeat refine sq ?_
  refine rx hΓ [1,2,4,5,10,82] [[2,0],[4,0],[5,0],[72,0],[77,0],[115,0],[120,0]] (fun K' hK=>by simp only[go_sem];(repeat (refine⟨ai,?_⟩));exact hK _ (by simp only[go_sem]) (by simp only[go_sem]<;>rfl)) ?_
  repeat refine sq ?_
  refine aQ rfl rfl (fun hb=>?_) (fun hb=>?_)
  ·have o5:i3<H:=by simpa using hb
   have kH:(i3:Int)<H:=by omega
   clear hb
   repeat refine sq ?_
   refine aR ?_
   repeat refine sq ?_
   refine bd ?_
   repeat refine sq ?_
   refine rx hΓ [1,2,4,5,10,11] [[2,0],[4,0],[5,0],[72,0],[77,0],[115,0],[120,0]] (fun K' hK=>by simp only[go_sem,Int.toNat_natCast,Int.natCast_nonneg,kH,cl,js];(repeat (refine⟨ai,?_⟩));exact hK _ (by simp only[go_sem]) (by simp only[go_sem]<;>rfl)) ?_
   repeat refine sq ?_
   refine rx hΓ [1,2,4,5,10,11,12] [[2,0],[4,0],[5,0],[72,0],[77,0],[115,0],[120,0]] (fun K' hK=>by simp only[go_sem,Int.toNat_natCast,Int.natCast_nonneg,kH,cl,js];(repeat (refine⟨ai,?_⟩));exact hK _ (by simp only[go_sem]) (by simp only[go_sem]<;>rfl)) ?_
   repeat refine sq ?_
   refine bd ?_
   repeat refine sq ?_
   refine cL (fun z:Nat=>[(12,⟨true,.v (au z)⟩),(11,⟨true,.v (.bool (eo i3 l z))⟩)]) (fun z=>[]) (fun z=>z<=l.length) (fun z=>l.length-z) 0 ?_ ?_ ?_ ?_
   ·exact Nat.zero_le _
   ·rfl
   ·rfl
   rintro i4 hi
   simp only[go_sem]
   repeat refine sq ?_
   refine rx hΓ [1,2,4,5,10,11,12,88] [[2,0],[4,0],[5,0],[72,0],[77,0],[115,0],[120,0]] (fun K' hK=>by simp only[go_sem,Int.toNat_natCast,Int.natCast_nonneg,kH,cl,js];(repeat (refine⟨ai,?_⟩));exact hK _ (by simp only[go_sem]) (by simp only[go_sem]<;>rfl)) ?_
   repeat refine sq ?_
   refine aQ rfl rfl (fun hb=>?_) (fun hb=>?_)
   ·have nu:i4<l.length:=by simpa using hb
    have Dz:(i4:Int)<l.length:=by omega
    clear hb
    have ea:IntKind.i64.wrap ((i3:Int)+1)=(i3:Int)+1:=wrap_i64 (by omega) (by omega)
    have eM:eo i3 l (i4+1)=(eo i3 l i4||(l[i4].ho==(i3:Int)+1&&decide (l[i4].ms.length>0))):=by rw[<-cF (z:=default) nu];rfl
    have u9:decide ((l[i4].ms.length:Int)>0)=decide (l[i4].ms.length>0):=EZ 0 _
    repeat refine sq ?_
    refine aR ?_
    repeat refine sq ?_
    refine bd ?_
    repeat refine sq ?_
    refine bw hΓ fun K' hK=>?_
    simp only[go_sem,Int.toNat_natCast,Int.natCast_nonneg,kH,cl,js,aA nu,Int.toNat_natCast,Int.natCast_nonneg,Dz,ea,u9,List.length_map]
    repeat (refine⟨ai,?_⟩)
    refine hK _ ?_
    clear K' hK
    simp only[go_sem]
    refine kp [1,2,4,5,10,11,12] [[2,0],[4,0],[5,0],[72,0],[77,0],[115,0],[120,0]] ?_
    repeat refine sq ?_
    refine bw hΓ fun K' hK=>?_
    simp only[go_sem,Int.toNat_natCast,Int.natCast_nonneg,kH,cl,js,aA nu,Int.toNat_natCast,Int.natCast_nonneg,Dz]
    repeat (refine⟨ai,?_⟩)
    refine hK _ ?_
    clear K' hK
    simp only[go_sem]
    refine⟨i4+1,nu,by(show l.length-(i4+1)<l.length-i4;omega),?_⟩
    refine bN [1,2,4,5,10,11,12] [[2,0],[4,0],[5,0],[72,0],[77,0],[115,0],[120,0]] ?_ ?_
    ·simp only[go_sem,aT nu db,Int.natCast_add,Int.natCast_one,eM]
    ·simp only[go_sem,aT nu db,Int.natCast_add,Int.natCast_one,eM]
   ·have OE:i4=l.length:=by
     have :¬ (i4:Int)<l.length:=by simpa using hb
     omega
    clear hb
    subst OE
    repeat refine sq ?_
    refine cG ?_
    simp only[go_sem]
    refine kp [1,2,4,5,10,11] [[2,0],[4,0],[5,0],[72,0],[77,0],[115,0],[120,0]] ?_
    repeat refine sq ?_
    refine rx hΓ [1,2,4,5,10] [[2,0],[4,0],[5,0],[72,0],[77,0],[115,0],[120,0]] (fun K' hK=>by simp only[go_sem,Int.toNat_natCast,Int.natCast_nonneg,kH,cl,js,List.length_append,List.length_cons,List.length_nil];(repeat (refine⟨ai,?_⟩));exact hK _ (by simp only[go_sem]) (by simp only[go_sem]<;>rfl)) ?_
    repeat refine sq ?_
    refine bw hΓ fun K' hK=>?_
    simp only[go_sem,Int.toNat_natCast,Int.natCast_nonneg,kH,cl,js,List.length_append,List.length_cons,List.length_nil]
    repeat (refine⟨ai,?_⟩)
    refine hK _ ?_
    clear K' hK
    simp only[go_sem]
    refine kp [1,2,4,5,10] [[2,0],[4,0],[5,0],[72,0],[77,0],[115,0],[120,0]] ?_
    repeat refine sq ?_
    refine bw hΓ fun K' hK=>?_
    simp only[go_sem,Int.toNat_natCast,Int.natCast_nonneg,kH,cl,js]
    repeat (refine⟨ai,?_⟩)
    refine hK _ ?_
    clear K' hK
    simp only[go_sem]
    refine⟨i3+1,o5,by(show H-(i3+1)<H-i3;omega),?_⟩
    refine bN [1,2,4,5,10] [[2,0],[4,0],[5,0],[72,0],[77,0],[115,0],[120,0]] ?_ ?_
    ·simp only[go_sem,aT o5 mh,Int.natCast_add,Int.natCast_one,x9,qv]
    ·simp only[go_sem,aT o5 mh,Int.natCast_add,Int.natCast_one,x9,qv]
  ·have OF:i3=H:=by
    have :¬ (i3:Int)<H:=by simpa using hb
    omega
   clear hb
   subst OF
   repeat refine sq ?_
   refine cG ?_
   simp only[go_sem]
   refine kp [4,5] [[4,0],[5,0],[72,0],[77,0],[115,0],[120,0]] ?_
   repeat refine sq ?_
   refine rx hΓ [4] [[4,0],[72,0],[77,0],[115,0],[120,0]] (fun K' hK=>by simp only[go_sem];(repeat (refine⟨ai,?_⟩));exact hK _ (by simp only[go_sem]) (by simp only[go_sem]<;>rfl)) ?_
   refine aC ?_
   simp only[go_sem]
   rfl
theorem MP:an Try.prog 66 S66:=H8.sound
end Go.Eng
set_option linter.constructorNameAsVariable false
namespace Go.Eng
open Go Go.Proofs
theorem Ek{α:Type}[Inhabited α]{l r:List α}{i:Nat}(h:i<l.length):(l++r).getD i default=l.getD i default:=by
 rw[cF h,cF (by rw[List.length_append];omega),List.getElem_append_left h]
theorem El{α:Type}[Inhabited α]{l:List α}{x:α}:(l++[x]).getD l.length default=x:=by
 rw[cF (by rw[List.length_append];simp),List.getElem_append_right (Nat.le_refl _)]
 simp
theorem Fv{x:Int}{h:Nat}{l r:List Gl}:∀ {z:Nat},z<=l.length->bx x h (l++r) z=bx x h l z
 | 0,_=>rfl
 |z+1,hz=>by
  show (bx x h (l++r) z&&_)=(bx x h l z&&_)
  rw[Fv (by omega),Ek (by omega)]
theorem QU(x:Int)(h:Nat)(l:List Gl)(g:Gl):bx x h (l++[g]) (l++[g]).length=(bx x h l l.length&&((g.ho != (h:Int)+1)||cf g.ms x)):=by
 rw[List.length_append]
 show (bx x h (l++[g]) l.length&&_)=_
 rw[Fv (Nat.le_refl _),El]
theorem Fu{h:Nat}{l r:List Gl}:∀ {z:Nat},z<=l.length->eo h (l++r) z=eo h l z
 | 0,_=>rfl
 |z+1,hz=>by
  show (eo h (l++r) z||_)=(eo h l z||_)
  rw[Fu (by omega),Ek (by omega)]
theorem QT(h:Nat)(l:List Gl)(g:Gl):eo h (l++[g]) (l++[g]).length=(eo h l l.length||(g.ho==(h:Int)+1&&decide (g.ms.length>0))):=by
 rw[List.length_append]
 show (eo h (l++[g]) l.length||_)=_
 rw[Fu (Nat.le_refl _),El]
theorem I4{l:List Int}(h:dY l=true):srt cp l:=by
 unfold dY at h
 rw[Bool.and_eq_true]at h
 exact yc h.2
theorem QO{pa:List Int}(hs:srt cp pa){z:Nat}(hz:z<pa.length){x:Int}(hx:cf pa x=true):decide (en pa x=z)=(pa[z]==x):=by
 have hi:e6 (fun y=>y==x) pa=(pa.findIdx (fun y=>y==x):Int):=by unfold e6;rw[if_pos (show (pa.any fun y=>y==x)=true from hx)]
 have hb:en pa x=pa.findIdx (fun y=>y==x):=by unfold en;rw[hi];rfl
 obtain⟨k,hk⟩:∃ k,k=pa.findIdx (fun y=>y==x):=⟨_,rfl⟩
 have fe:k<pa.length:=by
  rw[hk]
  exact List.findIdx_lt_length_of_exists (by obtain⟨y,hy,e⟩:=List.any_eq_true.1 hx;exact⟨y,hy,e⟩)
 have Ou:pa[k]=x:=by
  have :=List.findIdx_getElem (p:=fun y=>y==x) (xs:=pa) (w:=hk▸fe)
  subst hk
  simpa using this
 rw[hb,<-hk,Bool.eq_iff_iff]
 simp only[decide_eq_true_eq,beq_iff_eq]
 constructor
 ·rintro rfl;exact Ou
 ·intro e
  rcases Nat.lt_trichotomy k z with h | h | h
  ·have:=hs k z fe hz h
   unfold cp at this
   omega
  ·exact h
  ·have:=hs z k hz fe h
   unfold cp at this
   omega
theorem yY{pa:List Int}(hs:srt cp pa){z:Nat}(hz:z<pa.length){ms:List Int}(hm:∀ x∈ms,cf pa x=true):∀ t,t<=ms.length->(dE pa ms t).testBit z=(ms.take t).any fun y=>y==pa[z]
 | 0,_=>by simp[dE]
 |t+1,ht=>by
  show (dE pa ms t||| 2 ^ en pa (ms.getD t default)).testBit z=_
  have uR:t<ms.length:=by omega
  rw[Nat.testBit_or,yY hs hz hm t (by omega),cF uR,Nat.testBit_two_pow,QO hs hz (hm _ (List.getElem_mem uR)),List.take_add_one,List.getElem?_eq_getElem uR,List.any_append]
  congr 1
  show (pa[z]==ms[t])=List.any [ms[t]] _
  rw[List.any_cons,List.any_nil,Bool.or_false,Bool.eq_iff_iff]
  simp only[beq_iff_eq]
  exact eq_comm
theorem Jr{pa ms:List Int}:(dE pa ms ms.length != 0)=decide (ms.length>0):=by
 cases h:ms.length with
 |zero=>rfl
 |succ t=>
  rw[decide_eq_true (by omega)]
  show ((dE pa ms t||| 2 ^ en pa (ms.getD t default)) != 0)=true
  rw[bne_iff_ne]
  intro e
  have :=congrArg (fun x=>Nat.testBit x (en pa (ms.getD t default))) e
  simp at this
theorem Ej{n:Iv}{g:Gl}(h:bK n g=true):(1<=g.ho/\g.ho<=n.ho)/\∀ x∈g.ms,cf n.pa x=true:=by
 have hg:=mL h
 unfold bK at h
 unfold eN at hg
 simp only[Bool.and_eq_true,decide_eq_true_eq,Bool.not_eq_true',List.any_eq_false]at h hg
 refine⟨⟨(oH.1 hg.2.1).1,h.2.1⟩,fun x hx=>?_⟩
 have :=h.2.2 x hx
 simpa using this
theorem at_iff{g:Gl}(h:1<=g.ho)(j:Nat):(j=de g)↔g.ho=(j:Int)+1:=by unfold de;omega
theorem Ew{n:Iv}(hO:gu n)(k:Int){p:Nat}(hp:p<n.pa.length)(j:Nat):∀ w,w<=n.gl.length->
 (bQ n k w j).testBit p=bx n.pa[p] j (fh (fun g=>cr g k) n.gl w) (fh (fun g=>cr g k) n.gl w).length
 | 0,_=>by
   show (full n).testBit p=bx _ _ (List.filter _ (List.take 0 n.gl)) (List.filter _ (List.take 0 n.gl)).length
   rw[List.take_zero,List.filter_nil]
   unfold full
   rw[Nat.testBit_two_pow_sub_one,decide_eq_true hp]
   rfl
 |w+1,hw=>by
  have ih:=Ew hO k hp j w (by omega)
  have jE:w<n.gl.length:=by omega
  have eK:n.gl.getD w default=n.gl[w]:=cF jE
  obtain⟨⟨h1,_⟩,hm⟩:=Ej (hO.gl _ (List.getElem_mem jE))
  cases hc:cr n.gl[w] k
  ·rw[(t' (by rw[eK];exact hc)).1,wD (p:=fun g=>cr g k) jE hc,ih]
  ·rw[(tY (by rw[eK];exact hc)).1,wC (p:=fun g=>cr g k) jE hc,QU,<-ih]
   simp only[eK]
   by_cases e:j=de n.gl[w]
   ·rw[if_pos e,Nat.testBit_and,yY (I4 hO.pa) hp hm _ (Nat.le_refl _),List.take_length,<-e]
    have :(n.gl[w].ho != (j:Int)+1)=false:=by rw[(at_iff h1 j).1 e];simp
    rw[this,Bool.false_or]
    rfl
   ·rw[if_neg e]
    have :(n.gl[w].ho != (j:Int)+1)=true:=by rw[bne_iff_ne];exact fun h=>e ((at_iff h1 j).2 h)
    rw[this,Bool.true_or,Bool.and_true]
theorem fill_eq{n:Iv}(hO:gu n)(k:Int)(j:Nat):∀ w,w<=n.gl.length->
 cv n k w j=eo j (fh (fun g=>cr g k) n.gl w) (fh (fun g=>cr g k) n.gl w).length
 | 0,_=>by
   show false=eo _ (List.filter _ (List.take 0 n.gl)) (List.filter _ (List.take 0 n.gl)).length
   rw[List.take_zero,List.filter_nil]
   rfl
 |w+1,hw=>by
  have ih:=fill_eq hO k j w (by omega)
  have jE:w<n.gl.length:=by omega
  have eK:n.gl.getD w default=n.gl[w]:=cF jE
  obtain⟨⟨h1,_⟩,hm⟩:=Ej (hO.gl _ (List.getElem_mem jE))
  cases hc:cr n.gl[w] k
  ·rw[(t' (by rw[eK];exact hc)).2,wD (p:=fun g=>cr g k) jE hc,ih]
  ·rw[(tY (by rw[eK];exact hc)).2,wC (p:=fun g=>cr g k) jE hc,QT,<-ih]
   simp only[eK]
   by_cases e:j=de n.gl[w]
   ·rw[if_pos e,Jr,<-e]
    have :(n.gl[w].ho==(j:Int)+1)=true:=by rw[(at_iff h1 j).1 e];simp
    rw[this,Bool.true_and]
   ·rw[if_neg e]
    have :(n.gl[w].ho==(j:Int)+1)=false:=by rw[beq_eq_false_iff_ne];exact fun h=>e ((at_iff h1 j).2 h)
    rw[this,Bool.false_and,Bool.or_false]
def gh(pa:List Int)(q:Int->Bool):Nat->List Int
 | 0=>[]
 |z+1=>if q (pa.getD z default)=true then gh pa q z++[pa.getD z default]else gh pa q z
theorem Ey(pa:List Int)(q:Int->Bool):∀ z,(gh pa q z).length<=z
 | 0=>Nat.le_refl _
 |z+1=>by
  have :=Ey pa q z
  unfold gh
  split
  ·rw[List.length_append];simp only[List.length_cons,List.length_nil];omega
  ·omega
theorem yV{n:Iv}(hO:gu n)(k:Int)(j:Nat):∀ z,z<=n.pa.length->dZ n.pa (bQ n k n.gl.length j) z=gh n.pa (fun x=>bx x j (bV n k) (bV n k).length) z
 | 0,_=>rfl
 |z+1,hz=>by
  have C8:z<n.pa.length:=by omega
  have e:=Ew hO k C8 j n.gl.length (Nat.le_refl _)
  unfold dZ gh
  rw[yV hO k j z (by omega),e,cF C8]
  rfl
set_option maxRecDepth 100000
theorem I0{n:Iv}{h k:Int}:(cw n=false->cM (gn h) n k=31)/\(cw n=true->ba h 1 n.ho=false->cM (gn h) n k=33)/\(cw n=true->ba h 1 n.ho=true->gF k=false->cM (gn h) n k=6)/\(cw n=true->ba h 1 n.ho=true->gF k=true->cM (gn h) n k=0):=by
 unfold cM gn
 refine⟨fun a=>if_pos a,fun a b=>?_,fun a b c=>?_,fun a b c=>?_⟩
 ·rw[if_neg (by rw[a];decide),if_neg (by simp),if_pos (by simp[b])]
 ·rw[if_neg (by rw[a];decide),if_neg (by simp),if_neg (by simp[b]),if_pos c]
 ·rw[if_neg (by rw[a];decide),if_neg (by simp),if_neg (by simp[b]),if_neg (by rw[c];decide)]
@[go_sem] theorem adz(n:Iv)(l:List Gl):(jW n l).length=4:=rfl
theorem IP{pa:List Int}{l:List Gl}{H z p:Nat}(h:p<z):(jc pa l H z).getD p default=.sl (nV pa l H p):=by
 unfold jc
 simp[List.getD_eq_getElem?_getD,h]
noncomputable def Gt:List (Nat×Spec):=[(42,S42),(67,S67),(88,S88),(52,S52),(66,S66)]
theorem RO:∀ f s,tbl Gt f=some s->an Try.prog f s:=tc qK<|tc oF<|tc CC<|tc MT<|tc MP<|tn
attribute [go_sem] Gt
noncomputable def P37:PSpec:=p3 iN iI iI (fun _ _ _=>True) (fun n h k=>.tup [.sl ((jm n h k).map au),.bool (jn n h k),au (cM (gn h) n k)]) false
noncomputable def S37:Spec:=P37.toSpec
attribute [go_sem] P37 S37
set_option maxHeartbeats 16000000 in
theorem Im:aS Try.prog 37 P37:=by
 refine w3 (rs:=[.tmp 6,.tmp 7,.tmp 8]) Try.func37 Try.ntmps37 (by rfl) (by kernel_rfl) (by decide) (fun h=>by cases h) ⟨_,rfl,lb rfl,fun n h k hp hw=>?_⟩
 have hP:=bf
 simp only[iI,iN]at hw |-
 have hΓ:=RO
 obtain⟨q1,q2,q3,q4⟩:=I0 (n:=n) (h:=h) (k:=k)
 repeat refine sq ?_
 refine rx hΓ [1,2,3] [[3,0]] (fun K' hK=>by simp only[go_sem];(repeat (refine⟨ai,?_⟩));exact hK _ (by simp only[go_sem]) (by simp only[go_sem]<;>rfl)) ?_
 repeat refine sq ?_
 refine rx hΓ [1,2,3,14] [[3,0]] (fun K' hK=>by simp only[go_sem,m8];(repeat (refine⟨ai,?_⟩));exact hK _ (by simp only[go_sem]) (by simp only[go_sem]<;>rfl)) ?_
 repeat refine sq ?_
 refine aQ rfl rfl (fun hb=>?_) (fun hb=>?_)
 ·repeat refine sq ?_
  have e0:=q1 (by simpa using hb)
  have e1:jm n h k=[]:=if_neg (by rw[e0];decide)
  have e2:jn n h k=false:=if_neg (by rw[e0];decide)
  repeat refine sq ?_
  refine rx hΓ [6,7,8] [[51,0]] (fun K' hK=>by simp only[go_sem];(repeat (refine⟨ai,?_⟩));exact hK _ (by simp only[go_sem]) (by simp only[go_sem]<;>rfl)) ?_
  refine aC ?_
  simp only[go_sem]
  first | (rw[e0,e1,e2];done) | (rw[e0,e1,e2];rfl)
 ·repeat refine sq ?_
  have ho:cw n=true:=by simpa using hb
  have hO:=lE ho
  refine aR ?_
  repeat refine sq ?_
  refine rx hΓ [1,2,3,19] [[3,0]] (fun K' hK=>by simp only[go_sem];(repeat (refine⟨ai,?_⟩));exact hK _ (by simp only[go_sem]) (by simp only[go_sem]<;>rfl)) ?_
  repeat refine sq ?_
  refine aQ rfl rfl (fun hb=>?_) (fun hb=>?_)
  ·repeat refine sq ?_
   have e0:=q2 ho (by simpa using hb)
   have e1:jm n h k=[]:=if_neg (by rw[e0];decide)
   have e2:jn n h k=false:=if_neg (by rw[e0];decide)
   repeat refine sq ?_
   refine rx hΓ [6,7,8] [[51,0]] (fun K' hK=>by simp only[go_sem];(repeat (refine⟨ai,?_⟩));exact hK _ (by simp only[go_sem]) (by simp only[go_sem]<;>rfl)) ?_
   refine aC ?_
   simp only[go_sem]
   first | (rw[e0,e1,e2];done) | (rw[e0,e1,e2];rfl)
  ·repeat refine sq ?_
   have cJ:ba h 1 n.ho=true:=by simpa using hb
   obtain⟨h1,h2⟩:=oH.1 cJ
   refine aR ?_
   repeat refine sq ?_
   refine rx hΓ [1,2,3,22] [[3,0]] (fun K' hK=>by simp only[go_sem];(repeat (refine⟨ai,?_⟩));exact hK _ (by simp only[go_sem]) (by simp only[go_sem]<;>rfl)) ?_
   repeat refine sq ?_
   refine aQ rfl rfl (fun hb=>?_) (fun hb=>?_)
   ·repeat refine sq ?_
    have e0:=q3 ho cJ (by simpa using hb)
    have e1:jm n h k=[]:=if_neg (by rw[e0];decide)
    have e2:jn n h k=false:=if_neg (by rw[e0];decide)
    repeat refine sq ?_
    refine rx hΓ [6,7,8] [[51,0]] (fun K' hK=>by simp only[go_sem];(repeat (refine⟨ai,?_⟩));exact hK _ (by simp only[go_sem]) (by simp only[go_sem]<;>rfl)) ?_
    refine aC ?_
    simp only[go_sem]
    first | (rw[e0,e1,e2];done) | (rw[e0,e1,e2];rfl)
   ·repeat refine sq ?_
    have e0:=q4 ho cJ (by simpa using hb)
    have vI:=hO.ho
    have eG:=hO.pal
    have pb:=hO.gll
    have bG:(bV n k).length<=60:=Nat.le_trans (EF _ _ _) pb
    have da:(1<=n.ho/\n.ho<=24)/\n.pa.length<=20/\(bV n k).length<=60:=⟨vI,eG,bG⟩
    obtain⟨j,hj⟩:∃ j,j=(h-1).toNat:=⟨_,rfl⟩
    have ea:IntKind.i64.wrap (h-1)=(j:Int):=by rw[wrap_i64 (by omega) (by omega)];omega
    have iS:j<n.ho.toNat:=by omega
    have rE:(j:Int)<((n.ho.toNat:Nat):Int):=by omega
    have e1:jm n h k=gh n.pa (fun x=>bx x j (bV n k) (bV n k).length) n.pa.length:=by unfold jm;rw[if_pos e0,<-hj];exact yV hO k j _ (Nat.le_refl _)
    have e2:jn n h k=eo j (bV n k) (bV n k).length:=by unfold jn;rw[if_pos e0,<-hj];exact fill_eq hO k j _ (Nat.le_refl _)
    have lZ:n.pa.length<=maxLen:=by unfold maxLen;omega
    have iT:=ot (fun h=>eo h (bV n k) (bV n k).length) iS
    refine aR ?_
    repeat refine sq ?_
    refine dx hΓ hP [[],[],[],[1,2],[0,1,2,3],[],[0,1,2,3,4,5]] [1,3,9] [[3,0],[9,0]] (by kernel_rfl) (fun K' hK=>by simp only[go_sem,List.append_nil];(repeat (refine⟨by first | exact da | exact pb | exact ai,?_⟩));(first | refine⟨by rfl,?_⟩ | skip);exact hK _ (by simp only[go_sem]) (by simp only[go_sem]<;>rfl)) ?_
    refine fi (pZ [9,0] (jW n (bV n k)) rfl [1,3,9] [[3,0],[9,0]] ?_ rfl) ?_
    ·simp only[go_sem]
    simp only[go_sem]
    repeat refine sq ?_
    refine rx hΓ [1,3,9,10] [[3,0],[9,0],[51,0]] (fun K' hK=>by simp only[go_sem];(repeat (refine⟨ai,?_⟩));exact hK _ (by simp only[go_sem]) (by simp only[go_sem]<;>rfl)) ?_
    refine fi (sY 10 [51,0] 1 (by simp only[go_sem]) (by simp only[go_sem]) [1,3,9,10] [[3,0],[9,0],[51,0]] ?_ rfl) ?_
    ·simp only[go_sem]
    simp only[go_sem]
    repeat refine sq ?_
    refine rx hΓ [1,3,9,10,11] [[3,0],[9,0],[51,0]] (fun K' hK=>by simp only[go_sem];(repeat (refine⟨ai,?_⟩));exact hK _ (by simp only[go_sem]) (by simp only[go_sem]<;>rfl)) ?_
    repeat refine sq ?_
    refine bd ?_
    repeat refine sq ?_
    refine cL (fun z:Nat=>[(11,⟨true,.v (au z)⟩),(10,⟨true,.msl [51,0] (gh n.pa (fun x=>bx x j (bV n k) (bV n k).length) z).length⟩)]) (fun z=>[([51,0],.arr 1 ((gh n.pa (fun x=>bx x j (bV n k) (bV n k).length) z).map au))]) (fun z=>z<=n.pa.length) (fun z=>n.pa.length-z) 0 ?_ ?_ ?_ ?_
    ·exact Nat.zero_le _
    ·rfl
    ·rfl
    rintro i hi
    simp only[go_sem]
    repeat refine sq ?_
    refine rx hΓ [1,3,9,10,11,32] [[3,0],[9,0],[51,0]] (fun K' hK=>by simp only[go_sem];(repeat (refine⟨ai,?_⟩));exact hK _ (by simp only[go_sem]) (by simp only[go_sem]<;>rfl)) ?_
    repeat refine sq ?_
    refine aQ rfl rfl (fun hb=>?_) (fun hb=>?_)
    ·have ae:i<n.pa.length:=by simpa using hb
     have ax:(i:Int)<n.pa.length:=by omega
     clear hb
     have dn:=Ey n.pa (fun x=>bx x j (bV n k) (bV n k).length) i
     have N3:=IP (pa:=n.pa) (l:=bV n k) (H:=n.ho.toNat) ae
     have N2:(nV n.pa (bV n k) n.ho.toNat i).getD j default=.bool (bx (n.pa.getD i default) j (bV n k) (bV n k).length):=ot _ iS
     have fZ:n.pa.getD i default=n.pa[i]:=cF ae
     repeat refine sq ?_
     refine aR ?_
     repeat refine sq ?_
     refine bd ?_
     repeat refine sq ?_
     refine rx hΓ [1,3,9,10,11,43] [[3,0],[9,0],[51,0]] (fun K' hK=>by simp only[go_sem,aA ae,Int.toNat_natCast,Int.natCast_nonneg,ax,jW,N3,N2,ea,rE,QS,Int.toNat_natCast,Int.natCast_nonneg];(repeat (refine⟨ai,?_⟩));exact hK _ (by simp only[go_sem]) (by simp only[go_sem]<;>rfl)) ?_
     repeat refine sq ?_
     refine aQ rfl rfl (fun hb=>?_) (fun hb=>?_)
     ·repeat refine sq ?_
      have hk:gh n.pa (fun x=>bx x j (bV n k) (bV n k).length) (i+1)=gh n.pa (fun x=>bx x j (bV n k) (bV n k).length) i++[n.pa[i]]:=by rw[<-fZ];exact if_pos hb
      repeat refine sq ?_
      refine bw hΓ fun K' hK=>?_
      simp only[go_sem,aA ae,Int.toNat_natCast,Int.natCast_nonneg,ax]
      repeat (refine⟨ai,?_⟩)
      refine hK _ ?_
      clear K' hK
      simp only[go_sem]
      refine kp [1,3,9,10,11] [[3,0],[9,0],[51,0]] ?_
      repeat refine sq ?_
      refine bw hΓ fun K' hK=>?_
      simp only[go_sem,aA ae,Int.toNat_natCast,Int.natCast_nonneg,ax]
      repeat (refine⟨ai,?_⟩)
      refine hK _ ?_
      clear K' hK
      simp only[go_sem]
      refine⟨i+1,ae,by(show n.pa.length-(i+1)<n.pa.length-i;omega),?_⟩
      refine bN [1,3,9,10,11] [[3,0],[9,0],[51,0]] ?_ ?_
      ·simp only[go_sem,aT ae lZ,Int.natCast_add,Int.natCast_one,hk,jW,List.map_append,List.map_cons,List.map_nil,List.length_append,List.length_cons,List.length_nil]
      ·simp only[go_sem,aT ae lZ,Int.natCast_add,Int.natCast_one,hk,jW,List.map_append,List.map_cons,List.map_nil,List.length_append,List.length_cons,List.length_nil]
     ·repeat refine sq ?_
      have hk:gh n.pa (fun x=>bx x j (bV n k) (bV n k).length) (i+1)=gh n.pa (fun x=>bx x j (bV n k) (bV n k).length) i:=if_neg (by show ¬ bx (n.pa.getD i default) j (bV n k) (bV n k).length=true;rw[hb];decide)
      refine aR ?_
      refine fJ ?_
      simp only[go_sem]
      refine kp [1,3,9,10,11] [[3,0],[9,0],[51,0]] ?_
      repeat refine sq ?_
      refine bw hΓ fun K' hK=>?_
      simp only[go_sem,aA ae,Int.toNat_natCast,Int.natCast_nonneg,ax]
      repeat (refine⟨ai,?_⟩)
      refine hK _ ?_
      clear K' hK
      simp only[go_sem]
      refine⟨i+1,ae,by(show n.pa.length-(i+1)<n.pa.length-i;omega),?_⟩
      refine bN [1,3,9,10,11] [[3,0],[9,0],[51,0]] ?_ ?_
      ·simp only[go_sem,aT ae lZ,Int.natCast_add,Int.natCast_one,hk,jW,List.map_append,List.map_cons,List.map_nil,List.length_append,List.length_cons,List.length_nil]
      ·simp only[go_sem,aT ae lZ,Int.natCast_add,Int.natCast_one,hk,jW,List.map_append,List.map_cons,List.map_nil,List.length_append,List.length_cons,List.length_nil]
    ·have bH:i=n.pa.length:=by
      have :¬ (i:Int)<n.pa.length:=by simpa using hb
      omega
     clear hb
     subst bH
     repeat refine sq ?_
     refine cG ?_
     simp only[go_sem]
     refine kp [1,9,10] [[9,0],[51,0]] ?_
     repeat refine sq ?_
     refine dx hΓ hP [[],[],[1],[],[3],[1,2,3,4],[1,2,3,4,5],[0],[0,1,2,3,4,5,6,7],[0,1,2,3,4,5,6,7,8]] [6,7,8] [[51,0]] (by kernel_rfl) (fun K' hK=>by simp only[go_sem,jW,iT,ea,rE,Int.toNat_natCast,Int.natCast_nonneg];(repeat (refine⟨ai,?_⟩));(first | refine⟨by rfl,?_⟩ | skip);exact hK _ (by simp only[go_sem]) (by simp only[go_sem]<;>rfl)) ?_
     refine aC ?_
     simp only[go_sem]
     first | (rw[e0,e1,e2];done) | (rw[e0,e1,e2];rfl)
theorem MW:an Try.prog 37 S37:=Im.sound
section
variable {α:Type} [DecidableEq α] [Inhabited α]
def sB(a b:List α):Nat->Bool
 | 0=>decide (a.length=b.length)
 |z+1=>sB a b z&&decide (a.getD z default=b.getD z default)
theorem om{a b:List α}:∀ {z:Nat},sB a b z=true↔a.length=b.length/\∀ j,j<z->a.getD j default=b.getD j default
 | 0=>by
   unfold sB
   rw[decide_eq_true_eq]
   exact⟨fun h=>⟨h,fun j hj=>absurd hj (by omega)⟩,fun h=>h.1⟩
 |z+1=>by
  unfold sB
  rw[Bool.and_eq_true,om,decide_eq_true_eq]
  constructor
  ·rintro⟨⟨h1,h2⟩,h3⟩
   refine⟨h1,fun j hj=>?_⟩
   rcases Nat.lt_succ_iff_lt_or_eq.1 hj with h | rfl
   ·exact h2 j h
   ·exact h3
  ·rintro⟨h1,h2⟩
   exact⟨⟨h1,fun j hj=>h2 j (by omega)⟩,h2 z (by omega)⟩
theorem xS{a b:List α}{i:Nat}(hi:i<=a.length)(h:i=a.length\/sB a b i=false):sB a b i=decide (a=b):=by
 rw[Bool.eq_iff_iff,om,decide_eq_true_eq]
 constructor
 ·rintro⟨h1,h2⟩
  rcases h with rfl | h
  ·refine List.ext_getElem h1 fun j h3 h4=>?_
   have :=h2 j h3
   rwa [cF h3,cF h4]at this
  ·rw[om.2 ⟨h1,h2⟩]at h;cases h
 ·rintro rfl
  exact⟨rfl,fun _ _=>rfl⟩
end
theorem zj(a b:Nat):(((a:Int))==(b:Int))=decide (a=b):=by
 rw[Bool.eq_iff_iff];simp only[beq_iff_eq,decide_eq_true_eq];omega
noncomputable def P14:PSpec:=p2 cW cW (fun _ _=>True) (fun a b=>.bool (decide (a=b))) true
noncomputable def S14:Spec:=P14.toSpec
attribute [go_sem] P14 S14
set_option maxHeartbeats 8000000 in
theorem Iu:aS Try.prog 14 P14:=by
 refine w2 (rs:=[.tmp 4]) Try.func14 Try.ntmps14 (by rfl) (by kernel_rfl) (by decide) (fun _ _ _=>rfl) ⟨_,rfl,lb rfl,fun a b hp hw=>?_⟩
 have hP:=bf
 simp only[cW]at hw |-
 have hΓ:=@fS Try.prog
 have hl:a.length<=maxLen:=by have:=hw.1.1;simpa using this
 repeat refine sq ?_
 refine rx hΓ [0,1] [] (fun K' hK=>by simp only[go_sem];(repeat (refine⟨ai,?_⟩));exact hK _ (by simp only[go_sem]) (by simp only[go_sem]<;>rfl)) ?_
 repeat refine sq ?_
 refine rx hΓ [0,1,5] [] (fun K' hK=>by simp only[go_sem,List.length_map,zj];(repeat (refine⟨ai,?_⟩));exact hK _ (by simp only[go_sem]) (by simp only[go_sem]<;>rfl)) ?_
 repeat refine sq ?_
 refine rx hΓ [0,1,5,6] [] (fun K' hK=>by simp only[go_sem];(repeat (refine⟨ai,?_⟩));exact hK _ (by simp only[go_sem]) (by simp only[go_sem]<;>rfl)) ?_
 repeat refine sq ?_
 refine bd ?_
 repeat refine sq ?_
 refine cL (fun z:Nat=>[(6,⟨true,.v (au z)⟩),(5,⟨true,.v (.bool (sB a b z))⟩)]) (fun z=>[]) (fun z=>z<=a.length) (fun z=>a.length-z) 0 ?_ ?_ ?_ ?_
 ·exact Nat.zero_le _
 ·rfl
 ·rfl
 rintro i hi
 simp only[go_sem]
 repeat refine sq ?_
 refine rx hΓ [0,1,5,6,18] [] (fun K' hK=>by simp only[go_sem,List.length_map];(repeat (refine⟨ai,?_⟩));exact hK _ (by simp only[go_sem]) (by simp only[go_sem]<;>rfl)) ?_
 repeat refine sq ?_
 refine aQ rfl rfl (fun hb=>?_) (fun hb=>?_)
 ·repeat refine sq ?_
  have ae:i<a.length:=by simp at hb;exact hb.1
  have hs:sB a b i=true:=by simp at hb;exact hb.2
  have o6:i<b.length:=by have:=(om.1 hs).1;omega
  have ax:(i:Int)<(a.length:Int):=by omega
  have vA:(i:Int)<(b.length:Int):=by omega
  have hn:sB a b (i+1)=(a[i]==b[i]):=by
   show (sB a b i&&_)=_
   rw[hs,cF ae,cF o6,Bool.true_and]
   rfl
  refine aR ?_
  repeat refine sq ?_
  refine bd ?_
  repeat refine sq ?_
  refine kU hΓ hP [[],[],[0,1],[0,1,2],[],[],[4,5],[4,5,6],[0,1,2,3,4,5,6,7],[0,1,2,3,4,5,6,7,8]] (by kernel_rfl) fun K' hK=>?_
  simp only[go_sem,aA ae,aA o6,Int.toNat_natCast,Int.natCast_nonneg,ax,vA,List.length_map]
  repeat (refine⟨ai,?_⟩)
  first | refine⟨by rfl,?_⟩ | skip
  refine hK _ ?_
  clear K' hK
  simp only[go_sem]
  refine kp [0,1,5,6] [] ?_
  repeat refine sq ?_
  refine bw hΓ fun K' hK=>?_
  simp only[go_sem]
  repeat (refine⟨ai,?_⟩)
  refine hK _ ?_
  clear K' hK
  simp only[go_sem]
  refine⟨i+1,ae,by(show a.length-(i+1)<a.length-i;omega),?_⟩
  refine bN [0,1,5,6] [] ?_ ?_
  ·simp only[go_sem,aT ae hl,Int.natCast_add,Int.natCast_one,hn]
  ·simp only[go_sem,aT ae hl,Int.natCast_add,Int.natCast_one,hn]
 ·repeat refine sq ?_
  have he:sB a b i=decide (a=b):=xS hi (by
   by_cases h:i=a.length
   ·exact .inl h
   ·refine .inr ?_
    have h2:decide ((i:Int)<((a.map au).length:Int))=true:=by rw[List.length_map];exact decide_eq_true (by omega)
    have h3:decide ((i:Int)<(a.length:Int))=true:=decide_eq_true (by omega)
    first | (rw[h3,Bool.true_and]at hb;exact hb) | (rw[h2,Bool.true_and]at hb;exact hb))
  refine cG ?_
  simp only[go_sem]
  refine kp [5] [] ?_
  repeat refine sq ?_
  refine rx hΓ [4] [] (fun K' hK=>by simp only[go_sem];(repeat (refine⟨ai,?_⟩));exact hK _ (by simp only[go_sem]) (by simp only[go_sem]<;>rfl)) ?_
  refine aC ?_
  simp only[go_sem]
  rw[he]
theorem uF:an Try.prog 14 S14:=Iu.sound
noncomputable def Gs:List (Nat×Spec):=[(14,S14)]
theorem RN:∀ f s,tbl Gs f=some s->an Try.prog f s:=tc uF<|tn
attribute [go_sem] Gs
theorem PU(a b:Gl):(decide (a.ms=b.ms)&&(a.so==b.so)&&(a.ho==b.ho)&&(a.kn==b.kn)&&(a.un==b.un))=decide (a=b):=by
 cases a;cases b
 rw[Bool.eq_iff_iff]
 simp only[Bool.and_eq_true,decide_eq_true_eq,beq_iff_eq,Gl.mk.injEq]
 constructor
 ·rintro⟨⟨⟨⟨h1,h2⟩,h3⟩,h4⟩,h5⟩;exact⟨h2,h3,h1,h4,h5⟩
 ·rintro⟨h2,h3,h1,h4,h5⟩;exact⟨⟨⟨⟨h1,h2⟩,h3⟩,h4⟩,h5⟩
noncomputable def P89:PSpec:=p2 iG iG (fun _ _=>True) (fun a b=>.bool (decide (a=b))) true
noncomputable def S89:Spec:=P89.toSpec
attribute [go_sem] P89 S89
set_option maxHeartbeats 8000000 in
theorem HW:aS Try.prog 89 P89:=by
 refine w2 (rs:=[.tmp 4]) Try.func89 Try.ntmps89 (by rfl) (by kernel_rfl) (by decide) (fun _ _ _=>rfl) ⟨_,rfl,lb rfl,fun a b hp hw=>?_⟩
 have hP:=bf
 simp only[iG]at hw |-
 have hΓ:=RN
 repeat refine sq ?_
 refine rx hΓ [2,3] [[2,0],[3,0]] (fun K' hK=>by simp only[go_sem];(repeat (refine⟨ai,?_⟩));exact hK _ (by simp only[go_sem]) (by simp only[go_sem]<;>rfl)) ?_
 repeat refine sq ?_
 refine rx hΓ [2,3,5] [[2,0],[3,0]] (fun K' hK=>by simp only[go_sem];(repeat (refine⟨ai,?_⟩));exact hK _ (by simp only[go_sem]) (by simp only[go_sem]<;>rfl)) ?_
 repeat refine sq ?_
 refine rx hΓ [4] [] (fun K' hK=>by simp only[go_sem];(repeat (refine⟨ai,?_⟩));exact hK _ (by simp only[go_sem]) (by simp only[go_sem]<;>rfl)) ?_
 refine aC ?_
 simp only[go_sem]
 (rw[V.bool.injEq,<-PU,Bool.eq_iff_iff];simp[and_assoc])
theorem MI:an Try.prog 89 S89:=HW.sound
noncomputable def Gr:List (Nat×Spec):=[(14,S14),(89,S89)]
theorem RM:∀ f s,tbl Gr f=some s->an Try.prog f s:=tc uF<|tc MI<|tn
attribute [go_sem] Gr
theorem Nb(a b:Iv):((decide (a.pa=b.pa)&&(a.ho==b.ho))&&decide (a.gl=b.gl))=decide (a=b):=by
 cases a;cases b
 rw[Bool.eq_iff_iff]
 simp only[Bool.and_eq_true,decide_eq_true_eq,beq_iff_eq,Iv.mk.injEq]
 constructor
 ·rintro⟨⟨h1,h2⟩,h3⟩;exact⟨h2,h1,h3⟩
 ·rintro⟨h2,h1,h3⟩;exact⟨⟨h1,h2⟩,h3⟩
noncomputable def P38:PSpec:=p2 iN iN (fun _ _=>True) (fun a b=>.bool (decide (a=b))) true
noncomputable def S38:Spec:=P38.toSpec
attribute [go_sem] P38 S38
set_option maxHeartbeats 8000000 in
theorem Il:aS Try.prog 38 P38:=by
 refine w2 (rs:=[.tmp 4]) Try.func38 Try.ntmps38 (by rfl) (by kernel_rfl) (by decide) (fun _ _ _=>rfl) ⟨_,rfl,lb rfl,fun a b hp hw=>?_⟩
 have hP:=bf
 simp only[iN]at hw |-
 have hΓ:=RM
 have hl:a.gl.length<=maxLen:=by have:=hw.1.2.2.1.1;simpa using this
 obtain⟨c,hc⟩:∃ c,c=(decide (a.pa=b.pa)&&(a.ho==b.ho)):=⟨_,rfl⟩
 repeat refine sq ?_
 refine rx hΓ [2,3] [[2,0],[3,0]] (fun K' hK=>by simp only[go_sem];(repeat (refine⟨ai,?_⟩));exact hK _ (by simp only[go_sem]) (by simp only[go_sem]<;>rfl)) ?_
 repeat refine sq ?_
 refine rx hΓ [2,3,5] [[2,0],[3,0]] (fun K' hK=>by simp only[go_sem];(repeat (refine⟨ai,?_⟩));exact hK _ (by simp only[go_sem]) (by simp only[go_sem]<;>rfl)) ?_
 repeat refine sq ?_
 refine rx hΓ [2,3,5] [[2,0],[3,0]] (fun K' hK=>by simp only[go_sem,List.length_map,zj,<-hc];(repeat (refine⟨ai,?_⟩));exact hK _ (by simp only[go_sem]) (by simp only[go_sem]<;>rfl)) ?_
 repeat refine sq ?_
 refine rx hΓ [2,3,5,6] [[2,0],[3,0]] (fun K' hK=>by simp only[go_sem];(repeat (refine⟨ai,?_⟩));exact hK _ (by simp only[go_sem]) (by simp only[go_sem]<;>rfl)) ?_
 repeat refine sq ?_
 refine bd ?_
 repeat refine sq ?_
 refine cL (fun z:Nat=>[(6,⟨true,.v (au z)⟩),(5,⟨true,.v (.bool (c&&sB a.gl b.gl z))⟩)]) (fun z=>[]) (fun z=>z<=a.gl.length) (fun z=>a.gl.length-z) 0 ?_ ?_ ?_ ?_
 ·exact Nat.zero_le _
 ·rfl
 ·rfl
 rintro i hi
 simp only[go_sem]
 repeat refine sq ?_
 refine rx hΓ [2,3,5,6,36] [[2,0],[3,0]] (fun K' hK=>by simp only[go_sem,List.length_map];(repeat (refine⟨ai,?_⟩));exact hK _ (by simp only[go_sem]) (by simp only[go_sem]<;>rfl)) ?_
 repeat refine sq ?_
 refine aQ rfl rfl (fun hb=>?_) (fun hb=>?_)
 ·repeat refine sq ?_
  have ae:i<a.gl.length:=by simp at hb;exact hb.1
  have Dg:c=true:=by simp at hb;exact hb.2.1
  have hs:sB a.gl b.gl i=true:=by simp at hb;exact hb.2.2
  have o6:i<b.gl.length:=by have:=(om.1 hs).1;omega
  have ax:(i:Int)<(a.gl.length:Int):=by omega
  have vA:(i:Int)<(b.gl.length:Int):=by omega
  have hn:(c&&sB a.gl b.gl (i+1))=decide (a.gl[i]=b.gl[i]):=by
   show (c&&(sB a.gl b.gl i&&_))=_
   rw[Dg,hs,cF ae,cF o6,Bool.true_and,Bool.true_and]
  refine aR ?_
  repeat refine sq ?_
  refine bd ?_
  repeat refine sq ?_
  refine kU hΓ hP [[],[0],[],[0,1,2],[0,1,2,3],[],[5],[],[5,6,7],[5,6,7,8],[0,1,2,3,4,5,6,7,8,9],[0,1,2,3,4,5,6,7,8,9,10]] (by kernel_rfl) fun K' hK=>?_
  simp only[go_sem,aA ae,aA o6,Int.toNat_natCast,Int.natCast_nonneg,ax,vA,List.length_map]
  repeat (refine⟨ai,?_⟩)
  first | refine⟨by rfl,?_⟩ | skip
  refine hK _ ?_
  clear K' hK
  simp only[go_sem]
  refine kp [2,3,5,6] [[2,0],[3,0]] ?_
  repeat refine sq ?_
  refine bw hΓ fun K' hK=>?_
  simp only[go_sem]
  repeat (refine⟨ai,?_⟩)
  refine hK _ ?_
  clear K' hK
  simp only[go_sem]
  refine⟨i+1,ae,by(show a.gl.length-(i+1)<a.gl.length-i;omega),?_⟩
  refine bN [2,3,5,6] [[2,0],[3,0]] ?_ ?_
  ·simp only[go_sem,aT ae hl,Int.natCast_add,Int.natCast_one,hn]
  ·simp only[go_sem,aT ae hl,Int.natCast_add,Int.natCast_one,hn]
 ·repeat refine sq ?_
  have he:(c&&sB a.gl b.gl i)=decide (a=b):=by
   rw[<-Nb,<-hc]
   cases vS:c
   ·rfl
   ·rw[Bool.true_and,Bool.true_and]
    refine xS hi ?_
    by_cases h:i=a.gl.length
    ·exact .inl h
    ·refine .inr ?_
     have h3:decide ((i:Int)<(a.gl.length:Int))=true:=decide_eq_true (by omega)
     rw[h3,vS,Bool.true_and,Bool.true_and]at hb
     exact hb
  refine cG ?_
  simp only[go_sem]
  refine kp [5] [] ?_
  repeat refine sq ?_
  refine rx hΓ [4] [] (fun K' hK=>by simp only[go_sem];(repeat (refine⟨ai,?_⟩));exact hK _ (by simp only[go_sem]) (by simp only[go_sem]<;>rfl)) ?_
  refine aC ?_
  simp only[go_sem]
  rw[he]
theorem MV:an Try.prog 38 S38:=Il.sound
end Go.Eng
