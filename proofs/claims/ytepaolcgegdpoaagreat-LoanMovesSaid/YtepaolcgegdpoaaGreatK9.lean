import Derived.Test.YtepaolcgegdpoaaGreatK8
/- Texts EngUb to LB. -/
set_option linter.all false
namespace Go.Eng
open Go
def JB:V->Bool
 | .int _ _=>true
 |_=>false
def ym(l:List V):Bool:=l.all fun x=>x.cells.all JB
def l'(obj:Name->Option O):D->V
 | .v x=>x
 | .msl nm _=>match obj nm with
   |some (.arr _ l)=>.sl l
   |_=>default
 |_=>default
def me(obj:Name->Option O):D->Bool
 | .v _=>true
 | .msl nm k=>match obj nm with
   |some (.arr _ l)=>decide (k=l.length)&&ym l
   |_=>false
 |_=>false
def xR:D->List Name
 | .msl nm _=>[nm]
 |_=>[]
def iO(obj:Name->Option O):D->V
 | .agg l=>.agg (l.map (l' obj))
 |d=>l' obj d
def n8(obj:Name->Option O):D->Bool
 | .agg l=>l.all (me obj)
 |d=>me obj d
def Ha:D->List Name
 | .agg l=>l.flatMap xR
 |d=>xR d
def YS:V->Bool
 | .bool _=>true
 |_=>false
def PSpec.toSpecU(s:PSpec):Spec:=
 ⟨fun obj _ ds=>⟨(∀ d∈ds,n8 obj d=true)/\s.pre (ds.map (iO obj)),.v (s.fn (ds.map (iO obj))),obj⟩,fun _ _ ds=>ds.flatMap Ha,fun _ _ _=>[]⟩
theorem lq{obj obj2:Name->Option O}{d:D}(h:bJ (xR d) obj obj2):l' obj2 d=l' obj d/\me obj2 d=me obj d:=by
 cases d<;>try exact⟨rfl,rfl⟩
 rename_i nm k
 have :=h nm (by simp[xR])
 simp only[l',me,this,and_self]
theorem QJ{obj obj2:Name->Option O}{d:D}(h:bJ (Ha d) obj obj2):iO obj2 d=iO obj d/\n8 obj2 d=n8 obj d:=by
 cases d with
 |agg l=>
  have hx:∀ x∈l,l' obj2 x=l' obj x/\me obj2 x=me obj x:=fun x hx=>lq fun nm hn=>h nm (List.mem_flatMap.2 ⟨x,hx,hn⟩)
  simp only[iO,n8]
  refine⟨congrArg V.agg (List.map_congr_left fun x h=>(hx x h).1),?_⟩
  rw[Bool.eq_iff_iff,List.all_eq_true,List.all_eq_true]
  exact⟨fun k x h=>(hx x h).2▸k x h,fun k x h=>(hx x h).2.symm▸k x h⟩
 |v x=>exact lq (d:=.v x) h
 |nilsl=>exact lq (d:=.nilsl) h
 |nilmap=>exact lq (d:=.nilmap) h
 |ref a b=>exact lq (d:=.ref a b) h
 |msl a b=>exact lq (d:=.msl a b) h
 |aref a b c e=>exact lq (d:=.aref a b c e) h
 |map a=>exact lq (d:=.map a) h
 |yld a=>exact lq (d:=.yld a) h
 |clo a b c=>exact lq (d:=.clo a b c) h
 |tup a=>exact lq (d:=.tup a) h
 |any=>exact lq (d:=.any) h
theorem PSpec.nearU(s:PSpec):s.toSpecU.Near:=by
 refine⟨fun obj obj2 t ds h=>?_,fun obj obj2 t ds h=>rfl,fun obj t ds nm hn=>(nomatch hn),fun obj obj2 t ds h=>rfl⟩
 have hx:∀ x∈ds,iO obj2 x=iO obj x/\n8 obj2 x=n8 obj x:=fun x hx=>QJ fun nm hn=>h nm (List.mem_flatMap.2 ⟨x,hx,hn⟩)
 have e:ds.map (iO obj2)=ds.map (iO obj):=List.map_congr_left fun x h=>(hx x h).1
 refine bP.same ?_ (by simp only[PSpec.toSpecU,e]) rfl rfl
 simp only[PSpec.toSpecU,e]
 exact congrArg (· /\_) (propext ⟨fun k x h=>(hx x h).2▸k x h,fun k x h=>(hx x h).2.symm▸k x h⟩)
noncomputable def mh(m:Mem)(w:World):Mem:=fun b off=>match m b off with
 |some v=>some v
 |none=>match w.cell? ⟨b,off,none⟩with
  |some (.int k n)=>some (.int k n)
  |_=>none
theorem Cd(m:Mem)(w:World):Mem.le m (mh m w):=fun b off v h=>by simp only[mh,h]
theorem JA{m:Mem}{w:World}{b off:Nat}{v:Value}(h:mh m w b off=some v):m b off=some v\/∃ k n,v=.int k n/\w.cell? ⟨b,off,none⟩=some v:=by
 unfold mh at h
 split at h
 ·rename_i e;cases h;exact .inl e
 ·split at h
  ·rename_i e;cases h;exact .inr ⟨_,_,rfl,e⟩
  ·cases h
theorem Ve{m:Mem}{w:World}(hm:∀ b off v,m b off=some v->w.cell? ⟨b,off,none⟩=some v){b off:Nat}{k:IntKind}{n:Int}(h:w.cell? ⟨b,off,none⟩=some (.int k n)):mh m w b off=some (.int k n):=by
 unfold mh
 cases e:m b off with
 |some v=>have:=hm _ _ _ e;rw[h]at this;simpa using this.symm
 |none=>simp only[h]
theorem kx{G:Ghost}{φ:Name->Loc}{m:Mem}{σ:S}{a:Act}{w:World}(hC:aQ G φ m σ a w){d:D}{u:Value}(hd:aD φ σ.obj m d u)(aa:me σ.obj d=true):
 aP (mh m w) (l' σ.obj d) u/\(d.one=true->(l' σ.obj d).one=true):=by
 cases hd with
 |v x u h=>exact⟨h.mono (Cd m w),id⟩
 |msl nm k u hx hu=>
  obtain⟨o,n,aA,hlen,hk,dj⟩:=hx
  cases o with
  |arr sz l=>
   simp only[me,aA,Bool.and_eq_true,decide_eq_true_eq]at aa
   simp only[l',aA]
   refine⟨?_,fun _=>rfl⟩
   simp only[O.len?,Option.some.injEq]at hlen
   subst hlen
   obtain⟨Kc,hint⟩:=aa
   have e:=dj Kc
   subst e
   rcases hC.objs nm _ aA with⟨h,h'⟩ | ⟨h0,h1,h2,h3,h4,us,T,f,h5,h6,h7,h8⟩
   ·subst h'
    simp only[Loc.slice,h,if_true]
    exact .slnil _ _
   ·simp only[Loc.slice,h0,Bool.false_eq_true,if_false]
    rw[Kc]
    by_cases hl:l=[]
    ·subst hl;exact .slnil _ _
    ·have key:∀ i j (hi:i<l.length) (hj:j<(l[i].cells).length),∃ c,mh m w (φ nm).blk ((φ nm).off+i*sz+j)=some c/\us[(φ nm).off+i*sz+j]?=some c/\aP m (l[i].cells)[j] c:=by
       intro i j hi hj
       obtain⟨c,x,y⟩:=h8 i j hi hj
       refine⟨c,?_,x,y⟩
       have hc:JB (l[i].cells)[j]=true:=by
        unfold ym at hint
        rw[List.all_eq_true]at hint
        have :=hint _ (List.getElem_mem hi)
        rw[List.all_eq_true]at this
        exact this _ (List.getElem_mem hj)
       have hw:w.cell? ⟨(φ nm).blk,(φ nm).off+i*sz+j,none⟩=some c:=by
        unfold World.cell?
        simp only[h5]
        exact x
       cases hv:(l[i].cells)[j]<;>rw[hv]at hc y<;>first | (cases hc;done) | skip
       cases y
       exact Ve hC.mem hw
     refine .sl l _ _ _ sz (fun i j=>(us[(φ nm).off+i*sz+j]?).getD undef) hl (by omega) h1 h3 (fun i j hi hj=>?_) (fun i j hi hj=>?_) h4
     ·obtain⟨c,x,y,_⟩:=key i j hi (by rw[h3];exact hj)
      rw[x,y];rfl
     ·obtain⟨c,_,y,z⟩:=key i j hi hj
      rw[y];exact z.mono (Cd m w)
  |_=>simp[me,aA]at aa
 |_=>cases aa
theorem QI{G:Ghost}{φ:Name->Loc}{m:Mem}{σ:S}{a:Act}{w:World}(hC:aQ G φ m σ a w){d:D}{u:Value}(hd:aD φ σ.obj m d u)(aa:n8 σ.obj d=true):
 aP (mh m w) (iO σ.obj d) u:=by
 cases d with
 |agg l=>
  cases hd with
  |agg _ us h ho hr=>
   simp only[n8,List.all_eq_true]at aa
   simp only[iO]
   refine .agg _ us (by simpa using h) (fun x hx=>?_) fun i hi bE=>?_
   ·obtain⟨d,hd,rfl⟩:=List.mem_map.1 hx
    obtain⟨j,hj,rfl⟩:=List.getElem_of_mem hd
    exact(kx hC (hr j hj (by omega)) (aa _ (List.getElem_mem hj))).2 (ho _ (List.getElem_mem hj))
   ·simp only[List.length_map]at hi
    rw[List.getElem_map]
    exact(kx hC (hr i hi bE) (aa _ (List.getElem_mem hi))).1
 |v x=>exact(kx (d:=.v x) hC hd aa).1
 |nilsl=>exact(kx (d:=.nilsl) hC hd aa).1
 |nilmap=>exact(kx (d:=.nilmap) hC hd aa).1
 |ref a b=>exact(kx (d:=.ref a b) hC hd aa).1
 |msl a b=>exact(kx (d:=.msl a b) hC hd aa).1
 |aref a b c e=>exact(kx (d:=.aref a b c e) hC hd aa).1
 |map a=>exact(kx (d:=.map a) hC hd aa).1
 |yld a=>exact(kx (d:=.yld a) hC hd aa).1
 |clo a b c=>exact(kx (d:=.clo a b c) hC hd aa).1
 |tup a=>exact(kx (d:=.tup a) hC hd aa).1
 |any=>exact(kx (d:=.any) hC hd aa).1
theorem aT.soundU{P:Program}{f:FuncId}{s:PSpec}(h:aT P f s)(hb:∀ xs,s.pre xs->∃ l,s.fn xs=.sl l/\l.all YS=true):aF P f s.toSpecU:=by
 obtain⟨hy,kO,_,rB⟩:=h
 refine⟨s.nearU,fun _=>kO,fun _ G φ m σ a w hC t ds us _ hl hr aa=>?_,fun e=>(hy e).elim⟩
 obtain⟨vF,fU⟩:=aa
 have nq:∀ b off v,mh m w b off=some v->w.cell? ⟨b,off,none⟩=some v:=fun b off v h=>by
  rcases JA h with h | ⟨_,_,_,h⟩
  ·exact hC.mem _ _ _ h
  ·exact h
 refine(rB (mh m w) w (ds.map (iO σ.obj)) us nq ⟨by simpa using hl,fun i h h'=>?_⟩ fU).mono ?_
 ·simp only[List.length_map]at h
  rw[List.getElem_map,Array.getElem_toList]
  exact QI hC (hr i h (by simpa using h')) (vF _ (List.getElem_mem h))
 rintro e w' ⟨v,m',rfl,tL,hm,hn,hv⟩
 obtain⟨l,gh,dE⟩:=hb _ fU
 let m2:Mem:=fun b off=>if w.heap.size<=b then m' b off else m b off
 have hle:Mem.le m m2:=fun b off v h=>by
  show (if w.heap.size<=b then m' b off else m b off)=some v
  split
  ·exact hm _ _ _ (Cd m w _ _ _ h)
  ·exact h
 have oB:aP m2 (s.fn (ds.map (iO σ.obj))) v:=by
  rw[gh]at hv |-
  rw[List.all_eq_true]at dE
  have vW:∀ i (h:i<l.length),l[i].cells=[l[i]]:=fun i h=>by
   have :=dE _ (List.getElem_mem h)
   cases hv:l[i]<;>rw[hv]at this<;>first | (cases this;done) | rfl
  cases hv with
  |slnil a cap=>exact .slnil _ _
  |sl _ b o cap sz c J6 yQ jb hs hc hr ho=>
   have dD:sz=1:=by
    have h0:0<l.length:=List.length_pos_iff.2 J6
    rw[<-hs 0 h0,vW 0 h0];rfl
   subst dD
   have Kv:∀ i (h:i<l.length),∃ x,l[i]=.bool x/\c i 0=.bool x:=fun i h=>by
    have h1:=hr i 0 h (by rw[vW i h];exact Nat.zero_lt_one)
    have h2:=dE _ (List.getElem_mem h)
    simp only[vW i h,List.getElem_cons_zero]at h1
    cases hv:l[i]<;>rw[hv]at h2<;>first | (cases h2;done) | skip
    rw[hv]at h1
    generalize hc0:c i 0=cc at h1
    cases h1
    exact⟨_,rfl,rfl⟩
   refine .sl l b o cap 1 c J6 yQ jb hs (fun i j hi hj=>?_) (fun i j hi hj=>?_) ho
   ·have cY:j=0:=by omega
    subst cY
    have h1:=hc i 0 hi hj
    show (if w.heap.size<=b then m' b (o+i*1+0)else m b (o+i*1+0))=_
    split
    ·exact h1
    ·rename_i ab
     obtain⟨x,_,hx⟩:=Kv i hi
     rcases hn _ _ _ h1 with h2 | ⟨h2,_⟩
     ·rcases JA h2 with h3 | ⟨k,n,h3,_⟩
      ·exact h3
      ·rw[hx]at h3;cases h3
     ·exact(ab h2).elim
   ·obtain⟨x,h1,h2⟩:=Kv i hi
    have cY:j=0:=by rw[vW i hi]at hj;simpa using hj
    subst cY
    simp only[vW i hi,List.getElem_cons_zero]
    rw[h1,h2]
    exact .bool x
 refine⟨v,φ,m2,rfl,?_,.v _ _ oB,.refl _ _⟩
 simp only[PSpec.toSpecU]
 refine hC.imm hle ⟨tL.os,tL.tape,tL.output,tL.size⟩ tL.block fun b off v h=>?_
 have h':(if w.heap.size<=b then m' b off else m b off)=some v:=h
 split at h'
 ·rename_i bj
  rcases hn _ _ _ h' with h2 | h2
  ·have:=nH (nq _ _ _ h2);omega
  ·exact .inr h2
 ·exact .inl h'
structure Rn (α:Type) where
 m:Nat
 fam:α->List Name->List O
 args:α->List Name->List D
 ok:α->Prop
 val:α->List Name->D
structure Rn.Ok {α:Type} (r:Rn α):Prop where
 len:∀ a Ls,Ls.length=r.m->(r.fam a Ls).length=r.m
 renF:∀ a f Ls,Ls.length=r.m->(r.fam a Ls).map (O.ren f)=r.fam a (Ls.map f)
 renA:∀ a f Ls,Ls.length=r.m->D.renL f (r.args a Ls)=r.args a (Ls.map f)
 reach:∀ a Ls obj,Ls.length=r.m->Ls.Nodup->bW obj Ls (r.fam a Ls)->reach obj (r.args a Ls)=Ls
 closF:∀ a dom Ls,Ls.length=r.m->(∀ x∈Ls,dom x=true)->∀ o∈r.fam a Ls,O.clos dom o=true
 closA:∀ a dom Ls,Ls.length=r.m->(∀ x∈Ls,dom x=true)->D.closL dom (r.args a Ls)=true
 det:∀ a b,r.ok a->r.ok b->r.fam a (LR r.m)=r.fam b (LR r.m)->r.args a (LR r.m)=r.args b (LR r.m)->r.val a (LR r.m)=r.val b (LR r.m)
 vcl:∀ a dom Ls,Ls.length=r.m->(∀ x∈Ls,dom x=true)->D.clos dom (r.val a Ls)=true
 vren:∀ a f Ls,Ls.length=r.m->(r.val a Ls).ren f=r.val a (Ls.map f)
variable {α:Type}
noncomputable def Rn.c(r:Rn α):CSpec where
 pre:=fun os ds=>∃ a,r.ok a/\os=r.fam a (LR r.m)/\ds=r.args a (LR r.m)
 out:=fun os ds=>⟨[],[],by classical exact if h:∃ a,r.ok a/\os=r.fam a (LR r.m)/\ds=r.args a (LR r.m)then r.val h.choose (LR r.m)else .any⟩
theorem Rn.c_out{r:Rn α}(hr:r.Ok){a:α}(ha:r.ok a):r.c.out (r.fam a (LR r.m)) (r.args a (LR r.m))=⟨[],[],r.val a (LR r.m)⟩:=by
 have h:∃ b,r.ok b/\r.fam a (LR r.m)=r.fam b (LR r.m)/\r.args a (LR r.m)=r.args b (LR r.m):=⟨a,ha,rfl,rfl⟩
 have e:r.val h.choose (LR r.m)=r.val a (LR r.m):=(hr.det _ _ ha h.choose_spec.1 h.choose_spec.2.1 h.choose_spec.2.2).symm
 simp only[Rn.c]
 rw[dif_pos h,e]
theorem Rn.c_app{r:Rn α}(hr:r.Ok){a:α}(ha:r.ok a){obj:Name->Option O}{t:Name}{Ls:List Name}(hl:Ls.length=r.m)(hn:Ls.Nodup)(hF:bW obj Ls (r.fam a Ls)):
 r.c.toSpec.app obj t (r.args a Ls)=⟨True,r.val a Ls,obj⟩:=by
 have gy:=hr.reach a Ls obj hl hn hF
 have rA:Ls.map (cin Ls)=LR r.m:=by rw[zI hn,hl]
 have e1:ca obj (r.args a Ls)=r.fam a (LR r.m):=by
  unfold ca
  rw[gy]
  have mJ:=hF
  rw[js]at mJ
  have :Ls.map (cm Ls obj)=(r.fam a Ls).map (O.ren (cin Ls)):=by
   refine List.ext_getElem (by simp[hr.len _ _ hl,hl]) fun i h1 h2=>?_
   have h3:i<Ls.length:=by simpa using h1
   have h4:i<(r.fam a Ls).length:=by rw[hr.len _ _ hl,<-hl];exact h3
   have h5:=congrArg (fun l=>l[i]?) mJ
   have h6:obj Ls[i]=some (r.fam a Ls)[i]:=by simpa[h3,h4]using h5
   simp only[List.getElem_map,cm,h6]
  rw[this,hr.renF _ _ _ hl,rA]
 have e2:cC obj (r.args a Ls)=r.args a (LR r.m):=by
  unfold cC
  rw[gy,hr.renA _ _ _ hl,rA]
 have jY:∀ x∈Ls,bZ Ls x=true:=fun x hx=>fx.2 hx
 have gw:shut obj Ls=true:=by
  unfold shut
  rw[List.all_eq_true]
  intro x hx
  obtain⟨i,hi,rfl⟩:=List.getElem_of_mem hx
  have mJ:=hF
  rw[js]at mJ
  have h4:i<(r.fam a Ls).length:=by rw[hr.len _ _ hl,<-hl];exact hi
  have h5:=congrArg (fun l=>l[i]?) mJ
  have h6:obj Ls[i]=some (r.fam a Ls)[i]:=by simpa[hi,h4]using h5
  rw[h6]
  exact hr.closF _ _ _ hl jY _ (List.getElem_mem h4)
 have dg:r.c.pre (r.fam a (LR r.m)) (r.args a (LR r.m)):=⟨a,ha,rfl,rfl⟩
 simp only[CSpec.toSpec,e1,e2,gy,Rn.c_out hr ha,gw,hr.closA _ _ _ hl jY,fresh,List.all_nil,Bool.and_self,dg,and_self,de,cA]
 rw[hr.vren _ _ _ (nM _)]
 have :(LR r.m).map (cout Ls t)=Ls:=by rw[<-hl];exact LV Ls t
 rw[this]
def Gc(P:Program)(rs:List ResultVar)(v:D)(H:Name->Option O)(e:Exit)(σ:S):Prop:=
 (e=.normal\/e=.ret)/\(bL P σ rs).ok/\(bL P σ rs).d=v/\∀ i,σ.obj [i,1]=H [i,1]
theorem Rn.sound{P:Program}{r:Rn α}(hr:r.Ok){f:FuncId}{fn:Func}{nt:Nat}{rs:List ResultVar}(hf:P.funcs[f]?=some fn)(cM:fn.ntmps=nt)(ck:fn.results.toList=rs)(hn:(fn.name== "runtime.NumGoroutine")=false)(hy:f<1000000000)
 (hw:∃ c,fn.body=some c/\∀ a,r.ok a->(r.args a (LR r.m)).length<=nt/\CL P [c] (be nt [0] (aM (r.fam a (LR r.m))) (cZ 0 (r.args a (LR r.m))) []) (Gc P rs (r.val a (LR r.m)) (aM (r.fam a (LR r.m))))):aF P f r.c.toSpec:=by
 obtain⟨c,hc,hw⟩:=hw
 refine kV hf hc cM ck (gm hf hc hn) (Nat.ne_of_lt (show f<yid from hy)) ?_
 rintro os ds ⟨a,ha,rfl,rfl⟩
 obtain⟨hl,h⟩:=hw a ha
 refine⟨hl,?_⟩
 rw[Rn.c_out hr ha]
 refine CW.mono (fE h) ?_
 rintro e σ ⟨he,h1,h2,h3⟩
 have fin:(bL P σ rs).ok/\(bL P σ rs).d=r.val a (LR r.m)/\fC (r.fam a (LR r.m)) ⟨[],[],r.val a (LR r.m)⟩ σ:=by
  refine⟨h1,h2,Br fun i hi=>?_,trivial,?_⟩
  ·rw[Nat.zero_add,h3]
   show (r.fam a (LR r.m))[i]?=_
   rw[List.getElem?_eq_getElem hi]
  ·have hv:D.clos (dh (r.fam a (LR r.m)).length []) (r.val a (LR r.m))=true:=hr.vcl _ _ _ (nM _) fun x hx=>by
     obtain⟨i,hi,rfl⟩:=List.mem_map.1 hx
     rw[hr.len _ _ (nM _)]
     simpa[dh]using hi
   simp[hv,distinct]
 rcases he with rfl | rfl
 ·exact fin
 ·exact fin
theorem Rn.outC{r:Rn α}(hr:r.Ok)(a:α):∀ hs,bx [0] (bp [0] hs) (aM (r.fam a (LR r.m)))=True:=fun hs=>eq_true (jL (fun o ho dom hd=>hr.closF a dom _ (nM _) (fun x hx=>by
 obtain⟨i,_,rfl⟩:=List.mem_map.1 hx
 exact hd i) o ho) hs)
open Go Go.Proofs
set_option maxRecDepth 10000
noncomputable section
attribute [go_sem] Gc
def S71u:Spec:=P71.toSpecU
theorem UT:aF Tryz.prog 71 S71u:=Pl.soundU fun xs hp=>by
 obtain⟨l,hl⟩:∃ l:List Bool,P71.fn xs=.sl (l.map .bool):=by
  match xs,hp with
  |[a,b],_=>exact⟨_,rfl⟩
 refine⟨_,hl,?_⟩
 rw[List.all_eq_true]
 intro x hx
 obtain⟨y,_,rfl⟩:=List.mem_map.1 hx
 rfl
theorem Vf(l:List Sig):ym (l.map encS)=true:=by
 unfold ym
 rw[List.all_eq_true]
 intro x hx
 obtain⟨y,_,rfl⟩:=List.mem_map.1 hx
 rfl
def xp(l:Led)(k:Int)(nm:Name):D:=.agg [.v (.sl (l.ps.map db)),.v (.sl (l.rs.map encR)),.v (.sl (l.ts.map encT)),.msl nm l.ss.length,.v (vInt k),.v (.sl ((bF l k l.ts.length).map .bool)),.nilsl]
def jw:Rn (Led×Int) where
 m:=1
 fam:=fun a _=>[.arr 7 (a.1.ss.map encS)]
 args:=fun a Ls=>[.agg [.v (.sl (a.1.ps.map db)),.v (.sl (a.1.rs.map encR)),.v (.sl (a.1.ts.map encT)),.msl (Ls.getD 0 []) a.1.ss.length],.v (vInt a.2)]
 ok:=fun a=>bS a.1
 val:=fun a Ls=>xp a.1 a.2 (Ls.getD 0 [])
theorem s7{Ls:List Name}(h:Ls.length=1):∃ a,Ls=[a]:=by
 match Ls,h with
 |[a],_=>exact⟨a,rfl⟩
theorem BR:jw.Ok where
 len:=fun _ _ h=>by obtain⟨a,rfl⟩:=s7 h;rfl
 renF:=fun a f Ls h=>rfl
 renA:=fun a f Ls h=>by obtain⟨a,rfl⟩:=s7 h;rfl
 reach:=fun x Ls obj h bR hF=>by
  obtain⟨a,rfl⟩:=s7 h
  obtain⟨h1,_⟩:=hF
  have en:b8 (jw.args x [a])=[a]:=rfl
  unfold Go.Eng.reach
  rw[en]
  show cE obj (2993+1+1+1+1+1+1+1) _ []=_
  simp[cE,fx,h1,gZ]
 closF:=fun x dom Ls h hd o ho=>by
  simp only[jw,List.mem_cons,List.not_mem_nil,or_false]at ho
  subst ho;rfl
 closA:=fun x dom Ls h hd=>by
  obtain⟨a,rfl⟩:=s7 h
  have h1:=hd a (by simp)
  simp[jw,D.closL,D.clos,h1]
 det:=fun a b _ _ h1 h2=>by
  obtain⟨⟨p,r,t,s⟩,k⟩:=a
  obtain⟨⟨p2,r2,t2,s2⟩,k2⟩:=b
  simp only[jw,List.cons.injEq,D.agg.injEq,D.v.injEq,V.sl.injEq,O.arr.injEq,and_true,true_and]at h1 h2
  obtain⟨⟨e1,e2,e3,_⟩,e4⟩:=h2
  have e1:=congrArg (List.map p8) e1
  have e2:=congrArg (List.map gF) e2
  have e3:=congrArg (List.map iv) e3
  have e5:=congrArg (List.map jd) h1
  simp only[LG,tX,zq,rV]at e1 e2 e3 e5
  have e6:k=k2:=by simpa[vInt]using e4
  subst e1 e2 e3 e5 e6
  rfl
 vcl:=fun x dom Ls h hd=>by
  obtain⟨a,rfl⟩:=s7 h
  have h1:=hd a (by simp)
  simp[jw,xp,D.closL,D.clos,h1]
 vren:=fun x f Ls h=>by obtain⟨a,rfl⟩:=s7 h;rfl
def S73m:Spec:=jw.c.toSpec
theorem Pj(l:Led)(k:Int)(obj:Name->Option O)(t nm:Name)(H:Name->Option O)(cX:obj nm=H nm)(h0:H nm=some (.arr 7 (l.ss.map encS)))(hl:bS l):
 S71u.app obj t [.agg [.v (.sl (l.ps.map db)),.v (.sl (l.rs.map encR)),.v (.sl (l.ts.map encT)),.msl nm l.ss.length],.v (vInt k)]=⟨True,.v (.sl ((bF l k l.ts.length).map .bool)),obj⟩:=by
 have ho:=cX.trans h0
 have e:iO obj (.agg [.v (.sl (l.ps.map db)),.v (.sl (l.rs.map encR)),.v (.sl (l.ts.map encT)),.msl nm l.ss.length])=fD l:=by
  simp[iO,l',ho,fD]
 have e2:P71.fn [fD l,vInt k]=.sl ((bF l k l.ts.length).map .bool):=by
  simp only[go_sem]
 have e3:P71.pre [fD l,vInt k]:=by
  simp only[go_sem]
  exact hl
 simp only[S71u,PSpec.toSpecU,List.map_cons,List.map_nil,e,show iO obj (.v (vInt k))=vInt k from rfl,e2,R.mk.injEq,and_true,eq_iff_iff,iff_true]
 refine⟨fun d hd=>?_,e3⟩
 simp only[List.mem_cons,List.not_mem_nil,or_false]at hd
 rcases hd with rfl | rfl
 ·simp[n8,me,ho,Vf]
 ·rfl
theorem Pk(l:Led)(k:Int)(t:Name){F H:Name->Option O}(h0:H [0,1]=some (.arr 7 (l.ss.map encS)))(hl:bS l):
 S71u.app (fun nm=>if own [0] nm=true then F nm else H nm) t [.agg [.v (.sl (l.ps.map db)),.v (.sl (l.rs.map encR)),.v (.sl (l.ts.map encT)),.msl [0,1] l.ss.length],.v (vInt k)]=⟨True,.v (.sl ((bF l k l.ts.length).map .bool)),fun nm=>if own [0] nm=true then F nm else H nm⟩:=
 Pj l k _ t [0,1] H rfl h0 hl
def EX:FuncId->Option Spec:=fun f=>if f=71 then some S71u else none
theorem aal:∀ f s,EX f=some s->aF Tryz.prog f s:=fun f s h=>by
 unfold EX at h
 split at h
 ·rename_i e;cases h;subst e;exact UT
 ·cases h
@[go_sem] theorem aeO:EX 71=some S71u:=rfl
set_option maxHeartbeats 4000000 in
theorem US:aF Tryz.prog 73 S73m:=by
 refine Rn.sound BR (rs:=[.cell 4 108]) Tryz.func73 Tryz.ntmps73 (by rfl) (by kernel_rfl) (by decide) ⟨_,rfl,?_⟩
 rintro⟨l,k⟩ hp
 refine⟨lb rfl,?_⟩
 have hΓ:=aal
 have hP:=eE
 have hO:=Rn.outC BR (l,k)
 have h0:aM (jw.fam (l,k) (LR jw.m)) [0,1]=some (.arr 7 (l.ss.map encS)):=rfl
 generalize aM (jw.fam (l,k) (LR jw.m))=H at *
 have ha:jw.args (l,k) (LR jw.m)=[.agg [.v (.sl (l.ps.map db)),.v (.sl (l.rs.map encR)),.v (.sl (l.ts.map encT)),.msl [0,1] l.ss.length],.v (vInt k)]:=rfl
 have hv:jw.val (l,k) (LR jw.m)=xp l k [0,1]:=rfl
 rw[ha,hv]
 simp only[xp,cZ,Nat.zero_add]at h0 |-
 repeat refine sq ?_
 refine rx hΓ [1,2,4] [[2,0],[4,0]] (fun K' hK=>by simp only[go_sem,hO,h0];(repeat (refine⟨ak,?_⟩));exact hK _ (by simp only[go_sem,hO,h0]) (by simp only[go_sem,hO,h0]<;>rfl)) ?_
 repeat refine sq ?_
 refine dx hΓ hP [[],[],[],[],[2,3],u5,u6] [4] [[4,0]] (by kernel_rfl) (fun K' hK=>by simp only[go_sem,hO,h0];rw[Pk l k _ h0 hp];simp only[go_sem,hO,h0];(repeat (refine⟨ak,?_⟩));(first | refine⟨by rfl,?_⟩ | skip);exact hK _ (by simp only[go_sem,hO,h0]) (by simp only[go_sem,hO,h0]<;>rfl)) ?_
 refine av ?_
 simp only[go_sem,hO,h0]
 exact .inr trivial
theorem Ph{p:List Pap}{rr:List Rec}{tt:List Ret}{ss:List Sig}{k:Int}{n:Nat}{obj:Name->Option O}{t nm:Name}(ho:obj nm=some (.arr 7 (ss.map encS)))(hl:bS ⟨p,rr,tt,ss⟩)(hn:n=ss.length):
 S73m.app obj t [.agg [.v (.sl (p.map db)),.v (.sl (rr.map encR)),.v (.sl (tt.map encT)),.msl nm n],.v (.int .i64 k)]=
  ⟨True,.agg [.v (.sl (p.map db)),.v (.sl (rr.map encR)),.v (.sl (tt.map encT)),.msl nm ss.length,.v (.int .i64 k),.v (.sl ((bF ⟨p,rr,tt,ss⟩ k tt.length).map .bool)),.nilsl],obj⟩:=by
 subst hn
 exact Rn.c_app BR (a:=(⟨p,rr,tt,ss⟩,k)) hl (t:=t) (obj:=obj) (Ls:=[nm]) rfl (by simp) ⟨ho,trivial⟩
end
noncomputable section
def rP(x:R5):V:=.agg [vInt x.a,vInt x.b,vInt x.c,vInt x.d,vInt x.e]
def tR(x:R7):V:=.agg [vInt x.a,vInt x.b,vInt x.c,vInt x.d,vInt x.e,vInt x.f,vInt x.g]
def wt:V->R5
 | .agg [.int _ a,.int _ b,.int _ c,.int _ d,.int _ e]=>⟨a,b,c,d,e⟩
 |_=>default
def zt:V->R7
 | .agg [.int _ a,.int _ b,.int _ c,.int _ d,.int _ e,.int _ f,.int _ g]=>⟨a,b,c,d,e,f,g⟩
 |_=>default
def rO(r:Raw):V:=.agg [.sl (r.rs.map rP),.sl (r.ts.map tR),.sl (r.ss.map rP)]
def zr:V->Raw
 | .agg [.sl a,.sl b,.sl c]=>⟨a.map wt,b.map zt,c.map wt⟩
 |_=>default
def vh:En Raw:=⟨rO,zr⟩
theorem Yd(x:R5):wt (rP x)=x:=rfl
theorem Yb(x:R7):zt (tR x)=x:=rfl
@[go_sem] theorem Yc(l:List R5):(l.map rP).map wt=l:=pz Yd l
@[go_sem] theorem Ya(l:List R7):(l.map tR).map zt=l:=pz Yb l
attribute [go_sem] rP wt tR zt rO zr vh
@[go_sem] theorem aez(x:Raw):(⟨x.rs,x.ts,x.ss⟩:Raw)=x:=rfl
def K73:List (Nat×Spec):=[(20,M9),(83,ZD),(84,Aj),(73,S73m),(74,M4)]
theorem aao:KS K73:=tc F0.sound<|tc Pf.sound<|tc Pe.sound<|tc US<|tc Pg.sound<|tn
attribute [go_sem] K73
@[go_sem] def P19:PSpec:=p1 vh (fun _=>True) (fun r=>.tup [fD (cj r),.sl ((kS r (nT r)).map vInt)]) false
@[go_sem] def ZM:Spec:=P19.toSpec
set_option maxHeartbeats 1000000 in
theorem PA:aT Tryz.prog 19 P19:=by
 refine fI (rs:=[.cell 2 31,.tmp 3]) Tryz.func19 Tryz.ntmps19 fun r hp hw=>?_
 have hP:=eE
 simp only[vh]at hw |-
 have hΓ:=aao
 have h8:=qF r
 have hl:nR r<=maxLen:=by unfold maxLen;omega
 repeat refine sq ?_
 refine rx hΓ [1,2] [[1,0],[2,0],[77,0],[158,0],[235,0]] (fun K' hK=>by simp only[go_sem];exact an) ?_
 repeat refine sq ?_
 refine rx hΓ [1,2,4] [[1,0],[2,0],[4,0],[77,0],[158,0],[235,0]] (fun K' hK=>by simp only[go_sem];exact an) ?_
 repeat refine sq ?_
 refine rx hΓ [1,2,4,5] [[1,0],[2,0],[4,0],[77,0],[158,0],[163,0],[235,0]] (fun K' hK=>by simp only[go_sem];exact an) ?_
 refine bG (AB 5 [163,0] 1 (by simp only[go_sem]) (by simp only[go_sem]) [1,2,4,5] [[1,0],[2,0],[4,0],[77,0],[158,0],[163,0],[235,0]] ?_ rfl) ?_
 ·simp only[go_sem]
 simp only[go_sem]
 repeat refine sq ?_
 refine rx hΓ [1,2,4,5,6] [[1,0],[2,0],[4,0],[77,0],[158,0],[163,0],[235,0]] (fun K' hK=>by simp only[go_sem];exact an) ?_
 refine bG (jH [4,0] [77,0] 1 7 _ rfl rfl rfl [1,2,4,5,6] [[1,0],[2,0],[4,0],[77,0],[158,0],[163,0],[235,0]] ?_ rfl) ?_
 ·simp only[go_sem,List.set_cons_succ,List.set_cons_zero]
 simp only[go_sem,List.set_cons_succ,List.set_cons_zero]
 refine bG (jH [4,0] [158,0] 2 8 _ rfl rfl rfl [1,2,4,5,6] [[1,0],[2,0],[4,0],[77,0],[158,0],[163,0],[235,0]] ?_ rfl) ?_
 ·simp only[go_sem,List.set_cons_succ,List.set_cons_zero]
 simp only[go_sem,List.set_cons_succ,List.set_cons_zero]
 repeat refine sq ?_
 refine rx hΓ [1,2,4,5,6,7] [[1,0],[2,0],[4,0],[77,0],[158,0],[163,0],[235,0]] (fun K' hK=>by simp only[go_sem];exact an) ?_
 refine bG (jH [4,0] [235,0] 3 7 _ rfl rfl rfl [1,2,4,5,6,7] [[1,0],[2,0],[4,0],[77,0],[158,0],[163,0],[235,0]] ?_ rfl) ?_
 ·simp only[go_sem,List.set_cons_succ,List.set_cons_zero]
 simp only[go_sem,List.set_cons_succ,List.set_cons_zero]
 repeat refine sq ?_
 refine aI ?_
 repeat refine sq ?_
 refine bT (fun s:Nat=>[(7,⟨true,.v (vInt s)⟩),(6,⟨true,.v (vInt (eI r s))⟩)]) (fun s=>[([4,0],.box [.v (.sl (mps.map db)),.msl [77,0] (e8 r s).length,.msl [158,0] 0,.msl [235,0] 0]),([77,0],.arr 7 ((e8 r s).map encR))]) (fun s=>s<=(nR r)) (fun s=>(nR r)-s) 0 ?_ ?_ ?_ ?_
 ·exact Nat.zero_le _
 ·rfl
 ·rfl
 rintro i hi
 simp only[go_sem]
 repeat refine sq ?_
 refine rx hΓ [1,2,4,5,6,7,33] [[1,0],[2,0],[4,0],[77,0],[158,0],[163,0],[235,0]] (fun K' hK=>by simp only[go_sem];exact an) ?_
 repeat refine sq ?_
 refine ax (fun hb=>?_) fun hb=>?_
 ·repeat refine sq ?_
  have ab:i<nR r:=by simp at hb;unfold nR;omega
  have Kl:i<r.rs.length:=by have h:=ab;unfold nR at h;omega
  have Wj:(i:Int)<r.rs.length:=by omega
  have e5:r5 r.rs i=r.rs[i]:=dM Kl
  have m3:=dS (n:=r.rs[i].b) (m:=3) (by decide)
  have vI:0<=aR r.rs[i].b 3:=m3.1
  have V3:(mps.length:Int)=3:=rfl
  have pR:aR r.rs[i].b 3<(mps.length:Int):=by omega
  have Da:(mps.map db).getD (aR r.rs[i].b 3).toNat default=db (dR r.rs[i].b):=by
   have hl:(aR r.rs[i].b 3).toNat<mps.length:=by omega
   rw[ah hl];unfold dR;rw[dM hl]
  obtain⟨-,l1,l2,p1,p2⟩:=xY (xZ r.rs[i].b)
  have d0:=wo r i
  have ed:eI r (i+1)=eI r i+aR r.rs[i].d 20:=by rw[eI,e5]
  have m20:=dS (n:=r.rs[i].d) (m:=20) (by decide)
  have m4:=dS (n:=r.rs[i].a) (m:=4) (by decide)
  have m5:=dS (n:=r.rs[i].e) (m:=5) (by decide)
  have gv:IntKind.i64.wrap (eI r i+aR r.rs[i].d 20)=eI r (i+1):=by rw[wrap_i64 (by omega) (by omega)];exact ed.symm
  have vo:IntKind.i64.wrap (3*(i:Int))=3*(i:Int):=wrap_i64 (by omega) (by omega)
  have VD:IntKind.i64.wrap (3*(i:Int)+1)=3*(i:Int)+1:=wrap_i64 (by omega) (by omega)
  have Vz:IntKind.i64.wrap (1+aR r.rs[i].a 4)=1+aR r.rs[i].a 4:=wrap_i64 (by omega) (by omega)
  have tr:IntKind.i64.wrap (eI r (i+1)+aR r.rs[i].e 5)=eI r (i+1)+aR r.rs[i].e 5:=wrap_i64 (by omega) (by omega)
  have eS:e8 r (i+1)=e8 r i++[⟨3*(i:Int)+1,1+aR r.rs[i].a 4,(dR r.rs[i].b).id,iz r.rs[i].c (dR r.rs[i].b).lv,eI r (i+1),eI r (i+1)+aR r.rs[i].e 5,0⟩]:=by
   unfold e8
   rw[List.range_succ,List.map_append]
   show _++[fO r i]=_
   unfold fO
   rw[e5]
  have pK:=jn r i
  refine aC ?_
  repeat refine sq ?_
  refine aI ?_
  repeat refine sq ?_
  refine rx hΓ [1,2,4,5,6,7,8] [[1,0],[2,0],[4,0],[8,0],[77,0],[158,0],[163,0],[235,0]] (fun K' hK=>by simp only[go_sem,ah Kl,Wj,ai,aj,List.length_map];exact an) ?_
  repeat refine sq ?_
  refine dx hΓ hP [[],[0],[],[2],[2,3],u5,u6,[],u8] [1,2,4,5,6,7,8,9] [[1,0],[2,0],[4,0],[8,0],[9,0],[77,0],[158,0],[163,0],[235,0]] (by kernel_rfl) (fun K' hK=>by simp only[go_sem,Int.cast_ofNat_Int,Int.reduceToNat,Int.toNat_zero,Int.toNat_one,Nat.reduceMul,Nat.zero_mul,Nat.one_mul,List.getD_cons_succ,List.getD_cons_zero,Da,vI,pR,List.length_map];(repeat (refine⟨by first | exact ak | exact⟨by decide,by decide⟩,?_⟩));exact jB) ?_
  repeat refine sq ?_
  refine rx hΓ [1,2,4,5,6,7,8,9] [[1,0],[2,0],[4,0],[8,0],[9,0],[77,0],[158,0],[163,0],[235,0]] (fun K' hK=>by simp only[go_sem,Int.cast_ofNat_Int,Int.reduceToNat,Int.toNat_zero,Int.toNat_one,Nat.reduceMul,Nat.zero_mul,Nat.one_mul,List.getD_cons_succ,List.getD_cons_zero,gv];(repeat (refine⟨by first | exact ak | exact⟨by decide,by decide⟩,?_⟩));exact eX) ?_
  repeat refine sq ?_
  refine mO hΓ hP [[],[0],[],[2],[2,3],[],[5],[5,6],[5,6,7],[],[9],[],[11],[],[13],[5,6,7,11,12,13,14],[],[],[],[18],[5,6,7,11,12,13,14,15,18,19],[5,6,7,11,12,13,14,15,17,18,19,20],[2,3,4,5,6,7,8,9,10,11,12,13,14,15,16,17,18,19,20,21],[2,3,4,5,6,7,8,9,10,11,12,13,14,15,16,17,18,19,20,21,22],Fi,xa,N2] (by kernel_rfl) fun K' hK=>?_
  simp only[go_sem,Int.cast_ofNat_Int,Int.reduceToNat,Int.toNat_zero,Int.toNat_one,Nat.reduceMul,Nat.zero_mul,Nat.one_mul,List.getD_cons_succ,List.getD_cons_zero,vo,VD,Vz,tr]
  repeat (refine⟨by first | exact ak | exact⟨by decide,by decide⟩ | exact⟨by omega,by omega⟩,?_⟩)
  first | refine⟨by rfl,?_⟩ | skip
  refine hK _ ?_
  clear K' hK
  simp only[go_sem]
  refine kp [1,2,4,5,6,7] [[1,0],[2,0],[4,0],[77,0],[158,0],[163,0],[235,0]] ?_
  repeat refine sq ?_
  refine aS hΓ fun K' hK=>?_
  simp only[go_sem]
  repeat (refine⟨ak,?_⟩)
  refine hK _ ?_
  clear K' hK
  simp only[go_sem]
  refine⟨i+1,ab,by(show (nR r)-(i+1)<(nR r)-i;omega),?_⟩
  refine bd [1,2,4,5,6,7] [[1,0],[2,0],[4,0],[77,0],[158,0],[163,0],[235,0]] ?_ ?_<;>simp only[go_sem,aV ab hl,aY,eS,List.map_append,List.length_append,List.map_cons,List.map_nil,List.length_cons,List.length_nil]
 ·repeat refine sq ?_
  have bj:i=nR r:=by
   simp at hb
   have h:=hi
   unfold nR at h |-
   omega
  subst bj
  have tF:nT r<=maxLen:=by have:=xV r;unfold maxLen;omega
  refine bC ?_
  simp only[go_sem]
  refine kp [1,2,4,5,6] [[1,0],[2,0],[4,0],[77,0],[158,0],[163,0],[235,0]] ?_
  repeat refine sq ?_
  refine rx hΓ [1,2,4,5,6,10] [[1,0],[2,0],[4,0],[77,0],[158,0],[163,0],[235,0]] (fun K' hK=>by simp only[go_sem];exact an) ?_
  repeat refine sq ?_
  refine aI ?_
  repeat refine sq ?_
  refine bT (fun s:Nat=>[(10,⟨true,.v (vInt s)⟩),(5,⟨true,.msl [163,0] (kS r s).length⟩)]) (fun s=>[([4,0],.box [.v (.sl (mps.map db)),.msl [77,0] (e8 r (nR r)).length,.msl [158,0] (iK r s).length,.msl [235,0] 0]),([158,0],.arr 8 ((iK r s).map encT)),([163,0],.arr 1 ((kS r s).map vInt))]) (fun s=>s<=(nT r)) (fun s=>(nT r)-s) 0 ?_ ?_ ?_ ?_
  ·exact Nat.zero_le _
  ·rfl
  ·rfl
  rintro i1 hi
  simp only[go_sem]
  repeat refine sq ?_
  refine rx hΓ [1,2,4,5,6,10,93] [[1,0],[2,0],[4,0],[77,0],[158,0],[163,0],[235,0]] (fun K' hK=>by simp only[go_sem,jn];exact an) ?_
  repeat refine sq ?_
  refine ax (fun hb=>?_) fun hb=>?_
  ·repeat refine sq ?_
   have aJ:i1<nT r:=by simp at hb;unfold nT;split<;>omega
   have CO:nR r≠0:=Hf aJ
   have Kj:i1<r.ts.length:=by have h:=aJ;unfold nT at h;rw[if_neg CO]at h;omega
   have Wh:(i1:Int)<r.ts.length:=by omega
   have h8t:=xV r
   have e7:r7 r.ts i1=r.ts[i1]:=dM Kj
   have mx:=dS (n:=r.ts[i1].a) (m:=(nR r:Int)) (by omega)
   have Vu:0<=aR r.ts[i1].a (nR r):=mx.1
   have oA:aR r.ts[i1].a (nR r)<nR r:=mx.2
   have vR:((e8 r (nR r)).map encR).getD (aR r.ts[i1].a (nR r)).toNat default=encR (xT r i1):=by
    have hl:(aR r.ts[i1].a (nR r)).toNat<(e8 r (nR r)).length:=by rw[jn];omega
    rw[ah hl];unfold xT;rw[e7,dM hl]
   obtain⟨ix,hix,ex⟩:=E7 CO i1
   obtain⟨-,-,x3,-,-,x6,x7,x8⟩:=uM r (show ix<8 by omega)
   rw[<-ex]at x3 x6 x7 x8
   obtain⟨-,a0,a1⟩:=Fx CO (show i1<8 by omega)
   have ea:el r i1=(xT r i1).da+aR r.ts[i1].c 30:=by unfold el;rw[e7]
   have eS:iK r (i1+1)=iK r i1++[⟨3*(i1:Int)+2,(xT r i1).so,1+aR r.ts[i1].g 4,iz r.ts[i1].b (dC mps (xT r i1).pa),if el r i1-aR r.ts[i1].d 12>0 then el r i1-aR r.ts[i1].d 12 else 0,el r i1+aR r.ts[i1].e 12,el r i1+aR r.ts[i1].e 12+aR r.ts[i1].f 9,0⟩]:=by
    unfold iK
    rw[List.range_succ,List.map_append]
    show _++[tM r i1]=_
    unfold tM
    rw[e7,Si]
   have eD:kS r (i1+1)=kS r i1++[el r i1]:=by
    unfold kS
    rw[List.range_succ,List.map_append];rfl
   have jU:(iK r i1).length=i1:=by unfold iK;simp
   have ry:(kS r i1).length=i1:=by unfold kS;simp
   generalize xT r i1=xx at *
   have BK:=dS (n:=r.ts[i1].c) (m:=30) (by decide)
   have m4:=dS (n:=r.ts[i1].g) (m:=4) (by decide)
   have SB:=dS (n:=r.ts[i1].d) (m:=12) (by decide)
   have SA:=dS (n:=r.ts[i1].e) (m:=12) (by decide)
   have m9:=dS (n:=r.ts[i1].f) (m:=9) (by decide)
   have VA:IntKind.i64.wrap (xx.da+aR r.ts[i1].c 30)=el r i1:=by rw[wrap_i64 (by omega) (by omega)];exact ea.symm
   have vo:IntKind.i64.wrap (3*(i1:Int))=3*(i1:Int):=wrap_i64 (by omega) (by omega)
   have VC:IntKind.i64.wrap (3*(i1:Int)+2)=3*(i1:Int)+2:=wrap_i64 (by omega) (by omega)
   have vn:IntKind.i64.wrap (1+aR r.ts[i1].g 4)=1+aR r.ts[i1].g 4:=wrap_i64 (by omega) (by omega)
   have Vv:IntKind.i64.wrap (el r i1-aR r.ts[i1].d 12)=el r i1-aR r.ts[i1].d 12:=wrap_i64 (by omega) (by omega)
   have Vy:IntKind.i64.wrap (el r i1+aR r.ts[i1].e 12)=el r i1+aR r.ts[i1].e 12:=wrap_i64 (by omega) (by omega)
   have tr:IntKind.i64.wrap (el r i1+aR r.ts[i1].e 12+aR r.ts[i1].f 9)=el r i1+aR r.ts[i1].e 12+aR r.ts[i1].f 9:=wrap_i64 (by omega) (by omega)
   refine aC ?_
   repeat refine sq ?_
   refine aI ?_
   repeat refine sq ?_
   refine rx hΓ [1,2,4,5,6,10,11] [[1,0],[2,0],[4,0],[11,0],[77,0],[158,0],[163,0],[235,0]] (fun K' hK=>by simp only[go_sem,ah Kj,Wh,ai,aj,List.length_map];exact an) ?_
   repeat refine sq ?_
   refine dx hΓ hP [[],[0],[],[2],[],[4],[4,5],[2,3,4,5,6],u8,u9,[],fm] [1,2,4,5,6,10,11,12] [[1,0],[2,0],[4,0],[11,0],[12,0],[77,0],[158,0],[163,0],[235,0]] (by kernel_rfl) (fun K' hK=>by simp only[go_sem,Int.cast_ofNat_Int,Int.reduceToNat,Int.toNat_zero,Int.toNat_one,Nat.reduceMul,Nat.zero_mul,Nat.one_mul,List.getD_cons_succ,List.getD_cons_zero,vR,Vu,oA,jn,List.length_map];(repeat (refine⟨by first | exact ak | exact⟨by omega,by omega⟩,?_⟩));exact jB) ?_
   repeat refine sq ?_
   refine dx hΓ hP [[],[0],[],[2],[2,3],u5,u6] [1,2,4,5,6,10,11,12,13] [[1,0],[2,0],[4,0],[11,0],[12,0],[77,0],[158,0],[163,0],[235,0]] (by kernel_rfl) (fun K' hK=>by simp only[go_sem,Int.cast_ofNat_Int,Int.reduceToNat,Int.toNat_zero,Int.toNat_one,Nat.reduceMul,Nat.zero_mul,Nat.one_mul,List.getD_cons_succ,List.getD_cons_zero,VA];(repeat (refine⟨by first | exact ak | exact⟨by decide,by decide⟩,?_⟩));exact jB) ?_
   repeat refine sq ?_
   refine dx hΓ hP [[],[0],[0,1],[],[3],[],[5],[5,6],[5,6,7],[],[9],[],[],[12],[5,6,7,11,12,13],[5,6,7,9,10,11,12,13,14],[],[],[17],[5,6,7,9,10,11,12,13,14,15,17,18],[5,6,7,9,10,11,12,13,14,15,16,17,18,19],[5,6,7,9,10,11,12,13,14,15,16,17,18,19,20],[],[],[23],[5,6,7,9,10,11,12,13,14,15,17,18,19,23,24],[5,6,7,9,10,11,12,13,14,15,17,18,19,22,23,24,25],[5,6,7,9,10,11,12,13,14,15,16,17,18,19,20,21,22,23,24,25,26],w9,[],Fh] [1,2,4,5,6,10,11,13,14] [[1,0],[2,0],[4,0],[11,0],[14,0],[77,0],[158,0],[163,0],[235,0]] (by kernel_rfl) (fun K' hK=>by simp only[go_sem,Int.cast_ofNat_Int,Int.reduceToNat,Int.toNat_zero,Int.toNat_one,Nat.reduceMul,Nat.zero_mul,Nat.one_mul,List.getD_cons_succ,List.getD_cons_zero,vo,VC,vn,Vv,Vy];(repeat (refine⟨by first | exact ak | exact(jn _ _).symm | exact⟨by decide,by decide⟩ | exact⟨by omega,by omega⟩,?_⟩));exact jB) ?_
   repeat refine sq ?_
   refine dx hΓ hP [[],[0],[0,1],[],[3],[3,4],u6,u7,u8] [1,2,4,5,6,10,13,14] [[1,0],[2,0],[4,0],[14,0],[77,0],[158,0],[163,0],[235,0]] (by kernel_rfl) (fun K' hK=>by simp only[go_sem,Int.cast_ofNat_Int,Int.reduceToNat,Int.toNat_zero,Int.toNat_one,Nat.reduceMul,Nat.zero_mul,Nat.one_mul,List.getD_cons_succ,List.getD_cons_zero,tr];(repeat (refine⟨by first | exact ak | exact⟨by decide,by decide⟩,?_⟩));exact jB) ?_
   repeat refine sq ?_
   refine rx hΓ [1,2,4,5,6,10,13] [[1,0],[2,0],[4,0],[77,0],[158,0],[163,0],[235,0]] (fun K' hK=>by simp only[go_sem];exact an) ?_
   repeat refine sq ?_
   refine aS hΓ fun K' hK=>?_
   simp only[go_sem]
   repeat (refine⟨ak,?_⟩)
   refine hK _ ?_
   clear K' hK
   simp only[go_sem]
   refine kp [1,2,4,5,6,10] [[1,0],[2,0],[4,0],[77,0],[158,0],[163,0],[235,0]] ?_
   repeat refine sq ?_
   refine aS hΓ fun K' hK=>?_
   simp only[go_sem]
   repeat (refine⟨ak,?_⟩)
   refine hK _ ?_
   clear K' hK
   simp only[go_sem]
   refine⟨i1+1,aJ,by(show (nT r)-(i1+1)<(nT r)-i1;omega),?_⟩
   refine bd [1,2,4,5,6,10] [[1,0],[2,0],[4,0],[77,0],[158,0],[163,0],[235,0]] ?_ ?_<;>simp only[go_sem,aV aJ tF,aY,jn,eS,eD,List.map_append,List.length_append,List.map_cons,List.map_nil,List.length_cons,List.length_nil]
  ·repeat refine sq ?_
   have gz:i1=nT r:=by
    simp at hb
    have h:=hi
    unfold nT at h |-
    split at h
    ·rename_i h0;rw[if_pos h0];omega
    ·rename_i h0;rw[if_neg h0];omega
   subst gz
   have gh:nS r<=maxLen:=by have:nS r<=6:=Nat.min_le_right _ _;unfold maxLen;omega
   refine bC ?_
   simp only[go_sem]
   refine kp [1,2,4,5,6] [[1,0],[2,0],[4,0],[77,0],[158,0],[163,0],[235,0]] ?_
   repeat refine sq ?_
   refine rx hΓ [1,2,4,5,6,15] [[1,0],[2,0],[4,0],[77,0],[158,0],[163,0],[235,0]] (fun K' hK=>by simp only[go_sem];exact an) ?_
   refine bG (c0 5 (.msl [163,0] (kS r (nT r)).length) (by simp only[go_sem]) (by simp only[go_sem]) [1,2,4,5,6,15] [[1,0],[2,0],[4,0],[77,0],[158,0],[163,0],[235,0]] ?_ rfl) ?_
   ·simp only[go_sem]
   simp only[go_sem]
   refine bG (uw [4,0] [77,0] 1 _ _ _ _ rfl rfl rfl (by first | rfl | (simp only[List.length_map,jn];done)) [1,2,4,5,6,15] [[1,0],[2,0],[4,0],[77,0],[158,0],[163,0],[235,0]] ?_ rfl) ?_
   ·simp only[go_sem,List.set_cons_succ,List.set_cons_zero,jn]
   simp only[go_sem,List.set_cons_succ,List.set_cons_zero,jn]
   refine bG (uw [4,0] [158,0] 2 _ _ _ _ rfl rfl rfl (by first | rfl | (simp only[List.length_map];done)) [1,2,4,5,6,15] [[1,0],[2,0],[4,0],[77,0],[158,0],[163,0],[235,0]] ?_ rfl) ?_
   ·simp only[go_sem,List.set_cons_succ,List.set_cons_zero]
   simp only[go_sem,List.set_cons_succ,List.set_cons_zero]
   repeat refine sq ?_
   refine aI ?_
   repeat refine sq ?_
   refine bT (fun s:Nat=>[(15,⟨true,.v (vInt s)⟩)]) (fun s=>[([4,0],.box [.v (.sl (mps.map db)),.v (.sl ((e8 r (nR r)).map encR)),.v (.sl ((iK r (nT r)).map encT)),.msl [235,0] (dt r s).length]),([235,0],.arr 7 ((dt r s).map encS))]) (fun s=>s<=(nS r)) (fun s=>(nS r)-s) 0 ?_ ?_ ?_ ?_
   ·exact Nat.zero_le _
   ·rfl
   ·rfl
   rintro i2 hi
   simp only[go_sem]
   repeat refine sq ?_
   refine rx hΓ [1,2,4,5,6,15,172] [[1,0],[2,0],[4,0],[77,0],[158,0],[163,0],[235,0]] (fun K' hK=>by simp only[go_sem];exact an) ?_
   repeat refine sq ?_
   refine ax (fun hb=>?_) fun hb=>?_
   ·repeat refine sq ?_
    have ct:i2<nS r:=by simp at hb;unfold nS;omega
    have Kk:i2<r.ss.length:=by have h:=ct;unfold nS at h;omega
    have Wi:(i2:Int)<r.ss.length:=by omega
    have h6:i2<6:=by have h:=ct;unfold nS at h;omega
    have e6:r5 r.ss i2=r.ss[i2]:=dM Kk
    have m3:=dS (n:=r.ss[i2].b) (m:=3) (by decide)
    have vI:0<=aR r.ss[i2].b 3:=m3.1
    have V3:(mps.length:Int)=3:=rfl
    have pR:aR r.ss[i2].b 3<(mps.length:Int):=by omega
    have Da:(mps.map db).getD (aR r.ss[i2].b 3).toNat default=db (dR r.ss[i2].b):=by
     have hl:(aR r.ss[i2].b 3).toNat<mps.length:=by omega
     rw[ah hl];unfold dR;rw[dM hl]
    obtain⟨-,l1,l2,p1,p2⟩:=xY (xZ r.ss[i2].b)
    have d0:=wo r (nR r)
    have ml:=dS (n:=r.ss[i2].c) (m:=(dR r.ss[i2].b).lv) (by omega)
    have md:=dS (n:=r.ss[i2].d) (m:=eI r (nR r)+20) (by omega)
    have BK:=dS (n:=r.ss[i2].e) (m:=30) (by decide)
    have jU:m6 r i2=1+aR r.ss[i2].c (dR r.ss[i2].b).lv:=by unfold m6;rw[e6]
    have yx:kq r i2=aR r.ss[i2].d (eI r (nR r)+20):=by unfold kq;rw[e6]
    have vo:IntKind.i64.wrap (3*(i2:Int))=3*(i2:Int):=wrap_i64 (by omega) (by omega)
    have VB:IntKind.i64.wrap (3*(i2:Int)+3)=3*(i2:Int)+3:=wrap_i64 (by omega) (by omega)
    have Cm:IntKind.i64.wrap (1+aR r.ss[i2].c (dR r.ss[i2].b).lv)=m6 r i2:=by rw[wrap_i64 (by omega) (by omega)];exact jU.symm
    have gv:IntKind.i64.wrap (eI r (nR r)+20)=eI r (nR r)+20:=wrap_i64 (by omega) (by omega)
    have tr:IntKind.i64.wrap (kq r i2+aR r.ss[i2].e 30)=kq r i2+aR r.ss[i2].e 30:=wrap_i64 (by omega) (by omega)
    have JQ:=AM r i2
    have aa:=Hl r (s:=i2) (by omega)
    have ry:(kS r (nT r)).length=(pj (fc r (dt r i2)) 900).ts.length:=by
     show _=(bF _ _ _).length
     rw[qt]
     show ((List.range (nT r)).map _).length=((List.range (nT r)).map _).length
     rw[List.length_map,List.length_map]
    have eS:dt r (i2+1)=dt r i2++[⟨3*(i2:Int)+3,mZ r i2 (dt r i2),(dR r.ss[i2].b).id,m6 r i2,kq r i2,kq r i2+aR r.ss[i2].e 30,0⟩]:=by
     rw[dt]
     unfold sJ
     rw[e6]
    have Kr:(⟨mps,e8 r (nR r),iK r (nT r),dt r i2⟩:Led)=fc r (dt r i2):=rfl
    have KD:(⟨⟨mps,e8 r (nR r),iK r (nT r),dt r i2⟩,900,bF (fc r (dt r i2)) 900 (iK r (nT r)).length,[]⟩:RV)=pj (fc r (dt r i2)) 900:=rfl
    refine aC ?_
    repeat refine sq ?_
    refine aI ?_
    repeat refine sq ?_
    refine rx hΓ [1,2,4,5,6,15,16] [[1,0],[2,0],[4,0],[16,0],[77,0],[158,0],[163,0],[235,0]] (fun K' hK=>by simp only[go_sem,ah Kk,Wi,ai,aj,List.length_map];exact an) ?_
    repeat refine sq ?_
    refine dx hΓ hP [[],[0],[],[2],[2,3],u5,u6,[],u8] [1,2,4,5,6,15,16,17] [[1,0],[2,0],[4,0],[16,0],[17,0],[77,0],[158,0],[163,0],[235,0]] (by kernel_rfl) (fun K' hK=>by simp only[go_sem,Int.cast_ofNat_Int,Int.reduceToNat,Int.toNat_zero,Int.toNat_one,Nat.reduceMul,Nat.zero_mul,Nat.one_mul,List.getD_cons_succ,List.getD_cons_zero,Da,vI,pR,List.length_map];(repeat (refine⟨by first | exact ak | exact⟨by decide,by decide⟩,?_⟩));exact jB) ?_
    repeat refine sq ?_
    refine dx hΓ hP [[],[0],[0,1],[],[3],[],[5],[],[7],[5,6,7,8],[5,6,7,8,9],[],[11],[],[13],[5,6,7,8,9,11,12,13,14],[],[16],[5,6,7,8,9,11,12,13,14,15,16,17],o9,[],uB] [1,2,4,5,6,15,16,18] [[1,0],[2,0],[4,0],[16,0],[18,0],[77,0],[158,0],[163,0],[235,0]] (by kernel_rfl) (fun K' hK=>by simp only[go_sem,Int.cast_ofNat_Int,Int.reduceToNat,Int.toNat_zero,Int.toNat_one,Nat.reduceMul,Nat.zero_mul,Nat.one_mul,List.getD_cons_succ,List.getD_cons_zero,vo,VB,Cm,gv,<-yx];(repeat (refine⟨by first | exact ak | exact⟨by decide,by decide⟩ | exact⟨by omega,by omega⟩,?_⟩));exact jB) ?_
    repeat refine sq ?_
    refine rx hΓ [1,2,4,5,6,15,16,18,210] [[1,0],[2,0],[4,0],[16,0],[18,0],[77,0],[158,0],[163,0],[235,0]] (fun K' hK=>by simp only[go_sem,Int.cast_ofNat_Int,Int.reduceToNat,Int.toNat_zero,Int.toNat_one,Nat.reduceMul,Nat.zero_mul,Nat.one_mul,List.getD_cons_succ,List.getD_cons_zero];(repeat (refine⟨by first | exact ak | exact⟨by decide,by decide⟩,?_⟩));exact eX) ?_
    repeat refine sq ?_
    refine ax (fun hb=>?_) fun hb=>?_
    ·repeat refine sq ?_
     have ep:mZ r i2 (dt r i2)=jG (pj (fc r (dt r i2)) 900) ⟨(dR r.ss[i2].b).id,m6 r i2⟩ (kS r (nT r)) (kq r i2):=by unfold mZ;rw[e6,if_pos hb]
     repeat refine sq ?_
     refine rx hΓ [1,2,4,5,6,15,16,18,19] [[1,0],[2,0],[4,0],[16,0],[18,0],[19,0],[77,0],[158,0],[163,0],[235,0]] (fun K' hK=>by simp only[go_sem,Kr];rw[Ph (ss:=dt r i2) rfl aa rfl];simp only[go_sem,Kr];exact an) ?_
     repeat refine sq ?_
     refine rx hΓ [1,2,4,5,6,15,16,18] [[1,0],[2,0],[4,0],[16,0],[18,0],[77,0],[158,0],[163,0],[235,0]] (fun K' hK=>by simp only[go_sem];(repeat (refine⟨by first | exact ak | exact⟨Qd aa 900,ry⟩,?_⟩));exact eX) ?_
     repeat refine sq ?_
     refine dx hΓ hP [[],[0],[],[2],[2,3],u5,u6,u7] [1,2,4,5,6,15,18] [[1,0],[2,0],[4,0],[18,0],[77,0],[158,0],[163,0],[235,0]] (by kernel_rfl) (fun K' hK=>by simp only[go_sem,Int.cast_ofNat_Int,Int.reduceToNat,Int.toNat_zero,Int.toNat_one,Nat.reduceMul,Nat.zero_mul,Nat.one_mul,List.getD_cons_succ,List.getD_cons_zero,tr];(repeat (refine⟨by first | exact ak | exact⟨by decide,by decide⟩,?_⟩));exact jB) ?_
     repeat refine sq ?_
     refine aS hΓ fun K' hK=>?_
     simp only[go_sem]
     repeat (refine⟨ak,?_⟩)
     refine hK _ ?_
     clear K' hK
     simp only[go_sem]
     refine kp [1,2,4,5,6,15] [[1,0],[2,0],[4,0],[77,0],[158,0],[163,0],[235,0]] ?_
     repeat refine sq ?_
     refine aS hΓ fun K' hK=>?_
     simp only[go_sem]
     repeat (refine⟨ak,?_⟩)
     refine hK _ ?_
     clear K' hK
     simp only[go_sem]
     refine⟨i2+1,ct,by(show (nS r)-(i2+1)<(nS r)-i2;omega),?_⟩
     refine bd [1,2,4,5,6,15] [[1,0],[2,0],[4,0],[77,0],[158,0],[163,0],[235,0]] ?_ ?_<;>simp only[go_sem,aV ct gh,aY,jn,eS,ep,KD,List.map_append,List.length_append,List.map_cons,List.map_nil,List.length_cons,List.length_nil]
    ·repeat refine sq ?_
     have ep:mZ r i2 (dt r i2)=aR r.ss[i2].a 5:=by unfold mZ;rw[e6,if_neg (by rw[hb];decide)]
     refine aC ?_
     repeat refine sq ?_
     refine dx hΓ hP [[],[0],[],[2],[2,3],u5,u6,u7] [1,2,4,5,6,15,18] [[1,0],[2,0],[4,0],[18,0],[77,0],[158,0],[163,0],[235,0]] (by kernel_rfl) (fun K' hK=>by simp only[go_sem,Int.cast_ofNat_Int,Int.reduceToNat,Int.toNat_zero,Int.toNat_one,Nat.reduceMul,Nat.zero_mul,Nat.one_mul,List.getD_cons_succ,List.getD_cons_zero,tr];(repeat (refine⟨by first | exact ak | exact⟨by decide,by decide⟩,?_⟩));exact jB) ?_
     repeat refine sq ?_
     refine aS hΓ fun K' hK=>?_
     simp only[go_sem]
     repeat (refine⟨ak,?_⟩)
     refine hK _ ?_
     clear K' hK
     simp only[go_sem]
     refine kp [1,2,4,5,6,15] [[1,0],[2,0],[4,0],[77,0],[158,0],[163,0],[235,0]] ?_
     repeat refine sq ?_
     refine aS hΓ fun K' hK=>?_
     simp only[go_sem]
     repeat (refine⟨ak,?_⟩)
     refine hK _ ?_
     clear K' hK
     simp only[go_sem]
     refine⟨i2+1,ct,by(show (nS r)-(i2+1)<(nS r)-i2;omega),?_⟩
     refine bd [1,2,4,5,6,15] [[1,0],[2,0],[4,0],[77,0],[158,0],[163,0],[235,0]] ?_ ?_<;>simp only[go_sem,aV ct gh,aY,jn,eS,ep,KD,List.map_append,List.length_append,List.map_cons,List.map_nil,List.length_cons,List.length_nil]
   ·repeat refine sq ?_
    have mA:i2=nS r:=by
     simp at hb
     have h:=hi
     unfold nS at h |-
     omega
    subst mA
    refine bC ?_
    simp only[go_sem]
    refine kp [2,4,5] [[2,0],[4,0],[77,0],[158,0],[163,0],[235,0]] ?_
    repeat refine sq ?_
    refine rx hΓ [2,3] [[2,0],[77,0],[158,0],[163,0],[235,0]] (fun K' hK=>by simp only[go_sem];exact an) ?_
    refine av ?_
    simp only[go_sem]
    first | rfl | trace_state
end
theorem XN{α:Type}(p:α->Bool)(l:List α):l.find? p=if bY p l<0 then none else l[(bY p l).toNat]?:=by
 unfold bY
 by_cases h:l.any p=true
 ·rw[if_pos h]
  have ab:l.findIdx p<l.length:=List.findIdx_lt_length_of_exists (by obtain⟨x,hx,hp⟩:=List.any_eq_true.1 h;exact⟨x,hx,hp⟩)
  rw[if_neg (by omega),Int.toNat_natCast,List.getElem?_eq_getElem ab]
  exact List.find?_eq_some_iff_getElem.2 ⟨List.findIdx_getElem (w:=ab),_,ab,rfl,fun j hj=>by simpa using List.not_of_lt_findIdx hj⟩
 ·rw[if_neg h,if_pos (by omega)]
  rw[List.find?_eq_none]
  intro x hx hp
  exact h (List.any_eq_true.2 ⟨x,hx,hp⟩)
theorem QK(l:Led)(k so:Int):dP (bM l k) so=if dW l so k<0 then none else some (cp l (dW l so k).toNat):=by
 unfold dP bM
 rw[List.find?_filter]
 have e:(fun a:Rec=>decide (di a.kn a.un k=true/\(a.so==so)=true))=fun r=>r.so==so&&di r.kn r.un k:=by
  funext a
  cases di a.kn a.un k<;>cases (a.so==so)<;>rfl
 rw[e,XN]
 show (if dW l so k<0 then none else l.rs[(dW l so k).toNat]?)=_
 rcases AZ l so k with h | ⟨j,hj,h,-⟩
 ·rw[h];rfl
 ·rw[h,if_neg (by omega),if_neg (by omega),Int.toNat_natCast,lk hj,List.getElem?_eq_getElem hj]
theorem Oa(l:Led)(k:Int){s j:Nat}(h:s<l.ts.length):(bF l k (s+1)).getD j false=if j=s then iM l k (bF l k s) s else(bF l k s).getD j false:=by
 rw[<-Fp l k h]
 by_cases hj:j=s
 ·subst hj
  rw[if_pos rfl,List.getD_eq_getElem?_getD,List.getElem?_set_self (by rw[qt];exact h)]
  rfl
 ·rw[if_neg hj,List.getD_eq_getElem?_getD,List.getElem?_set_ne (by omega),<-List.getD_eq_getElem?_getD]
theorem AI{l:Led}{k:Int}{s j:Nat}(h:(bF l k s).getD j false=true):j<s:=(Fq l k h).1
structure Ai (l:Led) (k:Int) (s:Nat):Prop where
 ts:∀ j:Nat,(bF l k s).getD j false=true↔(j:Int)∈(ay l k s).ts
 tn:(ay l k s).ts.Nodup
 tl:∀ j∈(ay l k s).ts,0<=j/\j<s
 bk1:∀ so f i,bH (ay l k s).bk (so,f)=some i->∃ j:Nat,i=j/\(bF l k s).getD j false=true/\(aN l j).re=so/\f∈(aN l j).lv
 bk2:∀ j:Nat,(bF l k s).getD j false=true->∀ f∈(aN l j).lv,bH (ay l k s).bk ((aN l j).re,f)=some (j:Int)
 ds:∀ j:Nat,(bF l k s).getD j false=true->cv (ay l k s).ds j=(dJ (aN l j).lo ((m7 (bM l k) (aN l j).re).da+1),(aN l j).hi)
theorem rR(d:Ds)(i j:Int)(v:Int×Int):cv (kR d i v) j=if i=j then v else cv d j:=by
 induction d with
 |nil=>rfl
 |cons e r ih=>
  obtain⟨k,x⟩:=e
  simp only[kR]
  by_cases h:k=i
  ·rw[if_pos h]
   subst h
   simp only[cv]
   split<;>rfl
  ·rw[if_neg h]
   simp only[cv,ih]
   by_cases h2:k=j
   ·subst h2
    rw[if_pos rfl,if_pos rfl,if_neg (fun e=>h e.symm)]
   ·rw[if_neg h2,if_neg h2]
theorem Zj{l:Led}{k:Int}{s:Nat}(h:Ai l k s)(x:Ret)(f:Int):(bH (ay l k s).bk (x.re,f)).isSome=!kX (l3 l (bF l k s) x f) s:=by
 cases hb:bH (ay l k s).bk (x.re,f)with
 |none=>
  have :kX (l3 l (bF l k s) x f) s=true:=by
   unfold kX
   rw[List.all_eq_true]
   intro j _
   unfold l3
   cases hj:((bF l k s).getD j false&&(aN l j).re==x.re&&(aN l j).lv.contains f)with
   |false=>rfl
   |true=>
    simp only[Bool.and_eq_true,beq_iff_eq,List.contains_iff_mem]at hj
    have :=h.bk2 j hj.1.1 f hj.2
    rw[hj.1.2,hb]at this
    cases this
  rw[this];rfl
 |some i=>
  obtain⟨j,rfl,h1,h2,h3⟩:=h.bk1 _ _ _ hb
  have :kX (l3 l (bF l k s) x f) s=false:=by
   unfold kX
   rw[List.all_eq_false]
   refine⟨j,List.mem_range.2 (AI h1),?_⟩
   unfold l3
   rw[h1,h2]
   simp[h3]
  rw[this];rfl
theorem Rl{l:Led}{k:Int}{s:Nat}(h:Ai l k s):eV k (bM l k) (ay l k s).bk (aN l s)=if iM l k (bF l k s) s=true then some (cp l (dW l (aN l s).re k).toNat)else none:=by
 unfold eV iM
 rw[QK]
 by_cases hx:dW l (aN l s).re k<0
 ·rw[if_pos hx,if_pos hx];rfl
 ·rw[if_neg hx,if_neg hx]
  have vv:(cp l (dW l (aN l s).re k).toNat).so=(aN l s).re:=by
   rcases AZ l (aN l s).re k with h | ⟨j,hj,h,hr⟩
   ·rw[h]at hx;exact absurd (by decide) hx
   ·rw[h,Int.toNat_natCast,lk hj]
    unfold ow at hr
    simp only[Bool.and_eq_true,beq_iff_eq]at hr
    exact hr.1
  have gA:((aN l s).lv.any fun f=>(bH (ay l k s).bk ((cp l (dW l (aN l s).re k).toNat).so,f)).isSome||!(cp l (dW l (aN l s).re k).toNat).lv.contains f)=!(aN l s).lv.all (om l (bF l k s) s (cp l (dW l (aN l s).re k).toNat) (aN l s)):=by
   rw[vv,List.not_all_eq_any_not]
   congr 1
   funext f
   rw[Zj h]
   unfold om
   rw[Bool.not_and,Bool.or_comm]
  show (if (di (aN l s).kn (aN l s).un k&&!(decide (dJ (aN l s).lo ((cp l (dW l (aN l s).re k).toNat).da+1)>(aN l s).hi)||(aN l s).lv.any fun f=>(bH (ay l k s).bk ((cp l (dW l (aN l s).re k).toNat).so,f)).isSome||!(cp l (dW l (aN l s).re k).toNat).lv.contains f))=true then _ else _)=_
  rw[gA]
  unfold wm
  cases di (aN l s).kn (aN l s).un k<;>cases decide (dJ (aN l s).lo ((cp l (dW l (aN l s).re k).toNat).da+1)>(aN l s).hi)<;>cases (aN l s).lv.all (om l (bF l k s) s (cp l (dW l (aN l s).re k).toNat) (aN l s))<;>rfl
theorem Fs(l:Led)(k:Int):∀ s,s<=l.ts.length->Ai l k s
 | 0,_=>by
   have hf:∀ j,¬ (bF l k 0).getD j false=true:=fun j h=>absurd (AI h) (Nat.not_lt_zero j)
   exact⟨fun j=>⟨fun h=>(hf j h).elim,fun h=>(nomatch h)⟩,List.nodup_nil,fun j h=>(nomatch h),fun so f i h=>(nomatch h),fun j h=>(hf j h).elim,fun j h=>(hf j h).elim⟩
 |s+1,hs=>by
  have ih:=Fs l k s (by omega)
  have hn:=Rl ih
  have cq:=fun j=>Oa l k (s:=s) (j:=j) (by omega)
  by_cases hb:iM l k (bF l k s) s=true
  ·rw[if_pos hb]at hn
   have e:=u3 hn
   obtain⟨vz,-,-,vr⟩:=He hn
   obtain⟨JS,ck⟩:=Gx vz
   have mq:m7 (bM l k) (aN l s).re=cp l (dW l (aN l s).re k).toNat:=by unfold m7;rw[vz];rfl
   generalize cp l (dW l (aN l s).re k).toNat=r at *
   have eQ:∀ f∈(aN l s).lv,bH (ay l k s).bk (r.so,f)=none:=fun f hf=>by
    have :=List.any_eq_false.1 vr f hf
    unfold gX at this
    simp only[Bool.or_eq_true,not_or,Option.isSome_iff_ne_none,ne_eq,Decidable.not_not]at this
    exact this.1
   rw[hb]at cq
   have nl:∀ j:Nat,(bF l k (s+1)).getD j false=true↔(j:Int)∈(ay l k (s+1)).ts:=fun j=>by
    rw[cq,e]
    show _↔(j:Int)∈(ay l k s).ts++[(s:Int)]
    rw[List.mem_append,List.mem_singleton]
    by_cases hj:j=s
    ·subst hj;simp
    ·rw[if_neg hj,ih.ts j]
     constructor
     ·exact .inl
     ·rintro(h | h)
      ·exact h
      ·exact(hj (by omega)).elim
   refine⟨nl,?_,?_,?_,?_,?_⟩
   ·rw[e]
    refine List.nodup_append.2 ⟨ih.tn,by simp,fun a ha b cb mD=>?_⟩
    have :=ih.tl a ha
    simp only[List.mem_singleton]at cb
    omega
   ·intro j hj
    rw[e]at hj
    rcases List.mem_append.1 hj with hj | hj
    ·have:=ih.tl j hj;omega
    ·simp only[List.mem_singleton]at hj;omega
   ·intro so f i h
    rw[e]at h
    simp only[zN]at h
    split at h
    ·rename_i hc
     cases h
     refine⟨s,rfl,by rw[cq,if_pos rfl],?_,hc.2⟩
     rw[<-ck];exact hc.1.symm
    ·obtain⟨j,rfl,h1,h2,h3⟩:=ih.bk1 so f i h
     have :=AI h1
     exact⟨j,rfl,by rw[cq,if_neg (by omega)];exact h1,h2,h3⟩
   ·intro j h1 f hf
    rw[cq]at h1
    rw[e]
    simp only[zN]
    by_cases hj:j=s
    ·subst hj
     rw[if_pos ⟨ck.symm,hf⟩]
    ·rw[if_neg hj]at h1
     have h4:=ih.bk2 j h1 f hf
     rw[if_neg,h4]
     rintro⟨h5,h6⟩
     have :=eQ f h6
     rw[<-h5,h4]at this
     cases this
   ·intro j h1
    rw[cq]at h1
    rw[e]
    show cv (kR (ay l k s).ds s (dJ (aN l s).lo (r.da+1),(aN l s).hi)) j=_
    rw[rR]
    by_cases hj:j=s
    ·subst hj
     rw[if_pos rfl,mq]
    ·rw[if_neg hj]at h1
     rw[if_neg (by omega)]
     exact ih.ds j h1
  ·rw[if_neg hb]at hn
   have e:=pB hn
   have e2:bF l k (s+1)=bF l k s:=xc l k (by simpa using hb)
   exact⟨by rw[e,e2];exact ih.ts,by rw[e];exact ih.tn,fun j hj=>by rw[e]at hj;have:=ih.tl j hj;omega,by rw[e,e2];exact ih.bk1,by rw[e,e2];exact ih.bk2,by rw[e,e2];exact ih.ds⟩
theorem xe(l:Led)(k:Int):Ai l k l.ts.length:=Fs l k _ (Nat.le_refl _)
def Bx(v:Int×Int)(da:Int)(os:List Rec):Int×Int:=os.foldl (fun v o=>if o.da>da then(dJ v.1 0,ya v.2 o.da)else v) v
theorem Rj(d:Ds)(i da:Int)(os:List Rec)(j:Int):cv (kC d i da os) j=if i=j then Bx (cv d i) da os else cv d j:=by
 induction os generalizing d with
 |nil=>
  show cv d j=if i=j then cv d i else cv d j
  split
  ·rename_i h;rw[h]
  ·rfl
 |cons o r ih=>
  show cv (kC (if o.da>da then oc d i ⟨0,o.da⟩else d) i da r) j=if i=j then Bx (if o.da>da then(dJ (cv d i).1 0,ya (cv d i).2 o.da)else cv d i) da r else cv d j
  rw[ih]
  by_cases hc:o.da>da
  ·rw[if_pos hc,if_pos hc]
   unfold oc
   rw[rR,if_pos rfl,rR]
   by_cases ew:i=j
   ·rw[if_pos ew,if_pos ew]
   ·rw[if_neg ew,if_neg ew,if_neg ew]
  ·rw[if_neg hc,if_neg hc]
theorem KQ{ts:List Int}{m:Nat}(h:m<ts.length):ts.take (m+1)=ts.take m++[ts.getD m 0]:=by
 rw[List.take_add_one,List.getD_eq_getElem?_getD,List.getElem?_eq_getElem h];rfl
theorem BU(l:Led)(rs:List Rec)(ts:List Int)(d:Ds)(hn:ts.Nodup):∀ m,m<=ts.length->∀ j,cv (gN l rs ts d m) j=
 if j∈ts.take m then Bx (cv d j) (m7 rs (aN l j.toNat).re).da (eB rs (m7 rs (aN l j.toNat).re).pa (aN l j.toNat).lv)else cv d j
 | 0,_,j=>by rw[if_neg (by simp)];rfl
 |m+1,hm,j=>by
  have ih:=BU l rs ts d hn m (by omega)
  rw[gN,Rj,KQ (by omega)]
  have yI:ts.getD m 0∉ts.take m:=by
   have h1:(ts.take (m+1)).Nodup:=hn.sublist (List.take_sublist _ _)
   rw[KQ (by omega)]at h1
   have :=(List.nodup_append.1 h1).2.2
   exact fun h=>this _ h _ (List.mem_singleton.2 rfl) rfl
  by_cases hj:ts.getD m 0=j
  ·subst hj
   rw[if_pos rfl,ih,if_neg yI,if_pos (by simp)]
  ·rw[if_neg hj,ih]
   have e:(j∈ts.take m++[ts.getD m 0])↔j∈ts.take m:=by
    rw[List.mem_append,List.mem_singleton]
    exact⟨fun h=>h.elim id fun h=>(hj h.symm).elim,.inl⟩
   simp only[e]
def Ob(l:Led)(k:Int)(j:Nat):Prop:=(bF l k l.ts.length).getD j false=true
theorem Hu(l:Led)(k:Int):(aE l k).rs=bM l k:=(qJ l k l.ts.length).2
noncomputable section
def K53:List (Nat×Spec):=[(71,M6)]
attribute [go_sem] K53
end
noncomputable section
def K55:List (Nat×Spec):=[(15,uj)]
attribute [go_sem] K55
def aax:List (Nat×Spec):=[]
attribute [go_sem] aax
end
noncomputable section
def K56:List (Nat×Spec):=[(84,Aj)]
attribute [go_sem] K56
end
noncomputable section
def K57:List (Nat×Spec):=[(70,EH),(103,wR)]
attribute [go_sem] K57
end
theorem MG(l:Led)(ds:List Int):Ac l ds=gn l ds:=by
 unfold Ac gn nG
 cases h:uQ l with
 |false=>rfl
 |true=>
  have h0:(true=false)=False:=by simp
  rw[if_neg (by decide),if_pos (show gD true 24=0 from rfl)]
  have :(!ds.any fun d=>!dayB d)=ds.all dayB:=by
   rw[List.not_any_eq_all_not]
   simp
  rw[this]
  unfold gD
  rfl
noncomputable section
def K60:List (Nat×Spec):=[(78,S78),(160,S160),(96,sg)]
attribute [go_sem] K60
def aaw:List (Nat×Spec):=[(75,oZ)]
attribute [go_sem] aaw
end
noncomputable section
def K61:List (Nat×Spec):=[(75,oZ),(79,wQ),(76,S76),(119,S119)]
attribute [go_sem] K61
end
noncomputable section
def K63:List (Nat×Spec):=[(84,Aj),(73,M5),(74,M4)]
attribute [go_sem] K63
end
noncomputable section
def XU(w:List Int):V:=.sl (w.map vInt)
theorem aeo(L:List (List Int)):∀ y∈L.map XU,y.cells.length=1/\y.okc=true:=fun y hy=>by
 obtain⟨x,_,rfl⟩:=List.mem_map.1 hy
 exact⟨rfl,rfl⟩
def K65:List (Nat×Spec):=[]
attribute [go_sem] K65
end
noncomputable section
def K66:List (Nat×Spec):=[(15,uj),(22,M8),(24,EJ)]
attribute [go_sem] K66
end
noncomputable section
def K68:List (Nat×Spec):=[(78,S78)]
attribute [go_sem] K68
end
set_option maxHeartbeats 8000000
noncomputable section
def fW(l:Led)(p:Fol->Bool)(s:Nat):List Fol:=((cl l).take s).filter p
theorem KX{l:Led}{p:Fol->Bool}{s:Nat}(h:s<(cl l).length):fW l p (s+1)=fW l p s++(if p (cl l)[s]=true then[(cl l)[s]]else[]):=xf h
theorem KY(l:Led)(p:Fol->Bool)(s:Nat):(fW l p s).length<=(cl l).length:=Nat.le_trans (List.length_filter_le _ _) (by simp;omega)
theorem ze(l:Led)(p:Fol->Bool):fW l p (cl l).length=(cl l).filter p:=by unfold fW;rw[List.take_length]
def hG(x y:Vw)(day:Int)(f:Fol):Bool:=!decide (o6 x f.pa f.le day=o6 y f.pa f.le day)
def fb(e f:Int)(_:Fol):Bool:=e != f
theorem uU{Ls:List Name}(h:Ls.length=10):∃ a0 a1 a2 a3 a4 a5 a6 a7 a8 a9,Ls=[a0,a1,a2,a3,a4,a5,a6,a7,a8,a9]:=by
 match Ls,h with
 |[a0,a1,a2,a3,a4,a5,a6,a7,a8,a9],_=>exact⟨a0,a1,a2,a3,a4,a5,a6,a7,a8,a9,rfl⟩
theorem uT{Ls:List Name}(h:Ls.length=2):∃ a0 a1,Ls=[a0,a1]:=by
 match Ls,h with
 |[a0,a1],_=>exact⟨a0,a1,rfl⟩
def ju(l:Led)(x y:Vw)(day:Int):Lp where
 m:=10
 env:=fun Ls=>(List.range 82).map (dm eAny [(6,⟨true,.v (.ptr [vInt day])⟩),(12,⟨true,.ref (Ls.getD 0 []) 0⟩),(13,⟨true,.v (.ptr [vInt 0])⟩),(14,⟨true,.ref (Ls.getD 4 []) 0⟩),(15,⟨true,.v (.ptr [vInt 0])⟩),(16,⟨true,.ref (Ls.getD 8 []) 0⟩),(56,⟨true,.v (.clo (.func 182) [] [.ptr [ey l]])⟩)])
 fam:=fun Ls s=>[.box [.ref (Ls.getD 1 []) 0],ba x (Ls.getD 2 []) (Ls.getD 3 []),.map 2 (bD x.bk),.map 0 (bw x.ds),.box [.ref (Ls.getD 5 []) 0],ba y (Ls.getD 6 []) (Ls.getD 7 []),.map 2 (bD y.bk),.map 0 (bw y.ds),.box [.msl (Ls.getD 9 []) (fW l (hG x y day) s).length],.arr 2 ((fW l (hG x y day) s).map eH)]
 ps:=(iN Tryz.f21).1.toList
 asg:=(iN Tryz.f21).2.1
 body:=(iN Tryz.f21).2.2
 n:=(cl l).length
 vals:=fun s=>[ku ((cl l).getD s default)]
 st:=fun _=>none
 fu:=100
theorem BF{l:Led}(aa:bS l)(x y:Vw)(day:Int):(ju l x y day).Ok where
 len:=fun Ls s _=>rfl
 renE:=fun f Ls h=>by obtain⟨a0,a1,a2,a3,a4,a5,a6,a7,a8,a9,rfl⟩:=uU h;rfl
 renF:=fun f Ls s h=>by obtain⟨a0,a1,a2,a3,a4,a5,a6,a7,a8,a9,rfl⟩:=uU h;rfl
 reach:=fun Ls s obj acc q h bR hd hF=>by
  obtain⟨a0,a1,a2,a3,a4,a5,a6,a7,a8,a9,rfl⟩:=uU h
  obtain⟨h1,h2,h3,h4,h5,h6,h7,h8,h9,oQ,_⟩:=hF
  have en:b8 (((ju l x y day).env [a0,a1,a2,a3,a4,a5,a6,a7,a8,a9]).map (·.d))=[a0,a4,a8]:=rfl
  rw[en]
  show cE obj (q+84+1+1+1+1+1+1+1+1+1+1+1+1+1+1+1+1) _ acc=_
  simp only[List.mem_cons,List.not_mem_nil,or_false,forall_eq_or_imp,forall_eq]at hd
  obtain⟨d1,d2,d3,d4,d5,d6,d7,d8,d9,d10⟩:=hd
  simp only[List.nodup_cons,List.mem_cons,List.not_mem_nil,or_false,not_or,not_false_eq_true,List.nodup_nil,and_true]at bR
  obtain⟨⟨BD,Sh,Sg,Sf,Se,Sd,Sc,Sb,Sa⟩,⟨R',R9,R8,R6,R4,R3,R2,R1⟩,⟨RZ,RY,RX,RW,RU,RT,RS⟩,⟨RR,RQ,RP,RO,RN,RM⟩,⟨RL,RK,RJ,RI,RH⟩,⟨RG,RF,RE,RD⟩,⟨RC,RB,RA⟩,⟨Rz,Ry⟩,Rx⟩:=bR
  simp[cE,fx,h1,h2,h3,h4,h5,h6,h7,h8,h9,oQ,gZ,b8,iU,ba,d1,d2,d3,d4,d5,d6,d7,d8,d9,d10,Ne.symm BD,Ne.symm Sh,Ne.symm Sg,Ne.symm Sf,Ne.symm Se,Ne.symm Sd,Ne.symm Sc,Ne.symm Sb,Ne.symm Sa,Ne.symm R',Ne.symm R9,Ne.symm R8,Ne.symm R6,Ne.symm R4,Ne.symm R3,Ne.symm R2,Ne.symm R1,Ne.symm RZ,Ne.symm RY,Ne.symm RX,Ne.symm RW,Ne.symm RU,Ne.symm RT,Ne.symm RS,Ne.symm RR,Ne.symm RQ,Ne.symm RP,Ne.symm RO,Ne.symm RN,Ne.symm RM,Ne.symm RL,Ne.symm RK,Ne.symm RJ,Ne.symm RI,Ne.symm RH,Ne.symm RG,Ne.symm RF,Ne.symm RE,Ne.symm RD,Ne.symm RC,Ne.symm RB,Ne.symm RA,Ne.symm Rz,Ne.symm Ry,Ne.symm Rx]
 closE:=fun dom Ls h hd=>by
  obtain⟨a0,a1,a2,a3,a4,a5,a6,a7,a8,a9,rfl⟩:=uU h
  have h1:=hd a0 (by simp)
  have h2:=hd a4 (by simp)
  have h3:=hd a8 (by simp)
  simp[ju,List.range,List.range.loop,dm,D.closL,D.clos,eAny,h1,h2,h3]
 closF:=fun dom Ls s h hd o ho=>by
  obtain⟨a0,a1,a2,a3,a4,a5,a6,a7,a8,a9,rfl⟩:=uU h
  have h1:=hd a1 (by simp)
  have h2:=hd a2 (by simp)
  have h3:=hd a3 (by simp)
  have h4:=hd a5 (by simp)
  have h5:=hd a6 (by simp)
  have h6:=hd a7 (by simp)
  have h7:=hd a9 (by simp)
  simp only[ju,List.mem_cons,List.not_mem_nil,or_false]at ho
  rcases ho with rfl | rfl | rfl | rfl | rfl | rfl | rfl | rfl | rfl | rfl<;>simp[O.clos,D.closL,D.clos,ba,h1,h2,h3,h4,h5,h6,h7]
 psz:=fun Ls h=>by rfl
 args:=fun s=>by rfl
 fuel:=(show (100:Nat)<=2000 by decide)
 vnam:=fun _=>rfl
 vcl:=fun _ _=>rfl
 vren:=fun _ _=>rfl
 inj:=K0 (K8 aa)
def ft(l:Led)(e f:Int):Lp where
 m:=2
 env:=fun Ls=>(List.range 82).map (dm eAny [(13,⟨true,.v (.ptr [vInt e])⟩),(15,⟨true,.v (.ptr [vInt f])⟩),(16,⟨true,.ref (Ls.getD 0 []) 0⟩),(56,⟨true,.v (.clo (.func 182) [] [.ptr [ey l]])⟩)])
 fam:=fun Ls s=>[.box [.msl (Ls.getD 1 []) (fW l (fb e f) s).length],.arr 2 ((fW l (fb e f) s).map eH)]
 ps:=(iN Tryz.f21).1.toList
 asg:=(iN Tryz.f21).2.1
 body:=(iN Tryz.f21).2.2
 n:=(cl l).length
 vals:=fun s=>[ku ((cl l).getD s default)]
 st:=fun _=>none
 fu:=100
theorem qH{l:Led}(aa:bS l)(e f:Int):(ft l e f).Ok where
 len:=fun Ls s _=>rfl
 renE:=fun f Ls h=>by obtain⟨a0,a1,rfl⟩:=uT h;rfl
 renF:=fun f Ls s h=>by obtain⟨a0,a1,rfl⟩:=uT h;rfl
 reach:=fun Ls s obj acc q h bR hd hF=>by
  obtain⟨a0,a1,rfl⟩:=uT h
  obtain⟨h1,h2,_⟩:=hF
  have en:b8 (((ft l e f).env [a0,a1]).map (·.d))=[a0]:=rfl
  rw[en]
  show cE obj (q+92+1+1+1+1+1+1+1+1) _ acc=_
  simp only[List.mem_cons,List.not_mem_nil,or_false,forall_eq_or_imp,forall_eq]at hd
  obtain⟨d1,d2⟩:=hd
  simp only[List.nodup_cons,List.mem_cons,List.not_mem_nil,or_false,not_or,not_false_eq_true,List.nodup_nil,and_true]at bR
  have BD:=bR
  simp[cE,fx,h1,h2,gZ,b8,iU,ba,d1,d2,Ne.symm BD]
 closE:=fun dom Ls h hd=>by
  obtain⟨a0,a1,rfl⟩:=uT h
  have h1:=hd a0 (by simp)
  simp[ft,List.range,List.range.loop,dm,D.closL,D.clos,eAny,h1]
 closF:=fun dom Ls s h hd o ho=>by
  obtain⟨a0,a1,rfl⟩:=uT h
  have h1:=hd a1 (by simp)
  simp only[ft,List.mem_cons,List.not_mem_nil,or_false]at ho
  rcases ho with rfl | rfl<;>simp[O.clos,D.closL,D.clos,ba,h1]
 psz:=fun Ls h=>by rfl
 args:=fun s=>by rfl
 fuel:=(show (100:Nat)<=2000 by decide)
 vnam:=fun _=>rfl
 vcl:=fun _ _=>rfl
 vren:=fun _ _=>rfl
 inj:=K0 (K8 aa)
def K69a:List (Nat×Spec):=[(80,S80),(94,Zz)]
theorem Nq:KS K69a:=tc Js<|tc O8.sound<|tn
attribute [go_sem] K69a
theorem Sm{l:Led}(aa:bS l){x y:Vw}(hv:la x)(bR:x.rs.Nodup)(oB:la y)(tw:y.rs.Nodup)(day:Int):aF Tryz.prog yid (ju l x y day).y.toSpec:=by
 refine Lp.y_sound (BF aa x y day) fun s hs _=>?_
 have hΓ:=Nq
 have hP:=eE
 have fg:s<(cl l).length:=hs
 have rv:(ju l x y day).fam (LR 10) s=[.box [.ref [1,1] 0],ba x [2,1] [3,1],.map 2 (bD x.bk),.map 0 (bw x.ds),.box [.ref [5,1] 0],ba y [6,1] [7,1],.map 2 (bD y.bk),.map 0 (bw y.ds),.box [.msl [9,1] (fW l (hG x y day) s).length],.arr 2 ((fW l (hG x y day) s).map eH)]:=rfl
 have ru:(ju l x y day).fam (LR 10) (s+1)=[.box [.ref [1,1] 0],ba x [2,1] [3,1],.map 2 (bD x.bk),.map 0 (bw x.ds),.box [.ref [5,1] 0],ba y [6,1] [7,1],.map 2 (bD y.bk),.map 0 (bw y.ds),.box [.msl [9,1] (fW l (hG x y day) (s+1)).length],.arr 2 ((fW l (hG x y day) (s+1)).map eH)]:=rfl
 have cq:(ju l x y day).st s=none:=rfl
 have Cp:(ju l x y day).vals s=[ku ((cl l)[s])]:=by rw[<-dM (z:=default) fg];rfl
 have hm:(ju l x y day).m=10:=rfl
 have VU:(fW l (hG x y day) s).length<=360:=Nat.le_trans (KY l _ s) (DD aa)
 rw[hm,rv,ru,cq,Cp,KX fg]
 generalize (cl l)[s]=fo
 generalize fW l (hG x y day) s=ou at *
 generalize du:([.box [.ref [1,1] 0],ba x [2,1] [3,1],.map 2 (bD x.bk),.map 0 (bw x.ds),.box [.ref [5,1] 0],ba y [6,1] [7,1],.map 2 (bD y.bk),.map 0 (bw y.ds),.box [.msl [9,1] ou.length],.arr 2 (ou.map eH)]:List O)=os
 have hO:∀ hs,bx [0] (bp [0] hs) (aM os)=True:=by
  subst du
  refine fun hs=>eq_true (jL ?_ hs)
  intro o ho dom hd
  simp only[List.mem_cons,List.not_mem_nil,or_false]at ho
  rcases ho with rfl | rfl | rfl | rfl | rfl | rfl | rfl | rfl | rfl | rfl<;>simp[O.clos,D.closL,D.clos,ba,hd]
 have h0:aM os [0,1]=some (.box [.ref [1,1] 0]):=by subst du;rfl
 have h1:aM os [1,1]=some (ba x [2,1] [3,1]):=by subst du;rfl
 have h2:aM os [2,1]=some (.map 2 (bD x.bk)):=by subst du;rfl
 have h3:aM os [3,1]=some (.map 0 (bw x.ds)):=by subst du;rfl
 have h4:aM os [4,1]=some (.box [.ref [5,1] 0]):=by subst du;rfl
 have h5:aM os [5,1]=some (ba y [6,1] [7,1]):=by subst du;rfl
 have h6:aM os [6,1]=some (.map 2 (bD y.bk)):=by subst du;rfl
 have h7:aM os [7,1]=some (.map 0 (bw y.ds)):=by subst du;rfl
 have h8:aM os [8,1]=some (.box [.msl [9,1] ou.length]):=by subst du;rfl
 have h9:aM os [9,1]=some (.arr 2 (ou.map eH)):=by subst du;rfl
 generalize hH:aM os=H at *
 clear du hH
 obtain⟨fp,fl⟩:=fo
 simp only[ba]at h1 h5 |-
 have iZ:iN Tryz.f21=(_,_,_):=rfl
 refine qa (uv 82 [0] H [(6,⟨true,.v (.ptr [vInt day])⟩),(12,⟨true,.ref [0,1] 0⟩),(13,⟨true,.v (.ptr [vInt 0])⟩),(14,⟨true,.ref [4,1] 0⟩),(15,⟨true,.v (.ptr [vInt 0])⟩),(16,⟨true,.ref [8,1] 0⟩),(57,⟨true,ku ⟨fp,fl⟩⟩)] [] rfl rfl (fun _ _=>rfl) ?_ (by simp) ?_ ?_) ?_
 ·intro q hq
  simp only[List.mem_cons,List.not_mem_nil,or_false]at hq
  rcases hq with rfl | rfl | rfl | rfl | rfl | rfl | rfl<;>rfl
 ·simp[D.clos,D.closL,bp,own,ku]
 ·rw[hO];trivial
 simp only[ju,iZ,ku]
 refine fE ?_
 repeat refine sq ?_
 refine aS hΓ fun K' hK=>?_
 simp only[go_sem,hO,h0,h1,h2,h3,h4,h5,h6,h7,h8,h9]
 repeat (refine⟨ak,?_⟩)
 refine hK _ ?_
 clear K' hK
 try simp only[go_sem]
 (show CW _ _ _ _)
 refine fE ?_
 repeat refine sq ?_
 refine aI ?_
 repeat refine sq ?_
 refine dx hΓ hP [[],[],[0,1],[0,1,2],u4,u5,u6,u7,u7,u7,dq,u7,u7,u7,ji,pb,u16,nP,iJ] [6,12,13,14,15,16,17,76] [[6,0],[12,0],[13,0],[14,0],[15,0],[16,0],[17,0],[80,0]] (by kernel_rfl) (fun K' hK=>by simp only[go_sem,hO,h0,h1,h2,h3,h4,h5,h6,h7,h8,h9,VSpec.foot];(repeat (refine⟨by first | exact ak | exact⟨hv,bR⟩ | exact⟨oB,tw⟩,?_⟩));(first | refine⟨by rfl,?_⟩ | skip);exact hK _ (by simp only[go_sem,hO,h0,h1,h2,h3,h4,h5,h6,h7,h8,h9,VSpec.foot]) (by simp only[go_sem,hO,h0,h1,h2,h3,h4,h5,h6,h7,h8,h9,VSpec.foot]<;>rfl)) ?_
 repeat refine sq ?_
 refine ax (fun hb=>?_) fun hb=>?_
 ·repeat refine sq ?_
  refine aS hΓ fun K' hK=>?_
  simp only[go_sem,hO,h0,h1,h2,h3,h4,h5,h6,h7,h8,h9]
  repeat (refine⟨ak,?_⟩)
  refine hK _ ?_
  clear K' hK
  try simp only[go_sem]
  refine bA ?_
  rw[if_pos (show hG x y day ⟨fp,fl⟩=true from hb)]
  refine⟨rfl,?_⟩
  show bW _ [[0,1],[1,1],[2,1],[3,1],[4,1],[5,1],[6,1],[7,1],[8,1],[9,1]] _
  simp only[bW,go_sem,h0,h1,h2,h3,h4,h5,h6,h7,h8,h9,List.map_append,List.map_cons,List.map_nil,List.length_append,List.length_cons,List.length_nil]
 ·repeat refine sq ?_
  refine aC ?_
  refine bA ?_
  simp only[go_sem]
  rw[if_neg (show ¬ hG x y day ⟨fp,fl⟩=true from fun h=>by rw[show hG x y day ⟨fp,fl⟩=false from hb]at h;cases h),List.append_nil]
  refine⟨rfl,?_⟩
  show bW _ [[0,1],[1,1],[2,1],[3,1],[4,1],[5,1],[6,1],[7,1],[8,1],[9,1]] _
  simp only[bW,go_sem,h0,h1,h2,h3,h4,h5,h6,h7,h8,h9]
theorem BE{l:Led}(aa:bS l){e f:Int}(WC:¬ (e=0/\f=0)):aF Tryz.prog yid (ft l e f).y.toSpec:=by
 refine Lp.y_sound (qH aa e f) fun s hs _=>?_
 have hΓ:=Nq
 have hP:=eE
 have fg:s<(cl l).length:=hs
 have rv:(ft l e f).fam (LR 2) s=[.box [.msl [1,1] (fW l (fb e f) s).length],.arr 2 ((fW l (fb e f) s).map eH)]:=rfl
 have ru:(ft l e f).fam (LR 2) (s+1)=[.box [.msl [1,1] (fW l (fb e f) (s+1)).length],.arr 2 ((fW l (fb e f) (s+1)).map eH)]:=rfl
 have cq:(ft l e f).st s=none:=rfl
 have Cp:(ft l e f).vals s=[ku ((cl l)[s])]:=by rw[<-dM (z:=default) fg];rfl
 have hm:(ft l e f).m=2:=rfl
 have VU:(fW l (fb e f) s).length<=360:=Nat.le_trans (KY l _ s) (DD aa)
 rw[hm,rv,ru,cq,Cp,KX fg]
 generalize (cl l)[s]=fo
 generalize fW l (fb e f) s=ou at *
 generalize du:([.box [.msl [1,1] ou.length],.arr 2 (ou.map eH)]:List O)=os
 have hO:∀ hs,bx [0] (bp [0] hs) (aM os)=True:=by
  subst du
  refine fun hs=>eq_true (jL ?_ hs)
  intro o ho dom hd
  simp only[List.mem_cons,List.not_mem_nil,or_false]at ho
  rcases ho with rfl | rfl<;>simp[O.clos,D.closL,D.clos,ba,hd]
 have h0:aM os [0,1]=some (.box [.msl [1,1] ou.length]):=by subst du;rfl
 have h1:aM os [1,1]=some (.arr 2 (ou.map eH)):=by subst du;rfl
 generalize hH:aM os=H at *
 clear du hH
 obtain⟨fp,fl⟩:=fo
 have iZ:iN Tryz.f21=(_,_,_):=rfl
 refine qa (uv 82 [0] H [(13,⟨true,.v (.ptr [vInt e])⟩),(15,⟨true,.v (.ptr [vInt f])⟩),(16,⟨true,.ref [0,1] 0⟩),(57,⟨true,ku ⟨fp,fl⟩⟩)] [] rfl rfl (fun _ _=>rfl) ?_ (by simp) ?_ ?_) ?_
 ·intro q hq
  simp only[List.mem_cons,List.not_mem_nil,or_false]at hq
  rcases hq with rfl | rfl | rfl | rfl<;>rfl
 ·simp[D.clos,D.closL,bp,own,ku]
 ·rw[hO];trivial
 simp only[ft,iZ,ku]
 refine fE ?_
 repeat refine sq ?_
 refine aS hΓ fun K' hK=>?_
 simp only[go_sem,hO,h0,h1]
 repeat (refine⟨ak,?_⟩)
 refine hK _ ?_
 clear K' hK
 try simp only[go_sem]
 (show CW _ _ _ _)
 refine fE ?_
 repeat refine sq ?_
 refine aI ?_
 repeat refine sq ?_
 cases aB:(e != f)
 ·have vT:(e==0)=false:=by
   have :e=f:=by simpa using aB
   subst this
   simpa using WC
  repeat refine sq ?_
  refine dx hΓ hP [[],[],[0,1],[0,1,2],u4,u5,u6,u7,u7,u7,dq,u7,u7,u7,ji,pb,u16,nP,iJ] [6,12,13,14,15,16,17,76] [[6,0],[12,0],[13,0],[14,0],[15,0],[16,0],[17,0],[80,0]] (by kernel_rfl) (fun K' hK=>by simp only[go_sem,hO,h0,h1,aB,vT];(repeat (refine⟨ak,?_⟩));(first | refine⟨by rfl,?_⟩ | skip);exact hK _ (by simp only[go_sem,hO,h0,h1,aB,vT]) (by simp only[go_sem,hO,h0,h1,aB,vT]<;>rfl)) ?_
  repeat refine sq ?_
  refine ax (fun hb=>?_) fun hb=>?_
  ·cases hb
  ·repeat refine sq ?_
   refine aC ?_
   refine bA ?_
   simp only[go_sem]
   rw[if_neg (show ¬ fb e f ⟨fp,fl⟩=true from fun h=>by rw[show fb e f ⟨fp,fl⟩=false from aB]at h;cases h),List.append_nil]
   refine⟨rfl,?_⟩
   show bW _ [[0,1],[1,1]] _
   simp only[bW,go_sem,h0,h1]
 ·repeat refine sq ?_
  refine dx hΓ hP [[],[],[0,1],[0,1,2],u4,u5,u6,u7,u7,u7,dq,u7,u7,u7,ji,pb,u16,nP,iJ] [6,12,13,14,15,16,17,76] [[6,0],[12,0],[13,0],[14,0],[15,0],[16,0],[17,0],[80,0]] (by kernel_rfl) (fun K' hK=>by simp only[go_sem,hO,h0,h1,aB];(repeat (refine⟨ak,?_⟩));(first | refine⟨by rfl,?_⟩ | skip);exact hK _ (by simp only[go_sem,hO,h0,h1,aB]) (by simp only[go_sem,hO,h0,h1,aB]<;>rfl)) ?_
  repeat refine sq ?_
  refine ax (fun hb=>?_) fun hb=>?_
  ·repeat refine sq ?_
   refine aS hΓ fun K' hK=>?_
   simp only[go_sem,hO,h0,h1,aB]
   repeat (refine⟨ak,?_⟩)
   refine hK _ ?_
   clear K' hK
   try simp only[go_sem]
   refine bA ?_
   rw[if_pos (show fb e f ⟨fp,fl⟩=true from aB)]
   refine⟨rfl,?_⟩
   show bW _ [[0,1],[1,1]] _
   simp only[bW,go_sem,h0,h1,List.map_append,List.map_cons,List.map_nil,List.length_append,List.length_cons,List.length_nil]
  ·cases hb
end
noncomputable section
theorem Rd(so:Int):n7 (88,so):=rfl
theorem Rb(so:Int):nZ (90,so):=rfl
theorem Rc(so:Int):ni (92,so):=.inl rfl
theorem TU(l:Led)(so:Int):bN (eM (88,so)) l.rs=(aK l so).rs:=rfl
theorem TS(l:Led)(so:Int):bN (eK (90,so)) l.ts=(aK l so).ts:=rfl
theorem TT(l:Led)(so:Int):bN (eo (92,so)) l.ss=(aK l so).ss:=rfl
def jO(l:Led)(so day k:Int):Int:=if gn l [day,k]=0 then(if hasB l so=true then 0 else 3)else gn l [day,k]
def gL(l:Led)(so day k:Int):Fol->Bool:=if eS l k=0/\eS (aK l so) k=0 then hG (cw (aE l k) k) (cw (aE (aK l so) k) k) day else fb (eS l k) (eS (aK l so) k)
def lx(l:Led)(so day k:Int):List Fol:=if jO l so day k=0 then(cl l).filter (gL l so day k)else[]
theorem zh(l:Led)(so:Int):(⟨l.ps,(aK l so).rs,(aK l so).ts,(aK l so).ss⟩:Led)=aK l so:=rfl
def K70:List (Nat×Spec):=[(75,oZ),(85,M3),(86,S86),(87,S87),(89,S89),(91,S91),(78,S78),(93,M2)]
theorem aap:KS K70:=tc FZ.sound<|tc Pd.sound<|tc UO<|tc UN<|tc UL<|tc Jr<|tc Jt<|tc O9.sound<|tn
attribute [go_sem] K70
@[go_sem] def P21:PSpec:=p4 iL iI iI iI (fun _ _ _ _=>True) (fun l so day k=>.tup [.sl ((lx l so day k).map eH),vInt (jO l so day k)]) false
@[go_sem] def ZK:Spec:=P21.toSpec
set_option maxHeartbeats 8000000 in
theorem Px:aT Tryz.prog 21 P21:=by
 refine qp (rs:=[.tmp 8,.tmp 9]) Tryz.func21 Tryz.ntmps21 fun l so day k hp hw=>?_
 simp only[iI,iL,fD]at hw |-
 have hΓ:=aap
 repeat refine sq ?_
 refine rx hΓ [3,4,5,6] [[4,0],[5,0],[6,0]] (fun K' hK=>by simp only[go_sem];exact an) ?_
 refine bG (c0 4 (.ref [4,0] 0) (by simp only[go_sem]) (by simp only[go_sem]) [3,4,5,6] [[4,0],[5,0],[6,0]] ?_ rfl) ?_
 ·simp only[go_sem]
 simp only[go_sem]
 refine bG (c0 5 (.ref [5,0] 0) (by simp only[go_sem]) (by simp only[go_sem]) [3,4,5,6] [[4,0],[5,0],[6,0]] ?_ rfl) ?_
 ·simp only[go_sem]
 simp only[go_sem]
 refine bG (c0 6 (.ref [6,0] 0) (by simp only[go_sem]) (by simp only[go_sem]) [3,4,5,6] [[4,0],[5,0],[6,0]] ?_ rfl) ?_
 ·simp only[go_sem]
 simp only[go_sem]
 repeat refine sq ?_
 refine rx hΓ [3,4,5,6,10] [[4,0],[5,0],[6,0]] (fun K' hK=>by simp only[go_sem];exact an) ?_
 repeat refine sq ?_
 refine rx hΓ [3,4,5,6,10,24] [[4,0],[5,0],[6,0]] (fun K' hK=>by simp only[go_sem];exact an) ?_
 repeat refine sq ?_
 refine ax (fun hb=>?_) fun hb=>?_
 ·repeat refine sq ?_
  have hc:¬ gn l [day,k]=0:=by simpa using hb
  have e:jO l so day k=gn l [day,k]:=by unfold jO;rw[if_neg hc]
  have e2:lx l so day k=[]:=by unfold lx;rw[e,if_neg hc]
  repeat refine sq ?_
  refine rx hΓ [8,9] [[80,0]] (fun K' hK=>by simp only[go_sem];exact an) ?_
  refine av ?_
  simp only[go_sem]
  first | (rw[e,e2];done) | (rw[e,e2];rfl) | trace_state
 ·repeat refine sq ?_
  have hc:gn l [day,k]=0:=by simpa using hb
  obtain⟨aa,_⟩:=zz hc
  refine aC ?_
  repeat refine sq ?_
  refine rx hΓ [3,4,5,6,28] [[4,0],[5,0],[6,0]] (fun K' hK=>by simp only[go_sem];exact an) ?_
  repeat refine sq ?_
  refine ax (fun hb=>?_) fun hb=>?_
  ·repeat refine sq ?_
   have e:jO l so day k=3:=by unfold jO;rw[if_pos hc,if_neg (by simpa using hb)]
   have e2:lx l so day k=[]:=by unfold lx;rw[e];rfl
   repeat refine sq ?_
   refine rx hΓ [8,9] [[80,0]] (fun K' hK=>by simp only[go_sem];exact an) ?_
   refine av ?_
   simp only[go_sem]
   first | (rw[e,e2];done) | (rw[e,e2];rfl) | trace_state
  ·repeat refine sq ?_
   have e:jO l so day k=0:=by unfold jO;rw[if_pos hc,if_pos (by simpa using hb)]
   have e2:lx l so day k=(cl l).filter (gL l so day k):=by unfold lx;rw[if_pos e]
   have VJ:=GX aa
   have fU:=Ay aa so
   have dU:=DD aa
   have iZ:=aa.rsn
   have yv:=aa.tsn
   have JQ:=aa.ssn
   refine aC ?_
   repeat refine sq ?_
   refine rx hΓ [3,4,5,6,11] [[4,0],[5,0],[6,0],[11,0],[8,0,30,0],[11,0,30,0],[14,0,30,0],[17,0,30,0]] (fun K' hK=>by simp only[go_sem];(repeat (refine⟨by first | exact ak | exact VJ,?_⟩));exact eX) ?_
   repeat refine sq ?_
   refine rx hΓ [3,4,5,6,11] [[4,0],[5,0],[6,0],[11,0],[8,0,30,0],[11,0,30,0],[14,0,30,0],[17,0,30,0]] (fun K' hK=>by simp only[go_sem,tX,TU,Rd,List.length_map];exact an) ?_
   repeat refine sq ?_
   refine rx hΓ [3,4,5,6,11] [[4,0],[5,0],[6,0],[11,0],[8,0,30,0],[11,0,30,0],[14,0,30,0],[17,0,30,0]] (fun K' hK=>by simp only[go_sem,zq,TS,Rb,List.length_map];exact an) ?_
   repeat refine sq ?_
   refine rx hΓ [3,4,6,11] [[4,0],[6,0],[11,0],[8,0,30,0],[11,0,30,0],[14,0,30,0],[17,0,30,0]] (fun K' hK=>by simp only[go_sem,rV,TT,Rc,List.length_map];exact an) ?_
   refine bG (uw [11,0] [8,0,30,0] 0 _ _ _ _ rfl rfl rfl (by first | rfl | (simp only[List.length_map];done)) [3,4,6,11] [[11,0],[8,0,30,0]] ?_ rfl) ?_
   ·simp only[go_sem,List.set_cons_succ,List.set_cons_zero]
   simp only[go_sem,List.set_cons_succ,List.set_cons_zero]
   refine bG (c0 11 (.ref [11,0] 0) (by simp only[go_sem]) (by simp only[go_sem]) [3,4,6,11] [[11,0]] ?_ rfl) ?_
   ·simp only[go_sem]
   simp only[go_sem]
   rcases vx:pg l k with _ | _
   ·obtain⟨q1,q2,q3⟩:=xk vx
    have q4:¬ eS l k=0:=by simpa using q3
    repeat refine sq ?_
    refine rx hΓ [3,4,6,11,12,13] [[4,0],[6,0],[11,0],[12,0],[13,0],[8,0,30,0],[11,0,30,0],[14,0,30,0],[17,0,30,0],[26,0,11,0,11,0,48,0],[23,0,11,0,11,0,48,0],[24,0,11,0,11,0,48,0]] (fun K' hK=>by simp only[go_sem,q1,q2];(repeat (refine⟨by first | exact ak | exact aa,?_⟩));exact eX) ?_
    refine bG (c0 13 (.ref [13,0] 0) (by simp only[go_sem]) (by simp only[go_sem]) [3,4,6,11,12,13] [[4,0],[6,0],[11,0],[12,0],[13,0],[8,0,30,0],[11,0,30,0],[14,0,30,0],[17,0,30,0],[26,0,11,0,11,0,48,0],[23,0,11,0,11,0,48,0],[24,0,11,0,11,0,48,0]] ?_ rfl) ?_
    ·simp only[go_sem]
    simp only[go_sem]
    rcases vw:pg (aK l so) k with _ | _
    ·obtain⟨r1,r2,r3⟩:=xk vw
     have r4:¬ eS (aK l so) k=0:=by simpa using r3
     repeat refine sq ?_
     refine rx hΓ [4,6,12,13,14,15] [[4,0],[6,0],[12,0],[13,0],[14,0],[15,0],[26,0,11,0,11,0,48,0],[23,0,11,0,11,0,48,0],[24,0,11,0,11,0,48,0],[26,0,11,0,11,0,53,0],[23,0,11,0,11,0,53,0],[24,0,11,0,11,0,53,0]] (fun K' hK=>by simp only[go_sem,q1,q2,r1,r2,zh];(repeat (refine⟨by first | exact ak | exact fU,?_⟩));exact eX) ?_
     refine bG (c0 15 (.ref [15,0] 0) (by simp only[go_sem]) (by simp only[go_sem]) [4,6,12,13,14,15] [[4,0],[6,0],[12,0],[13,0],[14,0],[15,0],[26,0,11,0,11,0,48,0],[23,0,11,0,11,0,48,0],[24,0,11,0,11,0,48,0],[26,0,11,0,11,0,53,0],[23,0,11,0,11,0,53,0],[24,0,11,0,11,0,53,0]] ?_ rfl) ?_
     ·simp only[go_sem]
     simp only[go_sem]
     repeat refine sq ?_
     refine rx hΓ [4,6,12,13,14,15,16] [[4,0],[6,0],[12,0],[13,0],[14,0],[15,0],[16,0],[80,0],[26,0,11,0,11,0,48,0],[23,0,11,0,11,0,48,0],[24,0,11,0,11,0,48,0],[26,0,11,0,11,0,53,0],[23,0,11,0,11,0,53,0],[24,0,11,0,11,0,53,0]] (fun K' hK=>by simp only[go_sem,q1,q2,r1,r2];exact an) ?_
     refine bG (jH [16,0] [80,0] 0 2 _ rfl rfl rfl [4,6,12,13,14,15,16] [[4,0],[6,0],[12,0],[13,0],[14,0],[15,0],[16,0],[80,0],[26,0,11,0,11,0,48,0],[23,0,11,0,11,0,48,0],[24,0,11,0,11,0,48,0],[26,0,11,0,11,0,53,0],[23,0,11,0,11,0,53,0],[24,0,11,0,11,0,53,0]] ?_ rfl) ?_
     ·simp only[go_sem,List.set_cons_succ,List.set_cons_zero]
     simp only[go_sem,List.set_cons_succ,List.set_cons_zero]
     repeat refine sq ?_
     refine rx hΓ [6,12,13,14,15,16,56] [[6,0],[12,0],[13,0],[14,0],[15,0],[16,0],[80,0],[26,0,11,0,11,0,48,0],[23,0,11,0,11,0,48,0],[24,0,11,0,11,0,48,0],[26,0,11,0,11,0,53,0],[23,0,11,0,11,0,53,0],[24,0,11,0,11,0,53,0]] (fun K' hK=>by simp only[go_sem,q1,q2,r1,r2];exact an) ?_
     repeat refine sq ?_
     refine aI ?_
     repeat refine sq ?_
     have ev:aF Tryz.prog 182 ((ft l (eS l k) (eS (aK l so) k)).it [.ptr [ey l]]).toSpec:=xo (qH aa (eS l k) (eS (aK l so) k)) (fun _=>rfl) (BE aa (e:=eS l k) (f:=eS (aK l so) k) (fun h=>q4 h.1)) aa rfl (fun _=>rfl)
     have hm:gL l so day k=fb (eS l k) (eS (aK l so) k):=by unfold gL;rw[if_neg (fun h=>q4 h.1)]
     rw[e,e2,hm]
     refine kp [13,15,16,56] [[16,0],[80,0]] ?_
     refine zH (qH aa (eS l k) (eS (aK l so) k)) 200 201 (f:=182) (Ls:=[[16,0],[80,0]]) rfl rfl (by decide) ev rfl rfl rfl rfl rfl rfl (by decide) (show ([200,0]:Name)∉[[16,0],[80,0]]by decide) ⟨rfl,rfl,trivial⟩ fun o=>?_
     obtain⟨g1,g2⟩:=Lp.go_e (r:=ft l (eS l k) (eS (aK l so) k)) (fun _=>rfl)
     have g3:(ft l (eS l k) (eS (aK l so) k)).fam [[16,0],[80,0]] (ft l (eS l k) (eS (aK l so) k)).e=[.box [.msl [80,0] ((cl l).filter (fb (eS l k) (eS (aK l so) k))).length],.arr 2 (((cl l).filter (fb (eS l k) (eS (aK l so) k))).map eH)]:=by
      rw[g1,<-ze];rfl
     rw[g2,g3]
     simp only[m8,fN]
     refine bA ?_
     show CL Tryz.prog (_::_) _ _
     refine dd [16] [[16,0],[80,0]] ?_ ?_
     ·simp only[go_sem,bV]
     simp only[go_sem,bV]
     repeat refine sq ?_
     refine rx hΓ [8,9] [[80,0]] (fun K' hK=>by simp only[go_sem];exact an) ?_
     refine av ?_
     simp only[go_sem]
    ·obtain⟨r1,r2,r4⟩:=xj vw
     obtain⟨oB,tw⟩:=xh fU k
     repeat refine sq ?_
     refine rx hΓ [4,6,12,13,14,15] [[4,0],[6,0],[12,0],[13,0],[14,0],[15,0],[26,0,11,0,11,0,48,0],[23,0,11,0,11,0,48,0],[24,0,11,0,11,0,48,0],[26,0,11,0,11,0,53,0],[23,0,11,0,11,0,53,0],[24,0,11,0,11,0,53,0]] (fun K' hK=>by simp only[go_sem,q1,q2,r1,r2,zh];(repeat (refine⟨by first | exact ak | exact fU,?_⟩));exact eX) ?_
     refine bG (c0 15 (.ref [15,0] 0) (by simp only[go_sem]) (by simp only[go_sem]) [4,6,12,13,14,15] [[4,0],[6,0],[12,0],[13,0],[14,0],[15,0],[26,0,11,0,11,0,48,0],[23,0,11,0,11,0,48,0],[24,0,11,0,11,0,48,0],[26,0,11,0,11,0,53,0],[23,0,11,0,11,0,53,0],[24,0,11,0,11,0,53,0]] ?_ rfl) ?_
     ·simp only[go_sem]
     simp only[go_sem]
     repeat refine sq ?_
     refine rx hΓ [4,6,12,13,14,15,16] [[4,0],[6,0],[12,0],[13,0],[14,0],[15,0],[16,0],[80,0],[26,0,11,0,11,0,48,0],[23,0,11,0,11,0,48,0],[24,0,11,0,11,0,48,0],[26,0,11,0,11,0,53,0],[23,0,11,0,11,0,53,0],[24,0,11,0,11,0,53,0]] (fun K' hK=>by simp only[go_sem,q1,q2,r1,r2];exact an) ?_
     refine bG (jH [16,0] [80,0] 0 2 _ rfl rfl rfl [4,6,12,13,14,15,16] [[4,0],[6,0],[12,0],[13,0],[14,0],[15,0],[16,0],[80,0],[26,0,11,0,11,0,48,0],[23,0,11,0,11,0,48,0],[24,0,11,0,11,0,48,0],[26,0,11,0,11,0,53,0],[23,0,11,0,11,0,53,0],[24,0,11,0,11,0,53,0]] ?_ rfl) ?_
     ·simp only[go_sem,List.set_cons_succ,List.set_cons_zero]
     simp only[go_sem,List.set_cons_succ,List.set_cons_zero]
     repeat refine sq ?_
     refine rx hΓ [6,12,13,14,15,16,56] [[6,0],[12,0],[13,0],[14,0],[15,0],[16,0],[80,0],[26,0,11,0,11,0,48,0],[23,0,11,0,11,0,48,0],[24,0,11,0,11,0,48,0],[26,0,11,0,11,0,53,0],[23,0,11,0,11,0,53,0],[24,0,11,0,11,0,53,0]] (fun K' hK=>by simp only[go_sem,q1,q2,r1,r2];exact an) ?_
     repeat refine sq ?_
     refine aI ?_
     repeat refine sq ?_
     have ev:aF Tryz.prog 182 ((ft l (eS l k) (0)).it [.ptr [ey l]]).toSpec:=xo (qH aa (eS l k) (0)) (fun _=>rfl) (BE aa (e:=eS l k) (f:=0) (fun h=>q4 h.1)) aa rfl (fun _=>rfl)
     have hm:gL l so day k=fb (eS l k) (0):=by unfold gL;rw[if_neg (fun h=>q4 h.1),r4]
     rw[e,e2,hm]
     refine kp [13,15,16,56] [[16,0],[80,0]] ?_
     refine zH (qH aa (eS l k) (0)) 200 201 (f:=182) (Ls:=[[16,0],[80,0]]) rfl rfl (by decide) ev rfl rfl rfl rfl rfl rfl (by decide) (show ([200,0]:Name)∉[[16,0],[80,0]]by decide) ⟨rfl,rfl,trivial⟩ fun o=>?_
     obtain⟨g1,g2⟩:=Lp.go_e (r:=ft l (eS l k) (0)) (fun _=>rfl)
     have g3:(ft l (eS l k) (0)).fam [[16,0],[80,0]] (ft l (eS l k) (0)).e=[.box [.msl [80,0] ((cl l).filter (fb (eS l k) (0))).length],.arr 2 (((cl l).filter (fb (eS l k) (0))).map eH)]:=by
      rw[g1,<-ze];rfl
     rw[g2,g3]
     simp only[m8,fN]
     refine bA ?_
     show CL Tryz.prog (_::_) _ _
     refine dd [16] [[16,0],[80,0]] ?_ ?_
     ·simp only[go_sem,bV]
     simp only[go_sem,bV]
     repeat refine sq ?_
     refine rx hΓ [8,9] [[80,0]] (fun K' hK=>by simp only[go_sem];exact an) ?_
     refine av ?_
     simp only[go_sem]
   ·obtain⟨q1,q2,q4⟩:=xj vx
    obtain⟨hv,bR⟩:=xh aa k
    repeat refine sq ?_
    refine rx hΓ [3,4,6,11,12,13] [[4,0],[6,0],[11,0],[12,0],[13,0],[8,0,30,0],[11,0,30,0],[14,0,30,0],[17,0,30,0],[26,0,11,0,11,0,48,0],[23,0,11,0,11,0,48,0],[24,0,11,0,11,0,48,0]] (fun K' hK=>by simp only[go_sem,q1,q2];(repeat (refine⟨by first | exact ak | exact aa,?_⟩));exact eX) ?_
    refine bG (c0 13 (.ref [13,0] 0) (by simp only[go_sem]) (by simp only[go_sem]) [3,4,6,11,12,13] [[4,0],[6,0],[11,0],[12,0],[13,0],[8,0,30,0],[11,0,30,0],[14,0,30,0],[17,0,30,0],[26,0,11,0,11,0,48,0],[23,0,11,0,11,0,48,0],[24,0,11,0,11,0,48,0]] ?_ rfl) ?_
    ·simp only[go_sem]
    simp only[go_sem]
    rcases vw:pg (aK l so) k with _ | _
    ·obtain⟨r1,r2,r3⟩:=xk vw
     have r4:¬ eS (aK l so) k=0:=by simpa using r3
     repeat refine sq ?_
     refine rx hΓ [4,6,12,13,14,15] [[4,0],[6,0],[12,0],[13,0],[14,0],[15,0],[26,0,11,0,11,0,48,0],[23,0,11,0,11,0,48,0],[24,0,11,0,11,0,48,0],[26,0,11,0,11,0,53,0],[23,0,11,0,11,0,53,0],[24,0,11,0,11,0,53,0]] (fun K' hK=>by simp only[go_sem,q1,q2,r1,r2,zh];(repeat (refine⟨by first | exact ak | exact fU,?_⟩));exact eX) ?_
     refine bG (c0 15 (.ref [15,0] 0) (by simp only[go_sem]) (by simp only[go_sem]) [4,6,12,13,14,15] [[4,0],[6,0],[12,0],[13,0],[14,0],[15,0],[26,0,11,0,11,0,48,0],[23,0,11,0,11,0,48,0],[24,0,11,0,11,0,48,0],[26,0,11,0,11,0,53,0],[23,0,11,0,11,0,53,0],[24,0,11,0,11,0,53,0]] ?_ rfl) ?_
     ·simp only[go_sem]
     simp only[go_sem]
     repeat refine sq ?_
     refine rx hΓ [4,6,12,13,14,15,16] [[4,0],[6,0],[12,0],[13,0],[14,0],[15,0],[16,0],[80,0],[26,0,11,0,11,0,48,0],[23,0,11,0,11,0,48,0],[24,0,11,0,11,0,48,0],[26,0,11,0,11,0,53,0],[23,0,11,0,11,0,53,0],[24,0,11,0,11,0,53,0]] (fun K' hK=>by simp only[go_sem,q1,q2,r1,r2];exact an) ?_
     refine bG (jH [16,0] [80,0] 0 2 _ rfl rfl rfl [4,6,12,13,14,15,16] [[4,0],[6,0],[12,0],[13,0],[14,0],[15,0],[16,0],[80,0],[26,0,11,0,11,0,48,0],[23,0,11,0,11,0,48,0],[24,0,11,0,11,0,48,0],[26,0,11,0,11,0,53,0],[23,0,11,0,11,0,53,0],[24,0,11,0,11,0,53,0]] ?_ rfl) ?_
     ·simp only[go_sem,List.set_cons_succ,List.set_cons_zero]
     simp only[go_sem,List.set_cons_succ,List.set_cons_zero]
     repeat refine sq ?_
     refine rx hΓ [6,12,13,14,15,16,56] [[6,0],[12,0],[13,0],[14,0],[15,0],[16,0],[80,0],[26,0,11,0,11,0,48,0],[23,0,11,0,11,0,48,0],[24,0,11,0,11,0,48,0],[26,0,11,0,11,0,53,0],[23,0,11,0,11,0,53,0],[24,0,11,0,11,0,53,0]] (fun K' hK=>by simp only[go_sem,q1,q2,r1,r2];exact an) ?_
     repeat refine sq ?_
     refine aI ?_
     repeat refine sq ?_
     have ev:aF Tryz.prog 182 ((ft l (0) (eS (aK l so) k)).it [.ptr [ey l]]).toSpec:=xo (qH aa (0) (eS (aK l so) k)) (fun _=>rfl) (BE aa (e:=0) (f:=eS (aK l so) k) (fun h=>r4 h.2)) aa rfl (fun _=>rfl)
     have hm:gL l so day k=fb (0) (eS (aK l so) k):=by unfold gL;rw[if_neg (fun h=>r4 h.2),q4]
     rw[e,e2,hm]
     refine kp [13,15,16,56] [[16,0],[80,0]] ?_
     refine zH (qH aa (0) (eS (aK l so) k)) 200 201 (f:=182) (Ls:=[[16,0],[80,0]]) rfl rfl (by decide) ev rfl rfl rfl rfl rfl rfl (by decide) (show ([200,0]:Name)∉[[16,0],[80,0]]by decide) ⟨rfl,rfl,trivial⟩ fun o=>?_
     obtain⟨g1,g2⟩:=Lp.go_e (r:=ft l (0) (eS (aK l so) k)) (fun _=>rfl)
     have g3:(ft l (0) (eS (aK l so) k)).fam [[16,0],[80,0]] (ft l (0) (eS (aK l so) k)).e=[.box [.msl [80,0] ((cl l).filter (fb (0) (eS (aK l so) k))).length],.arr 2 (((cl l).filter (fb (0) (eS (aK l so) k))).map eH)]:=by
      rw[g1,<-ze];rfl
     rw[g2,g3]
     simp only[m8,fN]
     refine bA ?_
     show CL Tryz.prog (_::_) _ _
     refine dd [16] [[16,0],[80,0]] ?_ ?_
     ·simp only[go_sem,bV]
     simp only[go_sem,bV]
     repeat refine sq ?_
     refine rx hΓ [8,9] [[80,0]] (fun K' hK=>by simp only[go_sem];exact an) ?_
     refine av ?_
     simp only[go_sem]
    ·obtain⟨r1,r2,r4⟩:=xj vw
     obtain⟨oB,tw⟩:=xh fU k
     repeat refine sq ?_
     refine rx hΓ [4,6,12,13,14,15] [[4,0],[6,0],[12,0],[13,0],[14,0],[15,0],[26,0,11,0,11,0,48,0],[23,0,11,0,11,0,48,0],[24,0,11,0,11,0,48,0],[26,0,11,0,11,0,53,0],[23,0,11,0,11,0,53,0],[24,0,11,0,11,0,53,0]] (fun K' hK=>by simp only[go_sem,q1,q2,r1,r2,zh];(repeat (refine⟨by first | exact ak | exact fU,?_⟩));exact eX) ?_
     refine bG (c0 15 (.ref [15,0] 0) (by simp only[go_sem]) (by simp only[go_sem]) [4,6,12,13,14,15] [[4,0],[6,0],[12,0],[13,0],[14,0],[15,0],[26,0,11,0,11,0,48,0],[23,0,11,0,11,0,48,0],[24,0,11,0,11,0,48,0],[26,0,11,0,11,0,53,0],[23,0,11,0,11,0,53,0],[24,0,11,0,11,0,53,0]] ?_ rfl) ?_
     ·simp only[go_sem]
     simp only[go_sem]
     repeat refine sq ?_
     refine rx hΓ [4,6,12,13,14,15,16] [[4,0],[6,0],[12,0],[13,0],[14,0],[15,0],[16,0],[80,0],[26,0,11,0,11,0,48,0],[23,0,11,0,11,0,48,0],[24,0,11,0,11,0,48,0],[26,0,11,0,11,0,53,0],[23,0,11,0,11,0,53,0],[24,0,11,0,11,0,53,0]] (fun K' hK=>by simp only[go_sem,q1,q2,r1,r2];exact an) ?_
     refine bG (jH [16,0] [80,0] 0 2 _ rfl rfl rfl [4,6,12,13,14,15,16] [[4,0],[6,0],[12,0],[13,0],[14,0],[15,0],[16,0],[80,0],[26,0,11,0,11,0,48,0],[23,0,11,0,11,0,48,0],[24,0,11,0,11,0,48,0],[26,0,11,0,11,0,53,0],[23,0,11,0,11,0,53,0],[24,0,11,0,11,0,53,0]] ?_ rfl) ?_
     ·simp only[go_sem,List.set_cons_succ,List.set_cons_zero]
     simp only[go_sem,List.set_cons_succ,List.set_cons_zero]
     repeat refine sq ?_
     refine rx hΓ [6,12,13,14,15,16,56] [[6,0],[12,0],[13,0],[14,0],[15,0],[16,0],[80,0],[26,0,11,0,11,0,48,0],[23,0,11,0,11,0,48,0],[24,0,11,0,11,0,48,0],[26,0,11,0,11,0,53,0],[23,0,11,0,11,0,53,0],[24,0,11,0,11,0,53,0]] (fun K' hK=>by simp only[go_sem,q1,q2,r1,r2];exact an) ?_
     repeat refine sq ?_
     refine aI ?_
     repeat refine sq ?_
     have ev:aF Tryz.prog 182 ((ju l (cw (aE l k) k) (cw (aE (aK l so) k) k) day).it [.ptr [ey l]]).toSpec:=xo (BF aa (cw (aE l k) k) (cw (aE (aK l so) k) k) day) (fun _=>rfl) (Sm aa hv bR oB tw day) aa rfl (fun _=>rfl)
     have hm:gL l so day k=hG (cw (aE l k) k) (cw (aE (aK l so) k) k) day:=by unfold gL;rw[if_pos ⟨q4,r4⟩]
     rw[e,e2,hm]
     refine zH (BF aa (cw (aE l k) k) (cw (aE (aK l so) k) k) day) 200 201 (f:=182) (Ls:=[[12,0],[26,0,11,0,11,0,48,0],[23,0,11,0,11,0,48,0],[24,0,11,0,11,0,48,0],[14,0],[26,0,11,0,11,0,53,0],[23,0,11,0,11,0,53,0],[24,0,11,0,11,0,53,0],[16,0],[80,0]]) rfl rfl (by decide) ev rfl rfl rfl rfl rfl rfl (by decide) (show ([200,0]:Name)∉[[12,0],[26,0,11,0,11,0,48,0],[23,0,11,0,11,0,48,0],[24,0,11,0,11,0,48,0],[14,0],[26,0,11,0,11,0,53,0],[23,0,11,0,11,0,53,0],[24,0,11,0,11,0,53,0],[16,0],[80,0]]by decide) ⟨rfl,rfl,rfl,rfl,rfl,rfl,rfl,rfl,rfl,rfl,trivial⟩ fun o=>?_
     obtain⟨g1,g2⟩:=Lp.go_e (r:=ju l (cw (aE l k) k) (cw (aE (aK l so) k) k) day) (fun _=>rfl)
     have g3:(ju l (cw (aE l k) k) (cw (aE (aK l so) k) k) day).fam [[12,0],[26,0,11,0,11,0,48,0],[23,0,11,0,11,0,48,0],[24,0,11,0,11,0,48,0],[14,0],[26,0,11,0,11,0,53,0],[23,0,11,0,11,0,53,0],[24,0,11,0,11,0,53,0],[16,0],[80,0]] (ju l (cw (aE l k) k) (cw (aE (aK l so) k) k) day).e=[.box [.ref [26,0,11,0,11,0,48,0] 0],ba (cw (aE l k) k) [23,0,11,0,11,0,48,0] [24,0,11,0,11,0,48,0],.map 2 (bD (cw (aE l k) k).bk),.map 0 (bw (cw (aE l k) k).ds),.box [.ref [26,0,11,0,11,0,53,0] 0],ba (cw (aE (aK l so) k) k) [23,0,11,0,11,0,53,0] [24,0,11,0,11,0,53,0],.map 2 (bD (cw (aE (aK l so) k) k).bk),.map 0 (bw (cw (aE (aK l so) k) k).ds),.box [.msl [80,0] ((cl l).filter (hG (cw (aE l k) k) (cw (aE (aK l so) k) k) day)).length],.arr 2 (((cl l).filter (hG (cw (aE l k) k) (cw (aE (aK l so) k) k) day)).map eH)]:=by
      rw[g1,<-ze];rfl
     rw[g2,g3]
     simp only[m8,fN]
     refine bA ?_
     show CL Tryz.prog (_::_) _ _
     refine dd [16] [[16,0],[80,0]] ?_ ?_
     ·simp only[go_sem,bV]
     simp only[go_sem,bV]
     repeat refine sq ?_
     refine rx hΓ [8,9] [[80,0]] (fun K' hK=>by simp only[go_sem];exact an) ?_
     refine av ?_
     simp only[go_sem]
end
instance adl (l:Led) (k:Int) (j:Nat):Decidable (Ob l k j):=inferInstanceAs (Decidable ((bF l k l.ts.length).getD j false=true))
theorem Yf(x:Fol):zw (eH x)=x:=rfl
@[go_sem] theorem aeH(l:List Fol):(l.map eH).map zw=l:=pz Yf l
theorem KZ{a b:Fol}(h:(a.pa==b.pa&&a.le==b.le)=true):a=b:=by
 obtain⟨p,q⟩:=a
 obtain⟨r,s⟩:=b
 simp only[Bool.and_eq_true,beq_iff_eq]at h
 rw[h.1,h.2]
set_option maxHeartbeats 8000000
noncomputable section
theorem XG{a b:Fol}:(a.pa==b.pa&&a.le==b.le)=decide (a=b):=by
 rw[Bool.eq_iff_iff,decide_eq_true_eq]
 exact⟨KZ,fun h=>by rw[h];simp⟩
@[go_sem] def P25:PSpec:=p2 (cW iX) iX (fun _ _=>True) (fun l f=>.bool (l.contains f)) true
@[go_sem] def ZI:Spec:=P25.toSpec
theorem Pt:aT Tryz.prog 25 P25:=by
 refine cV (rs:=[.tmp 4]) Tryz.func25 Tryz.ntmps25 fun l f hp hw=>?_
 have hP:=eE
 simp only[iX,cW,eH]at hw |-
 have hΓ:=@dI Tryz.prog
 have hl:l.length<=maxLen:=by have:=hw.1.1;simpa using this
 repeat refine sq ?_
 refine rx hΓ [0,3] [[3,0]] (fun K' hK=>by simp only[go_sem];exact an) ?_
 repeat refine sq ?_
 refine rx hΓ [0,3,5] [[3,0]] (fun K' hK=>by simp only[go_sem];exact an) ?_
 repeat refine sq ?_
 refine aI ?_
 repeat refine sq ?_
 refine bT (fun s:Nat=>[(5,⟨true,.v (vInt s)⟩)]) (fun s=>[]) (fun s=>s<=l.length/\∀ j (hj:j<l.length),j<s->¬ l[j]=f) (fun s=>l.length-s) 0 ?_ ?_ ?_ ?_
 ·exact⟨Nat.zero_le _,fun j _ h=>by omega⟩
 ·rfl
 ·rfl
 rintro i ⟨hi,hR⟩
 simp only[go_sem]
 repeat refine sq ?_
 refine rx hΓ [0,3,5,9] [[3,0]] (fun K' hK=>by simp only[go_sem];exact an) ?_
 repeat refine sq ?_
 refine ax (fun hb=>?_) fun hb=>?_
 ·have ab:i<l.length:=by simpa using hb
  have ao:(i:Int)<l.length:=by omega
  clear hb
  repeat refine sq ?_
  refine aC ?_
  repeat refine sq ?_
  refine aI ?_
  repeat refine sq ?_
  refine dx hΓ hP [[],[],[0,1],[0,1,2],[],u5] [0,3,5,17] [[3,0]] (by kernel_rfl) (fun K' hK=>by simp only[go_sem,ah ab,ai,aj,ao];exact oT) ?_
  repeat refine sq ?_
  refine ax (fun hb=>?_) fun hb=>?_
  ·repeat refine sq ?_
   have e:l.contains f=true:=List.contains_iff_mem.2 (by rw[<-KZ hb];exact List.getElem_mem ab)
   repeat refine sq ?_
   refine rx hΓ [4] [] (fun K' hK=>by simp only[go_sem,ah ab,ai,aj,ao];exact an) ?_
   refine av ?_
   simp only[go_sem]
   rw[e]
  ·repeat refine sq ?_
   have e:¬ l[i]=f:=fun h=>by rw[XG,decide_eq_true h]at hb;cases hb
   refine aC ?_
   refine bA ?_
   simp only[go_sem]
   refine kp [0,3,5] [[3,0]] ?_
   repeat refine sq ?_
   refine aS hΓ fun K' hK=>?_
   simp only[go_sem,ah ab,ai,aj,ao]
   repeat (refine⟨ak,?_⟩)
   refine hK _ ?_
   clear K' hK
   simp only[go_sem]
   refine⟨i+1,⟨ab,?_⟩,by(show l.length-(i+1)<l.length-i;omega),?_⟩
   ·intro j hj dw
    rcases Nat.lt_succ_iff_lt_or_eq.1 dw with h5 | rfl
    ·exact hR j hj h5
    ·exact e
   refine bd [0,3,5] [[3,0]] ?_ ?_<;>simp only[go_sem,aV ab hl,aY]
 ·have bj:i=l.length:=by
   have :¬ (i:Int)<l.length:=by simpa using hb
   omega
  clear hb
  subst bj
  repeat refine sq ?_
  refine bC ?_
  simp only[go_sem]
  refine kp [] [] ?_
  repeat refine sq ?_
  refine rx hΓ [4] [] (fun K' hK=>by simp only[go_sem];exact an) ?_
  refine av ?_
  simp only[go_sem]
  have e:l.contains f=false:=by
   rw[Bool.eq_false_iff]
   intro h
   obtain⟨j,hj,e⟩:=List.getElem_of_mem (List.contains_iff_mem.1 h)
   exact hR j hj hj e
  rw[e]
def kg(l:Led)(so:Int):Int:=match l.rs.find? fun r=>r.so==so with
 |some r=>r.kn
 |none=>match l.ts.find? fun r=>r.so==so with
  |some t=>t.kn
  |none=>match l.ss.find? fun r=>r.so==so with
   |some s=>s.kn
   |none=>0
theorem DG{α:Type}{p:α->Bool}{l:List α}{i:Nat}(h:i<l.length)(hp:p l[i]=true)(hn:∀ j (hj:j<l.length),j<i->p l[j]=false):l.find? p=some l[i]:=
 List.find?_eq_some_iff_getElem.2 ⟨hp,i,h,rfl,fun j hj=>by rw[hn j (by omega) hj];rfl⟩
theorem DF{α:Type}{p:α->Bool}{l:List α}(hn:∀ j (hj:j<l.length),j<l.length->p l[j]=false):l.find? p=none:=by
 rw[List.find?_eq_none]
 intro x hx
 obtain⟨j,hj,rfl⟩:=List.getElem_of_mem hx
 rw[hn j hj hj];decide
@[go_sem] def P26:PSpec:=p2 iL iI (fun l _=>Ov l) (fun l so=>vInt (kg l so)) true
@[go_sem] def ZH:Spec:=P26.toSpec
theorem Ps:aT Tryz.prog 26 P26:=by
 refine cV (rs:=[.tmp 4]) Tryz.func26 Tryz.ntmps26 fun l so hp hw=>?_
 simp only[iI,iL,fD]at hw |-
 have hΓ:=@dI Tryz.prog
 obtain⟨lB,pQ,CQ⟩:=hp
 have kL:l.rs.length<=maxLen:=by unfold maxLen;omega
 have gg:l.ts.length<=maxLen:=by unfold maxLen;omega
 have tz:l.ss.length<=maxLen:=by unfold maxLen;omega
 repeat refine sq ?_
 refine rx hΓ [1,2] [[2,0]] (fun K' hK=>by simp only[go_sem];exact an) ?_
 repeat refine sq ?_
 refine rx hΓ [1,2,5] [[2,0]] (fun K' hK=>by simp only[go_sem];exact an) ?_
 repeat refine sq ?_
 refine aI ?_
 repeat refine sq ?_
 refine bT (fun s:Nat=>[(5,⟨true,.v (vInt s)⟩)]) (fun s=>[]) (fun s=>s<=l.rs.length/\∀ j (hj:j<l.rs.length),j<s->(l.rs[j].so==so)=false) (fun s=>l.rs.length-s) 0 ?_ ?_ ?_ ?_
 ·exact⟨Nat.zero_le _,fun j _ h=>by omega⟩
 ·rfl
 ·rfl
 rintro i ⟨hi,hR⟩
 simp only[go_sem]
 repeat refine sq ?_
 refine rx hΓ [1,2,5,12] [[2,0]] (fun K' hK=>by simp only[go_sem];exact an) ?_
 repeat refine sq ?_
 refine ax (fun hb=>?_) fun hb=>?_
 ·have ab:i<l.rs.length:=by simpa using hb
  have ao:(i:Int)<l.rs.length:=by omega
  clear hb
  repeat refine sq ?_
  refine aC ?_
  repeat refine sq ?_
  refine aI ?_
  repeat refine sq ?_
  refine rx hΓ [1,2,5,22] [[2,0]] (fun K' hK=>by simp only[go_sem,ah ab,ai,aj,ao];exact an) ?_
  repeat refine sq ?_
  refine ax (fun hb=>?_) fun hb=>?_
  ·repeat refine sq ?_
   have e:kg l so=l.rs[i].kn:=by unfold kg;rw[DG (p:=fun r:Rec=>r.so==so) ab hb hR]
   repeat refine sq ?_
   refine rx hΓ [4] [] (fun K' hK=>by simp only[go_sem,ah ab,ai,aj,ao];exact an) ?_
   refine av ?_
   simp only[go_sem]
   first | (rw[e];done) | trace_state
  ·repeat refine sq ?_
   refine aC ?_
   refine bA ?_
   simp only[go_sem]
   refine kp [1,2,5] [[2,0]] ?_
   repeat refine sq ?_
   refine aS hΓ fun K' hK=>?_
   simp only[go_sem,ah ab,ai,aj,ao]
   repeat (refine⟨ak,?_⟩)
   refine hK _ ?_
   clear K' hK
   simp only[go_sem]
   refine⟨i+1,⟨ab,?_⟩,by(show l.rs.length-(i+1)<l.rs.length-i;omega),?_⟩
   ·intro j hj dw
    rcases Nat.lt_succ_iff_lt_or_eq.1 dw with h5 | rfl
    ·exact hR j hj h5
    ·exact hb
   refine bd [1,2,5] [[2,0]] ?_ ?_<;>simp only[go_sem,aV ab kL,aY]
 ·have bj:i=l.rs.length:=by
   have :¬ (i:Int)<l.rs.length:=by simpa using hb
   omega
  clear hb
  subst bj
  have f1:=DF (p:=fun r:Rec=>r.so==so) hR
  repeat refine sq ?_
  refine bC ?_
  simp only[go_sem]
  refine kp [1,2] [[2,0]] ?_
  repeat refine sq ?_
  refine rx hΓ [1,2,6] [[2,0]] (fun K' hK=>by simp only[go_sem];exact an) ?_
  repeat refine sq ?_
  refine aI ?_
  repeat refine sq ?_
  refine bT (fun s:Nat=>[(6,⟨true,.v (vInt s)⟩)]) (fun s=>[]) (fun s=>s<=l.ts.length/\∀ j (hj:j<l.ts.length),j<s->(l.ts[j].so==so)=false) (fun s=>l.ts.length-s) 0 ?_ ?_ ?_ ?_
  ·exact⟨Nat.zero_le _,fun j _ h=>by omega⟩
  ·rfl
  ·rfl
  rintro i ⟨hi,hR⟩
  simp only[go_sem]
  repeat refine sq ?_
  refine rx hΓ [1,2,6,33] [[2,0]] (fun K' hK=>by simp only[go_sem];exact an) ?_
  repeat refine sq ?_
  refine ax (fun hb=>?_) fun hb=>?_
  ·have aJ:i<l.ts.length:=by simpa using hb
   have bq:(i:Int)<l.ts.length:=by omega
   clear hb
   repeat refine sq ?_
   refine aC ?_
   repeat refine sq ?_
   refine aI ?_
   repeat refine sq ?_
   refine rx hΓ [1,2,6,43] [[2,0]] (fun K' hK=>by simp only[go_sem,ah aJ,ai,aj,bq];exact an) ?_
   repeat refine sq ?_
   refine ax (fun hb=>?_) fun hb=>?_
   ·repeat refine sq ?_
    have e:kg l so=l.ts[i].kn:=by unfold kg;rw[f1];simp only[];rw[DG (p:=fun r:Ret=>r.so==so) aJ hb hR]
    repeat refine sq ?_
    refine rx hΓ [4] [] (fun K' hK=>by simp only[go_sem,ah aJ,ai,aj,bq];exact an) ?_
    refine av ?_
    simp only[go_sem]
    first | (rw[e];done) | trace_state
   ·repeat refine sq ?_
    refine aC ?_
    refine bA ?_
    simp only[go_sem]
    refine kp [1,2,6] [[2,0]] ?_
    repeat refine sq ?_
    refine aS hΓ fun K' hK=>?_
    simp only[go_sem,ah aJ,ai,aj,bq]
    repeat (refine⟨ak,?_⟩)
    refine hK _ ?_
    clear K' hK
    simp only[go_sem]
    refine⟨i+1,⟨aJ,?_⟩,by(show l.ts.length-(i+1)<l.ts.length-i;omega),?_⟩
    ·intro j hj dw
     rcases Nat.lt_succ_iff_lt_or_eq.1 dw with h5 | rfl
     ·exact hR j hj h5
     ·exact hb
    refine bd [1,2,6] [[2,0]] ?_ ?_<;>simp only[go_sem,aV aJ gg,aY]
  ·have gz:i=l.ts.length:=by
    have :¬ (i:Int)<l.ts.length:=by simpa using hb
    omega
   clear hb
   subst gz
   have f2:=DF (p:=fun r:Ret=>r.so==so) hR
   repeat refine sq ?_
   refine bC ?_
   simp only[go_sem]
   refine kp [1,2] [[2,0]] ?_
   repeat refine sq ?_
   refine rx hΓ [1,2,7] [[2,0]] (fun K' hK=>by simp only[go_sem];exact an) ?_
   repeat refine sq ?_
   refine aI ?_
   repeat refine sq ?_
   refine bT (fun s:Nat=>[(7,⟨true,.v (vInt s)⟩)]) (fun s=>[]) (fun s=>s<=l.ss.length/\∀ j (hj:j<l.ss.length),j<s->(l.ss[j].so==so)=false) (fun s=>l.ss.length-s) 0 ?_ ?_ ?_ ?_
   ·exact⟨Nat.zero_le _,fun j _ h=>by omega⟩
   ·rfl
   ·rfl
   rintro i ⟨hi,hR⟩
   simp only[go_sem]
   repeat refine sq ?_
   refine rx hΓ [1,2,7,54] [[2,0]] (fun K' hK=>by simp only[go_sem];exact an) ?_
   repeat refine sq ?_
   refine ax (fun hb=>?_) fun hb=>?_
   ·have ct:i<l.ss.length:=by simpa using hb
    have gP:(i:Int)<l.ss.length:=by omega
    clear hb
    repeat refine sq ?_
    refine aC ?_
    repeat refine sq ?_
    refine aI ?_
    repeat refine sq ?_
    refine rx hΓ [1,2,7,64] [[2,0]] (fun K' hK=>by simp only[go_sem,ah ct,ai,aj,gP];exact an) ?_
    repeat refine sq ?_
    refine ax (fun hb=>?_) fun hb=>?_
    ·repeat refine sq ?_
     have e:kg l so=l.ss[i].kn:=by unfold kg;rw[f1];simp only[];rw[f2];simp only[];rw[DG (p:=fun r:Sig=>r.so==so) ct hb hR]
     repeat refine sq ?_
     refine rx hΓ [4] [] (fun K' hK=>by simp only[go_sem,ah ct,ai,aj,gP];exact an) ?_
     refine av ?_
     simp only[go_sem]
     first | (rw[e];done) | trace_state
    ·repeat refine sq ?_
     refine aC ?_
     refine bA ?_
     simp only[go_sem]
     refine kp [1,2,7] [[2,0]] ?_
     repeat refine sq ?_
     refine aS hΓ fun K' hK=>?_
     simp only[go_sem,ah ct,ai,aj,gP]
     repeat (refine⟨ak,?_⟩)
     refine hK _ ?_
     clear K' hK
     simp only[go_sem]
     refine⟨i+1,⟨ct,?_⟩,by(show l.ss.length-(i+1)<l.ss.length-i;omega),?_⟩
     ·intro j hj dw
      rcases Nat.lt_succ_iff_lt_or_eq.1 dw with h5 | rfl
      ·exact hR j hj h5
      ·exact hb
     refine bd [1,2,7] [[2,0]] ?_ ?_<;>simp only[go_sem,aV ct tz,aY]
   ·have mA:i=l.ss.length:=by
     have :¬ (i:Int)<l.ss.length:=by simpa using hb
     omega
    clear hb
    subst mA
    have f3:=DF (p:=fun r:Sig=>r.so==so) hR
    have e:kg l so=0:=by unfold kg;rw[f1];simp only[];rw[f2];simp only[];rw[f3]
    repeat refine sq ?_
    refine bC ?_
    simp only[go_sem]
    refine kp [] [] ?_
    repeat refine sq ?_
    refine rx hΓ [4] [] (fun K' hK=>by simp only[go_sem];exact an) ?_
    refine av ?_
    simp only[go_sem]
    first | (rw[e];done) | trace_state
end
def kG(so:Int)(t:Ret):Bool:=t.so != so
def eC(l:Led)(so:Int)(i:Nat):Nat:=((l.ts.take i).filter (kG so)).length
theorem QN{l:Led}{so:Int}{i:Nat}(h:i<l.ts.length)(hk:kG so (aN l i)=false):eC l so (i+1)=eC l so i:=by
 rw[lf h]at hk
 unfold eC
 rw[List.take_add_one,List.getElem?_eq_getElem h,List.filter_append]
 simp[hk]
theorem xD{l:Led}{so:Int}{i:Nat}(h:i<l.ts.length)(hk:kG so (aN l i)=true):eC l so (i+1)=eC l so i+1/\eC l so i<(aK l so).ts.length/\aN (aK l so) (eC l so i)=aN l i:=by
 rw[lf h]at hk |-
 have e1:(aK l so).ts=(l.ts.take i).filter (kG so)++(l.ts[i]::(l.ts.drop (i+1)).filter (kG so)):=by
  show l.ts.filter (kG so)=_
  conv=>lhs;rw[<-List.take_append_drop i l.ts,List.drop_eq_getElem_cons h]
  rw[List.filter_append,List.filter_cons,if_pos hk]
 refine⟨?_,?_,?_⟩
 ·unfold eC
  rw[List.take_add_one,List.getElem?_eq_getElem h,List.filter_append]
  simp[hk]
 ·rw[e1];unfold eC;simp
 ·unfold aN
  have e2:eC l so i=((l.ts.take i).filter (kG so)).length:=rfl
  rw[e1,List.getD_eq_getElem?_getD,e2,List.getElem?_append_right (Nat.le_refl _),Nat.sub_self]
  rfl
theorem GF{l:Led}{so:Int}{i j:Nat}(h:i<=j):eC l so i<=eC l so j:=by
 unfold eC
 have e:l.ts.take i=(l.ts.take j).take i:=by rw[List.take_take];congr 1;omega
 rw[e]
 exact((List.take_sublist _ _).filter _).length_le
theorem Bg(l:Led)(so:Int):eC l so l.ts.length=(aK l so).ts.length:=by
 unfold eC
 rw[List.take_length];rfl
def fq(l:Led)(so:Int)(j:Int):Int:=(eC l so j.toNat:Int)
structure fX (l:Led) (so k:Int):Prop where
 rs:∀ r∈l.rs,r.so=so->di r.kn r.un k=false
 ts:∀ t∈l.ts,t.so=so->di t.kn t.un k=false
 ss:∀ s∈l.ss,s.so=so->di s.kn s.un k=false
theorem Lh{α:Type}{f:α->Int}{c:α->Bool}{so:Int}{l:List α}(h:∀ x∈l,f x=so->c x=false):(l.filter fun x=>f x != so).filter c=l.filter c:=by
 rw[List.filter_filter]
 refine List.filter_congr fun x hx=>?_
 by_cases he:f x=so
 ·rw[h x hx he,Bool.false_and]
 ·have:(f x != so)=true:=by rw[bne_iff_ne];exact he
  rw[this,Bool.and_true]
theorem AF{l:Led}{so k:Int}(h:fX l so k):bM (aK l so) k=bM l k:=Lh h.rs
theorem Ff{l:Led}{so k:Int}(h:fX l so k):gJ (aK l so) k=gJ l k:=Lh h.ss
structure M0 (l:Led) (so k:Int) (i:Nat):Prop where
 ts:(ay (aK l so) k (eC l so i)).ts=(ay l k i).ts.map (fq l so)
 bk:∀ q,bH (ay (aK l so) k (eC l so i)).bk q=(bH (ay l k i).bk q).map (fq l so)
 ds:∀ j∈(ay l k i).ts,cv (ay (aK l so) k (eC l so i)).ds (fq l so j)=cv (ay l k i).ds j
 kp:∀ j∈(ay l k i).ts,0<=j/\j<i/\kG so (aN l j.toNat)=true
theorem FL{l:Led}{so:Int}{a b:Int}(ha:0<=a)(hb:0<=b)(hal:a<l.ts.length)(tL:b<l.ts.length)(ka:kG so (aN l a.toNat)=true)(kb:kG so (aN l b.toNat)=true)(aB:a≠b):fq l so a≠fq l so b:=by
 unfold fq
 have h1:=(xD (show a.toNat<l.ts.length by omega) ka).1
 have h2:=(xD (show b.toNat<l.ts.length by omega) kb).1
 rcases(show a.toNat<b.toNat\/b.toNat<a.toNat by omega)with h | h
 ·have:=GF (l:=l) (so:=so) (show a.toNat+1<=b.toNat by omega);omega
 ·have:=GF (l:=l) (so:=so) (show b.toNat+1<=a.toNat by omega);omega
theorem Rs{k:Int}{rs:List Rec}{b b':Bk}(x:Ret)(h:∀ q,(bH b' q).isSome=(bH b q).isSome):eV k rs b' x=eV k rs b x:=by
 unfold eV
 cases dP rs x.re with
 |none=>rfl
 |some r=>simp only[h]
theorem FH{l:Led}{so k:Int}(hu:fX l so k):∀ i,i<=l.ts.length->M0 l so k i
 | 0,_=>by
   have e:eC l so 0=0:=rfl
   refine⟨by rw[e];rfl,fun q=>by rw[e];rfl,fun j h=>(nomatch h),fun j h=>(nomatch h)⟩
 |i+1,hi=>by
  have ih:=FH hu i (by omega)
  have oF:i<l.ts.length:=by omega
  cases hk:kG so (aN l i)with
  |false=>
   have hp:=QN oF hk
   have vv:(aN l i).so=so:=by
    unfold kG at hk
    simpa using hk
   have hc:di (aN l i).kn (aN l i).un k=false:=by
    rw[lf oF]at vv |-
    exact hu.ts _ (List.getElem_mem oF) vv
   have hn:eV k (bM l k) (ay l k i).bk (aN l i)=none:=by
    unfold eV
    cases dP (bM l k) (aN l i).re with
    |none=>rfl
    |some r=>simp[hc]
   have e:=pB hn
   exact⟨by rw[e,hp];exact ih.ts,by rw[e,hp];exact ih.bk,by rw[e,hp];exact ih.ds,fun j hj=>by rw[e]at hj;have:=ih.kp j hj;exact⟨this.1,by omega,this.2.2⟩⟩
  |true=>
   obtain⟨hp,mr,JZ⟩:=xD oF hk
   have yK:eV k (bM (aK l so) k) (ay (aK l so) k (eC l so i)).bk (aN (aK l so) (eC l so i))=eV k (bM l k) (ay l k i).bk (aN l i):=by
    rw[AF hu,JZ]
    exact Rs _ fun q=>by rw[ih.bk q];cases bH (ay l k i).bk q<;>rfl
   cases hn:eV k (bM l k) (ay l k i).bk (aN l i)with
   |none=>
    rw[hn]at yK
    have e:=pB hn
    have e':=pB yK
    rw[<-hp]at e'
    exact⟨by rw[e,e'];exact ih.ts,by rw[e,e'];exact ih.bk,by rw[e,e'];exact ih.ds,fun j hj=>by rw[e]at hj;have:=ih.kp j hj;exact⟨this.1,by omega,this.2.2⟩⟩
   |some r=>
    rw[hn]at yK
    have e:=u3 hn
    have e':=u3 yK
    rw[<-hp,JZ]at e'
    have pJ:fq l so (i:Int)=(eC l so i:Int):=by unfold fq;rw[Int.toNat_natCast]
    refine⟨?_,?_,?_,?_⟩
    ·rw[e,e']
     show (ay (aK l so) k (eC l so i)).ts++[(eC l so i:Int)]=((ay l k i).ts++[(i:Int)]).map (fq l so)
     rw[List.map_append,ih.ts,List.map_cons,List.map_nil,pJ]
    ·rintro⟨s,f⟩
     rw[e,e']
     simp only[zN]
     by_cases hc:s=r.so/\f∈(aN l i).lv
     ·rw[if_pos hc,if_pos hc]
      show _=some (fq l so (i:Int))
      rw[pJ]
     ·rw[if_neg hc,if_neg hc];exact ih.bk _
    ·intro j hj
     rw[e]at hj |-
     rw[e']
     show cv (kR (ay (aK l so) k (eC l so i)).ds (eC l so i:Int) _) (fq l so j)=cv (kR (ay l k i).ds (i:Int) _) j
     rw[rR,rR]
     by_cases dw:(i:Int)=j
     ·subst dw
      rw[if_pos pJ.symm,if_pos rfl]
     ·have dL:j∈(ay l k i).ts:=by
        rcases List.mem_append.1 hj with h | h
        ·exact h
        ·simp only[List.mem_singleton]at h;exact(dw h.symm).elim
      obtain⟨k1,k2,k3⟩:=ih.kp j dL
      have aB:=FL (l:=l) (so:=so) (a:=(i:Int)) (b:=j) (by omega) k1 (by omega) (by omega) (by rw[Int.toNat_natCast];exact hk) k3 dw
      rw[pJ]at aB
      rw[if_neg aB,if_neg dw]
      exact ih.ds j dL
    ·intro j hj
     rw[e]at hj
     rcases List.mem_append.1 hj with h | h
     ·have:=ih.kp j h;exact⟨this.1,by omega,this.2.2⟩
     ·simp only[List.mem_singleton]at h
      subst h
      exact⟨by omega,by omega,by rw[Int.toNat_natCast];exact hk⟩
theorem xm{l:Led}{so k:Int}(hu:fX l so k):M0 l so k l.ts.length:=FH hu _ (Nat.le_refl _)
theorem SC{l:Led}{so k:Int}(hu:fX l so k):(aE (aK l so) k).ts=(aE l k).ts.map (fq l so):=by
 have :=(xm hu).ts
 rw[Bg]at this
 exact this
theorem BM{l:Led}{so k:Int}(hu:fX l so k)(q:Int×Int):bH (aE (aK l so) k).bk q=(bH (aE l k).bk q).map (fq l so):=by
 have :=(xm hu).bk q
 rw[Bg]at this
 exact this
theorem uX{l:Led}{so k:Int}(hu:fX l so k):∀ j∈(aE l k).ts,0<=j/\j<l.ts.length/\kG so (aN l j.toNat)=true:=(xm hu).kp
theorem Hr{l:Led}{so k:Int}(hu:fX l so k){j:Int}(hj:j∈(aE l k).ts):aN (aK l so) (fq l so j).toNat=aN l j.toNat:=by
 obtain⟨h0,h1,h2⟩:=uX hu j hj
 unfold fq
 rw[Int.toNat_natCast]
 exact(xD (by omega) h2).2.2
theorem Ho{l:Led}{so k:Int}(hu:fX l so k){a b:Int}(ha:a∈(aE l k).ts)(hb:b∈(aE l k).ts):fq l so a=fq l so b↔a=b:=by
 refine⟨fun h=>?_,fun h=>by rw[h]⟩
 by_cases aB:a=b
 ·exact aB
 ·obtain⟨a0,a1,a2⟩:=uX hu a ha
  obtain⟨b0,b1,b2⟩:=uX hu b hb
  exact(FL a0 b0 a1 b1 a2 b2 aB h).elim
theorem BL{l:Led}{so k:Int}{q:Int×Int}{i:Int}(h:bH (aE l k).bk q=some i):i∈(aE l k).ts:=by
 obtain⟨s,f⟩:=q
 obtain⟨j,rfl,h1,-⟩:=(xe l k).bk1 _ _ _ h
 exact((xe l k).ts j).1 h1
def wU(l:Led)(so k:Int)(D' D:Ds):Prop:=∀ j∈(aE l k).ts,cv D' (fq l so j)=cv D j
theorem Hq{l:Led}{so k:Int}(hu:fX l so k):wU l so k (aE (aK l so) k).ds (aE l k).ds:=by
 intro j hj
 have hi:=xe l k
 have bE:=xe (aK l so) k
 have hs:=xm hu
 have dL:j∈(ay l k l.ts.length).ts:=hj
 have nl:=hs.ts
 have kP:=hs.ds j dL
 rw[Bg]at nl kP
 have hm:fq l so j∈(ay (aK l so) k (aK l so).ts.length).ts:=by rw[nl];exact List.mem_map_of_mem dL
 show cv (gN (aK l so) (bM (aK l so) k) (ay (aK l so) k (aK l so).ts.length).ts (ay (aK l so) k (aK l so).ts.length).ds (ay (aK l so) k (aK l so).ts.length).ts.length) (fq l so j)=cv (gN l (bM l k) (ay l k l.ts.length).ts (ay l k l.ts.length).ds (ay l k l.ts.length).ts.length) j
 rw[BU _ _ _ _ bE.tn _ (Nat.le_refl _),BU _ _ _ _ hi.tn _ (Nat.le_refl _),List.take_length,List.take_length,if_pos hm,if_pos dL,kP,AF hu,Hr hu hj]
theorem SG{l:Led}{so k:Int}(hu:fX l so k)(a b:Rec):kT (aE (aK l so) k) a b=kT (aE l k) a b:=by
 have hA:∀ a b:Rec,rY (aE (aK l so) k) a b=rY (aE l k) a b:=fun a b=>by
  unfold rY
  congr 1
  funext f
  congr 2
  rw[BM hu]
  cases hb:bH (aE l k).bk (a.so,f)with
  |none=>rfl
  |some i=>
   simp only[Option.map_some]
   rw[ta,ta,Hr hu (BL (so:=so) hb)]
 unfold kT
 rw[hA,hA]
theorem yb{l:Led}{so k:Int}(hu:fX l so k):(aE (aK l so) k).rs=(aE l k).rs:=by rw[Hu,Hu,AF hu]
theorem SD{l:Led}{so k:Int}(hu:fX l so k):fP (aE (aK l so) k)=fP (aE l k):=by
 unfold fP
 rw[yb hu]
 congr 1
 funext i
 unfold mb
 rw[yb hu]
 congr 2
 funext b
 exact SG hu _ _
theorem Hn{l:Led}{so k:Int}(hu:fX l so k)(s:Sig):(bB (aE (aK l so) k) s).2=(bB (aE l k) s).2/\
 (((bB (aE l k) s).1= -1/\(bB (aE (aK l so) k) s).1= -1)\/((bB (aE l k) s).1∈(aE l k).ts/\(bB (aE (aK l so) k) s).1=fq l so (bB (aE l k) s).1)):=by
 unfold bB
 rw[yb hu]
 cases iA (aE l k).rs s.pa s.le s.da with
 |none=>by_cases h:s.pe=0<;>simp[h]
 |some r=>
  simp only[BM hu]
  cases hb:bH (aE l k).bk (r.so,s.le)with
  |none=>by_cases h:s.pe=r.bo<;>simp[h]
  |some i=>
   have hm:=BL (so:=so) hb
   simp only[Option.map_some]
   by_cases h:s.pe=0
   ·rw[if_pos h,if_pos h];exact⟨rfl,.inr ⟨hm,rfl⟩⟩
   ·rw[if_neg h,if_neg h]
    by_cases h2:s.pe=r.bo
    ·rw[if_pos h2,if_pos h2];exact⟨rfl,.inr ⟨hm,rfl⟩⟩
    ·rw[if_neg h2,if_neg h2];exact⟨rfl,.inl ⟨rfl,rfl⟩⟩
theorem FK(l:Led)(so j:Int):0<=fq l so j:=by unfold fq;omega
theorem Hp{l:Led}{so k:Int}(hu:fX l so k)(ss:List Sig):∀ D' D:Ds,wU l so k D' D->wU l so k (fj (aE (aK l so) k) D' ss) (fj (aE l k) D ss):=by
 induction ss with
 |nil=>exact fun D' D h=>h
 |cons s r ih=>
  intro D' D h
  show wU l so k (fj _ (rJ (aE (aK l so) k) D' s) r) (fj _ (rJ (aE l k) D s) r)
  refine ih _ _ ?_
  obtain⟨h2,h1⟩:=Hn hu s
  unfold rJ
  rw[h2]
  rcases h1 with⟨a,b⟩ | ⟨a,b⟩
  ·rw[a,b];exact h
  ·have a0:=(uX hu _ a).1
   rw[if_pos (by rw[b];exact FK _ _ _),if_pos a0]
   intro j hj
   unfold oc
   rw[rR,rR,b,h _ a]
   by_cases hc:(bB (aE l k) s).1=j
   ·rw[if_pos ((Ho hu a hj).2 hc),if_pos hc]
   ·rw[if_neg (fun e=>hc ((Ho hu a hj).1 e)),if_neg hc]
    exact h j hj
theorem SE{l:Led}{so k:Int}(hu:fX l so k)(s:Sig):gM (aE (aK l so) k) s=gM (aE l k) s:=by
 obtain⟨h2,h1⟩:=Hn hu s
 unfold gM
 rw[h2]
 rcases h1 with⟨a,b⟩ | ⟨a,b⟩
 ·rw[a,b]
 ·have a0:=(uX hu _ a).1
  have b0:=FK l so (bB (aE l k) s).1
  have e1:decide ((bB (aE (aK l so) k) s).1>=0)=true:=by rw[b,decide_eq_true_eq];exact b0
  have e2:decide ((bB (aE l k) s).1>=0)=true:=by rw[decide_eq_true_eq];exact a0
  rw[e1,e2]
theorem SF{l:Led}{so k:Int}(hu:fX l so k)(ss:List Sig):iq (aE (aK l so) k) ss=iq (aE l k) ss:=by
 unfold iq
 have e1:ss.all (gM (aE (aK l so) k))=ss.all (gM (aE l k)):=by congr 1;funext s;exact SE hu s
 have hd:=Hp hu ss _ _ (Hq hu)
 have e2:wh (aE (aK l so) k).ts (fj (aE (aK l so) k) (aE (aK l so) k).ds ss)=wh (aE l k).ts (fj (aE l k) (aE l k).ds ss):=by
  unfold wh
  rw[SC hu,List.all_map,Bool.eq_iff_iff,List.all_eq_true,List.all_eq_true]
  constructor
  ·intro h j hj
   have :=h j hj
   simp only[Function.comp_apply]at this
   rw[hd j hj]at this
   exact this
  ·intro h j hj
   simp only[Function.comp_apply]
   rw[hd j hj]
   exact h j hj
 rw[e1,e2]
theorem NZ{l:Led}{so k:Int}(hu:fX l so k):eS (aK l so) k=eS l k:=by
 unfold eS
 rw[SD hu,ta,ta,Ff hu,SF hu]
theorem NY{l:Led}{so k:Int}(hu:fX l so k)(pa le day:Int):o6 (cw (aE (aK l so) k) k) pa le day=o6 (cw (aE l k) k) pa le day:=by
 unfold o6
 have e1:(cw (aE (aK l so) k) k).rs=(aE l k).rs:=yb hu
 have e2:(cw (aE l k) k).rs=(aE l k).rs:=rfl
 have e3:(cw (aE (aK l so) k) k).bk=(aE (aK l so) k).bk:=rfl
 have e4:(cw (aE l k) k).bk=(aE l k).bk:=rfl
 have hd:wU l so k (cw (aE (aK l so) k) k).ds (cw (aE l k) k).ds:=by
  unfold cw
  rw[ta,ta,Ff hu]
  exact Hp hu _ _ _ (Hq hu)
 rw[e1,e2,e3,e4]
 cases iA (aE l k).rs pa le day with
 |none=>rfl
 |some r=>
  simp only[BM hu]
  cases hb:bH (aE l k).bk (r.so,le)with
  |none=>rfl
  |some i=>
   simp only[Option.map_some]
   rw[hd i (BL (so:=so) hb)]
theorem Sl{l:Led}{so k:Int}(hu:fX l so k)(day:Int)(f:Fol):gL l so day k f=false:=by
 unfold gL
 rw[NZ hu]
 by_cases h:eS l k=0
 ·rw[if_pos ⟨h,h⟩]
  unfold hG
  rw[NY hu]
  simp
 ·rw[if_neg (fun hh=>h hh.1)]
  unfold fb
  simp
theorem DJ{α:Type}(f:α->Int)(so:Int)(l:List α):(l.filter fun x=>f x != so).length<l.length↔(l.any fun x=>f x==so)=true:=by
 induction l with
 |nil=>simp
 |cons a r ih=>
  have hle:=List.length_filter_le (fun x=>f x != so) r
  by_cases h:f a=so
  ·have h1:(f a != so)=false:=by rw[h];simp
   have h2:(f a==so)=true:=by rw[h];simp
   rw[List.filter_cons,if_neg (by rw[h1];decide),List.any_cons,h2,Bool.true_or]
   simp;omega
  ·have h1:(f a != so)=true:=by rw[bne_iff_ne];exact h
   have h2:(f a==so)=false:=by rw[beq_eq_false_iff_ne];exact h
   rw[List.filter_cons,if_pos h1,List.any_cons,h2,Bool.false_or,<-ih]
   simp
theorem Ky(l:Led)(so:Int):((aK l so).rs.length+(aK l so).ts.length+(aK l so).ss.length<l.rs.length+l.ts.length+l.ss.length)↔hasB l so=true:=by
 have h1:=DJ Rec.so so l.rs
 have h2:=DJ Ret.so so l.ts
 have h3:=DJ Sig.so so l.ss
 have g1:=List.length_filter_le (fun r:Rec=>r.so != so) l.rs
 have g2:=List.length_filter_le (fun r:Ret=>r.so != so) l.ts
 have g3:=List.length_filter_le (fun r:Sig=>r.so != so) l.ss
 unfold hasB
 rw[Bool.or_eq_true,Bool.or_eq_true,<-h1,<-h2,<-h3]
 show (l.rs.filter fun r=>r.so != so).length+(l.ts.filter fun r=>r.so != so).length+(l.ss.filter fun r=>r.so != so).length<_↔_
 omega
theorem XF{l:Led}(h:bS l){f:Fol}(hf:f∈cl l):b7 f.le 1 (dC l.ps f.pa)=true:=by
 unfold cl at hf
 obtain⟨p,hp,hf⟩:=List.mem_flatMap.1 hf
 unfold pf at hf
 obtain⟨j,hj,rfl⟩:=List.mem_map.1 hf
 have dL:=List.mem_range.1 hj
 obtain⟨i,hi,rfl⟩:=List.getElem_of_mem hp
 have hs:Go.Eng.srt Pap.id l.ps:=h.srt
 have :dC l.ps (l.ps[i]).id=(l.ps[i]).lv:=BN hi rfl fun k hk cS e=>by have:=hs k i hk hi cS;omega
 show b7 ((j+1:Nat):Int) 1 (dC l.ps (l.ps[i]).id)=true
 rw[this]
 unfold b7
 simp only[Bool.and_eq_true,decide_eq_true_eq]
 omega
theorem Sk{l:Led}{so day k:Int}(hd:gn l [day,k]=0){f:Fol}(hf:f∈cl l)(hh:hasB l so=true):
 (!decide (uy l f day k=uy (aK l so) f day k)||(jI l f day k != jI (aK l so) f day k))=(lx l so day k).contains f:=by
 have aa:=(zz hd).1
 have fU:=Ay aa so
 have ny:gn (aK l so) [day,k]=0:=by
  have :=(zz hd).2
  rw[<-MG]at hd |-
  unfold Ac at hd |-
  rw[if_neg (by rw[uP.2 fU];decide)]
  rw[if_neg (by rw[uP.2 aa];decide)]at hd
  exact hd
 have hi:=XF aa hf
 have e1:jI l f day k=eS l k:=by unfold jI;rw[if_pos hd,if_pos hi]
 have e2:jI (aK l so) f day k=eS (aK l so) k:=by unfold jI;rw[if_pos ny,if_pos (show b7 f.le 1 (dC (aK l so).ps f.pa)=true from hi)]
 have e3:jO l so day k=0:=by unfold jO;rw[if_pos hd,if_pos hh]
 have e4:(lx l so day k).contains f=gL l so day k f:=by
  unfold lx
  rw[if_pos e3]
  cases hp:gL l so day k f with
  |true=>rw[List.contains_iff_mem.2 (List.mem_filter.2 ⟨hf,hp⟩)]
  |false=>
   rw[Bool.eq_false_iff]
   intro h
   rw[(List.mem_filter.1 (List.contains_iff_mem.1 h)).2]at hp
   cases hp
 rw[e4,e1,e2]
 unfold uy
 rw[e1,e2]
 by_cases hz:eS l k=0/\eS (aK l so) k=0
 ·have hm:gL l so day k f=hG (cw (aE l k) k) (cw (aE (aK l so) k) k) day f:=by unfold gL;rw[if_pos hz]
  rw[hm,if_pos hz.1,if_pos hz.2]
  have aB:(eS l k != eS (aK l so) k)=false:=by rw[hz.1,hz.2];rfl
  rw[aB,Bool.or_false];rfl
 ·have hm:gL l so day k f=fb (eS l k) (eS (aK l so) k) f:=by unfold gL;rw[if_neg hz]
  rw[hm]
  unfold fb
  cases aB:(eS l k != eS (aK l so) k)with
  |true=>rw[Bool.or_true]
  |false=>
   have he:eS l k=eS (aK l so) k:=by simpa using aB
   have h1:¬ eS l k=0:=fun h=>hz ⟨h,by rw[<-he];exact h⟩
   rw[if_neg h1,if_neg (by rw[<-he];exact h1)]
   simp
theorem Yr{l:Led}(aa:bS l){so k:Int}(hh:hasB l so=true)(hc:k<kg l so):fX l so k:=by
 have bR:=aa.nd
 unfold sA at bR
 rw[List.nodup_append,List.nodup_append]at bR
 obtain⟨⟨n1,n2,d12⟩,n3,d3⟩:=bR
 have Ec:∀ kn un:Int,k<kn->di kn un k=false:=fun kn un h=>by
  unfold di
  rw[decide_eq_false (by omega)];rfl
 have inj:∀ {α:Type} (f:α->Int) (L:List α),(L.map f).Nodup->∀ x∈L,∀ y∈L,f x=f y->x=y:=fun f L hn x hx y hy e=>by
  obtain⟨i,hi,rfl⟩:=List.getElem_of_mem hx
  obtain⟨j,hj,rfl⟩:=List.getElem_of_mem hy
  have bE:i<(L.map f).length:=by simpa using hi
  have dL:j<(L.map f).length:=by simpa using hj
  have :i=j:=(List.getElem_inj hn (h₀:=bE) (h₁:=dL)).1 (by simpa using e)
  subst this;rfl
 have oH:kg l so=match l.rs.find? (fun r=>r.so==so)with
  |some r=>r.kn
  |none=>match l.ts.find? (fun r=>r.so==so)with
   |some t=>t.kn
   |none=>match l.ss.find? (fun r=>r.so==so)with
    |some s=>s.kn
    |none=>0:=rfl
 cases hr:l.rs.find? (fun r=>r.so==so)with
 |some r=>
  have hm:=List.mem_of_find?_eq_some hr
  have he:r.so=so:=by simpa using List.find?_some hr
  rw[oH,hr]at hc
  have fz:k<r.kn:=hc
  refine⟨fun x hx e=>?_,fun t ht e=>?_,fun s hs e=>?_⟩
  ·rw[inj Rec.so l.rs n1 x hx r hm (e.trans he.symm)];exact Ec _ _ fz
  ·exact(d12 _ (List.mem_map_of_mem hm) _ (List.mem_map_of_mem ht) (he.trans e.symm)).elim
  ·exact(d3 _ (List.mem_append_left _ (List.mem_map_of_mem hm)) _ (List.mem_map_of_mem hs) (he.trans e.symm)).elim
 |none=>
  have nr:∀ x∈l.rs,x.so≠so:=fun x hx e=>by
   have :=List.find?_eq_none.1 hr x hx
   simp[e]at this
  cases ht:l.ts.find? (fun r=>r.so==so)with
  |some t=>
   have hm:=List.mem_of_find?_eq_some ht
   have he:t.so=so:=by simpa using List.find?_some ht
   rw[oH,hr]at hc
   simp only[ht]at hc
   have fz:k<t.kn:=hc
   refine⟨fun x hx e=>(nr x hx e).elim,fun x hx e=>?_,fun s hs e=>?_⟩
   ·rw[inj Ret.so l.ts n2 x hx t hm (e.trans he.symm)];exact Ec _ _ fz
   ·exact(d3 _ (List.mem_append_right _ (List.mem_map_of_mem hm)) _ (List.mem_map_of_mem hs) (he.trans e.symm)).elim
  |none=>
   have nt:∀ x∈l.ts,x.so≠so:=fun x hx e=>by
    have :=List.find?_eq_none.1 ht x hx
    simp[e]at this
   cases hs:l.ss.find? (fun r=>r.so==so)with
   |some s=>
    have hm:=List.mem_of_find?_eq_some hs
    have he:s.so=so:=by simpa using List.find?_some hs
    rw[oH,hr]at hc
    simp only[ht,hs]at hc
    have fz:k<s.kn:=hc
    exact⟨fun x hx e=>(nr x hx e).elim,fun x hx e=>(nt x hx e).elim,fun x hx e=>by rw[inj Sig.so l.ss n3 x hx s hm (e.trans he.symm)];exact Ec _ _ fz⟩
   |none=>
    have ns:∀ x∈l.ss,x.so≠so:=fun x hx e=>by
     have :=List.find?_eq_none.1 hs x hx
     simp[e]at this
    exact⟨fun x hx e=>(nr x hx e).elim,fun x hx e=>(nt x hx e).elim,fun x hx e=>(ns x hx e).elim⟩
theorem Sj{l:Led}{so day k:Int}(aa:bS l)(hh:hasB l so=true)(hc:¬ kg l so<=k):lx l so day k=[]:=by
 have hu:=Yr aa hh (show k<kg l so by omega)
 unfold lx
 split
 ·rw[List.filter_eq_nil_iff]
  intro f _
  rw[Sl hu];decide
 ·rfl
noncomputable section
def Hw(f:FuncId):Option SpecB:=
 match Nat.beq f 132 with
 |true=>some (zE Tryz.prog 29)
 |false=>match Nat.beq f 176 with
  |true=>some (zE Tryz.prog 26)
  |false=>match Nat.beq f 177 with
   |true=>some (zE Tryz.prog 27)
   |false=>match Nat.beq f 178 with
    |true=>some (zE Tryz.prog 28)
    |false=>match Nat.beq f 179 with
     |true=>some Yw
     |false=>none
def B8(_:FuncId->Option SpecB)(f:FuncId):Option SpecB:=Hw f
theorem Yy:aT Tryz.prog 179 pCloneI:=L3 L4 rfl
theorem TQ:∀ Γ:FuncId->Option SpecB,(∀ f s,bm Γ f=some s->aF Tryz.prog f s)->∀ f s,B8 Γ f=some s->aF Tryz.prog f s.spec:=by
 intro Γ _ f s h
 unfold B8 Hw at h
 split at h
 ·rename_i hb;have:=Nat.eq_of_beq_eq_true hb;subst this;cases h;exact t' L8
 ·split at h
  ·rename_i hb;have:=Nat.eq_of_beq_eq_true hb;subst this;cases h;exact t' L7
  ·split at h
   ·rename_i hb;have:=Nat.eq_of_beq_eq_true hb;subst this;cases h;exact t' L6
   ·split at h
    ·rename_i hb;have:=Nat.eq_of_beq_eq_true hb;subst this;cases h;exact t' L5
    ·split at h
     ·rename_i hb;have:=Nat.eq_of_beq_eq_true hb;subst this;cases h;exact Yy.sound
     ·cases h
def HX(F:List Nat)(T:List Ent):FuncId->Option SpecB:=ΓB Tryz.prog (Ek Tryz.prog B8 100000 F T) 100000 24
theorem TN{F:List Nat}{T:List Ent}(hT:∀ e∈T,aX Tryz.prog e):∀ f s,bm (HX F T) f=some s->aF Tryz.prog f s:=
 E5 (YY (fun Γ h f s=>TQ Γ h f s) hT) 24
theorem cJ{F:List Nat}{T:List Ent}(hT:∀ e∈T,aX Tryz.prog e){e:Ent}(h:A3 Tryz.prog (HX F T) 100000 e=true):aX Tryz.prog e:=Ql (TN hT) h
theorem cP{P:Program}{e:Ent}{T:List Ent}(h:aX P e)(hT:∀ e∈T,aX P e):∀ x∈e::T,aX P x:=by
 intro x hx
 rcases List.mem_cons.1 hx with rfl | hx
 ·exact h
 ·exact hT x hx
def II:List Ent:=[]
theorem Jo:∀ e∈II,aX Tryz.prog e:=fun e h=>by cases h
end
end Go.Eng
