import Derived.Test.YtgbpdpdnlfdlfaaK1
import Derived.Laws.AppendOwn
import Derived.OrdersIn
import Derived.RangeFuncLeaves
import Derived.RangeFuncRecord
import Derived.RangeFuncNested
import Derived.Attr
/- Texts Eng10 to Eng16. -/
set_option linter.all false
namespace Go.Eng
open Go
def av(obj:Name->Option O)(x:D):Prop×List V:=
 match x with
 | .v (.sl l)=>(True,l)
 | .nilsl=>(True,[])
 | .msl nm k=>match obj nm with
   |some (.arr _ l)=>(k=l.length,l)
   |some (.farr _ l)=>(k=l.length,l)
   |_=>(False,[])
 |_=>(False,[])
theorem mU{v:Value}(h:dh v=true):v.oneCell'=true:=by cases v<;>simp_all[dh,Value.oneCell']
structure Reads (m:Mem) (w:World) (l:List V) (sz:Nat) (b:Option Addr) (cap:Nat) (c:Nat->Nat->Value):Prop where
 adg:l.length<=cap
 cell:l≠[]->∃ blk o,b=some ⟨blk,o,none⟩/\∀ i j,i<l.length->j<sz->w.cell? ⟨blk,o+i*sz+j,none⟩=some (c i j)
 rep:∀ i j (h:i<l.length) (h':j<l[i].cells.length),aw m l[i].cells[j] (c i j)
 one:∀ i j (_:i<l.length),j<sz->dh (c i j)=true
 oneV:∀ i (h:i<l.length),∀ y∈l[i].cells,y.one=true
theorem jv{α:Type}{l:List α}(h:l≠[]):0<l.length:=by cases l<;>simp_all
theorem ke{G:Ghost}{φ:Name->Loc}{m:Mem}{σ:S}{a:Act}{w:World}(hC:ay G φ m σ a w){x:D}{u:Value}(hx:al φ σ.obj m x u){sz:Nat}
 (aa:(av σ.obj x).1) (bB:∀ y∈(av σ.obj x).2,y.cells.length=sz):
 ∃ b cap c,u=.slice b (av σ.obj x).2.length cap/\Reads m w (av σ.obj x).2 sz b cap c:=by
 unfold av at aa bB |-
 split at aa
 ·rename_i l
  cases hx with
  |v _ _ hx=>
  cases hx with
  |slnil b cap=>exact⟨b,cap,fun _ _=>undef,rfl,Nat.zero_le _,fun h=>(h rfl).elim,fun i j h=>by simp at h,fun i j h=>by simp at h,fun i h=>by simp at h⟩
  |sl _ b o cap gx c hn hl fg hs hc hr ho=>
   have h0:0<l.length:=jv hn
   have :gx=sz:=by rw[<-hs 0 h0];exact bB _ (List.getElem_mem h0)
   subst this
   exact⟨some ⟨b,o,none⟩,cap,c,rfl,fg,fun _=>⟨b,o,rfl,fun i j hi hj=>hC.mem _ _ _ (hc i j hi hj)⟩,hr,
    fun i j hi hj=>(hr i j hi (by rw[hs];exact hj)).one (ho i hi _ (List.getElem_mem _)),ho⟩
 ·cases hx with
  |nilsl b=>exact⟨b,0,fun _ _=>undef,rfl,Nat.zero_le _,fun h=>(h rfl).elim,fun i j h=>by simp at h,fun i j h=>by simp at h,fun i h=>by simp at h⟩
 ·rename_i nm k
  cases hx with
  |msl _ _ _ hx hu=>
  obtain⟨o,n,aj,hlen,hk,br⟩:=hx
  split at aa
  ·rename_i s l bo
   rw[aj]at bo;cases bo
   simp only[aj]at bB |-
   simp only[O.len?,Option.some.injEq]at hlen
   subst hlen
   have e:=br aa
   subst e
   rcases hC.objs nm _ aj with⟨h,h'⟩ | ⟨g0,g1,g2,g3,g4,us,T,f,g5,g6,g7,g8⟩
   ·subst h'
    simp only[Loc.slice,h,if_true]
    exact⟨_,0,fun _ _=>undef,rfl,Nat.zero_le _,fun h=>(h rfl).elim,fun i j h=>by simp at h,fun i j h=>by simp at h,fun i h=>by simp at h⟩
   ·simp only[Loc.slice,g0,Bool.false_eq_true,if_false]
    rw[aa]
    have oS:l≠[]->s=sz:=fun ar=>by
     have h0:0<l.length:=jv ar
     rw[<-g3 0 h0];exact bB _ (List.getElem_mem h0)
    refine⟨_,_,fun i j=>(us[(φ nm).off+i*s+j]?).getD undef,rfl,g1,fun ar=>⟨_,_,rfl,fun i j hi hj=>?_⟩,fun i j hi hj=>?_,fun i j hi hj=>?_,g4⟩
    ·have hs:=oS ar
     obtain⟨c,x1,x2⟩:=g8 i j hi (by rw[g3,hs];exact hj)
     rw[gH g5,<-hs,x1];rfl
    ·obtain⟨c,x1,x2⟩:=g8 i j hi hj
     rw[x1];exact x2
    ·have hs:=oS (by intro e;rw[e]at hi;simp at hi)
     obtain⟨c,x1,x2⟩:=g8 i j hi (by rw[g3,hs];exact hj)
     rw[x1];exact x2.one (g4 i hi _ (List.getElem_mem _))
  ·rename_i s l bo
   rw[aj]at bo;cases bo
   simp only[aj]at bB |-
   simp only[O.len?,Option.some.injEq]at hlen
   subst hlen
   have e:=br aa
   subst e
   rcases hC.objs nm _ aj with⟨h,h'⟩ | ⟨g0,⟨g1,kO⟩,g2,g3,g4⟩
   ·subst h'
    simp only[Loc.slice,h,if_true]
    exact⟨_,0,fun _ _=>undef,rfl,Nat.zero_le _,fun h=>(h rfl).elim,fun i j h=>by simp at h,fun i j h=>by simp at h,fun i h=>by simp at h⟩
   ·simp only[Loc.slice,g0,Bool.false_eq_true,if_false]
    rw[aa]
    have oS:l≠[]->s=sz:=fun ar=>by
     have h0:0<l.length:=jv ar
     rw[<-g2 0 h0];exact bB _ (List.getElem_mem h0)
    refine⟨_,_,fun i j=>(m (φ nm).blk ((φ nm).off+i*s+j)).getD undef,rfl,g1,fun ar=>⟨_,_,rfl,fun i j hi hj=>?_⟩,fun i j hi hj=>?_,fun i j hi hj=>?_,g3⟩
    ·have hs:=oS ar
     obtain⟨c,x1,x2⟩:=g4 i j hi (by rw[g2,hs];exact hj)
     rw[<-hs,hC.mem _ _ _ x1,x1];rfl
    ·obtain⟨c,x1,x2⟩:=g4 i j hi hj
     rw[x1];exact x2
    ·have hs:=oS (by intro e;rw[e]at hi;simp at hi)
     obtain⟨c,x1,x2⟩:=g4 i j hi (by rw[g2,hs];exact hj)
     rw[x1];exact x2.one (g3 i hi _ (List.getElem_mem _))
  ·exact aa.elim
 ·exact aa.elim
def rowOf(c:Nat->Nat->Value)(n sz:Nat):List Value:=(List.range (n*sz)).map fun k=>c (k / sz) (k % sz)
theorem bS(c:Nat->Nat->Value)(n sz:Nat):(rowOf c n sz).length=n*sz:=by simp[rowOf]
theorem nP{k n sz:Nat}(h:k<n*sz):k / sz<n/\k % sz<sz:=by
 have h0:0<sz:=by
  rcases Nat.eq_zero_or_pos sz with h' | h'
  ·subst h';simp at h
  ·exact h'
 exact⟨Nat.div_lt_of_lt_mul (by rwa [Nat.mul_comm]),Nat.mod_lt _ h0⟩
theorem fq(c:Nat->Nat->Value){n sz i j:Nat}(hi:i<n)(hj:j<sz):(rowOf c n sz)[i*sz+j]?=some (c i j):=by
 have h1:i*sz+j<n*sz:=by
  have :(i+1)*sz<=n*sz:=Nat.mul_le_mul_right _ (by omega)
  rw[Nat.add_mul,Nat.one_mul]at this;omega
 have h2:(i*sz+j) / sz=i:=by
  rw[Nat.mul_comm,Nat.mul_add_div (by omega),Nat.div_eq_of_lt hj,Nat.add_zero]
 have h3:(i*sz+j) % sz=j:=by
  rw[Nat.mul_comm,Nat.mul_add_mod,Nat.mod_eq_of_lt hj]
 simp[rowOf,h1,h2,h3]
theorem lq{w:World}{c:Nat->Nat->Value}{n sz blk o:Nat}(h:∀ i j,i<n->j<sz->w.cell? ⟨blk,o+i*sz+j,none⟩=some (c i j)):
 ∀ j v,(rowOf c n sz)[j]?=some v->w.cell? ((⟨blk,o,none⟩:Addr).add j)=some v:=by
 intro j v hv
 have hj:j<n*sz:=by
  have :=(List.getElem?_eq_some_iff.1 hv).1
  rwa [bS]at this
 obtain⟨h1,h2⟩:=nP hj
 have e:j=j / sz*sz+j % sz:=by rw[Nat.mul_comm];exact(Nat.div_add_mod j sz).symm
 rw[e,fq c h1 h2]at hv
 cases hv
 rw[eP]
 have :=h _ _ h1 h2
 rw[Nat.add_assoc,<-e]at this
 exact this
theorem Reads.src{P:Program}{m:Mem}{w:World}{l:List V}{sz:Nat}{b:Option Addr}{cap:Nat}{c:Nat->Nat->Value}(r:Reads m w l sz b cap c){tx e':TypeId}(hk:P.underlying tx=some (.slice e')):
 Src P sz tx (.slice b l.length cap) l.length (rowOf c l.length sz) w:=by
 have ec:∀ v∈rowOf c l.length sz,v.oneCell'=true:=by
  intro v hv
  simp only[rowOf,List.mem_map,List.mem_range]at hv
  obtain⟨k,hk,rfl⟩:=hv
  obtain⟨h1,h2⟩:=nP hk
  exact mU (r.one _ _ h1 h2)
 by_cases hl:l=[]
 ·subst hl
  simp only[List.length_nil]
  have e0:rowOf c 0 sz=[]:=by simp[rowOf]
  rw[e0]
  cases b with
  |none=>exact Src.ofNil (w:=w) hk cap
  |some ad=>exact Src.ofSlice (w:=w) hk ad 0 cap [] (by simp) (by simp) (by simp)
 ·obtain⟨blk,o,hb,hc⟩:=r.cell hl
  rw[hb]
  exact Src.ofSlice (w:=w) hk ⟨blk,o,none⟩ l.length cap _ (bS _ _ _) (lq hc) ec
def bI(P:Program)(obj:Name->Option O)(t:Name)(T1 T2:TypeId)(s x:D):R:=
 match bg P T1,bg P T2 with
 |some (e,sz,by_),some _=>match aH P e with
  |some z=>match s with
   | .nilsl=>⟨(av obj x).1/\(∀ y∈(av obj x).2,y.cells.length=sz/\y.okc=true)/\z.cells.size=sz/\(av obj x).2.length*by_<=140737488355328/\(av obj x).2.length<=maxLen/\obj (aI t)=none,
       .msl (aI t) (av obj x).2.length,upd obj (aI t) (some (.arr sz (av obj x).2))⟩
   | .msl nm k=>match obj nm with
     |some (.arr s' l)=>⟨(av obj x).1/\(∀ y∈(av obj x).2,y.cells.length=sz/\y.okc=true)/\z.cells.size=sz/\(l.length+(av obj x).2.length)*by_<=140737488355328/\
        l.length+(av obj x).2.length<=maxLen/\k=l.length/\s'=sz,
        .msl nm (l.length+(av obj x).2.length),upd obj nm (some (.arr sz (l++(av obj x).2)))⟩
     |_=>.bad obj
   |_=>.bad obj
  |none=>.bad obj
 |_,_=>.bad obj
theorem xO{φ:Name->Loc}{obj:Name->Option O}{m:Mem}{w':World}{B cap sz:Nat}{T:TypeId}{l1 l2:List V}{us:Array Value}
 (hB:w'.heap[B]?=some (.cells us T (0,0))) (fg:l1.length+l2.length<=cap) (vT:cap<=maxLen) (fY:cap*sz<=us.size)
 (h1:∀ i (h:i<l1.length),l1[i].cells.length=sz) (cZ:∀ i (h:i<l1.length),∀ x∈l1[i].cells,x.one=true)
 (h2:∀ i (h:i<l2.length),l2[i].cells.length=sz) (rP:∀ i (h:i<l2.length),∀ x∈l2[i].cells,x.one=true)
 (r1:∀ i j (h:i<l1.length) (h':j<l1[i].cells.length),∃ c,us[i*sz+j]?=some c/\aw m l1[i].cells[j] c)
 (r2:∀ i j (h:i<l2.length) (h':j<l2[i].cells.length),∃ c,us[(l1.length+i)*sz+j]?=some c/\aw m l2[i].cells[j] c):
 dz φ obj m (.arr sz (l1++l2)) ⟨B,0,cap,false,none⟩ w':=by
 refine .inr ⟨rfl,by simpa using fg,vT,fun i hi=>?_,fun i hi=>?_,us,T,(0,0),hB,rfl,by simpa using fY,fun i j hi hj=>?_⟩
 ·by_cases h:i<l1.length
  ·rw[List.getElem_append_left h];exact h1 i h
  ·rw[List.getElem_append_right (by omega)];exact h2 _ (by simp at hi;omega)
 ·by_cases h:i<l1.length
  ·rw[List.getElem_append_left h];exact cZ i h
  ·rw[List.getElem_append_right (by omega)];exact rP _ (by simp at hi;omega)
 ·simp only[Nat.zero_add]
  by_cases h:i<l1.length
  ·simp only[List.getElem_append_left h]at hj |-;exact r1 i j h hj
  ·simp only[List.getElem_append_right (show l1.length<=i by omega)]at hj |-
   have :=r2 (i-l1.length) j (by simp at hi;omega) hj
   rwa [show l1.length+(i-l1.length)=i by omega]at this
set_option maxHeartbeats 4000000 in
theorem HM{P:Program}{G:Ghost}{φ:Name->Loc}{m:Mem}{σ:S}{a:Act}{w:World}(hC:ay G φ m σ a w){t:Name}{T1 T2 ty:TypeId}{s x:D}{us ux:Value}
 (hs:al φ σ.obj m s us) (hx:al φ σ.obj m x ux) (aa:(bI P σ.obj t T1 T2 s x).ok):
 ∃ v w',(Builtin.append_ #[T1,T2] ty #[us,ux]).run P w=.ok v w'/\iA G σ a (bI P σ.obj t T1 T2 s x) v w':=by
 unfold bI at aa |-
 split at aa
 ·rename_i e sz by_ p mf ie
  obtain⟨e2,sz2,Fq⟩:=p
  obtain⟨dH,i,hi,hJ,vG⟩:=dO mf
  obtain⟨cz,_⟩:=dO ie
  split at aa
  ·rename_i z hz
   have oK:i.zero=some z:=by unfold aH at hz;simpa[hi]using hz
   have grown:∀ (base:Option Addr) (l1:List V) (cap:Nat) (fP:Nat->Nat->Value),us=.slice base l1.length cap->
       cap <l1.length+(av σ.obj x).2.length->
       (av σ.obj x).1->(∀ y∈(av σ.obj x).2,y.cells.length=sz/\y.okc=true)->z.cells.size=sz->(l1.length+(av σ.obj x).2.length)*by_<=140737488355328->
       l1.length+(av σ.obj x).2.length<=maxLen->
       (∀ i (h:i<l1.length),l1[i].cells.length=sz)->(∀ i (h:i<l1.length),∀ x∈l1[i].cells,x.one=true)->
       (Builtin.firstCells i.size l1.length us).run P w.drew=.ok (rowOf fP l1.length sz).toArray w.drew->
       (∀ i j (h:i<l1.length) (h':j<l1[i].cells.length),aw m l1[i].cells[j] (fP i j))->
       ∃ w' cj arr,(Builtin.append_ #[T1,T2] ty #[us,ux]).run P w=.ok (.slice (some ⟨w.heap.size,0,none⟩) (l1.length+(av σ.obj x).2.length) cj) w'/\
         w'={ w with heap:=w.heap.push (.cells arr e),drawn:=w.drawn+1 }/\
         ∀ φ' obj',dz φ' obj' m (.arr sz (l1++(av σ.obj x).2)) ⟨w.heap.size,0,cj,false,none⟩ w':=by
    intro base l1 cap fP br ae h1 h2 h3 h4 h5 h6 wj vN uU
    obtain⟨b2,mz,c2,e7,r⟩:=ke hC hx h1 (fun y hy=>(h2 y hy).1)
    have bb:=r.src (P:=P) cz
    rw[<-e7]at bb
    have vd:=r.oneV
    have hn:0<l1.length+(av σ.obj x).2.length:=by omega
    have vU:=nextslicecap_le (old:=cap) (need:=l1.length+(av σ.obj x).2.length) ae
    subst br
    have bz:=run_append_grow_src (P:=P) w T1 T2 ty e i z dH hi oK base l1.length cap (rowOf fP l1.length sz) vN ux (av σ.obj x).2.length
     (rowOf c2 (av σ.obj x).2.length sz) (by rw[hJ];exact bb) ae (by unfold maxLen at h5;omega)
     (by rw[vG];calc _<=2*(l1.length+(av σ.obj x).2.length)*by_:=Nat.mul_le_mul_right _ vU
         _=2*((l1.length+(av σ.obj x).2.length)*by_):=by rw[Nat.mul_assoc]
         _<=_:=by omega)
    refine⟨_,_,_,bz,rfl,fun φ' obj'=>?_⟩
    have bH:=grownCap_ge w (l1.length+(av σ.obj x).2.length) cap e
    have hle:=grownCap_le_maxLen w (l1.length+(av σ.obj x).2.length) cap e h5
    generalize grownCap w (l1.length+(av σ.obj x).2.length) cap e=gc at *
    refine xO (w':={ w with heap:=w.heap.push _,drawn:=w.drawn+1 }) (T:=e) (us:=_) (by show (w.heap.push _)[w.heap.size]?=_;simp;rfl) bH hle ?_ h6 wj (fun k hk=>(h2 _ (List.getElem_mem hk)).1) vd ?_ ?_
    ·simp only[Array.size_append,List.size_toArray,List.length_append,bS,Builtin.zeroCells,Array.size_map,Array.size_range,h3]
     have :l1.length*sz+(av σ.obj x).2.length*sz+(gc-(l1.length+(av σ.obj x).2.length))*sz=gc*sz:=by
      rw[<-Nat.add_mul,<-Nat.add_mul];congr 1;omega
     omega
    ·intro q j hq hj
     have dm:j<sz:=by rw[<-h6 q hq];exact hj
     refine⟨fP q j,?_,uU q j hq hj⟩
     have ax:q*sz+j<l1.length*sz:=by
      have :(q+1)*sz<=l1.length*sz:=Nat.mul_le_mul_right _ (by omega)
      rw[Nat.add_mul,Nat.one_mul]at this;omega
     rw[Array.getElem?_append_left (by simp[bS];omega)]
     rw[List.getElem?_toArray,List.getElem?_append_left (by rw[bS];omega)]
     exact fq fP hq dm
    ·intro q j hq hj
     have dm:j<sz:=by rw[<-(h2 _ (List.getElem_mem hq)).1];exact hj
     refine⟨c2 q j,?_,r.rep q j hq hj⟩
     have ax:q*sz+j<(av σ.obj x).2.length*sz:=by
      have :(q+1)*sz<=(av σ.obj x).2.length*sz:=Nat.mul_le_mul_right _ (by omega)
      rw[Nat.add_mul,Nat.one_mul]at this;omega
     have e9:(l1.length+q)*sz+j=l1.length*sz+(q*sz+j):=by rw[Nat.add_mul];omega
     rw[e9,Array.getElem?_append_left (by simp[bS];omega)]
     rw[List.getElem?_toArray,List.getElem?_append_right (by rw[bS];omega),bS,Nat.add_sub_cancel_left]
     exact fq c2 hq dm
   split at aa
   ·
    obtain⟨h1,h2,h3,h4,h5,h6⟩:=aa
    try simp only[mf,ie,hz]
    cases hs with
    |nilsl base=>
    by_cases hl:(av σ.obj x).2=[]
    ·obtain⟨b2,mz,c2,e7,r⟩:=ke hC hx h1 (fun y hy=>(h2 y hy).1)
     have bb:=r.src (P:=P) cz
     rw[<-e7]at bb
     rw[hl]at bb |-
     refine⟨.slice base 0 0,w,?_,?_⟩
     ·simp only[List.length_nil]at bb
      have e0:rowOf c2 0 sz=[]:=by simp[rowOf]
      rw[e0]at bb
      have hc:=bb.cells
      rw[<-hJ]at hc
      cases base with
      |none=>simp[Builtin.append_,run_underlying dH,run_underlying cz,sizeOf,typeInfo,hi,bb.len,hc]
      |some ad=>simp[Builtin.append_,run_underlying dH,run_underlying cz,sizeOf,typeInfo,hi,bb.len,hc,storeCells]
     ·have aO:=Ext.new (φ:=φ) h6 ⟨0,0,0,true,base⟩ (.arr sz [])
      refine⟨upd φ (aI t) ⟨0,0,0,true,base⟩,m,hC.chg (w':=w) (aI t) (.arr sz []) ⟨0,0,0,true,base⟩ aO ⟨rfl,rfl,rfl,Nat.le_refl _⟩ (fun _ _ _=>rfl)
       (fun h=>by cases h) (.inl ⟨rfl,rfl⟩),?_⟩
      refine .msl _ _ _ ⟨_,_,aD _ _ _,rfl,by simp,fun _=>?_⟩ rfl
      rw[aD];rfl
    ·have bU:=jv hl
     obtain⟨w',cj,arr,bz,gX,e8⟩:=grown base [] 0 (fun _ _=>undef) rfl (by simpa using bU) h1 h2 h3 (by simpa using h4) (by simpa using h5) (fun i h=>by simp at h) (fun i h=>by simp at h)
      (by
        have e0:rowOf (fun _ _=>undef) ([]:List V).length sz=[]:=by simp[rowOf]
        rw[e0]
        cases base with
        |none=>simp[Builtin.firstCells]
        |some ad=>simp[Builtin.firstCells,loadCells,loadCellsFrom]) (fun i j h=>by simp at h)
     refine⟨_,_,bz,?_⟩
     subst gX
     have aO:=Ext.new (φ:=φ) h6 ⟨w.heap.size,0,cj,false,none⟩ (.arr sz (av σ.obj x).2)
     refine⟨upd φ (aI t) ⟨w.heap.size,0,cj,false,none⟩,m,hC.chg (aI t) _ ⟨w.heap.size,0,cj,false,none⟩ aO ⟨rfl,rfl,rfl,by show w.heap.size<=(w.heap.push _).size;simp⟩
      (fun b hb _=>hY hb) (fun _=>.inl (Nat.le_refl _)) (e8 _ _),?_⟩
     refine .msl _ _ _ ⟨_,_,aD _ _ _,rfl,by simp,fun _=>?_⟩ rfl
     rw[aD]
     simp[Loc.slice]
   ·rename_i nm k
    split at aa
    ·rename_i s' l aj
     obtain⟨h1,h2,h3,h4,h5,h6,h7⟩:=aa
     subst h7
     simp only[mf,ie,hz,aj]
     cases hs with
     |msl _ _ _ hs nk=>
     obtain⟨o,n,bo,hlen,hk,br⟩:=hs
     rw[aj]at bo;cases bo
     simp only[O.len?,Option.some.injEq]at hlen
     subst hlen
     have e9:=br h6
     subst e9
     subst h6
     by_cases hl:(av σ.obj x).2=[]/\(φ nm).nul=true
     ·obtain⟨hl,bC⟩:=hl
      have ed:l=[]:=by
       rcases hC.objs nm _ aj with⟨_,h⟩ | ⟨h,_⟩
       ·exact h
       ·rw[bC]at h;cases h
      subst ed
      obtain⟨b2,mz,c2,e7,r⟩:=ke hC hx h1 (fun y hy=>(h2 y hy).1)
      have bb:=r.src (P:=P) cz
      rw[<-e7]at bb
      rw[hl]at bb |-
      simp only[Loc.slice,bC,if_true]
      refine⟨.slice (φ nm).nb 0 0,w,?_,?_⟩
      ·simp only[List.length_nil]at bb
       have e0:rowOf c2 0 s'=[]:=by simp[rowOf]
       rw[e0]at bb
       have hc:=bb.cells
       rw[<-hJ]at hc
       cases (φ nm).nb with
       |none=>simp[Builtin.append_,run_underlying dH,run_underlying cz,sizeOf,typeInfo,hi,bb.len,hc]
       |some ad=>simp[Builtin.append_,run_underlying dH,run_underlying cz,sizeOf,typeInfo,hi,bb.len,hc,storeCells]
      ·refine⟨φ,m,?_,?_⟩
       ·have:upd σ.obj nm (some (.arr s' ([]++[])))=σ.obj:=by
          have :=c8 σ.obj nm
          rw[aj]at this
          simpa using this
        simp only[this]
        exact hC
       ·refine .msl _ _ _ ⟨_,_,aD _ _ _,rfl,by simp,fun _=>?_⟩ rfl
        simp[Loc.slice,bC]
     ·obtain⟨b2,mz,c2,e7,r⟩:=ke hC hx h1 (fun y hy=>(h2 y hy).1)
      have bb:=r.src (P:=P) cz
      rw[<-e7]at bb
      rcases hC.objs nm _ aj with⟨bC,ed⟩ | ⟨g0,g1,g2,g3,g4,aP,T',f,g5,g6,g7,g8⟩
      ·subst ed
       have ar:(av σ.obj x).2≠[]:=fun e=>hl ⟨e,bC⟩
       have bU:=jv ar
       simp only[Loc.slice,bC,if_true]at grown |-
       obtain⟨w',cj,arr,bz,gX,e8⟩:=grown (φ nm).nb [] 0 (fun _ _=>undef) rfl (by simpa using bU) h1 h2 h3 h4 h5 (fun i h=>by simp at h) (fun i h=>by simp at h)
        (by
          have e0:rowOf (fun _ _=>undef) ([]:List V).length s'=[]:=by simp[rowOf]
          rw[e0]
          cases (φ nm).nb with
          |none=>simp[Builtin.firstCells]
          |some ad=>simp[Builtin.firstCells,loadCells,loadCellsFrom]) (fun i j h=>by simp at h)
       refine⟨_,_,bz,?_⟩
       subst gX
       have aO:=Ext.grow (φ:=φ) (o':=.arr s' ([]++(av σ.obj x).2)) aj rfl rfl (by simpa using bU) ⟨w.heap.size,0,cj,false,none⟩
       refine⟨upd φ nm ⟨w.heap.size,0,cj,false,none⟩,m,hC.chg nm _ ⟨w.heap.size,0,cj,false,none⟩ aO ⟨rfl,rfl,rfl,by show w.heap.size<=(w.heap.push _).size;simp⟩
        (fun b hb _=>hY hb) (fun _=>.inl (Nat.le_refl _)) (e8 _ _),?_⟩
       refine .msl _ _ _ ⟨_,_,aD _ _ _,rfl,by simp,fun _=>?_⟩ rfl
       rw[aD]
       simp[Loc.slice]
      ·have dd:(φ nm).blk<w.heap.size:=(Array.getElem?_eq_some_iff.1 g5).1
       simp only[Loc.slice,g0,Bool.false_eq_true,if_false]at grown |-
       by_cases fD:l.length+(av σ.obj x).2.length<=(φ nm).cap
       ·
        have o0:(l.length+(av σ.obj x).2.length)*s'<=(φ nm).cap*s':=Nat.mul_le_mul_right _ fD
        rw[Nat.add_mul]at o0
        obtain⟨us2,k1,k2,k3⟩:=oq P (φ nm).blk ((φ nm).off+l.length*s') T' f g6 (rowOf c2 (av σ.obj x).2.length s') 0 aP w g5 (by rw[bS];omega)
         (fun v hv=>by
           have :=bb.one v hv
           cases v<;>simp_all[dh,Value.oneCell'])
        refine⟨.slice (some ⟨(φ nm).blk,(φ nm).off,none⟩) (l.length+(av σ.obj x).2.length) (φ nm).cap,aV w (φ nm).blk (.cells us2 T' f),?_,?_⟩
        ·have hc:=bb.cells
         rw[<-hJ]at hc k3
         simp[Builtin.append_,run_underlying dH,run_underlying cz,sizeOf,typeInfo,hi,bb.len,hc,fD,eP,k3]
        ·have oT:dz (upd φ nm (φ nm)) (upd σ.obj nm (some (.arr s' (l++(av σ.obj x).2)))) m (.arr s' (l++(av σ.obj x).2)) (φ nm) (aV w (φ nm).blk (.cells us2 T' f)):=by
           refine .inr ⟨g0,by simpa using fD,g2,fun q hq=>?_,fun q hq=>?_,us2,T',f,dN dd,g6,by rw[k1];exact g7,fun q j hq hj=>?_⟩
           ·by_cases h:q<l.length
            ·rw[List.getElem_append_left h];exact g3 q h
            ·rw[List.getElem_append_right (by omega)];exact(h2 _ (List.getElem_mem _)).1
           ·by_cases h:q<l.length
            ·rw[List.getElem_append_left h];exact g4 q h
            ·rw[List.getElem_append_right (by omega)]
             exact r.oneV _ _
           ·rw[k2]
            simp only[Nat.add_zero,bS]
            by_cases h:q<l.length
            ·simp only[List.getElem_append_left h]at hj |-
             have dm:j<s':=by rw[<-g3 q h];exact hj
             have ax:q*s'+j<l.length*s':=by
              have :(q+1)*s'<=l.length*s':=Nat.mul_le_mul_right _ (by omega)
              rw[Nat.add_mul,Nat.one_mul]at this;omega
             rw[if_neg (by omega)]
             exact g8 q j h hj
            ·simp only[List.getElem_append_right (show l.length<=q by omega)]at hj |-
             have lR:q-l.length<(av σ.obj x).2.length:=by simp at hq;omega
             have dm:j<s':=by rw[<-(h2 _ (List.getElem_mem lR)).1];exact hj
             have ax:(q-l.length)*s'+j<(av σ.obj x).2.length*s':=by
              have :(q-l.length+1)*s'<=(av σ.obj x).2.length*s':=Nat.mul_le_mul_right _ (by omega)
              rw[Nat.add_mul,Nat.one_mul]at this;omega
             have P3:q*s'=l.length*s'+(q-l.length)*s':=by rw[<-Nat.add_mul];congr 1;omega
             rw[if_pos (by omega)]
             refine⟨c2 (q-l.length) j,?_,r.rep _ _ lR hj⟩
             rw[show (φ nm).off+q*s'+j-((φ nm).off+l.length*s')=(q-l.length)*s'+j by omega]
             exact fq c2 lR dm
         by_cases ee:(av σ.obj x).2=[]
         ·have aO:=Ext.same (φ:=φ) (o':=.arr s' (l++(av σ.obj x).2)) aj (by simp[O.len?,ee]) rfl
          have :=hC.chg (w':=aV w (φ nm).blk (.cells us2 T' f)) nm (.arr s' (l++(av σ.obj x).2)) (φ nm) aO ⟨rfl,rfl,rfl,by simp[aV]⟩
           (fun b hb hn=>fO (by rcases hn with h | h; · rw[g0]at h;cases h
                                ·exact h))
           (fun _=>.inr ⟨⟨_,aj,rfl,g0⟩,rfl⟩) oT
          refine⟨_,m,this,?_⟩
          refine .msl _ _ _ ⟨_,_,aD _ _ _,rfl,by simp,fun _=>?_⟩ rfl
          rw[aD]
          simp[Loc.slice,g0]
         ·have bU:=jv ee
          have aO:=Ext.grow (φ:=φ) (o':=.arr s' (l++(av σ.obj x).2)) aj rfl rfl (by simp;omega) (φ nm)
          have :=hC.chg (w':=aV w (φ nm).blk (.cells us2 T' f)) nm (.arr s' (l++(av σ.obj x).2)) (φ nm) aO ⟨rfl,rfl,rfl,by simp[aV]⟩
           (fun b hb hn=>fO (by rcases hn with h | h; · rw[g0]at h;cases h
                                ·exact h))
           (fun _=>.inr ⟨⟨_,aj,rfl,g0⟩,rfl⟩) oT
          refine⟨_,m,this,?_⟩
          refine .msl _ _ _ ⟨_,_,aD _ _ _,rfl,by simp,fun _=>?_⟩ rfl
          rw[aD]
          simp[Loc.slice,g0]
       ·
        have bU:0<(av σ.obj x).2.length:=by omega
        have bG:∀ i j,i<l.length->j<s'->w.cell? ⟨(φ nm).blk,(φ nm).off+i*s'+j,none⟩=some ((aP[(φ nm).off+i*s'+j]?).getD undef):=by
         intro i j hi hj
         obtain⟨c,x1,x2⟩:=g8 i j hi (by rw[g3];exact hj)
         rw[gH g5,x1];rfl
        obtain⟨w',cj,arr,bz,gX,e8⟩:=grown (some ⟨(φ nm).blk,(φ nm).off,none⟩) l (φ nm).cap (fun i j=>(aP[(φ nm).off+i*s'+j]?).getD undef) rfl (by omega) h1 h2 h3 h4 h5 g3 g4
         (by
           have :=run_firstCells_some (P:=P) w.drew i.size l.length ⟨(φ nm).blk,(φ nm).off,none⟩ l.length (φ nm).cap (rowOf (fun i j=>(aP[(φ nm).off+i*s'+j]?).getD undef) l.length s')
            (by rw[bS,hJ]) (by intro j v hv;simpa using lq bG j v hv)
           exact this)
         (fun i j hi hj=>by
           obtain⟨c,x1,x2⟩:=g8 i j hi hj
           rw[x1];exact x2)
        refine⟨_,_,bz,?_⟩
        subst gX
        have aO:=Ext.grow (φ:=φ) (o':=.arr s' (l++(av σ.obj x).2)) aj rfl rfl (by simp;omega) ⟨w.heap.size,0,cj,false,none⟩
        refine⟨upd φ nm ⟨w.heap.size,0,cj,false,none⟩,m,hC.chg nm _ ⟨w.heap.size,0,cj,false,none⟩ aO ⟨rfl,rfl,rfl,by show w.heap.size<=(w.heap.push _).size;simp⟩
         (fun b hb _=>hY hb) (fun _=>.inl (Nat.le_refl _)) (e8 _ _),?_⟩
        refine .msl _ _ _ ⟨_,_,aD _ _ _,rfl,by simp,fun _=>?_⟩ rfl
        rw[aD]
        simp[Loc.slice]
    ·exact aa.elim
   ·exact aa.elim
  ·exact aa.elim
 ·exact aa.elim
def eQ(obj:Name->Option O)(c x y:D):R:=
 match c with
 | .v (.bool b)=>⟨True,match x,y with
   | .v (.bool p),.v (.bool q)=>.v (.bool (if b then p else q))
   |x,y=>if b then x else y,obj⟩
 |_=>.bad obj
theorem Rg{φ:Name->Loc}{obj:Name->Option O}{m:Mem}{b:Bool}{x y:D}{u:Value}(h:al φ obj m (if b then x else y) u):al φ obj m (eQ obj (.v (.bool b)) x y).d u:=by
 unfold eQ
 simp only
 split
 ·rename_i p q
  cases b with
  |true=>simpa using h
  |false=>simpa using h
 ·exact h
def F7(obj:Name->Option O)(fn:Fn)(f c:List D):R:=⟨True,.clo fn f c,obj⟩
def gL(P:Program)(obj:Name->Option O)(T:TypeId)(x:D)(f:Nat):R:=
 match be P T f,x with
 |some (off,n,true),.agg l=>⟨off+n<=l.length,.agg ((l.drop off).take n),obj⟩
 |some (off,_,false),.agg l=>⟨off<l.length,l.getD off .any,obj⟩
 |some (off,n,true),.v (.agg l)=>⟨off+n<=l.length,.v (.agg ((l.drop off).take n)),obj⟩
 |some (off,_,false),.v (.agg l)=>⟨off<l.length,.v (l.getD off default),obj⟩
 |_,_=>.bad obj
theorem kb{P:Program}{t:TypeId}{b:Bool}{n:Nat}(h:aE P t=some (b,n))(cs:Array Value)(off:Nat)(hb:b=false->off<cs.size)(w:World):
 (part t cs off).run P w=.ok (if b then .agg (cs.extract off (off+n))else cs.getD off undef) w:=by
 simp only[part,Sem.run_bind,xU h,Result.andThen_ok,Sem.run_ite,ka h,Sem.run_pure]
 cases b with
 |true=>simp
 |false=>
  have :=hb rfl
  simp[Array.getElem?_eq_getElem this,Array.getD,this]
theorem al.aggPart{φ:Name->Loc}{obj:Name->Option O}{m:Mem}{l:List D}{us:Array Value}(hl:l.length=us.size)(ho:∀ d∈l,d.one=true)
 (hr:∀ i (h:i<l.length) (h':i<us.size),al φ obj m l[i] us[i]) {off n:Nat} (h:off+n<=l.length):
 al φ obj m (.agg ((l.drop off).take n)) (.agg (us.extract off (off+n))):=by
 refine .agg _ _ (by simp;omega) (fun d hd=>ho d (List.mem_of_mem_drop (List.mem_of_mem_take hd))) fun i h1 h2=>?_
 simp only[List.length_take,List.length_drop]at h1
 simp only[List.getElem_take,List.getElem_drop,Array.getElem_extract]
 exact hr _ (by omega) (by omega)
theorem aw.aggPart{m:Mem}{l:List V}{us:Array Value}(hl:l.length=us.size)(ho:∀ d∈l,d.one=true)
 (hr:∀ i (h:i<l.length) (h':i<us.size),aw m l[i] us[i]) {off n:Nat} (h:off+n<=l.length):
 aw m (.agg ((l.drop off).take n)) (.agg (us.extract off (off+n))):=by
 refine .agg _ _ (by simp;omega) (fun d hd=>ho d (List.mem_of_mem_drop (List.mem_of_mem_take hd))) fun i h1 h2=>?_
 simp only[List.length_take,List.length_drop]at h1
 simp only[List.getElem_take,List.getElem_drop,Array.getElem_extract]
 exact hr _ (by omega) (by omega)
theorem HC{P:Program}{φ:Name->Loc}{obj:Name->Option O}{m:Mem}{T:TypeId}{f:Nat}{x:D}{u:Value}(w:World)
 (hx:al φ obj m x u) (aa:(gL P obj T x f).ok):
 ∃ v,(Instr.field T u f).run P w=.ok v w/\al φ obj m (gL P obj T x f).d v/\(gL P obj T x f).obj=obj:=by
 have bz:∀ {off n:Nat} {ag:Bool} {us:Array Value},be P T f=some (off,n,ag)->(ag=false->off<us.size)->
     (Instr.field T (.agg us) f).run P w=.ok (if ag then .agg (us.extract off (off+n))else us.getD off undef) w:=by
  intro off n ag us h hb
  unfold be at h
  split at h
  ·rename_i fs hu
   cases hf:fs[f]? with
   |none=>simp[hf]at h
   |some x=>
    simp only[hf,Option.bind_some,Option.map_eq_some_iff,Prod.mk.injEq]at h
    obtain⟨y,h1,h2,h3,h4⟩:=h
    obtain⟨y1,y2⟩:=y
    simp only at h3 h4
    subst h3 h4 h2
    simp only[Instr.field,Sem.run_bind,run_underlying hu,Result.andThen_ok,hf,asAgg,Sem.run_pure]
    exact kb h1 us _ hb w
  ·cases h
 unfold gL at aa |-
 split at aa
 ·rename_i off n l hT
  cases hx with
  |agg _ us hl ho hr=>
  exact⟨_,bz hT (by simp),by simpa[hT]using al.aggPart hl ho hr aa,by simp[hT]⟩
 ·rename_i off n l hT
  cases hx with
  |agg _ us hl ho hr=>
  have gY:off<l.length:=aa
  refine⟨_,bz hT (fun _=>by omega),?_,by simp[hT]⟩
  simp only[hT,Bool.false_eq_true,if_false]
  rw[dV gY]
  have :off<us.size:=by omega
  simp only[Array.getD,this,dite_true]
  exact hr off gY this
 ·rename_i off n l hT
  cases hx with
  |v _ _ hx=>
  cases hx with
  |agg _ us hl ho hr=>
  exact⟨_,bz hT (by simp),by simpa[hT]using .v _ _ (aw.aggPart hl ho hr aa),by simp[hT]⟩
 ·rename_i off n l hT
  cases hx with
  |v _ _ hx=>
  cases hx with
  |agg _ us hl ho hr=>
  have gY:off<l.length:=aa
  refine⟨_,bz hT (fun _=>by omega),?_,by simp[hT]⟩
  simp only[hT,Bool.false_eq_true,if_false]
  rw[dV gY]
  have :off<us.size:=by omega
  simp only[Array.getD,this,dite_true]
  exact .v _ _ (hr off gY this)
 ·exact aa.elim
def gK(P:Program)(obj:Name->Option O)(T:TypeId)(x i:D):R:=
 match x,i with
 | .v (.str s),.v (.int _ n)=>⟨bJ P T=some 1/\0<=n/\n<s.size,.v (.int .u8 (s.data.getD n.toNat 0).toNat),obj⟩
 | .agg l,.v (.int _ n)=>match dP P T with
   |some (len,sz,true)=>⟨0<=n/\n<len/\n.toNat*sz+sz<=l.length,.agg ((l.drop (n.toNat*sz)).take sz),obj⟩
   |some (len,sz,false)=>⟨0<=n/\n<len/\n.toNat*sz<l.length,l.getD (n.toNat*sz) .any,obj⟩
   |_=>.bad obj
 | .v (.agg l),.v (.int _ n)=>match dP P T with
   |some (len,sz,true)=>⟨0<=n/\n<len/\n.toNat*sz+sz<=l.length,.v (.agg ((l.drop (n.toNat*sz)).take sz)),obj⟩
   |some (len,sz,false)=>⟨0<=n/\n<len/\n.toNat*sz<l.length,.v (l.getD (n.toNat*sz) default),obj⟩
   |_=>.bad obj
 |_,_=>.bad obj
theorem HA{P:Program}{φ:Name->Loc}{obj:Name->Option O}{m:Mem}{T:TypeId}{x i:D}{u ui:Value}(w:World)
 (hx:al φ obj m x u) (hi:al φ obj m i ui) (aa:(gK P obj T x i).ok):
 ∃ v,(Instr.index T u ui).run P w=.ok v w/\al φ obj m (gK P obj T x i).d v/\(gK P obj T x i).obj=obj:=by
 have bz:∀ {len sz:Nat} {ag:Bool} {us:Array Value} {k:IntKind} {n:Int},dP P T=some (len,sz,ag)->0<=n->n<len->(ag=false->n.toNat*sz<us.size)->
     (Instr.index T (.agg us) (.int k n)).run P w=.ok (if ag then .agg (us.extract (n.toNat*sz) (n.toNat*sz+sz))else us.getD (n.toNat*sz) undef) w:=by
  intro len sz ag us k n h h0 h1 hb
  unfold dP at h
  split at h
  ·rename_i n' e hu
   simp only[Option.map_eq_some_iff,Prod.mk.injEq]at h
   obtain⟨y,h2,h3,h4,h5⟩:=h
   obtain⟨y1,y2⟩:=y
   simp only at h4 h5
   subst h3 h4 h5
   have hs:=fun w=>ka (P:=P) (t:=e) h2 w
   have hp:=fun w=>kb h2 us (n.toNat*y2) hb w
   simp[Instr.index,asIntOf,run_underlying hu,h0,h1,hs,hp]
  ·cases h
 unfold gK at aa |-
 split at aa
 ·rename_i s k n
  obtain⟨hT,h0,h1⟩:=aa
  have hu:=xz hT
  cases hx with
  |v _ _ hx=>
  cases hi with
  |v _ _ hi=>
  cases hx;cases hi
  have ae:n.toNat<s.size:=by omega
  refine⟨.int .u8 (s.data.getD n.toNat 0).toNat,?_,.v _ _ (.int _ _),rfl⟩
  have e:s[n.toNat]?=some (s.data.getD n.toNat 0):=by
   have ax:n.toNat<s.data.size:=ae
   rw[getElem?_pos s n.toNat ae]
   simp only[Array.getD,ax,dite_true]
   rfl
  simp[Instr.index,asIntOf,run_underlying hu,h0,e]
 ·rename_i l k n
  cases hi with
  |v _ _ hi=>
  cases hi
  cases hx with
  |agg _ us hl ho hr=>
  split at aa
  ·rename_i len sz hT
   obtain⟨h0,h1,h2⟩:=aa
   exact⟨_,bz hT h0 h1 (by simp),by simpa[hT]using al.aggPart hl ho hr h2,by simp[hT]⟩
  ·rename_i len sz hT
   obtain⟨h0,h1,h2⟩:=aa
   refine⟨_,bz hT h0 h1 (fun _=>by omega),?_,by simp[hT]⟩
   simp only[hT,Bool.false_eq_true,if_false]
   rw[dV h2]
   have :n.toNat*sz<us.size:=by omega
   simp only[Array.getD,this,dite_true]
   exact hr _ h2 this
  ·exact aa.elim
 ·rename_i l k n
  cases hi with
  |v _ _ hi=>
  cases hi
  cases hx with
  |v _ _ hx=>
  cases hx with
  |agg _ us hl ho hr=>
  split at aa
  ·rename_i len sz hT
   obtain⟨h0,h1,h2⟩:=aa
   exact⟨_,bz hT h0 h1 (by simp),by simpa[hT]using .v _ _ (aw.aggPart hl ho hr h2),by simp[hT]⟩
  ·rename_i len sz hT
   obtain⟨h0,h1,h2⟩:=aa
   refine⟨_,bz hT h0 h1 (fun _=>by omega),?_,by simp[hT]⟩
   simp only[hT,Bool.false_eq_true,if_false]
   rw[dV h2]
   have :n.toNat*sz<us.size:=by omega
   simp only[Array.getD,this,dite_true]
   exact .v _ _ (hr _ h2 this)
  ·exact aa.elim
 ·exact aa.elim
def dF:List (V×V)->V->Option V
 |[],_=>none
 |(k',x)::r,k=>if jy k' k=true then some x else dF r k
def cH:List (V×V)->V->V->List (V×V)
 |[],k,x=>[(k,x)]
 |(k',y)::r,k,x=>if jy k' k=true then(k,x)::r else(k',y)::cH r k x
theorem uB{x:V}(h:bZ 0 x=true):∃ n,x=.int .i64 n:=by
 cases x with
 |int k n=>cases k<;>simp_all[bZ]
 |_=>simp[bZ]at h
theorem uA{x:V}(h:bZ 1 x=true):∃ s,x=.str s:=by
 cases x with
 |str s=>exact⟨s,rfl⟩
 |_=>simp[bZ]at h
theorem m9{m:Mem}{kd:Nat}{d:TypeDesc}(hd:(kd=0/\d=.int .i64)\/(kd=1/\d=.string)){x:V}{u:Value}(hx:aw m x u)(hk:bZ kd x=true):MapKept.IsKey d u:=by
 rcases hd with⟨rfl,rfl⟩ | ⟨rfl,rfl⟩
 ·obtain⟨n,rfl⟩:=uB hk
  cases hx
  simp[MapKept.IsKey]
 ·obtain⟨n,rfl⟩:=uA hk
  cases hx
  simp[MapKept.IsKey]
theorem KW{m:Mem}{kd:Nat}{d:TypeDesc}(hd:(kd=0/\d=.int .i64)\/(kd=1/\d=.string)){x y:V}{u v:Value}(hx:aw m x u)(hy:aw m y v)
 (hk:bZ kd x=true) (fE:bZ kd y=true):Instr.sameNow d u v=some (jy y x):=by
 rcases hd with⟨rfl,rfl⟩ | ⟨rfl,rfl⟩
 ·obtain⟨n,rfl⟩:=uB hk
  obtain⟨n',rfl⟩:=uB fE
  cases hx;cases hy
  simp only[Instr.sameNow,jy,if_true]
  congr 1
  rw[Bool.eq_iff_iff]
  simp only[beq_iff_eq]
  exact eq_comm
 ·obtain⟨n,rfl⟩:=uA hk
  obtain⟨n',rfl⟩:=uA fE
  cases hx;cases hy
  simp only[Instr.sameNow,jy]
  congr 1
  rw[Bool.eq_iff_iff,MapKept.bytes_beq,MapKept.bytes_beq,eq_comm]
theorem Ez{m:Mem}{kd:Nat}{d:TypeDesc}(hd:(kd=0/\d=.int .i64)\/(kd=1/\d=.string)){x:V}{u:Value}(hx:aw m x u)(hk:bZ kd x=true)(z:V):
 ∀ (es:List (V×V)) (ents:List MapEntry) (i:Nat),es.length=ents.length->(∀ p∈es,bZ kd p.1=true)->
   (∀ j (h:j<es.length) (h':j<ents.length),aw m es[j].1 ents[j].key/\aw m es[j].2 ents[j].val)->
   (dF es x=none/\Instr.findNow d u ents i=some none/\cH es x z=es++[(x,z)])\/
   ∃ (j:Nat) (h:j<es.length) (h':j<ents.length),dF es x=some es[j].2/\Instr.findNow d u ents i=some (some (i+j,ents[j].val))/\ents[j].key=u/\cH es x z=es.set j (x,z)
 |[],ents,i,hl,_,_=>by
  have :ents=[]:=by cases ents<;>simp_all
  subst this
  exact .inl ⟨rfl,rfl,rfl⟩
 |(k',y)::r,[],i,hl,_,_=>by simp at hl
 |(k',y)::r,e::ents,i,hl,kI,hr=>by
  have h0:=hr 0 (by simp) (by simp)
  simp only[List.getElem_cons_zero]at h0
  have fE:bZ kd k'=true:=kI (k',y) (by simp)
  have hs:=KW hd hx h0.1 hk fE
  by_cases hq:jy k' x=true
  ·refine .inr ⟨0,by simp,by simp,by simp[dF,hq],by simp[Instr.findNow,hs,hq],?_,by simp[cH,hq]⟩
   obtain⟨b,hb,Oy⟩:=MapKept.sameNow_of_keys (m9 hd hx hk) (m9 hd h0.1 fE)
   rw[hs]at hb
   simp only[Option.some.injEq]at hb
   exact(Oy.1 (by rw[<-hb];exact hq)).symm
  ·have bu:jy k' x=false:=by simpa using hq
   rcases Ez hd hx hk z r ents (i+1) (by simpa using hl) (fun p hp=>kI p (by simp[hp])) (fun j h h'=>hr (j+1) (by simpa using h) (by simpa using h'))with⟨h1,h2,h3⟩ | ⟨j,h,h',h1,h2,h3,h4⟩
   ·exact .inl ⟨by simp[dF,bu,h1],by simp[Instr.findNow,hs,bu,h2],by simp[cH,bu,h3]⟩
   ·refine .inr ⟨j+1,by simpa using h,by simpa using h',by simp[dF,bu,h1],?_,by simpa using h3,by simp[cH,bu,h4]⟩
    simp only[Instr.findNow,hs,bu,h2,List.getElem_cons_succ]
    rw[show i+1+j=i+(j+1)by omega]
def sU(P:Program)(kt:TypeId)(kd:Nat):Prop:=
 (kd=0/\P.underlying kt=some (.int .i64))\/(kd=1/\P.underlying kt=some .string)\/(kd=2/\lx P kt=true)
theorem s7{P:Program}{T e:TypeId}{kd:Nat}(h:gw P T=some (kd,e)):
 ∃ k,P.underlying T=some (.map k e)/\sU P k kd:=by
 unfold gw at h
 split at h
 ·rename_i k e' hu
  split at h
  ·rename_i hk
   simp only[Option.some.injEq,Prod.mk.injEq]at h
   obtain⟨rfl,rfl⟩:=h
   exact⟨k,hu,.inl ⟨rfl,hk⟩⟩
  ·rename_i hk
   simp only[Option.some.injEq,Prod.mk.injEq]at h
   obtain⟨rfl,rfl⟩:=h
   exact⟨k,hu,.inr (.inl ⟨rfl,hk⟩)⟩
  ·split at h
   ·rename_i hk
    simp only[Option.some.injEq,Prod.mk.injEq]at h
    obtain⟨rfl,rfl⟩:=h
    exact⟨k,hu,.inr (.inr ⟨rfl,hk⟩)⟩
   ·cases h
  ·cases h
 ·cases h
theorem KU{x:V}(h:bZ 2 x=true):∃ a b,x=.agg [.int .i64 a,.int .i64 b]:=by
 unfold bZ at h
 split at h
 ·rename_i h0;omega
 ·rename_i h0;omega
 ·exact⟨_,_,rfl⟩
 ·cases h
theorem qI{m:Mem}{x:V}{u:Value}(hx:aw m x u)(h:bZ 2 x=true):∃ a b,x=.agg [.int .i64 a,.int .i64 b]/\u=.agg #[.int .i64 a,.int .i64 b]:=by
 obtain⟨a,b,rfl⟩:=KU h
 refine⟨a,b,rfl,?_⟩
 cases hx with
 |agg _ us hl ho hr=>
  have hs:us.size=2:=by simpa using hl.symm
  have h0:=hr 0 (by simp) (by omega)
  have h1:=hr 1 (by simp) (by omega)
  simp only[List.getElem_cons_zero,List.getElem_cons_succ]at h0 h1
  have e:us= #[us[0],us[1]]:=by
   apply Array.ext
   ·simp[hs]
   ·intro i h2 h3
    have :i=0\/i=1:=by omega
    rcases this with rfl | rfl<;>rfl
  rw[e]
  generalize hq0:us[0]=q0 at *
  generalize hq1:us[1]=q1 at *
  cases h0
  cases h1
  rfl
structure Rm (P:Program) (kt:TypeId) (f g:Field):Prop where
 st:∃ fs,P.underlying kt=some (.struct fs)/\fs.toList=[f,g]
 held:P.stoodInHeld kt=false
 nf:f.name≠ "_"
 ng:g.name≠ "_"
 of:f.offset=0
 og:g.offset=1
 tf:P.underlying f.type=some (.int .i64)
 tg:P.underlying g.type=some (.int .i64)
 af:aE P f.type=some (false,1)
 ag:aE P g.type=some (false,1)
theorem xA{P:Program}{T:TypeId}{k:IntKind}(h:fo P T=some k):P.underlying T=some (.int k):=by
 unfold fo at h
 split at h
 ·rename_i h1;cases h;exact h1
 ·cases h
theorem tD{P:Program}{kt:TypeId}(h:lx P kt=true):∃ f g,Rm P kt f g:=by
 unfold lx at h
 split at h
 ·rename_i fs hu
  split at h
  ·rename_i f g hl
   simp only[Bool.and_eq_true,decide_eq_true_eq,Bool.not_eq_true',beq_eq_false_iff_ne]at h
   obtain⟨⟨⟨⟨⟨⟨⟨⟨h1,h2⟩,h3⟩,h4⟩,h5⟩,h6⟩,h7⟩,h8⟩,h9⟩:=h
   exact⟨f,g,⟨fs,hu,hl⟩,h1,h2,h3,Nat.eq_of_beq_eq_true h4,Nat.eq_of_beq_eq_true h5,xA h6,xA h7,h8,h9⟩
  ·cases h
 ·cases h
theorem IK{P:Program}{kt:TypeId}(h:lx P kt=true)(a b c d:Int)(w:World):
 (Op.equal kt (.agg #[.int .i64 a,.int .i64 b]) (.agg #[.int .i64 c,.int .i64 d])).run P w=.ok (a==c&&b==d) w:=by
 obtain⟨f,g,⟨fs,hu,nB⟩,h1,h2,h3,h4,h5,h6,h7,h8,h9⟩:=tD h
 have hp:(Sem.run P program w)=.ok P w:=rfl
 have e0:∀ x y:Value,(part f.type #[x,y] 0).run P w=.ok x w:=fun x y=>(kb h8 #[x,y] 0 (fun _=>by simp) w).trans (by simp[Array.getD])
 have e1:∀ x y:Value,(part g.type #[x,y] 1).run P w=.ok y w:=fun x y=>(kb h9 #[x,y] 1 (fun _=>by simp) w).trans (by simp[Array.getD])
 suffices key:∀ n,(Op.equalIn (n+1+1) kt (.agg #[.int .i64 a,.int .i64 b]) (.agg #[.int .i64 c,.int .i64 d])).run P w=.ok (a==c&&b==d) w from key 9998
 intro n
 have i0:∀ a b:Int,(Op.equalIn (n+1) f.type (.int .i64 a) (.int .i64 b)).run P w=.ok (a==b) w:=fun a b=>by simp[Op.equalIn,run_underlying h6 w]
 have i1:∀ a b:Int,(Op.equalIn (n+1) g.type (.int .i64 a) (.int .i64 b)).run P w=.ok (a==b) w:=fun a b=>by simp[Op.equalIn,run_underlying h7 w]
 unfold Op.equalIn
 simp only[Sem.run_bind,run_underlying hu w,Result.andThen_ok,hp,h1,Bool.false_eq_true,if_false,Sem.run_ite]
 rw[<-Array.forIn_toList,nB]
 simp only[List.forIn_cons,List.forIn_nil,h2,h3,h4,h5,ne_eq,not_false_eq_true,if_true,Sem.run_bind,e0,e1,i0,i1,Result.andThen_ok]
 by_cases q:a=c<;>by_cases q2:b=d<;>simp[q,q2,e0,e1,i0,i1]
theorem IM{P:Program}{kt:TypeId}(h:lx P kt=true)(a b:Int)(e:Bool)(n:Nat)(w:World):
 (Instr.checkKey e (n+2) kt (.agg #[.int .i64 a,.int .i64 b])).run P w=.ok () w:=by
 obtain⟨f,g,⟨fs,hu,nB⟩,h1,h2,h3,h4,h5,h6,h7,h8,h9⟩:=tD h
 have e0:∀ x y:Value,(part f.type #[x,y] 0).run P w=.ok x w:=fun x y=>(kb h8 #[x,y] 0 (fun _=>by simp) w).trans (by simp[Array.getD])
 have e1:∀ x y:Value,(part g.type #[x,y] 1).run P w=.ok y w:=fun x y=>(kb h9 #[x,y] 1 (fun _=>by simp) w).trans (by simp[Array.getD])
 have i0:∀ v:Int,(Instr.checkKey e (n+1) f.type (.int .i64 v)).run P w=.ok () w:=fun v=>MapKept.run_checkKey h6 (by simp[MapKept.IsKey]) e n
 have i1:∀ v:Int,(Instr.checkKey e (n+1) g.type (.int .i64 v)).run P w=.ok () w:=fun v=>MapKept.run_checkKey h7 (by simp[MapKept.IsKey]) e n
 unfold Instr.checkKey
 simp only[Sem.run_bind,run_underlying hu w,Result.andThen_ok]
 rw[<-Array.forIn_toList,nB]
 simp[h2,h3,h4,h5,e0,e1,i0,i1,Array.getD]
theorem tm{P:Program}{kt:TypeId}{kd:Nat}(hk:sU P kt kd){m:Mem}{x:V}{u:Value}(hx:aw m x u)(h:bZ kd x=true)(e:Bool)(w:World):
 (Instr.checkKey e 10000 kt u).run P w=.ok () w:=by
 rcases hk with⟨rfl,hd⟩ | ⟨rfl,hd⟩ | ⟨rfl,hd⟩
 ·exact MapKept.run_checkKey hd (m9 (.inl ⟨rfl,rfl⟩) hx h) e 9999
 ·exact MapKept.run_checkKey hd (m9 (.inr ⟨rfl,rfl⟩) hx h) e 9999
 ·obtain⟨a,b,rfl,rfl⟩:=qI hx h
  exact IM hd a b e 9998 w
theorem IJ{P:Program}{kd:Nat}{m:Mem}{x:V}{u:Value}(gD:kd<=2)(hx:aw m x u)(h:bZ kd x=true)(w:World):(Instr.keyThatStays u u).run P w=.ok u w:=by
 have :kd=0\/kd=1\/kd=2:=by omega
 rcases this with rfl | rfl | rfl
 ·exact MapKept.run_keyThatStays (m9 (d:=.int .i64) (.inl ⟨rfl,rfl⟩) hx h)
 ·exact MapKept.run_keyThatStays (m9 (d:=.string) (.inr ⟨rfl,rfl⟩) hx h)
 ·obtain⟨a,b,rfl,rfl⟩:=qI hx h
  have :Instr.sameBits 10000 (.agg #[.int .i64 a,.int .i64 b]) (.agg #[.int .i64 a,.int .i64 b])=true:=by
   simp[Instr.sameBits]
  simp[Instr.keyThatStays,this]
theorem KT{P:Program}{kt:TypeId}{kd:Nat}(hk:sU P kt kd):kd<=2:=by
 rcases hk with⟨rfl,_⟩ | ⟨rfl,_⟩ | ⟨rfl,_⟩<;>omega
theorem EB{P:Program}{kt:TypeId}(hp:lx P kt=true){m:Mem}{x:V}{u:Value}(hx:aw m x u)(hk:bZ 2 x=true)(z:V)(w:World):
 ∀ (es:List (V×V)) (ents:List MapEntry) (i:Nat),es.length=ents.length->(∀ p∈es,bZ 2 p.1=true)->
   (∀ j (h:j<es.length) (h':j<ents.length),aw m es[j].1 ents[j].key/\aw m es[j].2 ents[j].val)->
   (dF es x=none/\(Instr.findAsking kt u ents i).run P w=.ok none w/\cH es x z=es++[(x,z)])\/
   ∃ (j:Nat) (h:j<es.length) (h':j<ents.length),dF es x=some es[j].2/\(Instr.findAsking kt u ents i).run P w=.ok (some (i+j,ents[j].val)) w/\ents[j].key=u/\cH es x z=es.set j (x,z)
 |[],ents,i,hl,_,_=>by
  have :ents=[]:=by cases ents<;>simp_all
  subst this
  exact .inl ⟨rfl,rfl,rfl⟩
 |(k',y)::r,[],i,hl,_,_=>by simp at hl
 |(k',y)::r,e::ents,i,hl,kI,hr=>by
  have h0:=hr 0 (by simp) (by simp)
  simp only[List.getElem_cons_zero]at h0
  have fE:bZ 2 k'=true:=kI (k',y) (by simp)
  obtain⟨a,b,NH,De⟩:=qI hx hk
  obtain⟨c,d,vC,ra⟩:=qI h0.1 fE
  have hs:(Op.equal kt u e.key).run P w=.ok (a==c&&b==d) w:=by rw[De,ra];exact IK hp a b c d w
  have hq:jy k' x=(a==c&&b==d):=by
   rw[NH,vC]
   show (c==a&&d==b)=_
   rw[Bool.eq_iff_iff]
   simp only[Bool.and_eq_true,beq_iff_eq]
   exact⟨fun h=>⟨h.1.symm,h.2.symm⟩,fun h=>⟨h.1.symm,h.2.symm⟩⟩
  cases hb:(a==c&&b==d)with
  |true=>
   rw[hb]at hs hq
   refine .inr ⟨0,by simp,by simp,by simp[dF,hq],by simp[Instr.findAsking,hs],?_,by simp[cH,hq]⟩
   simp only[Bool.and_eq_true,beq_iff_eq]at hb
   simp only[List.getElem_cons_zero]
   rw[De,ra,hb.1,hb.2]
  |false=>
   rw[hb]at hs hq
   rcases EB hp hx hk z w r ents (i+1) (by simpa using hl) (fun p hp=>kI p (by simp[hp])) (fun j h h'=>hr (j+1) (by simpa using h) (by simpa using h'))with⟨h1,h2,h3⟩ | ⟨j,h,h',h1,h2,h3,h4⟩
   ·exact .inl ⟨by simp[dF,hq,h1],by simp[Instr.findAsking,hs,h2],by simp[cH,hq,h3]⟩
   ·refine .inr ⟨j+1,by simpa using h,by simpa using h',by simp[dF,hq,h1],?_,by simpa using h3,by simp[cH,hq,h4]⟩
    simp only[Instr.findAsking,Sem.run_bind,hs,Result.andThen_ok,Bool.false_eq_true,if_false,h2,List.getElem_cons_succ]
    rw[show i+1+j=i+(j+1)by omega]
theorem wB{P:Program}{kt:TypeId}{kd:Nat}(hT:sU P kt kd){m:Mem}{x:V}{u:Value}(hx:aw m x u)(hk:bZ kd x=true)(z:V)(w:World)
 (es:List (V×V)) (ents:List MapEntry) (hl:es.length=ents.length) (kI:∀ p∈es,bZ kd p.1=true)
 (hr:∀ j (h:j<es.length) (h':j<ents.length),aw m es[j].1 ents[j].key/\aw m es[j].2 ents[j].val):
   (dF es x=none/\(Instr.findKey kt u ents).run P w=.ok none w/\cH es x z=es++[(x,z)])\/
   ∃ (j:Nat) (h:j<es.length) (h':j<ents.length),dF es x=some es[j].2/\(Instr.findKey kt u ents).run P w=.ok (some (j,ents[j].val)) w/\ents[j].key=u/\cH es x z=es.set j (x,z):=by
 have plain:∀ d,P.underlying kt=some d->((kd=0/\d=.int .i64)\/(kd=1/\d=.string))->(dF es x=none/\(Instr.findKey kt u ents).run P w=.ok none w/\cH es x z=es++[(x,z)])\/
     ∃ (j:Nat) (h:j<es.length) (h':j<ents.length),dF es x=some es[j].2/\(Instr.findKey kt u ents).run P w=.ok (some (j,ents[j].val)) w/\ents[j].key=u/\cH es x z=es.set j (x,z):=by
  intro d hd gD
  rcases Ez gD hx hk z es ents 0 hl kI hr with⟨h1,h2,h3⟩ | ⟨j,h,h',h1,h2,h3,h4⟩
  ·exact .inl ⟨h1,MapKept.run_findKey hd h2,h3⟩
  ·exact .inr ⟨j,h,h',h1,by rw[Nat.zero_add]at h2;exact MapKept.run_findKey hd h2,h3,h4⟩
 rcases hT with⟨rfl,hd⟩ | ⟨rfl,hd⟩ | ⟨rfl,hp⟩
 ·exact plain _ hd (.inl ⟨rfl,rfl⟩)
 ·exact plain _ hd (.inr ⟨rfl,rfl⟩)
 ·have key:(Instr.findKey kt u ents).run P w=(Instr.findAsking kt u ents).run P w:=by
    obtain⟨f,g,⟨fs,hu,_⟩,_⟩:=tD hp
    cases ents with
    |nil=>simp[Instr.findKey,run_underlying hu w,Instr.findNow,Instr.findAsking]
    |cons e r=>
     have :Instr.sameNow (.struct fs) u e.key=none:=by
      cases u<;>rfl
     simp[Instr.findKey,run_underlying hu w,Instr.findNow,this]
  rw[key]
  rcases EB hp hx hk z w es ents 0 hl kI hr with⟨h1,h2,h3⟩ | ⟨j,h,h',h1,h2,h3,h4⟩
  ·exact .inl ⟨h1,h2,h3⟩
  ·exact .inr ⟨j,h,h',h1,by rw[Nat.zero_add]at h2;exact h2,h3,h4⟩
def gJ(P:Program)(obj:Name->Option O)(T:TypeId)(x k:D)(Fe:Bool):R:=
 match gw P T with
 |some (kd,e)=>match (aH P e).bind fun z=>ck (eW z),ck k with
  |some z,some kv=>match x with
   | .nilmap=>⟨kd<=2/\bZ kd kv=true,if Fe then .tup [.v z,.v (.bool false)]else .v z,obj⟩
   | .map nm=>match obj nm with
     |some (.map fy es)=>⟨kd<=2/\bZ kd kv=true/\fy=kd,if Fe then .tup [.v ((dF es kv).getD z),.v (.bool (dF es kv).isSome)]else .v ((dF es kv).getD z),obj⟩
     |_=>.bad obj
   |_=>.bad obj
  |_,_=>.bad obj
 |none=>.bad obj
theorem tr{φ:Name->Loc}{obj:Name->Option O}{m:Mem}{z:V}{u:Value}{b:Bool}(h:aw m z u):al φ obj m (.tup [.v z,.v (.bool b)]) (.tuple #[u,.bool b]):=by
 refine .tup _ _ rfl fun i h1 h2=>?_
 match i,h1 with
 | 0,_=>exact .v _ _ h
 | 1,_=>exact .v _ _ (.bool b)
theorem Hw{P:Program}{G:Ghost}{φ:Name->Loc}{m:Mem}{σ:S}{a:Act}{w:World}(hC:ay G φ m σ a w){T:TypeId}{x k:D}{u uk:Value}{co:Bool}
 (hx:al φ σ.obj m x u) (hk:al φ σ.obj m k uk) (aa:(gJ P σ.obj T x k co).ok):
 ∃ v,(Instr.lookup T u uk co).run P w=.ok v w/\al φ σ.obj m (gJ P σ.obj T x k co).d v/\(gJ P σ.obj T x k co).obj=σ.obj:=by
 unfold gJ at aa |-
 cases hT:gw P T with
 |none=>simp only[hT]at aa;exact aa.elim
 |some p=>
 obtain⟨kd,e⟩:=p
 simp only[hT]at aa |-
 split at aa
 ·rename_i z kv hz l3
  have hk:=jd hk l3
  cases oL:aH P e with
  |none=>simp[oL]at hz
  |some zv=>
  simp only[oL,Option.bind_some]at hz
  have dk:aw m z zv:=jd (mV (φ:=φ) (obj:=σ.obj) (m:=m) zv) hz
  try simp only[oL,Option.bind_some,hz,l3]
  split at aa
  ·obtain⟨h1,h2⟩:=aa
   obtain⟨kt,hu,gD⟩:=s7 hT
   cases hx
   refine⟨if co then .tuple #[zv,.bool false]else zv,?_,?_,rfl⟩
   ·have eL:=tm gD hk h2 true w
    have jM:(Instr.findKey kt uk []).run P w=.ok none w:=by
     rcases wB gD hk h2 z w [] [] rfl (fun _ h=>by cases h) (fun _ h=>by cases h)with⟨_,h,_⟩ | ⟨_,h,_⟩
     ·exact h
     ·cases h
    simp[Instr.lookup,run_underlying hu,eL,jM,mP oL]
    try (split<;>rfl)
   ·cases co with
    |true=>exact tr dk
    |false=>exact .v _ _ dk
  ·rename_i nm
   split at aa
   ·rename_i fy es aj
    obtain⟨h1,h2,h3⟩:=aa
    subst h3
    obtain⟨kt,hu,gD⟩:=s7 hT
    simp only[aj]
    cases hx with
    |map _ hx=>
    obtain⟨g0,g1,kO,ents,clock,g2,g3,g4⟩:=hC.objs nm _ aj
    have eL:=tm gD hk h2 ents.isEmpty w
    have o8:=MapKept.run_getObj_map (P:=P) g2
    rcases wB gD hk h2 z w es ents.toList (by simp[g3]) kO (fun j a b=>by simpa using g4 j a (by simpa using b))with⟨a1,a2,_⟩ | ⟨j,h,h',a1,a2,a3,_⟩
    ·refine⟨if co then .tuple #[zv,.bool false]else zv,?_,?_,trivial⟩
     ·have jM:=a2
      simp[Instr.lookup,run_underlying hu,o8,eL,jM,mP oL]
      try (split<;>rfl)
     ·rw[a1]
      simp only[Option.getD_none,Option.isSome_none]
      cases co with
      |true=>exact tr dk
      |false=>exact .v _ _ dk
    ·have eg:j<ents.size:=by simpa using h'
     refine⟨if co then .tuple #[ents[j].val,.bool true]else ents[j].val,?_,?_,trivial⟩
     ·have jM:=a2
      simp[Instr.lookup,run_underlying hu,o8,eL,jM]
      try (split<;>rfl)
     ·simp only[a1,Option.getD_some,Option.isSome_some]
      have :=(g4 j h eg).2
      cases co with
      |true=>exact tr this
      |false=>exact .v _ _ this
   ·exact aa.elim
  ·exact aa.elim
 ·exact aa.elim
def fk(P:Program)(obj:Name->Option O)(T:TypeId)(x k d:D):R:=
 match gw P T,x,ck k,ck d with
 |some (kd,_),.map nm,some kv,some y=>match obj nm with
  |some (.map fy es)=>⟨kd<=2/\bZ kd kv=true/\fy=kd,.any,upd obj nm (some (.map fy (cH es kv y)))⟩
  |_=>.bad obj
 |_,_,_,_=>.bad obj
theorem xP{P:Program}{G:Ghost}{φ:Name->Loc}{m:Mem}{σ:S}{a:Act}{w:World}(hC:ay G φ m σ a w){T:TypeId}{x k d:D}{u uk ud:Value}
 (hx:al φ σ.obj m x u) (hk:al φ σ.obj m k uk) (po:al φ σ.obj m d ud) (aa:(fk P σ.obj T x k d).ok):
 ∃ w',(Instr.mapUpdate T u uk ud).run P w=.ok () w'/\∃ φ' m',ay G φ' m' { σ with obj:=(fk P σ.obj T x k d).obj } a w':=by
 unfold fk at aa |-
 split at aa
 ·rename_i kd e nm kv y hT l3 hy
  split at aa
  ·rename_i fy es aj
   obtain⟨h1,h2,h3⟩:=aa
   subst h3
   obtain⟨kt,hu,gD⟩:=s7 hT
   simp only[hT,l3,hy,aj]
   cases hx with
   |map _ hx=>
   have hk:=jd hk l3
   have qY:=jd po hy
   obtain⟨g0,g1,kO,ents,clock,g2,g3,g4⟩:=hC.objs nm _ aj
   have dd:(φ nm).blk<w.heap.size:=(Array.getElem?_eq_some_iff.1 g2).1
   have eL:=tm gD hk h2 false w
   have o8:=MapKept.run_getObj_map (P:=P) g2
   have aO:=Ext.same (φ:=φ) (o':=.map fy (cH es kv y)) aj rfl rfl
   have fin:∀ kR se,kR.size=(cH es kv y).length->(∀ j (h:j<(cH es kv y).length) (h':j<kR.size),aw m (cH es kv y)[j].1 kR[j].key/\aw m (cH es kv y)[j].2 kR[j].val)->
       (∀ q∈cH es kv y,bZ fy q.1=true)->
       ay G φ m { σ with obj:=upd σ.obj nm (some (.map fy (cH es kv y))) } a (aV w (φ nm).blk (.map kR se)):=by
    intro kR se e1 e2 e3
    have :=hC.chg (w':=aV w (φ nm).blk (.map kR se)) nm (.map fy (cH es kv y)) (φ nm) aO ⟨rfl,rfl,rfl,by simp[aV]⟩
     (fun b hb hn=>fO (by rcases hn with h | h; · rw[g1]at h;cases h
                          ·exact h))
     (fun _=>.inr ⟨⟨_,aj,rfl,g1⟩,rfl⟩) ⟨g0,g1,e3,kR,se,dN dd,e1,e2⟩
    rwa [c8]at this
   rcases wB gD hk h2 y w es ents.toList (by simp[g3]) kO (fun j a b=>by simpa using g4 j a (by simpa using b))with⟨a1,a2,a3⟩ | ⟨j,h,h',a1,a2,a3,a4⟩
   ·have jM:=a2
    refine⟨aV w (φ nm).blk (.map (ents.push { key:=uk,val:=ud,born:=clock }) (clock+1)),?_,φ,m,?_⟩
    ·simp[Instr.mapUpdate,run_underlying hu,o8,eL,jM,MapKept.run_setObj_map _ g2]
     rfl
    ·rw[a3]at fin |-
     refine fin _ _ (by simp[g3]) (fun j h h'=>?_) (fun q hq=>?_)
     ·by_cases hj:j<es.length
      ·rw[List.getElem_append_left hj,Array.getElem_push_lt (by omega)]
       exact g4 j hj (by omega)
      ·have Ow:j=es.length:=by simp at h;omega
       subst Ow
       simp only[List.getElem_append_right (Nat.le_refl _),Nat.sub_self,List.getElem_cons_zero]
       have :(ents.push { key:=uk,val:=ud,born:=clock })[es.length]={ key:=uk,val:=ud,born:=clock }:=by
        simp[<-g3]
       rw[this]
       exact⟨hk,qY⟩
     ·rcases List.mem_append.1 hq with hq | hq
      ·exact kO q hq
      ·simp only[List.mem_singleton]at hq;subst hq;exact h2
   ·have jM:=a2
    have eg:j<ents.size:=by simpa using h'
    have Rk:ents[j].key=uk:=by simpa using a3
    refine⟨aV w (φ nm).blk (.map (ents.modify j fun e=>{ e with key:=uk,val:=ud }) clock),?_,φ,m,?_⟩
    ·simp[Instr.mapUpdate,run_underlying hu,o8,eL,jM,Array.getElem?_eq_getElem eg,Rk,IJ (P:=P) (KT gD) hk h2 w,MapKept.run_setObj_map _ g2]
     rfl
    ·rw[a4]at fin |-
     refine fin _ _ (by simp[g3]) (fun q hq bu=>?_) (fun q hq=>?_)
     ·simp only[List.getElem_set,Array.getElem_modify]
      by_cases hj:j=q
      ·subst hj;simp only[if_true];exact⟨hk,qY⟩
      ·simp only[hj,if_false];exact g4 q (by simpa using hq) (by simpa using bu)
     ·rcases List.mem_or_eq_of_mem_set hq with hq | hq
      ·exact kO q hq
      ·subst hq;exact h2
  ·exact aa.elim
 ·exact aa.elim
def mS(P:Program)(T:TypeId)(l:List V)(off:Nat):Option V:=
 match aE P T with
 |some (true,n)=>if off+n<=l.length then some (.agg ((l.drop off).take n))else none
 |some (false,_)=>l[off]?
 |none=>none
def nM(P:Program)(g:TypeId->V->V->Option Bool):List Field->List V->List V->Option Bool
 |[],_,_=>some true
 |f::r,xs,ys=>if f.name= "_" then nM P g r xs ys else
  match mS P f.type xs f.offset,mS P f.type ys f.offset with
  |some a,some b=>match g f.type a b with
   |some true=>nM P g r xs ys
   |some false=>some false
   |none=>none
  |_,_=>none
def pD(P:Program)(g:TypeId->V->V->Option Bool)(e:TypeId)(n:Nat):List Nat->List V->List V->Option Bool
 |[],_,_=>some true
 |i::r,xs,ys=>match mS P e xs (i*n),mS P e ys (i*n)with
  |some a,some b=>match g e a b with
   |some true=>pD P g e n r xs ys
   |some false=>some false
   |none=>none
  |_,_=>none
def jU(P:Program):Nat->TypeId->V->V->Option Bool
 | 0,_,_,_=>none
 |d+1,T,x,y=>match P.underlying T with
  |some .bool=>match x,y with | .bool a,.bool b=>some (a==b) | _,_=>none
  |some (.int _)=>match x,y with | .int k a,.int k' b=>if k=k' then some (a==b)else none | _,_=>none
  |some .string=>match x,y with | .str a,.str b=>some (a==b) | _,_=>none
  |some (.struct fs)=>match x,y with | .agg xs,.agg ys=>if P.stoodInHeld T=true then none else nM P (jU P d) fs.toList xs ys | _,_=>none
  |some (.array len e)=>match x,y with | .agg xs,.agg ys=>(match aE P e with | some (_,n)=>pD P (jU P d) e n (List.range' 0 len) xs ys | none=>none) | _,_=>none
  |_=>none
theorem p8{P:Program}{m:Mem}{T:TypeId}{xs:List V}{us:Array Value}{off:Nat}{a:V}(h:mS P T xs off=some a)(hl:xs.length=us.size)(ho:∀ x∈xs,x.one=true)
 (hr:∀ i (h:i<xs.length) (h':i<us.size),aw m xs[i] us[i]) (w:World):∃ u,(part T us off).run P w=.ok u w/\aw m a u:=by
 unfold mS at h
 split at h
 ·rename_i n hT
  split at h
  ·rename_i hle
   cases h
   refine⟨_,kb hT us off (fun h=>by cases h) w,?_⟩
   simp only[if_true]
   refine .agg _ _ (by simp;omega) (fun x hx=>ho x (List.mem_of_mem_drop (List.mem_of_mem_take hx))) fun i h1 h2=>?_
   simp only[List.length_take,List.length_drop]at h1
   simp only[List.getElem_take,List.getElem_drop,Array.getElem_extract]
   exact hr (off+i) (by omega) (by omega)
  ·cases h
 ·rename_i n hT
  obtain⟨ae,rfl⟩:=List.getElem?_eq_some_iff.1 h
  refine⟨_,kb hT us off (fun _=>by omega) w,?_⟩
  have ax:off<us.size:=by omega
  simp only[Bool.false_eq_true,if_false]
  have :us.getD off undef=us[off]:=by simp[Array.getD,ax]
  rw[this]
  exact hr off ae ax
 ·cases h
theorem ES{P:Program}{m:Mem}(w:World):∀ (d:Nat) (T:TypeId) (x y:V) (u v:Value) (b:Bool),jU P d T x y=some b->aw m x u->aw m y v->(Op.equalIn d T u v).run P w=.ok b w
 | 0,T,x,y,u,v,b,h,_,_=>by simp[jU]at h
 |d+1,T,x,y,u,v,b,h,hx,hy=>by
  have ih:=ES (P:=P) (m:=m) w d
  have fields:∀ (fs:List Field) (xs ys:List V) (us vs:Array Value) (b:Bool),nM P (jU P d) fs xs ys=some b->aw m (.agg xs) (.agg us)->aw m (.agg ys) (.agg vs)->
      (forIn (m:=Sem) fs ((none,()):Option Bool×Unit) (fun f _=>do
        if f.name≠ "_" then
          if !(<-Op.equalIn d f.type (<-part f.type us f.offset) (<-part f.type vs f.offset))then pure (ForInStep.done (some false,()))
          else pure (ForInStep.yield (none,()))
        else pure (ForInStep.yield (none,())))).run P w=.ok (if b then(none,())else(some false,())) w:=by
   intro fs
   induction fs with
   |nil=>
    intro xs ys us vs b h _ _
    simp only[nM,Option.some.injEq]at h
    subst h
    rfl
   |cons f r qS=>
    intro xs ys us vs b h hx hy
    simp only[nM]at h
    rw[List.forIn_cons]
    by_cases hn:f.name= "_"
    ·rw[if_pos hn]at h
     simp only[hn,ne_eq,not_true_eq_false,if_false,Sem.run_bind,Sem.run_pure,Result.andThen_ok]
     exact qS xs ys us vs b h hx hy
    ·rw[if_neg hn]at h
     simp only[hn,ne_eq,not_false_eq_true,if_true]
     split at h
     ·rename_i a1 b1 ha hb
      cases hx with
      |agg _ _ jJ ga bk=>
      cases hy with
      |agg _ _ ee dR bX=>
      obtain⟨u1,dH,cz⟩:=p8 ha jJ ga bk w
      obtain⟨v1,oO,ky⟩:=p8 hb ee dR bX w
      split at h
      ·rename_i he
       have :=ih f.type a1 b1 u1 v1 true he cz ky
       simp only[Sem.run_bind,dH,Result.andThen_ok,oO,this,Bool.not_true,Bool.false_eq_true,if_false,Sem.run_pure,Sem.run_ite]
       exact qS xs ys us vs b h (.agg _ _ jJ ga bk) (.agg _ _ ee dR bX)
      ·rename_i he
       cases h
       have :=ih f.type a1 b1 u1 v1 false he cz ky
       simp only[Sem.run_bind,dH,Result.andThen_ok,oO,this,Bool.not_false,if_true,Sem.run_pure,Sem.run_ite]
       rfl
      ·cases h
     ·cases h
  have items:∀ (e n:Nat) (il:List Nat) (xs ys:List V) (us vs:Array Value) (b:Bool),pD P (jU P d) e n il xs ys=some b->aw m (.agg xs) (.agg us)->aw m (.agg ys) (.agg vs)->
      (forIn (m:=Sem) il ((none,()):Option Bool×Unit) (fun i _=>do
          if !(<-Op.equalIn d e (<-part e us (i*n)) (<-part e vs (i*n)))then pure (ForInStep.done (some false,()))
          else pure (ForInStep.yield (none,())))).run P w=.ok (if b then(none,())else(some false,())) w:=by
   intro e n il
   induction il with
   |nil=>
    intro xs ys us vs b h _ _
    simp only[pD,Option.some.injEq]at h
    subst h
    rfl
   |cons i r qS=>
    intro xs ys us vs b h hx hy
    simp only[pD]at h
    rw[List.forIn_cons]
    split at h
    ·rename_i a1 b1 ha hb
     cases hx with
     |agg _ _ jJ ga bk=>
     cases hy with
     |agg _ _ ee dR bX=>
     obtain⟨u1,dH,cz⟩:=p8 ha jJ ga bk w
     obtain⟨v1,oO,ky⟩:=p8 hb ee dR bX w
     split at h
     ·rename_i he
      have :=ih e a1 b1 u1 v1 true he cz ky
      simp only[Sem.run_bind,dH,Result.andThen_ok,oO,this,Bool.not_true,Bool.false_eq_true,if_false,Sem.run_pure,Sem.run_ite]
      exact qS xs ys us vs b h (.agg _ _ jJ ga bk) (.agg _ _ ee dR bX)
     ·rename_i he
      cases h
      have :=ih e a1 b1 u1 v1 false he cz ky
      simp only[Sem.run_bind,dH,Result.andThen_ok,oO,this,Bool.not_false,if_true,Sem.run_pure,Sem.run_ite]
      rfl
     ·cases h
    ·cases h
  simp only[jU]at h
  split at h
  ·rename_i hT
   split at h
   ·cases hx;cases hy
    cases h
    simp[Op.equalIn,run_underlying hT w]
   ·cases h
  ·rename_i k hT
   split at h
   ·cases hx;cases hy
    split at h
    ·rename_i hk
     cases h
     simp[Op.equalIn,run_underlying hT w,hk]
    ·cases h
   ·cases h
  ·rename_i hT
   split at h
   ·cases hx;cases hy
    cases h
    simp[Op.equalIn,run_underlying hT w]
   ·cases h
  ·rename_i fs hT
   split at h
   ·rename_i xs ys
    split at h
    ·cases h
    ·rename_i hs
     cases hx with
     |agg _ us jJ ga bk=>
     cases hy with
     |agg _ vs ee dR bX=>
     have hf:=fields fs.toList xs ys us vs b h (.agg _ _ jJ ga bk) (.agg _ _ ee dR bX)
     have hp:(Sem.run P program w)=.ok P w:=rfl
     unfold Op.equalIn
     simp only[Sem.run_bind,run_underlying hT w,Result.andThen_ok,hp,hs,Bool.false_eq_true,if_false,Sem.run_ite]
     rw[<-Array.forIn_toList]
     rw[hf]
     cases b<;>rfl
   ·cases h
  ·rename_i len e hT
   split at h
   ·rename_i xs ys
    split at h
    ·rename_i g n hn
     cases hx with
     |agg _ us jJ ga bk=>
     cases hy with
     |agg _ vs ee dR bX=>
     have hf:=items e n (List.range' 0 len) xs ys us vs b h (.agg _ _ jJ ga bk) (.agg _ _ ee dR bX)
     unfold Op.equalIn
     simp only[Sem.run_bind,run_underlying hT w,Result.andThen_ok,ka hn w,Std.Legacy.Range.forIn_eq_forIn_range',Std.Legacy.Range.size,Nat.sub_zero,Nat.add_sub_cancel,Nat.div_one]
     rw[hf]
     cases b<;>rfl
    ·cases h
   ·cases h
  ·cases h
def kZ(P:Program)(obj:Name->Option O)(op:BinOp)(T:TypeId)(x y:V):R:=
 match jU P Op.maxDepth T x y with
 |some b=>⟨P.eqGuardType P.depth T=false/\(op=.eql\/op=.neq),.v (.bool (if op=.eql then b else !b)),obj⟩
 |none=>.bad obj
def jY(P:Program)(obj:Name->Option O)(op:BinOp)(T:TypeId)(x:D):R:=
 match x with
 | .v (.sl (_::_))=>⟨bJ P T=some 0/\(op=.eql\/op=.neq),.v (.bool (if op=.eql then false else true)),obj⟩
 | .msl nm (k+1)=>⟨(obj nm).bind O.len?=some (k+1)/\bJ P T=some 0/\(op=.eql\/op=.neq),.v (.bool (if op=.eql then false else true)),obj⟩
 |_=>.bad obj
def qO:Operand->Bool
 | .const (.slice none _ _)=>true
 |_=>false
def gQ(P:Program)(obj:Name->Option O)(op:BinOp)(T:TypeId)(x y:D)(fU:Bool):R:=
 match fU with
 |true=>jY P obj op T x
 |false=>match ck x,ck y with
  |some (.agg a),some (.agg b)=>kZ P obj op T (.agg a) (.agg b)
  |_,_=>iy P obj op T x y
theorem IL{P:Program}{T e:TypeId}(hu:P.underlying T=some (.slice e))(d:Nat)(p:Addr)(k c' n c:Nat)(w:World):(Op.equalIn (d+1) T (.slice (some p) k c') (.slice none n c)).run P w=.ok false w:=by
 simp[Op.equalIn,run_underlying hu w]
theorem Hs{P:Program}{G:Ghost}{φ:Name->Loc}{m:Mem}{σ:S}{a:Act}{w:World}(hC:ay G φ m σ a w){T:TypeId}{op:BinOp}{x:D}{u:Value}{cx cy:Operand}{n c:Nat}(hx:al φ σ.obj m x u)
 (aa:(jY P σ.obj op T x).ok):
 ∃ r,(do eqGuard op T cx cy u (.slice none n c);binOp op T u (.slice none n c):Sem Value).run P w=.ok r w/\al φ σ.obj m (jY P σ.obj op T x).d r/\(jY P σ.obj op T x).obj=σ.obj:=by
 have key:∀ (p:Addr) (k c':Nat),u=.slice (some p) k c'->bJ P T=some 0->(op=.eql\/op=.neq)->
     (do eqGuard op T cx cy u (.slice none n c);binOp op T u (.slice none n c):Sem Value).run P w=.ok (.bool (if op=.eql then false else true)) w:=by
  rintro p k c' rfl hT ho
  obtain⟨e,hu⟩:=G8 hT
  have he:(Op.equal T (.slice (some p) k c') (.slice none n c)).run P w=.ok false w:=by
   exact IL hu 9999 p k c' n c w
  rcases ho with rfl | rfl
  ·have h1:binOp .eql T (.slice (some p) k c') (.slice none n c)=(do pure (.bool (<-Op.equal T (.slice (some p) k c') (.slice none n c)))):=rfl
   rw[h1]
   simp[eqGuard,he]
  ·have h1:binOp .neq T (.slice (some p) k c') (.slice none n c)=(do pure (.bool (!(<-Op.equal T (.slice (some p) k c') (.slice none n c))))):=rfl
   rw[h1]
   simp[eqGuard,he]
 unfold jY at aa |-
 split at aa
 ·rename_i y r
  cases hx with
  |v _ _ hx=>
  cases hx with
  |sl _ b o cap sz c' hn hl fg hs hc hr ho=>exact⟨_,key _ _ _ rfl aa.1 aa.2,.v _ _ (.bool _),rfl⟩
 ·rename_i nm k
  obtain⟨h1,h2,h3⟩:=aa
  cases hx with
  |msl _ _ _ hq hu=>
  obtain⟨o,n',ho,hlen,hk,hv⟩:=hq
  simp only[ho,Option.bind_some]at h1
  rw[hlen]at h1
  cases h1
  have hv:=hv rfl
  obtain⟨b,c',h4,_⟩:=te (P:=P) hC ho hlen
  have bC:(φ nm).nul=false:=by
   have :=hC.objs nm o ho
   cases o with
   |arr sz l=>
    simp only[O.len?,Option.some.injEq]at hlen
    rcases this with⟨_,h⟩ | ⟨h,_⟩
    ·subst h;simp at hlen
    ·exact h
   |farr sz l=>
    simp only[O.len?,Option.some.injEq]at hlen
    rcases this with⟨_,h⟩ | ⟨h,_⟩
    ·subst h;simp at hlen
    ·exact h
   |dead sz q=>
    simp only[O.len?,Option.some.injEq]at hlen
    rcases this with⟨_,h⟩ | ⟨h,_⟩
    ·omega
    ·exact h
   |_=>cases hlen
  have hs:(φ nm).slice (k+1)=.slice (some ⟨(φ nm).blk,(φ nm).off,none⟩) (k+1) (φ nm).cap:=by unfold Loc.slice;rw[bC];rfl
  exact⟨_,key _ _ _ (hv.trans hs) h2 h3,.v _ _ (.bool _),rfl⟩
 ·exact aa.elim
theorem HE{P:Program}{φ:Name->Loc}{obj:Name->Option O}{m:Mem}{T:TypeId}{op:BinOp}{x y:List V}{u v:Value}{cx cy:Operand}(w:World)(hx:aw m (.agg x) u)(hy:aw m (.agg y) v)
 (aa:(kZ P obj op T (.agg x) (.agg y)).ok):
 ∃ r,(do eqGuard op T cx cy u v;binOp op T u v:Sem Value).run P w=.ok r w/\al φ obj m (kZ P obj op T (.agg x) (.agg y)).d r/\(kZ P obj op T (.agg x) (.agg y)).obj=obj:=by
 unfold kZ at aa |-
 split at aa
 ·rename_i b hb
  obtain⟨h1,h2⟩:=aa
  have he:(Op.equal T u v).run P w=.ok b w:=ES w _ T _ _ u v b hb hx hy
  have hp:(Sem.run P program w)=.ok P w:=rfl
  cases hx with
  |agg _ us _ _ _=>
  cases hy with
  |agg _ vs _ _ _=>
  refine⟨.bool (if op=.eql then b else !b),?_,?_,?_⟩
  ·rcases h2 with rfl | rfl
   ·have h3:binOp .eql T (.agg us) (.agg vs)=(do pure (.bool (<-Op.equal T (.agg us) (.agg vs)))):=rfl
    rw[h3]
    simp[eqGuard,he,hp,h1]
   ·have h3:binOp .neq T (.agg us) (.agg vs)=(do pure (.bool (!(<-Op.equal T (.agg us) (.agg vs))))):=rfl
    rw[h3]
    simp[eqGuard,he,hp,h1]
  ·first | exact .v _ _ (.bool _) | (rw[hb];exact .v _ _ (.bool _))
  ·first | rfl | (rw[hb])
 ·exact aa.elim
theorem HK{P:Program}{G:Ghost}{φ:Name->Loc}{m:Mem}{σ:S}{a:Act}{w:World}(hC:ay G φ m σ a w){T:TypeId}{op:BinOp}{x y:D}{u v:Value}{cx cy:Operand}{fU:Bool}
 (hx:al φ σ.obj m x u) (hy:al φ σ.obj m y v) (hn:fU=true->∃ n c,v=.slice none n c) (aa:(gQ P σ.obj op T x y fU).ok):
 ∃ r,(do eqGuard op T cx cy u v;binOp op T u v:Sem Value).run P w=.ok r w/\al φ σ.obj m (gQ P σ.obj op T x y fU).d r/\(gQ P σ.obj op T x y fU).obj=σ.obj:=by
 unfold gQ at aa |-
 cases fU with
 |true=>
  obtain⟨n,c,rfl⟩:=hn rfl
  exact Hs hC hx aa
 |false=>
  simp only at aa |-
  split at aa
  ·rename_i l1 l2 h1 h2
   exact HE w (jd hx h1) (jd hy h2) aa
  ·exact HL w hx hy aa
def aB:D->List Name
 | .ref nm _=>[nm]
 | .msl nm _=>[nm]
 | .aref nm _ _ _=>[nm]
 | .map nm=>[nm]
 |_=>[]
def cg(f:D->List Name):List D->List Name
 |[]=>[]
 |d::r=>f d++cg f r
def fp:Nat->(Name->Option O)->D->List Name
 | 0,_,_=>[]
 |n+1,obj,d=>match d with
  | .msl nm _=>[nm]
  | .ref nm _=>nm::(match obj nm with
    |some (.box cs)=>cg (fp n obj) cs
    |_=>[])
  | .agg l=>cg (fp n obj) l
  | .tup l=>cg (fp n obj) l
  | .clo _ f c=>cg (fp n obj) f++cg (fp n obj) c
  |_=>[]
def a7(ns:List Name)(o o2:Name->Option O):Prop:=∀ nm∈ns,o2 nm=o nm
structure bj (r r2:R) (obj obj2:Name->Option O) (wr:List Name):Prop where
 ok:r2.ok=r.ok
 d:r2.d=r.d
 eff:∀ nm,r2.obj nm=if nm∈wr then r.obj nm else obj2 nm
 frame:∀ nm,nm∉wr->r.obj nm=obj nm
theorem bj.same{r r2:R}{obj obj2:Name->Option O}(h1:r2.ok=r.ok)(h2:r2.d=r.d)(h3:r.obj=obj)(h4:r2.obj=obj2):bj r r2 obj obj2 []:=
 ⟨h1,h2,fun nm=>by rw[h4];simp,fun nm _=>by rw[h3]⟩
theorem bj.one{ok:Prop}{d:D}{obj obj2:Name->Option O}{nm:Name}{o:Option O}{wr:List Name}(h:nm∈wr)(ha:a7 wr obj obj2):bj ⟨ok,d,upd obj nm o⟩ ⟨ok,d,upd obj2 nm o⟩ obj obj2 wr:=by
 refine⟨rfl,rfl,fun x=>?_,fun x hx=>?_⟩
 ·show upd obj2 nm o x=if x∈wr then upd obj nm o x else obj2 x
  by_cases hx:x=nm
  ·subst hx;rw[aD,aD,if_pos h]
  ·rw[aU _ _ _ hx,aU _ _ _ hx]
   split
   ·exact ha x (by assumption)
   ·rfl
 ·show upd obj nm o x=obj x
  rw[aU];rintro rfl;exact hx h
theorem bj.none{ok:Prop}{d:D}{obj obj2:Name->Option O}(wr:List Name)(ha:a7 wr obj obj2):bj ⟨ok,d,obj⟩ ⟨ok,d,obj2⟩ obj obj2 wr:=by
 refine⟨rfl,rfl,fun x=>?_,fun x _=>rfl⟩
 show obj2 x=if x∈wr then obj x else obj2 x
 split
 ·exact ha x (by assumption)
 ·rfl
section
variable {P:Program} {obj obj2:Name->Option O}
theorem JL{T:TypeId}{x:D}(h:a7 (aB x) obj obj2):bj (eR P obj T x) (eR P obj2 T x) obj obj2 []:=by
 cases x with
 |ref nm off=>
  have h':obj2 nm=obj nm:=h nm (by simp[aB])
  rcases hT:aE P T with _ | ⟨_ | _,_ | _ | n⟩<;>rcases ho:obj nm with _ | o<;>(try cases o)<;>simp only[eR,h',ho,hT,Option.bind_none,Option.bind_some]<;>first
   |exact .same rfl rfl rfl rfl
   |((repeat' split)<;>exact .same rfl rfl rfl rfl)
 |aref nm k i off=>
  have h':obj2 nm=obj nm:=h nm (by simp[aB])
  rcases hT:aE P T with _ | ⟨_ | _,_ | _ | n⟩<;>rcases ho:obj nm with _ | o<;>(try cases o)<;>simp only[eR,h',ho,hT,Option.bind_none,Option.bind_some]<;>first
   |exact .same rfl rfl rfl rfl
   |((repeat' split)<;>exact .same rfl rfl rfl rfl)
 |_=>unfold eR;(repeat' split)<;>first | exact .same rfl rfl rfl rfl | (exfalso;simp_all;done)
theorem JQ{T:TypeId}{f:Nat}{x:D}(h:a7 (aB x) obj obj2):bj (gq P obj T f x) (gq P obj2 T f x) obj obj2 []:=by
 cases x with
 |aref nm k i off=>
  have h':obj2 nm=obj nm:=h nm (by simp[aB])
  rcases hT:be P T f with _ | ⟨_,_,_⟩<;>rcases ho:obj nm with _ | o<;>(try cases o)<;>simp only[gq,h',ho,hT,Option.bind_none,Option.bind_some]<;>first
   |exact .same rfl rfl rfl rfl
   |((repeat' split)<;>exact .same rfl rfl rfl rfl)
 |_=>unfold gq;(repeat' split)<;>first | exact .same rfl rfl rfl rfl | (exfalso;simp_all;done)
theorem JH{x:D}(h:a7 (aB x) obj obj2):bj (fL obj x) (fL obj2 x) obj obj2 []:=by
 cases x with
 |aref nm k i off=>
  have h':obj2 nm=obj nm:=h nm (by simp[aB])
  rcases ho:obj nm with _ | o<;>(try cases o)<;>simp only[fL,h',ho,Option.bind_none,Option.bind_some]<;>first
   |exact .same rfl rfl rfl rfl
   |((repeat' split)<;>exact .same rfl rfl rfl rfl)
 |_=>unfold fL;(repeat' split)<;>first | exact .same rfl rfl rfl rfl | (exfalso;simp_all;done)
theorem JM{T:TypeId}{x:D}(h:a7 (aB x) obj obj2):bj (fM P obj T x) (fM P obj2 T x) obj obj2 []:=by
 cases x with
 |msl nm k=>
  have h':obj2 nm=obj nm:=h nm (by simp[aB])
  rcases hT:bJ P T with _ | _ | _ | _ | n<;>rcases ho:obj nm with _ | o<;>(try cases o)<;>simp only[fM,h',ho,hT,Option.bind_none,Option.bind_some]<;>first
   |exact .same rfl rfl rfl rfl
   |((repeat' split)<;>exact .same rfl rfl rfl rfl)
 |map nm=>
  have h':obj2 nm=obj nm:=h nm (by simp[aB])
  rcases hT:bJ P T with _ | _ | _ | _ | n<;>rcases ho:obj nm with _ | o<;>(try cases o)<;>simp only[fM,h',ho,hT,Option.bind_none,Option.bind_some]<;>first
   |exact .same rfl rfl rfl rfl
   |((repeat' split)<;>exact .same rfl rfl rfl rfl)
 |_=>unfold fM;(repeat' split)<;>first | exact .same rfl rfl rfl rfl | (exfalso;simp_all;done)
theorem JO{T:TypeId}{x i:D}(h:a7 (aB x) obj obj2):bj (gp P obj T x i) (gp P obj2 T x i) obj obj2 []:=by
 cases x with
 |msl nm k=>
  have h':obj2 nm=obj nm:=h nm (by simp[aB])
  cases i<;>(try (rename_i y;cases y))<;>rcases hT:bg P T with _ | ⟨_,_,_⟩<;>rcases ho:obj nm with _ | o<;>(try cases o)<;>simp only[gp,h',ho,hT,Option.bind_none,Option.bind_some]<;>first
   |exact .same rfl rfl rfl rfl
   |((repeat' split)<;>exact .same rfl rfl rfl rfl)
 |_=>unfold gp;(repeat' split)<;>first | exact .same rfl rfl rfl rfl | (exfalso;simp_all;done)
theorem JK{T:TypeId}{x k:D}{co:Bool}(h:a7 (aB x) obj obj2):bj (gJ P obj T x k co) (gJ P obj2 T x k co) obj obj2 []:=by
 unfold gJ
 split
 ·split
  ·cases x with
   |map nm=>
    have h':obj2 nm=obj nm:=h nm (by simp[aB])
    simp only[h']
    rcases ho:obj nm with _ | o<;>(try cases o)<;>exact .same rfl rfl rfl rfl
   |_=>exact .same rfl rfl rfl rfl
  ·exact .same rfl rfl rfl rfl
 ·exact .same rfl rfl rfl rfl
theorem JF{T:TypeId}{x:D}{lo hi mx:Option D}(h:a7 (aB x) obj obj2):bj (er P obj T x lo hi mx) (er P obj2 T x lo hi mx) obj obj2 (aB x):=by
 cases x with
 |msl nm k=>
  have h':obj2 nm=obj nm:=h nm (by simp[aB])
  rcases mx with _ | y
  ·unfold er
   simp only[h']
   rcases obj nm with _ | o<;>(try cases o)<;>rcases bg P T with _ | ⟨_,_,_⟩<;>rcases dt lo with _ | _<;>rcases fG k hi with _ | _<;>first
    |exact .none _ h
    |exact .one (by simp[aB]) h
  ·cases y with
   |v z=>
    cases z with
    |int kk n=>
     rcases n with n | n
     ·rcases n with _ | n
      ·simp only[er,Int.ofNat_eq_natCast,Int.cast_ofNat_Int,h']
       rcases hT:bg P T with _ | ⟨_,_,_⟩<;>(repeat' split)<;>first
        |exact .none _ h
        |(exfalso;simp_all;done)
      ·exact .none _ h
     ·exact .none _ h
    |_=>exact .none _ h
   |_=>exact .none _ h
 |ref nm off=>
  have h':obj2 nm=obj nm:=h nm (by simp[aB])
  rcases mx with _ | y
  ·unfold er
   simp only[h']
   rcases lo with _ | _<;>rcases hi with _ | _<;>rcases dP P T with _ | ⟨_,_,_⟩<;>rcases obj nm with _ | o<;>(try cases o)<;>exact .none _ h
  ·unfold er;(repeat' split)<;>first | exact .none _ h | (exfalso;simp_all;done)
 |_=>unfold er;(repeat' split)<;>first | exact .none _ h | (exfalso;simp_all;done)
theorem JE{T:TypeId}{x d:D}(h:a7 (aB x) obj obj2):bj (fK P obj T x d) (fK P obj2 T x d) obj obj2 (aB x):=by
 cases x with
 |ref nm off=>
  have h':obj2 nm=obj nm:=h nm (by simp[aB])
  unfold fK
  rcases aE P T with _ | ⟨b,n⟩
  ·exact .none _ h
  simp only[h']
  rcases obj nm with _ | o<;>(try cases o)<;>first
   |exact .none _ h
   |exact .one (by simp[aB]) h
 |aref nm k i off=>
  have h':obj2 nm=obj nm:=h nm (by simp[aB])
  unfold fK
  rcases aE P T with _ | ⟨b,n⟩
  ·exact .none _ h
  simp only[h']
  rcases obj nm with _ | o<;>(try cases o)<;>rcases ck d with _ | y<;>first
   |exact .none _ h
   |exact .one (by simp[aB]) h
 |_=>unfold fK;(repeat' split)<;>first | exact .none _ h | (exfalso;simp_all;done)
theorem zf{T:TypeId}{x k d:D}(h:a7 (aB x) obj obj2):bj (fk P obj T x k d) (fk P obj2 T x k d) obj obj2 (aB x):=by
 cases x with
 |map nm=>
  have h':obj2 nm=obj nm:=h nm (by simp[aB])
  unfold fk
  rcases gw P T with _ | ⟨kd,e⟩
  ·exact .none _ h
  rcases ck k with _ | kv<;>rcases ck d with _ | y<;>first
   |exact .none _ h
   |(simp only[h']
     rcases obj nm with _ | o<;>(try cases o)<;>first
      |exact .none _ h
      |exact .one (by simp[aB]) h)
 |_=>unfold fk;(repeat' split)<;>first | exact .none _ h | (exfalso;simp_all;done)
theorem zh{t:Name}{x:D}(h:a7 [aI t] obj obj2):bj (gP obj t x) (gP obj2 t x) obj obj2 [aI t]:=by
 have h1:=h (aI t) (by simp)
 unfold gP
 simp only[h1]
 exact .one (by simp) h
theorem JZ{t:Name}{T:TypeId}(h:a7 [aI t] obj obj2):bj (iz P obj t T) (iz P obj2 t T) obj obj2 [aI t]:=by
 unfold iz
 split
 ·exact zh h
 ·exact .none _ h
theorem JJ{t:Name}{T:TypeId}{r:Option D}(h:a7 [aI t] obj obj2):bj (iv P obj t T r) (iv P obj2 t T r) obj obj2 [aI t]:=by
 have h1:=h (aI t) (by simp)
 unfold iv
 rcases gw P T with _ | ⟨kd,e⟩
 ·exact .none _ h
 cases r
 ·simp only[h1]
  exact .one (by simp) h
 ·exact .none _ h
theorem JI{t:Name}{T:TypeId}{l c:D}(h:a7 [aI t] obj obj2):bj (iu P obj t T l c) (iu P obj2 t T l c) obj obj2 [aI t]:=by
 have h1:=h (aI t) (by simp)
 unfold iu
 split
 ·split
  ·simp only[h1]
   exact .one (by simp) h
  ·exact .none _ h
 ·exact .none _ h
theorem xE{x:D}(h:a7 (aB x) obj obj2):av obj2 x=av obj x:=by
 cases x with
 |msl nm k=>
  have h':obj2 nm=obj nm:=h nm (by simp[aB])
  unfold av
  simp only[h']
 |v y=>cases y<;>rfl
 |_=>rfl
theorem uf{t:Name}{T1 T2:TypeId}{s x:D}(h:a7 (aB s++aB x++[aI t]) obj obj2):
 bj (bI P obj t T1 T2 s x) (bI P obj2 t T1 T2 s x) obj obj2 (aB s++aB x++[aI t]):=by
 have h1:=h (aI t) (by simp)
 have h2:av obj2 x=av obj x:=xE fun nm hn=>h nm (by simp[hn])
 unfold bI
 rcases bg P T1 with _ | ⟨e,sz,b⟩
 ·exact .none _ h
 rcases bg P T2 with _ | _
 ·exact .none _ h
 simp only[h1,h2]
 rcases aH P e with _ | z
 ·exact .none _ h
 cases s with
 |nilsl=>exact .one (by simp) h
 |msl nm k=>
  have h':obj2 nm=obj nm:=h nm (by simp[aB])
  simp only[h']
  rcases obj nm with _ | o<;>(try cases o)<;>first
   |exact .none _ h
   |exact .one (by simp[aB]) h
 |_=>exact .none _ h
end
def Fz(obj obj':Name->Option O):Prop:=∀ nm,obj' nm=obj nm\/∃ o o',obj nm=some o/\o.mut=true/\obj' nm=some o'/\o'.mut=false
theorem Fz.refl(obj:Name->Option O):Fz obj obj:=fun _=>.inl rfl
theorem Fz.trans{a b c:Name->Option O}(h:Fz a b)(k:Fz b c):Fz a c:=by
 intro nm
 rcases k nm with e | ⟨o,o',h1,h2,h3,h4⟩
 ·rw[e];exact h nm
 ·rcases h nm with e | ⟨q,q',g1,g2,g3,g4⟩
  ·exact .inr ⟨o,o',e▸h1,h2,h3,h4⟩
  ·rw[h1]at g3;cases g3;rw[h2]at g4;cases g4
theorem Fz.one{obj obj':Name->Option O}{nm:Name}{o o':O}(h:Fz obj obj')(h1:obj nm=some o)(h2:o.mut=true)(h3:o'.mut=false):Fz obj (upd obj' nm (some o')):=by
 intro x
 by_cases hx:x=nm
 ·subst hx;exact .inr ⟨o,o',h1,h2,aD _ _ _,h3⟩
 ·rw[aU _ _ _ hx];exact h x
theorem py{f:(Name->Option O)->D->FR}(hf:∀ obj d,Fz obj (f obj d).obj):∀ (l:List D) (obj:Name->Option O),Fz obj (aG f obj l).obj
 |[],obj=>.refl obj
 |d::r,obj=>(hf obj d).trans (py hf r _)
theorem pw:∀ (n:Nat) (obj:Name->Option O) (d:D),Fz obj (aq n obj d).obj
 | 0,obj,d=>by cases d<;>exact .refl obj
 |n+1,obj,d=>by
  have ih:∀ (l:List D) (obj:Name->Option O),Fz obj (aG (aq n) obj l).obj:=py (pw n)
  cases d with
  |msl nm k=>
   unfold aq
   simp only
   rcases ho:obj nm with _ | o
   ·exact .refl obj
   ·cases o<;>first
      |exact .refl obj
      |exact Fz.one (.refl obj) ho rfl rfl
  |ref nm off=>
   unfold aq
   simp only
   rcases ho:obj nm with _ | o
   ·exact .refl obj
   ·cases o<;>first
      |exact .refl obj
      |exact Fz.one (ih _ obj) ho rfl rfl
  |agg l=>exact ih l obj
  |tup l=>exact ih l obj
  |clo fn f c=>exact(ih f obj).trans (ih c _)
  |_=>exact .refl obj
theorem rY{f g:D->List Name}(h:∀ d,∀ nm∈f d,nm∈g d):∀ (l:List D),∀ nm∈cg f l,nm∈cg g l
 |[],nm,hn=>hn
 |d::r,nm,hn=>by
  rcases List.mem_append.1 hn with hn | hn
  ·exact List.mem_append_left _ (h d nm hn)
  ·exact List.mem_append_right _ (rY h r nm hn)
theorem wx{obj obj':Name->Option O}(h:Fz obj obj'):∀ (n:Nat) (d:D),∀ nm∈fp n obj' d,nm∈fp n obj d
 | 0,d,nm,hn=>by cases d<;>exact hn
 |n+1,d,nm,hn=>by
  have ih:∀ (l:List D),∀ nm∈cg (fp n obj') l,nm∈cg (fp n obj) l:=rY (wx h n)
  cases d with
  |ref x off=>
   simp only[fp]at hn |-
   rcases List.mem_cons.1 hn with hn | hn
   ·exact hn▸List.mem_cons_self
   ·refine List.mem_cons_of_mem _ ?_
    rcases h x with e | ⟨o,o',h1,h2,h3,h4⟩
    ·rw[e]at hn
     rcases ho:obj x with _ | o
     ·rw[ho]at hn;simp at hn
     ·rw[ho]at hn
      cases o<;>first
       |exact ih _ nm hn
       |(simp at hn;done)
    ·rw[h3]at hn
     cases o'<;>simp[O.mut]at h4<;>simp at hn
  |agg l=>exact ih l nm hn
  |tup l=>exact ih l nm hn
  |clo fn f c=>
   rcases List.mem_append.1 hn with hn | hn
   ·exact List.mem_append_left _ (ih f nm hn)
   ·exact List.mem_append_right _ (ih c nm hn)
  |_=>exact hn
structure gv (ok ok2:Prop) (o o2 obj obj2:Name->Option O) (W:List Name):Prop where
 ok:ok2=ok
 agr:a7 W o o2
 frame:∀ nm,nm∉W->o nm=obj nm
 frame2:∀ nm,nm∉W->o2 nm=obj2 nm
theorem gv.refl{ok:Prop}{obj obj2:Name->Option O}{W:List Name}(h:a7 W obj obj2):gv ok ok obj obj2 obj obj2 W:=⟨rfl,h,fun _ _=>rfl,fun _ _=>rfl⟩
theorem gv.upd{ok ok2:Prop}{o o2 obj obj2:Name->Option O}{W:List Name}(h:gv ok ok2 o o2 obj obj2 W){nm:Name}(hn:nm∈W)(q:Option O)(yK yJ:Prop)(hk:yJ=yK):
 gv yK yJ (Go.Eng.upd o nm q) (Go.Eng.upd o2 nm q) obj obj2 W:=by
 refine⟨hk,fun x hx=>?_,fun x hx=>?_,fun x hx=>?_⟩
 ·by_cases e:x=nm
  ·subst e;rw[aD,aD]
  ·rw[aU _ _ _ e,aU _ _ _ e];exact h.agr x hx
 ·rw[aU _ _ _ (by rintro rfl;exact hx hn)];exact h.frame x hx
 ·rw[aU _ _ _ (by rintro rfl;exact hx hn)];exact h.frame2 x hx
def GF(n:Nat):Prop:=∀ (d:D) (obj obj2:Name->Option O) (W:List Name),(∀ nm∈fp n obj d,nm∈W)->a7 W obj obj2->
 (aq n obj2 d).x=(aq n obj d).x/\gv (aq n obj d).ok (aq n obj2 d).ok (aq n obj d).obj (aq n obj2 d).obj obj obj2 W
theorem px{n:Nat}(hf:GF n):∀ (l:List D) (obj obj2:Name->Option O) (W:List Name),(∀ nm∈cg (fp n obj) l,nm∈W)->a7 W obj obj2->
 (aG (aq n) obj2 l).xs=(aG (aq n) obj l).xs/\gv (aG (aq n) obj l).ok (aG (aq n) obj2 l).ok (aG (aq n) obj l).obj (aG (aq n) obj2 l).obj obj obj2 W
 |[],obj,obj2,W,_,h=>⟨rfl,.refl h⟩
 |d::r,obj,obj2,W,hw,h=>by
  obtain⟨h1,h2⟩:=hf d obj obj2 W (fun nm hn=>hw nm (List.mem_append_left _ hn)) h
  obtain⟨h3,h4⟩:=px hf r (aq n obj d).obj (aq n obj2 d).obj W (fun nm hn=>hw nm (List.mem_append_right _ (rY (wx (pw n obj d) n) r nm hn))) h2.agr
  refine⟨?_,?_⟩
  ·simp only[aG,h1,h3]
  ·refine⟨?_,h4.agr,fun nm hn=>(h4.frame nm hn).trans (h2.frame nm hn),fun nm hn=>(h4.frame2 nm hn).trans (h2.frame2 nm hn)⟩
   simp only[aG,h2.ok,h4.ok]
theorem rV:∀ n,GF n
 | 0=>fun d obj obj2 W hw h=>by cases d<;>exact⟨rfl,.refl h⟩
 |n+1=>fun d obj obj2 W hw h=>by
  have ih:=px (rV n)
  cases d with
  |msl nm k=>
   have hn:nm∈W:=hw nm (by simp[fp])
   have h':=h nm hn
   unfold aq
   simp only[h']
   rcases ho:obj nm with _ | o
   ·exact⟨rfl,.refl h⟩
   ·cases o<;>first
      |exact⟨rfl,.refl h⟩
      |exact⟨rfl,(gv.refl (ok:=True) h).upd hn _ _ _ rfl⟩
  |ref nm off=>
   have hn:nm∈W:=hw nm (by simp[fp])
   have h':=h nm hn
   unfold aq
   simp only[h']
   rcases ho:obj nm with _ | o
   ·exact⟨rfl,.refl h⟩
   ·cases o<;>first
      |exact⟨rfl,.refl h⟩
      |(obtain⟨h1,h2⟩:=ih _ obj obj2 W (fun x hx=>hw x (by simp only[fp,ho];exact List.mem_cons_of_mem _ hx)) h
        simp only[h1]
        exact⟨trivial,h2.upd hn _ _ _ (by rw[h2.ok,h2.agr nm hn])⟩)
  |agg l=>
   obtain⟨h1,h2⟩:=ih l obj obj2 W hw h
   refine⟨?_,h2⟩
   simp only[aq,h1]
  |tup l=>
   obtain⟨h1,h2⟩:=ih l obj obj2 W hw h
   refine⟨?_,h2⟩
   simp only[aq,h1]
  |clo fn f c=>
   obtain⟨h1,h2⟩:=ih f obj obj2 W (fun nm hn=>hw nm (List.mem_append_left _ hn)) h
   obtain⟨h3,h4⟩:=ih c (aG (aq n) obj f).obj (aG (aq n) obj2 f).obj W (fun nm hn=>hw nm (List.mem_append_right _ (rY (wx (py (pw n) f obj) n) c nm hn))) h2.agr
   refine⟨?_,?_,h4.agr,fun nm hn=>(h4.frame nm hn).trans (h2.frame nm hn),fun nm hn=>(h4.frame2 nm hn).trans (h2.frame2 nm hn)⟩
   ·simp only[aq,h1,h3]
   ·simp only[aq,h2.ok,h4.ok]
  |_=>exact⟨rfl,.refl h⟩
def muts(obj:Name->Option O)(l:List Name):List Name:=l.filter fun nm=>match obj nm with | some o=>o.mut | none=>false
theorem gv.like{ok ok2:Prop}{d d2:D}{o o2 obj obj2:Name->Option O}{W:List Name}(h:gv ok ok2 o o2 obj obj2 W)(hd:d2=d)(hz:Fz obj o)(ha:a7 W obj obj2):
 bj ⟨ok,d,o⟩ ⟨ok2,d2,o2⟩ obj obj2 (muts obj W):=by
 have key:∀ nm,nm∉muts obj W->o nm=obj nm:=by
  intro nm hn
  rcases hz nm with e | ⟨q,q',h1,h2,h3,h4⟩
  ·exact e
  ·by_cases hw:nm∈W
   ·exact(hn (List.mem_filter.2 ⟨hw,by simp[h1,h2]⟩)).elim
   ·exact h.frame nm hw
 refine⟨h.ok,hd,fun nm=>?_,key⟩
 show o2 nm=if nm∈muts obj W then o nm else obj2 nm
 split
 ·rename_i hn
  exact h.agr nm (List.mem_filter.1 hn).1
 ·rename_i hn
  by_cases hw:nm∈W
  ·rw[h.agr nm hw,key nm hn];exact(ha nm hw).symm
  ·exact h.frame2 nm hw
def V.flat0:V->Bool
 | .int _ _ | .bool _ | .str _ | .nilp | .nilfn=>true
 |_=>false
def V.flat1:V->Bool
 | .agg l=>l.all V.flat0
 |x=>x.flat0
def V.flat:V->Bool
 | .tup l=>l.all V.flat1
 |x=>x.flat1
theorem aw.flat0{m m':Mem}{x:V}{u:Value}(h:aw m x u)(hf:x.flat0=true):aw m' x u:=by
 cases h<;>simp[V.flat0]at hf
 ·exact .int _ _
 ·exact .bool _
 ·exact .str _ (by assumption)
 ·exact .nilp
 ·exact .nilfn
theorem aw.flat1{m m':Mem}{x:V}{u:Value}(h:aw m x u)(hf:x.flat1=true):aw m' x u:=by
 cases x with
 |agg l=>
  cases h with
  |agg _ us hl ho hr=>
  simp only[V.flat1,List.all_eq_true]at hf
  exact .agg l us hl ho fun i a b=>(hr i a b).flat0 (hf _ (List.getElem_mem a))
 |_=>exact h.flat0 hf
theorem aw.flat{m m':Mem}{x:V}{u:Value}(h:aw m x u)(hf:x.flat=true):aw m' x u:=by
 cases x with
 |tup l=>
  cases h with
  |tup _ us hl hr=>
  simp only[V.flat,List.all_eq_true]at hf
  exact .tup l us hl fun i a b=>(hr i a b).flat1 (hf _ (List.getElem_mem a))
 |_=>exact h.flat1 hf
structure PSpec where
 pre:List V->Prop
 fn:List V->V
 flat:Bool
def mD(m:Mem)(xs:List V)(us:List Value):Prop:=
 xs.length=us.length/\∀ i (h:i<xs.length) (h':i<us.length),aw m xs[i] us[i]
def yid:FuncId:=1000000000
structure aS (P:Program) (f:FuncId) (s:PSpec):Prop where
 ne:f≠yid
 enter:∀ args w,(callFunc f args).run P w=.ok (.enter f args) w
 flat:s.flat=true->∀ xs,s.pre xs->(s.fn xs).flat=true
 calls:∀ (m:Mem) (w:World) (xs:List V) (args:Array Value),pP w->(∀ b off v,m b off=some v->w.cell? ⟨b,off,none⟩=some v)->mD m xs args.toList->s.pre xs->
  Calls P f args w fun e w'=>∃ v m',e=.returned v/\RowKit.Below w.heap.size w w'/\Mem.le m m'/\
   (∀ b off c,m' b off=some c->m b off=some c\/(w.heap.size<=b/\w'.cell? ⟨b,off,none⟩=some c))/\aw m' (s.fn xs) v
def ah(σ:S):Operand->D
 | .tmp t=>(σ.env t).d
 | .const v=>eW v
 | .func f=>.v (.clo (.func f) [] [])
 | .global _=>.any
def bD(σ:S):Operand->Bool
 | .tmp t=>(σ.env t).c
 |_=>true
structure Spec where
 app:(Name->Option O)->Name->List D->R
 foot:(Name->Option O)->Name->List D->List Name
 wrt:(Name->Option O)->Name->List D->List Name
structure Spec.Near (s:Spec):Prop where
 like:∀ obj obj2 t ds,a7 (s.foot obj t ds) obj obj2->bj (s.app obj t ds) (s.app obj2 t ds) obj obj2 (s.wrt obj t ds)
 foot:∀ obj obj2 t ds,a7 (s.foot obj t ds) obj obj2->s.foot obj2 t ds=s.foot obj t ds
 sub:∀ obj t ds,∀ nm∈s.wrt obj t ds,nm∈s.foot obj t ds
 wrt:∀ obj obj2 t ds,a7 (s.foot obj t ds) obj obj2->s.wrt obj2 t ds=s.wrt obj t ds
def c0(rd:Option Nat):Fence:={ Fence.wide with round:=rd }
theorem EH{rd:Option Nat}{n:Nat}{P:Program}{f:FuncId}{args:Array Value}{w:World}{R:Ending->World->Prop}(h:Calls P f args w R):CallsIn (c0 rd) n P f args w R:=
 (callsIn_wide (n:=n)).2 h
def lh(P:Program)(G:Ghost)(σ:S)(a:Act)(w:World)(o:Oper)(r:R):Prop:=
 ∀ (next:Act->World->Prop) (Q:Exit->Act->World->Prop),
   (∀ v φ' m' w',ay G φ' m' { σ with obj:=r.obj } a w'->al φ' r.obj m' r.d v->next (a.put o.dst v) w')->o.uponIn (c0 G.rd) 0 P a next Q ((execOp a.eval o).run P w)
structure an (P:Program) (f:FuncId) (s:Spec):Prop where
 near:s.Near
 enter:f≠yid->∀ args w,(callFunc f args).run P w=.ok (.enter f args) w
 calls:f≠yid->∀ (G:Ghost) (φ:Name->Loc) (m:Mem) (σ:S) (a:Act) (w:World),ay G φ m σ a w->∀ (t:Name) (ds:List D) (us:Array Value),(∃ k,t=k::σ.pre)->ds.length=us.size->
  (∀ i (h:i<ds.length) (h':i<us.size),al φ σ.obj m ds[i] us[i])->(s.app σ.obj t ds).ok->
  Calls P f us w fun e w'=>∃ v φ' m',e=.returned v/\ay G φ' m' { σ with obj:=(s.app σ.obj t ds).obj } a w'/\al φ' (s.app σ.obj t ds).obj m' (s.app σ.obj t ds).d v/\Ext φ φ' σ.obj (s.app σ.obj t ds).obj
 yields:f=yid->∀ (G:Ghost) (φ:Name->Loc) (m:Mem) (σ:S) (a:Act) (w:World),ay G φ m σ a w->∀ (t nm:Name) (ds:List D) (us:Array Value),(∃ k,t=k::σ.pre)->ds.length=us.size->
  (∀ i (h:i<ds.length) (h':i<us.size),al φ σ.obj m ds[i] us[i])->lG σ.obj nm->(s.app σ.obj t (.yld nm::ds)).ok->
  ∀ o:Oper,execOp a.eval o=Instr.yield (φ nm).blk us->lh P G σ a w o (s.app σ.obj t (.yld nm::ds))
def PSpec.toSpec(s:PSpec):Spec:=
 ⟨fun obj _ ds=>⟨(aG (aq 6) obj ds).ok/\s.pre (aG (aq 6) obj ds).xs,.v (s.fn (aG (aq 6) obj ds).xs),if s.flat then obj else(aG (aq 6) obj ds).obj⟩,
  fun obj _ ds=>cg (fp 6 obj) ds,fun obj _ ds=>if s.flat then[]else muts obj (cg (fp 6 obj) ds)⟩
def c5(f:D)(args:List D):List D:=
 match f with
 | .v (.clo _ fs cs)=>fs.map .v++args++cs.map .v
 | .clo _ fs cs=>fs++args++cs
 | .yld nm=>.yld nm::args
 |_=>[]
def dW:D->Option FuncId
 | .v (.clo (.func f) _ _)=>if f=yid then none else some f
 | .clo (.func f) _ _=>if f=yid then none else some f
 | .yld _=>some yid
 |_=>none
def mB(Γ:FuncId->Option Spec)(σ:S)(t:Name)(f:D)(args:List D):R:=
 match (dW f).bind Γ with
 |some s=>s.app σ.obj t (c5 f args)
 |none=>.bad σ.obj
def gN(P:Program)(σ:S)(t:Name)(b:Builtin)(ts:List TypeId)(args:List D):R:=
 match b,ts,args with
 | .len,[T],[x]=>fM P σ.obj T x
 | .append,[T1,T2],[s,x]=>bI P σ.obj t T1 T2 s x
 | .min,_,[.v (.int k a),.v (.int _ b)]=>⟨True,.v (.int k (if b<a then b else a)),σ.obj⟩
 | .max,_,[.v (.int k a),.v (.int _ b)]=>⟨True,.v (.int k (if b>a then b else a)),σ.obj⟩
 |_,_,_=>.bad σ.obj
def aF(P:Program)(Γ:FuncId->Option Spec)(σ:S)(t:Name):Op->R
 | .move x=>⟨True,ah σ x,σ.obj⟩
 | .assign x=>⟨True,ah σ x,σ.obj⟩
 | .pick c x y=>eQ σ.obj (ah σ c) (ah σ x) (ah σ y)
 | .alloc T=>iz P σ.obj t T
 | .box _ x=>gP σ.obj t (ah σ x)
 | .build T ps=>gO P σ.obj T (ps.toList.map fun p=>(p.1,ah σ p.2))
 | .buildSlice T n ps=>jf P σ.obj T n (ps.toList.map fun p=>(p.1,ah σ p.2))
 | .load T x=>eR P σ.obj T (ah σ x)
 | .store T x d=>fK P σ.obj T (ah σ x) (ah σ d)
 | .nilCheck x=>fL σ.obj (ah σ x)
 | .binOp op T x y _=>gQ P σ.obj op T (ah σ x) (ah σ y) (qO y)
 | .unOp op _ x=>gI σ.obj op (ah σ x)
 | .convert s d x=>ix P σ.obj s d (ah σ x)
 | .makeFunc fn f c=>F7 σ.obj fn (f.toList.map (ah σ)) (c.toList.map (ah σ))
 | .makeMap T r=>iv P σ.obj t T (r.map (ah σ))
 | .makeSlice T l c=>iu P σ.obj t T (ah σ l) (ah σ c)
 | .slice T x lo hi mx=>er P σ.obj T (ah σ x) (lo.map (ah σ)) (hi.map (ah σ)) (mx.map (ah σ))
 | .fieldAddr T x f=>gq P σ.obj T f (ah σ x)
 | .field T x f=>gL P σ.obj T (ah σ x) f
 | .indexAddr T x i=>gp P σ.obj T (ah σ x) (ah σ i)
 | .index T x i=>gK P σ.obj T (ah σ x) (ah σ i)
 | .lookup T x i co=>gJ P σ.obj T (ah σ x) (ah σ i) co
 | .mapUpdate T x k d=>fk P σ.obj T (ah σ x) (ah σ k) (ah σ d)
 | .insert T x k d=>fk P σ.obj T (ah σ x) (ah σ k) (ah σ d)
 | .extract x i=>gM σ.obj (ah σ x) i
 | .call ⟨.value f,args,_⟩=>mB Γ σ t (ah σ f) (args.toList.map (ah σ))
 | .call ⟨.builtin b,args,ts⟩=>gN P σ t b ts.toList (args.toList.map (ah σ))
 |_=>.bad σ.obj
theorem bm{G:Ghost}{φ:Name->Loc}{m:Mem}{σ:S}{a:Act}{w:World}(hC:ay G φ m σ a w){x:Operand}(h:bD σ x=true):al φ σ.obj m (ah σ x) (a.eval x):=by
 cases x with
 |tmp t=>
  have :=hC.tmps t
  unfold bn at this
  simp only[bD]at h
  rw[if_pos h]at this
  exact this
 |const v=>exact mV v
 |func f=>exact .v _ _ (.clo _ _ _ _ _ rfl rfl (fun i h=>by simp at h) (fun i h=>by simp at h))
 |global g=>exact .any _
theorem mn{P:Program}{G:Ghost}{φ:Name->Loc}{m:Mem}{σ:S}{a:Act}{w:World}{o:Oper}{r:R}{v:Value}{w':World}
 (bz:(execOp a.eval o).run P w=.ok (.value v) w') (hd:iA G σ a r v w'):lh P G σ a w o r:=by
 intro next Q lV
 obtain⟨φ',m',h1,h2⟩:=hd
 rw[bz]
 exact lV v φ' m' w' h1 h2
theorem gg{P:Program}{G:Ghost}{φ:Name->Loc}{m:Mem}{σ:S}{a:Act}{w:World}(hC:ay G φ m σ a w){o:Oper}{r:R}{s:Sem Value}
 (he:execOp a.eval o=(do pure (.value (<-s)))) (h:∃ v,s.run P w=.ok v w/\al φ σ.obj m r.d v/\r.obj=σ.obj):lh P G σ a w o r:=by
 obtain⟨v,h1,h2,h3⟩:=h
 refine mn (φ:=φ) (m:=m) (v:=v) (w':=w) (by rw[he];simp[h1]) ⟨φ,m,?_,?_⟩
 ·rw[h3];exact hC
 ·rw[h3];exact h2
theorem kN{P:Program}{G:Ghost}{σ:S}{a:Act}{w:World}{o:Oper}{r:R}{s:Sem Value}
 (he:execOp a.eval o=(do pure (.value (<-s)))) (h:∃ v w',s.run P w=.ok v w'/\iA G σ a r v w'):lh P G σ a w o r:=by
 obtain⟨v,w',h1,h2⟩:=h
 obtain⟨φ',m',h3,h4⟩:=h2
 exact mn (φ:=φ') (m:=m') (v:=v) (w':=w') (by rw[he];simp[h1]) ⟨φ',m',h3,h4⟩
theorem wq{P:Program}{G:Ghost}{σ:S}{a:Act}{w:World}{o:Oper}{r:R}{s:Sem Unit}(hd:r.d=.any)
 (he:execOp a.eval o=(do s;pure .skip)) (h:∃ w',s.run P w=.ok () w'/\∃ φ' m',ay G φ' m' { σ with obj:=r.obj } a w'):lh P G σ a w o r:=by
 obtain⟨w',h1,φ',m',h2⟩:=h
 intro next Q lV
 rw[he]
 simp only[Sem.run_bind,h1,Result.andThen_ok,Sem.run_pure]
 exact lV undef φ' m' w' h2 (by rw[hd];exact .any _)
theorem tu{G:Ghost}{φ:Name->Loc}{m:Mem}{σ:S}{a:Act}{w:World}(hC:ay G φ m σ a w){x:Option Operand}(h:∀ y∈x.toList,bD σ y=true):
 jg φ σ.obj m (x.map (ah σ)) (x.map a.eval):=by
 cases x with
 |none=>trivial
 |some y=>exact bm hC (h y (by simp))
theorem Fm{P:Program}{Γ:FuncId->Option Spec}(hΓ:∀ f s,Γ f=some s->an P f s){G:Ghost}{φ:Name->Loc}{m:Mem}{σ:S}{a:Act}{w:World}(hC:ay G φ m σ a w)
 {o:Oper} {f:FuncId} {s:Spec} {t:Name} (ht:∃ k,t=k::σ.pre) (hf:f≠yid) (hs:Γ f=some s) {ds:List D} {us:Array Value}
 (he:(execOp a.eval o)=callFunc f us) (hl:ds.length=us.size) (hr:∀ i (h:i<ds.length) (h':i<us.size),al φ σ.obj m ds[i] us[i])
 (aa:(s.app σ.obj t ds).ok):lh P G σ a w o (s.app σ.obj t ds):=by
 obtain⟨_,hS,pq,_⟩:=hΓ f s hs
 intro next Q lV
 rw[he,hS hf,Oper.uponIn_enter]
 refine⟨fun h=>(by simp[c0,Fence.wide]at h),EH ?_⟩
 refine(pq hf G φ m σ a w hC t ds us ht hl hr aa).mono ?_
 rintro e w' ⟨v,φ',m',rfl,h1,h2,_⟩
 exact lV v φ' m' w' h1 h2
theorem Et{obj obj2:Name->Option O}:∀ (n:Nat) (d:D),a7 (fp n obj d) obj obj2->fp n obj2 d=fp n obj d
 | 0,d,h=>by cases d<;>rfl
 |n+1,d,h=>by
  have ih:∀ (l:List D),a7 (cg (fp n obj) l) obj obj2->cg (fp n obj2) l=cg (fp n obj) l:=by
   intro l
   induction l with
   |nil=>intro _;rfl
   |cons d r Np=>intro h;simp only[cg];rw[Et n d fun nm hn=>h nm (List.mem_append_left _ hn),Np fun nm hn=>h nm (List.mem_append_right _ hn)]
  cases d with
  |ref nm off=>
   have h':=h nm (by simp[fp])
   simp only[fp,h']
   rcases ho:obj nm with _ | o
   ·rfl
   ·cases o<;>first
      |rfl
      |(simp only;rw[ih _ fun x hx=>h x (by simp only[fp,ho];exact List.mem_cons_of_mem _ hx)])
  |agg l=>exact ih l h
  |tup l=>exact ih l h
  |clo fn f c=>simp only[fp];rw[ih f fun nm hn=>h nm (List.mem_append_left _ hn),ih c fun nm hn=>h nm (List.mem_append_right _ hn)]
  |_=>rfl
theorem pz{obj obj2:Name->Option O}{n:Nat}:∀ (l:List D),a7 (cg (fp n obj) l) obj obj2->cg (fp n obj2) l=cg (fp n obj) l
 |[],_=>rfl
 |d::r,h=>by simp only[cg];rw[Et n d fun nm hn=>h nm (List.mem_append_left _ hn),pz r fun nm hn=>h nm (List.mem_append_right _ hn)]
theorem tO{obj obj2:Name->Option O}{l:List Name}(h:a7 l obj obj2):muts obj2 l=muts obj l:=
 List.filter_congr fun nm hn=>by rw[h nm hn]
theorem PSpec.near(s:PSpec):s.toSpec.Near:=by
 refine⟨fun obj obj2 t ds h=>?_,fun obj obj2 t ds h=>pz ds h,fun obj t ds nm hn=>?_,fun obj obj2 t ds h=>?_⟩
 ·obtain⟨h1,h2⟩:=px (rV 6) ds obj obj2 _ (fun _ hn=>hn) h
  have aa:((aG (aq 6) obj2 ds).ok/\s.pre (aG (aq 6) obj2 ds).xs)=((aG (aq 6) obj ds).ok/\s.pre (aG (aq 6) obj ds).xs):=by rw[h1,h2.ok]
  simp only[PSpec.toSpec]
  cases hf:s.flat with
  |true=>exact .same aa (by rw[h1]) rfl rfl
  |false=>
   simp only[Bool.false_eq_true,if_false]
   exact gv.like ⟨aa,h2.agr,h2.frame,h2.frame2⟩ (by rw[h1]) (py (pw 6) ds obj) h
 ·simp only[PSpec.toSpec]at hn |-
  split at hn
  ·simp at hn
  ·exact(List.mem_filter.1 hn).1
 ·simp only[PSpec.toSpec]
  split
  ·rfl
  ·rw[pz ds h];exact tO h
theorem aS.sound{P:Program}{f:FuncId}{s:PSpec}(h:aS P f s):an P f s.toSpec:=by
 obtain⟨hy,hS,dn,pq⟩:=h
 refine⟨s.near,fun _=>hS,fun _ G φ m σ a w hC t ds us _ hl hr aa=>?_,fun e=>(hy e).elim⟩
 obtain⟨ve,oX⟩:=aa
 obtain⟨m1,a1,a2,a3,a4,a5,a6⟩:=kP (jQ 6) ds hC us.toList (by simpa using hl) (fun i h h'=>by
  have :=hr i h (by simpa using h')
  rw[Array.getElem_toList];exact this) ve
 refine(pq m1 w (aG (aq 6) σ.obj ds).xs us a2.fr.tab a2.mem ⟨by rw[a4];simpa using hl,a5⟩ oX).mono ?_
 rintro e w' ⟨v,m',rfl,hb,hm,hn,hv⟩
 simp only[PSpec.toSpec]
 by_cases l9:s.flat=true
 ·have uP:aw m (s.fn (aG (aq 6) σ.obj ds).xs) v:=hv.flat (dn l9 _ oX)
  refine⟨v,φ,m,rfl,?_,?_,?_⟩
  ·simp only[l9,if_true]
   exact hC.imm (Mem.le_refl m) ⟨hb.os,hb.tape,hb.output,hb.size⟩ hb.block (fun _ _ _ h=>.inl h)
  ·simp only[l9,if_true]
   exact .v _ _ uP
  ·simp only[l9,if_true]
   exact .refl _ _
 ·refine⟨v,φ,m',rfl,?_,?_,?_⟩
  ·simp only[l9,Bool.false_eq_true,if_false]
   exact a2.imm hm ⟨hb.os,hb.tape,hb.output,hb.size⟩ hb.block hn
  ·simp only[l9,Bool.false_eq_true,if_false]
   exact .v _ _ hv
  ·simp only[l9,Bool.false_eq_true,if_false]
   exact a3
theorem Ra{P:Program}{Γ:FuncId->Option Spec}{σ:S}{t:Name}{op:Op}(h:(aF P Γ σ t op).ok):∀ c,op≠ .defer c:=by
 rintro c rfl
 exact h
def iJ(σ:S):Op->Bool
 | .pick c x y=>bD σ c&&(match ah σ c with | .v (.bool b)=>if b then bD σ x else bD σ y | _=>false)
 |op=>op.operands.toList.all (bD σ)
theorem bE{σ:S}{op:Op}(h:op.operands.toList.all (bD σ)=true){x:Operand}(hx:x∈op.operands.toList):bD σ x=true:=List.all_eq_true.1 h x hx
theorem yw{G:Ghost}{φ:Name->Loc}{m:Mem}{σ:S}{a:Act}{w:World}(hC:ay G φ m σ a w){ps:Array (Nat×Operand)}(h:∀ p∈ps.toList,bD σ p.2=true):
 (ps.toList.map fun p=>(p.1,ah σ p.2)).map (·.1)=(ps.map fun (i,x)=>(i,a.eval x)).toList.map (·.1)/\
 ∀ (k:Nat) (p:Nat×D) (q:Nat×Value),(ps.toList.map fun p=>(p.1,ah σ p.2))[k]?=some p->(ps.map fun (i,x)=>(i,a.eval x)).toList[k]?=some q->al φ σ.obj m p.2 q.2:=by
 refine⟨by simp,fun k p q hp hq=>?_⟩
 simp only[List.getElem?_map,Option.map_eq_some_iff]at hp
 obtain⟨y,hy,rfl⟩:=hp
 simp only[Array.toList_map,List.getElem?_map,hy,Option.map_some,Option.some.injEq]at hq
 subst hq
 exact bm hC (h y (List.mem_of_getElem? hy))
theorem ua{G:Ghost}{φ:Name->Loc}{m:Mem}{σ:S}{a:Act}{w:World}(hC:ay G φ m σ a w){xs:Array Operand}(h:∀ x∈xs.toList,bD σ x=true):
 (xs.toList.map (ah σ)).length=(xs.map a.eval).size/\∀ i (h:i<(xs.toList.map (ah σ)).length) (h':i<(xs.map a.eval).size),al φ σ.obj m (xs.toList.map (ah σ))[i] (xs.map a.eval)[i]:=by
 refine⟨by simp,fun i h1 h2=>?_⟩
 simp only[List.getElem_map,Array.getElem_toList,Array.getElem_map]
 exact bm hC (h _ (by simp))
set_option maxHeartbeats 1000000 in
theorem QK{P:Program}{G:Ghost}{φ:Name->Loc}{m:Mem}{σ:S}{a:Act}{w:World}(hC:ay G φ m σ a w)(o:Oper)(t:Name)(b:Builtin)(args:Array Operand)(ts:Array TypeId)
 (ho:o.op=.call ⟨.builtin b,args,ts⟩) (ic:∀ x∈args.toList,bD σ x=true) (aa:(gN P σ t b ts.toList (args.toList.map (ah σ))).ok):
 lh P G σ a w o (gN P σ t b ts.toList (args.toList.map (ah σ))):=by
 obtain⟨args⟩:=args
 obtain⟨ts⟩:=ts
 have nG:(∃ T x,b=.len/\ts=[T]/\args=[x])\/(∃ T1 T2 s x,b=.append/\ts=[T1,T2]/\args=[s,x])\/
     (∃ x y,(b=.min\/b=.max)/\args=[x,y]):=by
  rcases args with _ | ⟨x,_ | ⟨y,_ | ⟨z,r⟩⟩⟩
  ·unfold gN at aa;split at aa<;>first | exact aa.elim | (exfalso;simp_all;done)
  ·unfold gN at aa
   split at aa
   ·exact .inl ⟨_,x,rfl,by assumption,rfl⟩
   ·exfalso;simp_all
   ·exfalso;simp_all
   ·exfalso;simp_all
   ·exact aa.elim
  ·unfold gN at aa
   split at aa
   ·exfalso;simp_all
   ·exact .inr (.inl ⟨_,_,x,y,rfl,by assumption,rfl⟩)
   ·exact .inr (.inr ⟨x,y,.inl rfl,rfl⟩)
   ·exact .inr (.inr ⟨x,y,.inr rfl,rfl⟩)
   ·exact aa.elim
  ·unfold gN at aa;split at aa<;>first | exact aa.elim | (exfalso;simp_all;done)
 rcases nG with⟨T,x,rfl,rfl,rfl⟩ | ⟨T1,T2,s,x,rfl,rfl,rfl⟩ | ⟨x,y,hb,rfl⟩
 ·have hx:=bm hC (ic x (by simp))
  refine gg hC (s:=Builtin.len_ #[T] o.type #[a.eval x]) ?_ (Hy hC hx aa)
  simp[execOp,ho,resolve,invoke,builtin]
 ·have hs:=bm hC (ic s (by simp))
  have hx:=bm hC (ic x (by simp))
  refine kN (s:=Builtin.append_ #[T1,T2] o.type #[a.eval s,a.eval x]) ?_ (HM hC hs hx aa)
  simp[execOp,ho,resolve,invoke,builtin]
 ·have hx:=bm hC (ic x (by simp))
  have hy:=bm hC (ic y (by simp))
  simp only[List.map_cons,List.map_nil]at aa |-
  generalize ah σ x=dx at *
  generalize ah σ y=dy at *
  have hd:∃ k1 a1 k2 a2,dx=.v (.int k1 a1)/\dy=.v (.int k2 a2):=by
   rcases hb with rfl | rfl
   ·simp only[gN]at aa
    split at aa
    all_goals first
     |exact aa.elim
     |(exfalso;simp_all;done)
     |(rename_i h;simp only[List.cons.injEq,and_true]at h;exact⟨_,_,_,_,h.1,h.2⟩)
   ·simp only[gN]at aa
    split at aa
    all_goals first
     |exact aa.elim
     |(exfalso;simp_all;done)
     |(rename_i h;simp only[List.cons.injEq,and_true]at h;exact⟨_,_,_,_,h.1,h.2⟩)
  obtain⟨k1,a1,k2,a2,rfl,rfl⟩:=hd
  cases hx with
  |v _ _ hx=>
  cases hy with
  |v _ _ hy=>
  generalize hu:a.eval x=u at *
  generalize hv:a.eval y=v at *
  cases hx;cases hy
  rcases hb with rfl | rfl
  ·refine gg hC (s:=Builtin.min_ ts.toArray o.type #[.int k1 a1,.int k2 a2]) ?_ ⟨.int k1 (if a2<a1 then a2 else a1),?_,.v _ _ (.int _ _),rfl⟩
   ·simp[execOp,ho,resolve,invoke,builtin,hu,hv]
   ·simp[Builtin.min_,Builtin.min2]
  ·refine gg hC (s:=Builtin.max_ ts.toArray o.type #[.int k1 a1,.int k2 a2]) ?_ ⟨.int k1 (if a2>a1 then a2 else a1),?_,.v _ _ (.int _ _),rfl⟩
   ·simp[execOp,ho,resolve,invoke,builtin,hu,hv]
   ·simp[Builtin.max_,Builtin.max2]
set_option maxHeartbeats 4000000 in
theorem Q'{P:Program}{Γ:FuncId->Option Spec}(hΓ:∀ f s,Γ f=some s->an P f s){G:Ghost}{φ:Name->Loc}{m:Mem}{σ:S}{a:Act}{w:World}(hC:ay G φ m σ a w)
 (o:Oper) (t:Name) (ht:∃ k,t=k::σ.pre) (hc:iJ σ o.op=true) (aa:(aF P Γ σ t o.op).ok):lh P G σ a w o (aF P Γ σ t o.op):=by
 cases ho:o.op with
 |move x=>
  rw[ho]at hc aa
  refine mn (φ:=φ) (m:=m) (v:=a.eval x) (w':=w) (by simp[execOp,ho]) ⟨φ,m,hC,bm hC (bE hc (by simp[Op.operands]))⟩
 |assign x=>
  rw[ho]at hc aa
  refine mn (φ:=φ) (m:=m) (v:=a.eval x) (w':=w) (by simp[execOp,ho]) ⟨φ,m,hC,bm hC (bE hc (by simp[Op.operands]))⟩
 |pick c x y=>
  rw[ho]at hc aa
  simp only[iJ,Bool.and_eq_true]at hc
  obtain⟨h1,h2⟩:=hc
  have rH:=bm hC h1
  simp only[aF]at aa |-
  generalize ah σ c=dc at *
  unfold eQ at aa
  split at aa
  ·rename_i b
   generalize he:a.eval c=u at rH
   cases rH with
   |v _ _ rH=>
   cases rH
   simp only at h2
   refine mn (φ:=φ) (m:=m) (v:=if b then a.eval x else a.eval y) (w':=w) (by simp[execOp,ho,he,asBool]) ⟨φ,m,by simpa[eQ]using hC,?_⟩
   have :al φ σ.obj m (if b then ah σ x else ah σ y) (if b then a.eval x else a.eval y):=by
    cases b with
    |true=>exact bm hC (by simpa using h2)
    |false=>exact bm hC (by simpa using h2)
   exact Rg this
  ·exact aa.elim
 |alloc T=>
  rw[ho]at aa
  refine kN (s:=Instr.alloc T true (.tuple #[])) (by simp[execOp,ho]) (HN hC aa)
 |box T x=>
  rw[ho]at hc aa
  refine kN (s:=Instr.box T (a.eval x)) (by simp[execOp,ho]) (HJ hC (bm hC (bE hc (by simp[Op.operands]))) aa)
 |build T ps=>
  rw[ho]at hc aa
  obtain⟨h1,h2⟩:=yw hC (ps:=ps) (fun p hp=>bE hc (by simp only[Op.operands,List.mem_map];exact⟨p,hp,rfl⟩))
  refine gg hC (s:=Instr.build T (ps.map fun (i,x)=>(i,a.eval x))) (by simp[execOp,ho]) (HI w h1 h2 aa)
 |buildSlice T n ps=>
  rw[ho]at hc aa
  obtain⟨h1,h2⟩:=yw hC (ps:=ps) (fun p hp=>bE hc (by simp only[Op.operands,List.mem_map];exact⟨p,hp,rfl⟩))
  refine kN (s:=Instr.buildSlice T n (ps.map fun (i,x)=>(i,a.eval x))) (by simp[execOp,ho]) (HH hC h1 h2 aa)
 |load T x=>
  rw[ho]at hc aa
  refine gg hC (s:=Instr.loadAt T (a.eval x)) (by simp[execOp,ho]) (xQ hC (bm hC (bE hc (by simp[Op.operands]))) aa)
 |store T x d=>
  rw[ho]at hc aa
  refine wq ?_ (s:=Instr.storeAt T (a.eval x) (a.eval d)) (by simp[execOp,ho]) (Hq hC (bm hC (bE hc (by simp[Op.operands]))) (bm hC (bE hc (by simp[Op.operands]))) aa)
  simp only[aF,fK]
  (repeat' split)<;>rfl
 |nilCheck x=>
  rw[ho]at hc aa
  obtain⟨h1,h2,h3⟩:=Ht (P:=P) (ρ:=a.eval) (c:=x) (o:=o) w (bm hC (bE hc (by simp[Op.operands]))) aa ho rfl
  refine mn (φ:=φ) (m:=m) h1 ⟨φ,m,?_,?_⟩
  ·simp only[aF];rw[h3];exact hC
  ·simp only[aF];rw[h3];exact h2
 |binOp op T x y yT=>
  rw[ho]at hc aa
  exact gg hC (s:=do eqGuard op T x y (a.eval x) (a.eval y);binOp op T (a.eval x) (a.eval y)) (by simp[execOp,ho]) (HK hC (bm hC (bE hc (by simp[Op.operands]))) (bm hC (bE hc (by simp[Op.operands]))) (fun h=>by
   cases y with
   |const v=>cases v with
    |slice a n c=>cases a with
     |none=>exact⟨n,c,rfl⟩
     |some=>cases h
    |_=>cases h
   |_=>cases h) aa)
 |unOp op T x=>
  rw[ho]at hc aa
  exact gg hC (s:=Op.unary op (a.eval x)) (by simp[execOp,ho]) (Hp w (bm hC (bE hc (by simp[Op.operands]))) aa)
 |convert s d x=>
  rw[ho]at hc aa
  exact kN (s:=convert s d (a.eval x)) (by simp[execOp,ho]) (HF hC (bm hC (bE hc (by simp[Op.operands]))) aa)
 |makeFunc fn f c=>
  rw[ho]at hc aa
  obtain⟨h1,h2⟩:=ua hC (xs:=f) (fun x hx=>bE hc (by simp[Op.operands,hx]))
  obtain⟨h3,h4⟩:=ua hC (xs:=c) (fun x hx=>bE hc (by simp[Op.operands,hx]))
  exact mn (φ:=φ) (m:=m) (v:=.func fn (f.map a.eval) (c.map a.eval)) (w':=w) (by simp[execOp,ho,Instr.makeFunc]) ⟨φ,m,hC,.clo _ _ _ _ _ h1 h3 h2 h4⟩
 |makeMap T r=>
  rw[ho]at hc aa
  exact kN (s:=Instr.makeMap T (r.map a.eval)) (by simp[execOp,ho]) (Hv hC (by cases r<;>rfl) aa)
 |makeSlice T l c=>
  rw[ho]at hc aa
  exact kN (s:=Instr.makeSlice T (a.eval l) (a.eval c)) (by simp[execOp,ho]) (Hu hC (bm hC (bE hc (by simp[Op.operands]))) (bm hC (bE hc (by simp[Op.operands]))) aa)
 |slice T x lo hi mx=>
  rw[ho]at hc aa
  have h0:∀ y,(y∈lo.toList\/y∈hi.toList\/y∈mx.toList\/y=x)->bD σ y=true:=fun y hy=>bE hc (by
   simp only[Op.operands,Array.toList_append,List.mem_append,Option.toList_toArray]
   rcases hy with h | h | h | h
   ·exact .inl (.inl (.inr h))
   ·exact .inl (.inr h)
   ·exact .inr h
   ·exact .inl (.inl (.inl (by simp[h]))))
  exact kN (s:=Instr.sliceAt T (a.eval x) (lo.map a.eval) (hi.map a.eval) (mx.map a.eval)) (by simp[execOp,ho])
   (Hr hC (bm hC (h0 x (by simp))) (tu hC fun y hy=>h0 y (.inl hy)) (tu hC fun y hy=>h0 y (.inr (.inl hy))) (tu hC fun y hy=>h0 y (.inr (.inr (.inl hy)))) aa)
 |fieldAddr T x f=>
  rw[ho]at hc aa
  exact gg hC (s:=Instr.fieldAt T (a.eval x) f) (by simp[execOp,ho]) (HB w (bm hC (bE hc (by simp[Op.operands]))) aa)
 |field T x f=>
  rw[ho]at hc aa
  exact gg hC (s:=Instr.field T (a.eval x) f) (by simp[execOp,ho]) (HC w (bm hC (bE hc (by simp[Op.operands]))) aa)
 |indexAddr T x i=>
  rw[ho]at hc aa
  exact gg hC (s:=Instr.indexAt T (a.eval x) (a.eval i)) (by simp[execOp,ho]) (Hz hC (bm hC (bE hc (by simp[Op.operands]))) (bm hC (bE hc (by simp[Op.operands]))) aa)
 |index T x i=>
  rw[ho]at hc aa
  exact gg hC (s:=Instr.index T (a.eval x) (a.eval i)) (by simp[execOp,ho]) (HA w (bm hC (bE hc (by simp[Op.operands]))) (bm hC (bE hc (by simp[Op.operands]))) aa)
 |lookup T x i co=>
  rw[ho]at hc aa
  exact gg hC (s:=Instr.lookup T (a.eval x) (a.eval i) co) (by simp[execOp,ho]) (Hw hC (bm hC (bE hc (by simp[Op.operands]))) (bm hC (bE hc (by simp[Op.operands]))) aa)
 |mapUpdate T x k d=>
  rw[ho]at hc aa
  refine wq ?_ (s:=Instr.mapUpdate T (a.eval x) (a.eval k) (a.eval d)) (by simp[execOp,ho])
   (xP hC (bm hC (bE hc (by simp[Op.operands]))) (bm hC (bE hc (by simp[Op.operands]))) (bm hC (bE hc (by simp[Op.operands]))) aa)
  simp only[aF,fk]
  (repeat' split)<;>rfl
 |insert T x k d=>
  rw[ho]at hc aa
  refine wq ?_ (s:=Instr.mapUpdate T (a.eval x) (a.eval k) (a.eval d)) (by simp[execOp,ho])
   (xP hC (bm hC (bE hc (by simp[Op.operands]))) (bm hC (bE hc (by simp[Op.operands]))) (bm hC (bE hc (by simp[Op.operands]))) aa)
  simp only[aF,fk]
  (repeat' split)<;>rfl
 |extract x i=>
  rw[ho]at hc aa
  exact gg hC (s:=Instr.extract (a.eval x) i) (by simp[execOp,ho]) (HD w (bm hC (bE hc (by simp[Op.operands]))) aa)
 |call c=>
  obtain⟨callee,args,ts⟩:=c
  rw[ho]at hc aa
  cases callee with
  |builtin b=>
   exact QK hC o t b args ts ho (fun x hx=>bE hc (by simp[Op.operands,Call.operands,hx])) aa
  |invoke=>exact aa.elim
  |value f=>
   have hf:=bm hC (bE hc (x:=f) (by simp[Op.operands,Call.operands]))
   obtain⟨h1,h2⟩:=ua hC (xs:=args) (fun x hx=>bE hc (by simp[Op.operands,Call.operands,hx]))
   simp only[aF]at aa |-
   generalize hu:a.eval f=u at hf
   generalize ah σ f=df at *
   unfold mB at aa |-
   split at aa
   ·rename_i s hs
    obtain⟨g,hg,uT⟩:=Option.bind_eq_some_iff.1 hs
    unfold dW at hg
    split at hg
    ·rename_i g fs cs
     split at hg
     ·cases hg
     rename_i ar
     cases hg
     cases hf with
     |v _ _ hf=>
     cases hf with
     |clo _ _ _ us vs e1 e2 bk bX=>
     try simp only[hs]
     refine Fm hΓ hC ht ar uT (us:=us++args.map a.eval++vs) (by simp[execOp,ho,resolve,Deferred.ofValue,hu,invoke]) (by simp[c5,e1,e2]) (fun i hi bl=>?_) aa
     simp only[c5,List.length_append,List.length_map]at hi |-
     by_cases k1:i<fs.length
     ·have q1:i<us.size:=by omega
      simp only[List.append_assoc,Array.append_assoc]
      rw[List.getElem_append_left (by simpa using k1),Array.getElem_append_left q1]
      simp only[List.getElem_map]
      exact .v _ _ (bk i k1 q1)
     ·by_cases k2:i<fs.length+args.toList.length
      ·simp only[List.append_assoc,Array.append_assoc]
       rw[List.getElem_append_right (by simp;omega),List.getElem_append_left (by simp at k2 |-;omega),Array.getElem_append_right (by omega),Array.getElem_append_left (by simp at k2 |-;omega)]
       have :=h2 (i-fs.length) (by simp at k2 |-;omega) (by simp at k2 |-;omega)
       simp only[List.length_map,<-e1]
       exact this
      ·rw[List.getElem_append_right (by simp at k2 |-;omega),Array.getElem_append_right (by simp at k2 |-;omega)]
       have :=bX (i-(fs.length+args.size)) (by simp at hi k2;omega) (by simp at hi k2;omega)
       simp only[List.length_append,List.length_map,Array.length_toList,Array.size_append,Array.size_map,List.getElem_map,<-e1]
       exact .v _ _ this
    ·rename_i g fs cs
     split at hg
     ·cases hg
     rename_i ar
     cases hg
     cases hf with
     |clo _ _ _ us vs e1 e2 bk bX=>
     try simp only[hs]
     refine Fm hΓ hC ht ar uT (us:=us++args.map a.eval++vs) (by simp[execOp,ho,resolve,Deferred.ofValue,hu,invoke]) (by simp[c5,e1,e2]) (fun i hi bl=>?_) aa
     simp only[c5,List.length_append,List.length_map]at hi |-
     by_cases k1:i<fs.length
     ·have q1:i<us.size:=by omega
      simp only[List.append_assoc,Array.append_assoc]
      rw[List.getElem_append_left (by simpa using k1),Array.getElem_append_left q1]
      exact bk i k1 q1
     ·by_cases k2:i<fs.length+args.toList.length
      ·simp only[List.append_assoc,Array.append_assoc]
       rw[List.getElem_append_right (by omega),List.getElem_append_left (by simp at k2 |-;omega),Array.getElem_append_right (by omega),Array.getElem_append_left (by simp at k2 |-;omega)]
       have :=h2 (i-fs.length) (by simp at k2 |-;omega) (by simp at k2 |-;omega)
       simp only[<-e1]
       exact this
      ·rw[List.getElem_append_right (by simp at k2 |-;omega),Array.getElem_append_right (by simp at k2 |-;omega)]
       have :=bX (i-(fs.length+args.size)) (by simp at hi k2;omega) (by simp at hi k2;omega)
       simp only[List.length_append,List.length_map,Array.length_toList,Array.size_append,Array.size_map,<-e1]
       exact this
    ·rename_i nm
     cases hg
     cases hf with
     |yld _ hb=>
     try simp only[hs]
     exact(hΓ yid s uT).yields rfl G φ m σ a w hC t nm (args.toList.map (ah σ)) (args.map a.eval) ht h1 h2 hb aa o (by simp[execOp,ho,resolve,Deferred.ofValue,hu,invoke])
    ·cases hg
   ·exact aa.elim
 |_=>rw[ho]at aa;exact aa.elim
def iV(ops:Array Oper)(j:Nat):Option Tmp:=(ops[j]?).bind (·.dst)
def wK(e:E)(want:Bool):Bool:=e.c&&(match e.d with | .v (.bool b)=>b==want | _=>false)
def r4(e:E):Prop:=match e.d with | .v (.bool _)=>True | _=>e.c=false
def cA(ops:Array Oper)(σ:S)(o:Oper):Bool:=
 match o.guard with
 |none=>true
 |some (j,want)=>match iV ops j with
  |some s=>wK (σ.env s) want
  |none=>false
def iW(ops:Array Oper)(σ:S)(o:Oper):Prop:=
 match o.guard with
 |none=>True
 |some (j,_)=>match iV ops j with
  |some s=>r4 (σ.env s)/\s<σ.nt
  |none=>True
theorem GW{G:Ghost}{φ:Name->Loc}{m:Mem}{σ:S}{a:Act}{w:World}(hC:ay G φ m σ a w){ops:Array Oper}{o:Oper}(h:iW ops σ o):
 Region.wanted o (yielded ops a.tmps)=cA ops σ o:=by
 unfold Region.wanted cA
 unfold iW at h
 cases hg:o.guard with
 |none=>rfl
 |some p=>
  obtain⟨j,want⟩:=p
  simp only[hg]at h |-
  unfold yielded
  unfold iV at h |-
  cases hs:(ops[j]?).bind (·.dst)with
  |none=>rfl
  |some s=>
   simp only[hs]at h |-
   obtain⟨h,ae⟩:=h
   have ht:=hC.tmps s
   have ax:s<a.tmps.size:=by rw[hC.size];exact ae
   have e0:a.tmps.getD s undef=a.tmps[s]:=by simp[Array.getD,ax]
   rw[e0]at ht
   simp only[Option.bind_some,Array.getElem?_eq_getElem ax]
   unfold wK
   unfold r4 at h
   unfold bn at ht
   generalize a.tmps[s]=u at *
   generalize σ.env s=e at *
   obtain⟨c,d⟩:=e
   simp only at h ht |-
   cases c with
   |false=>
    simp only[Bool.false_eq_true,if_false]at ht
    subst ht
    simp[undef]
   |true=>
    simp only[if_true]at ht
    split at h
    ·cases ht with
     |v _ _ ht=>cases ht;simp
    ·cases h
def aN(P:Program)(Γ:FuncId->Option Spec)(ops:Array Oper)(σ:S)(o:Oper):S:=
 ⟨σ.nt,match o.dst with
   |some t=>upd σ.env t ⟨cA ops σ o,(aF P Γ σ ((σ.base+t)::σ.pre) o.op).d⟩
   |none=>σ.env,if cA ops σ o=true then(aF P Γ σ ((σ.base+o.dst.getD 0)::σ.pre) o.op).obj else σ.obj,σ.pre,σ.base⟩
def gz(P:Program)(Γ:FuncId->Option Spec)(ops:Array Oper)(σ:S)(o:Oper):Prop:=
 iW ops σ o/\(match o.dst with | some t=>t<σ.nt | none=>True)/\(cA ops σ o=true->iJ σ o.op=true/\(aF P Γ σ ((σ.base+o.dst.getD 0)::σ.pre) o.op).ok)
def j6(P:Program)(Γ:FuncId->Option Spec)(ops:Array Oper):List Oper->S->(S->Prop)->Prop
 |[],σ,K=>K σ
 |o::r,σ,K=>gz P Γ ops σ o/\j6 P Γ ops r (aN P Γ ops σ o) K
theorem ta{P:Program}{Γ:FuncId->Option Spec}(hΓ:∀ f s,Γ f=some s->an P f s){G:Ghost}{φ:Name->Loc}{m:Mem}{σ:S}{a:Act}{w:World}(hC:ay G φ m σ a w)
 {ops:Array Oper} {i:Nat} {o:Oper} (hi:ops[i]?=some o) (h:gz P Γ ops σ o) {K:Act->World->Prop} {Q:Exit->Act->World->Prop}
 (hK:∀ a' w' φ' m',ay G φ' m' (aN P Γ ops σ o) a' w'->K a' w'):wpOpIn (c0 G.rd) 0 P ops Q i K a w:=by
 obtain⟨h1,h2,h3⟩:=h
 unfold wpOpIn
 simp only[hi,GW hC h1]
 cases hg:cA ops σ o with
 |true=>
  simp only[if_true]
  obtain⟨h4,h5⟩:=h3 hg
  refine⟨fun _ _=>trivial,?_⟩
  rw[Oper.semAt_eq _ _ _ (Ra h5)]
  refine(Q' hΓ hC o ((σ.base+o.dst.getD 0)::σ.pre) ⟨_,rfl⟩ h4 h5 _ _ fun v φ' m' w' bp hr=>hK _ _ φ' m' ?_)
  unfold aN
  rw[hg]
  cases hd:o.dst with
  |none=>simpa[hd,Act.put]using bp
  |some t=>
   simp only[hd]at h2
   simp only[hd,Option.getD_some,if_true]at bp hr |-
   refine bp.put (e:=⟨true,_⟩) h2 ?_
   unfold bn
   simpa using hr
 |false=>
  simp only[Bool.false_eq_true,if_false]
  refine⟨fun _ _=>trivial,hK _ _ φ m ?_⟩
  unfold aN
  rw[hg]
  cases hd:o.dst with
  |none=>simpa[hd,Act.put]using hC
  |some t=>
   simp only[hd]at h2
   simp only[Bool.false_eq_true,if_false]
   refine hC.put (e:=⟨false,_⟩) h2 ?_
   unfold bn
   simp
theorem yi{P:Program}{Γ:FuncId->Option Spec}(hΓ:∀ f s,Γ f=some s->an P f s){G:Ghost}{ops:Array Oper}{Q:Exit->Act->World->Prop}{K:S->Prop}:
 ∀ (n k:Nat) {φ:Name->Loc} {m:Mem} {σ:S} {a:Act} {w:World},k+n=ops.size->ay G φ m σ a w->j6 P Γ ops (ops.toList.drop k) σ K->
   (∀ a' w' φ' m' σ',ay G φ' m' σ' a' w'->K σ'->Q .normal a' w')->wpOpsIn (c0 G.rd) 0 P ops Q (List.range' k n) a w
 | 0,k,φ,m,σ,a,w,hk,hC,hr,hQ=>by
   have :ops.toList.drop k=[]:=List.drop_eq_nil_of_le (by simp;omega)
   rw[this]at hr
   exact hQ _ _ φ m σ hC hr
 |n+1,k,φ,m,σ,a,w,hk,hC,hr,hQ=>by
  have ae:k<ops.size:=by omega
  have hd:ops.toList.drop k=ops[k]::ops.toList.drop (k+1):=by
   rw[List.drop_eq_getElem_cons (by simpa using ae)];simp
  rw[hd]at hr
  obtain⟨h1,h2⟩:=hr
  rw[List.range'_succ,wpOpsIn_cons]
  exact ta hΓ hC (Array.getElem?_eq_getElem ae) h1 fun a' w' φ' m' bp=>yi hΓ n (k+1) (by omega) bp h2 hQ
def CW(P:Program)(c:Code)(σ:S)(K:Exit->S->Prop):Prop:=
 ∀ (G:Ghost) (φ:Name->Loc) (m:Mem) (a:Act) (w:World),ay G φ m σ a w->c.wpIn (c0 G.rd) 0 P (fun e a' w'=>∃ φ' m' σ',ay G φ' m' σ' a' w'/\K e σ') a w
def ll(k:S->Prop)(K:Exit->S->Prop):Exit->S->Prop
 | .normal,σ=>k σ
 |e,σ=>K e σ
def kW(id:Nat)(K:Exit->S->Prop):Exit->S->Prop
 | .exit fX,σ=>if fX=id then K .normal σ else K (.exit fX) σ
 |e,σ=>K e σ
theorem CW.mono{P:Program}{c:Code}{σ:S}{K K':Exit->S->Prop}(h:CW P c σ K)(hk:∀ e σ',K e σ'->K' e σ'):CW P c σ K':=
 fun G φ m a w hC=>wpIn_mono (h G φ m a w hC) fun e a' w' ⟨φ',m',σ',h1,h2⟩=>⟨φ',m',σ',h1,hk _ _ h2⟩
theorem sd{P:Program}{x y:Code}{σ:S}{K:Exit->S->Prop}(h:CW P x σ (ll (fun σ'=>CW P y σ' K) K)):CW P (.seq x y) σ K:=by
 intro G φ m a w hC
 refine wpIn_seq (wpIn_mono (h G φ m a w hC) ?_)
 rintro e a' w' ⟨φ',m',σ',h1,h2⟩
 cases e with
 |normal=>exact h2 G φ' m' a' w' h1
 |_=>exact⟨φ',m',σ',h1,h2⟩
theorem E6{P:Program}{σ:S}{K:Exit->S->Prop}(h:K .normal σ):CW P .skip σ K:=
 fun G φ m a w hC=>wpIn_skip ⟨φ,m,σ,hC,h⟩
theorem E'{P:Program}{id:Nat}{σ:S}{K:Exit->S->Prop}(h:K (.exit id) σ):CW P (.exit id) σ K:=
 fun G φ m a w hC=>wpIn_exit ⟨φ,m,σ,hC,h⟩
theorem E7{P:Program}{σ:S}{K:Exit->S->Prop}(h:K .ret σ):CW P .ret σ K:=
 fun G φ m a w hC=>wpIn_ret ⟨φ,m,σ,hC,h⟩
theorem Qm{P:Program}{l:Nat}{σ:S}{K:Exit->S->Prop}(h:K .normal σ):CW P (.label l) σ K:=
 fun G φ m a w hC=>wpIn_label ⟨φ,m,σ,hC,h⟩
section
variable {P:Program} {b:Frame} {a:Act} {k:List Item} {cs:List Frame} {w:World}
theorem mM{c:Code}:step P (lone (b.atR a (.code (.scope c)::k)) cs w)=.next (lone (b.atR a (.code c:: .inScope c::k)) cs w):=
 step_lone_go (by simp[stepG,stepG.exec,Frame.atR])
theorem Hc{c:Code}:step P (lone (b.atR a (.inScope c::k)) cs w)=.next (lone (b.atR a k) cs w):=
 step_lone_go (by simp[stepG,stepG.exec,Frame.atR])
end
theorem Qj{P:Program}{c:Code}{σ:S}{K:Exit->S->Prop}(Od:∀ l σ',¬ K (.goto l) σ')(h:CW P c σ K):CW P (.scope c) σ K:=by
 intro G φ m a w hC b k cs uV hb hr
 have h0:(lone (b.atR a (.code (.scope c)::k)) cs w).fenced P (c0 G.rd):=fenced_calm hb hr rfl
 obtain⟨e,a₁,w₁,⟨φ',m',σ',h1,h2⟩,dU⟩:=h G φ m a w hC b (.inScope c::k) cs uV hb hr
 cases e with
 |normal=>exact⟨.normal,a₁,w₁,⟨φ',m',σ',h1,h2⟩,.head h0 mM (StepsIn.trans dU (.one (fenced_calm hb hr rfl) Hc))⟩
 |exit id=>
  have hx:exitTo id (.inScope c::k)=exitTo id k:=by simp[exitTo]
  exact⟨.exit id,a₁,w₁,⟨φ',m',σ',h1,h2⟩,fun k' hk=>.head h0 mM (dU.1 k' (by rw[hx];exact hk)),
   fun u4 hk=>let ⟨k₁,h1,h2⟩:=dU.2 u4 (by rw[hx];exact hk);⟨k₁,h1,.head h0 mM h2⟩⟩
 |goto l=>exact(Od l σ' h2).elim
 |ret=>exact⟨_,a₁,w₁,⟨φ',m',σ',h1,h2⟩,.of_steps (.one h0 mM) dU⟩
 |panic ch=>exact⟨_,a₁,w₁,⟨φ',m',σ',h1,h2⟩,.of_steps (.one h0 mM) dU⟩
 |outgrown=>exact⟨_,a₁,w₁,⟨φ',m',σ',h1,h2⟩,.of_steps (.one h0 mM) dU⟩
theorem wX{P:Program}{c:Operand}{x y:Code}{σ:S}{K:Exit->S->Prop}{b:Bool}(hc:bD σ c=true)(hd:ah σ c=.v (.bool b))
 (ht:b=true->CW P x σ K) (hf:b=false->CW P y σ K):CW P (.cond c x y) σ K:=by
 intro G φ m a w hC
 have hr:=bm hC hc
 rw[hd]at hr
 have he:a.eval c=.bool b:=by
  generalize a.eval c=u at hr
  cases hr with | v _ _ hr=>cases hr;rfl
 exact wpIn_cond_split he (fun e=>ht e G φ m a w hC) (fun e=>hf e G φ m a w hC)
theorem pF{P:Program}{id:Nat}{c:Code}{σ:S}{K:Exit->S->Prop}(h:CW P c σ (kW id K)):CW P (.block id c) σ K:=by
 intro G φ m a w hC
 refine wpIn_block (wpIn_mono (h G φ m a w hC) ?_)
 rintro e a' w' ⟨φ',m',σ',h1,h2⟩
 cases e with
 |exit fX=>
  simp only[Exit.inBlock]
  simp only[kW]at h2
  split<;>rename_i l5
  ·rw[if_pos l5]at h2;exact⟨φ',m',σ',h1,h2⟩
  ·rw[if_neg l5]at h2;exact⟨φ',m',σ',h1,h2⟩
 |_=>exact⟨φ',m',σ',h1,h2⟩
def cC(σ σ':S):Prop:=
 ∀ (G:Ghost) (φ:Name->Loc) (m:Mem) (a:Act) (w:World),ay G φ m σ a w->∃ φ',ay G φ' m σ' a w
theorem sb{P:Program}{c:Code}{σ σ':S}{K:Exit->S->Prop}(hw:cC σ σ')(h:CW P c σ' K):CW P c σ K:=by
 intro G φ m a w hC
 obtain⟨φ',bp⟩:=hw G φ m a w hC
 exact h G φ' m a w bp
theorem E8{P:Program}{c:Code}{σ:S}{K:Exit->S->Prop}{ι:Type}(I:ι->S)(R:ι->Prop)(μ:ι->Nat)(i0:ι)(hR:R i0)(h0:cC σ (I i0))
 (round:∀ i,R i->CW P c (I i) (ll (fun σ'=>∃ i',R i'/\μ i'<μ i/\cC σ' (I i')) K)):CW P (.loop c) σ K:=by
 intro G φ m a w hC
 obtain⟨φ0,PL⟩:=h0 G φ m a w hC
 intro b k cs uV hb hr
 have key:∀ n i,μ i=n->R i->∀ φ m a w,ay G φ m (I i) a w->
     ∃ e a' w',(∃ φ' m' σ',ay G φ' m' σ' a' w'/\K e σ')/\ArrivesIn (Machine.fenced P (c0 G.rd)) P (lone (b.atR a (.code c:: .inLoop c::k)) cs w) b k cs e a' w':=by
  intro n
  induction n using Nat.strongRecOn with
  |_ n ih=>
   intro i hn hi φ m a w hC
   obtain⟨e,a₁,w₁,hq,dU⟩:=round i hi G φ m a w hC b (.inLoop c::k) cs uV hb hr
   obtain⟨φ',m',σ',h1,h2⟩:=hq
   cases e with
   |normal=>
    obtain⟨i',bl,ae,hw⟩:=h2
    obtain⟨mG,PM⟩:=hw G φ' m' a₁ w₁ h1
    obtain⟨e₂,a₂,w₂,N8,Pe⟩:=ih (μ i') (hn▸ae) i' rfl bl mG m' a₁ w₁ PM
    exact⟨e₂,a₂,w₂,N8,.of_steps (StepsIn.trans dU (.one (fenced_calm hb hr rfl) stepR_inLoop)) Pe⟩
   |exit id=>exact⟨_,a₁,w₁,⟨φ',m',σ',h1,h2⟩,.pass (x:=.inLoop c) rfl (fun _ _=>.inl (by simp)) dU⟩
   |goto l=>exact⟨_,a₁,w₁,⟨φ',m',σ',h1,h2⟩,.pass (x:=.inLoop c) rfl (fun _ _=>.inl (by simp)) dU⟩
   |ret=>exact⟨_,a₁,w₁,⟨φ',m',σ',h1,h2⟩,.pass (x:=.inLoop c) rfl (fun _ _=>.inl (by simp)) dU⟩
   |panic ch=>exact⟨_,a₁,w₁,⟨φ',m',σ',h1,h2⟩,.pass (x:=.inLoop c) rfl (fun _ _=>.inl (by simp)) dU⟩
   |outgrown=>exact⟨_,a₁,w₁,⟨φ',m',σ',h1,h2⟩,.pass (x:=.inLoop c) rfl (fun _ _=>.inl (by simp)) dU⟩
 obtain⟨e,a',w',hq,dU⟩:=key _ i0 rfl hR φ0 m a w PL
 exact⟨e,a',w',hq,.of_steps (.one (fenced_calm hb hr rfl) stepR_loop) dU⟩
theorem wV{P:Program}{Γ:FuncId->Option Spec}(hΓ:∀ f s,Γ f=some s->an P f s){id:Nat}{l:List Oper}{σ:S}{K:Exit->S->Prop}
 (h:∀ K':S->Prop,(∀ σ',K .normal σ'->K' σ')->j6 P Γ l.toArray l σ K'):CW P (.region id l.toArray false) σ K:=by
 intro G φ m a w hC
 refine wpIn_region ?_
 rw[List.range_eq_range']
 refine yi hΓ (ops:=l.toArray) l.toArray.size 0 (by simp) hC (K:=K .normal) (by simpa using h (K .normal) fun _ h=>h) fun a' w' φ' m' σ' bp hK=>⟨φ',m',σ',bp,hK⟩
mutual
def D.clos(dom:Name->Bool):D->Bool
 | .ref nm _=>dom nm
 | .msl nm _=>dom nm
 | .aref nm _ _ _=>dom nm
 | .map nm=>dom nm
 | .yld nm=>dom nm
 | .clo _ f c=>D.closL dom f&&D.closL dom c
 | .agg l=>D.closL dom l
 | .tup l=>D.closL dom l
 |_=>true
def D.closL(dom:Name->Bool):List D->Bool
 |[]=>true
 |d::r=>D.clos dom d&&D.closL dom r
end
theorem ej{dom:Name->Bool}:∀ {l:List D} {i:Nat} (h:i<l.length),D.closL dom l=true->D.clos dom l[i]=true
 |d::r,0,_,hc=>by simp only[D.closL,Bool.and_eq_true]at hc;exact hc.1
 |d::r,i+1,h,hc=>by simp only[D.closL,Bool.and_eq_true]at hc;exact ej (l:=r) (by simpa using h) hc.2
theorem al.drop{φ:Name->Loc}{obj obj':Name->Option O}{m:Mem}{dom:Name->Bool}(ho:∀ nm,dom nm=true->obj' nm=obj nm){d:D}{u:Value}(h:al φ obj m d u)
 (hc:D.clos dom d=true):al φ obj' m d u:=by
 induction h with
 |any u=>exact .any u
 |v x u h=>exact .v x u h
 |nilsl a=>exact .nilsl a
 |nilmap=>exact .nilmap
 |ref nm off h=>simp only[D.clos]at hc;exact .ref nm off (by unfold lG;rw[ho _ hc];exact h)
 |map nm h=>simp only[D.clos]at hc;exact .map nm (by unfold lG;rw[ho _ hc];exact h)
 |yld nm h=>simp only[D.clos]at hc;exact .yld nm (by unfold lG;rw[ho _ hc];exact h)
 |msl nm k u h hu=>simp only[D.clos]at hc;exact .msl nm k u (by rw[ho _ hc];exact h) hu
 |aref nm k i off u h hu=>simp only[D.clos]at hc;exact .aref nm k i off u (by rw[ho _ hc];exact h) hu
 |clo fn fs cs us vs h1 h2 bk bX jA jz=>
  simp only[D.clos,Bool.and_eq_true]at hc
  exact .clo fn fs cs us vs h1 h2 (fun i a b=>jA i a b (ej a hc.1)) fun i a b=>jz i a b (ej a hc.2)
 |agg l us h bA hr ih=>simp only[D.clos]at hc;exact .agg l us h bA fun i a b=>ih i a b (ej a hc)
 |tup l us h hr ih=>simp only[D.clos]at hc;exact .tup l us h fun i a b=>ih i a b (ej a hc)
def O.clos(dom:Name->Bool):O->Bool
 | .box cs=>D.closL dom cs
 | .loop env _ _ _ _ _=>D.closL dom (env.map (·.d))
 |_=>true
mutual
theorem clos_imp{dom ei:Name->Bool}(hd:∀ nm,dom nm=true->ei nm=true):∀ d:D,D.clos dom d=true->D.clos ei d=true
 | .ref nm _,hc=>hd nm hc
 | .msl nm _,hc=>hd nm hc
 | .aref nm _ _ _,hc=>hd nm hc
 | .map nm,hc=>hd nm hc
 | .yld nm,hc=>hd nm hc
 | .clo _ f c,hc=>by
   simp only[D.clos,Bool.and_eq_true]at hc |-
   exact⟨mw hd f hc.1,mw hd c hc.2⟩
 | .agg l,hc=>by simp only[D.clos]at hc |-;exact mw hd l hc
 | .tup l,hc=>by simp only[D.clos]at hc |-;exact mw hd l hc
 | .v _,_=>by simp only[D.clos]
 | .nilsl,_=>by simp only[D.clos]
 | .nilmap,_=>by simp only[D.clos]
 | .any,_=>by simp only[D.clos]
theorem mw{dom ei:Name->Bool}(hd:∀ nm,dom nm=true->ei nm=true):∀ l:List D,D.closL dom l=true->D.closL ei l=true
 |[],_=>by simp only[D.closL]
 |d::r,hc=>by
  simp only[D.closL,Bool.and_eq_true]at hc |-
  exact⟨clos_imp hd d hc.1,mw hd r hc.2⟩
end
theorem O.clos_imp{dom ei:Name->Bool}(hd:∀ nm,dom nm=true->ei nm=true){o:O}(h:O.clos dom o=true):O.clos ei o=true:=by
 cases o with
 |box cs=>exact mw hd cs h
 |loop env=>exact mw hd _ h
 |_=>rfl
def eAny:E:=⟨true,.any⟩
def aZ(nt:Nat)(p:Name)(H:Name->Option O)(l:List (Nat×E))(h:List (Name×O)):S:=
 ⟨nt,cm eAny l,fun nm=>if own p nm=true then cm none (h.map fun q=>(q.1,some q.2)) nm else H nm,p,0⟩
def iZ(p:Name)(h:List (Name×O))(nm:Name):Bool:=!own p nm||h.any fun q=>q.1==nm
def j7(p:Name)(dom:Name->Bool)(H:Name->Option O):Prop:=∀ nm o,own p nm=false->H nm=some o->O.clos dom o=true
structure Fits (σ:S) (p:Name) (H:Name->Option O) (l:List (Nat×E)) (h:List (Name×O)):Prop where
 pre:σ.pre=p
 out:∀ nm,own p nm=false->σ.obj nm=H nm
 env:∀ q∈l,σ.env q.1=q.2
 obj:∀ q∈h,σ.obj q.1=some q.2
 envc:(l.all fun q=>D.clos (iZ p h) q.2.d)=true
 objc:(h.all fun q=>O.clos (iZ p h) q.2)=true
 outc:j7 p (iZ p h) H
theorem mW{α β:Type}[DecidableEq α]{z:β}:∀ (l:List (α×β)) (x:α),cm z l x=z\/(x,cm z l x)∈l
 |[],x=>.inl rfl
 |(a,b)::r,x=>by
  simp only[cm]
  split
  ·rename_i h;subst h;exact .inr (by simp)
  ·rcases mW r x with h | h
   ·exact .inl h
   ·exact .inr (List.mem_cons_of_mem _ h)
theorem Fits.dom{σ:S}{p:Name}{H:Name->Option O}{l:List (Nat×E)}{h:List (Name×O)}(hf:Fits σ p H l h):∀ nm,iZ p h nm=true->(aZ σ.nt p H l h).obj nm=σ.obj nm:=by
 intro nm hd
 simp only[iZ,Bool.or_eq_true,Bool.not_eq_true',List.any_eq_true,beq_iff_eq]at hd
 cases ho:own p nm with
 |false=>
  simp only[aZ,ho,Bool.false_eq_true,if_false]
  exact(hf.out nm ho).symm
 |true=>
 rw[ho]at hd
 simp only[Bool.true_eq_false,false_or]at hd
 obtain⟨q,hq,rfl⟩:=hd
 rw[hf.obj q hq]
 simp only[aZ,ho,if_true]
 have key:∀ (h':List (Name×O)),(∀ r∈h',r∈h)->q∈h'->cm none (h'.map fun q=>(q.1,some q.2)) q.1=some q.2:=by
  intro h' hs Dp
  induction h' with
  |nil=>simp at Dp
  |cons r rs ih=>
   simp only[List.map_cons,cm]
   split
   ·rename_i e
    have h1:=hf.obj r (hs r (by simp))
    have h2:=hf.obj q hq
    rw[<-e]at h1
    rw[h1]at h2
    exact h2
   ·rename_i e
    rcases List.mem_cons.1 Dp with h1 | h1
    ·subst h1;exact(e rfl).elim
    ·exact ih (fun r hr=>hs r (by simp[hr])) h1
 exact key h (fun _ h=>h) hq
theorem Fits.conc{σ:S}{p:Name}{H:Name->Option O}{l:List (Nat×E)}{h:List (Name×O)}(hf:Fits σ p H l h){G:Ghost}{φ:Name->Loc}{m:Mem}{a:Act}{w:World}(hC:ay G φ m σ a w):
 ay G φ m (aZ σ.nt p H l h) a w:=by
 have oY:∀ nm o,(aZ σ.nt p H l h).obj nm=some o->σ.obj nm=some o/\O.clos (iZ p h) o=true:=by
  intro nm o hn
  simp only[aZ]at hn
  split at hn
  ·rcases mW (z:=(none:Option O)) (h.map fun q=>(q.1,some q.2)) nm with h1 | h1
   ·rw[h1]at hn;cases hn
   ·rw[hn]at h1
    simp only[List.mem_map,Prod.mk.injEq,Option.some.injEq]at h1
    obtain⟨q,hq,h2,h3⟩:=h1
    have :=hf.obj q hq
    rw[h2,h3]at this
    have h5:=List.all_eq_true.1 hf.objc q hq
    rw[h3]at h5
    exact⟨this,h5⟩
  ·rename_i ho
   have bA:own p nm=false:=by simpa using ho
   exact⟨(hf.out nm bA).trans hn,hf.outc nm o bA hn⟩
 have vR:=hf.dom
 have hM:∀ nm,holds φ (aZ σ.nt p H l h).obj nm->holds φ σ.obj nm:=fun nm ⟨o,h1,h2,h3⟩=>⟨o,(oY nm o h1).1,h2,h3⟩
 constructor
 ·intro t
  rcases mW (z:=eAny) l t with h1 | h1
  ·show bn φ _ m (cm eAny l t) _
   rw[h1];unfold bn eAny;simp;exact .any _
  ·show bn φ _ m (cm eAny l t) _
   have h2:=hf.env _ h1
   have h3:=List.all_eq_true.1 hf.envc _ h1
   have h4:=hC.tmps t
   simp only at h2 h3
   rw[h2]at h4
   unfold bn at h4 |-
   split
   ·rename_i hc
    rw[if_pos hc]at h4
    exact h4.drop vR h3
   ·rename_i hc
    rw[if_neg hc]at h4;exact h4
 ·exact hC.size
 ·exact hC.defers
 ·intro nm o hn
  obtain⟨h1,h4⟩:=oY nm o hn
  have h3:=hC.objs nm o h1
  cases o with
  |box cs=>
   obtain⟨g0,g1,g2,us,T,f,g3,g4,g5,g6⟩:=h3
   simp only[O.clos]at h4
   exact⟨g0,g1,g2,us,T,f,g3,g4,g5,fun i a b=>(g6 i a b).drop vR (ej a h4)⟩
  |loop env ps asg body st aW=>
   obtain⟨g0,g1,r,g2,g3,g4,g5,g6,g7,g8,g9⟩:=h3
   simp only[O.clos]at h4
   refine⟨g0,g1,r,g2,g3,g4,g5,g6,g7,g8,fun i a=>?_⟩
   have rU:=g9 i a
   unfold bn at rU |-
   split
   ·rename_i hc
    rw[if_pos hc]at rU
    refine rU.drop vR ?_
    have :=ej (l:=env.map (·.d)) (i:=i) (by simpa using a) h4
    simpa using this
   ·rename_i hc
    rwa [if_neg hc]at rU
  |arr=>exact h3
  |map=>exact h3
  |fbox=>exact h3
  |farr=>exact h3
  |dead=>exact h3
 ·exact hC.mem
 ·exact fun nm hn=>hC.apart nm (hM nm hn)
 ·exact fun x y hx hy e=>hC.inj x y (hM x hx) (hM y hy) e
 ·exact fun nm hn=>hC.own nm (hM nm hn)
 ·exact hC.fr
 ·exact hC.fresh
 ·refine⟨fun nm o h5=>hC.kept.1 nm o h5 |> fun h6=>by rw[hf.pre]at h6;exact h6,fun nm o h5=>?_⟩
  obtain⟨o',h6,h7⟩:=hC.kept.2 nm o h5
  have h8:=hC.kept.1 nm o h5
  rw[hf.pre]at h8
  refine⟨o',?_,h7⟩
  simp only[aZ,h8,Bool.false_eq_true,if_false]
  rw[<-hf.out nm h8]
  exact h6
theorem Fits.weak{σ:S}{p:Name}{H:Name->Option O}{l:List (Nat×E)}{h:List (Name×O)}(hf:Fits σ p H l h):cC σ (aZ σ.nt p H l h):=
 fun _ φ _ _ _ hC=>⟨φ,hf.conc hC⟩
theorem GQ{σ:S}(t:Nat)(nm:Name)(sz:Nat)(he:σ.env t=⟨true,.nilsl⟩)(hn:σ.obj nm=none):
 cC σ ⟨σ.nt,upd σ.env t ⟨true,.msl nm 0⟩,upd σ.obj nm (some (.arr sz [])),σ.pre,σ.base⟩:=by
 intro G φ m a w hC
 have ht:=hC.tmps t
 rw[he]at ht
 unfold bn at ht
 simp only[if_true]at ht
 generalize hu:a.tmps.getD t undef=u at ht
 cases ht with
 |nilsl b=>
 have hx:=Ext.new (φ:=φ) hn ⟨0,0,0,true,b⟩ (.arr sz [])
 have bp:=hC.chg (w':=w) nm (.arr sz []) ⟨0,0,0,true,b⟩ hx ⟨rfl,rfl,rfl,Nat.le_refl _⟩ (fun _ _ _=>rfl) (fun h=>by cases h) (.inl ⟨rfl,rfl⟩)
 refine⟨_,{ bp with tmps:=fun x=>?_ }⟩
 by_cases oM:x=t
 ·subst oM
  simp only[aD]
  rw[hu]
  unfold bn
  simp only[if_true]
  refine .msl _ _ _ ⟨_,_,aD _ _ _,rfl,by simp,fun _=>?_⟩ rfl
  rw[aD];rfl
 ·have:=bp.tmps x
  simp only[aU _ _ _ oM]
  exact this
def gS(P:Program)(σ:S):ResultVar->R
 | .tmp t=>⟨(σ.env t).c=true,(σ.env t).d,σ.obj⟩
 | .cell a T=>⟨(σ.env a).c=true/\(match (σ.env a).d with | .ref _ _=>True | .v (.ptr _)=>True | _=>False)/\(eR P σ.obj T (σ.env a).d).ok,(eR P σ.obj T (σ.env a).d).d,σ.obj⟩
def bO(P:Program)(σ:S)(rs:List ResultVar):R:=
 match rs with
 |[r]=>gS P σ r
 |rs=>⟨∀ r∈rs,(gS P σ r).ok,.tup (rs.map fun r=>(gS P σ r).d),σ.obj⟩
def lr(P:Program)(rs:List ResultVar)(y:V):Exit->S->Prop
 | .normal,σ=>(bO P σ rs).ok/\(aq 6 σ.obj (bO P σ rs).d).ok/\(aq 6 σ.obj (bO P σ rs).d).x=y
 | .ret,σ=>(bO P σ rs).ok/\(aq 6 σ.obj (bO P σ rs).d).ok/\(aq 6 σ.obj (bO P σ rs).d).x=y
 |_,_=>False
def dM:Nat->List V->List (Nat×E)
 |_,[]=>[]
 |k,x::r=>(k,⟨true,.v x⟩)::dM (k+1) r
theorem xn:∀ {k:Nat} {xs:List V} {t:Nat} {e:E},(t,e)∈dM k xs->∃ (i:Nat) (h:i<xs.length),t=k+i/\e=⟨true,.v xs[i]⟩
 |k,[],t,e,h=>by simp[dM]at h
 |k,x::r,t,e,h=>by
  simp only[dM,List.mem_cons,Prod.mk.injEq]at h
  rcases h with⟨rfl,rfl⟩ | h
  ·exact⟨0,by simp,rfl,rfl⟩
  ·obtain⟨i,hi,h1,h2⟩:=xn h
   exact⟨i+1,by simpa using hi,by omega,by simpa using h2⟩
def mQ(tmps:Array Value):ResultVar->Sem Value
 | .tmp t=>pure (tmps.getD t undef)
 | .cell b T=>do loadVar T (<-asAddr (tmps.getD b undef))
theorem IW(fn:Func)(tmps:Array Value):results fn tmps=(do
 let vs <-fn.results.mapM (mQ tmps)
 pure (if h:vs.size=1 then vs[0]else .tuple vs)):=by
 unfold results
 have e:(fun r:ResultVar=>(match r with
     | .tmp t=>pure (tmps.getD t undef)
     | .cell a t=>do loadVar t (<-asAddr (tmps.getD a undef)):Sem Value))=mQ tmps:=by
  funext r
  cases r<;>rfl
 rw[<-e]
 rfl
theorem IY{P:Program}{G:Ghost}{φ:Name->Loc}{m:Mem}{σ:S}{a:Act}{w:World}(hC:ay G φ m σ a w)(r:ResultVar)(aa:(gS P σ r).ok):
 ∃ v,(mQ a.tmps r).run P w=.ok v w/\al φ σ.obj m (gS P σ r).d v:=by
 cases r with
 |tmp t=>
  have :=hC.tmps t
  unfold bn at this
  simp only[gS]at aa
  rw[if_pos aa]at this
  exact⟨_,rfl,this⟩
 |cell b T=>
  simp only[gS]at aa |-
  obtain⟨h1,h2,h3⟩:=aa
  have ht:=hC.tmps b
  unfold bn at ht
  rw[if_pos h1]at ht
  have jG:mQ a.tmps (.cell b T)=(do loadVar T (<-asAddr (a.tmps.getD b undef))):=rfl
  rw[jG]
  generalize a.tmps.getD b undef=u at *
  obtain⟨v,h4,h5,_⟩:=xQ hC ht h3
  refine⟨v,?_,h5⟩
  generalize (σ.env b).d=d at *
  cases ht with
  |ref=>simpa[Instr.loadAt,Instr.sureAddr,asAddr]using h4
  |v _ _ hv=>
   cases hv with
   |ptr=>simpa[Instr.loadAt,Instr.sureAddr,asAddr]using h4
   |_=>exact h2.elim
  |_=>exact h2.elim
theorem yd{P:Program}{G:Ghost}{φ:Name->Loc}{m:Mem}{σ:S}{a:Act}{w:World}(hC:ay G φ m σ a w)(fn:Func)(aa:(bO P σ fn.results.toList).ok):
 ∃ v,(results fn a.tmps).run P w=.ok v w/\al φ σ.obj m (bO P σ fn.results.toList).d v:=by
 have Dy:∀ (rs:List ResultVar),(∀ r∈rs,(gS P σ r).ok)->
     ∃ vs:List Value,(rs.mapM (mQ a.tmps)).run P w=.ok vs w/\vs.length=rs.length/\
       ∀ i (h:i<rs.length) (h':i<vs.length),al φ σ.obj m (gS P σ rs[i]).d vs[i]:=by
  intro rs
  induction rs with
  |nil=>intro _;exact⟨[],rfl,rfl,fun i h=>by simp at h⟩
  |cons r rs ih=>
   intro h
   obtain⟨v,h1,h2⟩:=IY hC r (h r (by simp))
   obtain⟨vs,h3,h4,h5⟩:=ih (fun r hr=>h r (by simp[hr]))
   refine⟨v::vs,?_,by simp[h4],fun i hi bl=>?_⟩
   ·simp only[List.mapM_cons,Sem.run_bind]
    rw[h1]
    simp only[Result.andThen_ok]
    rw[h3]
    rfl
   ·cases i with
    |zero=>exact h2
    |succ i=>exact h5 i (by simpa using hi) (by simpa using bl)
 have rk:∀ vs:List Value,(fn.results.toList.mapM (mQ a.tmps)).run P w=.ok vs w->
     (results fn a.tmps).run P w=.ok (if h:vs.toArray.size=1 then vs.toArray[0]else .tuple vs.toArray) w:=by
  intro vs h
  rw[IW,Array.mapM_eq_mapM_toList]
  simp only[Sem.run_bind,Sem.run_map]
  rw[h]
  rfl
 generalize eF:fn.results.toList=rs at *
 unfold bO at aa |-
 split at aa
 ·rename_i r
  obtain⟨vs,h1,h2,h3⟩:=Dy [r] (fun q hq=>by simp at hq;subst hq;exact aa)
  match vs,h2 with
  |[v],_=>exact⟨v,by simpa using rk [v] h1,h3 0 (by simp) (by simp)⟩
 ·rename_i ar
  obtain⟨vs,h1,h2,h3⟩:=Dy rs aa
  refine⟨.tuple vs.toArray,?_,?_⟩
  ·have:=rk vs h1
   rw[dif_neg (by
    simp only[List.size_toArray]
    intro e
    match rs,(h2▸e:rs.length=1)with
    |[r],_=>exact ar r rfl)]at this
   exact this
  ·refine .tup _ _ (by simp[h2]) fun i a b=>?_
   simp only[List.getElem_map,List.getElem_toArray]
   exact h3 i (by simpa using a) (by simpa using b)
mutual
def V.wf:V->Prop
 | .sl l=>l.length<=maxLen/\V.wfL l
 | .agg l=>V.wfL l
 | .tup l=>V.wfL l
 | .ptr l=>V.wfL l
 | .clo _ f c=>V.wfL f/\V.wfL c
 | .str s=>s.size<=maxLen
 |_=>True
def V.wfL:List V->Prop
 |[]=>True
 |x::r=>V.wf x/\V.wfL r
end
theorem ji:∀ {l:List V},(∀ i (h:i<l.length),V.wf l[i])->V.wfL l
 |[],_=>trivial
 |x::r,h=>⟨h 0 (by simp),ji fun i hi=>h (i+1) (by simpa using hi)⟩
theorem GN{x:V}(h:∀ j (h:j<x.cells.length),V.wf x.cells[j]):V.wf x:=by
 cases x with
 |agg l=>exact ji h
 |_=>exact h 0 (by simp[V.cells])
theorem GM{m:Mem}{x:V}{u:Value}(h:aw m x u):V.wf x:=by
 induction h with
 |int=>trivial
 |bool=>trivial
 |str s h=>exact h
 |slnil=>exact⟨Nat.zero_le _,trivial⟩
 |sl l b o cap sz c hn hl fg hs hc hr ho ih=>exact⟨hl,ji fun i hi=>GN fun j hj=>ih i j hi hj⟩
 |agg l us h ho hr ih=>exact ji fun i hi=>ih i hi (by omega)
 |tup l us h hr ih=>exact ji fun i hi=>ih i hi (by omega)
 |ptr cs b o c ho hc hr ih=>exact ji fun i hi=>ih i hi
 |nilp=>trivial
 |clo fn fs cs us vs h1 h2 bk bX jA jz=>exact⟨ji fun i hi=>jA i hi (by omega),ji fun i hi=>jz i hi (by omega)⟩
 |nilfn=>trivial
theorem GO{m:Mem}{xs:List V}{us:List Value}(h:mD m xs us):V.wfL xs:=ji fun i hi=>GM (h.2 i hi (by have:=h.1;omega))
theorem ay.take{G:Ghost}{φ:Name->Loc}{m:Mem}{σ:S}{a:Act}{w:World}{D:Nat}{ds:List Deferred}(hC:ay G φ m σ a w)(ha:a.defers={ target:=.collected D,args:= #[] }::ds):
 w.heap[D]?=some (.deferred (some []))/\ay G φ m σ { a with defers:=ds } (w.putObj D (.deferred none)):=by
 obtain⟨l,h1,h2,h3⟩:=hC.defers
 rw[ha]at h1
 cases l with
 |nil=>cases h1
 |cons D' l=>
  simp only[List.map_cons,List.cons.injEq,Deferred.mk.injEq,Target.collected.injEq,and_true]at h1
  obtain⟨rfl,rfl⟩:=h1
  obtain⟨h5,h6⟩:=h3 D (by simp)
  have hb:∀ b,b≠D->(w.putObj D (.deferred none)).heap[b]?=w.heap[b]?:=fun b hb=>World.putObj_heap_other hb
  have ae:=(Array.getElem?_eq_some_iff.1 h6).1
  refine⟨h6,?_⟩
  constructor
  ·exact hC.tmps
  ·exact hC.size
  ·refine⟨l,rfl,(List.nodup_cons.1 h2).2,fun E hE=>⟨(h3 E (by simp[hE])).1,?_⟩⟩
   rw[hb E (fun e=>(List.nodup_cons.1 h2).1 (e▸hE))]
   exact(h3 E (by simp[hE])).2
  ·intro nm o ho
   refine(hC.objs nm o ho).ext (Mem.le_refl m) (Ext.refl _ _) fun hm hn=>hb _ fun e=>?_
   exact(hC.objs nm o ho).notDef hm hn _ (by rw[e];exact h6)
  ·intro b off v h
   have h7:=hC.mem b off v h
   rw[kV (hb b (fun e=>by subst e;unfold World.cell? at h7;simp[h6]at h7))]
   exact h7
  ·exact hC.apart
  ·exact hC.inj
  ·exact hC.own
  ·refine⟨hC.fr.os,hC.fr.tape,hC.fr.output,by simpa using hC.fr.size,fun b cE ho=>?_⟩
   rw[hb b (by omega)]
   exact hC.fr.block b cE ho
  ·exact hC.fresh
  ·exact hC.kept
theorem ug{P:Program}{F:Fence}{n:Nat}{G:Ghost}{φ:Name->Loc}{m:Mem}{σ:S}{fn:Func}{R:Ending->World->Prop}:∀ (ds:List Deferred) {a:Act} {w:World} (_:a.defers=ds) (_:ay G φ m σ a w)
 (_:∀ a' w',a'.tmps=a.tmps->ay G φ m σ a' w'->∃ v,(results fn a'.tmps).run P w'=.ok v w'/\R (.returned v) w'),LeavesInM F n P fn a.tmps R a.defers .returning w
 |[],a,w,ha,hC,fin=>by
  obtain⟨v,h1,h2⟩:=fin a w rfl hC
  rw[ha]
  exact⟨v,h1,h2⟩
 |d::ds,a,w,ha,hC,fin=>by
  obtain⟨l,h1,h2,h3⟩:=hC.defers
  rw[ha]at h1
  cases l with
  |nil=>cases h1
  |cons D l=>
   simp only[List.map_cons,List.cons.injEq]at h1
   obtain⟨h4,h5⟩:=hC.take (D:=D) (ds:=ds) (by rw[ha,h1.1])
   have :=ug ds (F:=F) (n:=n) (a:={ a with defers:=ds }) (w:=w.putObj D (.deferred none)) rfl h5 (fun a' w' e bp=>fin a' w' e bp)
   rw[ha]
   refine⟨by simp,.inl ⟨D,_,by rw[h1.1],run_takeDeferred h4,this⟩⟩
theorem yt{P:Program}{f:FuncId}{fn:Func}{c:Code}{s:PSpec}{nt:Nat}{rs:List ResultVar}(hf:P.funcs[f]?=some fn)(hb:fn.body=some c)(dS:fn.ntmps=nt)(eF:fn.results.toList=rs)(hS:∀ args w,(callFunc f args).run P w=.ok (.enter f args) w)(ar:f≠yid)
 (dn:s.flat=true->∀ xs,s.pre xs->(s.fn xs).flat=true)
 (h:∀ xs,s.pre xs->V.wfL xs->xs.length<=nt/\CW P c (aZ nt [0] (fun _=>none) (dM 0 xs) []) (lr P rs (s.fn xs))):aS P f s:=by
 subst dS
 subst eF
 refine⟨ar,hS,dn,fun m w xs args lO hm hx hp=>?_⟩
 obtain⟨hlen,hZ⟩:=h xs hp (GO hx)
 have bB:xs.length=args.size:=by simpa using hx.1
 refine(callsIn_wide (n:=0)).1 (callsIn_of_wp_marks hf hb trivial ?_)
 have hC:ay ⟨w,m,fun _=>False,none,fun _=>⟨0,0,0,true,none⟩,fun _=>none,fun _ h=>(by cases h),⟨lO,fun _ _ h=>h⟩⟩ (fun _=>⟨0,0,0,true,none⟩) m (aZ fn.ntmps [0] (fun _=>none) (dM 0 xs) []) { tmps:=args++Array.replicate (fn.ntmps-args.size) undef,defers:=[] } w:=by
  constructor
  ·intro t
   show bn _ _ m (cm eAny (dM 0 xs) t) _
   rcases mW (z:=eAny) (dM 0 xs) t with h1 | h1
   ·rw[h1];unfold bn eAny;simp;exact .any _
   ·obtain⟨i,hi,h2,h3⟩:=xn h1
    rw[h3]
    unfold bn
    simp only[if_true]
    have bl:i<args.size:=by omega
    have e:((args++Array.replicate (fn.ntmps-args.size) undef).getD t undef)=args[i]:=by
     have ax:0+i<(args++Array.replicate (fn.ntmps-args.size) undef).size:=by simp;omega
     rw[h2]
     simp only[Array.getD,ax,dite_true]
     show (args++Array.replicate (fn.ntmps-args.size) undef)[0+i]=args[i]
     simp only[Nat.zero_add]
     exact Array.getElem_append_left bl
    rw[e]
    exact .v _ _ (by have:=hx.2 i hi (by simpa using bl);rw[Array.getElem_toList]at this;exact this)
  ·show (args++Array.replicate (fn.ntmps-args.size) undef).size=fn.ntmps
   simp;omega
  ·exact⟨[],rfl,by simp,by simp⟩
  ·intro nm o h;simp[aZ,cm]at h
  ·exact hm
  ·rintro nm ⟨o,h,_⟩;simp[aZ,cm]at h
  ·rintro nm fT ⟨o,h,_⟩;simp[aZ,cm]at h
  ·rintro nm ⟨o,h,_⟩;simp[aZ,cm]at h
  ·exact⟨rfl,rfl,rfl,Nat.le_refl _,fun _ _ _=>rfl⟩
  ·intro b off v h;exact .inl h
  ·exact⟨fun _ _ h=>(by cases h),fun _ _ h=>(by cases h)⟩
 refine wpIn_mono (hZ _ _ m _ w hC) ?_
 rintro e a1 w1 ⟨φ',m',σ',cK,hK⟩
 have fin:(bO P σ' fn.results.toList).ok/\(aq 6 σ'.obj (bO P σ' fn.results.toList).d).ok/\(aq 6 σ'.obj (bO P σ' fn.results.toList).d).x=s.fn xs->
     LeavesInM Fence.wide 0 P fn a1.tmps (fun e w'=>∃ v m',e=.returned v/\RowKit.Below w.heap.size w w'/\Mem.le m m'/\
     (∀ b off c,m' b off=some c->m b off=some c\/(w.heap.size<=b/\w'.cell? ⟨b,off,none⟩=some c))/\aw m' (s.fn xs) v) a1.defers .returning w1:=by
  rintro⟨h1,h2,h3⟩
  refine ug a1.defers rfl cK fun a' w' _ bp=>?_
  obtain⟨v,h4,h5⟩:=yd bp fn h1
  obtain⟨m2,h6,h7,_,h8,_⟩:=jQ 6 _ _ _ _ _ _ bp _ _ h5 h2
  refine⟨v,h4,v,fun b off=>match m2 b off with | some c=>some c | none=>m b off,rfl,?_,?_,?_,?_⟩
  ·exact⟨bp.fr.os,bp.fr.tape,bp.fr.output,bp.fr.size,fun k hk=>bp.fr.block k hk (fun h=>h)⟩
  ·intro b off c hc
   show (match m2 b off with | some c=>some c | none=>m b off)=some c
   cases dJ:m2 b off with
   |none=>exact hc
   |some c'=>
    have k1:=h7.mem b off c' dJ
    have k2:=hm b off c hc
    have ae:=jb k2
    rw[kV (bp.fr.block b ae (fun h=>h))]at k1
    rw[k2]at k1
    exact k1.symm
  ·intro b off c hc
   have gd:(match m2 b off with | some c=>some c | none=>m b off)=some c:=hc
   cases dJ:m2 b off with
   |none=>rw[dJ]at gd;exact .inl gd
   |some c'=>
    rw[dJ]at gd
    simp only[Option.some.injEq]at gd
    subst gd
    rcases h7.fresh b off c' dJ with h | h | h
    ·exact .inl h
    ·exact .inr ⟨h,h7.mem b off c' dJ⟩
    ·exact h.elim
  ·rw[<-h3]
   refine h8.mono fun b off c hc=>?_
   show (match m2 b off with | some c=>some c | none=>m b off)=some c
   rw[hc]
 cases e with
 |normal=>exact fin hK
 |ret=>exact fin hK
 |_=>exact hK.elim
theorem Jy(n:Nat)(p:Name)(H:Name->Option O)(l:List (Nat×E))(h:List (Name×O)):(aZ n p H l h).env=cm eAny l:=rfl
theorem Ju(n:Nat)(p:Name)(H:Name->Option O)(l:List (Nat×E))(h:List (Name×O)):(aZ n p H l h).obj=fun nm=>if own p nm=true then cm none (h.map fun q=>(q.1,some q.2)) nm else H nm:=rfl
theorem Jv(n:Nat)(p:Name)(H:Name->Option O)(l:List (Nat×E))(h:List (Name×O)):(aZ n p H l h).nt=n:=rfl
theorem Jz(n:Nat)(p:Name)(H:Name->Option O)(l:List (Nat×E))(h:List (Name×O)):(aZ n p H l h).base=0:=rfl
theorem Jt(n:Nat)(p:Name)(H:Name->Option O)(l:List (Nat×E))(h:List (Name×O)):(aZ n p H l h).pre=p:=rfl
theorem tP{n:Nat}{p:Name}{H H':Name->Option O}{l:List (Nat×E)}{h:List (Name×O)}(hh:∀ nm,own p nm=false->H nm=H' nm):aZ n p H l h=aZ n p H' l h:=by
 unfold aZ
 congr 1
 funext nm
 cases ho:own p nm with
 |true=>rfl
 |false=>simp only[Bool.false_eq_true,if_false];exact hh nm ho
theorem Jx(n:Nat)(p:Name)(F H:Name->Option O)(l:List (Nat×E))(h:List (Name×O)):aZ n p (fun nm=>if own p nm=true then F nm else H nm) l h=aZ n p H l h:=
 tP fun nm hn=>by simp[hn]
theorem Js{n:Nat}{p:Name}{H:Name->Option O}{nm:Name}{o:Option O}{l:List (Nat×E)}{h:List (Name×O)}(ho:own p nm=true):aZ n p (upd H nm o) l h=aZ n p H l h:=
 tP fun x hx=>aU _ _ _ (by rintro rfl;rw[ho]at hx;cases hx)
theorem Ro(p:Name)(dom:Name->Bool):j7 p dom (fun _=>none)=True:=eq_true fun nm o _ h=>by cases h
theorem Rq(p:Name)(dom:Name->Bool)(F H:Name->Option O):j7 p dom (fun nm=>if own p nm=true then F nm else H nm)=j7 p dom H:=by
 refine propext ⟨fun k nm o ho h=>k nm o ho (by simp[ho,h]),fun k nm o ho h=>k nm o ho ?_⟩
 simpa[ho]using h
theorem Rn{p:Name}{dom:Name->Bool}{H:Name->Option O}{nm:Name}{o:Option O}(ho:own p nm=true):j7 p dom (upd H nm o)=j7 p dom H:=by
 have e:∀ x,own p x=false->upd H nm o x=H x:=fun x hx=>aU _ _ _ (by rintro rfl;rw[ho]at hx;cases hx)
 exact propext ⟨fun k x q hx h=>k x q hx (by rw[e x hx];exact h),fun k x q hx h=>k x q hx (by rw[<-e x hx];exact h)⟩
def eB(ks:List Nat)(ns:List Name)(σ:S):S:=
 aZ σ.nt σ.pre σ.obj (ks.map fun t=>(t,σ.env t)) (ns.filterMap fun nm=>(σ.obj nm).map fun o=>(nm,o))
def ek(ks:List Nat)(ns:List Name)(σ:S):Prop:=
 (((ks.map fun t=>(t,σ.env t)).all fun q=>D.clos (iZ σ.pre (ns.filterMap fun nm=>(σ.obj nm).map fun o=>(nm,o))) q.2.d)&&
 ((ns.filterMap fun nm=>(σ.obj nm).map fun o=>(nm,o)).all fun q=>O.clos (iZ σ.pre (ns.filterMap fun nm=>(σ.obj nm).map fun o=>(nm,o))) q.2))=true/\
 j7 σ.pre (iZ σ.pre (ns.filterMap fun nm=>(σ.obj nm).map fun o=>(nm,o))) σ.obj
theorem sX{σ:S}(ks:List Nat)(ns:List Name)(h:ek ks ns σ):cC σ (eB ks ns σ):=by
 unfold ek at h
 simp only[Bool.and_eq_true]at h
 refine Fits.weak ⟨rfl,fun _ _=>rfl,fun p hp=>?_,fun p hp=>?_,h.1.1,h.1.2,h.2⟩
 ·simp only[List.mem_map]at hp
  obtain⟨t,_,rfl⟩:=hp
  rfl
 ·simp only[List.mem_filterMap,Option.map_eq_some_iff]at hp
  obtain⟨nm,_,o,h1,rfl⟩:=hp
  exact h1
theorem E9{P:Program}{c:Code}{σ:S}{K:Exit->S->Prop}(ks:List Nat)(ns:List Name)(h:ek ks ns σ)(hc:CW P c (eB ks ns σ) K):CW P c σ K:=
 sb (sX ks ns h) hc
def CL(P:Program):List Code->S->(Exit->S->Prop)->Prop
 |[],σ,K=>K .normal σ
 |c::r,σ,K=>CW P c σ (ll (fun σ'=>CL P r σ' K) K)
theorem sf{P:Program}{c:Code}{σ:S}{K:Exit->S->Prop}(h:CL P [c] σ K):CW P c σ K:=
 CW.mono h fun e σ' hk=>by cases e<;>exact hk
theorem fJ{P:Program}{σ:S}{K:Exit->S->Prop}(h:K .normal σ):CL P [] σ K:=h
theorem eO{P:Program}{x y:Code}{r:List Code}{σ:S}{K:Exit->S->Prop}(h:CL P (x::y::r) σ K):CL P (.seq x y::r) σ K:=
 sd (CW.mono h fun e σ' hk=>by cases e<;>exact hk)
theorem aR{P:Program}{r:List Code}{σ:S}{K:Exit->S->Prop}(h:CL P r σ K):CL P (.skip::r) σ K:=E6 h
theorem cG{P:Program}{id:Nat}{r:List Code}{σ:S}{K:Exit->S->Prop}(h:K (.exit id) σ):CL P (.exit id::r) σ K:=E' h
theorem aC{P:Program}{r:List Code}{σ:S}{K:Exit->S->Prop}(h:K .ret σ):CL P (.ret::r) σ K:=E7 h
theorem aQ{P:Program}{c:Operand}{x y:Code}{r:List Code}{σ:S}{K:Exit->S->Prop}{b:Bool}(hc:bD σ c=true)(hd:ah σ c=.v (.bool b))
 (ht:b=true->CL P (x::r) σ K) (hf:b=false->CL P (y::r) σ K):CL P (.cond c x y::r) σ K:=wX hc hd ht hf
theorem bd{P:Program}{id:Nat}{c:Code}{r:List Code}{σ:S}{K:Exit->S->Prop}(h:CL P [c] σ (kW id (ll (fun σ'=>CL P r σ' K) K))):CL P (.block id c::r) σ K:=
 pF (sf h)
theorem QC{P:Program}{c:Code}{r:List Code}{σ:S}{K:Exit->S->Prop}{ι:Type}(I:ι->S)(R:ι->Prop)(μ:ι->Nat)(i0:ι)(hR:R i0)(h0:cC σ (I i0))
 (round:∀ i,R i->CL P [c] (I i) (ll (fun σ'=>∃ i',R i'/\μ i'<μ i/\cC σ' (I i')) K)):CL P (.loop c::r) σ K:=
 E8 I R μ i0 hR h0 fun i hi=>CW.mono (sf (round i hi)) fun e σ' hk=>by cases e<;>exact hk
theorem Fk{P:Program}{Γ:FuncId->Option Spec}(hΓ:∀ f s,Γ f=some s->an P f s){id:Nat}{l:List Oper}{c:Code}{r:List Code}{σ:S}{K:Exit->S->Prop}(ks:List Nat)(ns:List Name)
 (h:∀ K':S->Prop,(∀ σ',ek ks ns σ'->CL P (c::r) (eB ks ns σ') K->K' σ')->j6 P Γ l.toArray l σ K'):CL P (.region id l.toArray false::c::r) σ K:=
 wV hΓ fun K' hK=>h K' fun σ' hc hy=>hK σ' (E9 ks ns hc hy)
theorem bw{P:Program}{Γ:FuncId->Option Spec}(hΓ:∀ f s,Γ f=some s->an P f s){id:Nat}{l:List Oper}{σ:S}{K:Exit->S->Prop}
 (h:∀ K':S->Prop,(∀ σ',K .normal σ'->K' σ')->j6 P Γ l.toArray l σ K'):CL P [.region id l.toArray false] σ K:=
 wV hΓ fun K' hK=>h K' fun σ' hc=>hK σ' hc
theorem Ri(obj:Name->Option O)(b p q:Bool):eQ obj (.v (.bool b)) (.v (.bool p)) (.v (.bool q))=⟨True,.v (.bool (if b=true then p else q)),obj⟩:=rfl
theorem Rh(obj:Name->Option O)(x y:D):eQ obj (.v (.bool false)) x y=⟨True,y,obj⟩:=by
 unfold eQ
 simp only
 congr 1
 split
 ·simp_all
 ·rfl
theorem Rf(obj:Name->Option O)(x y:D):eQ obj (.v (.bool true)) x y=⟨True,x,obj⟩:=by
 unfold eQ
 simp only
 congr 1
 split
 ·simp_all
 ·rfl
attribute [go_sem] Ri Rh Rf
attribute [go_sem] Array.toList_append List.length_map List.forall_mem_cons List.not_mem_nil false_implies implies_true j6 gz aN iW cA iV wK r4 iJ aF ah bD eW mX Op.operands Call.operands Jy Ju Jv Jt Jz Nat.zero_add Jx Js Ro Rq Rn own lr dM cm GY eB ek eAny ll kW
 eR gP iz gO jf fK fL iy gI ix F7 iv iu er gQ jY qO gq gL gp gK gJ fk gM mB gN fM bI
 R.bad aI D.boxable D.cells D.one V.cells V.one V.okc O.len? D.clos D.closL O.clos iZ pL sy nW pH ck kY kX av aq aG dt fG eU mq dF cH jy bZ Value.cells
 bO gS
 List.map_cons List.map_nil List.all_cons List.all_nil List.any_cons List.any_nil List.filterMap_cons List.filterMap_nil Option.map_some Option.map_none Option.bind_some Option.bind_none Option.isSome_some Option.isSome_none
 Option.getD_some Option.getD_none Bool.and_true Bool.true_and Bool.and_false Bool.false_and Bool.or_true Bool.true_or Bool.or_false Bool.false_or Bool.not_true Bool.not_false
 List.cons.injEq true_and and_true if_true if_false Bool.false_eq_true forall_const true_implies List.length_cons List.length_nil List.getD_cons_zero List.getD_cons_succ
 List.drop_zero List.drop_succ_cons List.take_succ_cons List.take_zero List.nil_append List.cons_append beq_self_eq_true Prod.mk.injEq and_self
theorem wrap_i64{x:Int}(h0: -9223372036854775808<=x)(h1:x<=9223372036854775807):IntKind.i64.wrap x=x:=by
 rw[IntKind.wrap_i64];omega
theorem aT{i n:Nat}(h:i<n)(hn:n<=maxLen):IntKind.i64.wrap ((i:Int)+1)=((i+1:Nat):Int):=by
 unfold maxLen at hn
 rw[wrap_i64 (by omega) (by omega)];rfl
theorem aA{α:Type}{f:α->V}{l:List α}{i:Nat}(h:i<l.length):(l.map f).getD i default=f l[i]:=by
 rw[dV (by simpa using h)];simp
end Go.Eng
