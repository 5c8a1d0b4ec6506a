import Derived.Test.YtepaolcgegdpoaaGreatK1
import Derived.OrdersIn
import Derived.RangeFuncLeaves
import Derived.RangeFuncRecord
import Derived.RangeFuncNested
import Derived.Attr
/- Texts Eng11 to Eng18. -/
set_option linter.all false
namespace Go.Eng
open Go
def i5(obj:Name->Option O)(c x y:D):R:=
 match c with
 | .v (.bool b)=>⟨True,match x,y with
   | .v (.bool p),.v (.bool q)=>.v (.bool (if b then p else q))
   |x,y=>if b then x else y,obj⟩
 |_=>.bad obj
theorem YP{φ:Name->Loc}{obj:Name->Option O}{m:Mem}{b:Bool}{x y:D}{u:Value}(h:aD φ obj m (if b then x else y) u):aD φ obj m (i5 obj (.v (.bool b)) x y).d u:=by
 unfold i5
 simp only
 split
 ·rename_i p q
  cases b with
  |true=>simpa using h
  |false=>simpa using h
 ·exact h
def M1(obj:Name->Option O)(fn:Fn)(f c:List D):R:=⟨True,.clo fn f c,obj⟩
def lN(P:Program)(obj:Name->Option O)(T:TypeId)(x:D)(f:Nat):R:=
 match bK P T f,x with
 |some (off,n,true),.agg l=>⟨off+n<=l.length,.agg ((l.drop off).take n),obj⟩
 |some (off,_,false),.agg l=>⟨off<l.length,l.getD off .any,obj⟩
 |some (off,n,true),.v (.agg l)=>⟨off+n<=l.length,.v (.agg ((l.drop off).take n)),obj⟩
 |some (off,_,false),.v (.agg l)=>⟨off<l.length,.v (l.getD off default),obj⟩
 |_,_=>.bad obj
theorem pf{P:Program}{t:TypeId}{b:Bool}{n:Nat}(h:a7 P t=some (b,n))(cs:Array Value)(off:Nat)(hb:b=false->off<cs.size)(w:World):
 (part t cs off).run P w=.ok (if b then .agg (cs.extract off (off+n))else cs.getD off undef) w:=by
 simp only[part,Sem.run_bind,FW h,Result.andThen_ok,Sem.run_ite,sE h,Sem.run_pure]
 cases b with
 |true=>simp
 |false=>
  have :=hb rfl
  simp[Array.getElem?_eq_getElem this,Array.getD,this]
theorem aD.aggPart{φ:Name->Loc}{obj:Name->Option O}{m:Mem}{l:List D}{us:Array Value}(hl:l.length=us.size)(ho:∀ d∈l,d.one=true)
 (hr:∀ i (h:i<l.length) (h':i<us.size),aD φ obj m l[i] us[i]) {off n:Nat} (h:off+n<=l.length):
 aD φ obj m (.agg ((l.drop off).take n)) (.agg (us.extract off (off+n))):=by
 refine .agg _ _ (by simp;omega) (fun d hd=>ho d (List.mem_of_mem_drop (List.mem_of_mem_take hd))) fun i h1 h2=>?_
 simp only[List.length_take,List.length_drop]at h1
 simp only[List.getElem_take,List.getElem_drop,Array.getElem_extract]
 exact hr _ (by omega) (by omega)
theorem aL.aggPart{m:Mem}{l:List V}{us:Array Value}(hl:l.length=us.size)(ho:∀ d∈l,d.one=true)
 (hr:∀ i (h:i<l.length) (h':i<us.size),aL m l[i] us[i]) {off n:Nat} (h:off+n<=l.length):
 aL m (.agg ((l.drop off).take n)) (.agg (us.extract off (off+n))):=by
 refine .agg _ _ (by simp;omega) (fun d hd=>ho d (List.mem_of_mem_drop (List.mem_of_mem_take hd))) fun i h1 h2=>?_
 simp only[List.length_take,List.length_drop]at h1
 simp only[List.getElem_take,List.getElem_drop,Array.getElem_extract]
 exact hr _ (by omega) (by omega)
theorem OX{P:Program}{φ:Name->Loc}{obj:Name->Option O}{m:Mem}{T:TypeId}{f:Nat}{x:D}{u:Value}(w:World)
 (hx:aD φ obj m x u) (aa:(lN P obj T x f).ok):
 ∃ v,(Instr.field T u f).run P w=.ok v w/\aD φ obj m (lN P obj T x f).d v/\(lN P obj T x f).obj=obj:=by
 have cH:∀ {off n:Nat} {ag:Bool} {us:Array Value},bK P T f=some (off,n,ag)->(ag=false->off<us.size)->
     (Instr.field T (.agg us) f).run P w=.ok (if ag then .agg (us.extract off (off+n))else us.getD off undef) w:=by
  intro off n ag us h hb
  unfold bK at h
  split at h
  ·rename_i fs hu
   cases hf:fs[f]? with
   |none=>simp[hf]at h
   |some x=>
    simp only[hf,Option.bind_some,Option.map_eq_some_iff,Prod.mk.injEq]at h
    obtain⟨y,h1,h2,h3,h4⟩:=h
    obtain⟨y1,y2⟩:=y
    simp only at h3 h4
    subst h3 h4 h2
    simp only[Instr.field,Sem.run_bind,run_underlying hu,Result.andThen_ok,hf,asAgg,Sem.run_pure]
    exact pf h1 us _ hb w
  ·cases h
 unfold lN at aa |-
 split at aa
 ·rename_i off n l hT
  cases hx with
  |agg _ us hl ho hr=>
  exact⟨_,cH hT (by simp),by simpa[hT]using aD.aggPart hl ho hr aa,by simp[hT]⟩
 ·rename_i off n l hT
  cases hx with
  |agg _ us hl ho hr=>
  have eK:off<l.length:=aa
  refine⟨_,cH hT (fun _=>by omega),?_,by simp[hT]⟩
  simp only[hT,Bool.false_eq_true,if_false]
  rw[hJ eK]
  have :off<us.size:=by omega
  simp only[Array.getD,this,dite_true]
  exact hr off eK this
 ·rename_i off n l hT
  cases hx with
  |v _ _ hx=>
  cases hx with
  |agg _ us hl ho hr=>
  exact⟨_,cH hT (by simp),by simpa[hT]using .v _ _ (aL.aggPart hl ho hr aa),by simp[hT]⟩
 ·rename_i off n l hT
  cases hx with
  |v _ _ hx=>
  cases hx with
  |agg _ us hl ho hr=>
  have eK:off<l.length:=aa
  refine⟨_,cH hT (fun _=>by omega),?_,by simp[hT]⟩
  simp only[hT,Bool.false_eq_true,if_false]
  rw[hJ eK]
  have :off<us.size:=by omega
  simp only[Array.getD,this,dite_true]
  exact .v _ _ (hr off eK this)
 ·exact aa.elim
def lM(P:Program)(obj:Name->Option O)(T:TypeId)(x i:D):R:=
 match x,i with
 | .v (.str s),.v (.int _ n)=>⟨de P T=some 1/\0<=n/\n<s.size,.v (.int .u8 (s.data.getD n.toNat 0).toNat),obj⟩
 | .agg l,.v (.int _ n)=>match jf P T with
   |some (len,sz,true)=>⟨0<=n/\n<len/\n.toNat*sz+sz<=l.length,.agg ((l.drop (n.toNat*sz)).take sz),obj⟩
   |some (len,sz,false)=>⟨0<=n/\n<len/\n.toNat*sz<l.length,l.getD (n.toNat*sz) .any,obj⟩
   |_=>.bad obj
 | .v (.agg l),.v (.int _ n)=>match jf P T with
   |some (len,sz,true)=>⟨0<=n/\n<len/\n.toNat*sz+sz<=l.length,.v (.agg ((l.drop (n.toNat*sz)).take sz)),obj⟩
   |some (len,sz,false)=>⟨0<=n/\n<len/\n.toNat*sz<l.length,.v (l.getD (n.toNat*sz) default),obj⟩
   |_=>.bad obj
 |_,_=>.bad obj
theorem OV{P:Program}{φ:Name->Loc}{obj:Name->Option O}{m:Mem}{T:TypeId}{x i:D}{u ui:Value}(w:World)
 (hx:aD φ obj m x u) (hi:aD φ obj m i ui) (aa:(lM P obj T x i).ok):
 ∃ v,(Instr.index T u ui).run P w=.ok v w/\aD φ obj m (lM P obj T x i).d v/\(lM P obj T x i).obj=obj:=by
 have cH:∀ {len sz:Nat} {ag:Bool} {us:Array Value} {k:IntKind} {n:Int},jf P T=some (len,sz,ag)->0<=n->n<len->(ag=false->n.toNat*sz<us.size)->
     (Instr.index T (.agg us) (.int k n)).run P w=.ok (if ag then .agg (us.extract (n.toNat*sz) (n.toNat*sz+sz))else us.getD (n.toNat*sz) undef) w:=by
  intro len sz ag us k n h h0 h1 hb
  unfold jf at h
  split at h
  ·rename_i n' e hu
   simp only[Option.map_eq_some_iff,Prod.mk.injEq]at h
   obtain⟨y,h2,h3,h4,h5⟩:=h
   obtain⟨y1,y2⟩:=y
   simp only at h4 h5
   subst h3 h4 h5
   have hs:=fun w=>sE (P:=P) (t:=e) h2 w
   have hp:=fun w=>pf h2 us (n.toNat*y2) hb w
   simp[Instr.index,asIntOf,run_underlying hu,h0,h1,hs,hp]
  ·cases h
 unfold lM at aa |-
 split at aa
 ·rename_i s k n
  obtain⟨hT,h0,h1⟩:=aa
  have hu:=Fl hT
  cases hx with
  |v _ _ hx=>
  cases hi with
  |v _ _ hi=>
  cases hx;cases hi
  have ab:n.toNat<s.size:=by omega
  refine⟨.int .u8 (s.data.getD n.toNat 0).toNat,?_,.v _ _ (.int _ _),rfl⟩
  have e:s[n.toNat]?=some (s.data.getD n.toNat 0):=by
   have aq:n.toNat<s.data.size:=ab
   rw[getElem?_pos s n.toNat ab]
   simp only[Array.getD,aq,dite_true]
   rfl
  simp[Instr.index,asIntOf,run_underlying hu,h0,e]
 ·rename_i l k n
  cases hi with
  |v _ _ hi=>
  cases hi
  cases hx with
  |agg _ us hl ho hr=>
  split at aa
  ·rename_i len sz hT
   obtain⟨h0,h1,h2⟩:=aa
   exact⟨_,cH hT h0 h1 (by simp),by simpa[hT]using aD.aggPart hl ho hr h2,by simp[hT]⟩
  ·rename_i len sz hT
   obtain⟨h0,h1,h2⟩:=aa
   refine⟨_,cH hT h0 h1 (fun _=>by omega),?_,by simp[hT]⟩
   simp only[hT,Bool.false_eq_true,if_false]
   rw[hJ h2]
   have :n.toNat*sz<us.size:=by omega
   simp only[Array.getD,this,dite_true]
   exact hr _ h2 this
  ·exact aa.elim
 ·rename_i l k n
  cases hi with
  |v _ _ hi=>
  cases hi
  cases hx with
  |v _ _ hx=>
  cases hx with
  |agg _ us hl ho hr=>
  split at aa
  ·rename_i len sz hT
   obtain⟨h0,h1,h2⟩:=aa
   exact⟨_,cH hT h0 h1 (by simp),by simpa[hT]using .v _ _ (aL.aggPart hl ho hr h2),by simp[hT]⟩
  ·rename_i len sz hT
   obtain⟨h0,h1,h2⟩:=aa
   refine⟨_,cH hT h0 h1 (fun _=>by omega),?_,by simp[hT]⟩
   simp only[hT,Bool.false_eq_true,if_false]
   rw[hJ h2]
   have :n.toNat*sz<us.size:=by omega
   simp only[Array.getD,this,dite_true]
   exact .v _ _ (hr _ h2 this)
  ·exact aa.elim
 ·exact aa.elim
def eA:List (V×V)->V->Option V
 |[],_=>none
 |(k',x)::r,k=>if eY k' k=true then some x else eA r k
def dL:List (V×V)->V->V->List (V×V)
 |[],k,x=>[(k,x)]
 |(k',y)::r,k,x=>if eY k' k=true then(k,x)::r else(k',y)::dL r k x
theorem BX{x:V}(h:dR 0 x=true):∃ n,x=.int .i64 n:=by
 cases x with
 |int k n=>cases k<;>simp_all[dR]
 |_=>simp[dR]at h
theorem BW{x:V}(h:dR 1 x=true):∃ s,x=.str s:=by
 cases x with
 |str s=>exact⟨s,rfl⟩
 |_=>simp[dR]at h
theorem sZ{m:Mem}{kd:Nat}{d:TypeDesc}(hd:(kd=0/\d=.int .i64)\/(kd=1/\d=.string)){x:V}{u:Value}(hx:aL m x u)(hk:dR kd x=true):MapKept.IsKey d u:=by
 rcases hd with⟨rfl,rfl⟩ | ⟨rfl,rfl⟩
 ·obtain⟨n,rfl⟩:=BX hk
  cases hx
  simp[MapKept.IsKey]
 ·obtain⟨n,rfl⟩:=BW hk
  cases hx
  simp[MapKept.IsKey]
theorem S3{m:Mem}{kd:Nat}{d:TypeDesc}(hd:(kd=0/\d=.int .i64)\/(kd=1/\d=.string)){x y:V}{u v:Value}(hx:aL m x u)(hy:aL m y v)
 (hk:dR kd x=true) (iM:dR kd y=true):Instr.sameNow d u v=some (eY y x):=by
 rcases hd with⟨rfl,rfl⟩ | ⟨rfl,rfl⟩
 ·obtain⟨n,rfl⟩:=BX hk
  obtain⟨n',rfl⟩:=BX iM
  cases hx;cases hy
  simp only[Instr.sameNow,eY,if_true]
  congr 1
  rw[Bool.eq_iff_iff]
  simp only[beq_iff_eq]
  exact eq_comm
 ·obtain⟨n,rfl⟩:=BW hk
  obtain⟨n',rfl⟩:=BW iM
  cases hx;cases hy
  simp only[Instr.sameNow,eY]
  congr 1
  rw[Bool.eq_iff_iff,MapKept.bytes_beq,MapKept.bytes_beq,eq_comm]
theorem Ld{m:Mem}{kd:Nat}{d:TypeDesc}(hd:(kd=0/\d=.int .i64)\/(kd=1/\d=.string)){x:V}{u:Value}(hx:aL m x u)(hk:dR kd x=true)(z:V):
 ∀ (es:List (V×V)) (ents:List MapEntry) (i:Nat),es.length=ents.length->(∀ p∈es,dR kd p.1=true)->
   (∀ j (h:j<es.length) (h':j<ents.length),aL m es[j].1 ents[j].key/\aL m es[j].2 ents[j].val)->
   (eA es x=none/\Instr.findNow d u ents i=some none/\dL es x z=es++[(x,z)])\/
   ∃ (j:Nat) (h:j<es.length) (h':j<ents.length),eA es x=some es[j].2/\Instr.findNow d u ents i=some (some (i+j,ents[j].val))/\ents[j].key=u/\dL es x z=es.set j (x,z)
 |[],ents,i,hl,_,_=>by
  have :ents=[]:=by cases ents<;>simp_all
  subst this
  exact .inl ⟨rfl,rfl,rfl⟩
 |(k',y)::r,[],i,hl,_,_=>by simp at hl
 |(k',y)::r,e::ents,i,hl,pN,hr=>by
  have h0:=hr 0 (by simp) (by simp)
  simp only[List.getElem_cons_zero]at h0
  have iM:dR kd k'=true:=pN (k',y) (by simp)
  have hs:=S3 hd hx h0.1 hk iM
  by_cases hq:eY k' x=true
  ·refine .inr ⟨0,by simp,by simp,by simp[eA,hq],by simp[Instr.findNow,hs,hq],?_,by simp[dL,hq]⟩
   obtain⟨b,hb,Vi⟩:=MapKept.sameNow_of_keys (sZ hd hx hk) (sZ hd h0.1 iM)
   rw[hs]at hb
   simp only[Option.some.injEq]at hb
   exact(Vi.1 (by rw[<-hb];exact hq)).symm
  ·have cj:eY k' x=false:=by simpa using hq
   rcases Ld hd hx hk z r ents (i+1) (by simpa using hl) (fun p hp=>pN p (by simp[hp])) (fun j h h'=>hr (j+1) (by simpa using h) (by simpa using h'))with⟨h1,h2,h3⟩ | ⟨j,h,h',h1,h2,h3,h4⟩
   ·exact .inl ⟨by simp[eA,cj,h1],by simp[Instr.findNow,hs,cj,h2],by simp[dL,cj,h3]⟩
   ·refine .inr ⟨j+1,by simpa using h,by simpa using h',by simp[eA,cj,h1],?_,by simpa using h3,by simp[dL,cj,h4]⟩
    simp only[Instr.findNow,hs,cj,h2,List.getElem_cons_succ]
    rw[show i+1+j=i+(j+1)by omega]
def Af(P:Program)(kt:TypeId)(kd:Nat):Prop:=
 (kd=0/\P.underlying kt=some (.int .i64))\/(kd=1/\P.underlying kt=some .string)\/(kd=2/\qp P kt=true)
theorem Az{P:Program}{T e:TypeId}{kd:Nat}(h:jG P T=some (kd,e)):
 ∃ k,P.underlying T=some (.map k e)/\Af P k kd:=by
 unfold jG at h
 split at h
 ·rename_i k e' hu
  split at h
  ·rename_i hk
   simp only[Option.some.injEq,Prod.mk.injEq]at h
   obtain⟨rfl,rfl⟩:=h
   exact⟨k,hu,.inl ⟨rfl,hk⟩⟩
  ·rename_i hk
   simp only[Option.some.injEq,Prod.mk.injEq]at h
   obtain⟨rfl,rfl⟩:=h
   exact⟨k,hu,.inr (.inl ⟨rfl,hk⟩)⟩
  ·split at h
   ·rename_i hk
    simp only[Option.some.injEq,Prod.mk.injEq]at h
    obtain⟨rfl,rfl⟩:=h
    exact⟨k,hu,.inr (.inr ⟨rfl,hk⟩)⟩
   ·cases h
  ·cases h
 ·cases h
theorem S1{x:V}(h:dR 2 x=true):∃ a b,x=.agg [.int .i64 a,.int .i64 b]:=by
 unfold dR at h
 split at h
 ·rename_i h0;omega
 ·rename_i h0;omega
 ·exact⟨_,_,rfl⟩
 ·cases h
theorem xN{m:Mem}{x:V}{u:Value}(hx:aL m x u)(h:dR 2 x=true):∃ a b,x=.agg [.int .i64 a,.int .i64 b]/\u=.agg #[.int .i64 a,.int .i64 b]:=by
 obtain⟨a,b,rfl⟩:=S1 h
 refine⟨a,b,rfl,?_⟩
 cases hx with
 |agg _ us hl ho hr=>
  have hs:us.size=2:=by simpa using hl.symm
  have h0:=hr 0 (by simp) (by omega)
  have h1:=hr 1 (by simp) (by omega)
  simp only[List.getElem_cons_zero,List.getElem_cons_succ]at h0 h1
  have e:us= #[us[0],us[1]]:=by
   apply Array.ext
   ·simp[hs]
   ·intro i h2 h3
    have :i=0\/i=1:=by omega
    rcases this with rfl | rfl<;>rfl
  rw[e]
  generalize JV:us[0]=q0 at *
  generalize Cx:us[1]=q1 at *
  cases h0
  cases h1
  rfl
structure Zt (P:Program) (kt:TypeId) (f g:Field):Prop where
 st:∃ fs,P.underlying kt=some (.struct fs)/\fs.toList=[f,g]
 held:P.stoodInHeld kt=false
 nf:f.name≠ "_"
 ng:g.name≠ "_"
 of:f.offset=0
 og:g.offset=1
 tf:P.underlying f.type=some (.int .i64)
 tg:P.underlying g.type=some (.int .i64)
 af:a7 P f.type=some (false,1)
 ag:a7 P g.type=some (false,1)
theorem Fm{P:Program}{T:TypeId}{k:IntKind}(h:lY P T=some k):P.underlying T=some (.int k):=by
 unfold lY at h
 split at h
 ·rename_i h1;cases h;exact h1
 ·cases h
theorem Bc{P:Program}{kt:TypeId}(h:qp P kt=true):∃ f g,Zt P kt f g:=by
 unfold qp at h
 split at h
 ·rename_i fs hu
  split at h
  ·rename_i f g hl
   simp only[Bool.and_eq_true,decide_eq_true_eq,Bool.not_eq_true',beq_eq_false_iff_ne]at h
   obtain⟨⟨⟨⟨⟨⟨⟨⟨h1,h2⟩,h3⟩,h4⟩,h5⟩,h6⟩,h7⟩,h8⟩,h9⟩:=h
   exact⟨f,g,⟨fs,hu,hl⟩,h1,h2,h3,Nat.eq_of_beq_eq_true h4,Nat.eq_of_beq_eq_true h5,Fm h6,Fm h7,h8,h9⟩
  ·cases h
 ·cases h
theorem Qb{P:Program}{kt:TypeId}(h:qp P kt=true)(a b c d:Int)(w:World):
 (Op.equal kt (.agg #[.int .i64 a,.int .i64 b]) (.agg #[.int .i64 c,.int .i64 d])).run P w=.ok (a==c&&b==d) w:=by
 obtain⟨f,g,⟨fs,hu,pO⟩,h1,h2,h3,h4,h5,h6,h7,h8,h9⟩:=Bc h
 have hp:(Sem.run P program w)=.ok P w:=rfl
 have e0:∀ x y:Value,(part f.type #[x,y] 0).run P w=.ok x w:=fun x y=>(pf h8 #[x,y] 0 (fun _=>by simp) w).trans (by simp[Array.getD])
 have e1:∀ x y:Value,(part g.type #[x,y] 1).run P w=.ok y w:=fun x y=>(pf h9 #[x,y] 1 (fun _=>by simp) w).trans (by simp[Array.getD])
 suffices key:∀ n,(Op.equalIn (n+1+1) kt (.agg #[.int .i64 a,.int .i64 b]) (.agg #[.int .i64 c,.int .i64 d])).run P w=.ok (a==c&&b==d) w from key 9998
 intro n
 have i0:∀ a b:Int,(Op.equalIn (n+1) f.type (.int .i64 a) (.int .i64 b)).run P w=.ok (a==b) w:=fun a b=>by simp[Op.equalIn,run_underlying h6 w]
 have i1:∀ a b:Int,(Op.equalIn (n+1) g.type (.int .i64 a) (.int .i64 b)).run P w=.ok (a==b) w:=fun a b=>by simp[Op.equalIn,run_underlying h7 w]
 unfold Op.equalIn
 simp only[Sem.run_bind,run_underlying hu w,Result.andThen_ok,hp,h1,Bool.false_eq_true,if_false,Sem.run_ite]
 rw[<-Array.forIn_toList,pO]
 simp only[List.forIn_cons,List.forIn_nil,h2,h3,h4,h5,ne_eq,not_false_eq_true,if_true,Sem.run_bind,e0,e1,i0,i1,Result.andThen_ok]
 by_cases q:a=c<;>by_cases q2:b=d<;>simp[q,q2,e0,e1,i0,i1]
theorem Qd{P:Program}{kt:TypeId}(h:qp P kt=true)(a b:Int)(e:Bool)(n:Nat)(w:World):
 (Instr.checkKey e (n+2) kt (.agg #[.int .i64 a,.int .i64 b])).run P w=.ok () w:=by
 obtain⟨f,g,⟨fs,hu,pO⟩,h1,h2,h3,h4,h5,h6,h7,h8,h9⟩:=Bc h
 have e0:∀ x y:Value,(part f.type #[x,y] 0).run P w=.ok x w:=fun x y=>(pf h8 #[x,y] 0 (fun _=>by simp) w).trans (by simp[Array.getD])
 have e1:∀ x y:Value,(part g.type #[x,y] 1).run P w=.ok y w:=fun x y=>(pf h9 #[x,y] 1 (fun _=>by simp) w).trans (by simp[Array.getD])
 have i0:∀ v:Int,(Instr.checkKey e (n+1) f.type (.int .i64 v)).run P w=.ok () w:=fun v=>MapKept.run_checkKey h6 (by simp[MapKept.IsKey]) e n
 have i1:∀ v:Int,(Instr.checkKey e (n+1) g.type (.int .i64 v)).run P w=.ok () w:=fun v=>MapKept.run_checkKey h7 (by simp[MapKept.IsKey]) e n
 unfold Instr.checkKey
 simp only[Sem.run_bind,run_underlying hu w,Result.andThen_ok]
 rw[<-Array.forIn_toList,pO]
 simp[h2,h3,h4,h5,e0,e1,i0,i1,Array.getD]
theorem AV{P:Program}{kt:TypeId}{kd:Nat}(hk:Af P kt kd){m:Mem}{x:V}{u:Value}(hx:aL m x u)(h:dR kd x=true)(e:Bool)(w:World):
 (Instr.checkKey e 10000 kt u).run P w=.ok () w:=by
 rcases hk with⟨rfl,hd⟩ | ⟨rfl,hd⟩ | ⟨rfl,hd⟩
 ·exact MapKept.run_checkKey hd (sZ (.inl ⟨rfl,rfl⟩) hx h) e 9999
 ·exact MapKept.run_checkKey hd (sZ (.inr ⟨rfl,rfl⟩) hx h) e 9999
 ·obtain⟨a,b,rfl,rfl⟩:=xN hx h
  exact Qd hd a b e 9998 w
theorem Qa{P:Program}{kd:Nat}{m:Mem}{x:V}{u:Value}(lA:kd<=2)(hx:aL m x u)(h:dR kd x=true)(w:World):(Instr.keyThatStays u u).run P w=.ok u w:=by
 have :kd=0\/kd=1\/kd=2:=by omega
 rcases this with rfl | rfl | rfl
 ·exact MapKept.run_keyThatStays (sZ (d:=.int .i64) (.inl ⟨rfl,rfl⟩) hx h)
 ·exact MapKept.run_keyThatStays (sZ (d:=.string) (.inr ⟨rfl,rfl⟩) hx h)
 ·obtain⟨a,b,rfl,rfl⟩:=xN hx h
  have :Instr.sameBits 10000 (.agg #[.int .i64 a,.int .i64 b]) (.agg #[.int .i64 a,.int .i64 b])=true:=by
   simp[Instr.sameBits]
  simp[Instr.keyThatStays,this]
theorem S0{P:Program}{kt:TypeId}{kd:Nat}(hk:Af P kt kd):kd<=2:=by
 rcases hk with⟨rfl,_⟩ | ⟨rfl,_⟩ | ⟨rfl,_⟩<;>omega
theorem Lf{P:Program}{kt:TypeId}(hp:qp P kt=true){m:Mem}{x:V}{u:Value}(hx:aL m x u)(hk:dR 2 x=true)(z:V)(w:World):
 ∀ (es:List (V×V)) (ents:List MapEntry) (i:Nat),es.length=ents.length->(∀ p∈es,dR 2 p.1=true)->
   (∀ j (h:j<es.length) (h':j<ents.length),aL m es[j].1 ents[j].key/\aL m es[j].2 ents[j].val)->
   (eA es x=none/\(Instr.findAsking kt u ents i).run P w=.ok none w/\dL es x z=es++[(x,z)])\/
   ∃ (j:Nat) (h:j<es.length) (h':j<ents.length),eA es x=some es[j].2/\(Instr.findAsking kt u ents i).run P w=.ok (some (i+j,ents[j].val)) w/\ents[j].key=u/\dL es x z=es.set j (x,z)
 |[],ents,i,hl,_,_=>by
  have :ents=[]:=by cases ents<;>simp_all
  subst this
  exact .inl ⟨rfl,rfl,rfl⟩
 |(k',y)::r,[],i,hl,_,_=>by simp at hl
 |(k',y)::r,e::ents,i,hl,pN,hr=>by
  have h0:=hr 0 (by simp) (by simp)
  simp only[List.getElem_cons_zero]at h0
  have iM:dR 2 k'=true:=pN (k',y) (by simp)
  obtain⟨a,b,Uo,JK⟩:=xN hx hk
  obtain⟨c,d,Ve,yf⟩:=xN h0.1 iM
  have hs:(Op.equal kt u e.key).run P w=.ok (a==c&&b==d) w:=by rw[JK,yf];exact Qb hp a b c d w
  have hq:eY k' x=(a==c&&b==d):=by
   rw[Uo,Ve]
   show (c==a&&d==b)=_
   rw[Bool.eq_iff_iff]
   simp only[Bool.and_eq_true,beq_iff_eq]
   exact⟨fun h=>⟨h.1.symm,h.2.symm⟩,fun h=>⟨h.1.symm,h.2.symm⟩⟩
  cases hb:(a==c&&b==d)with
  |true=>
   rw[hb]at hs hq
   refine .inr ⟨0,by simp,by simp,by simp[eA,hq],by simp[Instr.findAsking,hs],?_,by simp[dL,hq]⟩
   simp only[Bool.and_eq_true,beq_iff_eq]at hb
   simp only[List.getElem_cons_zero]
   rw[JK,yf,hb.1,hb.2]
  |false=>
   rw[hb]at hs hq
   rcases Lf hp hx hk z w r ents (i+1) (by simpa using hl) (fun p hp=>pN p (by simp[hp])) (fun j h h'=>hr (j+1) (by simpa using h) (by simpa using h'))with⟨h1,h2,h3⟩ | ⟨j,h,h',h1,h2,h3,h4⟩
   ·exact .inl ⟨by simp[eA,hq,h1],by simp[Instr.findAsking,hs,h2],by simp[dL,hq,h3]⟩
   ·refine .inr ⟨j+1,by simpa using h,by simpa using h',by simp[eA,hq,h1],?_,by simpa using h3,by simp[dL,hq,h4]⟩
    simp only[Instr.findAsking,Sem.run_bind,hs,Result.andThen_ok,Bool.false_eq_true,if_false,h2,List.getElem_cons_succ]
    rw[show i+1+j=i+(j+1)by omega]
theorem DA{P:Program}{kt:TypeId}{kd:Nat}(hT:Af P kt kd){m:Mem}{x:V}{u:Value}(hx:aL m x u)(hk:dR kd x=true)(z:V)(w:World)
 (es:List (V×V)) (ents:List MapEntry) (hl:es.length=ents.length) (pN:∀ p∈es,dR kd p.1=true)
 (hr:∀ j (h:j<es.length) (h':j<ents.length),aL m es[j].1 ents[j].key/\aL m es[j].2 ents[j].val):
   (eA es x=none/\(Instr.findKey kt u ents).run P w=.ok none w/\dL es x z=es++[(x,z)])\/
   ∃ (j:Nat) (h:j<es.length) (h':j<ents.length),eA es x=some es[j].2/\(Instr.findKey kt u ents).run P w=.ok (some (j,ents[j].val)) w/\ents[j].key=u/\dL es x z=es.set j (x,z):=by
 have plain:∀ d,P.underlying kt=some d->((kd=0/\d=.int .i64)\/(kd=1/\d=.string))->(eA es x=none/\(Instr.findKey kt u ents).run P w=.ok none w/\dL es x z=es++[(x,z)])\/
     ∃ (j:Nat) (h:j<es.length) (h':j<ents.length),eA es x=some es[j].2/\(Instr.findKey kt u ents).run P w=.ok (some (j,ents[j].val)) w/\ents[j].key=u/\dL es x z=es.set j (x,z):=by
  intro d hd lA
  rcases Ld lA hx hk z es ents 0 hl pN hr with⟨h1,h2,h3⟩ | ⟨j,h,h',h1,h2,h3,h4⟩
  ·exact .inl ⟨h1,MapKept.run_findKey hd h2,h3⟩
  ·exact .inr ⟨j,h,h',h1,by rw[Nat.zero_add]at h2;exact MapKept.run_findKey hd h2,h3,h4⟩
 rcases hT with⟨rfl,hd⟩ | ⟨rfl,hd⟩ | ⟨rfl,hp⟩
 ·exact plain _ hd (.inl ⟨rfl,rfl⟩)
 ·exact plain _ hd (.inr ⟨rfl,rfl⟩)
 ·have key:(Instr.findKey kt u ents).run P w=(Instr.findAsking kt u ents).run P w:=by
    obtain⟨f,g,⟨fs,hu,_⟩,_⟩:=Bc hp
    cases ents with
    |nil=>simp[Instr.findKey,run_underlying hu w,Instr.findNow,Instr.findAsking]
    |cons e r=>
     have :Instr.sameNow (.struct fs) u e.key=none:=by
      cases u<;>rfl
     simp[Instr.findKey,run_underlying hu w,Instr.findNow,this]
  rw[key]
  rcases Lf hp hx hk z w es ents 0 hl pN hr with⟨h1,h2,h3⟩ | ⟨j,h,h',h1,h2,h3,h4⟩
  ·exact .inl ⟨h1,h2,h3⟩
  ·exact .inr ⟨j,h,h',h1,by rw[Nat.zero_add]at h2;exact h2,h3,h4⟩
def lL(P:Program)(obj:Name->Option O)(T:TypeId)(x k:D)(L':Bool):R:=
 match jG P T with
 |some (kd,e)=>match (be P e).bind fun z=>dS (iA z),dS k with
  |some z,some kv=>match x with
   | .nilmap=>⟨kd<=2/\dR kd kv=true,if L' then .tup [.v z,.v (.bool false)]else .v z,obj⟩
   | .map nm=>match obj nm with
     |some (.map jO es)=>⟨kd<=2/\dR kd kv=true/\jO=kd,if L' then .tup [.v ((eA es kv).getD z),.v (.bool (eA es kv).isSome)]else .v ((eA es kv).getD z),obj⟩
     |_=>.bad obj
   |_=>.bad obj
  |_,_=>.bad obj
 |none=>.bad obj
theorem A1{φ:Name->Loc}{obj:Name->Option O}{m:Mem}{z:V}{u:Value}{b:Bool}(h:aL m z u):aD φ obj m (.tup [.v z,.v (.bool b)]) (.tuple #[u,.bool b]):=by
 refine .tup _ _ rfl fun i h1 h2=>?_
 match i,h1 with
 | 0,_=>exact .v _ _ h
 | 1,_=>exact .v _ _ (.bool b)
theorem OS{P:Program}{G:Ghost}{φ:Name->Loc}{m:Mem}{σ:S}{a:Act}{w:World}(hC:aN G φ m σ a w){T:TypeId}{x k:D}{u uk:Value}{co:Bool}
 (hx:aD φ σ.obj m x u) (hk:aD φ σ.obj m k uk) (aa:(lL P σ.obj T x k co).ok):
 ∃ v,(Instr.lookup T u uk co).run P w=.ok v w/\aD φ σ.obj m (lL P σ.obj T x k co).d v/\(lL P σ.obj T x k co).obj=σ.obj:=by
 unfold lL at aa |-
 cases hT:jG P T with
 |none=>simp only[hT]at aa;exact aa.elim
 |some p=>
 obtain⟨kd,e⟩:=p
 simp only[hT]at aa |-
 split at aa
 ·rename_i z kv hz qX
  have hk:=nM hk qX
  cases vv:be P e with
  |none=>simp[vv]at hz
  |some zv=>
  simp only[vv,Option.bind_some]at hz
  have fO:aL m z zv:=nM (sM (φ:=φ) (obj:=σ.obj) (m:=m) zv) hz
  try simp only[vv,Option.bind_some,hz,qX]
  split at aa
  ·obtain⟨h1,h2⟩:=aa
   obtain⟨kt,hu,lA⟩:=Az hT
   cases hx
   refine⟨if co then .tuple #[zv,.bool false]else zv,?_,?_,rfl⟩
   ·have iQ:=AV lA hk h2 true w
    have oG:(Instr.findKey kt uk []).run P w=.ok none w:=by
     rcases DA lA hk h2 z w [] [] rfl (fun _ h=>by cases h) (fun _ h=>by cases h)with⟨_,h,_⟩ | ⟨_,h,_⟩
     ·exact h
     ·cases h
    simp[Instr.lookup,run_underlying hu,iQ,oG,uK vv]
    try (split<;>rfl)
   ·cases co with
    |true=>exact A1 fO
    |false=>exact .v _ _ fO
  ·rename_i nm
   split at aa
   ·rename_i jO es ay
    obtain⟨h1,h2,h3⟩:=aa
    subst h3
    obtain⟨kt,hu,lA⟩:=Az hT
    simp only[ay]
    cases hx with
    |map _ hx=>
    obtain⟨g0,g1,pS,ents,clock,g2,g3,g4⟩:=hC.objs nm _ ay
    have iQ:=AV lA hk h2 ents.isEmpty w
    have vQ:=MapKept.run_getObj_map (P:=P) g2
    rcases DA lA hk h2 z w es ents.toList (by simp[g3]) pS (fun j a b=>by simpa using g4 j a (by simpa using b))with⟨a1,a2,_⟩ | ⟨j,h,h',a1,a2,a3,_⟩
    ·refine⟨if co then .tuple #[zv,.bool false]else zv,?_,?_,trivial⟩
     ·have oG:=a2
      simp[Instr.lookup,run_underlying hu,vQ,iQ,oG,uK vv]
      try (split<;>rfl)
     ·rw[a1]
      simp only[Option.getD_none,Option.isSome_none]
      cases co with
      |true=>exact A1 fO
      |false=>exact .v _ _ fO
    ·have gj:j<ents.size:=by simpa using h'
     refine⟨if co then .tuple #[ents[j].val,.bool true]else ents[j].val,?_,?_,trivial⟩
     ·have oG:=a2
      simp[Instr.lookup,run_underlying hu,vQ,iQ,oG]
      try (split<;>rfl)
     ·simp only[a1,Option.getD_some,Option.isSome_some]
      have :=(g4 j h gj).2
      cases co with
      |true=>exact A1 this
      |false=>exact .v _ _ this
   ·exact aa.elim
  ·exact aa.elim
 ·exact aa.elim
def jC(P:Program)(obj:Name->Option O)(T:TypeId)(x k d:D):R:=
 match jG P T,x,dS k,dS d with
 |some (kd,_),.map nm,some kv,some y=>match obj nm with
  |some (.map jO es)=>⟨kd<=2/\dR kd kv=true/\jO=kd,.any,upd obj nm (some (.map jO (dL es kv y)))⟩
  |_=>.bad obj
 |_,_,_,_=>.bad obj
theorem FJ{P:Program}{G:Ghost}{φ:Name->Loc}{m:Mem}{σ:S}{a:Act}{w:World}(hC:aN G φ m σ a w){T:TypeId}{x k d:D}{u uk ud:Value}
 (hx:aD φ σ.obj m x u) (hk:aD φ σ.obj m k uk) (jW:aD φ σ.obj m d ud) (aa:(jC P σ.obj T x k d).ok):
 ∃ w',(Instr.mapUpdate T u uk ud).run P w=.ok () w'/\∃ φ' m',aN G φ' m' { σ with obj:=(jC P σ.obj T x k d).obj } a w':=by
 unfold jC at aa |-
 split at aa
 ·rename_i kd e nm kv y hT qX hy
  split at aa
  ·rename_i jO es ay
   obtain⟨h1,h2,h3⟩:=aa
   subst h3
   obtain⟨kt,hu,lA⟩:=Az hT
   simp only[hT,qX,hy,ay]
   cases hx with
   |map _ hx=>
   have hk:=nM hk qX
   have yb:=nM jW hy
   obtain⟨g0,g1,pS,ents,clock,g2,g3,g4⟩:=hC.objs nm _ ay
   have mD:(φ nm).blk<w.heap.size:=(Array.getElem?_eq_some_iff.1 g2).1
   have iQ:=AV lA hk h2 false w
   have vQ:=MapKept.run_getObj_map (P:=P) g2
   have br:=Ext.same (φ:=φ) (o':=.map jO (dL es kv y)) ay rfl rfl
   have fin:∀ pV zt,pV.size=(dL es kv y).length->(∀ j (h:j<(dL es kv y).length) (h':j<pV.size),aL m (dL es kv y)[j].1 pV[j].key/\aL m (dL es kv y)[j].2 pV[j].val)->
       (∀ q∈dL es kv y,dR jO q.1=true)->
       aN G φ m { σ with obj:=upd σ.obj nm (some (.map jO (dL es kv y))) } a (cD w (φ nm).blk (.map pV zt)):=by
    intro pV zt e1 e2 e3
    have :=hC.chg (w':=cD w (φ nm).blk (.map pV zt)) nm (.map jO (dL es kv y)) (φ nm) br ⟨rfl,rfl,rfl,by simp[cD]⟩
     (fun b hb hn=>o3 (by rcases hn with h | h; · rw[g1]at h;cases h
                          ·exact h))
     (fun _=>.inr ⟨⟨_,ay,rfl,g1⟩,rfl⟩) ⟨g0,g1,e3,pV,zt,qh mD,e1,e2⟩
    rwa [fW]at this
   rcases DA lA hk h2 y w es ents.toList (by simp[g3]) pS (fun j a b=>by simpa using g4 j a (by simpa using b))with⟨a1,a2,a3⟩ | ⟨j,h,h',a1,a2,a3,a4⟩
   ·have oG:=a2
    refine⟨cD w (φ nm).blk (.map (ents.push { key:=uk,val:=ud,born:=clock }) (clock+1)),?_,φ,m,?_⟩
    ·simp[Instr.mapUpdate,run_underlying hu,vQ,iQ,oG,MapKept.run_setObj_map _ g2]
     rfl
    ·rw[a3]at fin |-
     refine fin _ _ (by simp[g3]) (fun j h h'=>?_) (fun q hq=>?_)
     ·by_cases hj:j<es.length
      ·rw[List.getElem_append_left hj,Array.getElem_push_lt (by omega)]
       exact g4 j hj (by omega)
      ·have Vf:j=es.length:=by simp at h;omega
       subst Vf
       simp only[List.getElem_append_right (Nat.le_refl _),Nat.sub_self,List.getElem_cons_zero]
       have :(ents.push { key:=uk,val:=ud,born:=clock })[es.length]={ key:=uk,val:=ud,born:=clock }:=by
        simp[<-g3]
       rw[this]
       exact⟨hk,yb⟩
     ·rcases List.mem_append.1 hq with hq | hq
      ·exact pS q hq
      ·simp only[List.mem_singleton]at hq;subst hq;exact h2
   ·have oG:=a2
    have gj:j<ents.size:=by simpa using h'
    have YU:ents[j].key=uk:=by simpa using a3
    refine⟨cD w (φ nm).blk (.map (ents.modify j fun e=>{ e with key:=uk,val:=ud }) clock),?_,φ,m,?_⟩
    ·simp[Instr.mapUpdate,run_underlying hu,vQ,iQ,oG,Array.getElem?_eq_getElem gj,YU,Qa (P:=P) (S0 lA) hk h2 w,MapKept.run_setObj_map _ g2]
     rfl
    ·rw[a4]at fin |-
     refine fin _ _ (by simp[g3]) (fun q hq cj=>?_) (fun q hq=>?_)
     ·simp only[List.getElem_set,Array.getElem_modify]
      by_cases hj:j=q
      ·subst hj;simp only[if_true];exact⟨hk,yb⟩
      ·simp only[hj,if_false];exact g4 q (by simpa using hq) (by simpa using cj)
     ·rcases List.mem_or_eq_of_mem_set hq with hq | hq
      ·exact pS q hq
      ·subst hq;exact h2
  ·exact aa.elim
 ·exact aa.elim
def pj(P:Program)(T:TypeId)(l:List V)(off:Nat):Option V:=
 match a7 P T with
 |some (true,n)=>if off+n<=l.length then some (.agg ((l.drop off).take n))else none
 |some (false,_)=>l[off]?
 |none=>none
def nD(P:Program)(g:TypeId->V->V->Option Bool):List Field->List V->List V->Option Bool
 |[],_,_=>some true
 |f::r,xs,ys=>if f.name= "_" then nD P g r xs ys else
  match pj P f.type xs f.offset,pj P f.type ys f.offset with
  |some a,some b=>match g f.type a b with
   |some true=>nD P g r xs ys
   |some false=>some false
   |none=>none
  |_,_=>none
def hU(P:Program):Nat->TypeId->V->V->Option Bool
 | 0,_,_,_=>none
 |d+1,T,x,y=>match P.underlying T with
  |some .bool=>match x,y with | .bool a,.bool b=>some (a==b) | _,_=>none
  |some (.int _)=>match x,y with | .int k a,.int k' b=>if k=k' then some (a==b)else none | _,_=>none
  |some .string=>match x,y with | .str a,.str b=>some (a==b) | _,_=>none
  |some (.struct fs)=>match x,y with | .agg xs,.agg ys=>if P.stoodInHeld T=true then none else nD P (hU P d) fs.toList xs ys | _,_=>none
  |_=>none
theorem FV{P:Program}{m:Mem}{T:TypeId}{xs:List V}{us:Array Value}{off:Nat}{a:V}(h:pj P T xs off=some a)(hl:xs.length=us.size)(ho:∀ x∈xs,x.one=true)
 (hr:∀ i (h:i<xs.length) (h':i<us.size),aL m xs[i] us[i]) (w:World):∃ u,(part T us off).run P w=.ok u w/\aL m a u:=by
 unfold pj at h
 split at h
 ·rename_i n hT
  split at h
  ·rename_i hle
   cases h
   refine⟨_,pf hT us off (fun h=>by cases h) w,?_⟩
   simp only[if_true]
   refine .agg _ _ (by simp;omega) (fun x hx=>ho x (List.mem_of_mem_drop (List.mem_of_mem_take hx))) fun i h1 h2=>?_
   simp only[List.length_take,List.length_drop]at h1
   simp only[List.getElem_take,List.getElem_drop,Array.getElem_extract]
   exact hr (off+i) (by omega) (by omega)
  ·cases h
 ·rename_i n hT
  obtain⟨ab,rfl⟩:=List.getElem?_eq_some_iff.1 h
  refine⟨_,pf hT us off (fun _=>by omega) w,?_⟩
  have aq:off<us.size:=by omega
  simp only[Bool.false_eq_true,if_false]
  have :us.getD off undef=us[off]:=by simp[Array.getD,aq]
  rw[this]
  exact hr off ab aq
 ·cases h
theorem Lv{P:Program}{m:Mem}(w:World):∀ (d:Nat) (T:TypeId) (x y:V) (u v:Value) (b:Bool),hU P d T x y=some b->aL m x u->aL m y v->(Op.equalIn d T u v).run P w=.ok b w
 | 0,T,x,y,u,v,b,h,_,_=>by simp[hU]at h
 |d+1,T,x,y,u,v,b,h,hx,hy=>by
  have ih:=Lv (P:=P) (m:=m) w d
  have fields:∀ (fs:List Field) (xs ys:List V) (us vs:Array Value) (b:Bool),nD P (hU P d) fs xs ys=some b->aL m (.agg xs) (.agg us)->aL m (.agg ys) (.agg vs)->
      (forIn (m:=Sem) fs ((none,()):Option Bool×Unit) (fun f _=>do
        if f.name≠ "_" then
          if !(<-Op.equalIn d f.type (<-part f.type us f.offset) (<-part f.type vs f.offset))then pure (ForInStep.done (some false,()))
          else pure (ForInStep.yield (none,()))
        else pure (ForInStep.yield (none,())))).run P w=.ok (if b then(none,())else(some false,())) w:=by
   intro fs
   induction fs with
   |nil=>
    intro xs ys us vs b h _ _
    simp only[nD,Option.some.injEq]at h
    subst h
    rfl
   |cons f r Jz=>
    intro xs ys us vs b h hx hy
    simp only[nD]at h
    rw[List.forIn_cons]
    by_cases hn:f.name= "_"
    ·rw[if_pos hn]at h
     simp only[hn,ne_eq,not_true_eq_false,if_false,Sem.run_bind,Sem.run_pure,Result.andThen_ok]
     exact Jz xs ys us vs b h hx hy
    ·rw[if_neg hn]at h
     simp only[hn,ne_eq,not_false_eq_true,if_true]
     split at h
     ·rename_i a1 b1 ha hb
      cases hx with
      |agg _ _ qW yr dw=>
      cases hy with
      |agg _ _ gg yq ft=>
      obtain⟨u1,iG,eZ⟩:=FV ha qW yr dw w
      obtain⟨v1,JH,yd⟩:=FV hb gg yq ft w
      split at h
      ·rename_i he
       have :=ih f.type a1 b1 u1 v1 true he eZ yd
       simp only[Sem.run_bind,iG,Result.andThen_ok,JH,this,Bool.not_true,Bool.false_eq_true,if_false,Sem.run_pure,Sem.run_ite]
       exact Jz xs ys us vs b h (.agg _ _ qW yr dw) (.agg _ _ gg yq ft)
      ·rename_i he
       cases h
       have :=ih f.type a1 b1 u1 v1 false he eZ yd
       simp only[Sem.run_bind,iG,Result.andThen_ok,JH,this,Bool.not_false,if_true,Sem.run_pure,Sem.run_ite]
       rfl
      ·cases h
     ·cases h
  simp only[hU]at h
  split at h
  ·rename_i hT
   split at h
   ·cases hx;cases hy
    cases h
    simp[Op.equalIn,run_underlying hT w]
   ·cases h
  ·rename_i k hT
   split at h
   ·cases hx;cases hy
    split at h
    ·rename_i hk
     cases h
     simp[Op.equalIn,run_underlying hT w,hk]
    ·cases h
   ·cases h
  ·rename_i hT
   split at h
   ·cases hx;cases hy
    cases h
    simp[Op.equalIn,run_underlying hT w]
   ·cases h
  ·rename_i fs hT
   split at h
   ·rename_i xs ys
    split at h
    ·cases h
    ·rename_i hs
     cases hx with
     |agg _ us qW yr dw=>
     cases hy with
     |agg _ vs gg yq ft=>
     have hf:=fields fs.toList xs ys us vs b h (.agg _ _ qW yr dw) (.agg _ _ gg yq ft)
     have hp:(Sem.run P program w)=.ok P w:=rfl
     unfold Op.equalIn
     simp only[Sem.run_bind,run_underlying hT w,Result.andThen_ok,hp,hs,Bool.false_eq_true,if_false,Sem.run_ite]
     rw[<-Array.forIn_toList]
     rw[hf]
     cases b<;>rfl
   ·cases h
  ·cases h
def i7(P:Program)(obj:Name->Option O)(op:BinOp)(T:TypeId)(x y:V):R:=
 match hU P Op.maxDepth T x y with
 |some b=>⟨P.eqGuardType P.depth T=false/\(op=.eql\/op=.neq),.v (.bool (if op=.eql then b else !b)),obj⟩
 |none=>.bad obj
def oY(P:Program)(obj:Name->Option O)(op:BinOp)(T:TypeId)(x:D):R:=
 match x with
 | .v (.sl (_::_))=>⟨de P T=some 0/\(op=.eql\/op=.neq),.v (.bool (if op=.eql then false else true)),obj⟩
 | .msl nm (k+1)=>⟨(obj nm).bind O.len?=some (k+1)/\de P T=some 0/\(op=.eql\/op=.neq),.v (.bool (if op=.eql then false else true)),obj⟩
 |_=>.bad obj
def xR:Operand->Bool
 | .const (.slice none _ _)=>true
 |_=>false
def lT(P:Program)(obj:Name->Option O)(op:BinOp)(T:TypeId)(x y:D)(ku:Bool):R:=
 match ku with
 |true=>oY P obj op T x
 |false=>match dS x,dS y with
  |some (.agg a),some (.agg b)=>i7 P obj op T (.agg a) (.agg b)
  |_,_=>mN P obj op T x y
theorem Qc{P:Program}{T e:TypeId}(hu:P.underlying T=some (.slice e))(d:Nat)(p:Addr)(k c' n c:Nat)(w:World):(Op.equalIn (d+1) T (.slice (some p) k c') (.slice none n c)).run P w=.ok false w:=by
 simp[Op.equalIn,run_underlying hu w]
theorem OO{P:Program}{G:Ghost}{φ:Name->Loc}{m:Mem}{σ:S}{a:Act}{w:World}(hC:aN G φ m σ a w){T:TypeId}{op:BinOp}{x:D}{u:Value}{cx cy:Operand}{n c:Nat}(hx:aD φ σ.obj m x u)
 (aa:(oY P σ.obj op T x).ok):
 ∃ r,(do eqGuard op T cx cy u (.slice none n c);binOp op T u (.slice none n c):Sem Value).run P w=.ok r w/\aD φ σ.obj m (oY P σ.obj op T x).d r/\(oY P σ.obj op T x).obj=σ.obj:=by
 have key:∀ (p:Addr) (k c':Nat),u=.slice (some p) k c'->de P T=some 0->(op=.eql\/op=.neq)->
     (do eqGuard op T cx cy u (.slice none n c);binOp op T u (.slice none n c):Sem Value).run P w=.ok (.bool (if op=.eql then false else true)) w:=by
  rintro p k c' rfl hT ho
  obtain⟨e,hu⟩:=Oh hT
  have he:(Op.equal T (.slice (some p) k c') (.slice none n c)).run P w=.ok false w:=by
   exact Qc hu 9999 p k c' n c w
  rcases ho with rfl | rfl
  ·have h1:binOp .eql T (.slice (some p) k c') (.slice none n c)=(do pure (.bool (<-Op.equal T (.slice (some p) k c') (.slice none n c)))):=rfl
   rw[h1]
   simp[eqGuard,he]
  ·have h1:binOp .neq T (.slice (some p) k c') (.slice none n c)=(do pure (.bool (!(<-Op.equal T (.slice (some p) k c') (.slice none n c))))):=rfl
   rw[h1]
   simp[eqGuard,he]
 unfold oY at aa |-
 split at aa
 ·rename_i y r
  cases hx with
  |v _ _ hx=>
  cases hx with
  |sl _ b o cap sz c' hn hl iU hs hc hr ho=>exact⟨_,key _ _ _ rfl aa.1 aa.2,.v _ _ (.bool _),rfl⟩
 ·rename_i nm k
  obtain⟨h1,h2,h3⟩:=aa
  cases hx with
  |msl _ _ _ hq hu=>
  obtain⟨o,n',ho,hlen,hk,hv⟩:=hq
  simp only[ho,Option.bind_some]at h1
  rw[hlen]at h1
  cases h1
  have hv:=hv rfl
  obtain⟨b,c',h4,_⟩:=AK (P:=P) hC ho hlen
  have dr:(φ nm).nul=false:=by
   have :=hC.objs nm o ho
   cases o with
   |arr sz l=>
    simp only[O.len?,Option.some.injEq]at hlen
    rcases this with⟨_,h⟩ | ⟨h,_⟩
    ·subst h;simp at hlen
    ·exact h
   |farr sz l=>
    simp only[O.len?,Option.some.injEq]at hlen
    rcases this with⟨_,h⟩ | ⟨h,_⟩
    ·subst h;simp at hlen
    ·exact h
   |dead sz q=>
    simp only[O.len?,Option.some.injEq]at hlen
    rcases this with⟨_,h⟩ | ⟨h,_⟩
    ·omega
    ·exact h
   |_=>cases hlen
  have hs:(φ nm).slice (k+1)=.slice (some ⟨(φ nm).blk,(φ nm).off,none⟩) (k+1) (φ nm).cap:=by unfold Loc.slice;rw[dr];rfl
  exact⟨_,key _ _ _ (hv.trans hs) h2 h3,.v _ _ (.bool _),rfl⟩
 ·exact aa.elim
theorem OZ{P:Program}{φ:Name->Loc}{obj:Name->Option O}{m:Mem}{T:TypeId}{op:BinOp}{x y:List V}{u v:Value}{cx cy:Operand}(w:World)(hx:aL m (.agg x) u)(hy:aL m (.agg y) v)
 (aa:(i7 P obj op T (.agg x) (.agg y)).ok):
 ∃ r,(do eqGuard op T cx cy u v;binOp op T u v:Sem Value).run P w=.ok r w/\aD φ obj m (i7 P obj op T (.agg x) (.agg y)).d r/\(i7 P obj op T (.agg x) (.agg y)).obj=obj:=by
 unfold i7 at aa |-
 split at aa
 ·rename_i b hb
  obtain⟨h1,h2⟩:=aa
  have he:(Op.equal T u v).run P w=.ok b w:=Lv w _ T _ _ u v b hb hx hy
  have hp:(Sem.run P program w)=.ok P w:=rfl
  cases hx with
  |agg _ us _ _ _=>
  cases hy with
  |agg _ vs _ _ _=>
  refine⟨.bool (if op=.eql then b else !b),?_,?_,?_⟩
  ·rcases h2 with rfl | rfl
   ·have h3:binOp .eql T (.agg us) (.agg vs)=(do pure (.bool (<-Op.equal T (.agg us) (.agg vs)))):=rfl
    rw[h3]
    simp[eqGuard,he,hp,h1]
   ·have h3:binOp .neq T (.agg us) (.agg vs)=(do pure (.bool (!(<-Op.equal T (.agg us) (.agg vs))))):=rfl
    rw[h3]
    simp[eqGuard,he,hp,h1]
  ·first | exact .v _ _ (.bool _) | (rw[hb];exact .v _ _ (.bool _))
  ·first | rfl | (rw[hb])
 ·exact aa.elim
theorem O4{P:Program}{G:Ghost}{φ:Name->Loc}{m:Mem}{σ:S}{a:Act}{w:World}(hC:aN G φ m σ a w){T:TypeId}{op:BinOp}{x y:D}{u v:Value}{cx cy:Operand}{ku:Bool}
 (hx:aD φ σ.obj m x u) (hy:aD φ σ.obj m y v) (hn:ku=true->∃ n c,v=.slice none n c) (aa:(lT P σ.obj op T x y ku).ok):
 ∃ r,(do eqGuard op T cx cy u v;binOp op T u v:Sem Value).run P w=.ok r w/\aD φ σ.obj m (lT P σ.obj op T x y ku).d r/\(lT P σ.obj op T x y ku).obj=σ.obj:=by
 unfold lT at aa |-
 cases ku with
 |true=>
  obtain⟨n,c,rfl⟩:=hn rfl
  exact OO hC hx aa
 |false=>
  simp only at aa |-
  split at aa
  ·rename_i l1 l2 h1 h2
   exact OZ w (nM hx h1) (nM hy h2) aa
  ·exact O5 w hx hy aa
def aX:D->List Name
 | .ref nm _=>[nm]
 | .msl nm _=>[nm]
 | .aref nm _ _ _=>[nm]
 | .map nm=>[nm]
 |_=>[]
def dZ(f:D->List Name):List D->List Name
 |[]=>[]
 |d::r=>f d++dZ f r
def fp:Nat->(Name->Option O)->D->List Name
 | 0,_,_=>[]
 |n+1,obj,d=>match d with
  | .msl nm _=>[nm]
  | .ref nm _=>nm::(match obj nm with
    |some (.box cs)=>dZ (fp n obj) cs
    |_=>[])
  | .agg l=>dZ (fp n obj) l
  | .tup l=>dZ (fp n obj) l
  | .clo _ f c=>dZ (fp n obj) f++dZ (fp n obj) c
  |_=>[]
def bG(ns:List Name)(o o2:Name->Option O):Prop:=∀ nm∈ns,o2 nm=o nm
structure bO (r r2:R) (obj obj2:Name->Option O) (wr:List Name):Prop where
 ok:r2.ok=r.ok
 d:r2.d=r.d
 eff:∀ nm,r2.obj nm=if nm∈wr then r.obj nm else obj2 nm
 frame:∀ nm,nm∉wr->r.obj nm=obj nm
theorem bO.same{r r2:R}{obj obj2:Name->Option O}(h1:r2.ok=r.ok)(h2:r2.d=r.d)(h3:r.obj=obj)(h4:r2.obj=obj2):bO r r2 obj obj2 []:=
 ⟨h1,h2,fun nm=>by rw[h4];simp,fun nm _=>by rw[h3]⟩
theorem bO.one{ok:Prop}{d:D}{obj obj2:Name->Option O}{nm:Name}{o:Option O}{wr:List Name}(h:nm∈wr)(ha:bG wr obj obj2):bO ⟨ok,d,upd obj nm o⟩ ⟨ok,d,upd obj2 nm o⟩ obj obj2 wr:=by
 refine⟨rfl,rfl,fun x=>?_,fun x hx=>?_⟩
 ·show upd obj2 nm o x=if x∈wr then upd obj nm o x else obj2 x
  by_cases hx:x=nm
  ·subst hx;rw[aQ,aQ,if_pos h]
  ·rw[aZ _ _ _ hx,aZ _ _ _ hx]
   split
   ·exact ha x (by assumption)
   ·rfl
 ·show upd obj nm o x=obj x
  rw[aZ];rintro rfl;exact hx h
theorem bO.none{ok:Prop}{d:D}{obj obj2:Name->Option O}(wr:List Name)(ha:bG wr obj obj2):bO ⟨ok,d,obj⟩ ⟨ok,d,obj2⟩ obj obj2 wr:=by
 refine⟨rfl,rfl,fun x=>?_,fun x _=>rfl⟩
 show obj2 x=if x∈wr then obj x else obj2 x
 split
 ·exact ha x (by assumption)
 ·rfl
section
variable {P:Program} {obj obj2:Name->Option O}
theorem R8{T:TypeId}{x:D}(h:bG (aX x) obj obj2):bO (i6 P obj T x) (i6 P obj2 T x) obj obj2 []:=by
 cases x with
 |ref nm off=>
  have h':obj2 nm=obj nm:=h nm (by simp[aX])
  rcases hT:a7 P T with _ | ⟨_ | _,_ | _ | n⟩<;>rcases ho:obj nm with _ | o<;>(try cases o)<;>simp only[i6,h',ho,hT,Option.bind_none,Option.bind_some]<;>first
   |exact .same rfl rfl rfl rfl
   |((repeat' split)<;>exact .same rfl rfl rfl rfl)
 |aref nm k i off=>
  have h':obj2 nm=obj nm:=h nm (by simp[aX])
  rcases hT:a7 P T with _ | ⟨_ | _,_ | _ | n⟩<;>rcases ho:obj nm with _ | o<;>(try cases o)<;>simp only[i6,h',ho,hT,Option.bind_none,Option.bind_some]<;>first
   |exact .same rfl rfl rfl rfl
   |((repeat' split)<;>exact .same rfl rfl rfl rfl)
 |_=>unfold i6;(repeat' split)<;>first | exact .same rfl rfl rfl rfl | (exfalso;simp_all;done)
theorem Sb{T:TypeId}{f:Nat}{x:D}(h:bG (aX x) obj obj2):bO (kU P obj T f x) (kU P obj2 T f x) obj obj2 []:=by
 cases x with
 |aref nm k i off=>
  have h':obj2 nm=obj nm:=h nm (by simp[aX])
  rcases hT:bK P T f with _ | ⟨_,_,_⟩<;>rcases ho:obj nm with _ | o<;>(try cases o)<;>simp only[kU,h',ho,hT,Option.bind_none,Option.bind_some]<;>first
   |exact .same rfl rfl rfl rfl
   |((repeat' split)<;>exact .same rfl rfl rfl rfl)
 |_=>unfold kU;(repeat' split)<;>first | exact .same rfl rfl rfl rfl | (exfalso;simp_all;done)
theorem R2{x:D}(h:bG (aX x) obj obj2):bO (kb obj x) (kb obj2 x) obj obj2 []:=by
 cases x with
 |aref nm k i off=>
  have h':obj2 nm=obj nm:=h nm (by simp[aX])
  rcases ho:obj nm with _ | o<;>(try cases o)<;>simp only[kb,h',ho,Option.bind_none,Option.bind_some]<;>first
   |exact .same rfl rfl rfl rfl
   |((repeat' split)<;>exact .same rfl rfl rfl rfl)
 |_=>unfold kb;(repeat' split)<;>first | exact .same rfl rfl rfl rfl | (exfalso;simp_all;done)
theorem R9{T:TypeId}{x:D}(h:bG (aX x) obj obj2):bO (ke P obj T x) (ke P obj2 T x) obj obj2 []:=by
 cases x with
 |msl nm k=>
  have h':obj2 nm=obj nm:=h nm (by simp[aX])
  rcases hT:de P T with _ | _ | _ | _ | n<;>rcases ho:obj nm with _ | o<;>(try cases o)<;>simp only[ke,h',ho,hT,Option.bind_none,Option.bind_some]<;>first
   |exact .same rfl rfl rfl rfl
   |((repeat' split)<;>exact .same rfl rfl rfl rfl)
 |map nm=>
  have h':obj2 nm=obj nm:=h nm (by simp[aX])
  rcases hT:de P T with _ | _ | _ | _ | n<;>rcases ho:obj nm with _ | o<;>(try cases o)<;>simp only[ke,h',ho,hT,Option.bind_none,Option.bind_some]<;>first
   |exact .same rfl rfl rfl rfl
   |((repeat' split)<;>exact .same rfl rfl rfl rfl)
 |_=>unfold ke;(repeat' split)<;>first | exact .same rfl rfl rfl rfl | (exfalso;simp_all;done)
theorem R'{T:TypeId}{x i:D}(h:bG (aX x) obj obj2):bO (kT P obj T x i) (kT P obj2 T x i) obj obj2 []:=by
 cases x with
 |msl nm k=>
  have h':obj2 nm=obj nm:=h nm (by simp[aX])
  cases i<;>(try (rename_i y;cases y))<;>rcases hT:b8 P T with _ | ⟨_,_,_⟩<;>rcases ho:obj nm with _ | o<;>(try cases o)<;>simp only[kT,h',ho,hT,Option.bind_none,Option.bind_some]<;>first
   |exact .same rfl rfl rfl rfl
   |((repeat' split)<;>exact .same rfl rfl rfl rfl)
 |_=>unfold kT;(repeat' split)<;>first | exact .same rfl rfl rfl rfl | (exfalso;simp_all;done)
theorem R6{T:TypeId}{x k:D}{co:Bool}(h:bG (aX x) obj obj2):bO (lL P obj T x k co) (lL P obj2 T x k co) obj obj2 []:=by
 unfold lL
 split
 ·split
  ·cases x with
   |map nm=>
    have h':obj2 nm=obj nm:=h nm (by simp[aX])
    simp only[h']
    rcases ho:obj nm with _ | o<;>(try cases o)<;>exact .same rfl rfl rfl rfl
   |_=>exact .same rfl rfl rfl rfl
  ·exact .same rfl rfl rfl rfl
 ·exact .same rfl rfl rfl rfl
theorem R0{T:TypeId}{x:D}{lo hi mx:Option D}(h:bG (aX x) obj obj2):bO (jB P obj T x lo hi mx) (jB P obj2 T x lo hi mx) obj obj2 (aX x):=by
 cases x with
 |msl nm k=>
  have h':obj2 nm=obj nm:=h nm (by simp[aX])
  rcases mx with _ | y
  ·unfold jB
   simp only[h']
   rcases obj nm with _ | o<;>(try cases o)<;>rcases b8 P T with _ | ⟨_,_,_⟩<;>rcases ga lo with _ | _<;>rcases jT k hi with _ | _<;>first
    |exact .none _ h
    |exact .one (by simp[aX]) h
  ·cases y with
   |v z=>
    cases z with
    |int kk n=>
     rcases n with n | n
     ·rcases n with _ | n
      ·simp only[jB,Int.ofNat_eq_natCast,Int.cast_ofNat_Int,h']
       rcases hT:b8 P T with _ | ⟨_,_,_⟩<;>(repeat' split)<;>first
        |exact .none _ h
        |(exfalso;simp_all;done)
      ·exact .none _ h
     ·exact .none _ h
    |_=>exact .none _ h
   |_=>exact .none _ h
 |_=>unfold jB;(repeat' split)<;>first | exact .none _ h | (exfalso;simp_all;done)
theorem RZ{T:TypeId}{x d:D}(h:bG (aX x) obj obj2):bO (ka P obj T x d) (ka P obj2 T x d) obj obj2 (aX x):=by
 cases x with
 |ref nm off=>
  have h':obj2 nm=obj nm:=h nm (by simp[aX])
  unfold ka
  rcases a7 P T with _ | ⟨b,n⟩
  ·exact .none _ h
  simp only[h']
  rcases obj nm with _ | o<;>(try cases o)<;>first
   |exact .none _ h
   |exact .one (by simp[aX]) h
 |aref nm k i off=>
  have h':obj2 nm=obj nm:=h nm (by simp[aX])
  unfold ka
  rcases a7 P T with _ | ⟨b,n⟩
  ·exact .none _ h
  simp only[h']
  rcases obj nm with _ | o<;>(try cases o)<;>rcases dS d with _ | y<;>first
   |exact .none _ h
   |exact .one (by simp[aX]) h
 |_=>unfold ka;(repeat' split)<;>first | exact .none _ h | (exfalso;simp_all;done)
theorem Ht{T:TypeId}{x k d:D}(h:bG (aX x) obj obj2):bO (jC P obj T x k d) (jC P obj2 T x k d) obj obj2 (aX x):=by
 cases x with
 |map nm=>
  have h':obj2 nm=obj nm:=h nm (by simp[aX])
  unfold jC
  rcases jG P T with _ | ⟨kd,e⟩
  ·exact .none _ h
  rcases dS k with _ | kv<;>rcases dS d with _ | y<;>first
   |exact .none _ h
   |(simp only[h']
     rcases obj nm with _ | o<;>(try cases o)<;>first
      |exact .none _ h
      |exact .one (by simp[aX]) h)
 |_=>unfold jC;(repeat' split)<;>first | exact .none _ h | (exfalso;simp_all;done)
theorem Hv{t:Name}{x:D}(h:bG [bb t] obj obj2):bO (lS obj t x) (lS obj2 t x) obj obj2 [bb t]:=by
 have h1:=h (bb t) (by simp)
 unfold lS
 simp only[h1]
 exact .one (by simp) h
theorem Sl{t:Name}{T:TypeId}(h:bG [bb t] obj obj2):bO (mO P obj t T) (mO P obj2 t T) obj obj2 [bb t]:=by
 unfold mO
 split
 ·exact Hv h
 ·exact .none _ h
theorem R4{t:Name}{T:TypeId}{r:Option D}(h:bG [bb t] obj obj2):bO (mM P obj t T r) (mM P obj2 t T r) obj obj2 [bb t]:=by
 have h1:=h (bb t) (by simp)
 unfold mM
 rcases jG P T with _ | ⟨kd,e⟩
 ·exact .none _ h
 cases r
 ·simp only[h1]
  exact .one (by simp) h
 ·exact .none _ h
theorem R3{t:Name}{T:TypeId}{l c:D}(h:bG [bb t] obj obj2):bO (mL P obj t T l c) (mL P obj2 t T l c) obj obj2 [bb t]:=by
 have h1:=h (bb t) (by simp)
 unfold mL
 split
 ·split
  ·simp only[h1]
   exact .one (by simp) h
  ·exact .none _ h
 ·exact .none _ h
theorem Fw{x:D}(h:bG (aX x) obj obj2):aI obj2 x=aI obj x:=by
 cases x with
 |msl nm k=>
  have h':obj2 nm=obj nm:=h nm (by simp[aX])
  unfold aI
  simp only[h']
 |v y=>cases y<;>rfl
 |_=>rfl
theorem BP{t:Name}{T1 T2:TypeId}{s x:D}(h:bG (aX s++aX x++[bb t]) obj obj2):
 bO (dM P obj t T1 T2 s x) (dM P obj2 t T1 T2 s x) obj obj2 (aX s++aX x++[bb t]):=by
 have h1:=h (bb t) (by simp)
 have h2:aI obj2 x=aI obj x:=Fw fun nm hn=>h nm (by simp[hn])
 unfold dM
 rcases b8 P T1 with _ | ⟨e,sz,b⟩
 ·exact .none _ h
 rcases b8 P T2 with _ | _
 ·exact .none _ h
 simp only[h1,h2]
 rcases be P e with _ | z
 ·exact .none _ h
 cases s with
 |nilsl=>exact .one (by simp) h
 |msl nm k=>
  have h':obj2 nm=obj nm:=h nm (by simp[aX])
  simp only[h']
  rcases obj nm with _ | o<;>(try cases o)<;>first
   |exact .none _ h
   |exact .one (by simp[aX]) h
 |_=>exact .none _ h
end
def Fz(obj obj':Name->Option O):Prop:=∀ nm,obj' nm=obj nm\/∃ o o',obj nm=some o/\o.mut=true/\obj' nm=some o'/\o'.mut=false
theorem Fz.refl(obj:Name->Option O):Fz obj obj:=fun _=>.inl rfl
theorem Fz.trans{a b c:Name->Option O}(h:Fz a b)(k:Fz b c):Fz a c:=by
 intro nm
 rcases k nm with e | ⟨o,o',h1,h2,h3,h4⟩
 ·rw[e];exact h nm
 ·rcases h nm with e | ⟨q,q',g1,g2,g3,g4⟩
  ·exact .inr ⟨o,o',e▸h1,h2,h3,h4⟩
  ·rw[h1]at g3;cases g3;rw[h2]at g4;cases g4
theorem Fz.one{obj obj':Name->Option O}{nm:Name}{o o':O}(h:Fz obj obj')(h1:obj nm=some o)(h2:o.mut=true)(h3:o'.mut=false):Fz obj (upd obj' nm (some o')):=by
 intro x
 by_cases hx:x=nm
 ·subst hx;exact .inr ⟨o,o',h1,h2,aQ _ _ _,h3⟩
 ·rw[aZ _ _ _ hx];exact h x
theorem v5{f:(Name->Option O)->D->FR}(hf:∀ obj d,Fz obj (f obj d).obj):∀ (l:List D) (obj:Name->Option O),Fz obj (bm f obj l).obj
 |[],obj=>.refl obj
 |d::r,obj=>(hf obj d).trans (v5 hf r _)
theorem vY:∀ (n:Nat) (obj:Name->Option O) (d:D),Fz obj (aJ n obj d).obj
 | 0,obj,d=>by cases d<;>exact .refl obj
 |n+1,obj,d=>by
  have ih:∀ (l:List D) (obj:Name->Option O),Fz obj (bm (aJ n) obj l).obj:=v5 (vY n)
  cases d with
  |msl nm k=>
   unfold aJ
   simp only
   rcases ho:obj nm with _ | o
   ·exact .refl obj
   ·cases o<;>first
      |exact .refl obj
      |exact Fz.one (.refl obj) ho rfl rfl
  |ref nm off=>
   unfold aJ
   simp only
   rcases ho:obj nm with _ | o
   ·exact .refl obj
   ·cases o<;>first
      |exact .refl obj
      |exact Fz.one (ih _ obj) ho rfl rfl
  |agg l=>exact ih l obj
  |tup l=>exact ih l obj
  |clo fn f c=>exact(ih f obj).trans (ih c _)
  |_=>exact .refl obj
theorem yY{f g:D->List Name}(h:∀ d,∀ nm∈f d,nm∈g d):∀ (l:List D),∀ nm∈dZ f l,nm∈dZ g l
 |[],nm,hn=>hn
 |d::r,nm,hn=>by
  rcases List.mem_append.1 hn with hn | hn
  ·exact List.mem_append_left _ (h d nm hn)
  ·exact List.mem_append_right _ (yY h r nm hn)
theorem Dw{obj obj':Name->Option O}(h:Fz obj obj'):∀ (n:Nat) (d:D),∀ nm∈fp n obj' d,nm∈fp n obj d
 | 0,d,nm,hn=>by cases d<;>exact hn
 |n+1,d,nm,hn=>by
  have ih:∀ (l:List D),∀ nm∈dZ (fp n obj') l,nm∈dZ (fp n obj) l:=yY (Dw h n)
  cases d with
  |ref x off=>
   simp only[fp]at hn |-
   rcases List.mem_cons.1 hn with hn | hn
   ·exact hn▸List.mem_cons_self
   ·refine List.mem_cons_of_mem _ ?_
    rcases h x with e | ⟨o,o',h1,h2,h3,h4⟩
    ·rw[e]at hn
     rcases ho:obj x with _ | o
     ·rw[ho]at hn;simp at hn
     ·rw[ho]at hn
      cases o<;>first
       |exact ih _ nm hn
       |(simp at hn;done)
    ·rw[h3]at hn
     cases o'<;>simp[O.mut]at h4<;>simp at hn
  |agg l=>exact ih l nm hn
  |tup l=>exact ih l nm hn
  |clo fn f c=>
   rcases List.mem_append.1 hn with hn | hn
   ·exact List.mem_append_left _ (ih f nm hn)
   ·exact List.mem_append_right _ (ih c nm hn)
  |_=>exact hn
structure kW (ok ok2:Prop) (o o2 obj obj2:Name->Option O) (W:List Name):Prop where
 ok:ok2=ok
 agr:bG W o o2
 frame:∀ nm,nm∉W->o nm=obj nm
 frame2:∀ nm,nm∉W->o2 nm=obj2 nm
theorem kW.refl{ok:Prop}{obj obj2:Name->Option O}{W:List Name}(h:bG W obj obj2):kW ok ok obj obj2 obj obj2 W:=⟨rfl,h,fun _ _=>rfl,fun _ _=>rfl⟩
theorem kW.upd{ok ok2:Prop}{o o2 obj obj2:Name->Option O}{W:List Name}(h:kW ok ok2 o o2 obj obj2 W){nm:Name}(hn:nm∈W)(q:Option O)(G2 G1:Prop)(hk:G1=G2):
 kW G2 G1 (Go.Eng.upd o nm q) (Go.Eng.upd o2 nm q) obj obj2 W:=by
 refine⟨hk,fun x hx=>?_,fun x hx=>?_,fun x hx=>?_⟩
 ·by_cases e:x=nm
  ·subst e;rw[aQ,aQ]
  ·rw[aZ _ _ _ e,aZ _ _ _ e];exact h.agr x hx
 ·rw[aZ _ _ _ (by rintro rfl;exact hx hn)];exact h.frame x hx
 ·rw[aZ _ _ _ (by rintro rfl;exact hx hn)];exact h.frame2 x hx
def NC(n:Nat):Prop:=∀ (d:D) (obj obj2:Name->Option O) (W:List Name),(∀ nm∈fp n obj d,nm∈W)->bG W obj obj2->
 (aJ n obj2 d).x=(aJ n obj d).x/\kW (aJ n obj d).ok (aJ n obj2 d).ok (aJ n obj d).obj (aJ n obj2 d).obj obj obj2 W
theorem vZ{n:Nat}(hf:NC n):∀ (l:List D) (obj obj2:Name->Option O) (W:List Name),(∀ nm∈dZ (fp n obj) l,nm∈W)->bG W obj obj2->
 (bm (aJ n) obj2 l).xs=(bm (aJ n) obj l).xs/\kW (bm (aJ n) obj l).ok (bm (aJ n) obj2 l).ok (bm (aJ n) obj l).obj (bm (aJ n) obj2 l).obj obj obj2 W
 |[],obj,obj2,W,_,h=>⟨rfl,.refl h⟩
 |d::r,obj,obj2,W,hw,h=>by
  obtain⟨h1,h2⟩:=hf d obj obj2 W (fun nm hn=>hw nm (List.mem_append_left _ hn)) h
  obtain⟨h3,h4⟩:=vZ hf r (aJ n obj d).obj (aJ n obj2 d).obj W (fun nm hn=>hw nm (List.mem_append_right _ (yY (Dw (vY n obj d) n) r nm hn))) h2.agr
  refine⟨?_,?_⟩
  ·simp only[bm,h1,h3]
  ·refine⟨?_,h4.agr,fun nm hn=>(h4.frame nm hn).trans (h2.frame nm hn),fun nm hn=>(h4.frame2 nm hn).trans (h2.frame2 nm hn)⟩
   simp only[bm,h2.ok,h4.ok]
theorem yW:∀ n,NC n
 | 0=>fun d obj obj2 W hw h=>by cases d<;>exact⟨rfl,.refl h⟩
 |n+1=>fun d obj obj2 W hw h=>by
  have ih:=vZ (yW n)
  cases d with
  |msl nm k=>
   have hn:nm∈W:=hw nm (by simp[fp])
   have h':=h nm hn
   unfold aJ
   simp only[h']
   rcases ho:obj nm with _ | o
   ·exact⟨rfl,.refl h⟩
   ·cases o<;>first
      |exact⟨rfl,.refl h⟩
      |exact⟨rfl,(kW.refl (ok:=True) h).upd hn _ _ _ rfl⟩
  |ref nm off=>
   have hn:nm∈W:=hw nm (by simp[fp])
   have h':=h nm hn
   unfold aJ
   simp only[h']
   rcases ho:obj nm with _ | o
   ·exact⟨rfl,.refl h⟩
   ·cases o<;>first
      |exact⟨rfl,.refl h⟩
      |(obtain⟨h1,h2⟩:=ih _ obj obj2 W (fun x hx=>hw x (by simp only[fp,ho];exact List.mem_cons_of_mem _ hx)) h
        simp only[h1]
        exact⟨trivial,h2.upd hn _ _ _ (by rw[h2.ok,h2.agr nm hn])⟩)
  |agg l=>
   obtain⟨h1,h2⟩:=ih l obj obj2 W hw h
   refine⟨?_,h2⟩
   simp only[aJ,h1]
  |tup l=>
   obtain⟨h1,h2⟩:=ih l obj obj2 W hw h
   refine⟨?_,h2⟩
   simp only[aJ,h1]
  |clo fn f c=>
   obtain⟨h1,h2⟩:=ih f obj obj2 W (fun nm hn=>hw nm (List.mem_append_left _ hn)) h
   obtain⟨h3,h4⟩:=ih c (bm (aJ n) obj f).obj (bm (aJ n) obj2 f).obj W (fun nm hn=>hw nm (List.mem_append_right _ (yY (Dw (v5 (vY n) f obj) n) c nm hn))) h2.agr
   refine⟨?_,?_,h4.agr,fun nm hn=>(h4.frame nm hn).trans (h2.frame nm hn),fun nm hn=>(h4.frame2 nm hn).trans (h2.frame2 nm hn)⟩
   ·simp only[aJ,h1,h3]
   ·simp only[aJ,h2.ok,h4.ok]
  |_=>exact⟨rfl,.refl h⟩
def muts(obj:Name->Option O)(l:List Name):List Name:=l.filter fun nm=>match obj nm with | some o=>o.mut | none=>false
theorem kW.like{ok ok2:Prop}{d d2:D}{o o2 obj obj2:Name->Option O}{W:List Name}(h:kW ok ok2 o o2 obj obj2 W)(hd:d2=d)(hz:Fz obj o)(ha:bG W obj obj2):
 bO ⟨ok,d,o⟩ ⟨ok2,d2,o2⟩ obj obj2 (muts obj W):=by
 have key:∀ nm,nm∉muts obj W->o nm=obj nm:=by
  intro nm hn
  rcases hz nm with e | ⟨q,q',h1,h2,h3,h4⟩
  ·exact e
  ·by_cases hw:nm∈W
   ·exact(hn (List.mem_filter.2 ⟨hw,by simp[h1,h2]⟩)).elim
   ·exact h.frame nm hw
 refine⟨h.ok,hd,fun nm=>?_,key⟩
 show o2 nm=if nm∈muts obj W then o nm else obj2 nm
 split
 ·rename_i hn
  exact h.agr nm (List.mem_filter.1 hn).1
 ·rename_i hn
  by_cases hw:nm∈W
  ·rw[h.agr nm hw,key nm hn];exact(ha nm hw).symm
  ·exact h.frame2 nm hw
def V.flat0:V->Bool
 | .int _ _ | .bool _ | .str _ | .nilp | .nilfn=>true
 |_=>false
def V.flat1:V->Bool
 | .agg l=>l.all V.flat0
 |x=>x.flat0
def V.flat:V->Bool
 | .tup l=>l.all V.flat1
 |x=>x.flat1
theorem aL.flat0{m m':Mem}{x:V}{u:Value}(h:aL m x u)(hf:x.flat0=true):aL m' x u:=by
 cases h<;>simp[V.flat0]at hf
 ·exact .int _ _
 ·exact .bool _
 ·exact .str _ (by assumption)
 ·exact .nilp
 ·exact .nilfn
theorem aL.flat1{m m':Mem}{x:V}{u:Value}(h:aL m x u)(hf:x.flat1=true):aL m' x u:=by
 cases x with
 |agg l=>
  cases h with
  |agg _ us hl ho hr=>
  simp only[V.flat1,List.all_eq_true]at hf
  exact .agg l us hl ho fun i a b=>(hr i a b).flat0 (hf _ (List.getElem_mem a))
 |_=>exact h.flat0 hf
theorem aL.flat{m m':Mem}{x:V}{u:Value}(h:aL m x u)(hf:x.flat=true):aL m' x u:=by
 cases x with
 |tup l=>
  cases h with
  |tup _ us hl hr=>
  simp only[V.flat,List.all_eq_true]at hf
  exact .tup l us hl fun i a b=>(hr i a b).flat1 (hf _ (List.getElem_mem a))
 |_=>exact h.flat1 hf
structure PSpec where
 pre:List V->Prop
 fn:List V->V
 flat:Bool
def rZ(m:Mem)(xs:List V)(us:List Value):Prop:=
 xs.length=us.length/\∀ i (h:i<xs.length) (h':i<us.length),aL m xs[i] us[i]
def yid:FuncId:=1000000000
structure aW (P:Program) (f:FuncId) (s:PSpec):Prop where
 ne:f≠yid
 enter:∀ args w,(callFunc f args).run P w=.ok (.enter f args) w
 flat:s.flat=true->∀ xs,s.pre xs->(s.fn xs).flat=true
 calls:∀ (m:Mem) (w:World) (xs:List V) (args:Array Value),(∀ b off v,m b off=some v->w.cell? ⟨b,off,none⟩=some v)->rZ m xs args.toList->s.pre xs->
  Calls P f args w fun e w'=>∃ v m',e=.returned v/\RowKit.Below w.heap.size w w'/\Mem.le m m'/\
   (∀ b off c,m' b off=some c->m b off=some c\/(w.heap.size<=b/\w'.cell? ⟨b,off,none⟩=some c))/\aL m' (s.fn xs) v
def av(σ:S):Operand->D
 | .tmp t=>(σ.env t).d
 | .const v=>iA v
 | .func f=>.v (.clo (.func f) [] [])
 | .global _=>.any
def cJ(σ:S):Operand->Bool
 | .tmp t=>(σ.env t).c
 |_=>true
structure Spec where
 app:(Name->Option O)->Name->List D->R
 foot:(Name->Option O)->Name->List D->List Name
 wrt:(Name->Option O)->Name->List D->List Name
structure Spec.Near (s:Spec):Prop where
 like:∀ obj obj2 t ds,bG (s.foot obj t ds) obj obj2->bO (s.app obj t ds) (s.app obj2 t ds) obj obj2 (s.wrt obj t ds)
 foot:∀ obj obj2 t ds,bG (s.foot obj t ds) obj obj2->s.foot obj2 t ds=s.foot obj t ds
 sub:∀ obj t ds,∀ nm∈s.wrt obj t ds,nm∈s.foot obj t ds
 wrt:∀ obj obj2 t ds,bG (s.foot obj t ds) obj obj2->s.wrt obj2 t ds=s.wrt obj t ds
def fz(rd:Option Nat):Fence:={ Fence.wide with round:=rd }
theorem Ll{rd:Option Nat}{n:Nat}{P:Program}{f:FuncId}{args:Array Value}{w:World}{R:Ending->World->Prop}(h:Calls P f args w R):CallsIn (fz rd) n P f args w R:=
 (callsIn_wide (n:=n)).2 h
def qe(P:Program)(G:Ghost)(σ:S)(a:Act)(w:World)(o:Oper)(r:R):Prop:=
 ∀ (next:Act->World->Prop) (Q:Exit->Act->World->Prop),
   (∀ v φ' m' w',aN G φ' m' { σ with obj:=r.obj } a w'->aD φ' r.obj m' r.d v->next (a.put o.dst v) w')->o.uponIn (fz G.rd) 0 P a next Q ((execOp a.eval o).run P w)
structure aM (P:Program) (f:FuncId) (s:Spec):Prop where
 near:s.Near
 enter:f≠yid->∀ args w,(callFunc f args).run P w=.ok (.enter f args) w
 calls:f≠yid->∀ (G:Ghost) (φ:Name->Loc) (m:Mem) (σ:S) (a:Act) (w:World),aN G φ m σ a w->∀ (t:Name) (ds:List D) (us:Array Value),(∃ k,t=k::σ.pre)->ds.length=us.size->
  (∀ i (h:i<ds.length) (h':i<us.size),aD φ σ.obj m ds[i] us[i])->(s.app σ.obj t ds).ok->
  Calls P f us w fun e w'=>∃ v φ' m',e=.returned v/\aN G φ' m' { σ with obj:=(s.app σ.obj t ds).obj } a w'/\aD φ' (s.app σ.obj t ds).obj m' (s.app σ.obj t ds).d v/\Ext φ φ' σ.obj (s.app σ.obj t ds).obj
 yields:f=yid->∀ (G:Ghost) (φ:Name->Loc) (m:Mem) (σ:S) (a:Act) (w:World),aN G φ m σ a w->∀ (t nm:Name) (ds:List D) (us:Array Value),(∃ k,t=k::σ.pre)->ds.length=us.size->
  (∀ i (h:i<ds.length) (h':i<us.size),aD φ σ.obj m ds[i] us[i])->qB σ.obj nm->(s.app σ.obj t (.yld nm::ds)).ok->
  ∀ o:Oper,execOp a.eval o=Instr.yield (φ nm).blk us->qe P G σ a w o (s.app σ.obj t (.yld nm::ds))
def PSpec.toSpec(s:PSpec):Spec:=
 ⟨fun obj _ ds=>⟨(bm (aJ 6) obj ds).ok/\s.pre (bm (aJ 6) obj ds).xs,.v (s.fn (bm (aJ 6) obj ds).xs),if s.flat then obj else(bm (aJ 6) obj ds).obj⟩,
  fun obj _ ds=>dZ (fp 6 obj) ds,fun obj _ ds=>if s.flat then[]else muts obj (dZ (fp 6 obj) ds)⟩
def ew(f:D)(args:List D):List D:=
 match f with
 | .v (.clo _ fs cs)=>fs.map .v++args++cs.map .v
 | .clo _ fs cs=>fs++args++cs
 | .yld nm=>.yld nm::args
 |_=>[]
def fU:D->Option FuncId
 | .v (.clo (.func f) _ _)=>if f=yid then none else some f
 | .clo (.func f) _ _=>if f=yid then none else some f
 | .yld _=>some yid
 |_=>none
def rU(Γ:FuncId->Option Spec)(σ:S)(t:Name)(f:D)(args:List D):R:=
 match (fU f).bind Γ with
 |some s=>s.app σ.obj t (ew f args)
 |none=>.bad σ.obj
def lQ(P:Program)(σ:S)(t:Name)(b:Builtin)(ts:List TypeId)(args:List D):R:=
 match b,ts,args with
 | .len,[T],[x]=>ke P σ.obj T x
 | .append,[T1,T2],[s,x]=>dM P σ.obj t T1 T2 s x
 | .min,_,[.v (.int k a),.v (.int _ b)]=>⟨True,.v (.int k (if b<a then b else a)),σ.obj⟩
 | .max,_,[.v (.int k a),.v (.int _ b)]=>⟨True,.v (.int k (if b>a then b else a)),σ.obj⟩
 |_,_,_=>.bad σ.obj
def a8(P:Program)(Γ:FuncId->Option Spec)(σ:S)(t:Name):Op->R
 | .move x=>⟨True,av σ x,σ.obj⟩
 | .assign x=>⟨True,av σ x,σ.obj⟩
 | .pick c x y=>i5 σ.obj (av σ c) (av σ x) (av σ y)
 | .alloc T=>mO P σ.obj t T
 | .box _ x=>lS σ.obj t (av σ x)
 | .build T ps=>lR P σ.obj T (ps.toList.map fun p=>(p.1,av σ p.2))
 | .buildSlice T n ps=>nO P σ.obj T n (ps.toList.map fun p=>(p.1,av σ p.2))
 | .load T x=>i6 P σ.obj T (av σ x)
 | .store T x d=>ka P σ.obj T (av σ x) (av σ d)
 | .nilCheck x=>kb σ.obj (av σ x)
 | .binOp op T x y _=>lT P σ.obj op T (av σ x) (av σ y) (xR y)
 | .unOp op _ x=>lK σ.obj op (av σ x)
 | .convert s d x=>lP P σ.obj s d (av σ x)
 | .makeFunc fn f c=>M1 σ.obj fn (f.toList.map (av σ)) (c.toList.map (av σ))
 | .makeMap T r=>mM P σ.obj t T (r.map (av σ))
 | .makeSlice T l c=>mL P σ.obj t T (av σ l) (av σ c)
 | .slice T x lo hi mx=>jB P σ.obj T (av σ x) (lo.map (av σ)) (hi.map (av σ)) (mx.map (av σ))
 | .fieldAddr T x f=>kU P σ.obj T f (av σ x)
 | .field T x f=>lN P σ.obj T (av σ x) f
 | .indexAddr T x i=>kT P σ.obj T (av σ x) (av σ i)
 | .index T x i=>lM P σ.obj T (av σ x) (av σ i)
 | .lookup T x i co=>lL P σ.obj T (av σ x) (av σ i) co
 | .mapUpdate T x k d=>jC P σ.obj T (av σ x) (av σ k) (av σ d)
 | .insert T x k d=>jC P σ.obj T (av σ x) (av σ k) (av σ d)
 | .extract x i=>lO σ.obj (av σ x) i
 | .call ⟨.value f,args,_⟩=>rU Γ σ t (av σ f) (args.toList.map (av σ))
 | .call ⟨.builtin b,args,ts⟩=>lQ P σ t b ts.toList (args.toList.map (av σ))
 |_=>.bad σ.obj
theorem ck{G:Ghost}{φ:Name->Loc}{m:Mem}{σ:S}{a:Act}{w:World}(hC:aN G φ m σ a w){x:Operand}(h:cJ σ x=true):aD φ σ.obj m (av σ x) (a.eval x):=by
 cases x with
 |tmp t=>
  have :=hC.tmps t
  unfold cl at this
  simp only[cJ]at h
  rw[if_pos h]at this
  exact this
 |const v=>exact sM v
 |func f=>exact .v _ _ (.clo _ _ _ _ _ rfl rfl (fun i h=>by simp at h) (fun i h=>by simp at h))
 |global g=>exact .any _
theorem rz{P:Program}{G:Ghost}{φ:Name->Loc}{m:Mem}{σ:S}{a:Act}{w:World}{o:Oper}{r:R}{v:Value}{w':World}
 (cH:(execOp a.eval o).run P w=.ok (.value v) w') (hd:nV G σ a r v w'):qe P G σ a w o r:=by
 intro next Q qQ
 obtain⟨φ',m',h1,h2⟩:=hd
 rw[cH]
 exact qQ v φ' m' w' h1 h2
theorem jX{P:Program}{G:Ghost}{φ:Name->Loc}{m:Mem}{σ:S}{a:Act}{w:World}(hC:aN G φ m σ a w){o:Oper}{r:R}{s:Sem Value}
 (he:execOp a.eval o=(do pure (.value (<-s)))) (h:∃ v,s.run P w=.ok v w/\aD φ σ.obj m r.d v/\r.obj=σ.obj):qe P G σ a w o r:=by
 obtain⟨v,h1,h2,h3⟩:=h
 refine rz (φ:=φ) (m:=m) (v:=v) (w':=w) (by rw[he];simp[h1]) ⟨φ,m,?_,?_⟩
 ·rw[h3];exact hC
 ·rw[h3];exact h2
theorem rA{P:Program}{G:Ghost}{σ:S}{a:Act}{w:World}{o:Oper}{r:R}{s:Sem Value}
 (he:execOp a.eval o=(do pure (.value (<-s)))) (h:∃ v w',s.run P w=.ok v w'/\nV G σ a r v w'):qe P G σ a w o r:=by
 obtain⟨v,w',h1,h2⟩:=h
 obtain⟨φ',m',h3,h4⟩:=h2
 exact rz (φ:=φ') (m:=m') (v:=v) (w':=w') (by rw[he];simp[h1]) ⟨φ',m',h3,h4⟩
theorem Du{P:Program}{G:Ghost}{σ:S}{a:Act}{w:World}{o:Oper}{r:R}{s:Sem Unit}(hd:r.d=.any)
 (he:execOp a.eval o=(do s;pure .skip)) (h:∃ w',s.run P w=.ok () w'/\∃ φ' m',aN G φ' m' { σ with obj:=r.obj } a w'):qe P G σ a w o r:=by
 obtain⟨w',h1,φ',m',h2⟩:=h
 intro next Q qQ
 rw[he]
 simp only[Sem.run_bind,h1,Result.andThen_ok,Sem.run_pure]
 exact qQ undef φ' m' w' h2 (by rw[hd];exact .any _)
theorem A2{G:Ghost}{φ:Name->Loc}{m:Mem}{σ:S}{a:Act}{w:World}(hC:aN G φ m σ a w){x:Option Operand}(h:∀ y∈x.toList,cJ σ y=true):
 nP φ σ.obj m (x.map (av σ)) (x.map a.eval):=by
 cases x with
 |none=>trivial
 |some y=>exact ck hC (h y (by simp))
theorem Mi{P:Program}{Γ:FuncId->Option Spec}(hΓ:∀ f s,Γ f=some s->aM P f s){G:Ghost}{φ:Name->Loc}{m:Mem}{σ:S}{a:Act}{w:World}(hC:aN G φ m σ a w)
 {o:Oper} {f:FuncId} {s:Spec} {t:Name} (ht:∃ k,t=k::σ.pre) (hf:f≠yid) (hs:Γ f=some s) {ds:List D} {us:Array Value}
 (he:(execOp a.eval o)=callFunc f us) (hl:ds.length=us.size) (hr:∀ i (h:i<ds.length) (h':i<us.size),aD φ σ.obj m ds[i] us[i])
 (aa:(s.app σ.obj t ds).ok):qe P G σ a w o (s.app σ.obj t ds):=by
 obtain⟨_,kJ,rp,_⟩:=hΓ f s hs
 intro next Q qQ
 rw[he,kJ hf,Oper.uponIn_enter]
 refine⟨fun h=>(by simp[fz,Fence.wide]at h),Ll ?_⟩
 refine(rp hf G φ m σ a w hC t ds us ht hl hr aa).mono ?_
 rintro e w' ⟨v,φ',m',rfl,h1,h2,_⟩
 exact qQ v φ' m' w' h1 h2
theorem KZ{obj obj2:Name->Option O}:∀ (n:Nat) (d:D),bG (fp n obj d) obj obj2->fp n obj2 d=fp n obj d
 | 0,d,h=>by cases d<;>rfl
 |n+1,d,h=>by
  have ih:∀ (l:List D),bG (dZ (fp n obj) l) obj obj2->dZ (fp n obj2) l=dZ (fp n obj) l:=by
   intro l
   induction l with
   |nil=>intro _;rfl
   |cons d r Ud=>intro h;simp only[dZ];rw[KZ n d fun nm hn=>h nm (List.mem_append_left _ hn),Ud fun nm hn=>h nm (List.mem_append_right _ hn)]
  cases d with
  |ref nm off=>
   have h':=h nm (by simp[fp])
   simp only[fp,h']
   rcases ho:obj nm with _ | o
   ·rfl
   ·cases o<;>first
      |rfl
      |(simp only;rw[ih _ fun x hx=>h x (by simp only[fp,ho];exact List.mem_cons_of_mem _ hx)])
  |agg l=>exact ih l h
  |tup l=>exact ih l h
  |clo fn f c=>simp only[fp];rw[ih f fun nm hn=>h nm (List.mem_append_left _ hn),ih c fun nm hn=>h nm (List.mem_append_right _ hn)]
  |_=>rfl
theorem v7{obj obj2:Name->Option O}{n:Nat}:∀ (l:List D),bG (dZ (fp n obj) l) obj obj2->dZ (fp n obj2) l=dZ (fp n obj) l
 |[],_=>rfl
 |d::r,h=>by simp only[dZ];rw[KZ n d fun nm hn=>h nm (List.mem_append_left _ hn),v7 r fun nm hn=>h nm (List.mem_append_right _ hn)]
theorem By{obj obj2:Name->Option O}{l:List Name}(h:bG l obj obj2):muts obj2 l=muts obj l:=
 List.filter_congr fun nm hn=>by rw[h nm hn]
theorem PSpec.near(s:PSpec):s.toSpec.Near:=by
 refine⟨fun obj obj2 t ds h=>?_,fun obj obj2 t ds h=>v7 ds h,fun obj t ds nm hn=>?_,fun obj obj2 t ds h=>?_⟩
 ·obtain⟨h1,h2⟩:=vZ (yW 6) ds obj obj2 _ (fun _ hn=>hn) h
  have aa:((bm (aJ 6) obj2 ds).ok/\s.pre (bm (aJ 6) obj2 ds).xs)=((bm (aJ 6) obj ds).ok/\s.pre (bm (aJ 6) obj ds).xs):=by rw[h1,h2.ok]
  simp only[PSpec.toSpec]
  cases hf:s.flat with
  |true=>exact .same aa (by rw[h1]) rfl rfl
  |false=>
   simp only[Bool.false_eq_true,if_false]
   exact kW.like ⟨aa,h2.agr,h2.frame,h2.frame2⟩ (by rw[h1]) (v5 (vY 6) ds obj) h
 ·simp only[PSpec.toSpec]at hn |-
  split at hn
  ·simp at hn
  ·exact(List.mem_filter.1 hn).1
 ·simp only[PSpec.toSpec]
  split
  ·rfl
  ·rw[v7 ds h];exact By h
theorem aW.sound{P:Program}{f:FuncId}{s:PSpec}(h:aW P f s):aM P f s.toSpec:=by
 obtain⟨hy,kJ,dX,rp⟩:=h
 refine⟨s.near,fun _=>kJ,fun _ G φ m σ a w hC t ds us _ hl hr aa=>?_,fun e=>(hy e).elim⟩
 obtain⟨vG,pJ⟩:=aa
 obtain⟨m1,a1,a2,a3,a4,a5,a6⟩:=pT (oN 6) ds hC us.toList (by simpa using hl) (fun i h h'=>by
  have :=hr i h (by simpa using h')
  rw[Array.getElem_toList];exact this) vG
 refine(rp m1 w (bm (aJ 6) σ.obj ds).xs us a2.mem ⟨by rw[a4];simpa using hl,a5⟩ pJ).mono ?_
 rintro e w' ⟨v,m',rfl,hb,hm,hn,hv⟩
 simp only[PSpec.toSpec]
 by_cases ri:s.flat=true
 ·have qE:aL m (s.fn (bm (aJ 6) σ.obj ds).xs) v:=hv.flat (dX ri _ pJ)
  refine⟨v,φ,m,rfl,?_,?_,?_⟩
  ·simp only[ri,if_true]
   exact hC.imm (Mem.le_refl m) ⟨hb.os,hb.tape,hb.output,hb.size⟩ hb.block (fun _ _ _ h=>.inl h)
  ·simp only[ri,if_true]
   exact .v _ _ qE
  ·simp only[ri,if_true]
   exact .refl _ _
 ·refine⟨v,φ,m',rfl,?_,?_,?_⟩
  ·simp only[ri,Bool.false_eq_true,if_false]
   exact a2.imm hm ⟨hb.os,hb.tape,hb.output,hb.size⟩ hb.block hn
  ·simp only[ri,Bool.false_eq_true,if_false]
   exact .v _ _ hv
  ·simp only[ri,Bool.false_eq_true,if_false]
   exact a3
theorem YC{P:Program}{Γ:FuncId->Option Spec}{σ:S}{t:Name}{op:Op}(h:(a8 P Γ σ t op).ok):∀ c,op≠ .defer c:=by
 rintro c rfl
 exact h
def m8(σ:S):Op->Bool
 | .pick c x y=>cJ σ c&&(match av σ c with | .v (.bool b)=>if b then cJ σ x else cJ σ y | _=>false)
 |op=>op.operands.toList.all (cJ σ)
theorem c0{σ:S}{op:Op}(h:op.operands.toList.all (cJ σ)=true){x:Operand}(hx:x∈op.operands.toList):cJ σ x=true:=List.all_eq_true.1 h x hx
theorem GA{G:Ghost}{φ:Name->Loc}{m:Mem}{σ:S}{a:Act}{w:World}(hC:aN G φ m σ a w){ps:Array (Nat×Operand)}(h:∀ p∈ps.toList,cJ σ p.2=true):
 (ps.toList.map fun p=>(p.1,av σ p.2)).map (·.1)=(ps.map fun (i,x)=>(i,a.eval x)).toList.map (·.1)/\
 ∀ (k:Nat) (p:Nat×D) (q:Nat×Value),(ps.toList.map fun p=>(p.1,av σ p.2))[k]?=some p->(ps.map fun (i,x)=>(i,a.eval x)).toList[k]?=some q->aD φ σ.obj m p.2 q.2:=by
 refine⟨by simp,fun k p q hp hq=>?_⟩
 simp only[List.getElem?_map,Option.map_eq_some_iff]at hp
 obtain⟨y,hy,rfl⟩:=hp
 simp only[Array.toList_map,List.getElem?_map,hy,Option.map_some,Option.some.injEq]at hq
 subst hq
 exact ck hC (h y (List.mem_of_getElem? hy))
theorem BM{G:Ghost}{φ:Name->Loc}{m:Mem}{σ:S}{a:Act}{w:World}(hC:aN G φ m σ a w){xs:Array Operand}(h:∀ x∈xs.toList,cJ σ x=true):
 (xs.toList.map (av σ)).length=(xs.map a.eval).size/\∀ i (h:i<(xs.toList.map (av σ)).length) (h':i<(xs.map a.eval).size),aD φ σ.obj m (xs.toList.map (av σ))[i] (xs.map a.eval)[i]:=by
 refine⟨by simp,fun i h1 h2=>?_⟩
 simp only[List.getElem_map,Array.getElem_toList,Array.getElem_map]
 exact ck hC (h _ (by simp))
set_option maxHeartbeats 1000000 in
theorem X8{P:Program}{G:Ghost}{φ:Name->Loc}{m:Mem}{σ:S}{a:Act}{w:World}(hC:aN G φ m σ a w)(o:Oper)(t:Name)(b:Builtin)(args:Array Operand)(ts:Array TypeId)
 (ho:o.op=.call ⟨.builtin b,args,ts⟩) (dY:∀ x∈args.toList,cJ σ x=true) (aa:(lQ P σ t b ts.toList (args.toList.map (av σ))).ok):
 qe P G σ a w o (lQ P σ t b ts.toList (args.toList.map (av σ))):=by
 obtain⟨args⟩:=args
 obtain⟨ts⟩:=ts
 have tu:(∃ T x,b=.len/\ts=[T]/\args=[x])\/(∃ T1 T2 s x,b=.append/\ts=[T1,T2]/\args=[s,x])\/
     (∃ x y,(b=.min\/b=.max)/\args=[x,y]):=by
  rcases args with _ | ⟨x,_ | ⟨y,_ | ⟨z,r⟩⟩⟩
  ·unfold lQ at aa;split at aa<;>first | exact aa.elim | (exfalso;simp_all;done)
  ·unfold lQ at aa
   split at aa
   ·exact .inl ⟨_,x,rfl,by assumption,rfl⟩
   ·exfalso;simp_all
   ·exfalso;simp_all
   ·exfalso;simp_all
   ·exact aa.elim
  ·unfold lQ at aa
   split at aa
   ·exfalso;simp_all
   ·exact .inr (.inl ⟨_,_,x,y,rfl,by assumption,rfl⟩)
   ·exact .inr (.inr ⟨x,y,.inl rfl,rfl⟩)
   ·exact .inr (.inr ⟨x,y,.inr rfl,rfl⟩)
   ·exact aa.elim
  ·unfold lQ at aa;split at aa<;>first | exact aa.elim | (exfalso;simp_all;done)
 rcases tu with⟨T,x,rfl,rfl,rfl⟩ | ⟨T1,T2,s,x,rfl,rfl,rfl⟩ | ⟨x,y,hb,rfl⟩
 ·have hx:=ck hC (dY x (by simp))
  refine jX hC (s:=Builtin.len_ #[T] o.type #[a.eval x]) ?_ (OT hC hx aa)
  simp[execOp,ho,resolve,invoke,builtin]
 ·have hs:=ck hC (dY s (by simp))
  have hx:=ck hC (dY x (by simp))
  refine rA (s:=Builtin.append_ #[T1,T2] o.type #[a.eval s,a.eval x]) ?_ (O7 hC hs hx aa)
  simp[execOp,ho,resolve,invoke,builtin]
 ·have hx:=ck hC (dY x (by simp))
  have hy:=ck hC (dY y (by simp))
  simp only[List.map_cons,List.map_nil]at aa |-
  generalize av σ x=dx at *
  generalize av σ y=dy at *
  have hd:∃ k1 a1 k2 a2,dx=.v (.int k1 a1)/\dy=.v (.int k2 a2):=by
   rcases hb with rfl | rfl
   ·simp only[lQ]at aa
    split at aa
    all_goals first
     |exact aa.elim
     |(exfalso;simp_all;done)
     |(rename_i h;simp only[List.cons.injEq,and_true]at h;exact⟨_,_,_,_,h.1,h.2⟩)
   ·simp only[lQ]at aa
    split at aa
    all_goals first
     |exact aa.elim
     |(exfalso;simp_all;done)
     |(rename_i h;simp only[List.cons.injEq,and_true]at h;exact⟨_,_,_,_,h.1,h.2⟩)
  obtain⟨k1,a1,k2,a2,rfl,rfl⟩:=hd
  cases hx with
  |v _ _ hx=>
  cases hy with
  |v _ _ hy=>
  generalize hu:a.eval x=u at *
  generalize hv:a.eval y=v at *
  cases hx;cases hy
  rcases hb with rfl | rfl
  ·refine jX hC (s:=Builtin.min_ ts.toArray o.type #[.int k1 a1,.int k2 a2]) ?_ ⟨.int k1 (if a2<a1 then a2 else a1),?_,.v _ _ (.int _ _),rfl⟩
   ·simp[execOp,ho,resolve,invoke,builtin,hu,hv]
   ·simp[Builtin.min_,Builtin.min2]
  ·refine jX hC (s:=Builtin.max_ ts.toArray o.type #[.int k1 a1,.int k2 a2]) ?_ ⟨.int k1 (if a2>a1 then a2 else a1),?_,.v _ _ (.int _ _),rfl⟩
   ·simp[execOp,ho,resolve,invoke,builtin,hu,hv]
   ·simp[Builtin.max_,Builtin.max2]
set_option maxHeartbeats 4000000 in
theorem YB{P:Program}{Γ:FuncId->Option Spec}(hΓ:∀ f s,Γ f=some s->aM P f s){G:Ghost}{φ:Name->Loc}{m:Mem}{σ:S}{a:Act}{w:World}(hC:aN G φ m σ a w)
 (o:Oper) (t:Name) (ht:∃ k,t=k::σ.pre) (hc:m8 σ o.op=true) (aa:(a8 P Γ σ t o.op).ok):qe P G σ a w o (a8 P Γ σ t o.op):=by
 cases ho:o.op with
 |move x=>
  rw[ho]at hc aa
  refine rz (φ:=φ) (m:=m) (v:=a.eval x) (w':=w) (by simp[execOp,ho]) ⟨φ,m,hC,ck hC (c0 hc (by simp[Op.operands]))⟩
 |assign x=>
  rw[ho]at hc aa
  refine rz (φ:=φ) (m:=m) (v:=a.eval x) (w':=w) (by simp[execOp,ho]) ⟨φ,m,hC,ck hC (c0 hc (by simp[Op.operands]))⟩
 |pick c x y=>
  rw[ho]at hc aa
  simp only[m8,Bool.and_eq_true]at hc
  obtain⟨h1,h2⟩:=hc
  have yK:=ck hC h1
  simp only[a8]at aa |-
  generalize av σ c=dc at *
  unfold i5 at aa
  split at aa
  ·rename_i b
   generalize he:a.eval c=u at yK
   cases yK with
   |v _ _ yK=>
   cases yK
   simp only at h2
   refine rz (φ:=φ) (m:=m) (v:=if b then a.eval x else a.eval y) (w':=w) (by simp[execOp,ho,he,asBool]) ⟨φ,m,by simpa[i5]using hC,?_⟩
   have :aD φ σ.obj m (if b then av σ x else av σ y) (if b then a.eval x else a.eval y):=by
    cases b with
    |true=>exact ck hC (by simpa using h2)
    |false=>exact ck hC (by simpa using h2)
   exact YP this
  ·exact aa.elim
 |alloc T=>
  rw[ho]at aa
  refine rA (s:=Instr.alloc T true (.tuple #[])) (by simp[execOp,ho]) (O8 hC aa)
 |box T x=>
  rw[ho]at hc aa
  refine rA (s:=Instr.box T (a.eval x)) (by simp[execOp,ho]) (O3 hC (ck hC (c0 hc (by simp[Op.operands]))) aa)
 |build T ps=>
  rw[ho]at hc aa
  obtain⟨h1,h2⟩:=GA hC (ps:=ps) (fun p hp=>c0 hc (by simp only[Op.operands,List.mem_map];exact⟨p,hp,rfl⟩))
  refine jX hC (s:=Instr.build T (ps.map fun (i,x)=>(i,a.eval x))) (by simp[execOp,ho]) (O2 w h1 h2 aa)
 |buildSlice T n ps=>
  rw[ho]at hc aa
  obtain⟨h1,h2⟩:=GA hC (ps:=ps) (fun p hp=>c0 hc (by simp only[Op.operands,List.mem_map];exact⟨p,hp,rfl⟩))
  refine rA (s:=Instr.buildSlice T n (ps.map fun (i,x)=>(i,a.eval x))) (by simp[execOp,ho]) (O1 hC h1 h2 aa)
 |load T x=>
  rw[ho]at hc aa
  refine jX hC (s:=Instr.loadAt T (a.eval x)) (by simp[execOp,ho]) (FK hC (ck hC (c0 hc (by simp[Op.operands]))) aa)
 |store T x d=>
  rw[ho]at hc aa
  refine Du ?_ (s:=Instr.storeAt T (a.eval x) (a.eval d)) (by simp[execOp,ho]) (OM hC (ck hC (c0 hc (by simp[Op.operands]))) (ck hC (c0 hc (by simp[Op.operands]))) aa)
  simp only[a8,ka]
  (repeat' split)<;>rfl
 |nilCheck x=>
  rw[ho]at hc aa
  obtain⟨h1,h2,h3⟩:=OP (P:=P) (ρ:=a.eval) (c:=x) (o:=o) w (ck hC (c0 hc (by simp[Op.operands]))) aa ho rfl
  refine rz (φ:=φ) (m:=m) h1 ⟨φ,m,?_,?_⟩
  ·simp only[a8];rw[h3];exact hC
  ·simp only[a8];rw[h3];exact h2
 |binOp op T x y yT=>
  rw[ho]at hc aa
  exact jX hC (s:=do eqGuard op T x y (a.eval x) (a.eval y);binOp op T (a.eval x) (a.eval y)) (by simp[execOp,ho]) (O4 hC (ck hC (c0 hc (by simp[Op.operands]))) (ck hC (c0 hc (by simp[Op.operands]))) (fun h=>by
   cases y with
   |const v=>cases v with
    |slice a n c=>cases a with
     |none=>exact⟨n,c,rfl⟩
     |some=>cases h
    |_=>cases h
   |_=>cases h) aa)
 |unOp op T x=>
  rw[ho]at hc aa
  exact jX hC (s:=Op.unary op (a.eval x)) (by simp[execOp,ho]) (OL w (ck hC (c0 hc (by simp[Op.operands]))) aa)
 |convert s d x=>
  rw[ho]at hc aa
  exact jX hC (s:=convert s d (a.eval x)) (by simp[execOp,ho]) (O0 w (ck hC (c0 hc (by simp[Op.operands]))) aa)
 |makeFunc fn f c=>
  rw[ho]at hc aa
  obtain⟨h1,h2⟩:=BM hC (xs:=f) (fun x hx=>c0 hc (by simp[Op.operands,hx]))
  obtain⟨h3,h4⟩:=BM hC (xs:=c) (fun x hx=>c0 hc (by simp[Op.operands,hx]))
  exact rz (φ:=φ) (m:=m) (v:=.func fn (f.map a.eval) (c.map a.eval)) (w':=w) (by simp[execOp,ho,Instr.makeFunc]) ⟨φ,m,hC,.clo _ _ _ _ _ h1 h3 h2 h4⟩
 |makeMap T r=>
  rw[ho]at hc aa
  exact rA (s:=Instr.makeMap T (r.map a.eval)) (by simp[execOp,ho]) (OR hC (by cases r<;>rfl) aa)
 |makeSlice T l c=>
  rw[ho]at hc aa
  exact rA (s:=Instr.makeSlice T (a.eval l) (a.eval c)) (by simp[execOp,ho]) (OQ hC (ck hC (c0 hc (by simp[Op.operands]))) (ck hC (c0 hc (by simp[Op.operands]))) aa)
 |slice T x lo hi mx=>
  rw[ho]at hc aa
  have h0:∀ y,(y∈lo.toList\/y∈hi.toList\/y∈mx.toList\/y=x)->cJ σ y=true:=fun y hy=>c0 hc (by
   simp only[Op.operands,Array.toList_append,List.mem_append,Option.toList_toArray]
   rcases hy with h | h | h | h
   ·exact .inl (.inl (.inr h))
   ·exact .inl (.inr h)
   ·exact .inr h
   ·exact .inl (.inl (.inl (by simp[h]))))
  exact rA (s:=Instr.sliceAt T (a.eval x) (lo.map a.eval) (hi.map a.eval) (mx.map a.eval)) (by simp[execOp,ho])
   (ON hC (ck hC (h0 x (by simp))) (A2 hC fun y hy=>h0 y (.inl hy)) (A2 hC fun y hy=>h0 y (.inr (.inl hy))) (A2 hC fun y hy=>h0 y (.inr (.inr (.inl hy)))) aa)
 |fieldAddr T x f=>
  rw[ho]at hc aa
  exact jX hC (s:=Instr.fieldAt T (a.eval x) f) (by simp[execOp,ho]) (OW w (ck hC (c0 hc (by simp[Op.operands]))) aa)
 |field T x f=>
  rw[ho]at hc aa
  exact jX hC (s:=Instr.field T (a.eval x) f) (by simp[execOp,ho]) (OX w (ck hC (c0 hc (by simp[Op.operands]))) aa)
 |indexAddr T x i=>
  rw[ho]at hc aa
  exact jX hC (s:=Instr.indexAt T (a.eval x) (a.eval i)) (by simp[execOp,ho]) (OU hC (ck hC (c0 hc (by simp[Op.operands]))) (ck hC (c0 hc (by simp[Op.operands]))) aa)
 |index T x i=>
  rw[ho]at hc aa
  exact jX hC (s:=Instr.index T (a.eval x) (a.eval i)) (by simp[execOp,ho]) (OV w (ck hC (c0 hc (by simp[Op.operands]))) (ck hC (c0 hc (by simp[Op.operands]))) aa)
 |lookup T x i co=>
  rw[ho]at hc aa
  exact jX hC (s:=Instr.lookup T (a.eval x) (a.eval i) co) (by simp[execOp,ho]) (OS hC (ck hC (c0 hc (by simp[Op.operands]))) (ck hC (c0 hc (by simp[Op.operands]))) aa)
 |mapUpdate T x k d=>
  rw[ho]at hc aa
  refine Du ?_ (s:=Instr.mapUpdate T (a.eval x) (a.eval k) (a.eval d)) (by simp[execOp,ho])
   (FJ hC (ck hC (c0 hc (by simp[Op.operands]))) (ck hC (c0 hc (by simp[Op.operands]))) (ck hC (c0 hc (by simp[Op.operands]))) aa)
  simp only[a8,jC]
  (repeat' split)<;>rfl
 |insert T x k d=>
  rw[ho]at hc aa
  refine Du ?_ (s:=Instr.mapUpdate T (a.eval x) (a.eval k) (a.eval d)) (by simp[execOp,ho])
   (FJ hC (ck hC (c0 hc (by simp[Op.operands]))) (ck hC (c0 hc (by simp[Op.operands]))) (ck hC (c0 hc (by simp[Op.operands]))) aa)
  simp only[a8,jC]
  (repeat' split)<;>rfl
 |extract x i=>
  rw[ho]at hc aa
  exact jX hC (s:=Instr.extract (a.eval x) i) (by simp[execOp,ho]) (OY w (ck hC (c0 hc (by simp[Op.operands]))) aa)
 |call c=>
  obtain⟨callee,args,ts⟩:=c
  rw[ho]at hc aa
  cases callee with
  |builtin b=>
   exact X8 hC o t b args ts ho (fun x hx=>c0 hc (by simp[Op.operands,Call.operands,hx])) aa
  |invoke=>exact aa.elim
  |value f=>
   have hf:=ck hC (c0 hc (x:=f) (by simp[Op.operands,Call.operands]))
   obtain⟨h1,h2⟩:=BM hC (xs:=args) (fun x hx=>c0 hc (by simp[Op.operands,Call.operands,hx]))
   simp only[a8]at aa |-
   generalize hu:a.eval f=u at hf
   generalize av σ f=df at *
   unfold rU at aa |-
   split at aa
   ·rename_i s hs
    obtain⟨g,hg,Cm⟩:=Option.bind_eq_some_iff.1 hs
    unfold fU at hg
    split at hg
    ·rename_i g fs cs
     split at hg
     ·cases hg
     rename_i aG
     cases hg
     cases hf with
     |v _ _ hf=>
     cases hf with
     |clo _ _ _ us vs e1 e2 dw ft=>
     try simp only[hs]
     refine Mi hΓ hC ht aG Cm (us:=us++args.map a.eval++vs) (by simp[execOp,ho,resolve,Deferred.ofValue,hu,invoke]) (by simp[ew,e1,e2]) (fun i hi bC=>?_) aa
     simp only[ew,List.length_append,List.length_map]at hi |-
     by_cases k1:i<fs.length
     ·have q1:i<us.size:=by omega
      simp only[List.append_assoc,Array.append_assoc]
      rw[List.getElem_append_left (by simpa using k1),Array.getElem_append_left q1]
      simp only[List.getElem_map]
      exact .v _ _ (dw i k1 q1)
     ·by_cases k2:i<fs.length+args.toList.length
      ·simp only[List.append_assoc,Array.append_assoc]
       rw[List.getElem_append_right (by simp;omega),List.getElem_append_left (by simp at k2 |-;omega),Array.getElem_append_right (by omega),Array.getElem_append_left (by simp at k2 |-;omega)]
       have :=h2 (i-fs.length) (by simp at k2 |-;omega) (by simp at k2 |-;omega)
       simp only[List.length_map,<-e1]
       exact this
      ·rw[List.getElem_append_right (by simp at k2 |-;omega),Array.getElem_append_right (by simp at k2 |-;omega)]
       have :=ft (i-(fs.length+args.size)) (by simp at hi k2;omega) (by simp at hi k2;omega)
       simp only[List.length_append,List.length_map,Array.length_toList,Array.size_append,Array.size_map,List.getElem_map,<-e1]
       exact .v _ _ this
    ·rename_i g fs cs
     split at hg
     ·cases hg
     rename_i aG
     cases hg
     cases hf with
     |clo _ _ _ us vs e1 e2 dw ft=>
     try simp only[hs]
     refine Mi hΓ hC ht aG Cm (us:=us++args.map a.eval++vs) (by simp[execOp,ho,resolve,Deferred.ofValue,hu,invoke]) (by simp[ew,e1,e2]) (fun i hi bC=>?_) aa
     simp only[ew,List.length_append,List.length_map]at hi |-
     by_cases k1:i<fs.length
     ·have q1:i<us.size:=by omega
      simp only[List.append_assoc,Array.append_assoc]
      rw[List.getElem_append_left (by simpa using k1),Array.getElem_append_left q1]
      exact dw i k1 q1
     ·by_cases k2:i<fs.length+args.toList.length
      ·simp only[List.append_assoc,Array.append_assoc]
       rw[List.getElem_append_right (by omega),List.getElem_append_left (by simp at k2 |-;omega),Array.getElem_append_right (by omega),Array.getElem_append_left (by simp at k2 |-;omega)]
       have :=h2 (i-fs.length) (by simp at k2 |-;omega) (by simp at k2 |-;omega)
       simp only[<-e1]
       exact this
      ·rw[List.getElem_append_right (by simp at k2 |-;omega),Array.getElem_append_right (by simp at k2 |-;omega)]
       have :=ft (i-(fs.length+args.size)) (by simp at hi k2;omega) (by simp at hi k2;omega)
       simp only[List.length_append,List.length_map,Array.length_toList,Array.size_append,Array.size_map,<-e1]
       exact this
    ·rename_i nm
     cases hg
     cases hf with
     |yld _ hb=>
     try simp only[hs]
     exact(hΓ yid s Cm).yields rfl G φ m σ a w hC t nm (args.toList.map (av σ)) (args.map a.eval) ht h1 h2 hb aa o (by simp[execOp,ho,resolve,Deferred.ofValue,hu,invoke])
    ·cases hg
   ·exact aa.elim
 |_=>rw[ho]at aa;exact aa.elim
def nA(ops:Array Oper)(j:Nat):Option Tmp:=(ops[j]?).bind (·.dst)
def DL(e:E)(want:Bool):Bool:=e.c&&(match e.d with | .v (.bool b)=>b==want | _=>false)
def zd(e:E):Prop:=match e.d with | .v (.bool _)=>True | _=>e.c=false
def et(ops:Array Oper)(σ:S)(o:Oper):Bool:=
 match o.guard with
 |none=>true
 |some (j,want)=>match nA ops j with
  |some s=>DL (σ.env s) want
  |none=>false
def nB(ops:Array Oper)(σ:S)(o:Oper):Prop:=
 match o.guard with
 |none=>True
 |some (j,_)=>match nA ops j with
  |some s=>zd (σ.env s)/\s<σ.nt
  |none=>True
theorem NZ{G:Ghost}{φ:Name->Loc}{m:Mem}{σ:S}{a:Act}{w:World}(hC:aN G φ m σ a w){ops:Array Oper}{o:Oper}(h:nB ops σ o):
 Region.wanted o (yielded ops a.tmps)=et ops σ o:=by
 unfold Region.wanted et
 unfold nB at h
 cases hg:o.guard with
 |none=>rfl
 |some p=>
  obtain⟨j,want⟩:=p
  simp only[hg]at h |-
  unfold yielded
  unfold nA at h |-
  cases hs:(ops[j]?).bind (·.dst)with
  |none=>rfl
  |some s=>
   simp only[hs]at h |-
   obtain⟨h,ab⟩:=h
   have ht:=hC.tmps s
   have aq:s<a.tmps.size:=by rw[hC.size];exact ab
   have e0:a.tmps.getD s undef=a.tmps[s]:=by simp[Array.getD,aq]
   rw[e0]at ht
   simp only[Option.bind_some,Array.getElem?_eq_getElem aq]
   unfold DL
   unfold zd at h
   unfold cl at ht
   generalize a.tmps[s]=u at *
   generalize σ.env s=e at *
   obtain⟨c,d⟩:=e
   simp only at h ht |-
   cases c with
   |false=>
    simp only[Bool.false_eq_true,if_false]at ht
    subst ht
    simp[undef]
   |true=>
    simp only[if_true]at ht
    split at h
    ·cases ht with
     |v _ _ ht=>cases ht;simp
    ·cases h
def bg(P:Program)(Γ:FuncId->Option Spec)(ops:Array Oper)(σ:S)(o:Oper):S:=
 ⟨σ.nt,match o.dst with
   |some t=>upd σ.env t ⟨et ops σ o,(a8 P Γ σ ((σ.base+t)::σ.pre) o.op).d⟩
   |none=>σ.env,if et ops σ o=true then(a8 P Γ σ ((σ.base+o.dst.getD 0)::σ.pre) o.op).obj else σ.obj,σ.pre,σ.base⟩
def ko(P:Program)(Γ:FuncId->Option Spec)(ops:Array Oper)(σ:S)(o:Oper):Prop:=
 nB ops σ o/\(match o.dst with | some t=>t<σ.nt | none=>True)/\(et ops σ o=true->m8 σ o.op=true/\(a8 P Γ σ ((σ.base+o.dst.getD 0)::σ.pre) o.op).ok)
def oZ(P:Program)(Γ:FuncId->Option Spec)(ops:Array Oper):List Oper->S->(S->Prop)->Prop
 |[],σ,K=>K σ
 |o::r,σ,K=>ko P Γ ops σ o/\oZ P Γ ops r (bg P Γ ops σ o) K
theorem AB{P:Program}{Γ:FuncId->Option Spec}(hΓ:∀ f s,Γ f=some s->aM P f s){G:Ghost}{φ:Name->Loc}{m:Mem}{σ:S}{a:Act}{w:World}(hC:aN G φ m σ a w)
 {ops:Array Oper} {i:Nat} {o:Oper} (hi:ops[i]?=some o) (h:ko P Γ ops σ o) {K:Act->World->Prop} {Q:Exit->Act->World->Prop}
 (hK:∀ a' w' φ' m',aN G φ' m' (bg P Γ ops σ o) a' w'->K a' w'):wpOpIn (fz G.rd) 0 P ops Q i K a w:=by
 obtain⟨h1,h2,h3⟩:=h
 unfold wpOpIn
 simp only[hi,NZ hC h1]
 cases hg:et ops σ o with
 |true=>
  simp only[if_true]
  obtain⟨h4,h5⟩:=h3 hg
  refine⟨fun _ _=>trivial,?_⟩
  rw[Oper.semAt_eq _ _ _ (YC h5)]
  refine(YB hΓ hC o ((σ.base+o.dst.getD 0)::σ.pre) ⟨_,rfl⟩ h4 h5 _ _ fun v φ' m' w' cm hr=>hK _ _ φ' m' ?_)
  unfold bg
  rw[hg]
  cases hd:o.dst with
  |none=>simpa[hd,Act.put]using cm
  |some t=>
   simp only[hd]at h2
   simp only[hd,Option.getD_some,if_true]at cm hr |-
   refine cm.put (e:=⟨true,_⟩) h2 ?_
   unfold cl
   simpa using hr
 |false=>
  simp only[Bool.false_eq_true,if_false]
  refine⟨fun _ _=>trivial,hK _ _ φ m ?_⟩
  unfold bg
  rw[hg]
  cases hd:o.dst with
  |none=>simpa[hd,Act.put]using hC
  |some t=>
   simp only[hd]at h2
   simp only[Bool.false_eq_true,if_false]
   refine hC.put (e:=⟨false,_⟩) h2 ?_
   unfold cl
   simp
theorem F9{P:Program}{Γ:FuncId->Option Spec}(hΓ:∀ f s,Γ f=some s->aM P f s){G:Ghost}{ops:Array Oper}{Q:Exit->Act->World->Prop}{K:S->Prop}:
 ∀ (n k:Nat) {φ:Name->Loc} {m:Mem} {σ:S} {a:Act} {w:World},k+n=ops.size->aN G φ m σ a w->oZ P Γ ops (ops.toList.drop k) σ K->
   (∀ a' w' φ' m' σ',aN G φ' m' σ' a' w'->K σ'->Q .normal a' w')->wpOpsIn (fz G.rd) 0 P ops Q (List.range' k n) a w
 | 0,k,φ,m,σ,a,w,hk,hC,hr,hQ=>by
   have :ops.toList.drop k=[]:=List.drop_eq_nil_of_le (by simp;omega)
   rw[this]at hr
   exact hQ _ _ φ m σ hC hr
 |n+1,k,φ,m,σ,a,w,hk,hC,hr,hQ=>by
  have ab:k<ops.size:=by omega
  have hd:ops.toList.drop k=ops[k]::ops.toList.drop (k+1):=by
   rw[List.drop_eq_getElem_cons (by simpa using ab)];simp
  rw[hd]at hr
  obtain⟨h1,h2⟩:=hr
  rw[List.range'_succ,wpOpsIn_cons]
  exact AB hΓ hC (Array.getElem?_eq_getElem ab) h1 fun a' w' φ' m' cm=>F9 hΓ n (k+1) (by omega) cm h2 hQ
def CW(P:Program)(c:Code)(σ:S)(K:Exit->S->Prop):Prop:=
 ∀ (G:Ghost) (φ:Name->Loc) (m:Mem) (a:Act) (w:World),aN G φ m σ a w->c.wpIn (fz G.rd) 0 P (fun e a' w'=>∃ φ' m' σ',aN G φ' m' σ' a' w'/\K e σ') a w
def jb(k:S->Prop)(K:Exit->S->Prop):Exit->S->Prop
 | .normal,σ=>k σ
 |e,σ=>K e σ
def p7(id:Nat)(K:Exit->S->Prop):Exit->S->Prop
 | .exit kC,σ=>if kC=id then K .normal σ else K (.exit kC) σ
 |e,σ=>K e σ
theorem CW.mono{P:Program}{c:Code}{σ:S}{K K':Exit->S->Prop}(h:CW P c σ K)(hk:∀ e σ',K e σ'->K' e σ'):CW P c σ K':=
 fun G φ m a w hC=>wpIn_mono (h G φ m a w hC) fun e a' w' ⟨φ',m',σ',h1,h2⟩=>⟨φ',m',σ',h1,hk _ _ h2⟩
theorem zq{P:Program}{x y:Code}{σ:S}{K:Exit->S->Prop}(h:CW P x σ (jb (fun σ'=>CW P y σ' K) K)):CW P (.seq x y) σ K:=by
 intro G φ m a w hC
 refine wpIn_seq (wpIn_mono (h G φ m a w hC) ?_)
 rintro e a' w' ⟨φ',m',σ',h1,h2⟩
 cases e with
 |normal=>exact h2 G φ' m' a' w' h1
 |_=>exact⟨φ',m',σ',h1,h2⟩
theorem LZ{P:Program}{σ:S}{K:Exit->S->Prop}(h:K .normal σ):CW P .skip σ K:=
 fun G φ m a w hC=>wpIn_skip ⟨φ,m,σ,hC,h⟩
theorem L6{P:Program}{id:Nat}{σ:S}{K:Exit->S->Prop}(h:K (.exit id) σ):CW P (.exit id) σ K:=
 fun G φ m a w hC=>wpIn_exit ⟨φ,m,σ,hC,h⟩
theorem L0{P:Program}{σ:S}{K:Exit->S->Prop}(h:K .ret σ):CW P .ret σ K:=
 fun G φ m a w hC=>wpIn_ret ⟨φ,m,σ,hC,h⟩
theorem Xw{P:Program}{l:Nat}{σ:S}{K:Exit->S->Prop}(h:K .normal σ):CW P (.label l) σ K:=
 fun G φ m a w hC=>wpIn_label ⟨φ,m,σ,hC,h⟩
section
variable {P:Program} {b:Frame} {a:Act} {k:List Item} {cs:List Frame} {w:World}
theorem sp{c:Code}:step P (lone (b.atR a (.code (.scope c)::k)) cs w)=.next (lone (b.atR a (.code c:: .inScope c::k)) cs w):=
 step_lone_go (by simp[stepG,stepG.exec,Frame.atR])
theorem Oj{c:Code}:step P (lone (b.atR a (.inScope c::k)) cs w)=.next (lone (b.atR a k) cs w):=
 step_lone_go (by simp[stepG,stepG.exec,Frame.atR])
end
theorem Xv{P:Program}{c:Code}{σ:S}{K:Exit->S->Prop}(UZ:∀ l σ',¬ K (.goto l) σ')(h:CW P c σ K):CW P (.scope c) σ K:=by
 intro G φ m a w hC b k cs cU hb hr
 have h0:(lone (b.atR a (.code (.scope c)::k)) cs w).fenced P (fz G.rd):=fenced_calm hb hr rfl
 obtain⟨e,a₁,w₁,⟨φ',m',σ',h1,h2⟩,gJ⟩:=h G φ m a w hC b (.inScope c::k) cs cU hb hr
 cases e with
 |normal=>exact⟨.normal,a₁,w₁,⟨φ',m',σ',h1,h2⟩,.head h0 sp (StepsIn.trans gJ (.one (fenced_calm hb hr rfl) Oj))⟩
 |exit id=>
  have hx:exitTo id (.inScope c::k)=exitTo id k:=by simp[exitTo]
  exact⟨.exit id,a₁,w₁,⟨φ',m',σ',h1,h2⟩,fun k' hk=>.head h0 sp (gJ.1 k' (by rw[hx];exact hk)),
   fun pH hk=>let ⟨k₁,h1,h2⟩:=gJ.2 pH (by rw[hx];exact hk);⟨k₁,h1,.head h0 sp h2⟩⟩
 |goto l=>exact(UZ l σ' h2).elim
 |ret=>exact⟨_,a₁,w₁,⟨φ',m',σ',h1,h2⟩,.of_steps (.one h0 sp) gJ⟩
 |panic ch=>exact⟨_,a₁,w₁,⟨φ',m',σ',h1,h2⟩,.of_steps (.one h0 sp) gJ⟩
 |outgrown=>exact⟨_,a₁,w₁,⟨φ',m',σ',h1,h2⟩,.of_steps (.one h0 sp) gJ⟩
theorem DZ{P:Program}{c:Operand}{x y:Code}{σ:S}{K:Exit->S->Prop}{b:Bool}(hc:cJ σ c=true)(hd:av σ c=.v (.bool b))
 (ht:b=true->CW P x σ K) (hf:b=false->CW P y σ K):CW P (.cond c x y) σ K:=by
 intro G φ m a w hC
 have hr:=ck hC hc
 rw[hd]at hr
 have he:a.eval c=.bool b:=by
  generalize a.eval c=u at hr
  cases hr with | v _ _ hr=>cases hr;rfl
 exact wpIn_cond_split he (fun e=>ht e G φ m a w hC) (fun e=>hf e G φ m a w hC)
theorem wi{P:Program}{id:Nat}{c:Code}{σ:S}{K:Exit->S->Prop}(h:CW P c σ (p7 id K)):CW P (.block id c) σ K:=by
 intro G φ m a w hC
 refine wpIn_block (wpIn_mono (h G φ m a w hC) ?_)
 rintro e a' w' ⟨φ',m',σ',h1,h2⟩
 cases e with
 |exit kC=>
  simp only[Exit.inBlock]
  simp only[p7]at h2
  split<;>rename_i qY
  ·rw[if_pos qY]at h2;exact⟨φ',m',σ',h1,h2⟩
  ·rw[if_neg qY]at h2;exact⟨φ',m',σ',h1,h2⟩
 |_=>exact⟨φ',m',σ',h1,h2⟩
def dN(σ σ':S):Prop:=
 ∀ (G:Ghost) (φ:Name->Loc) (m:Mem) (a:Act) (w:World),aN G φ m σ a w->∃ φ',aN G φ' m σ' a w
theorem tQ{P:Program}{c:Code}{σ σ':S}{K:Exit->S->Prop}(hw:dN σ σ')(h:CW P c σ' K):CW P c σ K:=by
 intro G φ m a w hC
 obtain⟨φ',cm⟩:=hw G φ m a w hC
 exact h G φ' m a w cm
theorem L5{P:Program}{c:Code}{σ:S}{K:Exit->S->Prop}{ι:Type}(I:ι->S)(R:ι->Prop)(μ:ι->Nat)(i0:ι)(hR:R i0)(h0:dN σ (I i0))
 (round:∀ i,R i->CW P c (I i) (jb (fun σ'=>∃ i',R i'/\μ i'<μ i/\dN σ' (I i')) K)):CW P (.loop c) σ K:=by
 intro G φ m a w hC
 obtain⟨φ0,WB⟩:=h0 G φ m a w hC
 intro b k cs cU hb hr
 have key:∀ n i,μ i=n->R i->∀ φ m a w,aN G φ m (I i) a w->
     ∃ e a' w',(∃ φ' m' σ',aN G φ' m' σ' a' w'/\K e σ')/\ArrivesIn (Machine.fenced P (fz G.rd)) P (lone (b.atR a (.code c:: .inLoop c::k)) cs w) b k cs e a' w':=by
  intro n
  induction n using Nat.strongRecOn with
  |_ n ih=>
   intro i hn hi φ m a w hC
   obtain⟨e,a₁,w₁,hq,gJ⟩:=round i hi G φ m a w hC b (.inLoop c::k) cs cU hb hr
   obtain⟨φ',m',σ',h1,h2⟩:=hq
   cases e with
   |normal=>
    obtain⟨i',bC,ab,hw⟩:=h2
    obtain⟨sb,WC⟩:=hw G φ' m' a₁ w₁ h1
    obtain⟨e₂,a₂,w₂,UR,Wb⟩:=ih (μ i') (hn▸ab) i' rfl bC sb m' a₁ w₁ WC
    exact⟨e₂,a₂,w₂,UR,.of_steps (StepsIn.trans gJ (.one (fenced_calm hb hr rfl) stepR_inLoop)) Wb⟩
   |exit id=>exact⟨_,a₁,w₁,⟨φ',m',σ',h1,h2⟩,.pass (x:=.inLoop c) rfl (fun _ _=>.inl (by simp)) gJ⟩
   |goto l=>exact⟨_,a₁,w₁,⟨φ',m',σ',h1,h2⟩,.pass (x:=.inLoop c) rfl (fun _ _=>.inl (by simp)) gJ⟩
   |ret=>exact⟨_,a₁,w₁,⟨φ',m',σ',h1,h2⟩,.pass (x:=.inLoop c) rfl (fun _ _=>.inl (by simp)) gJ⟩
   |panic ch=>exact⟨_,a₁,w₁,⟨φ',m',σ',h1,h2⟩,.pass (x:=.inLoop c) rfl (fun _ _=>.inl (by simp)) gJ⟩
   |outgrown=>exact⟨_,a₁,w₁,⟨φ',m',σ',h1,h2⟩,.pass (x:=.inLoop c) rfl (fun _ _=>.inl (by simp)) gJ⟩
 obtain⟨e,a',w',hq,gJ⟩:=key _ i0 rfl hR φ0 m a w WB
 exact⟨e,a',w',hq,.of_steps (.one (fenced_calm hb hr rfl) stepR_loop) gJ⟩
theorem DW{P:Program}{Γ:FuncId->Option Spec}(hΓ:∀ f s,Γ f=some s->aM P f s){id:Nat}{l:List Oper}{σ:S}{K:Exit->S->Prop}
 (h:∀ K':S->Prop,(∀ σ',K .normal σ'->K' σ')->oZ P Γ l.toArray l σ K'):CW P (.region id l.toArray false) σ K:=by
 intro G φ m a w hC
 refine wpIn_region ?_
 rw[List.range_eq_range']
 refine F9 hΓ (ops:=l.toArray) l.toArray.size 0 (by simp) hC (K:=K .normal) (by simpa using h (K .normal) fun _ h=>h) fun a' w' φ' m' σ' cm hK=>⟨φ',m',σ',cm,hK⟩
mutual
def D.clos(dom:Name->Bool):D->Bool
 | .ref nm _=>dom nm
 | .msl nm _=>dom nm
 | .aref nm _ _ _=>dom nm
 | .map nm=>dom nm
 | .yld nm=>dom nm
 | .clo _ f c=>D.closL dom f&&D.closL dom c
 | .agg l=>D.closL dom l
 | .tup l=>D.closL dom l
 |_=>true
def D.closL(dom:Name->Bool):List D->Bool
 |[]=>true
 |d::r=>D.clos dom d&&D.closL dom r
end
theorem ig{dom:Name->Bool}:∀ {l:List D} {i:Nat} (h:i<l.length),D.closL dom l=true->D.clos dom l[i]=true
 |d::r,0,_,hc=>by simp only[D.closL,Bool.and_eq_true]at hc;exact hc.1
 |d::r,i+1,h,hc=>by simp only[D.closL,Bool.and_eq_true]at hc;exact ig (l:=r) (by simpa using h) hc.2
theorem aD.drop{φ:Name->Loc}{obj obj':Name->Option O}{m:Mem}{dom:Name->Bool}(ho:∀ nm,dom nm=true->obj' nm=obj nm){d:D}{u:Value}(h:aD φ obj m d u)
 (hc:D.clos dom d=true):aD φ obj' m d u:=by
 induction h with
 |any u=>exact .any u
 |v x u h=>exact .v x u h
 |nilsl a=>exact .nilsl a
 |nilmap=>exact .nilmap
 |ref nm off h=>simp only[D.clos]at hc;exact .ref nm off (by unfold qB;rw[ho _ hc];exact h)
 |map nm h=>simp only[D.clos]at hc;exact .map nm (by unfold qB;rw[ho _ hc];exact h)
 |yld nm h=>simp only[D.clos]at hc;exact .yld nm (by unfold qB;rw[ho _ hc];exact h)
 |msl nm k u h hu=>simp only[D.clos]at hc;exact .msl nm k u (by rw[ho _ hc];exact h) hu
 |aref nm k i off u h hu=>simp only[D.clos]at hc;exact .aref nm k i off u (by rw[ho _ hc];exact h) hu
 |clo fn fs cs us vs h1 h2 dw ft oA oz=>
  simp only[D.clos,Bool.and_eq_true]at hc
  exact .clo fn fs cs us vs h1 h2 (fun i a b=>oA i a b (ig a hc.1)) fun i a b=>oz i a b (ig a hc.2)
 |agg l us h cO hr ih=>simp only[D.clos]at hc;exact .agg l us h cO fun i a b=>ih i a b (ig a hc)
 |tup l us h hr ih=>simp only[D.clos]at hc;exact .tup l us h fun i a b=>ih i a b (ig a hc)
def O.clos(dom:Name->Bool):O->Bool
 | .box cs=>D.closL dom cs
 | .loop env _ _ _ _ _=>D.closL dom (env.map (·.d))
 |_=>true
mutual
theorem clos_imp{dom dom':Name->Bool}(hd:∀ nm,dom nm=true->dom' nm=true):∀ d:D,D.clos dom d=true->D.clos dom' d=true
 | .ref nm _,hc=>hd nm hc
 | .msl nm _,hc=>hd nm hc
 | .aref nm _ _ _,hc=>hd nm hc
 | .map nm,hc=>hd nm hc
 | .yld nm,hc=>hd nm hc
 | .clo _ f c,hc=>by
   simp only[D.clos,Bool.and_eq_true]at hc |-
   exact⟨rL hd f hc.1,rL hd c hc.2⟩
 | .agg l,hc=>by simp only[D.clos]at hc |-;exact rL hd l hc
 | .tup l,hc=>by simp only[D.clos]at hc |-;exact rL hd l hc
 | .v _,_=>by simp only[D.clos]
 | .nilsl,_=>by simp only[D.clos]
 | .nilmap,_=>by simp only[D.clos]
 | .any,_=>by simp only[D.clos]
theorem rL{dom dom':Name->Bool}(hd:∀ nm,dom nm=true->dom' nm=true):∀ l:List D,D.closL dom l=true->D.closL dom' l=true
 |[],_=>by simp only[D.closL]
 |d::r,hc=>by
  simp only[D.closL,Bool.and_eq_true]at hc |-
  exact⟨clos_imp hd d hc.1,rL hd r hc.2⟩
end
theorem O.clos_imp{dom dom':Name->Bool}(hd:∀ nm,dom nm=true->dom' nm=true){o:O}(h:O.clos dom o=true):O.clos dom' o=true:=by
 cases o with
 |box cs=>exact rL hd cs h
 |loop env=>exact rL hd _ h
 |_=>rfl
def eAny:E:=⟨true,.any⟩
def bc(nt:Nat)(p:Name)(H:Name->Option O)(l:List (Nat×E))(h:List (Name×O)):S:=
 ⟨nt,dE eAny l,fun nm=>if own p nm=true then dE none (h.map fun q=>(q.1,some q.2)) nm else H nm,p,0⟩
def bU(p:Name)(h:List (Name×O))(nm:Name):Bool:=!own p nm||h.any fun q=>q.1==nm
def b7(p:Name)(dom:Name->Bool)(H:Name->Option O):Prop:=∀ nm o,own p nm=false->H nm=some o->O.clos dom o=true
structure Fits (σ:S) (p:Name) (H:Name->Option O) (l:List (Nat×E)) (h:List (Name×O)):Prop where
 pre:σ.pre=p
 out:∀ nm,own p nm=false->σ.obj nm=H nm
 env:∀ q∈l,σ.env q.1=q.2
 obj:∀ q∈h,σ.obj q.1=some q.2
 envc:(l.all fun q=>D.clos (bU p h) q.2.d)=true
 objc:(h.all fun q=>O.clos (bU p h) q.2)=true
 outc:b7 p (bU p h) H
theorem sN{α β:Type}[DecidableEq α]{z:β}:∀ (l:List (α×β)) (x:α),dE z l x=z\/(x,dE z l x)∈l
 |[],x=>.inl rfl
 |(a,b)::r,x=>by
  simp only[dE]
  split
  ·rename_i h;subst h;exact .inr (by simp)
  ·rcases sN r x with h | h
   ·exact .inl h
   ·exact .inr (List.mem_cons_of_mem _ h)
theorem Fits.dom{σ:S}{p:Name}{H:Name->Option O}{l:List (Nat×E)}{h:List (Name×O)}(hf:Fits σ p H l h):∀ nm,bU p h nm=true->(bc σ.nt p H l h).obj nm=σ.obj nm:=by
 intro nm hd
 simp only[bU,Bool.or_eq_true,Bool.not_eq_true',List.any_eq_true,beq_iff_eq]at hd
 cases ho:own p nm with
 |false=>
  simp only[bc,ho,Bool.false_eq_true,if_false]
  exact(hf.out nm ho).symm
 |true=>
 rw[ho]at hd
 simp only[Bool.true_eq_false,false_or]at hd
 obtain⟨q,hq,rfl⟩:=hd
 rw[hf.obj q hq]
 simp only[bc,ho,if_true]
 have key:∀ (h':List (Name×O)),(∀ r∈h',r∈h)->q∈h'->dE none (h'.map fun q=>(q.1,some q.2)) q.1=some q.2:=by
  intro h' hs JZ
  induction h' with
  |nil=>simp at JZ
  |cons r rs ih=>
   simp only[List.map_cons,dE]
   split
   ·rename_i e
    have h1:=hf.obj r (hs r (by simp))
    have h2:=hf.obj q hq
    rw[<-e]at h1
    rw[h1]at h2
    exact h2
   ·rename_i e
    rcases List.mem_cons.1 JZ with h1 | h1
    ·subst h1;exact(e rfl).elim
    ·exact ih (fun r hr=>hs r (by simp[hr])) h1
 exact key h (fun _ h=>h) hq
theorem Fits.conc{σ:S}{p:Name}{H:Name->Option O}{l:List (Nat×E)}{h:List (Name×O)}(hf:Fits σ p H l h){G:Ghost}{φ:Name->Loc}{m:Mem}{a:Act}{w:World}(hC:aN G φ m σ a w):
 aN G φ m (bc σ.nt p H l h) a w:=by
 have vH:∀ nm o,(bc σ.nt p H l h).obj nm=some o->σ.obj nm=some o/\O.clos (bU p h) o=true:=by
  intro nm o hn
  simp only[bc]at hn
  split at hn
  ·rcases sN (z:=(none:Option O)) (h.map fun q=>(q.1,some q.2)) nm with h1 | h1
   ·rw[h1]at hn;cases hn
   ·rw[hn]at h1
    simp only[List.mem_map,Prod.mk.injEq,Option.some.injEq]at h1
    obtain⟨q,hq,h2,h3⟩:=h1
    have :=hf.obj q hq
    rw[h2,h3]at this
    have h5:=List.all_eq_true.1 hf.objc q hq
    rw[h3]at h5
    exact⟨this,h5⟩
  ·rename_i ho
   have cO:own p nm=false:=by simpa using ho
   exact⟨(hf.out nm cO).trans hn,hf.outc nm o cO hn⟩
 have pP:=hf.dom
 have yE:∀ nm,holds φ (bc σ.nt p H l h).obj nm->holds φ σ.obj nm:=fun nm ⟨o,h1,h2,h3⟩=>⟨o,(vH nm o h1).1,h2,h3⟩
 constructor
 ·intro t
  rcases sN (z:=eAny) l t with h1 | h1
  ·show cl φ _ m (dE eAny l t) _
   rw[h1];unfold cl eAny;simp;exact .any _
  ·show cl φ _ m (dE eAny l t) _
   have h2:=hf.env _ h1
   have h3:=List.all_eq_true.1 hf.envc _ h1
   have h4:=hC.tmps t
   simp only at h2 h3
   rw[h2]at h4
   unfold cl at h4 |-
   split
   ·rename_i hc
    rw[if_pos hc]at h4
    exact h4.drop pP h3
   ·rename_i hc
    rw[if_neg hc]at h4;exact h4
 ·exact hC.size
 ·exact hC.defers
 ·intro nm o hn
  obtain⟨h1,h4⟩:=vH nm o hn
  have h3:=hC.objs nm o h1
  cases o with
  |box cs=>
   obtain⟨g0,g1,g2,us,T,f,g3,g4,g5,g6⟩:=h3
   simp only[O.clos]at h4
   exact⟨g0,g1,g2,us,T,f,g3,g4,g5,fun i a b=>(g6 i a b).drop pP (ig a h4)⟩
  |loop env ps asg body st bA=>
   obtain⟨g0,g1,r,g2,g3,g4,g5,g6,g7,g8,g9⟩:=h3
   simp only[O.clos]at h4
   refine⟨g0,g1,r,g2,g3,g4,g5,g6,g7,g8,fun i a=>?_⟩
   have yV:=g9 i a
   unfold cl at yV |-
   split
   ·rename_i hc
    rw[if_pos hc]at yV
    refine yV.drop pP ?_
    have :=ig (l:=env.map (·.d)) (i:=i) (by simpa using a) h4
    simpa using this
   ·rename_i hc
    rwa [if_neg hc]at yV
  |arr=>exact h3
  |map=>exact h3
  |fbox=>exact h3
  |farr=>exact h3
  |dead=>exact h3
 ·exact hC.mem
 ·exact fun nm hn=>hC.apart nm (yE nm hn)
 ·exact fun x y hx hy e=>hC.inj x y (yE x hx) (yE y hy) e
 ·exact fun nm hn=>hC.own nm (yE nm hn)
 ·exact hC.fr
 ·exact hC.fresh
 ·refine⟨fun nm o h5=>hC.kept.1 nm o h5 |> fun h6=>by rw[hf.pre]at h6;exact h6,fun nm o h5=>?_⟩
  obtain⟨o',h6,h7⟩:=hC.kept.2 nm o h5
  have h8:=hC.kept.1 nm o h5
  rw[hf.pre]at h8
  refine⟨o',?_,h7⟩
  simp only[bc,h8,Bool.false_eq_true,if_false]
  rw[<-hf.out nm h8]
  exact h6
theorem Fits.weak{σ:S}{p:Name}{H:Name->Option O}{l:List (Nat×E)}{h:List (Name×O)}(hf:Fits σ p H l h):dN σ (bc σ.nt p H l h):=
 fun _ φ _ _ _ hC=>⟨φ,hf.conc hC⟩
theorem NV{σ:S}(t:Nat)(nm:Name)(sz:Nat)(he:σ.env t=⟨true,.nilsl⟩)(hn:σ.obj nm=none):
 dN σ ⟨σ.nt,upd σ.env t ⟨true,.msl nm 0⟩,upd σ.obj nm (some (.arr sz [])),σ.pre,σ.base⟩:=by
 intro G φ m a w hC
 have ht:=hC.tmps t
 rw[he]at ht
 unfold cl at ht
 simp only[if_true]at ht
 generalize hu:a.tmps.getD t undef=u at ht
 cases ht with
 |nilsl b=>
 have hx:=Ext.new (φ:=φ) hn ⟨0,0,0,true,b⟩ (.arr sz [])
 have cm:=hC.chg (w':=w) nm (.arr sz []) ⟨0,0,0,true,b⟩ hx ⟨rfl,rfl,rfl,Nat.le_refl _⟩ (fun _ _ _=>rfl) (fun h=>by cases h) (.inl ⟨rfl,rfl⟩)
 refine⟨_,{ cm with tmps:=fun x=>?_ }⟩
 by_cases vw:x=t
 ·subst vw
  simp only[aQ]
  rw[hu]
  unfold cl
  simp only[if_true]
  refine .msl _ _ _ ⟨_,_,aQ _ _ _,rfl,by simp,fun _=>?_⟩ rfl
  rw[aQ];rfl
 ·have:=cm.tmps x
  simp only[aZ _ _ _ vw]
  exact this
def l5(P:Program)(σ:S):ResultVar->R
 | .tmp t=>⟨(σ.env t).c=true,(σ.env t).d,σ.obj⟩
 | .cell a T=>⟨(σ.env a).c=true/\(match (σ.env a).d with | .ref _ _=>True | .v (.ptr _)=>True | _=>False)/\(i6 P σ.obj T (σ.env a).d).ok,(i6 P σ.obj T (σ.env a).d).d,σ.obj⟩
def bL(P:Program)(σ:S)(rs:List ResultVar):R:=
 match rs with
 |[r]=>l5 P σ r
 |rs=>⟨∀ r∈rs,(l5 P σ r).ok,.tup (rs.map fun r=>(l5 P σ r).d),σ.obj⟩
def lf(P:Program)(rs:List ResultVar)(y:V):Exit->S->Prop
 | .normal,σ=>(bL P σ rs).ok/\(aJ 6 σ.obj (bL P σ rs).d).ok/\(aJ 6 σ.obj (bL P σ rs).d).x=y
 | .ret,σ=>(bL P σ rs).ok/\(aJ 6 σ.obj (bL P σ rs).d).ok/\(aJ 6 σ.obj (bL P σ rs).d).x=y
 |_,_=>False
def ff:Nat->List V->List (Nat×E)
 |_,[]=>[]
 |k,x::r=>(k,⟨true,.v x⟩)::ff (k+1) r
theorem Ew:∀ {k:Nat} {xs:List V} {t:Nat} {e:E},(t,e)∈ff k xs->∃ (i:Nat) (h:i<xs.length),t=k+i/\e=⟨true,.v xs[i]⟩
 |k,[],t,e,h=>by simp[ff]at h
 |k,x::r,t,e,h=>by
  simp only[ff,List.mem_cons,Prod.mk.injEq]at h
  rcases h with⟨rfl,rfl⟩ | h
  ·exact⟨0,by simp,rfl,rfl⟩
  ·obtain⟨i,hi,h1,h2⟩:=Ew h
   exact⟨i+1,by simpa using hi,by omega,by simpa using h2⟩
def sF(tmps:Array Value):ResultVar->Sem Value
 | .tmp t=>pure (tmps.getD t undef)
 | .cell b T=>do loadVar T (<-asAddr (tmps.getD b undef))
theorem Qp(fn:Func)(tmps:Array Value):results fn tmps=(do
 let vs <-fn.results.mapM (sF tmps)
 pure (if h:vs.size=1 then vs[0]else .tuple vs)):=by
 unfold results
 have e:(fun r:ResultVar=>(match r with
     | .tmp t=>pure (tmps.getD t undef)
     | .cell a t=>do loadVar t (<-asAddr (tmps.getD a undef)):Sem Value))=sF tmps:=by
  funext r
  cases r<;>rfl
 rw[<-e]
 rfl
theorem Qr{P:Program}{G:Ghost}{φ:Name->Loc}{m:Mem}{σ:S}{a:Act}{w:World}(hC:aN G φ m σ a w)(r:ResultVar)(aa:(l5 P σ r).ok):
 ∃ v,(sF a.tmps r).run P w=.ok v w/\aD φ σ.obj m (l5 P σ r).d v:=by
 cases r with
 |tmp t=>
  have :=hC.tmps t
  unfold cl at this
  simp only[l5]at aa
  rw[if_pos aa]at this
  exact⟨_,rfl,this⟩
 |cell b T=>
  simp only[l5]at aa |-
  obtain⟨h1,h2,h3⟩:=aa
  have ht:=hC.tmps b
  unfold cl at ht
  rw[if_pos h1]at ht
  have mr:sF a.tmps (.cell b T)=(do loadVar T (<-asAddr (a.tmps.getD b undef))):=rfl
  rw[mr]
  generalize a.tmps.getD b undef=u at *
  obtain⟨v,h4,h5,_⟩:=FK hC ht h3
  refine⟨v,?_,h5⟩
  generalize (σ.env b).d=d at *
  cases ht with
  |ref=>simpa[Instr.loadAt,Instr.sureAddr,asAddr]using h4
  |v _ _ hv=>
   cases hv with
   |ptr=>simpa[Instr.loadAt,Instr.sureAddr,asAddr]using h4
   |_=>exact h2.elim
  |_=>exact h2.elim
theorem F4{P:Program}{G:Ghost}{φ:Name->Loc}{m:Mem}{σ:S}{a:Act}{w:World}(hC:aN G φ m σ a w)(fn:Func)(aa:(bL P σ fn.results.toList).ok):
 ∃ v,(results fn a.tmps).run P w=.ok v w/\aD φ σ.obj m (bL P σ fn.results.toList).d v:=by
 have J':∀ (rs:List ResultVar),(∀ r∈rs,(l5 P σ r).ok)->
     ∃ vs:List Value,(rs.mapM (sF a.tmps)).run P w=.ok vs w/\vs.length=rs.length/\
       ∀ i (h:i<rs.length) (h':i<vs.length),aD φ σ.obj m (l5 P σ rs[i]).d vs[i]:=by
  intro rs
  induction rs with
  |nil=>intro _;exact⟨[],rfl,rfl,fun i h=>by simp at h⟩
  |cons r rs ih=>
   intro h
   obtain⟨v,h1,h2⟩:=Qr hC r (h r (by simp))
   obtain⟨vs,h3,h4,h5⟩:=ih (fun r hr=>h r (by simp[hr]))
   refine⟨v::vs,?_,by simp[h4],fun i hi bC=>?_⟩
   ·simp only[List.mapM_cons,Sem.run_bind]
    rw[h1]
    simp only[Result.andThen_ok]
    rw[h3]
    rfl
   ·cases i with
    |zero=>exact h2
    |succ i=>exact h5 i (by simpa using hi) (by simpa using bC)
 have yi:∀ vs:List Value,(fn.results.toList.mapM (sF a.tmps)).run P w=.ok vs w->
     (results fn a.tmps).run P w=.ok (if h:vs.toArray.size=1 then vs.toArray[0]else .tuple vs.toArray) w:=by
  intro vs h
  rw[Qp,Array.mapM_eq_mapM_toList]
  simp only[Sem.run_bind,Sem.run_map]
  rw[h]
  rfl
 generalize bQ:fn.results.toList=rs at *
 unfold bL at aa |-
 split at aa
 ·rename_i r
  obtain⟨vs,h1,h2,h3⟩:=J' [r] (fun q hq=>by simp at hq;subst hq;exact aa)
  match vs,h2 with
  |[v],_=>exact⟨v,by simpa using yi [v] h1,h3 0 (by simp) (by simp)⟩
 ·rename_i aG
  obtain⟨vs,h1,h2,h3⟩:=J' rs aa
  refine⟨.tuple vs.toArray,?_,?_⟩
  ·have:=yi vs h1
   rw[dif_neg (by
    simp only[List.size_toArray]
    intro e
    match rs,(h2▸e:rs.length=1)with
    |[r],_=>exact aG r rfl)]at this
   exact this
  ·refine .tup _ _ (by simp[h2]) fun i a b=>?_
   simp only[List.getElem_map,List.getElem_toArray]
   exact h3 i (by simpa using a) (by simpa using b)
mutual
def V.wf:V->Prop
 | .sl l=>l.length<=maxLen/\V.wfL l
 | .agg l=>V.wfL l
 | .tup l=>V.wfL l
 | .ptr l=>V.wfL l
 | .clo _ f c=>V.wfL f/\V.wfL c
 | .str s=>s.size<=maxLen
 |_=>True
def V.wfL:List V->Prop
 |[]=>True
 |x::r=>V.wf x/\V.wfL r
end
theorem nW:∀ {l:List V},(∀ i (h:i<l.length),V.wf l[i])->V.wfL l
 |[],_=>trivial
 |x::r,h=>⟨h 0 (by simp),nW fun i hi=>h (i+1) (by simpa using hi)⟩
theorem NR{x:V}(h:∀ j (h:j<x.cells.length),V.wf x.cells[j]):V.wf x:=by
 cases x with
 |agg l=>exact nW h
 |_=>exact h 0 (by simp[V.cells])
theorem NQ{m:Mem}{x:V}{u:Value}(h:aL m x u):V.wf x:=by
 induction h with
 |int=>trivial
 |bool=>trivial
 |str s h=>exact h
 |slnil=>exact⟨Nat.zero_le _,trivial⟩
 |sl l b o cap sz c hn hl iU hs hc hr ho ih=>exact⟨hl,nW fun i hi=>NR fun j hj=>ih i j hi hj⟩
 |agg l us h ho hr ih=>exact nW fun i hi=>ih i hi (by omega)
 |tup l us h hr ih=>exact nW fun i hi=>ih i hi (by omega)
 |ptr cs b o c ho hc hr ih=>exact nW fun i hi=>ih i hi
 |nilp=>trivial
 |clo fn fs cs us vs h1 h2 dw ft oA oz=>exact⟨nW fun i hi=>oA i hi (by omega),nW fun i hi=>oz i hi (by omega)⟩
 |nilfn=>trivial
theorem NS{m:Mem}{xs:List V}{us:List Value}(h:rZ m xs us):V.wfL xs:=nW fun i hi=>NQ (h.2 i hi (by have:=h.1;omega))
theorem aN.take{G:Ghost}{φ:Name->Loc}{m:Mem}{σ:S}{a:Act}{w:World}{D:Nat}{ds:List Deferred}(hC:aN G φ m σ a w)(ha:a.defers={ target:=.collected D,args:= #[] }::ds):
 w.heap[D]?=some (.deferred (some []))/\aN G φ m σ { a with defers:=ds } (w.putObj D (.deferred none)):=by
 obtain⟨l,h1,h2,h3⟩:=hC.defers
 rw[ha]at h1
 cases l with
 |nil=>cases h1
 |cons D' l=>
  simp only[List.map_cons,List.cons.injEq,Deferred.mk.injEq,Target.collected.injEq,and_true]at h1
  obtain⟨rfl,rfl⟩:=h1
  obtain⟨h5,h6⟩:=h3 D (by simp)
  have hb:∀ b,b≠D->(w.putObj D (.deferred none)).heap[b]?=w.heap[b]?:=fun b hb=>World.putObj_heap_other hb
  have ab:=(Array.getElem?_eq_some_iff.1 h6).1
  refine⟨h6,?_⟩
  constructor
  ·exact hC.tmps
  ·exact hC.size
  ·refine⟨l,rfl,(List.nodup_cons.1 h2).2,fun E hE=>⟨(h3 E (by simp[hE])).1,?_⟩⟩
   rw[hb E (fun e=>(List.nodup_cons.1 h2).1 (e▸hE))]
   exact(h3 E (by simp[hE])).2
  ·intro nm o ho
   refine(hC.objs nm o ho).ext (Mem.le_refl m) (Ext.refl _ _) fun hm hn=>hb _ fun e=>?_
   exact(hC.objs nm o ho).notDef hm hn _ (by rw[e];exact h6)
  ·intro b off v h
   have h7:=hC.mem b off v h
   rw[p6 (hb b (fun e=>by subst e;unfold World.cell? at h7;simp[h6]at h7))]
   exact h7
  ·exact hC.apart
  ·exact hC.inj
  ·exact hC.own
  ·refine⟨hC.fr.os,hC.fr.tape,hC.fr.output,by simpa using hC.fr.size,fun b cP ho=>?_⟩
   rw[hb b (by omega)]
   exact hC.fr.block b cP ho
  ·exact hC.fresh
  ·exact hC.kept
theorem BQ{P:Program}{F:Fence}{n:Nat}{G:Ghost}{φ:Name->Loc}{m:Mem}{σ:S}{fn:Func}{R:Ending->World->Prop}:∀ (ds:List Deferred) {a:Act} {w:World} (_:a.defers=ds) (_:aN G φ m σ a w)
 (_:∀ a' w',a'.tmps=a.tmps->aN G φ m σ a' w'->∃ v,(results fn a'.tmps).run P w'=.ok v w'/\R (.returned v) w'),LeavesInM F n P fn a.tmps R a.defers .returning w
 |[],a,w,ha,hC,fin=>by
  obtain⟨v,h1,h2⟩:=fin a w rfl hC
  rw[ha]
  exact⟨v,h1,h2⟩
 |d::ds,a,w,ha,hC,fin=>by
  obtain⟨l,h1,h2,h3⟩:=hC.defers
  rw[ha]at h1
  cases l with
  |nil=>cases h1
  |cons D l=>
   simp only[List.map_cons,List.cons.injEq]at h1
   obtain⟨h4,h5⟩:=hC.take (D:=D) (ds:=ds) (by rw[ha,h1.1])
   have :=BQ ds (F:=F) (n:=n) (a:={ a with defers:=ds }) (w:=w.putObj D (.deferred none)) rfl h5 (fun a' w' e cm=>fin a' w' e cm)
   rw[ha]
   refine⟨by simp,.inl ⟨D,_,by rw[h1.1],run_takeDeferred h4,this⟩⟩
theorem Gx{P:Program}{f:FuncId}{fn:Func}{c:Code}{s:PSpec}{nt:Nat}{rs:List ResultVar}(hf:P.funcs[f]?=some fn)(hb:fn.body=some c)(ca:fn.ntmps=nt)(bQ:fn.results.toList=rs)(kJ:∀ args w,(callFunc f args).run P w=.ok (.enter f args) w)(aG:f≠yid)
 (dX:s.flat=true->∀ xs,s.pre xs->(s.fn xs).flat=true)
 (h:∀ xs,s.pre xs->V.wfL xs->xs.length<=nt/\CW P c (bc nt [0] (fun _=>none) (ff 0 xs) []) (lf P rs (s.fn xs))):aW P f s:=by
 subst ca
 subst bQ
 refine⟨aG,kJ,dX,fun m w xs args hm hx hp=>?_⟩
 obtain⟨hlen,mC⟩:=h xs hp (NS hx)
 have dv:xs.length=args.size:=by simpa using hx.1
 refine(callsIn_wide (n:=0)).1 (callsIn_of_wp_marks hf hb trivial ?_)
 have hC:aN ⟨w,m,fun _=>False,none,fun _=>⟨0,0,0,true,none⟩,fun _=>none,fun _ h=>by cases h⟩ (fun _=>⟨0,0,0,true,none⟩) m (bc fn.ntmps [0] (fun _=>none) (ff 0 xs) []) { tmps:=args++Array.replicate (fn.ntmps-args.size) undef,defers:=[] } w:=by
  constructor
  ·intro t
   show cl _ _ m (dE eAny (ff 0 xs) t) _
   rcases sN (z:=eAny) (ff 0 xs) t with h1 | h1
   ·rw[h1];unfold cl eAny;simp;exact .any _
   ·obtain⟨i,hi,h2,h3⟩:=Ew h1
    rw[h3]
    unfold cl
    simp only[if_true]
    have bC:i<args.size:=by omega
    have e:((args++Array.replicate (fn.ntmps-args.size) undef).getD t undef)=args[i]:=by
     have aq:0+i<(args++Array.replicate (fn.ntmps-args.size) undef).size:=by simp;omega
     rw[h2]
     simp only[Array.getD,aq,dite_true]
     show (args++Array.replicate (fn.ntmps-args.size) undef)[0+i]=args[i]
     simp only[Nat.zero_add]
     exact Array.getElem_append_left bC
    rw[e]
    exact .v _ _ (by have:=hx.2 i hi (by simpa using bC);rw[Array.getElem_toList]at this;exact this)
  ·show (args++Array.replicate (fn.ntmps-args.size) undef).size=fn.ntmps
   simp;omega
  ·exact⟨[],rfl,by simp,by simp⟩
  ·intro nm o h;simp[bc,dE]at h
  ·exact hm
  ·rintro nm ⟨o,h,_⟩;simp[bc,dE]at h
  ·rintro nm jJ ⟨o,h,_⟩;simp[bc,dE]at h
  ·rintro nm ⟨o,h,_⟩;simp[bc,dE]at h
  ·exact⟨rfl,rfl,rfl,Nat.le_refl _,fun _ _ _=>rfl⟩
  ·intro b off v h;exact .inl h
  ·exact⟨fun _ _ h=>(by cases h),fun _ _ h=>(by cases h)⟩
 refine wpIn_mono (mC _ _ m _ w hC) ?_
 rintro e a1 w1 ⟨φ',m',σ',gy,hK⟩
 have fin:(bL P σ' fn.results.toList).ok/\(aJ 6 σ'.obj (bL P σ' fn.results.toList).d).ok/\(aJ 6 σ'.obj (bL P σ' fn.results.toList).d).x=s.fn xs->
     LeavesInM Fence.wide 0 P fn a1.tmps (fun e w'=>∃ v m',e=.returned v/\RowKit.Below w.heap.size w w'/\Mem.le m m'/\
     (∀ b off c,m' b off=some c->m b off=some c\/(w.heap.size<=b/\w'.cell? ⟨b,off,none⟩=some c))/\aL m' (s.fn xs) v) a1.defers .returning w1:=by
  rintro⟨h1,h2,h3⟩
  refine BQ a1.defers rfl gy fun a' w' _ cm=>?_
  obtain⟨v,h4,h5⟩:=F4 cm fn h1
  obtain⟨m2,h6,h7,_,h8,_⟩:=oN 6 _ _ _ _ _ _ cm _ _ h5 h2
  refine⟨v,h4,v,fun b off=>match m2 b off with | some c=>some c | none=>m b off,rfl,?_,?_,?_,?_⟩
  ·exact⟨cm.fr.os,cm.fr.tape,cm.fr.output,cm.fr.size,fun k hk=>cm.fr.block k hk (fun h=>h)⟩
  ·intro b off c hc
   show (match m2 b off with | some c=>some c | none=>m b off)=some c
   cases gI:m2 b off with
   |none=>exact hc
   |some c'=>
    have k1:=h7.mem b off c' gI
    have k2:=hm b off c hc
    have ab:=nL k2
    rw[p6 (cm.fr.block b ab (fun h=>h))]at k1
    rw[k2]at k1
    exact k1.symm
  ·intro b off c hc
   have gZ:(match m2 b off with | some c=>some c | none=>m b off)=some c:=hc
   cases gI:m2 b off with
   |none=>rw[gI]at gZ;exact .inl gZ
   |some c'=>
    rw[gI]at gZ
    simp only[Option.some.injEq]at gZ
    subst gZ
    rcases h7.fresh b off c' gI with h | h | h
    ·exact .inl h
    ·exact .inr ⟨h,h7.mem b off c' gI⟩
    ·exact h.elim
  ·rw[<-h3]
   refine h8.mono fun b off c hc=>?_
   show (match m2 b off with | some c=>some c | none=>m b off)=some c
   rw[hc]
 cases e with
 |normal=>exact fin hK
 |ret=>exact fin hK
 |_=>exact hK.elim
theorem RD(n:Nat)(p:Name)(H:Name->Option O)(l:List (Nat×E))(h:List (Name×O)):(bc n p H l h).env=dE eAny l:=rfl
theorem Rz(n:Nat)(p:Name)(H:Name->Option O)(l:List (Nat×E))(h:List (Name×O)):(bc n p H l h).obj=fun nm=>if own p nm=true then dE none (h.map fun q=>(q.1,some q.2)) nm else H nm:=rfl
theorem RA(n:Nat)(p:Name)(H:Name->Option O)(l:List (Nat×E))(h:List (Name×O)):(bc n p H l h).nt=n:=rfl
theorem RE(n:Nat)(p:Name)(H:Name->Option O)(l:List (Nat×E))(h:List (Name×O)):(bc n p H l h).base=0:=rfl
theorem Ry(n:Nat)(p:Name)(H:Name->Option O)(l:List (Nat×E))(h:List (Name×O)):(bc n p H l h).pre=p:=rfl
theorem xI{n:Nat}{p:Name}{H H':Name->Option O}{l:List (Nat×E)}{h:List (Name×O)}(hh:∀ nm,own p nm=false->H nm=H' nm):bc n p H l h=bc n p H' l h:=by
 unfold bc
 congr 1
 funext nm
 cases ho:own p nm with
 |true=>rfl
 |false=>simp only[Bool.false_eq_true,if_false];exact hh nm ho
theorem RC(n:Nat)(p:Name)(F H:Name->Option O)(l:List (Nat×E))(h:List (Name×O)):bc n p (fun nm=>if own p nm=true then F nm else H nm) l h=bc n p H l h:=
 xI fun nm hn=>by simp[hn]
theorem Rx{n:Nat}{p:Name}{H:Name->Option O}{nm:Name}{o:Option O}{l:List (Nat×E)}{h:List (Name×O)}(ho:own p nm=true):bc n p (upd H nm o) l h=bc n p H l h:=
 xI fun x hx=>aZ _ _ _ (by rintro rfl;rw[ho]at hx;cases hx)
theorem Zx(p:Name)(dom:Name->Bool):b7 p dom (fun _=>none)=True:=eq_true fun nm o _ h=>by cases h
theorem Zz(p:Name)(dom:Name->Bool)(F H:Name->Option O):b7 p dom (fun nm=>if own p nm=true then F nm else H nm)=b7 p dom H:=by
 refine propext ⟨fun k nm o ho h=>k nm o ho (by simp[ho,h]),fun k nm o ho h=>k nm o ho ?_⟩
 simpa[ho]using h
theorem Zw{p:Name}{dom:Name->Bool}{H:Name->Option O}{nm:Name}{o:Option O}(ho:own p nm=true):b7 p dom (upd H nm o)=b7 p dom H:=by
 have e:∀ x,own p x=false->upd H nm o x=H x:=fun x hx=>aZ _ _ _ (by rintro rfl;rw[ho]at hx;cases hx)
 exact propext ⟨fun k x q hx h=>k x q hx (by rw[e x hx];exact h),fun k x q hx h=>k x q hx (by rw[<-e x hx];exact h)⟩
theorem r9{p:Name}{dom:Name->Bool}{H:Name->Option O}{nm:Name}{o:O}(h1:O.clos dom o=true)(h2:b7 p dom H):b7 p dom (upd H nm (some o)):=by
 intro x q hx h
 by_cases e:x=nm
 ·subst e;rw[aQ]at h;cases h;exact h1
 ·rw[aZ _ _ _ e]at h;exact h2 x q hx h
def gV(ks:List Nat)(ns:List Name)(σ:S):S:=
 bc σ.nt σ.pre σ.obj (ks.map fun t=>(t,σ.env t)) (ns.filterMap fun nm=>(σ.obj nm).map fun o=>(nm,o))
def gM(ks:List Nat)(ns:List Name)(σ:S):Prop:=
 (((ks.map fun t=>(t,σ.env t)).all fun q=>D.clos (bU σ.pre (ns.filterMap fun nm=>(σ.obj nm).map fun o=>(nm,o))) q.2.d)&&
 ((ns.filterMap fun nm=>(σ.obj nm).map fun o=>(nm,o)).all fun q=>O.clos (bU σ.pre (ns.filterMap fun nm=>(σ.obj nm).map fun o=>(nm,o))) q.2))=true/\
 b7 σ.pre (bU σ.pre (ns.filterMap fun nm=>(σ.obj nm).map fun o=>(nm,o))) σ.obj
theorem An{σ:S}(ks:List Nat)(ns:List Name)(h:gM ks ns σ):dN σ (gV ks ns σ):=by
 unfold gM at h
 simp only[Bool.and_eq_true]at h
 refine Fits.weak ⟨rfl,fun _ _=>rfl,fun p hp=>?_,fun p hp=>?_,h.1.1,h.1.2,h.2⟩
 ·simp only[List.mem_map]at hp
  obtain⟨t,_,rfl⟩:=hp
  rfl
 ·simp only[List.mem_filterMap,Option.map_eq_some_iff]at hp
  obtain⟨nm,_,o,h1,rfl⟩:=hp
  exact h1
theorem DX{P:Program}{c:Code}{σ:S}{K:Exit->S->Prop}(ks:List Nat)(ns:List Name)(h:gM ks ns σ)(hc:CW P c (gV ks ns σ) K):CW P c σ K:=
 tQ (An ks ns h) hc
def CL(P:Program):List Code->S->(Exit->S->Prop)->Prop
 |[],σ,K=>K .normal σ
 |c::r,σ,K=>CW P c σ (jb (fun σ'=>CL P r σ' K) K)
theorem iY{P:Program}{c:Code}{σ:S}{K:Exit->S->Prop}(h:CL P [c] σ K):CW P c σ K:=
 CW.mono h fun e σ' hk=>by cases e<;>exact hk
theorem cf{P:Program}{σ:S}{K:Exit->S->Prop}(h:K .normal σ):CL P [] σ K:=h
theorem ei{P:Program}{x y:Code}{r:List Code}{σ:S}{K:Exit->S->Prop}(h:CL P (x::y::r) σ K):CL P (.seq x y::r) σ K:=
 zq (CW.mono h fun e σ' hk=>by cases e<;>exact hk)
theorem aE{P:Program}{r:List Code}{σ:S}{K:Exit->S->Prop}(h:CL P r σ K):CL P (.skip::r) σ K:=LZ h
theorem bV{P:Program}{id:Nat}{r:List Code}{σ:S}{K:Exit->S->Prop}(h:K (.exit id) σ):CL P (.exit id::r) σ K:=L6 h
theorem aA{P:Program}{r:List Code}{σ:S}{K:Exit->S->Prop}(h:K .ret σ):CL P (.ret::r) σ K:=L0 h
theorem Mf{P:Program}{c:Operand}{x y:Code}{r:List Code}{σ:S}{K:Exit->S->Prop}{b:Bool}(hc:cJ σ c=true)(hd:av σ c=.v (.bool b))
 (ht:b=true->CL P (x::r) σ K) (hf:b=false->CL P (y::r) σ K):CL P (.cond c x y::r) σ K:=DZ hc hd ht hf
theorem aS{P:Program}{id:Nat}{c:Code}{r:List Code}{σ:S}{K:Exit->S->Prop}(h:CL P [c] σ (p7 id (jb (fun σ'=>CL P r σ' K) K))):CL P (.block id c::r) σ K:=
 wi (iY h)
theorem D7{P:Program}{c:Code}{r:List Code}{σ:S}{K:Exit->S->Prop}{ι:Type}(I:ι->S)(R:ι->Prop)(μ:ι->Nat)(i0:ι)(hR:R i0)(h0:dN σ (I i0))
 (round:∀ i,R i->CL P [c] (I i) (jb (fun σ'=>∃ i',R i'/\μ i'<μ i/\dN σ' (I i')) K)):CL P (.loop c::r) σ K:=
 L5 I R μ i0 hR h0 fun i hi=>CW.mono (iY (round i hi)) fun e σ' hk=>by cases e<;>exact hk
theorem zu{P:Program}{Γ:FuncId->Option Spec}(hΓ:∀ f s,Γ f=some s->aM P f s){id:Nat}{l:List Oper}{c:Code}{r:List Code}{σ:S}{K:Exit->S->Prop}(ks:List Nat)(ns:List Name)
 (h:∀ K':S->Prop,(∀ σ',gM ks ns σ'->CL P (c::r) (gV ks ns σ') K->K' σ')->oZ P Γ l.toArray l σ K'):CL P (.region id l.toArray false::c::r) σ K:=
 DW hΓ fun K' hK=>h K' fun σ' hc hy=>hK σ' (DX ks ns hc hy)
theorem aY{P:Program}{Γ:FuncId->Option Spec}(hΓ:∀ f s,Γ f=some s->aM P f s){id:Nat}{l:List Oper}{σ:S}{K:Exit->S->Prop}
 (h:∀ K':S->Prop,(∀ σ',K .normal σ'->K' σ')->oZ P Γ l.toArray l σ K'):CL P [.region id l.toArray false] σ K:=
 DW hΓ fun K' hK=>h K' fun σ' hc=>hK σ' hc
theorem Am{σ:S}(nt:Nat)(p:Name)(H:Name->Option O)(l:List (Nat×E))(h:List (Name×O))(hn:σ.nt=nt)(hp:σ.pre=p)(h0:∀ nm,own p nm=false->σ.obj nm=H nm)
 (h1:∀ q∈l,σ.env q.1=q.2) (h2:∀ q∈h,σ.obj q.1=some q.2)
 (h3:((l.all fun q=>D.clos (bU p h) q.2.d)&&(h.all fun q=>O.clos (bU p h) q.2))=true) (h4:b7 p (bU p h) H):dN σ (bc nt p H l h):=by
 subst hn
 simp only[Bool.and_eq_true]at h3
 exact Fits.weak ⟨hp,h0,h1,h2,h3.1,h3.2,h4⟩
theorem YR(obj:Name->Option O)(b p q:Bool):i5 obj (.v (.bool b)) (.v (.bool p)) (.v (.bool q))=⟨True,.v (.bool (if b=true then p else q)),obj⟩:=rfl
theorem YQ(obj:Name->Option O)(x y:D):i5 obj (.v (.bool false)) x y=⟨True,y,obj⟩:=by
 unfold i5
 simp only
 congr 1
 split
 ·simp_all
 ·rfl
theorem YO(obj:Name->Option O)(x y:D):i5 obj (.v (.bool true)) x y=⟨True,x,obj⟩:=by
 unfold i5
 simp only
 congr 1
 split
 ·simp_all
 ·rfl
attribute [go_sem] YR YQ YO
attribute [go_sem] Array.toList_append List.length_map List.forall_mem_cons List.not_mem_nil false_implies implies_true oZ ko bg nB et nA DL zd m8 a8 av cJ iA sO Op.operands Call.operands RD Rz RA Ry RE Nat.zero_add RC Rx Zx Zz Zw own lf ff dE N5 gV gM eAny jb p7 i6 lS mO lR nO ka kb mN lK lP M1 mM mL jB lT oY xR kU lN kT lM lL jC lO rU lQ ke dM R.bad bb D.boxable D.cells D.one V.cells V.one V.okc O.len? D.clos D.closL O.clos bU wv zL tX wo dS rR tY aI aJ bm ga jT jg rC eA dL eY dR Value.cells bL l5 List.map_cons List.map_nil List.all_cons List.all_nil List.any_cons List.any_nil List.filterMap_cons List.filterMap_nil Option.map_some Option.map_none Option.bind_some Option.bind_none Option.isSome_some Option.isSome_none Option.getD_some Option.getD_none Bool.and_true Bool.true_and Bool.and_false Bool.false_and Bool.or_true Bool.true_or Bool.or_false Bool.false_or Bool.not_true Bool.not_false List.cons.injEq true_and and_true if_true if_false Bool.false_eq_true forall_const true_implies List.length_cons List.length_nil List.getD_cons_zero List.getD_cons_succ List.drop_zero List.drop_succ_cons List.take_succ_cons List.take_zero List.nil_append List.cons_append beq_self_eq_true Prod.mk.injEq and_self
theorem wrap_i64{x:Int}(h0: -9223372036854775808<=x)(h1:x<=9223372036854775807):IntKind.i64.wrap x=x:=by
 rw[IntKind.wrap_i64];omega
theorem bj{i n:Nat}(h:i<n)(hn:n<=maxLen):IntKind.i64.wrap ((i:Int)+1)=((i+1:Nat):Int):=by
 unfold maxLen at hn
 rw[wrap_i64 (by omega) (by omega)];rfl
theorem ah{α:Type}{f:α->V}{l:List α}{i:Nat}(h:i<l.length):(l.map f).getD i default=f l[i]:=by
 rw[hJ (by simpa using h)];simp
def bX(Γ:FuncId->Option Spec)(σ:S)(t:Name):Op->List Name
 | .alloc _ | .box _ _ | .makeMap _ _ | .makeSlice _ _ _=>[bb t]
 | .load _ x | .nilCheck x | .fieldAddr _ x _ | .indexAddr _ x _ | .lookup _ x _ _ | .store _ x _ | .mapUpdate _ x _ _ | .insert _ x _ _ | .slice _ x _ _ _=>aX (av σ x)
 | .binOp _ _ x _ _=>aX (av σ x)
 | .buildSlice _ _ ps=>dZ (fp 4 σ.obj) (ps.toList.map fun p=>av σ p.2)
 | .call ⟨.value f,args,_⟩=>match (fU (av σ f)).bind Γ with
   |some s=>s.foot σ.obj t (ew (av σ f) (args.toList.map (av σ)))
   |none=>[]
 | .call ⟨.builtin .append,args,_⟩=>match args.toList with
   |[s,x]=>aX (av σ s)++aX (av σ x)++[bb t]
   |_=>[]
 | .call ⟨.builtin .len,args,_⟩=>match args.toList with
   |[x]=>aX (av σ x)
   |_=>[]
 |_=>[]
def bE(Γ:FuncId->Option Spec)(σ:S)(t:Name):Op->List Name
 | .alloc _ | .box _ _ | .makeMap _ _ | .makeSlice _ _ _=>[bb t]
 | .store _ x _ | .mapUpdate _ x _ _ | .insert _ x _ _=>aX (av σ x)
 | .slice _ x _ _ _=>muts σ.obj (aX (av σ x))
 | .buildSlice _ _ ps=>muts σ.obj (dZ (fp 4 σ.obj) (ps.toList.map fun p=>av σ p.2))
 | .call ⟨.value f,args,_⟩=>match (fU (av σ f)).bind Γ with
   |some s=>s.wrt σ.obj t (ew (av σ f) (args.toList.map (av σ)))
   |none=>[]
 | .call ⟨.builtin .append,args,_⟩=>match args.toList with
   |[s,x]=>aX (av σ s)++aX (av σ x)++[bb t]
   |_=>[]
 |_=>[]
theorem YN{P:Program}{obj:Name->Option O}{T:TypeId}{x:D}{lo hi mx:Option D}:Fz obj (jB P obj T x lo hi mx).obj:=by
 unfold jB
 repeat' split
 all_goals first
  |exact .refl obj
  |exact Fz.one (.refl obj) (by assumption) rfl rfl
theorem bO.muts{r r2:R}{obj obj2:Name->Option O}{W:List Name}(h:bO r r2 obj obj2 W)(hz:Fz obj r.obj)(ha:bG W obj obj2):bO r r2 obj obj2 (muts obj W):=by
 refine kW.like (W:=W) ⟨h.ok,fun nm hn=>?_,h.frame,fun nm hn=>?_⟩ h.d hz ha
 ·rw[h.eff nm,if_pos hn]
 ·rw[h.eff nm,if_neg hn]
theorem BN{ok:Prop}{d:D}{obj obj2:Name->Option O}:bO ⟨ok,d,obj⟩ ⟨ok,d,obj2⟩ obj obj2 []:=.same rfl rfl rfl rfl
theorem Si{P:Program}{obj obj2:Name->Option O}{T:TypeId}{ps:List (Nat×D)}:bO (lR P obj T ps) (lR P obj2 T ps) obj obj2 []:=by
 unfold lR
 (repeat' split)<;>exact .same rfl rfl rfl rfl
theorem Sh{P:Program}{obj obj2:Name->Option O}{T:TypeId}{n:Nat}{ps:List (Nat×D)}(h:bG (dZ (fp 4 obj) (ps.map (·.2))) obj obj2):
 bO (nO P obj T n ps) (nO P obj2 T n ps) obj obj2 (muts obj (dZ (fp 4 obj) (ps.map (·.2)))):=by
 have hm:bG (muts obj (dZ (fp 4 obj) (ps.map (·.2)))) obj obj2:=fun nm hn=>h nm (List.mem_filter.1 hn).1
 obtain⟨h1,h2⟩:=vZ (yW 4) (ps.map (·.2)) obj obj2 _ (fun _ hn=>hn) h
 unfold nO
 split
 ·split
  ·exact .none _ hm
  ·refine kW.like ⟨?_,h2.agr,h2.frame,h2.frame2⟩ (by rw[h1]) (v5 (vY 4) _ obj) h
   rw[h1,h2.ok]
 ·exact .none _ hm
theorem Sk{P:Program}{obj obj2:Name->Option O}{op:BinOp}{T:TypeId}{x y:D}:bO (mN P obj op T x y) (mN P obj2 op T x y) obj obj2 []:=by
 unfold mN
 (repeat' split)<;>first | exact .same rfl rfl rfl rfl | (exfalso;simp_all;done)
theorem Sj{P:Program}{obj obj2:Name->Option O}{op:BinOp}{T:TypeId}{x y:D}{ku:Bool}(h:bG (aX x) obj obj2):bO (lT P obj op T x y ku) (lT P obj2 op T x y ku) obj obj2 []:=by
 unfold lT
 cases ku with
 |true=>
  simp only
  unfold oY
  split
  ·exact .same rfl rfl rfl rfl
  ·rename_i nm k
   have h':obj2 nm=obj nm:=h nm (by simp[aX])
   rw[h']
   exact .same rfl rfl rfl rfl
  ·exact .same rfl rfl rfl rfl
 |false=>
  simp only
  split
  ·unfold i7
   split<;>exact .same rfl rfl rfl rfl
  ·exact Sk
theorem RY{obj obj2:Name->Option O}{op:UnOp}{x:D}:bO (lK obj op x) (lK obj2 op x) obj obj2 []:=by
 unfold lK
 (repeat' split)<;>first | exact .same rfl rfl rfl rfl | (exfalso;simp_all;done)
theorem Se{P:Program}{obj obj2:Name->Option O}{T T':TypeId}{x:D}:bO (lP P obj T T' x) (lP P obj2 T T' x) obj obj2 []:=by
 unfold lP
 (repeat' split)<;>first | exact .same rfl rfl rfl rfl | (exfalso;simp_all;done)
theorem Sc{P:Program}{obj obj2:Name->Option O}{T:TypeId}{x:D}{f:Nat}:bO (lN P obj T x f) (lN P obj2 T x f) obj obj2 []:=by
 unfold lN
 (repeat' split)<;>first | exact .same rfl rfl rfl rfl | (exfalso;simp_all;done)
theorem Sa{P:Program}{obj obj2:Name->Option O}{T:TypeId}{x y:D}:bO (lM P obj T x y) (lM P obj2 T x y) obj obj2 []:=by
 unfold lM
 (repeat' split)<;>first | exact .same rfl rfl rfl rfl | (exfalso;simp_all;done)
theorem Sd{obj obj2:Name->Option O}{x:D}{i:Nat}:bO (lO obj x i) (lO obj2 x i) obj obj2 []:=by
 unfold lO
 (repeat' split)<;>first | exact .same rfl rfl rfl rfl | (exfalso;simp_all;done)
theorem R1{obj obj2:Name->Option O}{c x y:D}:bO (i5 obj c x y) (i5 obj2 c x y) obj obj2 []:=by
 unfold i5
 split<;>exact .same rfl rfl rfl rfl
theorem Sg{Γ:FuncId->Option Spec}(hN:∀ f s,Γ f=some s->s.Near){σ σ2:S}{t:Name}{f:D}{args:List D}
 (h:bG (match (fU f).bind Γ with | some s=>s.foot σ.obj t (ew f args) | none=>[]) σ.obj σ2.obj):
 bO (rU Γ σ t f args) (rU Γ σ2 t f args) σ.obj σ2.obj (match (fU f).bind Γ with | some s=>s.wrt σ.obj t (ew f args) | none=>[])/\
 (match (fU f).bind Γ with | some s=>s.foot σ2.obj t (ew f args) | none=>[])=(match (fU f).bind Γ with | some s=>s.foot σ.obj t (ew f args) | none=>[]):=by
 unfold rU
 rcases hs:(fU f).bind Γ with _ | s
 ·exact⟨.same rfl rfl rfl rfl,rfl⟩
 ·simp only[hs]at h |-
  obtain⟨g,_,hs⟩:=Option.bind_eq_some_iff.1 hs
  exact⟨(hN g s hs).like _ _ _ _ h,(hN g s hs).foot _ _ _ _ h⟩
theorem Ey{P:Program}{Γ:FuncId->Option Spec}(hN:∀ f s,Γ f=some s->s.Near){σ σ2:S}(t:Name)(op:Op)
 (ho:∀ x∈op.operands.toList,av σ2 x=av σ x) (h:bG (bX Γ σ t op) σ.obj σ2.obj):
 bO (a8 P Γ σ t op) (a8 P Γ σ2 t op) σ.obj σ2.obj (bE Γ σ t op)/\bX Γ σ2 t op=bX Γ σ t op:=by
 cases op with
 |move x=>exact⟨by simp only[a8,ho x (by simp[Op.operands])];exact BN,rfl⟩
 |assign x=>exact⟨by simp only[a8,ho x (by simp[Op.operands])];exact BN,rfl⟩
 |pick c x y=>exact⟨by simp only[a8,ho c (by simp[Op.operands]),ho x (by simp[Op.operands]),ho y (by simp[Op.operands])];exact R1,rfl⟩
 |alloc T=>exact⟨Sl h,rfl⟩
 |box T x=>exact⟨by simp only[a8,ho x (by simp[Op.operands])];exact Hv h,rfl⟩
 |build T ps=>
  have hp:(ps.toList.map fun p=>(p.1,av σ2 p.2))=ps.toList.map fun p=>(p.1,av σ p.2):=List.map_congr_left fun p hp=>by rw[ho p.2 (by simp only[Op.operands];exact List.mem_map_of_mem hp)]
  exact⟨by simp only[a8,hp];exact Si,rfl⟩
 |buildSlice T n ps=>
  have hp:(ps.toList.map fun p=>(p.1,av σ2 p.2))=ps.toList.map fun p=>(p.1,av σ p.2):=List.map_congr_left fun p hp=>by rw[ho p.2 (by simp only[Op.operands];exact List.mem_map_of_mem hp)]
  have kF:(ps.toList.map fun p=>av σ2 p.2)=ps.toList.map fun p=>av σ p.2:=List.map_congr_left fun p hp=>by rw[ho p.2 (by simp only[Op.operands];exact List.mem_map_of_mem hp)]
  have hm:(ps.toList.map fun p=>(p.1,av σ p.2)).map (·.2)=ps.toList.map fun p=>av σ p.2:=by simp
  simp only[bX,bE]at h |-
  rw[kF]
  rw[<-hm]at h |-
  refine⟨?_,v7 _ h⟩
  simp only[a8,hp]
  exact Sh h
 |load T x=>
  simp only[bX,bE,a8,ho x (by simp[Op.operands])]at h |-
  exact⟨R8 h,trivial⟩
 |store T x d=>
  simp only[bX,bE,a8,ho x (by simp[Op.operands]),ho d (by simp[Op.operands])]at h |-
  exact⟨RZ h,trivial⟩
 |nilCheck x=>
  simp only[bX,bE,a8,ho x (by simp[Op.operands])]at h |-
  exact⟨R2 h,trivial⟩
 |binOp op T x y c=>
  simp only[bX,bE,a8,ho x (by simp[Op.operands]),ho y (by simp[Op.operands])]at h |-
  exact⟨Sj h,trivial⟩
 |unOp op T x=>exact⟨by simp only[a8,ho x (by simp[Op.operands])];exact RY,rfl⟩
 |convert s d x=>exact⟨by simp only[a8,ho x (by simp[Op.operands])];exact Se,rfl⟩
 |makeFunc fn f c=>
  have h1:f.toList.map (av σ2)=f.toList.map (av σ):=List.map_congr_left fun x hx=>ho x (by simp only[Op.operands,Array.toList_append];exact List.mem_append_left _ hx)
  have h2:c.toList.map (av σ2)=c.toList.map (av σ):=List.map_congr_left fun x hx=>ho x (by simp only[Op.operands,Array.toList_append];exact List.mem_append_right _ hx)
  exact⟨by simp only[a8,h1,h2];exact BN,rfl⟩
 |makeMap T r=>
  have h1:r.map (av σ2)=r.map (av σ):=by
   cases r with
   |none=>rfl
   |some x=>simp only[Option.map_some,ho x (by simp[Op.operands])]
  exact⟨by simp only[a8,h1];exact R4 h,rfl⟩
 |makeSlice T l c=>exact⟨by simp only[a8,ho l (by simp[Op.operands]),ho c (by simp[Op.operands])];exact R3 h,rfl⟩
 |slice T x lo hi mx=>
  have e:∀ r:Option Operand,(∀ y∈r.toList,av σ2 y=av σ y)->r.map (av σ2)=r.map (av σ):=by
   intro r hr
   cases r with
   |none=>rfl
   |some x=>simp only[Option.map_some,hr x (by simp)]
  have h1:=e lo fun y hy=>ho y (by simp[Op.operands]at hy |-;simp[hy])
  have h2:=e hi fun y hy=>ho y (by simp[Op.operands]at hy |-;simp[hy])
  have h3:=e mx fun y hy=>ho y (by simp[Op.operands]at hy |-;simp[hy])
  simp only[bX,bE,a8,ho x (by simp[Op.operands]),h1,h2,h3]at h |-
  exact⟨(R0 h).muts YN h,trivial⟩
 |fieldAddr T x f=>
  simp only[bX,bE,a8,ho x (by simp[Op.operands])]at h |-
  exact⟨Sb h,trivial⟩
 |field T x f=>exact⟨by simp only[a8,ho x (by simp[Op.operands])];exact Sc,rfl⟩
 |indexAddr T x i=>
  simp only[bX,bE,a8,ho x (by simp[Op.operands]),ho i (by simp[Op.operands])]at h |-
  exact⟨R' h,trivial⟩
 |index T x i=>exact⟨by simp only[a8,ho x (by simp[Op.operands]),ho i (by simp[Op.operands])];exact Sa,rfl⟩
 |lookup T x i co=>
  simp only[bX,bE,a8,ho x (by simp[Op.operands]),ho i (by simp[Op.operands])]at h |-
  exact⟨R6 h,trivial⟩
 |mapUpdate T x k d=>
  simp only[bX,bE,a8,ho x (by simp[Op.operands]),ho k (by simp[Op.operands]),ho d (by simp[Op.operands])]at h |-
  exact⟨Ht h,trivial⟩
 |insert T x k d=>
  simp only[bX,bE,a8,ho x (by simp[Op.operands]),ho k (by simp[Op.operands]),ho d (by simp[Op.operands])]at h |-
  exact⟨Ht h,trivial⟩
 |extract x i=>exact⟨by simp only[a8,ho x (by simp[Op.operands])];exact Sd,rfl⟩
 |call c=>
  obtain⟨callee,args,ts⟩:=c
  cases callee with
  |value f=>
   have h1:av σ2 f=av σ f:=ho f (by simp[Op.operands,Call.operands])
   have h2:args.toList.map (av σ2)=args.toList.map (av σ):=List.map_congr_left fun x hx=>ho x (by simp[Op.operands,Call.operands]at hx |-;simp[hx])
   simp only[bX,bE,a8,h1,h2]at h |-
   exact Sg hN h
  |builtin b=>
   have h2:args.toList.map (av σ2)=args.toList.map (av σ):=List.map_congr_left fun x hx=>ho x (by simp[Op.operands,Call.operands]at hx |-;simp[hx])
   have h3:∀ x∈args.toList,av σ2 x=av σ x:=fun x hx=>ho x (by simp[Op.operands,Call.operands]at hx |-;simp[hx])
   simp only[a8,h2]
   obtain⟨args⟩:=args
   obtain⟨ts⟩:=ts
   simp only at *
   cases b with
   |len=>
    rcases args with _ | ⟨x,_ | ⟨y,r⟩⟩
    ·exact⟨by rcases ts with _ | ⟨_,_ | _⟩<;>exact .same rfl rfl rfl rfl,rfl⟩
    ·simp only[bX,bE,h3 x (by simp),List.map_cons,List.map_nil]at h |-
     refine⟨?_,trivial⟩
     rcases ts with _ | ⟨T,_ | _⟩<;>first
      |exact .same rfl rfl rfl rfl
      |exact R9 h
    ·refine⟨?_,rfl⟩
     rcases ts with _ | ⟨_,_ | _⟩<;>exact .same rfl rfl rfl rfl
   |append=>
    rcases args with _ | ⟨s,_ | ⟨x,_ | ⟨y,r⟩⟩⟩
    ·refine⟨?_,rfl⟩
     rcases ts with _ | ⟨_,_ | ⟨_,_ | _⟩⟩<;>exact .same rfl rfl rfl rfl
    ·refine⟨?_,rfl⟩
     rcases ts with _ | ⟨_,_ | ⟨_,_ | _⟩⟩<;>exact .same rfl rfl rfl rfl
    ·simp only[bX,bE,h3 x (by simp),h3 s (by simp),List.map_cons,List.map_nil]at h |-
     refine⟨?_,trivial⟩
     rcases ts with _ | ⟨T1,_ | ⟨T2,_ | _⟩⟩<;>first
      |exact BP h
      |exact .none _ h
    ·refine⟨?_,rfl⟩
     rcases ts with _ | ⟨_,_ | ⟨_,_ | _⟩⟩<;>exact .same rfl rfl rfl rfl
   |_=>
    refine⟨?_,rfl⟩
    show bO _ _ _ _ []
    unfold lQ
    (repeat' split)<;>first | exact .same rfl rfl rfl rfl | (exfalso;simp_all;done)
  |invoke r m=>exact⟨.same rfl rfl rfl rfl,rfl⟩
 |_=>exact⟨.same rfl rfl rfl rfl,rfl⟩
theorem YA{Γ:FuncId->Option Spec}(hN:∀ f s,Γ f=some s->s.Near){σ σ2:S}(t:Name)(op:Op)
 (ho:∀ x∈op.operands.toList,av σ2 x=av σ x) (h:bG (bX Γ σ t op) σ.obj σ2.obj):bE Γ σ2 t op=bE Γ σ t op:=by
 cases op with
 |buildSlice T n ps=>
  have kF:(ps.toList.map fun p=>av σ2 p.2)=ps.toList.map fun p=>av σ p.2:=List.map_congr_left fun p hp=>by rw[ho p.2 (by simp only[Op.operands];exact List.mem_map_of_mem hp)]
  simp only[bX,bE]at h |-
  rw[kF,v7 _ h]
  exact By h
 |store T x d=>simp only[bE,ho x (by simp[Op.operands])]
 |mapUpdate T x k d=>simp only[bE,ho x (by simp[Op.operands])]
 |insert T x k d=>simp only[bE,ho x (by simp[Op.operands])]
 |slice T x lo hi mx=>
  simp only[bX,bE,ho x (by simp[Op.operands])]at h |-
  exact By h
 |call c=>
  obtain⟨callee,args,ts⟩:=c
  cases callee with
  |value f=>
   have h1:av σ2 f=av σ f:=ho f (by simp[Op.operands,Call.operands])
   have h2:args.toList.map (av σ2)=args.toList.map (av σ):=List.map_congr_left fun x hx=>ho x (by simp[Op.operands,Call.operands]at hx |-;simp[hx])
   simp only[bX,bE,h1,h2]at h |-
   cases hq:(fU (av σ f)).bind Γ with
   |none=>rfl
   |some s=>
    simp only[hq]at h |-
    obtain⟨g,hg,hs⟩:=Option.bind_eq_some_iff.1 hq
    exact(hN g s hs).wrt _ _ _ _ h
  |builtin b=>
   have h3:∀ x∈args.toList,av σ2 x=av σ x:=fun x hx=>ho x (by simp[Op.operands,Call.operands]at hx |-;simp[hx])
   obtain⟨args⟩:=args
   simp only at *
   cases b with
   |append=>
    rcases args with _ | ⟨s,_ | ⟨x,_ | ⟨y,r⟩⟩⟩<;>first
     |rfl
     |simp only[bE,h3 x (by simp),h3 s (by simp)]
   |_=>rfl
  |invoke r m=>rfl
 |_=>rfl
theorem EY{Γ:FuncId->Option Spec}(hN:∀ f s,Γ f=some s->s.Near){σ:S}(t:Name)(op:Op):∀ nm∈bE Γ σ t op,nm∈bX Γ σ t op:=by
 intro nm hn
 cases op with
 |buildSlice T n ps=>exact(List.mem_filter.1 hn).1
 |slice T x lo hi mx=>exact(List.mem_filter.1 hn).1
 |call c=>
  obtain⟨callee,args,ts⟩:=c
  cases callee with
  |value f=>
   simp only[bX,bE]at hn |-
   cases hq:(fU (av σ f)).bind Γ with
   |none=>simp[hq]at hn
   |some s=>
    simp only[hq]at hn |-
    obtain⟨g,hg,hs⟩:=Option.bind_eq_some_iff.1 hq
    exact(hN g s hs).sub _ _ _ _ hn
  |builtin b=>cases b<;>first | exact hn | (simp[bE]at hn;done)
  |invoke r m=>simp[bE]at hn
 |_=>first | exact hn | (simp[bE]at hn;done)
section
variable {P:Program} {Γ:FuncId->Option Spec} {ops:Array Oper}
abbrev Oper.tt (σ:S) (o:Oper):Name:=(σ.base+o.dst.getD 0)::σ.pre
theorem QU{σ σ':S}{x:Operand}(h:∀ t,x=.tmp t->σ'.env t=σ.env t):av σ' x=av σ x/\cJ σ' x=cJ σ x:=by
 cases x with
 |tmp t=>exact⟨by simp only[av,h t rfl],by simp only[cJ,h t rfl]⟩
 |_=>exact⟨rfl,rfl⟩
theorem RP{o:Oper}{x:Operand}(hx:x∈o.op.operands.toList){t:Nat}(h:x=.tmp t):t∈o.looksAt ops:=
 List.mem_append_left _ (List.mem_filterMap.2 ⟨x,hx,by subst h;rfl⟩)
theorem Ho{o:Oper}{j:Nat}{b:Bool}(hg:o.guard=some (j,b)){s:Nat}(h:nA ops j=some s):s∈o.looksAt ops:=by
 refine List.mem_append_right _ ?_
 unfold nA at h
 simp[hg,h]
theorem XC{σ σ':S}{op:Op}(h:∀ x∈op.operands.toList,av σ' x=av σ x/\cJ σ' x=cJ σ x):m8 σ' op=m8 σ op:=by
 have dY:op.operands.toList.all (cJ σ')=op.operands.toList.all (cJ σ):=by
  refine Bool.eq_iff_iff.2 ?_
  simp only[List.all_eq_true]
  exact⟨fun k x hx=>(h x hx).2▸k x hx,fun k x hx=>(h x hx).2.symm▸k x hx⟩
 cases op with
 |pick c x y=>
  simp only[m8]
  have h1:=h c (by simp[Op.operands])
  have h2:=h x (by simp[Op.operands])
  have h3:=h y (by simp[Op.operands])
  rw[h1.1,h1.2,h2.2,h3.2]
 |_=>exact dY
structure qb (P:Program) (Γ:FuncId->Option Spec) (ops:Array Oper) (σ σ':S) (o:Oper):Prop where
 obl:ko P Γ ops σ' o↔ko P Γ ops σ o
 g:et ops σ' o=et ops σ o
 d:(a8 P Γ σ' (Oper.tt σ o) o.op).d=(a8 P Γ σ (Oper.tt σ o) o.op).d
 eff:∀ nm,(bg P Γ ops σ' o).obj nm=if nm∈bE Γ σ (Oper.tt σ o) o.op then(bg P Γ ops σ o).obj nm else σ'.obj nm
 frame:∀ nm,nm∉bE Γ σ (Oper.tt σ o) o.op->(bg P Γ ops σ o).obj nm=σ.obj nm
 foot:bX Γ σ' (Oper.tt σ o) o.op=bX Γ σ (Oper.tt σ o) o.op
 wrt:bE Γ σ' (Oper.tt σ o) o.op=bE Γ σ (Oper.tt σ o) o.op
theorem uz(hN:∀ f s,Γ f=some s->s.Near){σ σ':S}(o:Oper)(ca:σ'.nt=σ.nt)(JW:σ'.pre=σ.pre)(yL:σ'.base=σ.base)(he:∀ t∈o.looksAt ops,σ'.env t=σ.env t)
 (ha:bG (bX Γ σ (Oper.tt σ o) o.op) σ.obj σ'.obj):qb P Γ ops σ σ' o:=by
 have hx:∀ x∈o.op.operands.toList,av σ' x=av σ x/\cJ σ' x=cJ σ x:=fun x hx=>QU fun t ht=>he t (RP hx ht)
 have hg:et ops σ' o=et ops σ o:=by
  unfold et
  cases C4:o.guard with
  |none=>rfl
  |some p=>
   obtain⟨j,b⟩:=p
   simp only
   cases hs:nA ops j with
   |none=>rfl
   |some s=>simp only[he s (Ho C4 hs)]
 have Vu:nB ops σ' o↔nB ops σ o:=by
  unfold nB
  cases C4:o.guard with
  |none=>exact Iff.rfl
  |some p=>
   obtain⟨j,b⟩:=p
   simp only
   cases hs:nA ops j with
   |none=>exact Iff.rfl
   |some s=>simp only[he s (Ho C4 hs),ca]
 obtain⟨h1,h2⟩:=Ey (P:=P) hN (Oper.tt σ o) o.op (fun x h=>(hx x h).1) ha
 have h3:=YA hN (Oper.tt σ o) o.op (fun x h=>(hx x h).1) ha
 refine⟨?_,hg,h1.d,fun nm=>?_,fun nm hn=>?_,h2,h3⟩
 ·have aa:(a8 P Γ σ' ((σ.base+o.dst.getD 0)::σ.pre) o.op).ok=(a8 P Γ σ ((σ.base+o.dst.getD 0)::σ.pre) o.op).ok:=h1.ok
  unfold ko
  rw[Vu,hg,ca,JW,yL,XC hx,aa]
 ·unfold bg
  simp only[hg,JW,yL]
  cases hc:et ops σ o with
  |true=>simp only[if_true];exact h1.eff nm
  |false=>
   simp only[Bool.false_eq_true,if_false]
   split
   ·rename_i hn;exact ha nm (EY hN _ _ nm hn)
   ·rfl
 ·unfold bg
  cases hc:et ops σ o with
  |true=>simp only[if_true];exact h1.frame nm hn
  |false=>simp only[Bool.false_eq_true,if_false]
theorem qj{σ:S}{o:Oper}{t:Nat}(h:o.dst≠some t):(bg P Γ ops σ o).env t=σ.env t:=by
 unfold bg
 cases hd:o.dst with
 |none=>rfl
 |some s=>exact aZ _ _ _ (by rintro rfl;exact h hd)
def wH(a b:List Name):Prop:=∀ nm∈a,nm∉b
theorem comm{oi oj:Oper}(hN:∀ f s,Γ f=some s->s.Near){σ:S}(mE:oi.apart ops oj=true)
 (h1:wH (bE Γ σ (Oper.tt σ oi) oi.op) (bX Γ (bg P Γ ops σ oi) (Oper.tt σ oj) oj.op)) (h2:wH (bE Γ (bg P Γ ops σ oi) (Oper.tt σ oj) oj.op) (bX Γ σ (Oper.tt σ oi) oi.op)):
 qb P Γ ops (bg P Γ ops σ oi) σ oj/\qb P Γ ops σ (bg P Γ ops σ oj) oi/\bg P Γ ops (bg P Γ ops σ oj) oi=bg P Γ ops (bg P Γ ops σ oi) oj:=by
 obtain⟨a1,a2,a3⟩:=Oper.apart_spec mE
 have s0:qb P Γ ops σ σ oi:=uz hN oi rfl rfl rfl (fun _ _=>rfl) (fun _ _=>rfl)
 have s1:qb P Γ ops (bg P Γ ops σ oi) σ oj:=by
  refine uz hN oj rfl rfl rfl (fun t ht=>(qj fun hd=>a1 t hd ht).symm) fun nm hn=>?_
  exact(s0.frame nm fun hw=>h1 nm hw hn).symm
 have s2:qb P Γ ops σ (bg P Γ ops σ oj) oi:=by
  refine uz hN oi rfl rfl rfl (fun t ht=>qj fun hd=>a3 t hd ht) fun nm hn=>?_
  exact(s1.eff nm).trans (if_neg fun hw=>h2 nm hw hn)
 refine⟨s1,s2,?_⟩
 have e1:(bg P Γ ops (bg P Γ ops σ oj) oi).obj=(bg P Γ ops (bg P Γ ops σ oi) oj).obj:=by
  funext nm
  rw[s2.eff nm]
  by_cases hi:nm∈bE Γ σ (Oper.tt σ oi) oi.op
  ·rw[if_pos hi]
   have :=EY hN _ _ nm hi
   have s3:qb P Γ ops (bg P Γ ops σ oi) (bg P Γ ops σ oi) oj:=uz hN oj rfl rfl rfl (fun _ _=>rfl) (fun _ _=>rfl)
   exact(s3.frame nm fun hw=>h2 nm hw this).symm
  ·rw[if_neg hi,s1.eff nm]
   split
   ·rfl
   ·rename_i hj
    have s3:qb P Γ ops (bg P Γ ops σ oi) (bg P Γ ops σ oi) oj:=uz hN oj rfl rfl rfl (fun _ _=>rfl) (fun _ _=>rfl)
    rw[s3.frame nm hj,s0.frame nm hi]
 have e2:(bg P Γ ops (bg P Γ ops σ oj) oi).env=(bg P Γ ops (bg P Γ ops σ oi) oj).env:=by
  funext x
  by_cases hi:oi.dst=some x
  ·have hj:oj.dst≠some x:=a2 x hi
   rw[qj (σ:=bg P Γ ops σ oi) hj]
   show (match oi.dst with
    |some t=>upd (bg P Γ ops σ oj).env t ⟨et ops (bg P Γ ops σ oj) oi,(a8 P Γ (bg P Γ ops σ oj) ((σ.base+t)::σ.pre) oi.op).d⟩
    |none=>(bg P Γ ops σ oj).env) x=(match oi.dst with
    |some t=>upd σ.env t ⟨et ops σ oi,(a8 P Γ σ ((σ.base+t)::σ.pre) oi.op).d⟩
    |none=>σ.env) x
   have d1:=s2.d
   have g1:=s2.g
   unfold Oper.tt at d1
   simp only[hi,Option.getD_some]at d1 |-
   rw[aQ,aQ,d1,g1]
  ·rw[qj hi]
   by_cases hj:oj.dst=some x
   ·show (match oj.dst with
      |some t=>upd σ.env t ⟨et ops σ oj,(a8 P Γ σ ((σ.base+t)::σ.pre) oj.op).d⟩
      |none=>σ.env) x=(match oj.dst with
      |some t=>upd (bg P Γ ops σ oi).env t ⟨et ops (bg P Γ ops σ oi) oj,(a8 P Γ (bg P Γ ops σ oi) ((σ.base+t)::σ.pre) oj.op).d⟩
      |none=>(bg P Γ ops σ oi).env) x
    have d1:(a8 P Γ σ (Oper.tt σ oj) oj.op).d=(a8 P Γ (bg P Γ ops σ oi) (Oper.tt σ oj) oj.op).d:=s1.d
    have g1:=s1.g
    unfold Oper.tt at d1
    simp only[hj,Option.getD_some]at d1 |-
    rw[aQ,aQ,d1,g1]
   ·rw[qj hj,qj hj,qj hi]
 have e3:(bg P Γ ops (bg P Γ ops σ oj) oi).nt=(bg P Γ ops (bg P Γ ops σ oi) oj).nt:=rfl
 have e4:(bg P Γ ops (bg P Γ ops σ oj) oi).pre=(bg P Γ ops (bg P Γ ops σ oi) oj).pre:=rfl
 have e5:(bg P Γ ops (bg P Γ ops σ oj) oi).base=(bg P Γ ops (bg P Γ ops σ oi) oj).base:=rfl
 generalize bg P Γ ops (bg P Γ ops σ oj) oi=x at *
 generalize bg P Γ ops (bg P Γ ops σ oi) oj=y at *
 cases x;cases y
 simp only at e1 e2 e3 e4 e5
 subst e1 e2 e3 e4 e5
 rfl
structure qd where
 on:Nat
 foot:List Name
 wrt:List Name
def xu(anc:List Nat)(foot wrt:List Name)(L:List qd):Prop:=∀ e∈L,e.on∈anc\/(wH e.wrt foot/\wH wrt e.foot)
variable (P Γ ops)in
def qg(anc:Nat->List Nat)(L:List qd)(K:S->Prop):Nat->Array Bool->S->Prop
 | 0,listed,σ=>Region.ready .any ops listed=[]/\K σ
 |fuel+1,listed,σ=>(Region.ready .any ops listed=[]->K σ)/\∀ i∈Region.ready .any ops listed,∀ o,ops[i]?=some o->
    ko P Γ ops σ o/\xu (anc i) (bX Γ σ (Oper.tt σ o) o.op) (bE Γ σ (Oper.tt σ o) o.op) L/\qg anc L K fuel (listed.setIfInBounds i true) (bg P Γ ops σ o)
def wI(ops:Array Oper)(anc:Nat->List Nat):Prop:=∀ j o,ops[j]?=some o->∀ i∈anc j,∃ e∈o.after,Region.binds .any e=true/\(e.on=i\/i∈anc e.on)
def sa(anc:Nat->List Nat)(listed:Array Bool):Prop:=∀ j,listed.getD j false=true->∀ i∈anc j,listed.getD i false=true
theorem sa.ready{anc:Nat->List Nat}{listed:Array Bool}(hA:wI ops anc)(h:sa anc listed){j:Nat}(hj:j∈Region.ready .any ops listed):∀ i∈anc j,listed.getD i false=true:=by
 intro i hi
 obtain⟨_,o,ho,dY⟩:=mem_ready.1 hj
 obtain⟨e,he,hb,h1⟩:=hA j o ho i hi
 have :=dY e he hb
 rcases h1 with h1 | h1
 ·rw[<-h1];exact this
 ·exact h _ this i h1
theorem sa.set{anc:Nat->List Nat}{listed:Array Bool}(hA:wI ops anc)(h:sa anc listed){j:Nat}(hj:j∈Region.ready .any ops listed):sa anc (listed.setIfInBounds j true):=by
 intro k hk i hi
 by_cases Kd:j=k
 ·subst Kd
  exact getD_set_true (h.ready hA hj i hi)
 ·rw[getD_set_ne false Kd]at hk
  exact getD_set_true (h k hk i hi)
theorem pull(hN:∀ f s,Γ f=some s->s.Near){anc:Nat->List Nat}(hA:wI ops anc){K:S->Prop}{i:Nat}{oi:Oper}(hi:ops[i]?=some oi){L:List qd}:
 ∀ (fuel:Nat) (listed:Array Bool) (σ:S),sa anc listed->
   (∀ j oj,ops[j]?=some oj->j≠i->listed.getD j true=false->i∉anc j->oi.apart ops oj=true)->
   i∈Region.ready .any ops listed->ko P Γ ops σ oi->xu (anc i) (bX Γ σ (Oper.tt σ oi) oi.op) (bE Γ σ (Oper.tt σ oi) oi.op) L->
   qg P Γ ops anc (⟨i,bX Γ σ (Oper.tt σ oi) oi.op,bE Γ σ (Oper.tt σ oi) oi.op⟩::L) K fuel (listed.setIfInBounds i true) (bg P Γ ops σ oi)->
   qg P Γ ops anc L K (fuel+1) listed σ:=by
 have weaken:∀ (e:qd) (fuel:Nat) (listed:Array Bool) (σ:S),qg P Γ ops anc (e::L) K fuel listed σ->qg P Γ ops anc L K fuel listed σ:=by
  intro e fuel
  induction fuel with
  |zero=>exact fun _ _ h=>h
  |succ n ih=>exact fun listed σ h=>⟨h.1,fun i hi o ho=>⟨(h.2 i hi o ho).1,fun e' VQ=>(h.2 i hi o ho).2.1 e' (List.mem_cons_of_mem _ VQ),ih _ _ (h.2 i hi o ho).2.2⟩⟩
 intro fuel
 induction fuel with
 |zero=>
  intro listed σ cC C5 hr eM aa H
  refine⟨fun h=>(by rw[h]at hr;cases hr),fun j hj oj qO=>?_⟩
  by_cases eC:j=i
  ·subst eC
   rw[hi]at qO;cases qO
   exact⟨eM,aa,weaken _ _ _ _ H⟩
  ·have:=ready_mono hj eC
   rw[H.1]at this
   cases this
 |succ fuel ih=>
  intro listed σ cC C5 hr eM aa H
  refine⟨fun h=>(by rw[h]at hr;cases hr),fun j hj oj qO=>?_⟩
  by_cases eC:j=i
  ·subst eC
   rw[hi]at qO;cases qO
   exact⟨eM,aa,weaken _ _ _ _ H⟩
  ·obtain⟨g1,g2,g3⟩:=H.2 j (ready_mono hj eC) oj qO
   have vA:listed.getD j true=false:=(mem_ready.1 hj).1
   have yt:i∉anc j:=fun h=>by
    have h1:=cC.ready hA hj i h
    have h0:=(mem_ready.1 hr).1
    rcases Nat.lt_or_ge i listed.size with h' | h'
    ·simp[h']at h0 h1;rw[h0]at h1;cases h1
    ·simp[Array.getElem?_eq_none h']at h1
   rcases g2 _ List.mem_cons_self with k | ⟨d1,d2⟩
   ·exact(yt k).elim
   simp only at d1 d2
   obtain⟨s1,s2,s3⟩:=comm hN (C5 j oj qO eC vA yt) d1 d2
   have f1:bX Γ σ (Oper.tt σ oj) oj.op=bX Γ (bg P Γ ops σ oi) (Oper.tt σ oj) oj.op:=s1.foot
   have f2:bE Γ σ (Oper.tt σ oj) oj.op=bE Γ (bg P Γ ops σ oi) (Oper.tt σ oj) oj.op:=s1.wrt
   have f3:bX Γ (bg P Γ ops σ oj) (Oper.tt σ oi) oi.op=bX Γ σ (Oper.tt σ oi) oi.op:=s2.foot
   have f4:bE Γ (bg P Γ ops σ oj) (Oper.tt σ oi) oi.op=bE Γ σ (Oper.tt σ oi) oi.op:=s2.wrt
   refine⟨s1.obl.2 g1,?_,?_⟩
   ·rw[f1,f2]
    exact fun e he=>g2 e (List.mem_cons_of_mem _ he)
   ·refine ih _ _ (cC.set hA hj) (fun k ok hk eo JI gf=>C5 k ok hk eo ?_ gf) (ready_mono hr (Ne.symm eC)) (s2.obl.2 eM) ?_ ?_
    ·by_cases mw:j=k
     ·subst mw;exact vA
     ·rw[getD_set_ne true mw]at JI;exact JI
    ·show xu (anc i) (bX Γ (bg P Γ ops σ oj) (Oper.tt σ oi) oi.op) (bE Γ (bg P Γ ops σ oj) (Oper.tt σ oi) oi.op) L
     rw[f3,f4];exact aa
    ·show qg P Γ ops anc (⟨i,bX Γ (bg P Γ ops σ oj) (Oper.tt σ oi) oi.op,bE Γ (bg P Γ ops σ oj) (Oper.tt σ oi) oi.op⟩::L) K fuel _ _
     rw[Array.setIfInBounds_comm _ _ eC,f3,f4,s3]
     exact g3
theorem MV(hΓ:∀ f s,Γ f=some s->aM P f s){G:Ghost}{Q:Exit->Act->World->Prop}{K:S->Prop}{anc:Nat->List Nat}{L:List qd}:
 ∀ (fuel:Nat) (listed:Array Bool) {φ:Name->Loc} {m:Mem} {σ:S} {a:Act} {w:World},aN G φ m σ a w->qg P Γ ops anc L K fuel listed σ->
   (∀ a' w' φ' m' σ',aN G φ' m' σ' a' w'->K σ'->Q .normal a' w')->wpAnyIn (fz G.rd) 0 P .any ops Q fuel listed a w
 | 0,listed,φ,m,σ,a,w,hC,h,hQ=>⟨h.1,hQ _ _ φ m σ hC h.2⟩
 |fuel+1,listed,φ,m,σ,a,w,hC,h,hQ=>by
  refine⟨fun h0=>hQ _ _ φ m σ hC (h.1 h0),fun i hi=>?_⟩
  obtain⟨_,o,ho,_⟩:=mem_ready.1 hi
  obtain⟨h1,_,h3⟩:=h.2 i hi o ho
  exact AB hΓ hC ho h1 fun a' w' φ' m' cm=>MV hΓ fuel _ cm h3 hQ
end
end Go.Eng
