import Derived.Test.YtepaolcgegdpoaaGreatK1
import Derived.OrdersIn
import Derived.RangeFuncLeaves
import Derived.RangeFuncRecord
import Derived.RangeFuncNested
import Derived.Attr
/- Texts Eng11 to Eng18. -/
set_option linter.all false
namespace Go.Eng
open Go
def im(obj:Name->Option O)(c x y:D):R:=
 match c with
 | .v (.bool b)=>⟨True,match x,y with
   | .v (.bool p),.v (.bool q)=>.v (.bool (if b then p else q))
   |x,y=>if b then x else y,obj⟩
 |_=>.bad obj
theorem Xl{φ:Name->Loc}{obj:Name->Option O}{m:Mem}{b:Bool}{x y:D}{u:Value}(h:aA φ obj m (if b then x else y) u):aA φ obj m (im obj (.v (.bool b)) x y).d u:=by
 unfold im
 simp only
 split
 ·rename_i p q
  cases b with
  |true=>simpa using h
  |false=>simpa using h
 ·exact h
def LF(obj:Name->Option O)(fn:Fn)(f c:List D):R:=⟨True,.clo fn f c,obj⟩
def kT(P:Program)(obj:Name->Option O)(T:TypeId)(x:D)(f:Nat):R:=
 match bE P T f,x with
 |some (off,n,true),.agg l=>⟨off+n<=l.length,.agg ((l.drop off).take n),obj⟩
 |some (off,_,false),.agg l=>⟨off<l.length,l.getD off .any,obj⟩
 |some (off,n,true),.v (.agg l)=>⟨off+n<=l.length,.v (.agg ((l.drop off).take n)),obj⟩
 |some (off,_,false),.v (.agg l)=>⟨off<l.length,.v (l.getD off default),obj⟩
 |_,_=>.bad obj
theorem ox{P:Program}{t:TypeId}{b:Bool}{n:Nat}(h:aX P t=some (b,n))(cs:Array Value)(off:Nat)(hb:b=false->off<cs.size)(w:World):
 (part t cs off).run P w=.ok (if b then .agg (cs.extract off (off+n))else cs.getD off undef) w:=by
 simp only[part,Sem.run_bind,ES h,Result.andThen_ok,Sem.run_ite,rO h,Sem.run_pure]
 cases b with
 |true=>simp
 |false=>
  have :=hb rfl
  simp[Array.getElem?_eq_getElem this,Array.getD,this]
theorem aA.aggPart{φ:Name->Loc}{obj:Name->Option O}{m:Mem}{l:List D}{us:Array Value}(hl:l.length=us.size)(ho:∀ d∈l,d.one=true)
 (hr:∀ i (h:i<l.length) (h':i<us.size),aA φ obj m l[i] us[i]) {off n:Nat} (h:off+n<=l.length):
 aA φ obj m (.agg ((l.drop off).take n)) (.agg (us.extract off (off+n))):=by
 refine .agg _ _ (by simp;omega) (fun d hd=>ho d (List.mem_of_mem_drop (List.mem_of_mem_take hd))) fun i h1 h2=>?_
 simp only[List.length_take,List.length_drop]at h1
 simp only[List.getElem_take,List.getElem_drop,Array.getElem_extract]
 exact hr _ (by omega) (by omega)
theorem aK.aggPart{m:Mem}{l:List V}{us:Array Value}(hl:l.length=us.size)(ho:∀ d∈l,d.one=true)
 (hr:∀ i (h:i<l.length) (h':i<us.size),aK m l[i] us[i]) {off n:Nat} (h:off+n<=l.length):
 aK m (.agg ((l.drop off).take n)) (.agg (us.extract off (off+n))):=by
 refine .agg _ _ (by simp;omega) (fun d hd=>ho d (List.mem_of_mem_drop (List.mem_of_mem_take hd))) fun i h1 h2=>?_
 simp only[List.length_take,List.length_drop]at h1
 simp only[List.getElem_take,List.getElem_drop,Array.getElem_extract]
 exact hr _ (by omega) (by omega)
theorem NB{P:Program}{φ:Name->Loc}{obj:Name->Option O}{m:Mem}{T:TypeId}{f:Nat}{x:D}{u:Value}(w:World)
 (hx:aA φ obj m x u) (aa:(kT P obj T x f).ok):
 ∃ v,(Instr.field T u f).run P w=.ok v w/\aA φ obj m (kT P obj T x f).d v/\(kT P obj T x f).obj=obj:=by
 have cA:∀ {off n:Nat} {ag:Bool} {us:Array Value},bE P T f=some (off,n,ag)->(ag=false->off<us.size)->
     (Instr.field T (.agg us) f).run P w=.ok (if ag then .agg (us.extract off (off+n))else us.getD off undef) w:=by
  intro off n ag us h hb
  unfold bE at h
  split at h
  ·rename_i fs hu
   cases hf:fs[f]? with
   |none=>simp[hf]at h
   |some x=>
    simp only[hf,Option.bind_some,Option.map_eq_some_iff,Prod.mk.injEq]at h
    obtain⟨y,h1,h2,h3,h4⟩:=h
    obtain⟨y1,y2⟩:=y
    simp only at h3 h4
    subst h3 h4 h2
    simp only[Instr.field,Sem.run_bind,run_underlying hu,Result.andThen_ok,hf,asAgg,Sem.run_pure]
    exact ox h1 us _ hb w
  ·cases h
 unfold kT at aa |-
 split at aa
 ·rename_i off n l hT
  cases hx with
  |agg _ us hl ho hr=>
  exact⟨_,cA hT (by simp),by simpa[hT]using aA.aggPart hl ho hr aa,by simp[hT]⟩
 ·rename_i off n l hT
  cases hx with
  |agg _ us hl ho hr=>
  have ey:off<l.length:=aa
  refine⟨_,cA hT (fun _=>by omega),?_,by simp[hT]⟩
  simp only[hT,Bool.false_eq_true,if_false]
  rw[gG ey]
  have :off<us.size:=by omega
  simp only[Array.getD,this,dite_true]
  exact hr off ey this
 ·rename_i off n l hT
  cases hx with
  |v _ _ hx=>
  cases hx with
  |agg _ us hl ho hr=>
  exact⟨_,cA hT (by simp),by simpa[hT]using .v _ _ (aK.aggPart hl ho hr aa),by simp[hT]⟩
 ·rename_i off n l hT
  cases hx with
  |v _ _ hx=>
  cases hx with
  |agg _ us hl ho hr=>
  have ey:off<l.length:=aa
  refine⟨_,cA hT (fun _=>by omega),?_,by simp[hT]⟩
  simp only[hT,Bool.false_eq_true,if_false]
  rw[gG ey]
  have :off<us.size:=by omega
  simp only[Array.getD,this,dite_true]
  exact .v _ _ (hr off ey this)
 ·exact aa.elim
def kS(P:Program)(obj:Name->Option O)(T:TypeId)(x i:D):R:=
 match x,i with
 | .v (.str s),.v (.int _ n)=>⟨cT P T=some 1/\0<=n/\n<s.size,.v (.int .u8 (s.data.getD n.toNat 0).toNat),obj⟩
 | .agg l,.v (.int _ n)=>match iy P T with
   |some (len,sz,true)=>⟨0<=n/\n<len/\n.toNat*sz+sz<=l.length,.agg ((l.drop (n.toNat*sz)).take sz),obj⟩
   |some (len,sz,false)=>⟨0<=n/\n<len/\n.toNat*sz<l.length,l.getD (n.toNat*sz) .any,obj⟩
   |_=>.bad obj
 | .v (.agg l),.v (.int _ n)=>match iy P T with
   |some (len,sz,true)=>⟨0<=n/\n<len/\n.toNat*sz+sz<=l.length,.v (.agg ((l.drop (n.toNat*sz)).take sz)),obj⟩
   |some (len,sz,false)=>⟨0<=n/\n<len/\n.toNat*sz<l.length,.v (l.getD (n.toNat*sz) default),obj⟩
   |_=>.bad obj
 |_,_=>.bad obj
theorem Nz{P:Program}{φ:Name->Loc}{obj:Name->Option O}{m:Mem}{T:TypeId}{x i:D}{u ui:Value}(w:World)
 (hx:aA φ obj m x u) (hi:aA φ obj m i ui) (aa:(kS P obj T x i).ok):
 ∃ v,(Instr.index T u ui).run P w=.ok v w/\aA φ obj m (kS P obj T x i).d v/\(kS P obj T x i).obj=obj:=by
 have cA:∀ {len sz:Nat} {ag:Bool} {us:Array Value} {k:IntKind} {n:Int},iy P T=some (len,sz,ag)->0<=n->n<len->(ag=false->n.toNat*sz<us.size)->
     (Instr.index T (.agg us) (.int k n)).run P w=.ok (if ag then .agg (us.extract (n.toNat*sz) (n.toNat*sz+sz))else us.getD (n.toNat*sz) undef) w:=by
  intro len sz ag us k n h h0 h1 hb
  unfold iy at h
  split at h
  ·rename_i n' e hu
   simp only[Option.map_eq_some_iff,Prod.mk.injEq]at h
   obtain⟨y,h2,h3,h4,h5⟩:=h
   obtain⟨y1,y2⟩:=y
   simp only at h4 h5
   subst h3 h4 h5
   have hs:=fun w=>rO (P:=P) (t:=e) h2 w
   have hp:=fun w=>ox h2 us (n.toNat*y2) hb w
   simp[Instr.index,asIntOf,run_underlying hu,h0,h1,hs,hp]
  ·cases h
 unfold kS at aa |-
 split at aa
 ·rename_i s k n
  obtain⟨hT,h0,h1⟩:=aa
  have hu:=El hT
  cases hx with
  |v _ _ hx=>
  cases hi with
  |v _ _ hi=>
  cases hx;cases hi
  have ae:n.toNat<s.size:=by omega
  refine⟨.int .u8 (s.data.getD n.toNat 0).toNat,?_,.v _ _ (.int _ _),rfl⟩
  have e:s[n.toNat]?=some (s.data.getD n.toNat 0):=by
   have au:n.toNat<s.data.size:=ae
   rw[getElem?_pos s n.toNat ae]
   simp only[Array.getD,au,dite_true]
   rfl
  simp[Instr.index,asIntOf,run_underlying hu,h0,e]
 ·rename_i l k n
  cases hi with
  |v _ _ hi=>
  cases hi
  cases hx with
  |agg _ us hl ho hr=>
  split at aa
  ·rename_i len sz hT
   obtain⟨h0,h1,h2⟩:=aa
   exact⟨_,cA hT h0 h1 (by simp),by simpa[hT]using aA.aggPart hl ho hr h2,by simp[hT]⟩
  ·rename_i len sz hT
   obtain⟨h0,h1,h2⟩:=aa
   refine⟨_,cA hT h0 h1 (fun _=>by omega),?_,by simp[hT]⟩
   simp only[hT,Bool.false_eq_true,if_false]
   rw[gG h2]
   have :n.toNat*sz<us.size:=by omega
   simp only[Array.getD,this,dite_true]
   exact hr _ h2 this
  ·exact aa.elim
 ·rename_i l k n
  cases hi with
  |v _ _ hi=>
  cases hi
  cases hx with
  |v _ _ hx=>
  cases hx with
  |agg _ us hl ho hr=>
  split at aa
  ·rename_i len sz hT
   obtain⟨h0,h1,h2⟩:=aa
   exact⟨_,cA hT h0 h1 (by simp),by simpa[hT]using .v _ _ (aK.aggPart hl ho hr h2),by simp[hT]⟩
  ·rename_i len sz hT
   obtain⟨h0,h1,h2⟩:=aa
   refine⟨_,cA hT h0 h1 (fun _=>by omega),?_,by simp[hT]⟩
   simp only[hT,Bool.false_eq_true,if_false]
   rw[gG h2]
   have :n.toNat*sz<us.size:=by omega
   simp only[Array.getD,this,dite_true]
   exact .v _ _ (hr _ h2 this)
  ·exact aa.elim
 ·exact aa.elim
def el:List (V×V)->V->Option V
 |[],_=>none
 |(k',x)::r,k=>if eK k' k=true then some x else el r k
def dt:List (V×V)->V->V->List (V×V)
 |[],k,x=>[(k,x)]
 |(k',y)::r,k,x=>if eK k' k=true then(k,x)::r else(k',y)::dt r k x
theorem A9{x:V}(h:dE 0 x=true):∃ n,x=.int .i64 n:=by
 cases x with
 |int k n=>cases k<;>simp_all[dE]
 |_=>simp[dE]at h
theorem A8{x:V}(h:dE 1 x=true):∃ s,x=.str s:=by
 cases x with
 |str s=>exact⟨s,rfl⟩
 |_=>simp[dE]at h
theorem si{m:Mem}{kd:Nat}{d:TypeDesc}(hd:(kd=0/\d=.int .i64)\/(kd=1/\d=.string)){x:V}{u:Value}(hx:aK m x u)(hk:dE kd x=true):MapKept.IsKey d u:=by
 rcases hd with⟨rfl,rfl⟩ | ⟨rfl,rfl⟩
 ·obtain⟨n,rfl⟩:=A9 hk
  cases hx
  simp[MapKept.IsKey]
 ·obtain⟨n,rfl⟩:=A8 hk
  cases hx
  simp[MapKept.IsKey]
theorem Rv{m:Mem}{kd:Nat}{d:TypeDesc}(hd:(kd=0/\d=.int .i64)\/(kd=1/\d=.string)){x y:V}{u v:Value}(hx:aK m x u)(hy:aK m y v)
 (hk:dE kd x=true) (hJ:dE kd y=true):Instr.sameNow d u v=some (eK y x):=by
 rcases hd with⟨rfl,rfl⟩ | ⟨rfl,rfl⟩
 ·obtain⟨n,rfl⟩:=A9 hk
  obtain⟨n',rfl⟩:=A9 hJ
  cases hx;cases hy
  simp only[Instr.sameNow,eK,if_true]
  congr 1
  rw[Bool.eq_iff_iff]
  simp only[beq_iff_eq]
  exact eq_comm
 ·obtain⟨n,rfl⟩:=A8 hk
  obtain⟨n',rfl⟩:=A8 hJ
  cases hx;cases hy
  simp only[Instr.sameNow,eK]
  congr 1
  rw[Bool.eq_iff_iff,MapKept.bytes_beq,MapKept.bytes_beq,eq_comm]
theorem J0{m:Mem}{kd:Nat}{d:TypeDesc}(hd:(kd=0/\d=.int .i64)\/(kd=1/\d=.string)){x:V}{u:Value}(hx:aK m x u)(hk:dE kd x=true)(z:V):
 ∀ (es:List (V×V)) (ents:List MapEntry) (i:Nat),es.length=ents.length->(∀ p∈es,dE kd p.1=true)->
   (∀ j (h:j<es.length) (h':j<ents.length),aK m es[j].1 ents[j].key/\aK m es[j].2 ents[j].val)->
   (el es x=none/\Instr.findNow d u ents i=some none/\dt es x z=es++[(x,z)])\/
   ∃ (j:Nat) (h:j<es.length) (h':j<ents.length),el es x=some es[j].2/\Instr.findNow d u ents i=some (some (i+j,ents[j].val))/\ents[j].key=u/\dt es x z=es.set j (x,z)
 |[],ents,i,hl,_,_=>by
  have :ents=[]:=by cases ents<;>simp_all
  subst this
  exact .inl ⟨rfl,rfl,rfl⟩
 |(k',y)::r,[],i,hl,_,_=>by simp at hl
 |(k',y)::r,e::ents,i,hl,oW,hr=>by
  have h0:=hr 0 (by simp) (by simp)
  simp only[List.getElem_cons_zero]at h0
  have hJ:dE kd k'=true:=oW (k',y) (by simp)
  have hs:=Rv hd hx h0.1 hk hJ
  by_cases hq:eK k' x=true
  ·refine .inr ⟨0,by simp,by simp,by simp[el,hq],by simp[Instr.findNow,hs,hq],?_,by simp[dt,hq]⟩
   obtain⟨b,hb,TJ⟩:=MapKept.sameNow_of_keys (si hd hx hk) (si hd h0.1 hJ)
   rw[hs]at hb
   simp only[Option.some.injEq]at hb
   exact(TJ.1 (by rw[<-hb];exact hq)).symm
  ·have bX:eK k' x=false:=by simpa using hq
   rcases J0 hd hx hk z r ents (i+1) (by simpa using hl) (fun p hp=>oW p (by simp[hp])) (fun j h h'=>hr (j+1) (by simpa using h) (by simpa using h'))with⟨h1,h2,h3⟩ | ⟨j,h,h',h1,h2,h3,h4⟩
   ·exact .inl ⟨by simp[el,bX,h1],by simp[Instr.findNow,hs,bX,h2],by simp[dt,bX,h3]⟩
   ·refine .inr ⟨j+1,by simpa using h,by simpa using h',by simp[el,bX,h1],?_,by simpa using h3,by simp[dt,bX,h4]⟩
    simp only[Instr.findNow,hs,bX,h2,List.getElem_cons_succ]
    rw[show i+1+j=i+(j+1)by omega]
def zm(P:Program)(kt:TypeId)(kd:Nat):Prop:=
 (kd=0/\P.underlying kt=some (.int .i64))\/(kd=1/\P.underlying kt=some .string)\/(kd=2/\pO P kt=true)
theorem zF{P:Program}{T e:TypeId}{kd:Nat}(h:i5 P T=some (kd,e)):
 ∃ k,P.underlying T=some (.map k e)/\zm P k kd:=by
 unfold i5 at h
 split at h
 ·rename_i k e' hu
  split at h
  ·rename_i hk
   simp only[Option.some.injEq,Prod.mk.injEq]at h
   obtain⟨rfl,rfl⟩:=h
   exact⟨k,hu,.inl ⟨rfl,hk⟩⟩
  ·rename_i hk
   simp only[Option.some.injEq,Prod.mk.injEq]at h
   obtain⟨rfl,rfl⟩:=h
   exact⟨k,hu,.inr (.inl ⟨rfl,hk⟩)⟩
  ·split at h
   ·rename_i hk
    simp only[Option.some.injEq,Prod.mk.injEq]at h
    obtain⟨rfl,rfl⟩:=h
    exact⟨k,hu,.inr (.inr ⟨rfl,hk⟩)⟩
   ·cases h
  ·cases h
 ·cases h
theorem Rt{x:V}(h:dE 2 x=true):∃ a b,x=.agg [.int .i64 a,.int .i64 b]:=by
 unfold dE at h
 split at h
 ·rename_i h0;omega
 ·rename_i h0;omega
 ·exact⟨_,_,rfl⟩
 ·cases h
theorem w5{m:Mem}{x:V}{u:Value}(hx:aK m x u)(h:dE 2 x=true):∃ a b,x=.agg [.int .i64 a,.int .i64 b]/\u=.agg #[.int .i64 a,.int .i64 b]:=by
 obtain⟨a,b,rfl⟩:=Rt h
 refine⟨a,b,rfl,?_⟩
 cases hx with
 |agg _ us hl ho hr=>
  have hs:us.size=2:=by simpa using hl.symm
  have h0:=hr 0 (by simp) (by omega)
  have h1:=hr 1 (by simp) (by omega)
  simp only[List.getElem_cons_zero,List.getElem_cons_succ]at h0 h1
  have e:us= #[us[0],us[1]]:=by
   apply Array.ext
   ·simp[hs]
   ·intro i h2 h3
    have :i=0\/i=1:=by omega
    rcases this with rfl | rfl<;>rfl
  rw[e]
  generalize hq0:us[0]=q0 at *
  generalize BH:us[1]=q1 at *
  cases h0
  cases h1
  rfl
structure XT (P:Program) (kt:TypeId) (f g:Field):Prop where
 st:∃ fs,P.underlying kt=some (.struct fs)/\fs.toList=[f,g]
 held:P.stoodInHeld kt=false
 nf:f.name≠ "_"
 ng:g.name≠ "_"
 of:f.offset=0
 og:g.offset=1
 tf:P.underlying f.type=some (.int .i64)
 tg:P.underlying g.type=some (.int .i64)
 af:aX P f.type=some (false,1)
 ag:aX P g.type=some (false,1)
theorem Em{P:Program}{T:TypeId}{k:IntKind}(h:lj P T=some k):P.underlying T=some (.int k):=by
 unfold lj at h
 split at h
 ·rename_i h1;cases h;exact h1
 ·cases h
theorem Aj{P:Program}{kt:TypeId}(h:pO P kt=true):∃ f g,XT P kt f g:=by
 unfold pO at h
 split at h
 ·rename_i fs hu
  split at h
  ·rename_i f g hl
   simp only[Bool.and_eq_true,decide_eq_true_eq,Bool.not_eq_true',beq_eq_false_iff_ne]at h
   obtain⟨⟨⟨⟨⟨⟨⟨⟨h1,h2⟩,h3⟩,h4⟩,h5⟩,h6⟩,h7⟩,h8⟩,h9⟩:=h
   exact⟨f,g,⟨fs,hu,hl⟩,h1,h2,h3,Nat.eq_of_beq_eq_true h4,Nat.eq_of_beq_eq_true h5,Em h6,Em h7,h8,h9⟩
  ·cases h
 ·cases h
theorem OP{P:Program}{kt:TypeId}(h:pO P kt=true)(a b c d:Int)(w:World):
 (Op.equal kt (.agg #[.int .i64 a,.int .i64 b]) (.agg #[.int .i64 c,.int .i64 d])).run P w=.ok (a==c&&b==d) w:=by
 obtain⟨f,g,⟨fs,hu,oY⟩,h1,h2,h3,h4,h5,h6,h7,h8,h9⟩:=Aj h
 have hp:(Sem.run P program w)=.ok P w:=rfl
 have e0:∀ x y:Value,(part f.type #[x,y] 0).run P w=.ok x w:=fun x y=>(ox h8 #[x,y] 0 (fun _=>by simp) w).trans (by simp[Array.getD])
 have e1:∀ x y:Value,(part g.type #[x,y] 1).run P w=.ok y w:=fun x y=>(ox h9 #[x,y] 1 (fun _=>by simp) w).trans (by simp[Array.getD])
 suffices key:∀ n,(Op.equalIn (n+1+1) kt (.agg #[.int .i64 a,.int .i64 b]) (.agg #[.int .i64 c,.int .i64 d])).run P w=.ok (a==c&&b==d) w from key 9998
 intro n
 have i0:∀ a b:Int,(Op.equalIn (n+1) f.type (.int .i64 a) (.int .i64 b)).run P w=.ok (a==b) w:=fun a b=>by simp[Op.equalIn,run_underlying h6 w]
 have i1:∀ a b:Int,(Op.equalIn (n+1) g.type (.int .i64 a) (.int .i64 b)).run P w=.ok (a==b) w:=fun a b=>by simp[Op.equalIn,run_underlying h7 w]
 unfold Op.equalIn
 simp only[Sem.run_bind,run_underlying hu w,Result.andThen_ok,hp,h1,Bool.false_eq_true,if_false,Sem.run_ite]
 rw[<-Array.forIn_toList,oY]
 simp only[List.forIn_cons,List.forIn_nil,h2,h3,h4,h5,ne_eq,not_false_eq_true,if_true,Sem.run_bind,e0,e1,i0,i1,Result.andThen_ok]
 by_cases q:a=c<;>by_cases q2:b=d<;>simp[q,q2,e0,e1,i0,i1]
theorem OR{P:Program}{kt:TypeId}(h:pO P kt=true)(a b:Int)(e:Bool)(n:Nat)(w:World):
 (Instr.checkKey e (n+2) kt (.agg #[.int .i64 a,.int .i64 b])).run P w=.ok () w:=by
 obtain⟨f,g,⟨fs,hu,oY⟩,h1,h2,h3,h4,h5,h6,h7,h8,h9⟩:=Aj h
 have e0:∀ x y:Value,(part f.type #[x,y] 0).run P w=.ok x w:=fun x y=>(ox h8 #[x,y] 0 (fun _=>by simp) w).trans (by simp[Array.getD])
 have e1:∀ x y:Value,(part g.type #[x,y] 1).run P w=.ok y w:=fun x y=>(ox h9 #[x,y] 1 (fun _=>by simp) w).trans (by simp[Array.getD])
 have i0:∀ v:Int,(Instr.checkKey e (n+1) f.type (.int .i64 v)).run P w=.ok () w:=fun v=>MapKept.run_checkKey h6 (by simp[MapKept.IsKey]) e n
 have i1:∀ v:Int,(Instr.checkKey e (n+1) g.type (.int .i64 v)).run P w=.ok () w:=fun v=>MapKept.run_checkKey h7 (by simp[MapKept.IsKey]) e n
 unfold Instr.checkKey
 simp only[Sem.run_bind,run_underlying hu w,Result.andThen_ok]
 rw[<-Array.forIn_toList,oY]
 simp[h2,h3,h4,h5,e0,e1,i0,i1,Array.getD]
theorem z1{P:Program}{kt:TypeId}{kd:Nat}(hk:zm P kt kd){m:Mem}{x:V}{u:Value}(hx:aK m x u)(h:dE kd x=true)(e:Bool)(w:World):
 (Instr.checkKey e 10000 kt u).run P w=.ok () w:=by
 rcases hk with⟨rfl,hd⟩ | ⟨rfl,hd⟩ | ⟨rfl,hd⟩
 ·exact MapKept.run_checkKey hd (si (.inl ⟨rfl,rfl⟩) hx h) e 9999
 ·exact MapKept.run_checkKey hd (si (.inr ⟨rfl,rfl⟩) hx h) e 9999
 ·obtain⟨a,b,rfl,rfl⟩:=w5 hx h
  exact OR hd a b e 9998 w
theorem OO{P:Program}{kd:Nat}{m:Mem}{x:V}{u:Value}(kE:kd<=2)(hx:aK m x u)(h:dE kd x=true)(w:World):(Instr.keyThatStays u u).run P w=.ok u w:=by
 have :kd=0\/kd=1\/kd=2:=by omega
 rcases this with rfl | rfl | rfl
 ·exact MapKept.run_keyThatStays (si (d:=.int .i64) (.inl ⟨rfl,rfl⟩) hx h)
 ·exact MapKept.run_keyThatStays (si (d:=.string) (.inr ⟨rfl,rfl⟩) hx h)
 ·obtain⟨a,b,rfl,rfl⟩:=w5 hx h
  have :Instr.sameBits 10000 (.agg #[.int .i64 a,.int .i64 b]) (.agg #[.int .i64 a,.int .i64 b])=true:=by
   simp[Instr.sameBits]
  simp[Instr.keyThatStays,this]
theorem Rs{P:Program}{kt:TypeId}{kd:Nat}(hk:zm P kt kd):kd<=2:=by
 rcases hk with⟨rfl,_⟩ | ⟨rfl,_⟩ | ⟨rfl,_⟩<;>omega
theorem J2{P:Program}{kt:TypeId}(hp:pO P kt=true){m:Mem}{x:V}{u:Value}(hx:aK m x u)(hk:dE 2 x=true)(z:V)(w:World):
 ∀ (es:List (V×V)) (ents:List MapEntry) (i:Nat),es.length=ents.length->(∀ p∈es,dE 2 p.1=true)->
   (∀ j (h:j<es.length) (h':j<ents.length),aK m es[j].1 ents[j].key/\aK m es[j].2 ents[j].val)->
   (el es x=none/\(Instr.findAsking kt u ents i).run P w=.ok none w/\dt es x z=es++[(x,z)])\/
   ∃ (j:Nat) (h:j<es.length) (h':j<ents.length),el es x=some es[j].2/\(Instr.findAsking kt u ents i).run P w=.ok (some (i+j,ents[j].val)) w/\ents[j].key=u/\dt es x z=es.set j (x,z)
 |[],ents,i,hl,_,_=>by
  have :ents=[]:=by cases ents<;>simp_all
  subst this
  exact .inl ⟨rfl,rfl,rfl⟩
 |(k',y)::r,[],i,hl,_,_=>by simp at hl
 |(k',y)::r,e::ents,i,hl,oW,hr=>by
  have h0:=hr 0 (by simp) (by simp)
  simp only[List.getElem_cons_zero]at h0
  have hJ:dE 2 k'=true:=oW (k',y) (by simp)
  obtain⟨a,b,SQ,IH⟩:=w5 hx hk
  obtain⟨c,d,TF,xk⟩:=w5 h0.1 hJ
  have hs:(Op.equal kt u e.key).run P w=.ok (a==c&&b==d) w:=by rw[IH,xk];exact OP hp a b c d w
  have hq:eK k' x=(a==c&&b==d):=by
   rw[SQ,TF]
   show (c==a&&d==b)=_
   rw[Bool.eq_iff_iff]
   simp only[Bool.and_eq_true,beq_iff_eq]
   exact⟨fun h=>⟨h.1.symm,h.2.symm⟩,fun h=>⟨h.1.symm,h.2.symm⟩⟩
  cases hb:(a==c&&b==d)with
  |true=>
   rw[hb]at hs hq
   refine .inr ⟨0,by simp,by simp,by simp[el,hq],by simp[Instr.findAsking,hs],?_,by simp[dt,hq]⟩
   simp only[Bool.and_eq_true,beq_iff_eq]at hb
   simp only[List.getElem_cons_zero]
   rw[IH,xk,hb.1,hb.2]
  |false=>
   rw[hb]at hs hq
   rcases J2 hp hx hk z w r ents (i+1) (by simpa using hl) (fun p hp=>oW p (by simp[hp])) (fun j h h'=>hr (j+1) (by simpa using h) (by simpa using h'))with⟨h1,h2,h3⟩ | ⟨j,h,h',h1,h2,h3,h4⟩
   ·exact .inl ⟨by simp[el,hq,h1],by simp[Instr.findAsking,hs,h2],by simp[dt,hq,h3]⟩
   ·refine .inr ⟨j+1,by simpa using h,by simpa using h',by simp[el,hq,h1],?_,by simpa using h3,by simp[dt,hq,h4]⟩
    simp only[Instr.findAsking,Sem.run_bind,hs,Result.andThen_ok,Bool.false_eq_true,if_false,h2,List.getElem_cons_succ]
    rw[show i+1+j=i+(j+1)by omega]
theorem CE{P:Program}{kt:TypeId}{kd:Nat}(hT:zm P kt kd){m:Mem}{x:V}{u:Value}(hx:aK m x u)(hk:dE kd x=true)(z:V)(w:World)
 (es:List (V×V)) (ents:List MapEntry) (hl:es.length=ents.length) (oW:∀ p∈es,dE kd p.1=true)
 (hr:∀ j (h:j<es.length) (h':j<ents.length),aK m es[j].1 ents[j].key/\aK m es[j].2 ents[j].val):
   (el es x=none/\(Instr.findKey kt u ents).run P w=.ok none w/\dt es x z=es++[(x,z)])\/
   ∃ (j:Nat) (h:j<es.length) (h':j<ents.length),el es x=some es[j].2/\(Instr.findKey kt u ents).run P w=.ok (some (j,ents[j].val)) w/\ents[j].key=u/\dt es x z=es.set j (x,z):=by
 have plain:∀ d,P.underlying kt=some d->((kd=0/\d=.int .i64)\/(kd=1/\d=.string))->(el es x=none/\(Instr.findKey kt u ents).run P w=.ok none w/\dt es x z=es++[(x,z)])\/
     ∃ (j:Nat) (h:j<es.length) (h':j<ents.length),el es x=some es[j].2/\(Instr.findKey kt u ents).run P w=.ok (some (j,ents[j].val)) w/\ents[j].key=u/\dt es x z=es.set j (x,z):=by
  intro d hd kE
  rcases J0 kE hx hk z es ents 0 hl oW hr with⟨h1,h2,h3⟩ | ⟨j,h,h',h1,h2,h3,h4⟩
  ·exact .inl ⟨h1,MapKept.run_findKey hd h2,h3⟩
  ·exact .inr ⟨j,h,h',h1,by rw[Nat.zero_add]at h2;exact MapKept.run_findKey hd h2,h3,h4⟩
 rcases hT with⟨rfl,hd⟩ | ⟨rfl,hd⟩ | ⟨rfl,hp⟩
 ·exact plain _ hd (.inl ⟨rfl,rfl⟩)
 ·exact plain _ hd (.inr ⟨rfl,rfl⟩)
 ·have key:(Instr.findKey kt u ents).run P w=(Instr.findAsking kt u ents).run P w:=by
    obtain⟨f,g,⟨fs,hu,_⟩,_⟩:=Aj hp
    cases ents with
    |nil=>simp[Instr.findKey,run_underlying hu w,Instr.findNow,Instr.findAsking]
    |cons e r=>
     have :Instr.sameNow (.struct fs) u e.key=none:=by
      cases u<;>rfl
     simp[Instr.findKey,run_underlying hu w,Instr.findNow,this]
  rw[key]
  rcases J2 hp hx hk z w es ents 0 hl oW hr with⟨h1,h2,h3⟩ | ⟨j,h,h',h1,h2,h3,h4⟩
  ·exact .inl ⟨h1,h2,h3⟩
  ·exact .inr ⟨j,h,h',h1,by rw[Nat.zero_add]at h2;exact h2,h3,h4⟩
def kR(P:Program)(obj:Name->Option O)(T:TypeId)(x k:D)(KH:Bool):R:=
 match i5 P T with
 |some (kd,e)=>match (a8 P e).bind fun z=>dG (gV z),dG k with
  |some z,some kv=>match x with
   | .nilmap=>⟨kd<=2/\dE kd kv=true,if KH then .tup [.v z,.v (.bool false)]else .v z,obj⟩
   | .map nm=>match obj nm with
     |some (.map jf es)=>⟨kd<=2/\dE kd kv=true/\jf=kd,if KH then .tup [.v ((el es kv).getD z),.v (.bool (el es kv).isSome)]else .v ((el es kv).getD z),obj⟩
     |_=>.bad obj
   |_=>.bad obj
  |_,_=>.bad obj
 |none=>.bad obj
theorem z8{φ:Name->Loc}{obj:Name->Option O}{m:Mem}{z:V}{u:Value}{b:Bool}(h:aK m z u):aA φ obj m (.tup [.v z,.v (.bool b)]) (.tuple #[u,.bool b]):=by
 refine .tup _ _ rfl fun i h1 h2=>?_
 match i,h1 with
 | 0,_=>exact .v _ _ h
 | 1,_=>exact .v _ _ (.bool b)
theorem Nw{P:Program}{G:Ghost}{φ:Name->Loc}{m:Mem}{σ:S}{a:Act}{w:World}(hC:aM G φ m σ a w){T:TypeId}{x k:D}{u uk:Value}{co:Bool}
 (hx:aA φ σ.obj m x u) (hk:aA φ σ.obj m k uk) (aa:(kR P σ.obj T x k co).ok):
 ∃ v,(Instr.lookup T u uk co).run P w=.ok v w/\aA φ σ.obj m (kR P σ.obj T x k co).d v/\(kR P σ.obj T x k co).obj=σ.obj:=by
 unfold kR at aa |-
 cases hT:i5 P T with
 |none=>simp only[hT]at aa;exact aa.elim
 |some p=>
 obtain⟨kd,e⟩:=p
 simp only[hT]at aa |-
 split at aa
 ·rename_i z kv hz qn
  have hk:=mR hk qn
  cases uz:a8 P e with
  |none=>simp[uz]at hz
  |some zv=>
  simp only[uz,Option.bind_some]at hz
  have fj:aK m z zv:=mR (rY (φ:=φ) (obj:=σ.obj) (m:=m) zv) hz
  try simp only[uz,Option.bind_some,hz,qn]
  split at aa
  ·obtain⟨h1,h2⟩:=aa
   obtain⟨kt,hu,kE⟩:=zF hT
   cases hx
   refine⟨if co then .tuple #[zv,.bool false]else zv,?_,?_,rfl⟩
   ·have hS:=z1 kE hk h2 true w
    have nK:(Instr.findKey kt uk []).run P w=.ok none w:=by
     rcases CE kE hk h2 z w [] [] rfl (fun _ h=>by cases h) (fun _ h=>by cases h)with⟨_,h,_⟩ | ⟨_,h,_⟩
     ·exact h
     ·cases h
    simp[Instr.lookup,run_underlying hu,hS,nK,tF uz]
    try (split<;>rfl)
   ·cases co with
    |true=>exact z8 fj
    |false=>exact .v _ _ fj
  ·rename_i nm
   split at aa
   ·rename_i jf es ax
    obtain⟨h1,h2,h3⟩:=aa
    subst h3
    obtain⟨kt,hu,kE⟩:=zF hT
    simp only[ax]
    cases hx with
    |map _ hx=>
    obtain⟨g0,g1,o7,ents,clock,g2,g3,g4⟩:=hC.objs nm _ ax
    have hS:=z1 kE hk h2 ents.isEmpty w
    have uV:=MapKept.run_getObj_map (P:=P) g2
    rcases CE kE hk h2 z w es ents.toList (by simp[g3]) o7 (fun j a b=>by simpa using g4 j a (by simpa using b))with⟨a1,a2,_⟩ | ⟨j,h,h',a1,a2,a3,_⟩
    ·refine⟨if co then .tuple #[zv,.bool false]else zv,?_,?_,trivial⟩
     ·have nK:=a2
      simp[Instr.lookup,run_underlying hu,uV,hS,nK,tF uz]
      try (split<;>rfl)
     ·rw[a1]
      simp only[Option.getD_none,Option.isSome_none]
      cases co with
      |true=>exact z8 fj
      |false=>exact .v _ _ fj
    ·have fL:j<ents.size:=by simpa using h'
     refine⟨if co then .tuple #[ents[j].val,.bool true]else ents[j].val,?_,?_,trivial⟩
     ·have nK:=a2
      simp[Instr.lookup,run_underlying hu,uV,hS,nK]
      try (split<;>rfl)
     ·simp only[a1,Option.getD_some,Option.isSome_some]
      have :=(g4 j h fL).2
      cases co with
      |true=>exact z8 this
      |false=>exact .v _ _ this
   ·exact aa.elim
  ·exact aa.elim
 ·exact aa.elim
def iZ(P:Program)(obj:Name->Option O)(T:TypeId)(x k d:D):R:=
 match i5 P T,x,dG k,dG d with
 |some (kd,_),.map nm,some kv,some y=>match obj nm with
  |some (.map jf es)=>⟨kd<=2/\dE kd kv=true/\jf=kd,.any,upd obj nm (some (.map jf (dt es kv y)))⟩
  |_=>.bad obj
 |_,_,_,_=>.bad obj
theorem EH{P:Program}{G:Ghost}{φ:Name->Loc}{m:Mem}{σ:S}{a:Act}{w:World}(hC:aM G φ m σ a w){T:TypeId}{x k d:D}{u uk ud:Value}
 (hx:aA φ σ.obj m x u) (hk:aA φ σ.obj m k uk) (o4:aA φ σ.obj m d ud) (aa:(iZ P σ.obj T x k d).ok):
 ∃ w',(Instr.mapUpdate T u uk ud).run P w=.ok () w'/\∃ φ' m',aM G φ' m' { σ with obj:=(iZ P σ.obj T x k d).obj } a w':=by
 unfold iZ at aa |-
 split at aa
 ·rename_i kd e nm kv y hT qn hy
  split at aa
  ·rename_i jf es ax
   obtain⟨h1,h2,h3⟩:=aa
   subst h3
   obtain⟨kt,hu,kE⟩:=zF hT
   simp only[hT,qn,hy,ax]
   cases hx with
   |map _ hx=>
   have hk:=mR hk qn
   have xg:=mR o4 hy
   obtain⟨g0,g1,o7,ents,clock,g2,g3,g4⟩:=hC.objs nm _ ax
   have lU:(φ nm).blk<w.heap.size:=(Array.getElem?_eq_some_iff.1 g2).1
   have hS:=z1 kE hk h2 false w
   have uV:=MapKept.run_getObj_map (P:=P) g2
   have bn:=Ext.same (φ:=φ) (o':=.map jf (dt es kv y)) ax rfl rfl
   have fin:∀ pb yx,pb.size=(dt es kv y).length->(∀ j (h:j<(dt es kv y).length) (h':j<pb.size),aK m (dt es kv y)[j].1 pb[j].key/\aK m (dt es kv y)[j].2 pb[j].val)->
       (∀ q∈dt es kv y,dE jf q.1=true)->
       aM G φ m { σ with obj:=upd σ.obj nm (some (.map jf (dt es kv y))) } a (cv w (φ nm).blk (.map pb yx)):=by
    intro pb yx e1 e2 e3
    have :=hC.chg (w':=cv w (φ nm).blk (.map pb yx)) nm (.map jf (dt es kv y)) (φ nm) bn ⟨rfl,rfl,rfl,by simp[cv]⟩
     (fun b hb hn=>od (by rcases hn with h | h; · rw[g1]at h;cases h
                          ·exact h))
     (fun _=>.inr ⟨⟨_,ax,rfl,g1⟩,rfl⟩) ⟨g0,g1,e3,pb,yx,pD lU,e1,e2⟩
    rwa [fx]at this
   rcases CE kE hk h2 y w es ents.toList (by simp[g3]) o7 (fun j a b=>by simpa using g4 j a (by simpa using b))with⟨a1,a2,a3⟩ | ⟨j,h,h',a1,a2,a3,a4⟩
   ·have nK:=a2
    refine⟨cv w (φ nm).blk (.map (ents.push { key:=uk,val:=ud,born:=clock }) (clock+1)),?_,φ,m,?_⟩
    ·simp[Instr.mapUpdate,run_underlying hu,uV,hS,nK,MapKept.run_setObj_map _ g2]
     rfl
    ·rw[a3]at fin |-
     refine fin _ _ (by simp[g3]) (fun j h h'=>?_) (fun q hq=>?_)
     ·by_cases hj:j<es.length
      ·rw[List.getElem_append_left hj,Array.getElem_push_lt (by omega)]
       exact g4 j hj (by omega)
      ·have TG:j=es.length:=by simp at h;omega
       subst TG
       simp only[List.getElem_append_right (Nat.le_refl _),Nat.sub_self,List.getElem_cons_zero]
       have :(ents.push { key:=uk,val:=ud,born:=clock })[es.length]={ key:=uk,val:=ud,born:=clock }:=by
        simp[<-g3]
       rw[this]
       exact⟨hk,xg⟩
     ·rcases List.mem_append.1 hq with hq | hq
      ·exact o7 q hq
      ·simp only[List.mem_singleton]at hq;subst hq;exact h2
   ·have nK:=a2
    have fL:j<ents.size:=by simpa using h'
    have Xq:ents[j].key=uk:=by simpa using a3
    refine⟨cv w (φ nm).blk (.map (ents.modify j fun e=>{ e with key:=uk,val:=ud }) clock),?_,φ,m,?_⟩
    ·simp[Instr.mapUpdate,run_underlying hu,uV,hS,nK,Array.getElem?_eq_getElem fL,Xq,OO (P:=P) (Rs kE) hk h2 w,MapKept.run_setObj_map _ g2]
     rfl
    ·rw[a4]at fin |-
     refine fin _ _ (by simp[g3]) (fun q hq bX=>?_) (fun q hq=>?_)
     ·simp only[List.getElem_set,Array.getElem_modify]
      by_cases hj:j=q
      ·subst hj;simp only[if_true];exact⟨hk,xg⟩
      ·simp only[hj,if_false];exact g4 q (by simpa using hq) (by simpa using bX)
     ·rcases List.mem_or_eq_of_mem_set hq with hq | hq
      ·exact o7 q hq
      ·subst hq;exact h2
  ·exact aa.elim
 ·exact aa.elim
def oA(P:Program)(T:TypeId)(l:List V)(off:Nat):Option V:=
 match aX P T with
 |some (true,n)=>if off+n<=l.length then some (.agg ((l.drop off).take n))else none
 |some (false,_)=>l[off]?
 |none=>none
def mK(P:Program)(g:TypeId->V->V->Option Bool):List Field->List V->List V->Option Bool
 |[],_,_=>some true
 |f::r,xs,ys=>if f.name= "_" then mK P g r xs ys else
  match oA P f.type xs f.offset,oA P f.type ys f.offset with
  |some a,some b=>match g f.type a b with
   |some true=>mK P g r xs ys
   |some false=>some false
   |none=>none
  |_,_=>none
def gJ(P:Program):Nat->TypeId->V->V->Option Bool
 | 0,_,_,_=>none
 |d+1,T,x,y=>match P.underlying T with
  |some .bool=>match x,y with | .bool a,.bool b=>some (a==b) | _,_=>none
  |some (.int _)=>match x,y with | .int k a,.int k' b=>if k=k' then some (a==b)else none | _,_=>none
  |some .string=>match x,y with | .str a,.str b=>some (a==b) | _,_=>none
  |some (.struct fs)=>match x,y with | .agg xs,.agg ys=>if P.stoodInHeld T=true then none else mK P (gJ P d) fs.toList xs ys | _,_=>none
  |_=>none
theorem ER{P:Program}{m:Mem}{T:TypeId}{xs:List V}{us:Array Value}{off:Nat}{a:V}(h:oA P T xs off=some a)(hl:xs.length=us.size)(ho:∀ x∈xs,x.one=true)
 (hr:∀ i (h:i<xs.length) (h':i<us.size),aK m xs[i] us[i]) (w:World):∃ u,(part T us off).run P w=.ok u w/\aK m a u:=by
 unfold oA at h
 split at h
 ·rename_i n hT
  split at h
  ·rename_i hle
   cases h
   refine⟨_,ox hT us off (fun h=>by cases h) w,?_⟩
   simp only[if_true]
   refine .agg _ _ (by simp;omega) (fun x hx=>ho x (List.mem_of_mem_drop (List.mem_of_mem_take hx))) fun i h1 h2=>?_
   simp only[List.length_take,List.length_drop]at h1
   simp only[List.getElem_take,List.getElem_drop,Array.getElem_extract]
   exact hr (off+i) (by omega) (by omega)
  ·cases h
 ·rename_i n hT
  obtain⟨ae,rfl⟩:=List.getElem?_eq_some_iff.1 h
  refine⟨_,ox hT us off (fun _=>by omega) w,?_⟩
  have au:off<us.size:=by omega
  simp only[Bool.false_eq_true,if_false]
  have :us.getD off undef=us[off]:=by simp[Array.getD,au]
  rw[this]
  exact hr off ae au
 ·cases h
theorem Kg{P:Program}{m:Mem}(w:World):∀ (d:Nat) (T:TypeId) (x y:V) (u v:Value) (b:Bool),gJ P d T x y=some b->aK m x u->aK m y v->(Op.equalIn d T u v).run P w=.ok b w
 | 0,T,x,y,u,v,b,h,_,_=>by simp[gJ]at h
 |d+1,T,x,y,u,v,b,h,hx,hy=>by
  have ih:=Kg (P:=P) (m:=m) w d
  have fields:∀ (fs:List Field) (xs ys:List V) (us vs:Array Value) (b:Bool),mK P (gJ P d) fs xs ys=some b->aK m (.agg xs) (.agg us)->aK m (.agg ys) (.agg vs)->
      (forIn (m:=Sem) fs ((none,()):Option Bool×Unit) (fun f _=>do
        if f.name≠ "_" then
          if !(<-Op.equalIn d f.type (<-part f.type us f.offset) (<-part f.type vs f.offset))then pure (ForInStep.done (some false,()))
          else pure (ForInStep.yield (none,()))
        else pure (ForInStep.yield (none,())))).run P w=.ok (if b then(none,())else(some false,())) w:=by
   intro fs
   induction fs with
   |nil=>
    intro xs ys us vs b h _ _
    simp only[mK,Option.some.injEq]at h
    subst h
    rfl
   |cons f r Ix=>
    intro xs ys us vs b h hx hy
    simp only[mK]at h
    rw[List.forIn_cons]
    by_cases hn:f.name= "_"
    ·rw[if_pos hn]at h
     simp only[hn,ne_eq,not_true_eq_false,if_false,Sem.run_bind,Sem.run_pure,Result.andThen_ok]
     exact Ix xs ys us vs b h hx hy
    ·rw[if_neg hn]at h
     simp only[hn,ne_eq,not_false_eq_true,if_true]
     split at h
     ·rename_i a1 b1 ha hb
      cases hx with
      |agg _ _ sy xz dS=>
      cases hy with
      |agg _ _ fH xy fa=>
      obtain⟨u1,gZ,eN⟩:=ER ha sy xz dS w
      obtain⟨v1,IE,xi⟩:=ER hb fH xy fa w
      split at h
      ·rename_i he
       have :=ih f.type a1 b1 u1 v1 true he eN xi
       simp only[Sem.run_bind,gZ,Result.andThen_ok,IE,this,Bool.not_true,Bool.false_eq_true,if_false,Sem.run_pure,Sem.run_ite]
       exact Ix xs ys us vs b h (.agg _ _ sy xz dS) (.agg _ _ fH xy fa)
      ·rename_i he
       cases h
       have :=ih f.type a1 b1 u1 v1 false he eN xi
       simp only[Sem.run_bind,gZ,Result.andThen_ok,IE,this,Bool.not_false,if_true,Sem.run_pure,Sem.run_ite]
       rfl
      ·cases h
     ·cases h
  simp only[gJ]at h
  split at h
  ·rename_i hT
   split at h
   ·cases hx;cases hy
    cases h
    simp[Op.equalIn,run_underlying hT w]
   ·cases h
  ·rename_i k hT
   split at h
   ·cases hx;cases hy
    split at h
    ·rename_i hk
     cases h
     simp[Op.equalIn,run_underlying hT w,hk]
    ·cases h
   ·cases h
  ·rename_i hT
   split at h
   ·cases hx;cases hy
    cases h
    simp[Op.equalIn,run_underlying hT w]
   ·cases h
  ·rename_i fs hT
   split at h
   ·rename_i xs ys
    split at h
    ·cases h
    ·rename_i hs
     cases hx with
     |agg _ us sy xz dS=>
     cases hy with
     |agg _ vs fH xy fa=>
     have hf:=fields fs.toList xs ys us vs b h (.agg _ _ sy xz dS) (.agg _ _ fH xy fa)
     have hp:(Sem.run P program w)=.ok P w:=rfl
     unfold Op.equalIn
     simp only[Sem.run_bind,run_underlying hT w,Result.andThen_ok,hp,hs,Bool.false_eq_true,if_false,Sem.run_ite]
     rw[<-Array.forIn_toList]
     rw[hf]
     cases b<;>rfl
   ·cases h
  ·cases h
def ir(P:Program)(obj:Name->Option O)(op:BinOp)(T:TypeId)(x y:V):R:=
 match gJ P Op.maxDepth T x y with
 |some b=>⟨P.eqGuardType P.depth T=false/\(op=.eql\/op=.neq),.v (.bool (if op=.eql then b else !b)),obj⟩
 |none=>.bad obj
def n9(P:Program)(obj:Name->Option O)(op:BinOp)(T:TypeId)(x:D):R:=
 match x with
 | .v (.sl (_::_))=>⟨cT P T=some 0/\(op=.eql\/op=.neq),.v (.bool (if op=.eql then false else true)),obj⟩
 | .msl nm (k+1)=>⟨(obj nm).bind O.len?=some (k+1)/\cT P T=some 0/\(op=.eql\/op=.neq),.v (.bool (if op=.eql then false else true)),obj⟩
 |_=>.bad obj
def w7:Operand->Bool
 | .const (.slice none _ _)=>true
 |_=>false
def kZ(P:Program)(obj:Name->Option O)(op:BinOp)(T:TypeId)(x y:D)(jG:Bool):R:=
 match jG with
 |true=>n9 P obj op T x
 |false=>match dG x,dG y with
  |some (.agg a),some (.agg b)=>ir P obj op T (.agg a) (.agg b)
  |_,_=>l7 P obj op T x y
theorem OQ{P:Program}{T e:TypeId}(hu:P.underlying T=some (.slice e))(d:Nat)(p:Addr)(k c' n c:Nat)(w:World):(Op.equalIn (d+1) T (.slice (some p) k c') (.slice none n c)).run P w=.ok false w:=by
 simp[Op.equalIn,run_underlying hu w]
theorem Ns{P:Program}{G:Ghost}{φ:Name->Loc}{m:Mem}{σ:S}{a:Act}{w:World}(hC:aM G φ m σ a w){T:TypeId}{op:BinOp}{x:D}{u:Value}{cx cy:Operand}{n c:Nat}(hx:aA φ σ.obj m x u)
 (aa:(n9 P σ.obj op T x).ok):
 ∃ r,(do eqGuard op T cx cy u (.slice none n c);binOp op T u (.slice none n c):Sem Value).run P w=.ok r w/\aA φ σ.obj m (n9 P σ.obj op T x).d r/\(n9 P σ.obj op T x).obj=σ.obj:=by
 have key:∀ (p:Addr) (k c':Nat),u=.slice (some p) k c'->cT P T=some 0->(op=.eql\/op=.neq)->
     (do eqGuard op T cx cy u (.slice none n c);binOp op T u (.slice none n c):Sem Value).run P w=.ok (.bool (if op=.eql then false else true)) w:=by
  rintro p k c' rfl hT ho
  obtain⟨e,hu⟩:=MZ hT
  have he:(Op.equal T (.slice (some p) k c') (.slice none n c)).run P w=.ok false w:=by
   exact OQ hu 9999 p k c' n c w
  rcases ho with rfl | rfl
  ·have h1:binOp .eql T (.slice (some p) k c') (.slice none n c)=(do pure (.bool (<-Op.equal T (.slice (some p) k c') (.slice none n c)))):=rfl
   rw[h1]
   simp[eqGuard,he]
  ·have h1:binOp .neq T (.slice (some p) k c') (.slice none n c)=(do pure (.bool (!(<-Op.equal T (.slice (some p) k c') (.slice none n c))))):=rfl
   rw[h1]
   simp[eqGuard,he]
 unfold n9 at aa |-
 split at aa
 ·rename_i y r
  cases hx with
  |v _ _ hx=>
  cases hx with
  |sl _ b o cap sz c' hn hl hU hs hc hr ho=>exact⟨_,key _ _ _ rfl aa.1 aa.2,.v _ _ (.bool _),rfl⟩
 ·rename_i nm k
  obtain⟨h1,h2,h3⟩:=aa
  cases hx with
  |msl _ _ _ hq hu=>
  obtain⟨o,n',ho,hlen,hk,hv⟩:=hq
  simp only[ho,Option.bind_some]at h1
  rw[hlen]at h1
  cases h1
  have hv:=hv rfl
  obtain⟨b,c',h4,_⟩:=zN (P:=P) hC ho hlen
  have c0:(φ nm).nul=false:=by
   have :=hC.objs nm o ho
   cases o with
   |arr sz l=>
    simp only[O.len?,Option.some.injEq]at hlen
    rcases this with⟨_,h⟩ | ⟨h,_⟩
    ·subst h;simp at hlen
    ·exact h
   |farr sz l=>
    simp only[O.len?,Option.some.injEq]at hlen
    rcases this with⟨_,h⟩ | ⟨h,_⟩
    ·subst h;simp at hlen
    ·exact h
   |dead sz q=>
    simp only[O.len?,Option.some.injEq]at hlen
    rcases this with⟨_,h⟩ | ⟨h,_⟩
    ·omega
    ·exact h
   |_=>cases hlen
  have hs:(φ nm).slice (k+1)=.slice (some ⟨(φ nm).blk,(φ nm).off,none⟩) (k+1) (φ nm).cap:=by unfold Loc.slice;rw[c0];rfl
  exact⟨_,key _ _ _ (hv.trans hs) h2 h3,.v _ _ (.bool _),rfl⟩
 ·exact aa.elim
theorem ND{P:Program}{φ:Name->Loc}{obj:Name->Option O}{m:Mem}{T:TypeId}{op:BinOp}{x y:List V}{u v:Value}{cx cy:Operand}(w:World)(hx:aK m (.agg x) u)(hy:aK m (.agg y) v)
 (aa:(ir P obj op T (.agg x) (.agg y)).ok):
 ∃ r,(do eqGuard op T cx cy u v;binOp op T u v:Sem Value).run P w=.ok r w/\aA φ obj m (ir P obj op T (.agg x) (.agg y)).d r/\(ir P obj op T (.agg x) (.agg y)).obj=obj:=by
 unfold ir at aa |-
 split at aa
 ·rename_i b hb
  obtain⟨h1,h2⟩:=aa
  have he:(Op.equal T u v).run P w=.ok b w:=Kg w _ T _ _ u v b hb hx hy
  have hp:(Sem.run P program w)=.ok P w:=rfl
  cases hx with
  |agg _ us _ _ _=>
  cases hy with
  |agg _ vs _ _ _=>
  refine⟨.bool (if op=.eql then b else !b),?_,?_,?_⟩
  ·rcases h2 with rfl | rfl
   ·have h3:binOp .eql T (.agg us) (.agg vs)=(do pure (.bool (<-Op.equal T (.agg us) (.agg vs)))):=rfl
    rw[h3]
    simp[eqGuard,he,hp,h1]
   ·have h3:binOp .neq T (.agg us) (.agg vs)=(do pure (.bool (!(<-Op.equal T (.agg us) (.agg vs))))):=rfl
    rw[h3]
    simp[eqGuard,he,hp,h1]
  ·first | exact .v _ _ (.bool _) | (rw[hb];exact .v _ _ (.bool _))
  ·first | rfl | (rw[hb])
 ·exact aa.elim
theorem NJ{P:Program}{G:Ghost}{φ:Name->Loc}{m:Mem}{σ:S}{a:Act}{w:World}(hC:aM G φ m σ a w){T:TypeId}{op:BinOp}{x y:D}{u v:Value}{cx cy:Operand}{jG:Bool}
 (hx:aA φ σ.obj m x u) (hy:aA φ σ.obj m y v) (hn:jG=true->∃ n c,v=.slice none n c) (aa:(kZ P σ.obj op T x y jG).ok):
 ∃ r,(do eqGuard op T cx cy u v;binOp op T u v:Sem Value).run P w=.ok r w/\aA φ σ.obj m (kZ P σ.obj op T x y jG).d r/\(kZ P σ.obj op T x y jG).obj=σ.obj:=by
 unfold kZ at aa |-
 cases jG with
 |true=>
  obtain⟨n,c,rfl⟩:=hn rfl
  exact Ns hC hx aa
 |false=>
  simp only at aa |-
  split at aa
  ·rename_i l1 l2 h1 h2
   exact ND w (mR hx h1) (mR hy h2) aa
  ·exact NK w hx hy aa
def aT:D->List Name
 | .ref nm _=>[nm]
 | .msl nm _=>[nm]
 | .aref nm _ _ _=>[nm]
 | .map nm=>[nm]
 |_=>[]
def dP(f:D->List Name):List D->List Name
 |[]=>[]
 |d::r=>f d++dP f r
def fp:Nat->(Name->Option O)->D->List Name
 | 0,_,_=>[]
 |n+1,obj,d=>match d with
  | .msl nm _=>[nm]
  | .ref nm _=>nm::(match obj nm with
    |some (.box cs)=>dP (fp n obj) cs
    |_=>[])
  | .agg l=>dP (fp n obj) l
  | .tup l=>dP (fp n obj) l
  | .clo _ f c=>dP (fp n obj) f++dP (fp n obj) c
  |_=>[]
def bC(ns:List Name)(o o2:Name->Option O):Prop:=∀ nm∈ns,o2 nm=o nm
structure bG (r r2:R) (obj obj2:Name->Option O) (wr:List Name):Prop where
 ok:r2.ok=r.ok
 d:r2.d=r.d
 eff:∀ nm,r2.obj nm=if nm∈wr then r.obj nm else obj2 nm
 frame:∀ nm,nm∉wr->r.obj nm=obj nm
theorem bG.same{r r2:R}{obj obj2:Name->Option O}(h1:r2.ok=r.ok)(h2:r2.d=r.d)(h3:r.obj=obj)(h4:r2.obj=obj2):bG r r2 obj obj2 []:=
 ⟨h1,h2,fun nm=>by rw[h4];simp,fun nm _=>by rw[h3]⟩
theorem bG.one{ok:Prop}{d:D}{obj obj2:Name->Option O}{nm:Name}{o:Option O}{wr:List Name}(h:nm∈wr)(ha:bC wr obj obj2):bG ⟨ok,d,upd obj nm o⟩ ⟨ok,d,upd obj2 nm o⟩ obj obj2 wr:=by
 refine⟨rfl,rfl,fun x=>?_,fun x hx=>?_⟩
 ·show upd obj2 nm o x=if x∈wr then upd obj nm o x else obj2 x
  by_cases hx:x=nm
  ·subst hx;rw[aN,aN,if_pos h]
  ·rw[aV _ _ _ hx,aV _ _ _ hx]
   split
   ·exact ha x (by assumption)
   ·rfl
 ·show upd obj nm o x=obj x
  rw[aV];rintro rfl;exact hx h
theorem bG.none{ok:Prop}{d:D}{obj obj2:Name->Option O}(wr:List Name)(ha:bC wr obj obj2):bG ⟨ok,d,obj⟩ ⟨ok,d,obj2⟩ obj obj2 wr:=by
 refine⟨rfl,rfl,fun x=>?_,fun x _=>rfl⟩
 show obj2 x=if x∈wr then obj x else obj2 x
 split
 ·exact ha x (by assumption)
 ·rfl
section
variable {P:Program} {obj obj2:Name->Option O}
theorem QA{T:TypeId}{x:D}(h:bC (aT x) obj obj2):bG (iq P obj T x) (iq P obj2 T x) obj obj2 []:=by
 cases x with
 |ref nm off=>
  have h':obj2 nm=obj nm:=h nm (by simp[aT])
  rcases hT:aX P T with _ | ⟨_ | _,_ | _ | n⟩<;>rcases ho:obj nm with _ | o<;>(try cases o)<;>simp only[iq,h',ho,hT,Option.bind_none,Option.bind_some]<;>first
   |exact .same rfl rfl rfl rfl
   |((repeat' split)<;>exact .same rfl rfl rfl rfl)
 |aref nm k i off=>
  have h':obj2 nm=obj nm:=h nm (by simp[aT])
  rcases hT:aX P T with _ | ⟨_ | _,_ | _ | n⟩<;>rcases ho:obj nm with _ | o<;>(try cases o)<;>simp only[iq,h',ho,hT,Option.bind_none,Option.bind_some]<;>first
   |exact .same rfl rfl rfl rfl
   |((repeat' split)<;>exact .same rfl rfl rfl rfl)
 |_=>unfold iq;(repeat' split)<;>first | exact .same rfl rfl rfl rfl | (exfalso;simp_all;done)
theorem QE{T:TypeId}{f:Nat}{x:D}(h:bC (aT x) obj obj2):bG (j9 P obj T f x) (j9 P obj2 T f x) obj obj2 []:=by
 cases x with
 |aref nm k i off=>
  have h':obj2 nm=obj nm:=h nm (by simp[aT])
  rcases hT:bE P T f with _ | ⟨_,_,_⟩<;>rcases ho:obj nm with _ | o<;>(try cases o)<;>simp only[j9,h',ho,hT,Option.bind_none,Option.bind_some]<;>first
   |exact .same rfl rfl rfl rfl
   |((repeat' split)<;>exact .same rfl rfl rfl rfl)
 |_=>unfold j9;(repeat' split)<;>first | exact .same rfl rfl rfl rfl | (exfalso;simp_all;done)
theorem Qw{x:D}(h:bC (aT x) obj obj2):bG (jw obj x) (jw obj2 x) obj obj2 []:=by
 cases x with
 |aref nm k i off=>
  have h':obj2 nm=obj nm:=h nm (by simp[aT])
  rcases ho:obj nm with _ | o<;>(try cases o)<;>simp only[jw,h',ho,Option.bind_none,Option.bind_some]<;>first
   |exact .same rfl rfl rfl rfl
   |((repeat' split)<;>exact .same rfl rfl rfl rfl)
 |_=>unfold jw;(repeat' split)<;>first | exact .same rfl rfl rfl rfl | (exfalso;simp_all;done)
theorem QB{T:TypeId}{x:D}(h:bC (aT x) obj obj2):bG (jx P obj T x) (jx P obj2 T x) obj obj2 []:=by
 cases x with
 |msl nm k=>
  have h':obj2 nm=obj nm:=h nm (by simp[aT])
  rcases hT:cT P T with _ | _ | _ | _ | n<;>rcases ho:obj nm with _ | o<;>(try cases o)<;>simp only[jx,h',ho,hT,Option.bind_none,Option.bind_some]<;>first
   |exact .same rfl rfl rfl rfl
   |((repeat' split)<;>exact .same rfl rfl rfl rfl)
 |map nm=>
  have h':obj2 nm=obj nm:=h nm (by simp[aT])
  rcases hT:cT P T with _ | _ | _ | _ | n<;>rcases ho:obj nm with _ | o<;>(try cases o)<;>simp only[jx,h',ho,hT,Option.bind_none,Option.bind_some]<;>first
   |exact .same rfl rfl rfl rfl
   |((repeat' split)<;>exact .same rfl rfl rfl rfl)
 |_=>unfold jx;(repeat' split)<;>first | exact .same rfl rfl rfl rfl | (exfalso;simp_all;done)
theorem QC{T:TypeId}{x i:D}(h:bC (aT x) obj obj2):bG (j8 P obj T x i) (j8 P obj2 T x i) obj obj2 []:=by
 cases x with
 |msl nm k=>
  have h':obj2 nm=obj nm:=h nm (by simp[aT])
  cases i<;>(try (rename_i y;cases y))<;>rcases hT:bQ P T with _ | ⟨_,_,_⟩<;>rcases ho:obj nm with _ | o<;>(try cases o)<;>simp only[j8,h',ho,hT,Option.bind_none,Option.bind_some]<;>first
   |exact .same rfl rfl rfl rfl
   |((repeat' split)<;>exact .same rfl rfl rfl rfl)
 |_=>unfold j8;(repeat' split)<;>first | exact .same rfl rfl rfl rfl | (exfalso;simp_all;done)
theorem Qz{T:TypeId}{x k:D}{co:Bool}(h:bC (aT x) obj obj2):bG (kR P obj T x k co) (kR P obj2 T x k co) obj obj2 []:=by
 unfold kR
 split
 ·split
  ·cases x with
   |map nm=>
    have h':obj2 nm=obj nm:=h nm (by simp[aT])
    simp only[h']
    rcases ho:obj nm with _ | o<;>(try cases o)<;>exact .same rfl rfl rfl rfl
   |_=>exact .same rfl rfl rfl rfl
  ·exact .same rfl rfl rfl rfl
 ·exact .same rfl rfl rfl rfl
theorem Qu{T:TypeId}{x:D}{lo hi mx:Option D}(h:bC (aT x) obj obj2):bG (iY P obj T x lo hi mx) (iY P obj2 T x lo hi mx) obj obj2 (aT x):=by
 cases x with
 |msl nm k=>
  have h':obj2 nm=obj nm:=h nm (by simp[aT])
  rcases mx with _ | y
  ·unfold iY
   simp only[h']
   rcases obj nm with _ | o<;>(try cases o)<;>rcases bQ P T with _ | ⟨_,_,_⟩<;>rcases fC lo with _ | _<;>rcases jn k hi with _ | _<;>first
    |exact .none _ h
    |exact .one (by simp[aT]) h
  ·cases y with
   |v z=>
    cases z with
    |int kk n=>
     rcases n with n | n
     ·rcases n with _ | n
      ·simp only[iY,Int.ofNat_eq_natCast,Int.cast_ofNat_Int,h']
       rcases hT:bQ P T with _ | ⟨_,_,_⟩<;>(repeat' split)<;>first
        |exact .none _ h
        |(exfalso;simp_all;done)
      ·exact .none _ h
     ·exact .none _ h
    |_=>exact .none _ h
   |_=>exact .none _ h
 |_=>unfold iY;(repeat' split)<;>first | exact .none _ h | (exfalso;simp_all;done)
theorem Qt{T:TypeId}{x d:D}(h:bC (aT x) obj obj2):bG (jv P obj T x d) (jv P obj2 T x d) obj obj2 (aT x):=by
 cases x with
 |ref nm off=>
  have h':obj2 nm=obj nm:=h nm (by simp[aT])
  unfold jv
  rcases aX P T with _ | ⟨b,n⟩
  ·exact .none _ h
  simp only[h']
  rcases obj nm with _ | o<;>(try cases o)<;>first
   |exact .none _ h
   |exact .one (by simp[aT]) h
 |aref nm k i off=>
  have h':obj2 nm=obj nm:=h nm (by simp[aT])
  unfold jv
  rcases aX P T with _ | ⟨b,n⟩
  ·exact .none _ h
  simp only[h']
  rcases obj nm with _ | o<;>(try cases o)<;>rcases dG d with _ | y<;>first
   |exact .none _ h
   |exact .one (by simp[aT]) h
 |_=>unfold jv;(repeat' split)<;>first | exact .none _ h | (exfalso;simp_all;done)
theorem Gm{T:TypeId}{x k d:D}(h:bC (aT x) obj obj2):bG (iZ P obj T x k d) (iZ P obj2 T x k d) obj obj2 (aT x):=by
 cases x with
 |map nm=>
  have h':obj2 nm=obj nm:=h nm (by simp[aT])
  unfold iZ
  rcases i5 P T with _ | ⟨kd,e⟩
  ·exact .none _ h
  rcases dG k with _ | kv<;>rcases dG d with _ | y<;>first
   |exact .none _ h
   |(simp only[h']
     rcases obj nm with _ | o<;>(try cases o)<;>first
      |exact .none _ h
      |exact .one (by simp[aT]) h)
 |_=>unfold iZ;(repeat' split)<;>first | exact .none _ h | (exfalso;simp_all;done)
theorem Gp{t:Name}{x:D}(h:bC [aZ t] obj obj2):bG (kY obj t x) (kY obj2 t x) obj obj2 [aZ t]:=by
 have h1:=h (aZ t) (by simp)
 unfold kY
 simp only[h1]
 exact .one (by simp) h
theorem QO{t:Name}{T:TypeId}(h:bC [aZ t] obj obj2):bG (l8 P obj t T) (l8 P obj2 t T) obj obj2 [aZ t]:=by
 unfold l8
 split
 ·exact Gp h
 ·exact .none _ h
theorem Qy{t:Name}{T:TypeId}{r:Option D}(h:bC [aZ t] obj obj2):bG (l6 P obj t T r) (l6 P obj2 t T r) obj obj2 [aZ t]:=by
 have h1:=h (aZ t) (by simp)
 unfold l6
 rcases i5 P T with _ | ⟨kd,e⟩
 ·exact .none _ h
 cases r
 ·simp only[h1]
  exact .one (by simp) h
 ·exact .none _ h
theorem Qx{t:Name}{T:TypeId}{l c:D}(h:bC [aZ t] obj obj2):bG (l5 P obj t T l c) (l5 P obj2 t T l c) obj obj2 [aZ t]:=by
 have h1:=h (aZ t) (by simp)
 unfold l5
 split
 ·split
  ·simp only[h1]
   exact .one (by simp) h
  ·exact .none _ h
 ·exact .none _ h
theorem Et{x:D}(h:bC (aT x) obj obj2):aE obj2 x=aE obj x:=by
 cases x with
 |msl nm k=>
  have h':obj2 nm=obj nm:=h nm (by simp[aT])
  unfold aE
  simp only[h']
 |v y=>cases y<;>rfl
 |_=>rfl
theorem A1{t:Name}{T1 T2:TypeId}{s x:D}(h:bC (aT s++aT x++[aZ t]) obj obj2):
 bG (dw P obj t T1 T2 s x) (dw P obj2 t T1 T2 s x) obj obj2 (aT s++aT x++[aZ t]):=by
 have h1:=h (aZ t) (by simp)
 have h2:aE obj2 x=aE obj x:=Et fun nm hn=>h nm (by simp[hn])
 unfold dw
 rcases bQ P T1 with _ | ⟨e,sz,b⟩
 ·exact .none _ h
 rcases bQ P T2 with _ | _
 ·exact .none _ h
 simp only[h1,h2]
 rcases a8 P e with _ | z
 ·exact .none _ h
 cases s with
 |nilsl=>exact .one (by simp) h
 |msl nm k=>
  have h':obj2 nm=obj nm:=h nm (by simp[aT])
  simp only[h']
  rcases obj nm with _ | o<;>(try cases o)<;>first
   |exact .none _ h
   |exact .one (by simp[aT]) h
 |_=>exact .none _ h
end
def Fz(obj obj':Name->Option O):Prop:=∀ nm,obj' nm=obj nm\/∃ o o',obj nm=some o/\o.mut=true/\obj' nm=some o'/\o'.mut=false
theorem Fz.refl(obj:Name->Option O):Fz obj obj:=fun _=>.inl rfl
theorem Fz.trans{a b c:Name->Option O}(h:Fz a b)(k:Fz b c):Fz a c:=by
 intro nm
 rcases k nm with e | ⟨o,o',h1,h2,h3,h4⟩
 ·rw[e];exact h nm
 ·rcases h nm with e | ⟨q,q',g1,g2,g3,g4⟩
  ·exact .inr ⟨o,o',e▸h1,h2,h3,h4⟩
  ·rw[h1]at g3;cases g3;rw[h2]at g4;cases g4
theorem Fz.one{obj obj':Name->Option O}{nm:Name}{o o':O}(h:Fz obj obj')(h1:obj nm=some o)(h2:o.mut=true)(h3:o'.mut=false):Fz obj (upd obj' nm (some o')):=by
 intro x
 by_cases hx:x=nm
 ·subst hx;exact .inr ⟨o,o',h1,h2,aN _ _ _,h3⟩
 ·rw[aV _ _ _ hx];exact h x
theorem va{f:(Name->Option O)->D->FR}(hf:∀ obj d,Fz obj (f obj d).obj):∀ (l:List D) (obj:Name->Option O),Fz obj (bd f obj l).obj
 |[],obj=>.refl obj
 |d::r,obj=>(hf obj d).trans (va hf r _)
theorem u2:∀ (n:Nat) (obj:Name->Option O) (d:D),Fz obj (aH n obj d).obj
 | 0,obj,d=>by cases d<;>exact .refl obj
 |n+1,obj,d=>by
  have ih:∀ (l:List D) (obj:Name->Option O),Fz obj (bd (aH n) obj l).obj:=va (u2 n)
  cases d with
  |msl nm k=>
   unfold aH
   simp only
   rcases ho:obj nm with _ | o
   ·exact .refl obj
   ·cases o<;>first
      |exact .refl obj
      |exact Fz.one (.refl obj) ho rfl rfl
  |ref nm off=>
   unfold aH
   simp only
   rcases ho:obj nm with _ | o
   ·exact .refl obj
   ·cases o<;>first
      |exact .refl obj
      |exact Fz.one (ih _ obj) ho rfl rfl
  |agg l=>exact ih l obj
  |tup l=>exact ih l obj
  |clo fn f c=>exact(ih f obj).trans (ih c _)
  |_=>exact .refl obj
theorem ye{f g:D->List Name}(h:∀ d,∀ nm∈f d,nm∈g d):∀ (l:List D),∀ nm∈dP f l,nm∈dP g l
 |[],nm,hn=>hn
 |d::r,nm,hn=>by
  rcases List.mem_append.1 hn with hn | hn
  ·exact List.mem_append_left _ (h d nm hn)
  ·exact List.mem_append_right _ (ye h r nm hn)
theorem CA{obj obj':Name->Option O}(h:Fz obj obj'):∀ (n:Nat) (d:D),∀ nm∈fp n obj' d,nm∈fp n obj d
 | 0,d,nm,hn=>by cases d<;>exact hn
 |n+1,d,nm,hn=>by
  have ih:∀ (l:List D),∀ nm∈dP (fp n obj') l,nm∈dP (fp n obj) l:=ye (CA h n)
  cases d with
  |ref x off=>
   simp only[fp]at hn |-
   rcases List.mem_cons.1 hn with hn | hn
   ·exact hn▸List.mem_cons_self
   ·refine List.mem_cons_of_mem _ ?_
    rcases h x with e | ⟨o,o',h1,h2,h3,h4⟩
    ·rw[e]at hn
     rcases ho:obj x with _ | o
     ·rw[ho]at hn;simp at hn
     ·rw[ho]at hn
      cases o<;>first
       |exact ih _ nm hn
       |(simp at hn;done)
    ·rw[h3]at hn
     cases o'<;>simp[O.mut]at h4<;>simp at hn
  |agg l=>exact ih l nm hn
  |tup l=>exact ih l nm hn
  |clo fn f c=>
   rcases List.mem_append.1 hn with hn | hn
   ·exact List.mem_append_left _ (ih f nm hn)
   ·exact List.mem_append_right _ (ih c nm hn)
  |_=>exact hn
structure ke (ok ok2:Prop) (o o2 obj obj2:Name->Option O) (W:List Name):Prop where
 ok:ok2=ok
 agr:bC W o o2
 frame:∀ nm,nm∉W->o nm=obj nm
 frame2:∀ nm,nm∉W->o2 nm=obj2 nm
theorem ke.refl{ok:Prop}{obj obj2:Name->Option O}{W:List Name}(h:bC W obj obj2):ke ok ok obj obj2 obj obj2 W:=⟨rfl,h,fun _ _=>rfl,fun _ _=>rfl⟩
theorem ke.upd{ok ok2:Prop}{o o2 obj obj2:Name->Option O}{W:List Name}(h:ke ok ok2 o o2 obj obj2 W){nm:Name}(hn:nm∈W)(q:Option O)(FO FN:Prop)(hk:FN=FO):
 ke FO FN (Go.Eng.upd o nm q) (Go.Eng.upd o2 nm q) obj obj2 W:=by
 refine⟨hk,fun x hx=>?_,fun x hx=>?_,fun x hx=>?_⟩
 ·by_cases e:x=nm
  ·subst e;rw[aN,aN]
  ·rw[aV _ _ _ e,aV _ _ _ e];exact h.agr x hx
 ·rw[aV _ _ _ (by rintro rfl;exact hx hn)];exact h.frame x hx
 ·rw[aV _ _ _ (by rintro rfl;exact hx hn)];exact h.frame2 x hx
def Ml(n:Nat):Prop:=∀ (d:D) (obj obj2:Name->Option O) (W:List Name),(∀ nm∈fp n obj d,nm∈W)->bC W obj obj2->
 (aH n obj2 d).x=(aH n obj d).x/\ke (aH n obj d).ok (aH n obj2 d).ok (aH n obj d).obj (aH n obj2 d).obj obj obj2 W
theorem u3{n:Nat}(hf:Ml n):∀ (l:List D) (obj obj2:Name->Option O) (W:List Name),(∀ nm∈dP (fp n obj) l,nm∈W)->bC W obj obj2->
 (bd (aH n) obj2 l).xs=(bd (aH n) obj l).xs/\ke (bd (aH n) obj l).ok (bd (aH n) obj2 l).ok (bd (aH n) obj l).obj (bd (aH n) obj2 l).obj obj obj2 W
 |[],obj,obj2,W,_,h=>⟨rfl,.refl h⟩
 |d::r,obj,obj2,W,hw,h=>by
  obtain⟨h1,h2⟩:=hf d obj obj2 W (fun nm hn=>hw nm (List.mem_append_left _ hn)) h
  obtain⟨h3,h4⟩:=u3 hf r (aH n obj d).obj (aH n obj2 d).obj W (fun nm hn=>hw nm (List.mem_append_right _ (ye (CA (u2 n obj d) n) r nm hn))) h2.agr
  refine⟨?_,?_⟩
  ·simp only[bd,h1,h3]
  ·refine⟨?_,h4.agr,fun nm hn=>(h4.frame nm hn).trans (h2.frame nm hn),fun nm hn=>(h4.frame2 nm hn).trans (h2.frame2 nm hn)⟩
   simp only[bd,h2.ok,h4.ok]
theorem yc:∀ n,Ml n
 | 0=>fun d obj obj2 W hw h=>by cases d<;>exact⟨rfl,.refl h⟩
 |n+1=>fun d obj obj2 W hw h=>by
  have ih:=u3 (yc n)
  cases d with
  |msl nm k=>
   have hn:nm∈W:=hw nm (by simp[fp])
   have h':=h nm hn
   unfold aH
   simp only[h']
   rcases ho:obj nm with _ | o
   ·exact⟨rfl,.refl h⟩
   ·cases o<;>first
      |exact⟨rfl,.refl h⟩
      |exact⟨rfl,(ke.refl (ok:=True) h).upd hn _ _ _ rfl⟩
  |ref nm off=>
   have hn:nm∈W:=hw nm (by simp[fp])
   have h':=h nm hn
   unfold aH
   simp only[h']
   rcases ho:obj nm with _ | o
   ·exact⟨rfl,.refl h⟩
   ·cases o<;>first
      |exact⟨rfl,.refl h⟩
      |(obtain⟨h1,h2⟩:=ih _ obj obj2 W (fun x hx=>hw x (by simp only[fp,ho];exact List.mem_cons_of_mem _ hx)) h
        simp only[h1]
        exact⟨trivial,h2.upd hn _ _ _ (by rw[h2.ok,h2.agr nm hn])⟩)
  |agg l=>
   obtain⟨h1,h2⟩:=ih l obj obj2 W hw h
   refine⟨?_,h2⟩
   simp only[aH,h1]
  |tup l=>
   obtain⟨h1,h2⟩:=ih l obj obj2 W hw h
   refine⟨?_,h2⟩
   simp only[aH,h1]
  |clo fn f c=>
   obtain⟨h1,h2⟩:=ih f obj obj2 W (fun nm hn=>hw nm (List.mem_append_left _ hn)) h
   obtain⟨h3,h4⟩:=ih c (bd (aH n) obj f).obj (bd (aH n) obj2 f).obj W (fun nm hn=>hw nm (List.mem_append_right _ (ye (CA (va (u2 n) f obj) n) c nm hn))) h2.agr
   refine⟨?_,?_,h4.agr,fun nm hn=>(h4.frame nm hn).trans (h2.frame nm hn),fun nm hn=>(h4.frame2 nm hn).trans (h2.frame2 nm hn)⟩
   ·simp only[aH,h1,h3]
   ·simp only[aH,h2.ok,h4.ok]
  |_=>exact⟨rfl,.refl h⟩
def muts(obj:Name->Option O)(l:List Name):List Name:=l.filter fun nm=>match obj nm with | some o=>o.mut | none=>false
theorem ke.like{ok ok2:Prop}{d d2:D}{o o2 obj obj2:Name->Option O}{W:List Name}(h:ke ok ok2 o o2 obj obj2 W)(hd:d2=d)(hz:Fz obj o)(ha:bC W obj obj2):
 bG ⟨ok,d,o⟩ ⟨ok2,d2,o2⟩ obj obj2 (muts obj W):=by
 have key:∀ nm,nm∉muts obj W->o nm=obj nm:=by
  intro nm hn
  rcases hz nm with e | ⟨q,q',h1,h2,h3,h4⟩
  ·exact e
  ·by_cases hw:nm∈W
   ·exact(hn (List.mem_filter.2 ⟨hw,by simp[h1,h2]⟩)).elim
   ·exact h.frame nm hw
 refine⟨h.ok,hd,fun nm=>?_,key⟩
 show o2 nm=if nm∈muts obj W then o nm else obj2 nm
 split
 ·rename_i hn
  exact h.agr nm (List.mem_filter.1 hn).1
 ·rename_i hn
  by_cases hw:nm∈W
  ·rw[h.agr nm hw,key nm hn];exact(ha nm hw).symm
  ·exact h.frame2 nm hw
def V.flat0:V->Bool
 | .int _ _ | .bool _ | .str _ | .nilp | .nilfn=>true
 |_=>false
def V.flat1:V->Bool
 | .agg l=>l.all V.flat0
 |x=>x.flat0
def V.flat:V->Bool
 | .tup l=>l.all V.flat1
 |x=>x.flat1
theorem aK.flat0{m m':Mem}{x:V}{u:Value}(h:aK m x u)(hf:x.flat0=true):aK m' x u:=by
 cases h<;>simp[V.flat0]at hf
 ·exact .int _ _
 ·exact .bool _
 ·exact .str _ (by assumption)
 ·exact .nilp
 ·exact .nilfn
theorem aK.flat1{m m':Mem}{x:V}{u:Value}(h:aK m x u)(hf:x.flat1=true):aK m' x u:=by
 cases x with
 |agg l=>
  cases h with
  |agg _ us hl ho hr=>
  simp only[V.flat1,List.all_eq_true]at hf
  exact .agg l us hl ho fun i a b=>(hr i a b).flat0 (hf _ (List.getElem_mem a))
 |_=>exact h.flat0 hf
theorem aK.flat{m m':Mem}{x:V}{u:Value}(h:aK m x u)(hf:x.flat=true):aK m' x u:=by
 cases x with
 |tup l=>
  cases h with
  |tup _ us hl hr=>
  simp only[V.flat,List.all_eq_true]at hf
  exact .tup l us hl fun i a b=>(hr i a b).flat1 (hf _ (List.getElem_mem a))
 |_=>exact h.flat1 hf
structure PSpec where
 pre:List V->Prop
 fn:List V->V
 flat:Bool
def ra(m:Mem)(xs:List V)(us:List Value):Prop:=
 xs.length=us.length/\∀ i (h:i<xs.length) (h':i<us.length),aK m xs[i] us[i]
def yid:FuncId:=1000000000
structure aU (P:Program) (f:FuncId) (s:PSpec):Prop where
 ne:f≠yid
 enter:∀ args w,(callFunc f args).run P w=.ok (.enter f args) w
 flat:s.flat=true->∀ xs,s.pre xs->(s.fn xs).flat=true
 calls:∀ (m:Mem) (w:World) (xs:List V) (args:Array Value),(∀ b off v,m b off=some v->w.cell? ⟨b,off,none⟩=some v)->ra m xs args.toList->s.pre xs->
  Calls P f args w fun e w'=>∃ v m',e=.returned v/\RowKit.Below w.heap.size w w'/\Mem.le m m'/\
   (∀ b off c,m' b off=some c->m b off=some c\/(w.heap.size<=b/\w'.cell? ⟨b,off,none⟩=some c))/\aK m' (s.fn xs) v
def an(σ:S):Operand->D
 | .tmp t=>(σ.env t).d
 | .const v=>gV v
 | .func f=>.v (.clo (.func f) [] [])
 | .global _=>.any
def cC(σ:S):Operand->Bool
 | .tmp t=>(σ.env t).c
 |_=>true
structure Spec where
 app:(Name->Option O)->Name->List D->R
 foot:(Name->Option O)->Name->List D->List Name
 wrt:(Name->Option O)->Name->List D->List Name
structure Spec.Near (s:Spec):Prop where
 like:∀ obj obj2 t ds,bC (s.foot obj t ds) obj obj2->bG (s.app obj t ds) (s.app obj2 t ds) obj obj2 (s.wrt obj t ds)
 foot:∀ obj obj2 t ds,bC (s.foot obj t ds) obj obj2->s.foot obj2 t ds=s.foot obj t ds
 sub:∀ obj t ds,∀ nm∈s.wrt obj t ds,nm∈s.foot obj t ds
 wrt:∀ obj obj2 t ds,bC (s.foot obj t ds) obj obj2->s.wrt obj2 t ds=s.wrt obj t ds
def eY(rd:Option Nat):Fence:={ Fence.wide with round:=rd }
theorem J9{rd:Option Nat}{n:Nat}{P:Program}{f:FuncId}{args:Array Value}{w:World}{R:Ending->World->Prop}(h:Calls P f args w R):CallsIn (eY rd) n P f args w R:=
 (callsIn_wide (n:=n)).2 h
def pA(P:Program)(G:Ghost)(σ:S)(a:Act)(w:World)(o:Oper)(r:R):Prop:=
 ∀ (next:Act->World->Prop) (Q:Exit->Act->World->Prop),
   (∀ v φ' m' w',aM G φ' m' { σ with obj:=r.obj } a w'->aA φ' r.obj m' r.d v->next (a.put o.dst v) w')->o.uponIn (eY G.rd) 0 P a next Q ((execOp a.eval o).run P w)
structure aL (P:Program) (f:FuncId) (s:Spec):Prop where
 near:s.Near
 enter:f≠yid->∀ args w,(callFunc f args).run P w=.ok (.enter f args) w
 calls:f≠yid->∀ (G:Ghost) (φ:Name->Loc) (m:Mem) (σ:S) (a:Act) (w:World),aM G φ m σ a w->∀ (t:Name) (ds:List D) (us:Array Value),(∃ k,t=k::σ.pre)->ds.length=us.size->
  (∀ i (h:i<ds.length) (h':i<us.size),aA φ σ.obj m ds[i] us[i])->(s.app σ.obj t ds).ok->
  Calls P f us w fun e w'=>∃ v φ' m',e=.returned v/\aM G φ' m' { σ with obj:=(s.app σ.obj t ds).obj } a w'/\aA φ' (s.app σ.obj t ds).obj m' (s.app σ.obj t ds).d v/\Ext φ φ' σ.obj (s.app σ.obj t ds).obj
 yields:f=yid->∀ (G:Ghost) (φ:Name->Loc) (m:Mem) (σ:S) (a:Act) (w:World),aM G φ m σ a w->∀ (t nm:Name) (ds:List D) (us:Array Value),(∃ k,t=k::σ.pre)->ds.length=us.size->
  (∀ i (h:i<ds.length) (h':i<us.size),aA φ σ.obj m ds[i] us[i])->pZ σ.obj nm->(s.app σ.obj t (.yld nm::ds)).ok->
  ∀ o:Oper,execOp a.eval o=Instr.yield (φ nm).blk us->pA P G σ a w o (s.app σ.obj t (.yld nm::ds))
def PSpec.toSpec(s:PSpec):Spec:=
 ⟨fun obj _ ds=>⟨(bd (aH 6) obj ds).ok/\s.pre (bd (aH 6) obj ds).xs,.v (s.fn (bd (aH 6) obj ds).xs),if s.flat then obj else(bd (aH 6) obj ds).obj⟩,
  fun obj _ ds=>dP (fp 6 obj) ds,fun obj _ ds=>if s.flat then[]else muts obj (dP (fp 6 obj) ds)⟩
def eh(f:D)(args:List D):List D:=
 match f with
 | .v (.clo _ fs cs)=>fs.map .v++args++cs.map .v
 | .clo _ fs cs=>fs++args++cs
 | .yld nm=>.yld nm::args
 |_=>[]
def fv:D->Option FuncId
 | .v (.clo (.func f) _ _)=>if f=yid then none else some f
 | .clo (.func f) _ _=>if f=yid then none else some f
 | .yld _=>some yid
 |_=>none
def qX(Γ:FuncId->Option Spec)(σ:S)(t:Name)(f:D)(args:List D):R:=
 match (fv f).bind Γ with
 |some s=>s.app σ.obj t (eh f args)
 |none=>.bad σ.obj
def kW(P:Program)(σ:S)(t:Name)(b:Builtin)(ts:List TypeId)(args:List D):R:=
 match b,ts,args with
 | .len,[T],[x]=>jx P σ.obj T x
 | .append,[T1,T2],[s,x]=>dw P σ.obj t T1 T2 s x
 | .min,_,[.v (.int k a),.v (.int _ b)]=>⟨True,.v (.int k (if b<a then b else a)),σ.obj⟩
 | .max,_,[.v (.int k a),.v (.int _ b)]=>⟨True,.v (.int k (if b>a then b else a)),σ.obj⟩
 |_,_,_=>.bad σ.obj
def aW(P:Program)(Γ:FuncId->Option Spec)(σ:S)(t:Name):Op->R
 | .move x=>⟨True,an σ x,σ.obj⟩
 | .assign x=>⟨True,an σ x,σ.obj⟩
 | .pick c x y=>im σ.obj (an σ c) (an σ x) (an σ y)
 | .alloc T=>l8 P σ.obj t T
 | .box _ x=>kY σ.obj t (an σ x)
 | .build T ps=>kX P σ.obj T (ps.toList.map fun p=>(p.1,an σ p.2))
 | .buildSlice T n ps=>mT P σ.obj T n (ps.toList.map fun p=>(p.1,an σ p.2))
 | .load T x=>iq P σ.obj T (an σ x)
 | .store T x d=>jv P σ.obj T (an σ x) (an σ d)
 | .nilCheck x=>jw σ.obj (an σ x)
 | .binOp op T x y _=>kZ P σ.obj op T (an σ x) (an σ y) (w7 y)
 | .unOp op _ x=>kQ σ.obj op (an σ x)
 | .convert s d x=>kV P σ.obj s d (an σ x)
 | .makeFunc fn f c=>LF σ.obj fn (f.toList.map (an σ)) (c.toList.map (an σ))
 | .makeMap T r=>l6 P σ.obj t T (r.map (an σ))
 | .makeSlice T l c=>l5 P σ.obj t T (an σ l) (an σ c)
 | .slice T x lo hi mx=>iY P σ.obj T (an σ x) (lo.map (an σ)) (hi.map (an σ)) (mx.map (an σ))
 | .fieldAddr T x f=>j9 P σ.obj T f (an σ x)
 | .field T x f=>kT P σ.obj T (an σ x) f
 | .indexAddr T x i=>j8 P σ.obj T (an σ x) (an σ i)
 | .index T x i=>kS P σ.obj T (an σ x) (an σ i)
 | .lookup T x i co=>kR P σ.obj T (an σ x) (an σ i) co
 | .mapUpdate T x k d=>iZ P σ.obj T (an σ x) (an σ k) (an σ d)
 | .insert T x k d=>iZ P σ.obj T (an σ x) (an σ k) (an σ d)
 | .extract x i=>kU σ.obj (an σ x) i
 | .call ⟨.value f,args,_⟩=>qX Γ σ t (an σ f) (args.toList.map (an σ))
 | .call ⟨.builtin b,args,ts⟩=>kW P σ t b ts.toList (args.toList.map (an σ))
 |_=>.bad σ.obj
theorem bY{G:Ghost}{φ:Name->Loc}{m:Mem}{σ:S}{a:Act}{w:World}(hC:aM G φ m σ a w){x:Operand}(h:cC σ x=true):aA φ σ.obj m (an σ x) (a.eval x):=by
 cases x with
 |tmp t=>
  have :=hC.tmps t
  unfold bZ at this
  simp only[cC]at h
  rw[if_pos h]at this
  exact this
 |const v=>exact rY v
 |func f=>exact .v _ _ (.clo _ _ _ _ _ rfl rfl (fun i h=>by simp at h) (fun i h=>by simp at h))
 |global g=>exact .any _
theorem qB{P:Program}{G:Ghost}{φ:Name->Loc}{m:Mem}{σ:S}{a:Act}{w:World}{o:Oper}{r:R}{v:Value}{w':World}
 (cA:(execOp a.eval o).run P w=.ok (.value v) w') (hd:mW G σ a r v w'):pA P G σ a w o r:=by
 intro next Q qh
 obtain⟨φ',m',h1,h2⟩:=hd
 rw[cA]
 exact qh v φ' m' w' h1 h2
theorem jo{P:Program}{G:Ghost}{φ:Name->Loc}{m:Mem}{σ:S}{a:Act}{w:World}(hC:aM G φ m σ a w){o:Oper}{r:R}{s:Sem Value}
 (he:execOp a.eval o=(do pure (.value (<-s)))) (h:∃ v,s.run P w=.ok v w/\aA φ σ.obj m r.d v/\r.obj=σ.obj):pA P G σ a w o r:=by
 obtain⟨v,h1,h2,h3⟩:=h
 refine qB (φ:=φ) (m:=m) (v:=v) (w':=w) (by rw[he];simp[h1]) ⟨φ,m,?_,?_⟩
 ·rw[h3];exact hC
 ·rw[h3];exact h2
theorem qC{P:Program}{G:Ghost}{σ:S}{a:Act}{w:World}{o:Oper}{r:R}{s:Sem Value}
 (he:execOp a.eval o=(do pure (.value (<-s)))) (h:∃ v w',s.run P w=.ok v w'/\mW G σ a r v w'):pA P G σ a w o r:=by
 obtain⟨v,w',h1,h2⟩:=h
 obtain⟨φ',m',h3,h4⟩:=h2
 exact qB (φ:=φ') (m:=m') (v:=v) (w':=w') (by rw[he];simp[h1]) ⟨φ',m',h3,h4⟩
theorem Cy{P:Program}{G:Ghost}{σ:S}{a:Act}{w:World}{o:Oper}{r:R}{s:Sem Unit}(hd:r.d=.any)
 (he:execOp a.eval o=(do s;pure .skip)) (h:∃ w',s.run P w=.ok () w'/\∃ φ' m',aM G φ' m' { σ with obj:=r.obj } a w'):pA P G σ a w o r:=by
 obtain⟨w',h1,φ',m',h2⟩:=h
 intro next Q qh
 rw[he]
 simp only[Sem.run_bind,h1,Result.andThen_ok,Sem.run_pure]
 exact qh undef φ' m' w' h2 (by rw[hd];exact .any _)
theorem z'{G:Ghost}{φ:Name->Loc}{m:Mem}{σ:S}{a:Act}{w:World}(hC:aM G φ m σ a w){x:Option Operand}(h:∀ y∈x.toList,cC σ y=true):
 mU φ σ.obj m (x.map (an σ)) (x.map a.eval):=by
 cases x with
 |none=>trivial
 |some y=>exact bY hC (h y (by simp))
theorem KR{P:Program}{Γ:FuncId->Option Spec}(hΓ:∀ f s,Γ f=some s->aL P f s){G:Ghost}{φ:Name->Loc}{m:Mem}{σ:S}{a:Act}{w:World}(hC:aM G φ m σ a w)
 {o:Oper} {f:FuncId} {s:Spec} {t:Name} (ht:∃ k,t=k::σ.pre) (hf:f≠yid) (hs:Γ f=some s) {ds:List D} {us:Array Value}
 (he:(execOp a.eval o)=callFunc f us) (hl:ds.length=us.size) (hr:∀ i (h:i<ds.length) (h':i<us.size),aA φ σ.obj m ds[i] us[i])
 (aa:(s.app σ.obj t ds).ok):pA P G σ a w o (s.app σ.obj t ds):=by
 obtain⟨_,jQ,qv,_⟩:=hΓ f s hs
 intro next Q qh
 rw[he,jQ hf,Oper.uponIn_enter]
 refine⟨fun h=>(by simp[eY,Fence.wide]at h),J9 ?_⟩
 refine(qv hf G φ m σ a w hC t ds us ht hl hr aa).mono ?_
 rintro e w' ⟨v,φ',m',rfl,h1,h2,_⟩
 exact qh v φ' m' w' h1 h2
theorem JW{obj obj2:Name->Option O}:∀ (n:Nat) (d:D),bC (fp n obj d) obj obj2->fp n obj2 d=fp n obj d
 | 0,d,h=>by cases d<;>rfl
 |n+1,d,h=>by
  have ih:∀ (l:List D),bC (dP (fp n obj) l) obj obj2->dP (fp n obj2) l=dP (fp n obj) l:=by
   intro l
   induction l with
   |nil=>intro _;rfl
   |cons d r SG=>intro h;simp only[dP];rw[JW n d fun nm hn=>h nm (List.mem_append_left _ hn),SG fun nm hn=>h nm (List.mem_append_right _ hn)]
  cases d with
  |ref nm off=>
   have h':=h nm (by simp[fp])
   simp only[fp,h']
   rcases ho:obj nm with _ | o
   ·rfl
   ·cases o<;>first
      |rfl
      |(simp only;rw[ih _ fun x hx=>h x (by simp only[fp,ho];exact List.mem_cons_of_mem _ hx)])
  |agg l=>exact ih l h
  |tup l=>exact ih l h
  |clo fn f c=>simp only[fp];rw[ih f fun nm hn=>h nm (List.mem_append_left _ hn),ih c fun nm hn=>h nm (List.mem_append_right _ hn)]
  |_=>rfl
theorem vd{obj obj2:Name->Option O}{n:Nat}:∀ (l:List D),bC (dP (fp n obj) l) obj obj2->dP (fp n obj2) l=dP (fp n obj) l
 |[],_=>rfl
 |d::r,h=>by simp only[dP];rw[JW n d fun nm hn=>h nm (List.mem_append_left _ hn),vd r fun nm hn=>h nm (List.mem_append_right _ hn)]
theorem AG{obj obj2:Name->Option O}{l:List Name}(h:bC l obj obj2):muts obj2 l=muts obj l:=
 List.filter_congr fun nm hn=>by rw[h nm hn]
theorem PSpec.near(s:PSpec):s.toSpec.Near:=by
 refine⟨fun obj obj2 t ds h=>?_,fun obj obj2 t ds h=>vd ds h,fun obj t ds nm hn=>?_,fun obj obj2 t ds h=>?_⟩
 ·obtain⟨h1,h2⟩:=u3 (yc 6) ds obj obj2 _ (fun _ hn=>hn) h
  have aa:((bd (aH 6) obj2 ds).ok/\s.pre (bd (aH 6) obj2 ds).xs)=((bd (aH 6) obj ds).ok/\s.pre (bd (aH 6) obj ds).xs):=by rw[h1,h2.ok]
  simp only[PSpec.toSpec]
  cases hf:s.flat with
  |true=>exact .same aa (by rw[h1]) rfl rfl
  |false=>
   simp only[Bool.false_eq_true,if_false]
   exact ke.like ⟨aa,h2.agr,h2.frame,h2.frame2⟩ (by rw[h1]) (va (u2 6) ds obj) h
 ·simp only[PSpec.toSpec]at hn |-
  split at hn
  ·simp at hn
  ·exact(List.mem_filter.1 hn).1
 ·simp only[PSpec.toSpec]
  split
  ·rfl
  ·rw[vd ds h];exact AG h
theorem aU.sound{P:Program}{f:FuncId}{s:PSpec}(h:aU P f s):aL P f s.toSpec:=by
 obtain⟨hy,jQ,dZ,qv⟩:=h
 refine⟨s.near,fun _=>jQ,fun _ G φ m σ a w hC t ds us _ hl hr aa=>?_,fun e=>(hy e).elim⟩
 obtain⟨uL,mA⟩:=aa
 obtain⟨m1,a1,a2,a3,a4,a5,a6⟩:=o8 (nV 6) ds hC us.toList (by simpa using hl) (fun i h h'=>by
  have :=hr i h (by simpa using h')
  rw[Array.getElem_toList];exact this) uL
 refine(qv m1 w (bd (aH 6) σ.obj ds).xs us a2.mem ⟨by rw[a4];simpa using hl,a5⟩ mA).mono ?_
 rintro e w' ⟨v,m',rfl,hb,hm,hn,hv⟩
 simp only[PSpec.toSpec]
 by_cases qs:s.flat=true
 ·have p8:aK m (s.fn (bd (aH 6) σ.obj ds).xs) v:=hv.flat (dZ qs _ mA)
  refine⟨v,φ,m,rfl,?_,?_,?_⟩
  ·simp only[qs,if_true]
   exact hC.imm (Mem.le_refl m) ⟨hb.os,hb.tape,hb.output,hb.size⟩ hb.block (fun _ _ _ h=>.inl h)
  ·simp only[qs,if_true]
   exact .v _ _ p8
  ·simp only[qs,if_true]
   exact .refl _ _
 ·refine⟨v,φ,m',rfl,?_,?_,?_⟩
  ·simp only[qs,Bool.false_eq_true,if_false]
   exact a2.imm hm ⟨hb.os,hb.tape,hb.output,hb.size⟩ hb.block hn
  ·simp only[qs,Bool.false_eq_true,if_false]
   exact .v _ _ hv
  ·simp only[qs,Bool.false_eq_true,if_false]
   exact a3
theorem Xa{P:Program}{Γ:FuncId->Option Spec}{σ:S}{t:Name}{op:Op}(h:(aW P Γ σ t op).ok):∀ c,op≠ .defer c:=by
 rintro c rfl
 exact h
def mo(σ:S):Op->Bool
 | .pick c x y=>cC σ c&&(match an σ c with | .v (.bool b)=>if b then cC σ x else cC σ y | _=>false)
 |op=>op.operands.toList.all (cC σ)
theorem cS{σ:S}{op:Op}(h:op.operands.toList.all (cC σ)=true){x:Operand}(hx:x∈op.operands.toList):cC σ x=true:=List.all_eq_true.1 h x hx
theorem Ft{G:Ghost}{φ:Name->Loc}{m:Mem}{σ:S}{a:Act}{w:World}(hC:aM G φ m σ a w){ps:Array (Nat×Operand)}(h:∀ p∈ps.toList,cC σ p.2=true):
 (ps.toList.map fun p=>(p.1,an σ p.2)).map (·.1)=(ps.map fun (i,x)=>(i,a.eval x)).toList.map (·.1)/\
 ∀ (k:Nat) (p:Nat×D) (q:Nat×Value),(ps.toList.map fun p=>(p.1,an σ p.2))[k]?=some p->(ps.map fun (i,x)=>(i,a.eval x)).toList[k]?=some q->aA φ σ.obj m p.2 q.2:=by
 refine⟨by simp,fun k p q hp hq=>?_⟩
 simp only[List.getElem?_map,Option.map_eq_some_iff]at hp
 obtain⟨y,hy,rfl⟩:=hp
 simp only[Array.toList_map,List.getElem?_map,hy,Option.map_some,Option.some.injEq]at hq
 subst hq
 exact bY hC (h y (List.mem_of_getElem? hy))
theorem AY{G:Ghost}{φ:Name->Loc}{m:Mem}{σ:S}{a:Act}{w:World}(hC:aM G φ m σ a w){xs:Array Operand}(h:∀ x∈xs.toList,cC σ x=true):
 (xs.toList.map (an σ)).length=(xs.map a.eval).size/\∀ i (h:i<(xs.toList.map (an σ)).length) (h':i<(xs.map a.eval).size),aA φ σ.obj m (xs.toList.map (an σ))[i] (xs.map a.eval)[i]:=by
 refine⟨by simp,fun i h1 h2=>?_⟩
 simp only[List.getElem_map,Array.getElem_toList,Array.getElem_map]
 exact bY hC (h _ (by simp))
set_option maxHeartbeats 1000000 in
theorem WH{P:Program}{G:Ghost}{φ:Name->Loc}{m:Mem}{σ:S}{a:Act}{w:World}(hC:aM G φ m σ a w)(o:Oper)(t:Name)(b:Builtin)(args:Array Operand)(ts:Array TypeId)
 (ho:o.op=.call ⟨.builtin b,args,ts⟩) (dO:∀ x∈args.toList,cC σ x=true) (aa:(kW P σ t b ts.toList (args.toList.map (an σ))).ok):
 pA P G σ a w o (kW P σ t b ts.toList (args.toList.map (an σ))):=by
 obtain⟨args⟩:=args
 obtain⟨ts⟩:=ts
 have sD:(∃ T x,b=.len/\ts=[T]/\args=[x])\/(∃ T1 T2 s x,b=.append/\ts=[T1,T2]/\args=[s,x])\/
     (∃ x y,(b=.min\/b=.max)/\args=[x,y]):=by
  rcases args with _ | ⟨x,_ | ⟨y,_ | ⟨z,r⟩⟩⟩
  ·unfold kW at aa;split at aa<;>first | exact aa.elim | (exfalso;simp_all;done)
  ·unfold kW at aa
   split at aa
   ·exact .inl ⟨_,x,rfl,by assumption,rfl⟩
   ·exfalso;simp_all
   ·exfalso;simp_all
   ·exfalso;simp_all
   ·exact aa.elim
  ·unfold kW at aa
   split at aa
   ·exfalso;simp_all
   ·exact .inr (.inl ⟨_,_,x,y,rfl,by assumption,rfl⟩)
   ·exact .inr (.inr ⟨x,y,.inl rfl,rfl⟩)
   ·exact .inr (.inr ⟨x,y,.inr rfl,rfl⟩)
   ·exact aa.elim
  ·unfold kW at aa;split at aa<;>first | exact aa.elim | (exfalso;simp_all;done)
 rcases sD with⟨T,x,rfl,rfl,rfl⟩ | ⟨T1,T2,s,x,rfl,rfl,rfl⟩ | ⟨x,y,hb,rfl⟩
 ·have hx:=bY hC (dO x (by simp))
  refine jo hC (s:=Builtin.len_ #[T] o.type #[a.eval x]) ?_ (Nx hC hx aa)
  simp[execOp,ho,resolve,invoke,builtin]
 ·have hs:=bY hC (dO s (by simp))
  have hx:=bY hC (dO x (by simp))
  refine qC (s:=Builtin.append_ #[T1,T2] o.type #[a.eval s,a.eval x]) ?_ (NM hC hs hx aa)
  simp[execOp,ho,resolve,invoke,builtin]
 ·have hx:=bY hC (dO x (by simp))
  have hy:=bY hC (dO y (by simp))
  simp only[List.map_cons,List.map_nil]at aa |-
  generalize an σ x=dx at *
  generalize an σ y=dy at *
  have hd:∃ k1 a1 k2 a2,dx=.v (.int k1 a1)/\dy=.v (.int k2 a2):=by
   rcases hb with rfl | rfl
   ·simp only[kW]at aa
    split at aa
    all_goals first
     |exact aa.elim
     |(exfalso;simp_all;done)
     |(rename_i h;simp only[List.cons.injEq,and_true]at h;exact⟨_,_,_,_,h.1,h.2⟩)
   ·simp only[kW]at aa
    split at aa
    all_goals first
     |exact aa.elim
     |(exfalso;simp_all;done)
     |(rename_i h;simp only[List.cons.injEq,and_true]at h;exact⟨_,_,_,_,h.1,h.2⟩)
  obtain⟨k1,a1,k2,a2,rfl,rfl⟩:=hd
  cases hx with
  |v _ _ hx=>
  cases hy with
  |v _ _ hy=>
  generalize hu:a.eval x=u at *
  generalize hv:a.eval y=v at *
  cases hx;cases hy
  rcases hb with rfl | rfl
  ·refine jo hC (s:=Builtin.min_ ts.toArray o.type #[.int k1 a1,.int k2 a2]) ?_ ⟨.int k1 (if a2<a1 then a2 else a1),?_,.v _ _ (.int _ _),rfl⟩
   ·simp[execOp,ho,resolve,invoke,builtin,hu,hv]
   ·simp[Builtin.min_,Builtin.min2]
  ·refine jo hC (s:=Builtin.max_ ts.toArray o.type #[.int k1 a1,.int k2 a2]) ?_ ⟨.int k1 (if a2>a1 then a2 else a1),?_,.v _ _ (.int _ _),rfl⟩
   ·simp[execOp,ho,resolve,invoke,builtin,hu,hv]
   ·simp[Builtin.max_,Builtin.max2]
set_option maxHeartbeats 4000000 in
theorem W9{P:Program}{Γ:FuncId->Option Spec}(hΓ:∀ f s,Γ f=some s->aL P f s){G:Ghost}{φ:Name->Loc}{m:Mem}{σ:S}{a:Act}{w:World}(hC:aM G φ m σ a w)
 (o:Oper) (t:Name) (ht:∃ k,t=k::σ.pre) (hc:mo σ o.op=true) (aa:(aW P Γ σ t o.op).ok):pA P G σ a w o (aW P Γ σ t o.op):=by
 cases ho:o.op with
 |move x=>
  rw[ho]at hc aa
  refine qB (φ:=φ) (m:=m) (v:=a.eval x) (w':=w) (by simp[execOp,ho]) ⟨φ,m,hC,bY hC (cS hc (by simp[Op.operands]))⟩
 |assign x=>
  rw[ho]at hc aa
  refine qB (φ:=φ) (m:=m) (v:=a.eval x) (w':=w) (by simp[execOp,ho]) ⟨φ,m,hC,bY hC (cS hc (by simp[Op.operands]))⟩
 |pick c x y=>
  rw[ho]at hc aa
  simp only[mo,Bool.and_eq_true]at hc
  obtain⟨h1,h2⟩:=hc
  have xR:=bY hC h1
  simp only[aW]at aa |-
  generalize an σ c=dc at *
  unfold im at aa
  split at aa
  ·rename_i b
   generalize he:a.eval c=u at xR
   cases xR with
   |v _ _ xR=>
   cases xR
   simp only at h2
   refine qB (φ:=φ) (m:=m) (v:=if b then a.eval x else a.eval y) (w':=w) (by simp[execOp,ho,he,asBool]) ⟨φ,m,by simpa[im]using hC,?_⟩
   have :aA φ σ.obj m (if b then an σ x else an σ y) (if b then a.eval x else a.eval y):=by
    cases b with
    |true=>exact bY hC (by simpa using h2)
    |false=>exact bY hC (by simpa using h2)
   exact Xl this
  ·exact aa.elim
 |alloc T=>
  rw[ho]at aa
  refine qC (s:=Instr.alloc T true (.tuple #[])) (by simp[execOp,ho]) (NN hC aa)
 |box T x=>
  rw[ho]at hc aa
  refine qC (s:=Instr.box T (a.eval x)) (by simp[execOp,ho]) (NI hC (bY hC (cS hc (by simp[Op.operands]))) aa)
 |build T ps=>
  rw[ho]at hc aa
  obtain⟨h1,h2⟩:=Ft hC (ps:=ps) (fun p hp=>cS hc (by simp only[Op.operands,List.mem_map];exact⟨p,hp,rfl⟩))
  refine jo hC (s:=Instr.build T (ps.map fun (i,x)=>(i,a.eval x))) (by simp[execOp,ho]) (NH w h1 h2 aa)
 |buildSlice T n ps=>
  rw[ho]at hc aa
  obtain⟨h1,h2⟩:=Ft hC (ps:=ps) (fun p hp=>cS hc (by simp only[Op.operands,List.mem_map];exact⟨p,hp,rfl⟩))
  refine qC (s:=Instr.buildSlice T n (ps.map fun (i,x)=>(i,a.eval x))) (by simp[execOp,ho]) (NG hC h1 h2 aa)
 |load T x=>
  rw[ho]at hc aa
  refine jo hC (s:=Instr.loadAt T (a.eval x)) (by simp[execOp,ho]) (EI hC (bY hC (cS hc (by simp[Op.operands]))) aa)
 |store T x d=>
  rw[ho]at hc aa
  refine Cy ?_ (s:=Instr.storeAt T (a.eval x) (a.eval d)) (by simp[execOp,ho]) (Nq hC (bY hC (cS hc (by simp[Op.operands]))) (bY hC (cS hc (by simp[Op.operands]))) aa)
  simp only[aW,jv]
  (repeat' split)<;>rfl
 |nilCheck x=>
  rw[ho]at hc aa
  obtain⟨h1,h2,h3⟩:=Nt (P:=P) (ρ:=a.eval) (c:=x) (o:=o) w (bY hC (cS hc (by simp[Op.operands]))) aa ho rfl
  refine qB (φ:=φ) (m:=m) h1 ⟨φ,m,?_,?_⟩
  ·simp only[aW];rw[h3];exact hC
  ·simp only[aW];rw[h3];exact h2
 |binOp op T x y yT=>
  rw[ho]at hc aa
  exact jo hC (s:=do eqGuard op T x y (a.eval x) (a.eval y);binOp op T (a.eval x) (a.eval y)) (by simp[execOp,ho]) (NJ hC (bY hC (cS hc (by simp[Op.operands]))) (bY hC (cS hc (by simp[Op.operands]))) (fun h=>by
   cases y with
   |const v=>cases v with
    |slice a n c=>cases a with
     |none=>exact⟨n,c,rfl⟩
     |some=>cases h
    |_=>cases h
   |_=>cases h) aa)
 |unOp op T x=>
  rw[ho]at hc aa
  exact jo hC (s:=Op.unary op (a.eval x)) (by simp[execOp,ho]) (Np w (bY hC (cS hc (by simp[Op.operands]))) aa)
 |convert s d x=>
  rw[ho]at hc aa
  exact jo hC (s:=convert s d (a.eval x)) (by simp[execOp,ho]) (NF w (bY hC (cS hc (by simp[Op.operands]))) aa)
 |makeFunc fn f c=>
  rw[ho]at hc aa
  obtain⟨h1,h2⟩:=AY hC (xs:=f) (fun x hx=>cS hc (by simp[Op.operands,hx]))
  obtain⟨h3,h4⟩:=AY hC (xs:=c) (fun x hx=>cS hc (by simp[Op.operands,hx]))
  exact qB (φ:=φ) (m:=m) (v:=.func fn (f.map a.eval) (c.map a.eval)) (w':=w) (by simp[execOp,ho,Instr.makeFunc]) ⟨φ,m,hC,.clo _ _ _ _ _ h1 h3 h2 h4⟩
 |makeMap T r=>
  rw[ho]at hc aa
  exact qC (s:=Instr.makeMap T (r.map a.eval)) (by simp[execOp,ho]) (Nv hC (by cases r<;>rfl) aa)
 |makeSlice T l c=>
  rw[ho]at hc aa
  exact qC (s:=Instr.makeSlice T (a.eval l) (a.eval c)) (by simp[execOp,ho]) (Nu hC (bY hC (cS hc (by simp[Op.operands]))) (bY hC (cS hc (by simp[Op.operands]))) aa)
 |slice T x lo hi mx=>
  rw[ho]at hc aa
  have h0:∀ y,(y∈lo.toList\/y∈hi.toList\/y∈mx.toList\/y=x)->cC σ y=true:=fun y hy=>cS hc (by
   simp only[Op.operands,Array.toList_append,List.mem_append,Option.toList_toArray]
   rcases hy with h | h | h | h
   ·exact .inl (.inl (.inr h))
   ·exact .inl (.inr h)
   ·exact .inr h
   ·exact .inl (.inl (.inl (by simp[h]))))
  exact qC (s:=Instr.sliceAt T (a.eval x) (lo.map a.eval) (hi.map a.eval) (mx.map a.eval)) (by simp[execOp,ho])
   (Nr hC (bY hC (h0 x (by simp))) (z' hC fun y hy=>h0 y (.inl hy)) (z' hC fun y hy=>h0 y (.inr (.inl hy))) (z' hC fun y hy=>h0 y (.inr (.inr (.inl hy)))) aa)
 |fieldAddr T x f=>
  rw[ho]at hc aa
  exact jo hC (s:=Instr.fieldAt T (a.eval x) f) (by simp[execOp,ho]) (NA w (bY hC (cS hc (by simp[Op.operands]))) aa)
 |field T x f=>
  rw[ho]at hc aa
  exact jo hC (s:=Instr.field T (a.eval x) f) (by simp[execOp,ho]) (NB w (bY hC (cS hc (by simp[Op.operands]))) aa)
 |indexAddr T x i=>
  rw[ho]at hc aa
  exact jo hC (s:=Instr.indexAt T (a.eval x) (a.eval i)) (by simp[execOp,ho]) (Ny hC (bY hC (cS hc (by simp[Op.operands]))) (bY hC (cS hc (by simp[Op.operands]))) aa)
 |index T x i=>
  rw[ho]at hc aa
  exact jo hC (s:=Instr.index T (a.eval x) (a.eval i)) (by simp[execOp,ho]) (Nz w (bY hC (cS hc (by simp[Op.operands]))) (bY hC (cS hc (by simp[Op.operands]))) aa)
 |lookup T x i co=>
  rw[ho]at hc aa
  exact jo hC (s:=Instr.lookup T (a.eval x) (a.eval i) co) (by simp[execOp,ho]) (Nw hC (bY hC (cS hc (by simp[Op.operands]))) (bY hC (cS hc (by simp[Op.operands]))) aa)
 |mapUpdate T x k d=>
  rw[ho]at hc aa
  refine Cy ?_ (s:=Instr.mapUpdate T (a.eval x) (a.eval k) (a.eval d)) (by simp[execOp,ho])
   (EH hC (bY hC (cS hc (by simp[Op.operands]))) (bY hC (cS hc (by simp[Op.operands]))) (bY hC (cS hc (by simp[Op.operands]))) aa)
  simp only[aW,iZ]
  (repeat' split)<;>rfl
 |insert T x k d=>
  rw[ho]at hc aa
  refine Cy ?_ (s:=Instr.mapUpdate T (a.eval x) (a.eval k) (a.eval d)) (by simp[execOp,ho])
   (EH hC (bY hC (cS hc (by simp[Op.operands]))) (bY hC (cS hc (by simp[Op.operands]))) (bY hC (cS hc (by simp[Op.operands]))) aa)
  simp only[aW,iZ]
  (repeat' split)<;>rfl
 |extract x i=>
  rw[ho]at hc aa
  exact jo hC (s:=Instr.extract (a.eval x) i) (by simp[execOp,ho]) (NC w (bY hC (cS hc (by simp[Op.operands]))) aa)
 |call c=>
  obtain⟨callee,args,ts⟩:=c
  rw[ho]at hc aa
  cases callee with
  |builtin b=>
   exact WH hC o t b args ts ho (fun x hx=>cS hc (by simp[Op.operands,Call.operands,hx])) aa
  |invoke=>exact aa.elim
  |value f=>
   have hf:=bY hC (cS hc (x:=f) (by simp[Op.operands,Call.operands]))
   obtain⟨h1,h2⟩:=AY hC (xs:=args) (fun x hx=>cS hc (by simp[Op.operands,Call.operands,hx]))
   simp only[aW]at aa |-
   generalize hu:a.eval f=u at hf
   generalize an σ f=df at *
   unfold qX at aa |-
   split at aa
   ·rename_i s hs
    obtain⟨g,hg,oQ⟩:=Option.bind_eq_some_iff.1 hs
    unfold fv at hg
    split at hg
    ·rename_i g fs cs
     split at hg
     ·cases hg
     rename_i aD
     cases hg
     cases hf with
     |v _ _ hf=>
     cases hf with
     |clo _ _ _ us vs e1 e2 dS fa=>
     try simp only[hs]
     refine KR hΓ hC ht aD oQ (us:=us++args.map a.eval++vs) (by simp[execOp,ho,resolve,Deferred.ofValue,hu,invoke]) (by simp[eh,e1,e2]) (fun i hi bu=>?_) aa
     simp only[eh,List.length_append,List.length_map]at hi |-
     by_cases k1:i<fs.length
     ·have q1:i<us.size:=by omega
      simp only[List.append_assoc,Array.append_assoc]
      rw[List.getElem_append_left (by simpa using k1),Array.getElem_append_left q1]
      simp only[List.getElem_map]
      exact .v _ _ (dS i k1 q1)
     ·by_cases k2:i<fs.length+args.toList.length
      ·simp only[List.append_assoc,Array.append_assoc]
       rw[List.getElem_append_right (by simp;omega),List.getElem_append_left (by simp at k2 |-;omega),Array.getElem_append_right (by omega),Array.getElem_append_left (by simp at k2 |-;omega)]
       have :=h2 (i-fs.length) (by simp at k2 |-;omega) (by simp at k2 |-;omega)
       simp only[List.length_map,<-e1]
       exact this
      ·rw[List.getElem_append_right (by simp at k2 |-;omega),Array.getElem_append_right (by simp at k2 |-;omega)]
       have :=fa (i-(fs.length+args.size)) (by simp at hi k2;omega) (by simp at hi k2;omega)
       simp only[List.length_append,List.length_map,Array.length_toList,Array.size_append,Array.size_map,List.getElem_map,<-e1]
       exact .v _ _ this
    ·rename_i g fs cs
     split at hg
     ·cases hg
     rename_i aD
     cases hg
     cases hf with
     |clo _ _ _ us vs e1 e2 dS fa=>
     try simp only[hs]
     refine KR hΓ hC ht aD oQ (us:=us++args.map a.eval++vs) (by simp[execOp,ho,resolve,Deferred.ofValue,hu,invoke]) (by simp[eh,e1,e2]) (fun i hi bu=>?_) aa
     simp only[eh,List.length_append,List.length_map]at hi |-
     by_cases k1:i<fs.length
     ·have q1:i<us.size:=by omega
      simp only[List.append_assoc,Array.append_assoc]
      rw[List.getElem_append_left (by simpa using k1),Array.getElem_append_left q1]
      exact dS i k1 q1
     ·by_cases k2:i<fs.length+args.toList.length
      ·simp only[List.append_assoc,Array.append_assoc]
       rw[List.getElem_append_right (by omega),List.getElem_append_left (by simp at k2 |-;omega),Array.getElem_append_right (by omega),Array.getElem_append_left (by simp at k2 |-;omega)]
       have :=h2 (i-fs.length) (by simp at k2 |-;omega) (by simp at k2 |-;omega)
       simp only[<-e1]
       exact this
      ·rw[List.getElem_append_right (by simp at k2 |-;omega),Array.getElem_append_right (by simp at k2 |-;omega)]
       have :=fa (i-(fs.length+args.size)) (by simp at hi k2;omega) (by simp at hi k2;omega)
       simp only[List.length_append,List.length_map,Array.length_toList,Array.size_append,Array.size_map,<-e1]
       exact this
    ·rename_i nm
     cases hg
     cases hf with
     |yld _ hb=>
     try simp only[hs]
     exact(hΓ yid s oQ).yields rfl G φ m σ a w hC t nm (args.toList.map (an σ)) (args.map a.eval) ht h1 h2 hb aa o (by simp[execOp,ho,resolve,Deferred.ofValue,hu,invoke])
    ·cases hg
   ·exact aa.elim
 |_=>rw[ho]at aa;exact aa.elim
def mG(ops:Array Oper)(j:Nat):Option Tmp:=(ops[j]?).bind (·.dst)
def CT(e:E)(want:Bool):Bool:=e.c&&(match e.d with | .v (.bool b)=>b==want | _=>false)
def yj(e:E):Prop:=match e.d with | .v (.bool _)=>True | _=>e.c=false
def ee(ops:Array Oper)(σ:S)(o:Oper):Bool:=
 match o.guard with
 |none=>true
 |some (j,want)=>match mG ops j with
  |some s=>CT (σ.env s) want
  |none=>false
def mH(ops:Array Oper)(σ:S)(o:Oper):Prop:=
 match o.guard with
 |none=>True
 |some (j,_)=>match mG ops j with
  |some s=>yj (σ.env s)/\s<σ.nt
  |none=>True
theorem ME{G:Ghost}{φ:Name->Loc}{m:Mem}{σ:S}{a:Act}{w:World}(hC:aM G φ m σ a w){ops:Array Oper}{o:Oper}(h:mH ops σ o):
 Region.wanted o (yielded ops a.tmps)=ee ops σ o:=by
 unfold Region.wanted ee
 unfold mH at h
 cases hg:o.guard with
 |none=>rfl
 |some p=>
  obtain⟨j,want⟩:=p
  simp only[hg]at h |-
  unfold yielded
  unfold mG at h |-
  cases hs:(ops[j]?).bind (·.dst)with
  |none=>rfl
  |some s=>
   simp only[hs]at h |-
   obtain⟨h,ae⟩:=h
   have ht:=hC.tmps s
   have au:s<a.tmps.size:=by rw[hC.size];exact ae
   have e0:a.tmps.getD s undef=a.tmps[s]:=by simp[Array.getD,au]
   rw[e0]at ht
   simp only[Option.bind_some,Array.getElem?_eq_getElem au]
   unfold CT
   unfold yj at h
   unfold bZ at ht
   generalize a.tmps[s]=u at *
   generalize σ.env s=e at *
   obtain⟨c,d⟩:=e
   simp only at h ht |-
   cases c with
   |false=>
    simp only[Bool.false_eq_true,if_false]at ht
    subst ht
    simp[undef]
   |true=>
    simp only[if_true]at ht
    split at h
    ·cases ht with
     |v _ _ ht=>cases ht;simp
    ·cases h
def bc(P:Program)(Γ:FuncId->Option Spec)(ops:Array Oper)(σ:S)(o:Oper):S:=
 ⟨σ.nt,match o.dst with
   |some t=>upd σ.env t ⟨ee ops σ o,(aW P Γ σ ((σ.base+t)::σ.pre) o.op).d⟩
   |none=>σ.env,if ee ops σ o=true then(aW P Γ σ ((σ.base+o.dst.getD 0)::σ.pre) o.op).obj else σ.obj,σ.pre,σ.base⟩
def jD(P:Program)(Γ:FuncId->Option Spec)(ops:Array Oper)(σ:S)(o:Oper):Prop:=
 mH ops σ o/\(match o.dst with | some t=>t<σ.nt | none=>True)/\(ee ops σ o=true->mo σ o.op=true/\(aW P Γ σ ((σ.base+o.dst.getD 0)::σ.pre) o.op).ok)
def oa(P:Program)(Γ:FuncId->Option Spec)(ops:Array Oper):List Oper->S->(S->Prop)->Prop
 |[],σ,K=>K σ
 |o::r,σ,K=>jD P Γ ops σ o/\oa P Γ ops r (bc P Γ ops σ o) K
theorem zG{P:Program}{Γ:FuncId->Option Spec}(hΓ:∀ f s,Γ f=some s->aL P f s){G:Ghost}{φ:Name->Loc}{m:Mem}{σ:S}{a:Act}{w:World}(hC:aM G φ m σ a w)
 {ops:Array Oper} {i:Nat} {o:Oper} (hi:ops[i]?=some o) (h:jD P Γ ops σ o) {K:Act->World->Prop} {Q:Exit->Act->World->Prop}
 (hK:∀ a' w' φ' m',aM G φ' m' (bc P Γ ops σ o) a' w'->K a' w'):wpOpIn (eY G.rd) 0 P ops Q i K a w:=by
 obtain⟨h1,h2,h3⟩:=h
 unfold wpOpIn
 simp only[hi,ME hC h1]
 cases hg:ee ops σ o with
 |true=>
  simp only[if_true]
  obtain⟨h4,h5⟩:=h3 hg
  refine⟨fun _ _=>trivial,?_⟩
  rw[Oper.semAt_eq _ _ _ (Xa h5)]
  refine(W9 hΓ hC o ((σ.base+o.dst.getD 0)::σ.pre) ⟨_,rfl⟩ h4 h5 _ _ fun v φ' m' w' ca hr=>hK _ _ φ' m' ?_)
  unfold bc
  rw[hg]
  cases hd:o.dst with
  |none=>simpa[hd,Act.put]using ca
  |some t=>
   simp only[hd]at h2
   simp only[hd,Option.getD_some,if_true]at ca hr |-
   refine ca.put (e:=⟨true,_⟩) h2 ?_
   unfold bZ
   simpa using hr
 |false=>
  simp only[Bool.false_eq_true,if_false]
  refine⟨fun _ _=>trivial,hK _ _ φ m ?_⟩
  unfold bc
  rw[hg]
  cases hd:o.dst with
  |none=>simpa[hd,Act.put]using hC
  |some t=>
   simp only[hd]at h2
   simp only[Bool.false_eq_true,if_false]
   refine hC.put (e:=⟨false,_⟩) h2 ?_
   unfold bZ
   simp
theorem E1{P:Program}{Γ:FuncId->Option Spec}(hΓ:∀ f s,Γ f=some s->aL P f s){G:Ghost}{ops:Array Oper}{Q:Exit->Act->World->Prop}{K:S->Prop}:
 ∀ (n k:Nat) {φ:Name->Loc} {m:Mem} {σ:S} {a:Act} {w:World},k+n=ops.size->aM G φ m σ a w->oa P Γ ops (ops.toList.drop k) σ K->
   (∀ a' w' φ' m' σ',aM G φ' m' σ' a' w'->K σ'->Q .normal a' w')->wpOpsIn (eY G.rd) 0 P ops Q (List.range' k n) a w
 | 0,k,φ,m,σ,a,w,hk,hC,hr,hQ=>by
   have :ops.toList.drop k=[]:=List.drop_eq_nil_of_le (by simp;omega)
   rw[this]at hr
   exact hQ _ _ φ m σ hC hr
 |n+1,k,φ,m,σ,a,w,hk,hC,hr,hQ=>by
  have ae:k<ops.size:=by omega
  have hd:ops.toList.drop k=ops[k]::ops.toList.drop (k+1):=by
   rw[List.drop_eq_getElem_cons (by simpa using ae)];simp
  rw[hd]at hr
  obtain⟨h1,h2⟩:=hr
  rw[List.range'_succ,wpOpsIn_cons]
  exact zG hΓ hC (Array.getElem?_eq_getElem ae) h1 fun a' w' φ' m' ca=>E1 hΓ n (k+1) (by omega) ca h2 hQ
def CW(P:Program)(c:Code)(σ:S)(K:Exit->S->Prop):Prop:=
 ∀ (G:Ghost) (φ:Name->Loc) (m:Mem) (a:Act) (w:World),aM G φ m σ a w->c.wpIn (eY G.rd) 0 P (fun e a' w'=>∃ φ' m' σ',aM G φ' m' σ' a' w'/\K e σ') a w
def iv(k:S->Prop)(K:Exit->S->Prop):Exit->S->Prop
 | .normal,σ=>k σ
 |e,σ=>K e σ
def po(id:Nat)(K:Exit->S->Prop):Exit->S->Prop
 | .exit jK,σ=>if jK=id then K .normal σ else K (.exit jK) σ
 |e,σ=>K e σ
theorem CW.mono{P:Program}{c:Code}{σ:S}{K K':Exit->S->Prop}(h:CW P c σ K)(hk:∀ e σ',K e σ'->K' e σ'):CW P c σ K':=
 fun G φ m a w hC=>wpIn_mono (h G φ m a w hC) fun e a' w' ⟨φ',m',σ',h1,h2⟩=>⟨φ',m',σ',h1,hk _ _ h2⟩
theorem yv{P:Program}{x y:Code}{σ:S}{K:Exit->S->Prop}(h:CW P x σ (iv (fun σ'=>CW P y σ' K) K)):CW P (.seq x y) σ K:=by
 intro G φ m a w hC
 refine wpIn_seq (wpIn_mono (h G φ m a w hC) ?_)
 rintro e a' w' ⟨φ',m',σ',h1,h2⟩
 cases e with
 |normal=>exact h2 G φ' m' a' w' h1
 |_=>exact⟨φ',m',σ',h1,h2⟩
theorem Kx{P:Program}{σ:S}{K:Exit->S->Prop}(h:K .normal σ):CW P .skip σ K:=
 fun G φ m a w hC=>wpIn_skip ⟨φ,m,σ,hC,h⟩
theorem KC{P:Program}{id:Nat}{σ:S}{K:Exit->S->Prop}(h:K (.exit id) σ):CW P (.exit id) σ K:=
 fun G φ m a w hC=>wpIn_exit ⟨φ,m,σ,hC,h⟩
theorem Ky{P:Program}{σ:S}{K:Exit->S->Prop}(h:K .ret σ):CW P .ret σ K:=
 fun G φ m a w hC=>wpIn_ret ⟨φ,m,σ,hC,h⟩
theorem V6{P:Program}{l:Nat}{σ:S}{K:Exit->S->Prop}(h:K .normal σ):CW P (.label l) σ K:=
 fun G φ m a w hC=>wpIn_label ⟨φ,m,σ,hC,h⟩
section
variable {P:Program} {b:Frame} {a:Act} {k:List Item} {cs:List Frame} {w:World}
theorem rE{c:Code}:step P (lone (b.atR a (.code (.scope c)::k)) cs w)=.next (lone (b.atR a (.code c:: .inScope c::k)) cs w):=
 step_lone_go (by simp[stepG,stepG.exec,Frame.atR])
theorem M2{c:Code}:step P (lone (b.atR a (.inScope c::k)) cs w)=.next (lone (b.atR a k) cs w):=
 step_lone_go (by simp[stepG,stepG.exec,Frame.atR])
end
theorem V5{P:Program}{c:Code}{σ:S}{K:Exit->S->Prop}(Tn:∀ l σ',¬ K (.goto l) σ')(h:CW P c σ K):CW P (.scope c) σ K:=by
 intro G φ m a w hC b k cs dF hb hr
 have h0:(lone (b.atR a (.code (.scope c)::k)) cs w).fenced P (eY G.rd):=fenced_calm hb hr rfl
 obtain⟨e,a₁,w₁,⟨φ',m',σ',h1,h2⟩,gn⟩:=h G φ m a w hC b (.inScope c::k) cs dF hb hr
 cases e with
 |normal=>exact⟨.normal,a₁,w₁,⟨φ',m',σ',h1,h2⟩,.head h0 rE (StepsIn.trans gn (.one (fenced_calm hb hr rfl) M2))⟩
 |exit id=>
  have hx:exitTo id (.inScope c::k)=exitTo id k:=by simp[exitTo]
  exact⟨.exit id,a₁,w₁,⟨φ',m',σ',h1,h2⟩,fun k' hk=>.head h0 rE (gn.1 k' (by rw[hx];exact hk)),
   fun oS hk=>let ⟨k₁,h1,h2⟩:=gn.2 oS (by rw[hx];exact hk);⟨k₁,h1,.head h0 rE h2⟩⟩
 |goto l=>exact(Tn l σ' h2).elim
 |ret=>exact⟨_,a₁,w₁,⟨φ',m',σ',h1,h2⟩,.of_steps (.one h0 rE) gn⟩
 |panic ch=>exact⟨_,a₁,w₁,⟨φ',m',σ',h1,h2⟩,.of_steps (.one h0 rE) gn⟩
 |outgrown=>exact⟨_,a₁,w₁,⟨φ',m',σ',h1,h2⟩,.of_steps (.one h0 rE) gn⟩
theorem C7{P:Program}{c:Operand}{x y:Code}{σ:S}{K:Exit->S->Prop}{b:Bool}(hc:cC σ c=true)(hd:an σ c=.v (.bool b))
 (ht:b=true->CW P x σ K) (hf:b=false->CW P y σ K):CW P (.cond c x y) σ K:=by
 intro G φ m a w hC
 have hr:=bY hC hc
 rw[hd]at hr
 have he:a.eval c=.bool b:=by
  generalize a.eval c=u at hr
  cases hr with | v _ _ hr=>cases hr;rfl
 exact wpIn_cond_split he (fun e=>ht e G φ m a w hC) (fun e=>hf e G φ m a w hC)
theorem vn{P:Program}{id:Nat}{c:Code}{σ:S}{K:Exit->S->Prop}(h:CW P c σ (po id K)):CW P (.block id c) σ K:=by
 intro G φ m a w hC
 refine wpIn_block (wpIn_mono (h G φ m a w hC) ?_)
 rintro e a' w' ⟨φ',m',σ',h1,h2⟩
 cases e with
 |exit jK=>
  simp only[Exit.inBlock]
  simp only[po]at h2
  split<;>rename_i qo
  ·rw[if_pos qo]at h2;exact⟨φ',m',σ',h1,h2⟩
  ·rw[if_neg qo]at h2;exact⟨φ',m',σ',h1,h2⟩
 |_=>exact⟨φ',m',σ',h1,h2⟩
def dz(σ σ':S):Prop:=
 ∀ (G:Ghost) (φ:Name->Loc) (m:Mem) (a:Act) (w:World),aM G φ m σ a w->∃ φ',aM G φ' m σ' a w
theorem sS{P:Program}{c:Code}{σ σ':S}{K:Exit->S->Prop}(hw:dz σ σ')(h:CW P c σ' K):CW P c σ K:=by
 intro G φ m a w hC
 obtain⟨φ',ca⟩:=hw G φ m a w hC
 exact h G φ' m a w ca
theorem KB{P:Program}{c:Code}{σ:S}{K:Exit->S->Prop}{ι:Type}(I:ι->S)(R:ι->Prop)(μ:ι->Nat)(i0:ι)(hR:R i0)(h0:dz σ (I i0))
 (round:∀ i,R i->CW P c (I i) (iv (fun σ'=>∃ i',R i'/\μ i'<μ i/\dz σ' (I i')) K)):CW P (.loop c) σ K:=by
 intro G φ m a w hC
 obtain⟨φ0,U3⟩:=h0 G φ m a w hC
 intro b k cs dF hb hr
 have key:∀ n i,μ i=n->R i->∀ φ m a w,aM G φ m (I i) a w->
     ∃ e a' w',(∃ φ' m' σ',aM G φ' m' σ' a' w'/\K e σ')/\ArrivesIn (Machine.fenced P (eY G.rd)) P (lone (b.atR a (.code c:: .inLoop c::k)) cs w) b k cs e a' w':=by
  intro n
  induction n using Nat.strongRecOn with
  |_ n ih=>
   intro i hn hi φ m a w hC
   obtain⟨e,a₁,w₁,hq,gn⟩:=round i hi G φ m a w hC b (.inLoop c::k) cs dF hb hr
   obtain⟨φ',m',σ',h1,h2⟩:=hq
   cases e with
   |normal=>
    obtain⟨i',bu,ae,hw⟩:=h2
    obtain⟨rk,U4⟩:=hw G φ' m' a₁ w₁ h1
    obtain⟨e₂,a₂,w₂,Tg,UB⟩:=ih (μ i') (hn▸ae) i' rfl bu rk m' a₁ w₁ U4
    exact⟨e₂,a₂,w₂,Tg,.of_steps (StepsIn.trans gn (.one (fenced_calm hb hr rfl) stepR_inLoop)) UB⟩
   |exit id=>exact⟨_,a₁,w₁,⟨φ',m',σ',h1,h2⟩,.pass (x:=.inLoop c) rfl (fun _ _=>.inl (by simp)) gn⟩
   |goto l=>exact⟨_,a₁,w₁,⟨φ',m',σ',h1,h2⟩,.pass (x:=.inLoop c) rfl (fun _ _=>.inl (by simp)) gn⟩
   |ret=>exact⟨_,a₁,w₁,⟨φ',m',σ',h1,h2⟩,.pass (x:=.inLoop c) rfl (fun _ _=>.inl (by simp)) gn⟩
   |panic ch=>exact⟨_,a₁,w₁,⟨φ',m',σ',h1,h2⟩,.pass (x:=.inLoop c) rfl (fun _ _=>.inl (by simp)) gn⟩
   |outgrown=>exact⟨_,a₁,w₁,⟨φ',m',σ',h1,h2⟩,.pass (x:=.inLoop c) rfl (fun _ _=>.inl (by simp)) gn⟩
 obtain⟨e,a',w',hq,gn⟩:=key _ i0 rfl hR φ0 m a w U3
 exact⟨e,a',w',hq,.of_steps (.one (fenced_calm hb hr rfl) stepR_loop) gn⟩
theorem C4{P:Program}{Γ:FuncId->Option Spec}(hΓ:∀ f s,Γ f=some s->aL P f s){id:Nat}{l:List Oper}{σ:S}{K:Exit->S->Prop}
 (h:∀ K':S->Prop,(∀ σ',K .normal σ'->K' σ')->oa P Γ l.toArray l σ K'):CW P (.region id l.toArray false) σ K:=by
 intro G φ m a w hC
 refine wpIn_region ?_
 rw[List.range_eq_range']
 refine E1 hΓ (ops:=l.toArray) l.toArray.size 0 (by simp) hC (K:=K .normal) (by simpa using h (K .normal) fun _ h=>h) fun a' w' φ' m' σ' ca hK=>⟨φ',m',σ',ca,hK⟩
mutual
def D.clos(dom:Name->Bool):D->Bool
 | .ref nm _=>dom nm
 | .msl nm _=>dom nm
 | .aref nm _ _ _=>dom nm
 | .map nm=>dom nm
 | .yld nm=>dom nm
 | .clo _ f c=>D.closL dom f&&D.closL dom c
 | .agg l=>D.closL dom l
 | .tup l=>D.closL dom l
 |_=>true
def D.closL(dom:Name->Bool):List D->Bool
 |[]=>true
 |d::r=>D.clos dom d&&D.closL dom r
end
theorem gL{dom:Name->Bool}:∀ {l:List D} {i:Nat} (h:i<l.length),D.closL dom l=true->D.clos dom l[i]=true
 |d::r,0,_,hc=>by simp only[D.closL,Bool.and_eq_true]at hc;exact hc.1
 |d::r,i+1,h,hc=>by simp only[D.closL,Bool.and_eq_true]at hc;exact gL (l:=r) (by simpa using h) hc.2
theorem aA.drop{φ:Name->Loc}{obj obj':Name->Option O}{m:Mem}{dom:Name->Bool}(ho:∀ nm,dom nm=true->obj' nm=obj nm){d:D}{u:Value}(h:aA φ obj m d u)
 (hc:D.clos dom d=true):aA φ obj' m d u:=by
 induction h with
 |any u=>exact .any u
 |v x u h=>exact .v x u h
 |nilsl a=>exact .nilsl a
 |nilmap=>exact .nilmap
 |ref nm off h=>simp only[D.clos]at hc;exact .ref nm off (by unfold pZ;rw[ho _ hc];exact h)
 |map nm h=>simp only[D.clos]at hc;exact .map nm (by unfold pZ;rw[ho _ hc];exact h)
 |yld nm h=>simp only[D.clos]at hc;exact .yld nm (by unfold pZ;rw[ho _ hc];exact h)
 |msl nm k u h hu=>simp only[D.clos]at hc;exact .msl nm k u (by rw[ho _ hc];exact h) hu
 |aref nm k i off u h hu=>simp only[D.clos]at hc;exact .aref nm k i off u (by rw[ho _ hc];exact h) hu
 |clo fn fs cs us vs h1 h2 dS fa nF nE=>
  simp only[D.clos,Bool.and_eq_true]at hc
  exact .clo fn fs cs us vs h1 h2 (fun i a b=>nF i a b (gL a hc.1)) fun i a b=>nE i a b (gL a hc.2)
 |agg l us h cF hr ih=>simp only[D.clos]at hc;exact .agg l us h cF fun i a b=>ih i a b (gL a hc)
 |tup l us h hr ih=>simp only[D.clos]at hc;exact .tup l us h fun i a b=>ih i a b (gL a hc)
def O.clos(dom:Name->Bool):O->Bool
 | .box cs=>D.closL dom cs
 | .loop env _ _ _ _ _=>D.closL dom (env.map (·.d))
 |_=>true
mutual
theorem clos_imp{dom dom':Name->Bool}(hd:∀ nm,dom nm=true->dom' nm=true):∀ d:D,D.clos dom d=true->D.clos dom' d=true
 | .ref nm _,hc=>hd nm hc
 | .msl nm _,hc=>hd nm hc
 | .aref nm _ _ _,hc=>hd nm hc
 | .map nm,hc=>hd nm hc
 | .yld nm,hc=>hd nm hc
 | .clo _ f c,hc=>by
   simp only[D.clos,Bool.and_eq_true]at hc |-
   exact⟨qQ hd f hc.1,qQ hd c hc.2⟩
 | .agg l,hc=>by simp only[D.clos]at hc |-;exact qQ hd l hc
 | .tup l,hc=>by simp only[D.clos]at hc |-;exact qQ hd l hc
 | .v _,_=>by simp only[D.clos]
 | .nilsl,_=>by simp only[D.clos]
 | .nilmap,_=>by simp only[D.clos]
 | .any,_=>by simp only[D.clos]
theorem qQ{dom dom':Name->Bool}(hd:∀ nm,dom nm=true->dom' nm=true):∀ l:List D,D.closL dom l=true->D.closL dom' l=true
 |[],_=>by simp only[D.closL]
 |d::r,hc=>by
  simp only[D.closL,Bool.and_eq_true]at hc |-
  exact⟨clos_imp hd d hc.1,qQ hd r hc.2⟩
end
theorem O.clos_imp{dom dom':Name->Bool}(hd:∀ nm,dom nm=true->dom' nm=true){o:O}(h:O.clos dom o=true):O.clos dom' o=true:=by
 cases o with
 |box cs=>exact qQ hd cs h
 |loop env=>exact qQ hd _ h
 |_=>rfl
def eAny:E:=⟨true,.any⟩
def ba(nt:Nat)(p:Name)(H:Name->Option O)(l:List (Nat×E))(h:List (Name×O)):S:=
 ⟨nt,di eAny l,fun nm=>if own p nm=true then di none (h.map fun q=>(q.1,some q.2)) nm else H nm,p,0⟩
def bL(p:Name)(h:List (Name×O))(nm:Name):Bool:=!own p nm||h.any fun q=>q.1==nm
def bP(p:Name)(dom:Name->Bool)(H:Name->Option O):Prop:=∀ nm o,own p nm=false->H nm=some o->O.clos dom o=true
structure Fits (σ:S) (p:Name) (H:Name->Option O) (l:List (Nat×E)) (h:List (Name×O)):Prop where
 pre:σ.pre=p
 out:∀ nm,own p nm=false->σ.obj nm=H nm
 env:∀ q∈l,σ.env q.1=q.2
 obj:∀ q∈h,σ.obj q.1=some q.2
 envc:(l.all fun q=>D.clos (bL p h) q.2.d)=true
 objc:(h.all fun q=>O.clos (bL p h) q.2)=true
 outc:bP p (bL p h) H
theorem rZ{α β:Type}[DecidableEq α]{z:β}:∀ (l:List (α×β)) (x:α),di z l x=z\/(x,di z l x)∈l
 |[],x=>.inl rfl
 |(a,b)::r,x=>by
  simp only[di]
  split
  ·rename_i h;subst h;exact .inr (by simp)
  ·rcases rZ r x with h | h
   ·exact .inl h
   ·exact .inr (List.mem_cons_of_mem _ h)
theorem Fits.dom{σ:S}{p:Name}{H:Name->Option O}{l:List (Nat×E)}{h:List (Name×O)}(hf:Fits σ p H l h):∀ nm,bL p h nm=true->(ba σ.nt p H l h).obj nm=σ.obj nm:=by
 intro nm hd
 simp only[bL,Bool.or_eq_true,Bool.not_eq_true',List.any_eq_true,beq_iff_eq]at hd
 cases ho:own p nm with
 |false=>
  simp only[ba,ho,Bool.false_eq_true,if_false]
  exact(hf.out nm ho).symm
 |true=>
 rw[ho]at hd
 simp only[Bool.true_eq_false,false_or]at hd
 obtain⟨q,hq,rfl⟩:=hd
 rw[hf.obj q hq]
 simp only[ba,ho,if_true]
 have key:∀ (h':List (Name×O)),(∀ r∈h',r∈h)->q∈h'->di none (h'.map fun q=>(q.1,some q.2)) q.1=some q.2:=by
  intro h' hs IZ
  induction h' with
  |nil=>simp at IZ
  |cons r rs ih=>
   simp only[List.map_cons,di]
   split
   ·rename_i e
    have h1:=hf.obj r (hs r (by simp))
    have h2:=hf.obj q hq
    rw[<-e]at h1
    rw[h1]at h2
    exact h2
   ·rename_i e
    rcases List.mem_cons.1 IZ with h1 | h1
    ·subst h1;exact(e rfl).elim
    ·exact ih (fun r hr=>hs r (by simp[hr])) h1
 exact key h (fun _ h=>h) hq
theorem Fits.conc{σ:S}{p:Name}{H:Name->Option O}{l:List (Nat×E)}{h:List (Name×O)}(hf:Fits σ p H l h){G:Ghost}{φ:Name->Loc}{m:Mem}{a:Act}{w:World}(hC:aM G φ m σ a w):
 aM G φ m (ba σ.nt p H l h) a w:=by
 have uM:∀ nm o,(ba σ.nt p H l h).obj nm=some o->σ.obj nm=some o/\O.clos (bL p h) o=true:=by
  intro nm o hn
  simp only[ba]at hn
  split at hn
  ·rcases rZ (z:=(none:Option O)) (h.map fun q=>(q.1,some q.2)) nm with h1 | h1
   ·rw[h1]at hn;cases hn
   ·rw[hn]at h1
    simp only[List.mem_map,Prod.mk.injEq,Option.some.injEq]at h1
    obtain⟨q,hq,h2,h3⟩:=h1
    have :=hf.obj q hq
    rw[h2,h3]at this
    have h5:=List.all_eq_true.1 hf.objc q hq
    rw[h3]at h5
    exact⟨this,h5⟩
  ·rename_i ho
   have cF:own p nm=false:=by simpa using ho
   exact⟨(hf.out nm cF).trans hn,hf.outc nm o cF hn⟩
 have o0:=hf.dom
 have xL:∀ nm,holds φ (ba σ.nt p H l h).obj nm->holds φ σ.obj nm:=fun nm ⟨o,h1,h2,h3⟩=>⟨o,(uM nm o h1).1,h2,h3⟩
 constructor
 ·intro t
  rcases rZ (z:=eAny) l t with h1 | h1
  ·show bZ φ _ m (di eAny l t) _
   rw[h1];unfold bZ eAny;simp;exact .any _
  ·show bZ φ _ m (di eAny l t) _
   have h2:=hf.env _ h1
   have h3:=List.all_eq_true.1 hf.envc _ h1
   have h4:=hC.tmps t
   simp only at h2 h3
   rw[h2]at h4
   unfold bZ at h4 |-
   split
   ·rename_i hc
    rw[if_pos hc]at h4
    exact h4.drop o0 h3
   ·rename_i hc
    rw[if_neg hc]at h4;exact h4
 ·exact hC.size
 ·exact hC.defers
 ·intro nm o hn
  obtain⟨h1,h4⟩:=uM nm o hn
  have h3:=hC.objs nm o h1
  cases o with
  |box cs=>
   obtain⟨g0,g1,g2,us,T,f,g3,g4,g5,g6⟩:=h3
   simp only[O.clos]at h4
   exact⟨g0,g1,g2,us,T,f,g3,g4,g5,fun i a b=>(g6 i a b).drop o0 (gL a h4)⟩
  |loop env ps asg body st bx=>
   obtain⟨g0,g1,r,g2,g3,g4,g5,g6,g7,g8,g9⟩:=h3
   simp only[O.clos]at h4
   refine⟨g0,g1,r,g2,g3,g4,g5,g6,g7,g8,fun i a=>?_⟩
   have ya:=g9 i a
   unfold bZ at ya |-
   split
   ·rename_i hc
    rw[if_pos hc]at ya
    refine ya.drop o0 ?_
    have :=gL (l:=env.map (·.d)) (i:=i) (by simpa using a) h4
    simpa using this
   ·rename_i hc
    rwa [if_neg hc]at ya
  |arr=>exact h3
  |map=>exact h3
  |fbox=>exact h3
  |farr=>exact h3
  |dead=>exact h3
 ·exact hC.mem
 ·exact fun nm hn=>hC.apart nm (xL nm hn)
 ·exact fun x y hx hy e=>hC.inj x y (xL x hx) (xL y hy) e
 ·exact fun nm hn=>hC.own nm (xL nm hn)
 ·exact hC.fr
 ·exact hC.fresh
 ·refine⟨fun nm o h5=>hC.kept.1 nm o h5 |> fun h6=>by rw[hf.pre]at h6;exact h6,fun nm o h5=>?_⟩
  obtain⟨o',h6,h7⟩:=hC.kept.2 nm o h5
  have h8:=hC.kept.1 nm o h5
  rw[hf.pre]at h8
  refine⟨o',?_,h7⟩
  simp only[ba,h8,Bool.false_eq_true,if_false]
  rw[<-hf.out nm h8]
  exact h6
theorem Fits.weak{σ:S}{p:Name}{H:Name->Option O}{l:List (Nat×E)}{h:List (Name×O)}(hf:Fits σ p H l h):dz σ (ba σ.nt p H l h):=
 fun _ φ _ _ _ hC=>⟨φ,hf.conc hC⟩
theorem MA{σ:S}(t:Nat)(nm:Name)(sz:Nat)(he:σ.env t=⟨true,.nilsl⟩)(hn:σ.obj nm=none):
 dz σ ⟨σ.nt,upd σ.env t ⟨true,.msl nm 0⟩,upd σ.obj nm (some (.arr sz [])),σ.pre,σ.base⟩:=by
 intro G φ m a w hC
 have ht:=hC.tmps t
 rw[he]at ht
 unfold bZ at ht
 simp only[if_true]at ht
 generalize hu:a.tmps.getD t undef=u at ht
 cases ht with
 |nilsl b=>
 have hx:=Ext.new (φ:=φ) hn ⟨0,0,0,true,b⟩ (.arr sz [])
 have ca:=hC.chg (w':=w) nm (.arr sz []) ⟨0,0,0,true,b⟩ hx ⟨rfl,rfl,rfl,Nat.le_refl _⟩ (fun _ _ _=>rfl) (fun h=>by cases h) (.inl ⟨rfl,rfl⟩)
 refine⟨_,{ ca with tmps:=fun x=>?_ }⟩
 by_cases uA:x=t
 ·subst uA
  simp only[aN]
  rw[hu]
  unfold bZ
  simp only[if_true]
  refine .msl _ _ _ ⟨_,_,aN _ _ _,rfl,by simp,fun _=>?_⟩ rfl
  rw[aN];rfl
 ·have:=ca.tmps x
  simp only[aV _ _ _ uA]
  exact this
def lr(P:Program)(σ:S):ResultVar->R
 | .tmp t=>⟨(σ.env t).c=true,(σ.env t).d,σ.obj⟩
 | .cell a T=>⟨(σ.env a).c=true/\(match (σ.env a).d with | .ref _ _=>True | .v (.ptr _)=>True | _=>False)/\(iq P σ.obj T (σ.env a).d).ok,(iq P σ.obj T (σ.env a).d).d,σ.obj⟩
def bF(P:Program)(σ:S)(rs:List ResultVar):R:=
 match rs with
 |[r]=>lr P σ r
 |rs=>⟨∀ r∈rs,(lr P σ r).ok,.tup (rs.map fun r=>(lr P σ r).d),σ.obj⟩
def lq(P:Program)(rs:List ResultVar)(y:V):Exit->S->Prop
 | .normal,σ=>(bF P σ rs).ok/\(aH 6 σ.obj (bF P σ rs).d).ok/\(aH 6 σ.obj (bF P σ rs).d).x=y
 | .ret,σ=>(bF P σ rs).ok/\(aH 6 σ.obj (bF P σ rs).d).ok/\(aH 6 σ.obj (bF P σ rs).d).x=y
 |_,_=>False
def e8:Nat->List V->List (Nat×E)
 |_,[]=>[]
 |k,x::r=>(k,⟨true,.v x⟩)::e8 (k+1) r
theorem Dz:∀ {k:Nat} {xs:List V} {t:Nat} {e:E},(t,e)∈e8 k xs->∃ (i:Nat) (h:i<xs.length),t=k+i/\e=⟨true,.v xs[i]⟩
 |k,[],t,e,h=>by simp[e8]at h
 |k,x::r,t,e,h=>by
  simp only[e8,List.mem_cons,Prod.mk.injEq]at h
  rcases h with⟨rfl,rfl⟩ | h
  ·exact⟨0,by simp,rfl,rfl⟩
  ·obtain⟨i,hi,h1,h2⟩:=Dz h
   exact⟨i+1,by simpa using hi,by omega,by simpa using h2⟩
def rP(tmps:Array Value):ResultVar->Sem Value
 | .tmp t=>pure (tmps.getD t undef)
 | .cell b T=>do loadVar T (<-asAddr (tmps.getD b undef))
theorem O4(fn:Func)(tmps:Array Value):results fn tmps=(do
 let vs <-fn.results.mapM (rP tmps)
 pure (if h:vs.size=1 then vs[0]else .tuple vs)):=by
 unfold results
 have e:(fun r:ResultVar=>(match r with
     | .tmp t=>pure (tmps.getD t undef)
     | .cell a t=>do loadVar t (<-asAddr (tmps.getD a undef)):Sem Value))=rP tmps:=by
  funext r
  cases r<;>rfl
 rw[<-e]
 rfl
theorem O6{P:Program}{G:Ghost}{φ:Name->Loc}{m:Mem}{σ:S}{a:Act}{w:World}(hC:aM G φ m σ a w)(r:ResultVar)(aa:(lr P σ r).ok):
 ∃ v,(rP a.tmps r).run P w=.ok v w/\aA φ σ.obj m (lr P σ r).d v:=by
 cases r with
 |tmp t=>
  have :=hC.tmps t
  unfold bZ at this
  simp only[lr]at aa
  rw[if_pos aa]at this
  exact⟨_,rfl,this⟩
 |cell b T=>
  simp only[lr]at aa |-
  obtain⟨h1,h2,h3⟩:=aa
  have ht:=hC.tmps b
  unfold bZ at ht
  rw[if_pos h1]at ht
  have lL:rP a.tmps (.cell b T)=(do loadVar T (<-asAddr (a.tmps.getD b undef))):=rfl
  rw[lL]
  generalize a.tmps.getD b undef=u at *
  obtain⟨v,h4,h5,_⟩:=EI hC ht h3
  refine⟨v,?_,h5⟩
  generalize (σ.env b).d=d at *
  cases ht with
  |ref=>simpa[Instr.loadAt,Instr.sureAddr,asAddr]using h4
  |v _ _ hv=>
   cases hv with
   |ptr=>simpa[Instr.loadAt,Instr.sureAddr,asAddr]using h4
   |_=>exact h2.elim
  |_=>exact h2.elim
theorem EX{P:Program}{G:Ghost}{φ:Name->Loc}{m:Mem}{σ:S}{a:Act}{w:World}(hC:aM G φ m σ a w)(fn:Func)(aa:(bF P σ fn.results.toList).ok):
 ∃ v,(results fn a.tmps).run P w=.ok v w/\aA φ σ.obj m (bF P σ fn.results.toList).d v:=by
 have I9:∀ (rs:List ResultVar),(∀ r∈rs,(lr P σ r).ok)->
     ∃ vs:List Value,(rs.mapM (rP a.tmps)).run P w=.ok vs w/\vs.length=rs.length/\
       ∀ i (h:i<rs.length) (h':i<vs.length),aA φ σ.obj m (lr P σ rs[i]).d vs[i]:=by
  intro rs
  induction rs with
  |nil=>intro _;exact⟨[],rfl,rfl,fun i h=>by simp at h⟩
  |cons r rs ih=>
   intro h
   obtain⟨v,h1,h2⟩:=O6 hC r (h r (by simp))
   obtain⟨vs,h3,h4,h5⟩:=ih (fun r hr=>h r (by simp[hr]))
   refine⟨v::vs,?_,by simp[h4],fun i hi bu=>?_⟩
   ·simp only[List.mapM_cons,Sem.run_bind]
    rw[h1]
    simp only[Result.andThen_ok]
    rw[h3]
    rfl
   ·cases i with
    |zero=>exact h2
    |succ i=>exact h5 i (by simpa using hi) (by simpa using bu)
 have xo:∀ vs:List Value,(fn.results.toList.mapM (rP a.tmps)).run P w=.ok vs w->
     (results fn a.tmps).run P w=.ok (if h:vs.toArray.size=1 then vs.toArray[0]else .tuple vs.toArray) w:=by
  intro vs h
  rw[O4,Array.mapM_eq_mapM_toList]
  simp only[Sem.run_bind,Sem.run_map]
  rw[h]
  rfl
 generalize bW:fn.results.toList=rs at *
 unfold bF at aa |-
 split at aa
 ·rename_i r
  obtain⟨vs,h1,h2,h3⟩:=I9 [r] (fun q hq=>by simp at hq;subst hq;exact aa)
  match vs,h2 with
  |[v],_=>exact⟨v,by simpa using xo [v] h1,h3 0 (by simp) (by simp)⟩
 ·rename_i aD
  obtain⟨vs,h1,h2,h3⟩:=I9 rs aa
  refine⟨.tuple vs.toArray,?_,?_⟩
  ·have:=xo vs h1
   rw[dif_neg (by
    simp only[List.size_toArray]
    intro e
    match rs,(h2▸e:rs.length=1)with
    |[r],_=>exact aD r rfl)]at this
   exact this
  ·refine .tup _ _ (by simp[h2]) fun i a b=>?_
   simp only[List.getElem_map,List.getElem_toArray]
   exact h3 i (by simpa using a) (by simpa using b)
mutual
def V.wf:V->Prop
 | .sl l=>l.length<=maxLen/\V.wfL l
 | .agg l=>V.wfL l
 | .tup l=>V.wfL l
 | .ptr l=>V.wfL l
 | .clo _ f c=>V.wfL f/\V.wfL c
 | .str s=>s.size<=maxLen
 |_=>True
def V.wfL:List V->Prop
 |[]=>True
 |x::r=>V.wf x/\V.wfL r
end
theorem mX:∀ {l:List V},(∀ i (h:i<l.length),V.wf l[i])->V.wfL l
 |[],_=>trivial
 |x::r,h=>⟨h 0 (by simp),mX fun i hi=>h (i+1) (by simpa using hi)⟩
theorem Mx{x:V}(h:∀ j (h:j<x.cells.length),V.wf x.cells[j]):V.wf x:=by
 cases x with
 |agg l=>exact mX h
 |_=>exact h 0 (by simp[V.cells])
theorem Mw{m:Mem}{x:V}{u:Value}(h:aK m x u):V.wf x:=by
 induction h with
 |int=>trivial
 |bool=>trivial
 |str s h=>exact h
 |slnil=>exact⟨Nat.zero_le _,trivial⟩
 |sl l b o cap sz c hn hl hU hs hc hr ho ih=>exact⟨hl,mX fun i hi=>Mx fun j hj=>ih i j hi hj⟩
 |agg l us h ho hr ih=>exact mX fun i hi=>ih i hi (by omega)
 |tup l us h hr ih=>exact mX fun i hi=>ih i hi (by omega)
 |ptr cs b o c ho hc hr ih=>exact mX fun i hi=>ih i hi
 |nilp=>trivial
 |clo fn fs cs us vs h1 h2 dS fa nF nE=>exact⟨mX fun i hi=>nF i hi (by omega),mX fun i hi=>nE i hi (by omega)⟩
 |nilfn=>trivial
theorem My{m:Mem}{xs:List V}{us:List Value}(h:ra m xs us):V.wfL xs:=mX fun i hi=>Mw (h.2 i hi (by have:=h.1;omega))
theorem aM.take{G:Ghost}{φ:Name->Loc}{m:Mem}{σ:S}{a:Act}{w:World}{D:Nat}{ds:List Deferred}(hC:aM G φ m σ a w)(ha:a.defers={ target:=.collected D,args:= #[] }::ds):
 w.heap[D]?=some (.deferred (some []))/\aM G φ m σ { a with defers:=ds } (w.putObj D (.deferred none)):=by
 obtain⟨l,h1,h2,h3⟩:=hC.defers
 rw[ha]at h1
 cases l with
 |nil=>cases h1
 |cons D' l=>
  simp only[List.map_cons,List.cons.injEq,Deferred.mk.injEq,Target.collected.injEq,and_true]at h1
  obtain⟨rfl,rfl⟩:=h1
  obtain⟨h5,h6⟩:=h3 D (by simp)
  have hb:∀ b,b≠D->(w.putObj D (.deferred none)).heap[b]?=w.heap[b]?:=fun b hb=>World.putObj_heap_other hb
  have ae:=(Array.getElem?_eq_some_iff.1 h6).1
  refine⟨h6,?_⟩
  constructor
  ·exact hC.tmps
  ·exact hC.size
  ·refine⟨l,rfl,(List.nodup_cons.1 h2).2,fun E hE=>⟨(h3 E (by simp[hE])).1,?_⟩⟩
   rw[hb E (fun e=>(List.nodup_cons.1 h2).1 (e▸hE))]
   exact(h3 E (by simp[hE])).2
  ·intro nm o ho
   refine(hC.objs nm o ho).ext (Mem.le_refl m) (Ext.refl _ _) fun hm hn=>hb _ fun e=>?_
   exact(hC.objs nm o ho).notDef hm hn _ (by rw[e];exact h6)
  ·intro b off v h
   have h7:=hC.mem b off v h
   rw[pn (hb b (fun e=>by subst e;unfold World.cell? at h7;simp[h6]at h7))]
   exact h7
  ·exact hC.apart
  ·exact hC.inj
  ·exact hC.own
  ·refine⟨hC.fr.os,hC.fr.tape,hC.fr.output,by simpa using hC.fr.size,fun b cX ho=>?_⟩
   rw[hb b (by omega)]
   exact hC.fr.block b cX ho
  ·exact hC.fresh
  ·exact hC.kept
theorem A2{P:Program}{F:Fence}{n:Nat}{G:Ghost}{φ:Name->Loc}{m:Mem}{σ:S}{fn:Func}{R:Ending->World->Prop}:∀ (ds:List Deferred) {a:Act} {w:World} (_:a.defers=ds) (_:aM G φ m σ a w)
 (_:∀ a' w',a'.tmps=a.tmps->aM G φ m σ a' w'->∃ v,(results fn a'.tmps).run P w'=.ok v w'/\R (.returned v) w'),LeavesInM F n P fn a.tmps R a.defers .returning w
 |[],a,w,ha,hC,fin=>by
  obtain⟨v,h1,h2⟩:=fin a w rfl hC
  rw[ha]
  exact⟨v,h1,h2⟩
 |d::ds,a,w,ha,hC,fin=>by
  obtain⟨l,h1,h2,h3⟩:=hC.defers
  rw[ha]at h1
  cases l with
  |nil=>cases h1
  |cons D l=>
   simp only[List.map_cons,List.cons.injEq]at h1
   obtain⟨h4,h5⟩:=hC.take (D:=D) (ds:=ds) (by rw[ha,h1.1])
   have :=A2 ds (F:=F) (n:=n) (a:={ a with defers:=ds }) (w:=w.putObj D (.deferred none)) rfl h5 (fun a' w' e ca=>fin a' w' e ca)
   rw[ha]
   refine⟨by simp,.inl ⟨D,_,by rw[h1.1],run_takeDeferred h4,this⟩⟩
theorem Fp{P:Program}{f:FuncId}{fn:Func}{c:Code}{s:PSpec}{nt:Nat}{rs:List ResultVar}(hf:P.funcs[f]?=some fn)(hb:fn.body=some c)(cG:fn.ntmps=nt)(bW:fn.results.toList=rs)(jQ:∀ args w,(callFunc f args).run P w=.ok (.enter f args) w)(aD:f≠yid)
 (dZ:s.flat=true->∀ xs,s.pre xs->(s.fn xs).flat=true)
 (h:∀ xs,s.pre xs->V.wfL xs->xs.length<=nt/\CW P c (ba nt [0] (fun _=>none) (e8 0 xs) []) (lq P rs (s.fn xs))):aU P f s:=by
 subst cG
 subst bW
 refine⟨aD,jQ,dZ,fun m w xs args hm hx hp=>?_⟩
 obtain⟨hlen,lT⟩:=h xs hp (My hx)
 have dd:xs.length=args.size:=by simpa using hx.1
 refine(callsIn_wide (n:=0)).1 (callsIn_of_wp_marks hf hb trivial ?_)
 have hC:aM ⟨w,m,fun _=>False,none,fun _=>⟨0,0,0,true,none⟩,fun _=>none,fun _ h=>by cases h⟩ (fun _=>⟨0,0,0,true,none⟩) m (ba fn.ntmps [0] (fun _=>none) (e8 0 xs) []) { tmps:=args++Array.replicate (fn.ntmps-args.size) undef,defers:=[] } w:=by
  constructor
  ·intro t
   show bZ _ _ m (di eAny (e8 0 xs) t) _
   rcases rZ (z:=eAny) (e8 0 xs) t with h1 | h1
   ·rw[h1];unfold bZ eAny;simp;exact .any _
   ·obtain⟨i,hi,h2,h3⟩:=Dz h1
    rw[h3]
    unfold bZ
    simp only[if_true]
    have bu:i<args.size:=by omega
    have e:((args++Array.replicate (fn.ntmps-args.size) undef).getD t undef)=args[i]:=by
     have au:0+i<(args++Array.replicate (fn.ntmps-args.size) undef).size:=by simp;omega
     rw[h2]
     simp only[Array.getD,au,dite_true]
     show (args++Array.replicate (fn.ntmps-args.size) undef)[0+i]=args[i]
     simp only[Nat.zero_add]
     exact Array.getElem_append_left bu
    rw[e]
    exact .v _ _ (by have:=hx.2 i hi (by simpa using bu);rw[Array.getElem_toList]at this;exact this)
  ·show (args++Array.replicate (fn.ntmps-args.size) undef).size=fn.ntmps
   simp;omega
  ·exact⟨[],rfl,by simp,by simp⟩
  ·intro nm o h;simp[ba,di]at h
  ·exact hm
  ·rintro nm ⟨o,h,_⟩;simp[ba,di]at h
  ·rintro nm jb ⟨o,h,_⟩;simp[ba,di]at h
  ·rintro nm ⟨o,h,_⟩;simp[ba,di]at h
  ·exact⟨rfl,rfl,rfl,Nat.le_refl _,fun _ _ _=>rfl⟩
  ·intro b off v h;exact .inl h
  ·exact⟨fun _ _ h=>(by cases h),fun _ _ h=>(by cases h)⟩
 refine wpIn_mono (lT _ _ m _ w hC) ?_
 rintro e a1 w1 ⟨φ',m',σ',fV,hK⟩
 have fin:(bF P σ' fn.results.toList).ok/\(aH 6 σ'.obj (bF P σ' fn.results.toList).d).ok/\(aH 6 σ'.obj (bF P σ' fn.results.toList).d).x=s.fn xs->
     LeavesInM Fence.wide 0 P fn a1.tmps (fun e w'=>∃ v m',e=.returned v/\RowKit.Below w.heap.size w w'/\Mem.le m m'/\
     (∀ b off c,m' b off=some c->m b off=some c\/(w.heap.size<=b/\w'.cell? ⟨b,off,none⟩=some c))/\aK m' (s.fn xs) v) a1.defers .returning w1:=by
  rintro⟨h1,h2,h3⟩
  refine A2 a1.defers rfl fV fun a' w' _ ca=>?_
  obtain⟨v,h4,h5⟩:=EX ca fn h1
  obtain⟨m2,h6,h7,_,h8,_⟩:=nV 6 _ _ _ _ _ _ ca _ _ h5 h2
  refine⟨v,h4,v,fun b off=>match m2 b off with | some c=>some c | none=>m b off,rfl,?_,?_,?_,?_⟩
  ·exact⟨ca.fr.os,ca.fr.tape,ca.fr.output,ca.fr.size,fun k hk=>ca.fr.block k hk (fun h=>h)⟩
  ·intro b off c hc
   show (match m2 b off with | some c=>some c | none=>m b off)=some c
   cases gl:m2 b off with
   |none=>exact hc
   |some c'=>
    have k1:=h7.mem b off c' gl
    have k2:=hm b off c hc
    have ae:=mQ k2
    rw[pn (ca.fr.block b ae (fun h=>h))]at k1
    rw[k2]at k1
    exact k1.symm
  ·intro b off c hc
   have gE:(match m2 b off with | some c=>some c | none=>m b off)=some c:=hc
   cases gl:m2 b off with
   |none=>rw[gl]at gE;exact .inl gE
   |some c'=>
    rw[gl]at gE
    simp only[Option.some.injEq]at gE
    subst gE
    rcases h7.fresh b off c' gl with h | h | h
    ·exact .inl h
    ·exact .inr ⟨h,h7.mem b off c' gl⟩
    ·exact h.elim
  ·rw[<-h3]
   refine h8.mono fun b off c hc=>?_
   show (match m2 b off with | some c=>some c | none=>m b off)=some c
   rw[hc]
 cases e with
 |normal=>exact fin hK
 |ret=>exact fin hK
 |_=>exact hK.elim
theorem P'(n:Nat)(p:Name)(H:Name->Option O)(l:List (Nat×E))(h:List (Name×O)):(ba n p H l h).env=di eAny l:=rfl
theorem P5(n:Nat)(p:Name)(H:Name->Option O)(l:List (Nat×E))(h:List (Name×O)):(ba n p H l h).obj=fun nm=>if own p nm=true then di none (h.map fun q=>(q.1,some q.2)) nm else H nm:=rfl
theorem P6(n:Nat)(p:Name)(H:Name->Option O)(l:List (Nat×E))(h:List (Name×O)):(ba n p H l h).nt=n:=rfl
theorem Qa(n:Nat)(p:Name)(H:Name->Option O)(l:List (Nat×E))(h:List (Name×O)):(ba n p H l h).base=0:=rfl
theorem P4(n:Nat)(p:Name)(H:Name->Option O)(l:List (Nat×E))(h:List (Name×O)):(ba n p H l h).pre=p:=rfl
theorem wT{n:Nat}{p:Name}{H H':Name->Option O}{l:List (Nat×E)}{h:List (Name×O)}(hh:∀ nm,own p nm=false->H nm=H' nm):ba n p H l h=ba n p H' l h:=by
 unfold ba
 congr 1
 funext nm
 cases ho:own p nm with
 |true=>rfl
 |false=>simp only[Bool.false_eq_true,if_false];exact hh nm ho
theorem P9(n:Nat)(p:Name)(F H:Name->Option O)(l:List (Nat×E))(h:List (Name×O)):ba n p (fun nm=>if own p nm=true then F nm else H nm) l h=ba n p H l h:=
 wT fun nm hn=>by simp[hn]
theorem P3{n:Nat}{p:Name}{H:Name->Option O}{nm:Name}{o:Option O}{l:List (Nat×E)}{h:List (Name×O)}(ho:own p nm=true):ba n p (upd H nm o) l h=ba n p H l h:=
 wT fun x hx=>aV _ _ _ (by rintro rfl;rw[ho]at hx;cases hx)
theorem XY(p:Name)(dom:Name->Bool):bP p dom (fun _=>none)=True:=eq_true fun nm o _ h=>by cases h
theorem X0(p:Name)(dom:Name->Bool)(F H:Name->Option O):bP p dom (fun nm=>if own p nm=true then F nm else H nm)=bP p dom H:=by
 refine propext ⟨fun k nm o ho h=>k nm o ho (by simp[ho,h]),fun k nm o ho h=>k nm o ho ?_⟩
 simpa[ho]using h
theorem XW{p:Name}{dom:Name->Bool}{H:Name->Option O}{nm:Name}{o:Option O}(ho:own p nm=true):bP p dom (upd H nm o)=bP p dom H:=by
 have e:∀ x,own p x=false->upd H nm o x=H x:=fun x hx=>aV _ _ _ (by rintro rfl;rw[ho]at hx;cases hx)
 exact propext ⟨fun k x q hx h=>k x q hx (by rw[e x hx];exact h),fun k x q hx h=>k x q hx (by rw[<-e x hx];exact h)⟩
theorem ri{p:Name}{dom:Name->Bool}{H:Name->Option O}{nm:Name}{o:O}(h1:O.clos dom o=true)(h2:bP p dom H):bP p dom (upd H nm (some o)):=by
 intro x q hx h
 by_cases e:x=nm
 ·subst e;rw[aN]at h;cases h;exact h1
 ·rw[aV _ _ _ e]at h;exact h2 x q hx h
def gB(ks:List Nat)(ns:List Name)(σ:S):S:=
 ba σ.nt σ.pre σ.obj (ks.map fun t=>(t,σ.env t)) (ns.filterMap fun nm=>(σ.obj nm).map fun o=>(nm,o))
def gp(ks:List Nat)(ns:List Name)(σ:S):Prop:=
 (((ks.map fun t=>(t,σ.env t)).all fun q=>D.clos (bL σ.pre (ns.filterMap fun nm=>(σ.obj nm).map fun o=>(nm,o))) q.2.d)&&
 ((ns.filterMap fun nm=>(σ.obj nm).map fun o=>(nm,o)).all fun q=>O.clos (bL σ.pre (ns.filterMap fun nm=>(σ.obj nm).map fun o=>(nm,o))) q.2))=true/\
 bP σ.pre (bL σ.pre (ns.filterMap fun nm=>(σ.obj nm).map fun o=>(nm,o))) σ.obj
theorem zx{σ:S}(ks:List Nat)(ns:List Name)(h:gp ks ns σ):dz σ (gB ks ns σ):=by
 unfold gp at h
 simp only[Bool.and_eq_true]at h
 refine Fits.weak ⟨rfl,fun _ _=>rfl,fun p hp=>?_,fun p hp=>?_,h.1.1,h.1.2,h.2⟩
 ·simp only[List.mem_map]at hp
  obtain⟨t,_,rfl⟩:=hp
  rfl
 ·simp only[List.mem_filterMap,Option.map_eq_some_iff]at hp
  obtain⟨nm,_,o,h1,rfl⟩:=hp
  exact h1
theorem C5{P:Program}{c:Code}{σ:S}{K:Exit->S->Prop}(ks:List Nat)(ns:List Name)(h:gp ks ns σ)(hc:CW P c (gB ks ns σ) K):CW P c σ K:=
 sS (zx ks ns h) hc
def CL(P:Program):List Code->S->(Exit->S->Prop)->Prop
 |[],σ,K=>K .normal σ
 |c::r,σ,K=>CW P c σ (iv (fun σ'=>CL P r σ' K) K)
theorem il{P:Program}{c:Code}{σ:S}{K:Exit->S->Prop}(h:CL P [c] σ K):CW P c σ K:=
 CW.mono h fun e σ' hk=>by cases e<;>exact hk
theorem bV{P:Program}{σ:S}{K:Exit->S->Prop}(h:K .normal σ):CL P [] σ K:=h
theorem dT{P:Program}{x y:Code}{r:List Code}{σ:S}{K:Exit->S->Prop}(h:CL P (x::y::r) σ K):CL P (.seq x y::r) σ K:=
 yv (CW.mono h fun e σ' hk=>by cases e<;>exact hk)
theorem aG{P:Program}{r:List Code}{σ:S}{K:Exit->S->Prop}(h:CL P r σ K):CL P (.skip::r) σ K:=Kx h
theorem bM{P:Program}{id:Nat}{r:List Code}{σ:S}{K:Exit->S->Prop}(h:K (.exit id) σ):CL P (.exit id::r) σ K:=KC h
theorem ay{P:Program}{r:List Code}{σ:S}{K:Exit->S->Prop}(h:K .ret σ):CL P (.ret::r) σ K:=Ky h
theorem KO{P:Program}{c:Operand}{x y:Code}{r:List Code}{σ:S}{K:Exit->S->Prop}{b:Bool}(hc:cC σ c=true)(hd:an σ c=.v (.bool b))
 (ht:b=true->CL P (x::r) σ K) (hf:b=false->CL P (y::r) σ K):CL P (.cond c x y::r) σ K:=C7 hc hd ht hf
theorem aQ{P:Program}{id:Nat}{c:Code}{r:List Code}{σ:S}{K:Exit->S->Prop}(h:CL P [c] σ (po id (iv (fun σ'=>CL P r σ' K) K))):CL P (.block id c::r) σ K:=
 vn (il h)
theorem Dd{P:Program}{c:Code}{r:List Code}{σ:S}{K:Exit->S->Prop}{ι:Type}(I:ι->S)(R:ι->Prop)(μ:ι->Nat)(i0:ι)(hR:R i0)(h0:dz σ (I i0))
 (round:∀ i,R i->CL P [c] (I i) (iv (fun σ'=>∃ i',R i'/\μ i'<μ i/\dz σ' (I i')) K)):CL P (.loop c::r) σ K:=
 KB I R μ i0 hR h0 fun i hi=>CW.mono (il (round i hi)) fun e σ' hk=>by cases e<;>exact hk
theorem yy{P:Program}{Γ:FuncId->Option Spec}(hΓ:∀ f s,Γ f=some s->aL P f s){id:Nat}{l:List Oper}{c:Code}{r:List Code}{σ:S}{K:Exit->S->Prop}(ks:List Nat)(ns:List Name)
 (h:∀ K':S->Prop,(∀ σ',gp ks ns σ'->CL P (c::r) (gB ks ns σ') K->K' σ')->oa P Γ l.toArray l σ K'):CL P (.region id l.toArray false::c::r) σ K:=
 C4 hΓ fun K' hK=>h K' fun σ' hc hy=>hK σ' (C5 ks ns hc hy)
theorem aY{P:Program}{Γ:FuncId->Option Spec}(hΓ:∀ f s,Γ f=some s->aL P f s){id:Nat}{l:List Oper}{σ:S}{K:Exit->S->Prop}
 (h:∀ K':S->Prop,(∀ σ',K .normal σ'->K' σ')->oa P Γ l.toArray l σ K'):CL P [.region id l.toArray false] σ K:=
 C4 hΓ fun K' hK=>h K' fun σ' hc=>hK σ' hc
theorem zw{σ:S}(nt:Nat)(p:Name)(H:Name->Option O)(l:List (Nat×E))(h:List (Name×O))(hn:σ.nt=nt)(hp:σ.pre=p)(h0:∀ nm,own p nm=false->σ.obj nm=H nm)
 (h1:∀ q∈l,σ.env q.1=q.2) (h2:∀ q∈h,σ.obj q.1=some q.2)
 (h3:((l.all fun q=>D.clos (bL p h) q.2.d)&&(h.all fun q=>O.clos (bL p h) q.2))=true) (h4:bP p (bL p h) H):dz σ (ba nt p H l h):=by
 subst hn
 simp only[Bool.and_eq_true]at h3
 exact Fits.weak ⟨hp,h0,h1,h2,h3.1,h3.2,h4⟩
theorem Xn(obj:Name->Option O)(b p q:Bool):im obj (.v (.bool b)) (.v (.bool p)) (.v (.bool q))=⟨True,.v (.bool (if b=true then p else q)),obj⟩:=rfl
theorem Xm(obj:Name->Option O)(x y:D):im obj (.v (.bool false)) x y=⟨True,y,obj⟩:=by
 unfold im
 simp only
 congr 1
 split
 ·simp_all
 ·rfl
theorem Xk(obj:Name->Option O)(x y:D):im obj (.v (.bool true)) x y=⟨True,x,obj⟩:=by
 unfold im
 simp only
 congr 1
 split
 ·simp_all
 ·rfl
attribute [go_sem] Xn Xm Xk
attribute [go_sem] Array.toList_append List.length_map List.forall_mem_cons List.not_mem_nil false_implies implies_true oa jD bc mH ee mG CT yj mo aW an cC gV r8 Op.operands Call.operands P' P5 P6 P4 Qa Nat.zero_add P9 P3 XY X0 XW own lq e8 di ML gB gp eAny iv po iq kY l8 kX mT jv jw l7 kQ kV LF l6 l5 iY kZ n9 w7 j9 kT j8 kS kR iZ kU qX kW jx dw R.bad aZ D.boxable D.cells D.one V.cells V.one V.okc O.len? D.clos D.closL O.clos bL vv yP sZ vq dG qV s4 aE aH bd fC jn iz qF el dt eK dE Value.cells bF lr List.map_cons List.map_nil List.all_cons List.all_nil List.any_cons List.any_nil List.filterMap_cons List.filterMap_nil Option.map_some Option.map_none Option.bind_some Option.bind_none Option.isSome_some Option.isSome_none Option.getD_some Option.getD_none Bool.and_true Bool.true_and Bool.and_false Bool.false_and Bool.or_true Bool.true_or Bool.or_false Bool.false_or Bool.not_true Bool.not_false List.cons.injEq true_and and_true if_true if_false Bool.false_eq_true forall_const true_implies List.length_cons List.length_nil List.getD_cons_zero List.getD_cons_succ List.drop_zero List.drop_succ_cons List.take_succ_cons List.take_zero List.nil_append List.cons_append beq_self_eq_true Prod.mk.injEq and_self
theorem wrap_i64{x:Int}(h0: -9223372036854775808<=x)(h1:x<=9223372036854775807):IntKind.i64.wrap x=x:=by
 rw[IntKind.wrap_i64];omega
theorem be{i n:Nat}(h:i<n)(hn:n<=maxLen):IntKind.i64.wrap ((i:Int)+1)=((i+1:Nat):Int):=by
 unfold maxLen at hn
 rw[wrap_i64 (by omega) (by omega)];rfl
theorem ah{α:Type}{f:α->V}{l:List α}{i:Nat}(h:i<l.length):(l.map f).getD i default=f l[i]:=by
 rw[gG (by simpa using h)];simp
def bO(Γ:FuncId->Option Spec)(σ:S)(t:Name):Op->List Name
 | .alloc _ | .box _ _ | .makeMap _ _ | .makeSlice _ _ _=>[aZ t]
 | .load _ x | .nilCheck x | .fieldAddr _ x _ | .indexAddr _ x _ | .lookup _ x _ _ | .store _ x _ | .mapUpdate _ x _ _ | .insert _ x _ _ | .slice _ x _ _ _=>aT (an σ x)
 | .binOp _ _ x _ _=>aT (an σ x)
 | .buildSlice _ _ ps=>dP (fp 4 σ.obj) (ps.toList.map fun p=>an σ p.2)
 | .call ⟨.value f,args,_⟩=>match (fv (an σ f)).bind Γ with
   |some s=>s.foot σ.obj t (eh (an σ f) (args.toList.map (an σ)))
   |none=>[]
 | .call ⟨.builtin .append,args,_⟩=>match args.toList with
   |[s,x]=>aT (an σ s)++aT (an σ x)++[aZ t]
   |_=>[]
 | .call ⟨.builtin .len,args,_⟩=>match args.toList with
   |[x]=>aT (an σ x)
   |_=>[]
 |_=>[]
def bA(Γ:FuncId->Option Spec)(σ:S)(t:Name):Op->List Name
 | .alloc _ | .box _ _ | .makeMap _ _ | .makeSlice _ _ _=>[aZ t]
 | .store _ x _ | .mapUpdate _ x _ _ | .insert _ x _ _=>aT (an σ x)
 | .slice _ x _ _ _=>muts σ.obj (aT (an σ x))
 | .buildSlice _ _ ps=>muts σ.obj (dP (fp 4 σ.obj) (ps.toList.map fun p=>an σ p.2))
 | .call ⟨.value f,args,_⟩=>match (fv (an σ f)).bind Γ with
   |some s=>s.wrt σ.obj t (eh (an σ f) (args.toList.map (an σ)))
   |none=>[]
 | .call ⟨.builtin .append,args,_⟩=>match args.toList with
   |[s,x]=>aT (an σ s)++aT (an σ x)++[aZ t]
   |_=>[]
 |_=>[]
theorem Xj{P:Program}{obj:Name->Option O}{T:TypeId}{x:D}{lo hi mx:Option D}:Fz obj (iY P obj T x lo hi mx).obj:=by
 unfold iY
 repeat' split
 all_goals first
  |exact .refl obj
  |exact Fz.one (.refl obj) (by assumption) rfl rfl
theorem bG.muts{r r2:R}{obj obj2:Name->Option O}{W:List Name}(h:bG r r2 obj obj2 W)(hz:Fz obj r.obj)(ha:bC W obj obj2):bG r r2 obj obj2 (muts obj W):=by
 refine ke.like (W:=W) ⟨h.ok,fun nm hn=>?_,h.frame,fun nm hn=>?_⟩ h.d hz ha
 ·rw[h.eff nm,if_pos hn]
 ·rw[h.eff nm,if_neg hn]
theorem AZ{ok:Prop}{d:D}{obj obj2:Name->Option O}:bG ⟨ok,d,obj⟩ ⟨ok,d,obj2⟩ obj obj2 []:=.same rfl rfl rfl rfl
theorem QL{P:Program}{obj obj2:Name->Option O}{T:TypeId}{ps:List (Nat×D)}:bG (kX P obj T ps) (kX P obj2 T ps) obj obj2 []:=by
 unfold kX
 (repeat' split)<;>exact .same rfl rfl rfl rfl
theorem QK{P:Program}{obj obj2:Name->Option O}{T:TypeId}{n:Nat}{ps:List (Nat×D)}(h:bC (dP (fp 4 obj) (ps.map (·.2))) obj obj2):
 bG (mT P obj T n ps) (mT P obj2 T n ps) obj obj2 (muts obj (dP (fp 4 obj) (ps.map (·.2)))):=by
 have hm:bC (muts obj (dP (fp 4 obj) (ps.map (·.2)))) obj obj2:=fun nm hn=>h nm (List.mem_filter.1 hn).1
 obtain⟨h1,h2⟩:=u3 (yc 4) (ps.map (·.2)) obj obj2 _ (fun _ hn=>hn) h
 unfold mT
 split
 ·split
  ·exact .none _ hm
  ·refine ke.like ⟨?_,h2.agr,h2.frame,h2.frame2⟩ (by rw[h1]) (va (u2 4) _ obj) h
   rw[h1,h2.ok]
 ·exact .none _ hm
theorem QN{P:Program}{obj obj2:Name->Option O}{op:BinOp}{T:TypeId}{x y:D}:bG (l7 P obj op T x y) (l7 P obj2 op T x y) obj obj2 []:=by
 unfold l7
 (repeat' split)<;>first | exact .same rfl rfl rfl rfl | (exfalso;simp_all;done)
theorem QM{P:Program}{obj obj2:Name->Option O}{op:BinOp}{T:TypeId}{x y:D}{jG:Bool}(h:bC (aT x) obj obj2):bG (kZ P obj op T x y jG) (kZ P obj2 op T x y jG) obj obj2 []:=by
 unfold kZ
 cases jG with
 |true=>
  simp only
  unfold n9
  split
  ·exact .same rfl rfl rfl rfl
  ·rename_i nm k
   have h':obj2 nm=obj nm:=h nm (by simp[aT])
   rw[h']
   exact .same rfl rfl rfl rfl
  ·exact .same rfl rfl rfl rfl
 |false=>
  simp only
  split
  ·unfold ir
   split<;>exact .same rfl rfl rfl rfl
  ·exact QN
theorem Qs{obj obj2:Name->Option O}{op:UnOp}{x:D}:bG (kQ obj op x) (kQ obj2 op x) obj obj2 []:=by
 unfold kQ
 (repeat' split)<;>first | exact .same rfl rfl rfl rfl | (exfalso;simp_all;done)
theorem QH{P:Program}{obj obj2:Name->Option O}{T T':TypeId}{x:D}:bG (kV P obj T T' x) (kV P obj2 T T' x) obj obj2 []:=by
 unfold kV
 (repeat' split)<;>first | exact .same rfl rfl rfl rfl | (exfalso;simp_all;done)
theorem QF{P:Program}{obj obj2:Name->Option O}{T:TypeId}{x:D}{f:Nat}:bG (kT P obj T x f) (kT P obj2 T x f) obj obj2 []:=by
 unfold kT
 (repeat' split)<;>first | exact .same rfl rfl rfl rfl | (exfalso;simp_all;done)
theorem QD{P:Program}{obj obj2:Name->Option O}{T:TypeId}{x y:D}:bG (kS P obj T x y) (kS P obj2 T x y) obj obj2 []:=by
 unfold kS
 (repeat' split)<;>first | exact .same rfl rfl rfl rfl | (exfalso;simp_all;done)
theorem QG{obj obj2:Name->Option O}{x:D}{i:Nat}:bG (kU obj x i) (kU obj2 x i) obj obj2 []:=by
 unfold kU
 (repeat' split)<;>first | exact .same rfl rfl rfl rfl | (exfalso;simp_all;done)
theorem Qv{obj obj2:Name->Option O}{c x y:D}:bG (im obj c x y) (im obj2 c x y) obj obj2 []:=by
 unfold im
 split<;>exact .same rfl rfl rfl rfl
theorem QJ{Γ:FuncId->Option Spec}(hN:∀ f s,Γ f=some s->s.Near){σ σ2:S}{t:Name}{f:D}{args:List D}
 (h:bC (match (fv f).bind Γ with | some s=>s.foot σ.obj t (eh f args) | none=>[]) σ.obj σ2.obj):
 bG (qX Γ σ t f args) (qX Γ σ2 t f args) σ.obj σ2.obj (match (fv f).bind Γ with | some s=>s.wrt σ.obj t (eh f args) | none=>[])/\
 (match (fv f).bind Γ with | some s=>s.foot σ2.obj t (eh f args) | none=>[])=(match (fv f).bind Γ with | some s=>s.foot σ.obj t (eh f args) | none=>[]):=by
 unfold qX
 rcases hs:(fv f).bind Γ with _ | s
 ·exact⟨.same rfl rfl rfl rfl,rfl⟩
 ·simp only[hs]at h |-
  obtain⟨g,_,hs⟩:=Option.bind_eq_some_iff.1 hs
  exact⟨(hN g s hs).like _ _ _ _ h,(hN g s hs).foot _ _ _ _ h⟩
theorem DA{P:Program}{Γ:FuncId->Option Spec}(hN:∀ f s,Γ f=some s->s.Near){σ σ2:S}(t:Name)(op:Op)
 (ho:∀ x∈op.operands.toList,an σ2 x=an σ x) (h:bC (bO Γ σ t op) σ.obj σ2.obj):
 bG (aW P Γ σ t op) (aW P Γ σ2 t op) σ.obj σ2.obj (bA Γ σ t op)/\bO Γ σ2 t op=bO Γ σ t op:=by
 cases op with
 |move x=>exact⟨by simp only[aW,ho x (by simp[Op.operands])];exact AZ,rfl⟩
 |assign x=>exact⟨by simp only[aW,ho x (by simp[Op.operands])];exact AZ,rfl⟩
 |pick c x y=>exact⟨by simp only[aW,ho c (by simp[Op.operands]),ho x (by simp[Op.operands]),ho y (by simp[Op.operands])];exact Qv,rfl⟩
 |alloc T=>exact⟨QO h,rfl⟩
 |box T x=>exact⟨by simp only[aW,ho x (by simp[Op.operands])];exact Gp h,rfl⟩
 |build T ps=>
  have hp:(ps.toList.map fun p=>(p.1,an σ2 p.2))=ps.toList.map fun p=>(p.1,an σ p.2):=List.map_congr_left fun p hp=>by rw[ho p.2 (by simp only[Op.operands];exact List.mem_map_of_mem hp)]
  exact⟨by simp only[aW,hp];exact QL,rfl⟩
 |buildSlice T n ps=>
  have hp:(ps.toList.map fun p=>(p.1,an σ2 p.2))=ps.toList.map fun p=>(p.1,an σ p.2):=List.map_congr_left fun p hp=>by rw[ho p.2 (by simp only[Op.operands];exact List.mem_map_of_mem hp)]
  have jN:(ps.toList.map fun p=>an σ2 p.2)=ps.toList.map fun p=>an σ p.2:=List.map_congr_left fun p hp=>by rw[ho p.2 (by simp only[Op.operands];exact List.mem_map_of_mem hp)]
  have hm:(ps.toList.map fun p=>(p.1,an σ p.2)).map (·.2)=ps.toList.map fun p=>an σ p.2:=by simp
  simp only[bO,bA]at h |-
  rw[jN]
  rw[<-hm]at h |-
  refine⟨?_,vd _ h⟩
  simp only[aW,hp]
  exact QK h
 |load T x=>
  simp only[bO,bA,aW,ho x (by simp[Op.operands])]at h |-
  exact⟨QA h,trivial⟩
 |store T x d=>
  simp only[bO,bA,aW,ho x (by simp[Op.operands]),ho d (by simp[Op.operands])]at h |-
  exact⟨Qt h,trivial⟩
 |nilCheck x=>
  simp only[bO,bA,aW,ho x (by simp[Op.operands])]at h |-
  exact⟨Qw h,trivial⟩
 |binOp op T x y c=>
  simp only[bO,bA,aW,ho x (by simp[Op.operands]),ho y (by simp[Op.operands])]at h |-
  exact⟨QM h,trivial⟩
 |unOp op T x=>exact⟨by simp only[aW,ho x (by simp[Op.operands])];exact Qs,rfl⟩
 |convert s d x=>exact⟨by simp only[aW,ho x (by simp[Op.operands])];exact QH,rfl⟩
 |makeFunc fn f c=>
  have h1:f.toList.map (an σ2)=f.toList.map (an σ):=List.map_congr_left fun x hx=>ho x (by simp only[Op.operands,Array.toList_append];exact List.mem_append_left _ hx)
  have h2:c.toList.map (an σ2)=c.toList.map (an σ):=List.map_congr_left fun x hx=>ho x (by simp only[Op.operands,Array.toList_append];exact List.mem_append_right _ hx)
  exact⟨by simp only[aW,h1,h2];exact AZ,rfl⟩
 |makeMap T r=>
  have h1:r.map (an σ2)=r.map (an σ):=by
   cases r with
   |none=>rfl
   |some x=>simp only[Option.map_some,ho x (by simp[Op.operands])]
  exact⟨by simp only[aW,h1];exact Qy h,rfl⟩
 |makeSlice T l c=>exact⟨by simp only[aW,ho l (by simp[Op.operands]),ho c (by simp[Op.operands])];exact Qx h,rfl⟩
 |slice T x lo hi mx=>
  have e:∀ r:Option Operand,(∀ y∈r.toList,an σ2 y=an σ y)->r.map (an σ2)=r.map (an σ):=by
   intro r hr
   cases r with
   |none=>rfl
   |some x=>simp only[Option.map_some,hr x (by simp)]
  have h1:=e lo fun y hy=>ho y (by simp[Op.operands]at hy |-;simp[hy])
  have h2:=e hi fun y hy=>ho y (by simp[Op.operands]at hy |-;simp[hy])
  have h3:=e mx fun y hy=>ho y (by simp[Op.operands]at hy |-;simp[hy])
  simp only[bO,bA,aW,ho x (by simp[Op.operands]),h1,h2,h3]at h |-
  exact⟨(Qu h).muts Xj h,trivial⟩
 |fieldAddr T x f=>
  simp only[bO,bA,aW,ho x (by simp[Op.operands])]at h |-
  exact⟨QE h,trivial⟩
 |field T x f=>exact⟨by simp only[aW,ho x (by simp[Op.operands])];exact QF,rfl⟩
 |indexAddr T x i=>
  simp only[bO,bA,aW,ho x (by simp[Op.operands]),ho i (by simp[Op.operands])]at h |-
  exact⟨QC h,trivial⟩
 |index T x i=>exact⟨by simp only[aW,ho x (by simp[Op.operands]),ho i (by simp[Op.operands])];exact QD,rfl⟩
 |lookup T x i co=>
  simp only[bO,bA,aW,ho x (by simp[Op.operands]),ho i (by simp[Op.operands])]at h |-
  exact⟨Qz h,trivial⟩
 |mapUpdate T x k d=>
  simp only[bO,bA,aW,ho x (by simp[Op.operands]),ho k (by simp[Op.operands]),ho d (by simp[Op.operands])]at h |-
  exact⟨Gm h,trivial⟩
 |insert T x k d=>
  simp only[bO,bA,aW,ho x (by simp[Op.operands]),ho k (by simp[Op.operands]),ho d (by simp[Op.operands])]at h |-
  exact⟨Gm h,trivial⟩
 |extract x i=>exact⟨by simp only[aW,ho x (by simp[Op.operands])];exact QG,rfl⟩
 |call c=>
  obtain⟨callee,args,ts⟩:=c
  cases callee with
  |value f=>
   have h1:an σ2 f=an σ f:=ho f (by simp[Op.operands,Call.operands])
   have h2:args.toList.map (an σ2)=args.toList.map (an σ):=List.map_congr_left fun x hx=>ho x (by simp[Op.operands,Call.operands]at hx |-;simp[hx])
   simp only[bO,bA,aW,h1,h2]at h |-
   exact QJ hN h
  |builtin b=>
   have h2:args.toList.map (an σ2)=args.toList.map (an σ):=List.map_congr_left fun x hx=>ho x (by simp[Op.operands,Call.operands]at hx |-;simp[hx])
   have h3:∀ x∈args.toList,an σ2 x=an σ x:=fun x hx=>ho x (by simp[Op.operands,Call.operands]at hx |-;simp[hx])
   simp only[aW,h2]
   obtain⟨args⟩:=args
   obtain⟨ts⟩:=ts
   simp only at *
   cases b with
   |len=>
    rcases args with _ | ⟨x,_ | ⟨y,r⟩⟩
    ·exact⟨by rcases ts with _ | ⟨_,_ | _⟩<;>exact .same rfl rfl rfl rfl,rfl⟩
    ·simp only[bO,bA,h3 x (by simp),List.map_cons,List.map_nil]at h |-
     refine⟨?_,trivial⟩
     rcases ts with _ | ⟨T,_ | _⟩<;>first
      |exact .same rfl rfl rfl rfl
      |exact QB h
    ·refine⟨?_,rfl⟩
     rcases ts with _ | ⟨_,_ | _⟩<;>exact .same rfl rfl rfl rfl
   |append=>
    rcases args with _ | ⟨s,_ | ⟨x,_ | ⟨y,r⟩⟩⟩
    ·refine⟨?_,rfl⟩
     rcases ts with _ | ⟨_,_ | ⟨_,_ | _⟩⟩<;>exact .same rfl rfl rfl rfl
    ·refine⟨?_,rfl⟩
     rcases ts with _ | ⟨_,_ | ⟨_,_ | _⟩⟩<;>exact .same rfl rfl rfl rfl
    ·simp only[bO,bA,h3 x (by simp),h3 s (by simp),List.map_cons,List.map_nil]at h |-
     refine⟨?_,trivial⟩
     rcases ts with _ | ⟨T1,_ | ⟨T2,_ | _⟩⟩<;>first
      |exact A1 h
      |exact .none _ h
    ·refine⟨?_,rfl⟩
     rcases ts with _ | ⟨_,_ | ⟨_,_ | _⟩⟩<;>exact .same rfl rfl rfl rfl
   |_=>
    refine⟨?_,rfl⟩
    show bG _ _ _ _ []
    unfold kW
    (repeat' split)<;>first | exact .same rfl rfl rfl rfl | (exfalso;simp_all;done)
  |invoke r m=>exact⟨.same rfl rfl rfl rfl,rfl⟩
 |_=>exact⟨.same rfl rfl rfl rfl,rfl⟩
theorem W8{Γ:FuncId->Option Spec}(hN:∀ f s,Γ f=some s->s.Near){σ σ2:S}(t:Name)(op:Op)
 (ho:∀ x∈op.operands.toList,an σ2 x=an σ x) (h:bC (bO Γ σ t op) σ.obj σ2.obj):bA Γ σ2 t op=bA Γ σ t op:=by
 cases op with
 |buildSlice T n ps=>
  have jN:(ps.toList.map fun p=>an σ2 p.2)=ps.toList.map fun p=>an σ p.2:=List.map_congr_left fun p hp=>by rw[ho p.2 (by simp only[Op.operands];exact List.mem_map_of_mem hp)]
  simp only[bO,bA]at h |-
  rw[jN,vd _ h]
  exact AG h
 |store T x d=>simp only[bA,ho x (by simp[Op.operands])]
 |mapUpdate T x k d=>simp only[bA,ho x (by simp[Op.operands])]
 |insert T x k d=>simp only[bA,ho x (by simp[Op.operands])]
 |slice T x lo hi mx=>
  simp only[bO,bA,ho x (by simp[Op.operands])]at h |-
  exact AG h
 |call c=>
  obtain⟨callee,args,ts⟩:=c
  cases callee with
  |value f=>
   have h1:an σ2 f=an σ f:=ho f (by simp[Op.operands,Call.operands])
   have h2:args.toList.map (an σ2)=args.toList.map (an σ):=List.map_congr_left fun x hx=>ho x (by simp[Op.operands,Call.operands]at hx |-;simp[hx])
   simp only[bO,bA,h1,h2]at h |-
   cases hq:(fv (an σ f)).bind Γ with
   |none=>rfl
   |some s=>
    simp only[hq]at h |-
    obtain⟨g,hg,hs⟩:=Option.bind_eq_some_iff.1 hq
    exact(hN g s hs).wrt _ _ _ _ h
  |builtin b=>
   have h3:∀ x∈args.toList,an σ2 x=an σ x:=fun x hx=>ho x (by simp[Op.operands,Call.operands]at hx |-;simp[hx])
   obtain⟨args⟩:=args
   simp only at *
   cases b with
   |append=>
    rcases args with _ | ⟨s,_ | ⟨x,_ | ⟨y,r⟩⟩⟩<;>first
     |rfl
     |simp only[bA,h3 x (by simp),h3 s (by simp)]
   |_=>rfl
  |invoke r m=>rfl
 |_=>rfl
theorem D2{Γ:FuncId->Option Spec}(hN:∀ f s,Γ f=some s->s.Near){σ:S}(t:Name)(op:Op):∀ nm∈bA Γ σ t op,nm∈bO Γ σ t op:=by
 intro nm hn
 cases op with
 |buildSlice T n ps=>exact(List.mem_filter.1 hn).1
 |slice T x lo hi mx=>exact(List.mem_filter.1 hn).1
 |call c=>
  obtain⟨callee,args,ts⟩:=c
  cases callee with
  |value f=>
   simp only[bO,bA]at hn |-
   cases hq:(fv (an σ f)).bind Γ with
   |none=>simp[hq]at hn
   |some s=>
    simp only[hq]at hn |-
    obtain⟨g,hg,hs⟩:=Option.bind_eq_some_iff.1 hq
    exact(hN g s hs).sub _ _ _ _ hn
  |builtin b=>cases b<;>first | exact hn | (simp[bA]at hn;done)
  |invoke r m=>simp[bA]at hn
 |_=>first | exact hn | (simp[bA]at hn;done)
section
variable {P:Program} {Γ:FuncId->Option Spec} {ops:Array Oper}
abbrev Oper.tt (σ:S) (o:Oper):Name:=(σ.base+o.dst.getD 0)::σ.pre
theorem PC{σ σ':S}{x:Operand}(h:∀ t,x=.tmp t->σ'.env t=σ.env t):an σ' x=an σ x/\cC σ' x=cC σ x:=by
 cases x with
 |tmp t=>exact⟨by simp only[an,h t rfl],by simp only[cC,h t rfl]⟩
 |_=>exact⟨rfl,rfl⟩
theorem Ql{o:Oper}{x:Operand}(hx:x∈o.op.operands.toList){t:Nat}(h:x=.tmp t):t∈o.looksAt ops:=
 List.mem_append_left _ (List.mem_filterMap.2 ⟨x,hx,by subst h;rfl⟩)
theorem Gh{o:Oper}{j:Nat}{b:Bool}(hg:o.guard=some (j,b)){s:Nat}(h:mG ops j=some s):s∈o.looksAt ops:=by
 refine List.mem_append_right _ ?_
 unfold mG at h
 simp[hg,h]
theorem Wb{σ σ':S}{op:Op}(h:∀ x∈op.operands.toList,an σ' x=an σ x/\cC σ' x=cC σ x):mo σ' op=mo σ op:=by
 have dO:op.operands.toList.all (cC σ')=op.operands.toList.all (cC σ):=by
  refine Bool.eq_iff_iff.2 ?_
  simp only[List.all_eq_true]
  exact⟨fun k x hx=>(h x hx).2▸k x hx,fun k x hx=>(h x hx).2.symm▸k x hx⟩
 cases op with
 |pick c x y=>
  simp only[mo]
  have h1:=h c (by simp[Op.operands])
  have h2:=h x (by simp[Op.operands])
  have h3:=h y (by simp[Op.operands])
  rw[h1.1,h1.2,h2.2,h3.2]
 |_=>exact dO
structure pw (P:Program) (Γ:FuncId->Option Spec) (ops:Array Oper) (σ σ':S) (o:Oper):Prop where
 obl:jD P Γ ops σ' o↔jD P Γ ops σ o
 g:ee ops σ' o=ee ops σ o
 d:(aW P Γ σ' (Oper.tt σ o) o.op).d=(aW P Γ σ (Oper.tt σ o) o.op).d
 eff:∀ nm,(bc P Γ ops σ' o).obj nm=if nm∈bA Γ σ (Oper.tt σ o) o.op then(bc P Γ ops σ o).obj nm else σ'.obj nm
 frame:∀ nm,nm∉bA Γ σ (Oper.tt σ o) o.op->(bc P Γ ops σ o).obj nm=σ.obj nm
 foot:bO Γ σ' (Oper.tt σ o) o.op=bO Γ σ (Oper.tt σ o) o.op
 wrt:bA Γ σ' (Oper.tt σ o) o.op=bA Γ σ (Oper.tt σ o) o.op
theorem tq(hN:∀ f s,Γ f=some s->s.Near){σ σ':S}(o:Oper)(cG:σ'.nt=σ.nt)(IW:σ'.pre=σ.pre)(xS:σ'.base=σ.base)(he:∀ t∈o.looksAt ops,σ'.env t=σ.env t)
 (ha:bC (bO Γ σ (Oper.tt σ o) o.op) σ.obj σ'.obj):pw P Γ ops σ σ' o:=by
 have hx:∀ x∈o.op.operands.toList,an σ' x=an σ x/\cC σ' x=cC σ x:=fun x hx=>PC fun t ht=>he t (Ql hx ht)
 have hg:ee ops σ' o=ee ops σ o:=by
  unfold ee
  cases Ca:o.guard with
  |none=>rfl
  |some p=>
   obtain⟨j,b⟩:=p
   simp only
   cases hs:mG ops j with
   |none=>rfl
   |some s=>simp only[he s (Gh Ca hs)]
 have TT:mH ops σ' o↔mH ops σ o:=by
  unfold mH
  cases Ca:o.guard with
  |none=>exact Iff.rfl
  |some p=>
   obtain⟨j,b⟩:=p
   simp only
   cases hs:mG ops j with
   |none=>exact Iff.rfl
   |some s=>simp only[he s (Gh Ca hs),cG]
 obtain⟨h1,h2⟩:=DA (P:=P) hN (Oper.tt σ o) o.op (fun x h=>(hx x h).1) ha
 have h3:=W8 hN (Oper.tt σ o) o.op (fun x h=>(hx x h).1) ha
 refine⟨?_,hg,h1.d,fun nm=>?_,fun nm hn=>?_,h2,h3⟩
 ·have aa:(aW P Γ σ' ((σ.base+o.dst.getD 0)::σ.pre) o.op).ok=(aW P Γ σ ((σ.base+o.dst.getD 0)::σ.pre) o.op).ok:=h1.ok
  unfold jD
  rw[TT,hg,cG,IW,xS,Wb hx,aa]
 ·unfold bc
  simp only[hg,IW,xS]
  cases hc:ee ops σ o with
  |true=>simp only[if_true];exact h1.eff nm
  |false=>
   simp only[Bool.false_eq_true,if_false]
   split
   ·rename_i hn;exact ha nm (D2 hN _ _ nm hn)
   ·rfl
 ·unfold bc
  cases hc:ee ops σ o with
  |true=>simp only[if_true];exact h1.frame nm hn
  |false=>simp only[Bool.false_eq_true,if_false]
theorem pI{σ:S}{o:Oper}{t:Nat}(h:o.dst≠some t):(bc P Γ ops σ o).env t=σ.env t:=by
 unfold bc
 cases hd:o.dst with
 |none=>rfl
 |some s=>exact aV _ _ _ (by rintro rfl;exact h hd)
def vJ(a b:List Name):Prop:=∀ nm∈a,nm∉b
theorem comm{oi oj:Oper}(hN:∀ f s,Γ f=some s->s.Near){σ:S}(lV:oi.apart ops oj=true)
 (h1:vJ (bA Γ σ (Oper.tt σ oi) oi.op) (bO Γ (bc P Γ ops σ oi) (Oper.tt σ oj) oj.op)) (h2:vJ (bA Γ (bc P Γ ops σ oi) (Oper.tt σ oj) oj.op) (bO Γ σ (Oper.tt σ oi) oi.op)):
 pw P Γ ops (bc P Γ ops σ oi) σ oj/\pw P Γ ops σ (bc P Γ ops σ oj) oi/\bc P Γ ops (bc P Γ ops σ oj) oi=bc P Γ ops (bc P Γ ops σ oi) oj:=by
 obtain⟨a1,a2,a3⟩:=Oper.apart_spec lV
 have s0:pw P Γ ops σ σ oi:=tq hN oi rfl rfl rfl (fun _ _=>rfl) (fun _ _=>rfl)
 have s1:pw P Γ ops (bc P Γ ops σ oi) σ oj:=by
  refine tq hN oj rfl rfl rfl (fun t ht=>(pI fun hd=>a1 t hd ht).symm) fun nm hn=>?_
  exact(s0.frame nm fun hw=>h1 nm hw hn).symm
 have s2:pw P Γ ops σ (bc P Γ ops σ oj) oi:=by
  refine tq hN oi rfl rfl rfl (fun t ht=>pI fun hd=>a3 t hd ht) fun nm hn=>?_
  exact(s1.eff nm).trans (if_neg fun hw=>h2 nm hw hn)
 refine⟨s1,s2,?_⟩
 have e1:(bc P Γ ops (bc P Γ ops σ oj) oi).obj=(bc P Γ ops (bc P Γ ops σ oi) oj).obj:=by
  funext nm
  rw[s2.eff nm]
  by_cases hi:nm∈bA Γ σ (Oper.tt σ oi) oi.op
  ·rw[if_pos hi]
   have :=D2 hN _ _ nm hi
   have s3:pw P Γ ops (bc P Γ ops σ oi) (bc P Γ ops σ oi) oj:=tq hN oj rfl rfl rfl (fun _ _=>rfl) (fun _ _=>rfl)
   exact(s3.frame nm fun hw=>h2 nm hw this).symm
  ·rw[if_neg hi,s1.eff nm]
   split
   ·rfl
   ·rename_i hj
    have s3:pw P Γ ops (bc P Γ ops σ oi) (bc P Γ ops σ oi) oj:=tq hN oj rfl rfl rfl (fun _ _=>rfl) (fun _ _=>rfl)
    rw[s3.frame nm hj,s0.frame nm hi]
 have e2:(bc P Γ ops (bc P Γ ops σ oj) oi).env=(bc P Γ ops (bc P Γ ops σ oi) oj).env:=by
  funext x
  by_cases hi:oi.dst=some x
  ·have hj:oj.dst≠some x:=a2 x hi
   rw[pI (σ:=bc P Γ ops σ oi) hj]
   show (match oi.dst with
    |some t=>upd (bc P Γ ops σ oj).env t ⟨ee ops (bc P Γ ops σ oj) oi,(aW P Γ (bc P Γ ops σ oj) ((σ.base+t)::σ.pre) oi.op).d⟩
    |none=>(bc P Γ ops σ oj).env) x=(match oi.dst with
    |some t=>upd σ.env t ⟨ee ops σ oi,(aW P Γ σ ((σ.base+t)::σ.pre) oi.op).d⟩
    |none=>σ.env) x
   have d1:=s2.d
   have g1:=s2.g
   unfold Oper.tt at d1
   simp only[hi,Option.getD_some]at d1 |-
   rw[aN,aN,d1,g1]
  ·rw[pI hi]
   by_cases hj:oj.dst=some x
   ·show (match oj.dst with
      |some t=>upd σ.env t ⟨ee ops σ oj,(aW P Γ σ ((σ.base+t)::σ.pre) oj.op).d⟩
      |none=>σ.env) x=(match oj.dst with
      |some t=>upd (bc P Γ ops σ oi).env t ⟨ee ops (bc P Γ ops σ oi) oj,(aW P Γ (bc P Γ ops σ oi) ((σ.base+t)::σ.pre) oj.op).d⟩
      |none=>(bc P Γ ops σ oi).env) x
    have d1:(aW P Γ σ (Oper.tt σ oj) oj.op).d=(aW P Γ (bc P Γ ops σ oi) (Oper.tt σ oj) oj.op).d:=s1.d
    have g1:=s1.g
    unfold Oper.tt at d1
    simp only[hj,Option.getD_some]at d1 |-
    rw[aN,aN,d1,g1]
   ·rw[pI hj,pI hj,pI hi]
 have e3:(bc P Γ ops (bc P Γ ops σ oj) oi).nt=(bc P Γ ops (bc P Γ ops σ oi) oj).nt:=rfl
 have e4:(bc P Γ ops (bc P Γ ops σ oj) oi).pre=(bc P Γ ops (bc P Γ ops σ oi) oj).pre:=rfl
 have e5:(bc P Γ ops (bc P Γ ops σ oj) oi).base=(bc P Γ ops (bc P Γ ops σ oi) oj).base:=rfl
 generalize bc P Γ ops (bc P Γ ops σ oj) oi=x at *
 generalize bc P Γ ops (bc P Γ ops σ oi) oj=y at *
 cases x;cases y
 simp only at e1 e2 e3 e4 e5
 subst e1 e2 e3 e4 e5
 rfl
structure pz where
 on:Nat
 foot:List Name
 wrt:List Name
def wE(anc:List Nat)(foot wrt:List Name)(L:List pz):Prop:=∀ e∈L,e.on∈anc\/(vJ e.wrt foot/\vJ wrt e.foot)
variable (P Γ ops)in
def pC(anc:Nat->List Nat)(L:List pz)(K:S->Prop):Nat->Array Bool->S->Prop
 | 0,listed,σ=>Region.ready .any ops listed=[]/\K σ
 |fuel+1,listed,σ=>(Region.ready .any ops listed=[]->K σ)/\∀ i∈Region.ready .any ops listed,∀ o,ops[i]?=some o->
    jD P Γ ops σ o/\wE (anc i) (bO Γ σ (Oper.tt σ o) o.op) (bA Γ σ (Oper.tt σ o) o.op) L/\pC anc L K fuel (listed.setIfInBounds i true) (bc P Γ ops σ o)
def vK(ops:Array Oper)(anc:Nat->List Nat):Prop:=∀ j o,ops[j]?=some o->∀ i∈anc j,∃ e∈o.after,Region.binds .any e=true/\(e.on=i\/i∈anc e.on)
def rj(anc:Nat->List Nat)(listed:Array Bool):Prop:=∀ j,listed.getD j false=true->∀ i∈anc j,listed.getD i false=true
theorem rj.ready{anc:Nat->List Nat}{listed:Array Bool}(hA:vK ops anc)(h:rj anc listed){j:Nat}(hj:j∈Region.ready .any ops listed):∀ i∈anc j,listed.getD i false=true:=by
 intro i hi
 obtain⟨_,o,ho,dO⟩:=mem_ready.1 hj
 obtain⟨e,he,hb,h1⟩:=hA j o ho i hi
 have :=dO e he hb
 rcases h1 with h1 | h1
 ·rw[<-h1];exact this
 ·exact h _ this i h1
theorem rj.set{anc:Nat->List Nat}{listed:Array Bool}(hA:vK ops anc)(h:rj anc listed){j:Nat}(hj:j∈Region.ready .any ops listed):rj anc (listed.setIfInBounds j true):=by
 intro k hk i hi
 by_cases Jc:j=k
 ·subst Jc
  exact getD_set_true (h.ready hA hj i hi)
 ·rw[getD_set_ne false Jc]at hk
  exact getD_set_true (h k hk i hi)
theorem pull(hN:∀ f s,Γ f=some s->s.Near){anc:Nat->List Nat}(hA:vK ops anc){K:S->Prop}{i:Nat}{oi:Oper}(hi:ops[i]?=some oi){L:List pz}:
 ∀ (fuel:Nat) (listed:Array Bool) (σ:S),rj anc listed->
   (∀ j oj,ops[j]?=some oj->j≠i->listed.getD j true=false->i∉anc j->oi.apart ops oj=true)->
   i∈Region.ready .any ops listed->jD P Γ ops σ oi->wE (anc i) (bO Γ σ (Oper.tt σ oi) oi.op) (bA Γ σ (Oper.tt σ oi) oi.op) L->
   pC P Γ ops anc (⟨i,bO Γ σ (Oper.tt σ oi) oi.op,bA Γ σ (Oper.tt σ oi) oi.op⟩::L) K fuel (listed.setIfInBounds i true) (bc P Γ ops σ oi)->
   pC P Γ ops anc L K (fuel+1) listed σ:=by
 have weaken:∀ (e:pz) (fuel:Nat) (listed:Array Bool) (σ:S),pC P Γ ops anc (e::L) K fuel listed σ->pC P Γ ops anc L K fuel listed σ:=by
  intro e fuel
  induction fuel with
  |zero=>exact fun _ _ h=>h
  |succ n ih=>exact fun listed σ h=>⟨h.1,fun i hi o ho=>⟨(h.2 i hi o ho).1,fun e' Ug=>(h.2 i hi o ho).2.1 e' (List.mem_cons_of_mem _ Ug),ih _ _ (h.2 i hi o ho).2.2⟩⟩
 intro fuel
 induction fuel with
 |zero=>
  intro listed σ cq Cb hr ez aa H
  refine⟨fun h=>(by rw[h]at hr;cases hr),fun j hj oj qg=>?_⟩
  by_cases du:j=i
  ·subst du
   rw[hi]at qg;cases qg
   exact⟨ez,aa,weaken _ _ _ _ H⟩
  ·have:=ready_mono hj du
   rw[H.1]at this
   cases this
 |succ fuel ih=>
  intro listed σ cq Cb hr ez aa H
  refine⟨fun h=>(by rw[h]at hr;cases hr),fun j hj oj qg=>?_⟩
  by_cases du:j=i
  ·subst du
   rw[hi]at qg;cases qg
   exact⟨ez,aa,weaken _ _ _ _ H⟩
  ·obtain⟨g1,g2,g3⟩:=H.2 j (ready_mono hj du) oj qg
   have uF:listed.getD j true=false:=(mem_ready.1 hj).1
   have xA:i∉anc j:=fun h=>by
    have h1:=cq.ready hA hj i h
    have h0:=(mem_ready.1 hr).1
    rcases Nat.lt_or_ge i listed.size with h' | h'
    ·simp[h']at h0 h1;rw[h0]at h1;cases h1
    ·simp[Array.getElem?_eq_none h']at h1
   rcases g2 _ List.mem_cons_self with k | ⟨d1,d2⟩
   ·exact(xA k).elim
   simp only at d1 d2
   obtain⟨s1,s2,s3⟩:=comm hN (Cb j oj qg du uF xA) d1 d2
   have f1:bO Γ σ (Oper.tt σ oj) oj.op=bO Γ (bc P Γ ops σ oi) (Oper.tt σ oj) oj.op:=s1.foot
   have f2:bA Γ σ (Oper.tt σ oj) oj.op=bA Γ (bc P Γ ops σ oi) (Oper.tt σ oj) oj.op:=s1.wrt
   have f3:bO Γ (bc P Γ ops σ oj) (Oper.tt σ oi) oi.op=bO Γ σ (Oper.tt σ oi) oi.op:=s2.foot
   have f4:bA Γ (bc P Γ ops σ oj) (Oper.tt σ oi) oi.op=bA Γ σ (Oper.tt σ oi) oi.op:=s2.wrt
   refine⟨s1.obl.2 g1,?_,?_⟩
   ·rw[f1,f2]
    exact fun e he=>g2 e (List.mem_cons_of_mem _ he)
   ·refine ih _ _ (cq.set hA hj) (fun k ok hk dY IF fG=>Cb k ok hk dY ?_ fG) (ready_mono hr (Ne.symm du)) (s2.obl.2 ez) ?_ ?_
    ·by_cases lP:j=k
     ·subst lP;exact uF
     ·rw[getD_set_ne true lP]at IF;exact IF
    ·show wE (anc i) (bO Γ (bc P Γ ops σ oj) (Oper.tt σ oi) oi.op) (bA Γ (bc P Γ ops σ oj) (Oper.tt σ oi) oi.op) L
     rw[f3,f4];exact aa
    ·show pC P Γ ops anc (⟨i,bO Γ (bc P Γ ops σ oj) (Oper.tt σ oi) oi.op,bA Γ (bc P Γ ops σ oj) (Oper.tt σ oi) oi.op⟩::L) K fuel _ _
     rw[Array.setIfInBounds_comm _ _ du,f3,f4,s3]
     exact g3
theorem LB(hΓ:∀ f s,Γ f=some s->aL P f s){G:Ghost}{Q:Exit->Act->World->Prop}{K:S->Prop}{anc:Nat->List Nat}{L:List pz}:
 ∀ (fuel:Nat) (listed:Array Bool) {φ:Name->Loc} {m:Mem} {σ:S} {a:Act} {w:World},aM G φ m σ a w->pC P Γ ops anc L K fuel listed σ->
   (∀ a' w' φ' m' σ',aM G φ' m' σ' a' w'->K σ'->Q .normal a' w')->wpAnyIn (eY G.rd) 0 P .any ops Q fuel listed a w
 | 0,listed,φ,m,σ,a,w,hC,h,hQ=>⟨h.1,hQ _ _ φ m σ hC h.2⟩
 |fuel+1,listed,φ,m,σ,a,w,hC,h,hQ=>by
  refine⟨fun h0=>hQ _ _ φ m σ hC (h.1 h0),fun i hi=>?_⟩
  obtain⟨_,o,ho,_⟩:=mem_ready.1 hi
  obtain⟨h1,_,h3⟩:=h.2 i hi o ho
  exact zG hΓ hC ho h1 fun a' w' φ' m' ca=>LB hΓ fuel _ ca h3 hQ
end
end Go.Eng
