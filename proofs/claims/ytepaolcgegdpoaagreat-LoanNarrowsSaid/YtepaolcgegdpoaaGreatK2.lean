import Derived.Test.YtepaolcgegdpoaaGreatK1
import Derived.OrdersIn
import Derived.RangeFuncLeaves
import Derived.RangeFuncRecord
import Derived.RangeFuncNested
import Derived.Attr
/- Texts Eng11 to Eng18. -/
set_option linter.all false
namespace Go.Eng
open Go
def kj(obj:Name->Option O)(c x y:D):R:=
 match c with
 | .v (.bool b)=>⟨True,match x,y with
   | .v (.bool p),.v (.bool q)=>.v (.bool (if b then p else q))
   |x,y=>if b then x else y,obj⟩
 |_=>.bad obj
theorem ad5{φ:Name->Loc}{obj:Name->Option O}{m:Mem}{b:Bool}{x y:D}{u:Value}(h:aI φ obj m (if b then x else y) u):aI φ obj m (kj obj (.v (.bool b)) x y).d u:=by
 unfold kj
 simp only
 split
 ·rename_i p q
  cases b with
  |true=>simpa using h
  |false=>simpa using h
 ·exact h
def Sv(obj:Name->Option O)(fn:Fn)(f c:List D):R:=⟨True,.clo fn f c,obj⟩
def nK(P:Program)(obj:Name->Option O)(T:TypeId)(x:D)(f:Nat):R:=
 match b9 P T f,x with
 |some (off,n,true),.agg l=>⟨off+n<=l.length,.agg ((l.drop off).take n),obj⟩
 |some (off,_,false),.agg l=>⟨off<l.length,l.getD off .any,obj⟩
 |some (off,n,true),.v (.agg l)=>⟨off+n<=l.length,.v (.agg ((l.drop off).take n)),obj⟩
 |some (off,_,false),.v (.agg l)=>⟨off<l.length,.v (l.getD off default),obj⟩
 |_,_=>.bad obj
theorem rp{P:Program}{t:TypeId}{b:Bool}{n:Nat}(h:bf P t=some (b,n))(cs:Array Value)(off:Nat)(hb:b=false->off<cs.size)(w:World):
 (part t cs off).run P w=.ok (if b then .agg (cs.extract off (off+n))else cs.getD off undef) w:=by
 simp only[part,Sem.run_bind,Kg h,Result.andThen_ok,Sem.run_ite,vG h,Sem.run_pure]
 cases b with
 |true=>simp
 |false=>
  have :=hb rfl
  simp[Array.getElem?_eq_getElem this,Array.getD,this]
theorem aI.aggPart{φ:Name->Loc}{obj:Name->Option O}{m:Mem}{l:List D}{us:Array Value}(hl:l.length=us.size)(ho:∀ d∈l,d.one=true)
 (hr:∀ i (h:i<l.length) (h':i<us.size),aI φ obj m l[i] us[i]) {off n:Nat} (h:off+n<=l.length):
 aI φ obj m (.agg ((l.drop off).take n)) (.agg (us.extract off (off+n))):=by
 refine .agg _ _ (by simp;omega) (fun d hd=>ho d (List.mem_of_mem_drop (List.mem_of_mem_take hd))) fun i h1 h2=>?_
 simp only[List.length_take,List.length_drop]at h1
 simp only[List.getElem_take,List.getElem_drop,Array.getElem_extract]
 exact hr _ (by omega) (by omega)
theorem aU.aggPart{m:Mem}{l:List V}{us:Array Value}(hl:l.length=us.size)(ho:∀ d∈l,d.one=true)
 (hr:∀ i (h:i<l.length) (h':i<us.size),aU m l[i] us[i]) {off n:Nat} (h:off+n<=l.length):
 aU m (.agg ((l.drop off).take n)) (.agg (us.extract off (off+n))):=by
 refine .agg _ _ (by simp;omega) (fun d hd=>ho d (List.mem_of_mem_drop (List.mem_of_mem_take hd))) fun i h1 h2=>?_
 simp only[List.length_take,List.length_drop]at h1
 simp only[List.getElem_take,List.getElem_drop,Array.getElem_extract]
 exact hr _ (by omega) (by omega)
theorem Uy{P:Program}{φ:Name->Loc}{obj:Name->Option O}{m:Mem}{T:TypeId}{f:Nat}{x:D}{u:Value}(w:World)
 (hx:aI φ obj m x u) (aa:(nK P obj T x f).ok):
 ∃ v,(Instr.field T u f).run P w=.ok v w/\aI φ obj m (nK P obj T x f).d v/\(nK P obj T x f).obj=obj:=by
 have cP:∀ {off n:Nat} {ag:Bool} {us:Array Value},b9 P T f=some (off,n,ag)->(ag=false->off<us.size)->
     (Instr.field T (.agg us) f).run P w=.ok (if ag then .agg (us.extract off (off+n))else us.getD off undef) w:=by
  intro off n ag us h hb
  unfold b9 at h
  split at h
  ·rename_i fs hu
   cases hf:fs[f]? with
   |none=>simp[hf]at h
   |some x=>
    simp only[hf,Option.bind_some,Option.map_eq_some_iff,Prod.mk.injEq]at h
    obtain⟨y,h1,h2,h3,h4⟩:=h
    obtain⟨y1,y2⟩:=y
    simp only at h3 h4
    subst h3 h4 h2
    simp only[Instr.field,Sem.run_bind,run_underlying hu,Result.andThen_ok,hf,asAgg,Sem.run_pure]
    exact rp h1 us _ hb w
  ·cases h
 unfold nK at aa |-
 split at aa
 ·rename_i off n l hT
  cases hx with
  |agg _ us hl ho hr=>
  exact⟨_,cP hT (by simp),by simpa[hT]using aI.aggPart hl ho hr aa,by simp[hT]⟩
 ·rename_i off n l hT
  cases hx with
  |agg _ us hl ho hr=>
  have fM:off<l.length:=aa
  refine⟨_,cP hT (fun _=>by omega),?_,by simp[hT]⟩
  simp only[hT,Bool.false_eq_true,if_false]
  rw[jB fM]
  have :off<us.size:=by omega
  simp only[Array.getD,this,dite_true]
  exact hr off fM this
 ·rename_i off n l hT
  cases hx with
  |v _ _ hx=>
  cases hx with
  |agg _ us hl ho hr=>
  exact⟨_,cP hT (by simp),by simpa[hT]using .v _ _ (aU.aggPart hl ho hr aa),by simp[hT]⟩
 ·rename_i off n l hT
  cases hx with
  |v _ _ hx=>
  cases hx with
  |agg _ us hl ho hr=>
  have fM:off<l.length:=aa
  refine⟨_,cP hT (fun _=>by omega),?_,by simp[hT]⟩
  simp only[hT,Bool.false_eq_true,if_false]
  rw[jB fM]
  have :off<us.size:=by omega
  simp only[Array.getD,this,dite_true]
  exact .v _ _ (hr off fM this)
 ·exact aa.elim
def nJ(P:Program)(obj:Name->Option O)(T:TypeId)(x i:D):R:=
 match x,i with
 | .v (.str s),.v (.int _ n)=>⟨dM P T=some 1/\0<=n/\n<s.size,.v (.int .u8 (s.data.getD n.toNat 0).toNat),obj⟩
 | .agg l,.v (.int _ n)=>match ku P T with
   |some (len,sz,true)=>⟨0<=n/\n<len/\n.toNat*sz+sz<=l.length,.agg ((l.drop (n.toNat*sz)).take sz),obj⟩
   |some (len,sz,false)=>⟨0<=n/\n<len/\n.toNat*sz<l.length,l.getD (n.toNat*sz) .any,obj⟩
   |_=>.bad obj
 | .v (.agg l),.v (.int _ n)=>match ku P T with
   |some (len,sz,true)=>⟨0<=n/\n<len/\n.toNat*sz+sz<=l.length,.v (.agg ((l.drop (n.toNat*sz)).take sz)),obj⟩
   |some (len,sz,false)=>⟨0<=n/\n<len/\n.toNat*sz<l.length,.v (l.getD (n.toNat*sz) default),obj⟩
   |_=>.bad obj
 |_,_=>.bad obj
theorem Uw{P:Program}{φ:Name->Loc}{obj:Name->Option O}{m:Mem}{T:TypeId}{x i:D}{u ui:Value}(w:World)
 (hx:aI φ obj m x u) (hi:aI φ obj m i ui) (aa:(nJ P obj T x i).ok):
 ∃ v,(Instr.index T u ui).run P w=.ok v w/\aI φ obj m (nJ P obj T x i).d v/\(nJ P obj T x i).obj=obj:=by
 have cP:∀ {len sz:Nat} {ag:Bool} {us:Array Value} {k:IntKind} {n:Int},ku P T=some (len,sz,ag)->0<=n->n<len->(ag=false->n.toNat*sz<us.size)->
     (Instr.index T (.agg us) (.int k n)).run P w=.ok (if ag then .agg (us.extract (n.toNat*sz) (n.toNat*sz+sz))else us.getD (n.toNat*sz) undef) w:=by
  intro len sz ag us k n h h0 h1 hb
  unfold ku at h
  split at h
  ·rename_i n' e hu
   simp only[Option.map_eq_some_iff,Prod.mk.injEq]at h
   obtain⟨y,h2,h3,h4,h5⟩:=h
   obtain⟨y1,y2⟩:=y
   simp only at h4 h5
   subst h3 h4 h5
   have hs:=fun w=>vG (P:=P) (t:=e) h2 w
   have hp:=fun w=>rp h2 us (n.toNat*y2) hb w
   simp[Instr.index,asIntOf,run_underlying hu,h0,h1,hs,hp]
  ·cases h
 unfold nJ at aa |-
 split at aa
 ·rename_i s k n
  obtain⟨hT,h0,h1⟩:=aa
  have hu:=JB hT
  cases hx with
  |v _ _ hx=>
  cases hi with
  |v _ _ hi=>
  cases hx;cases hi
  have ae:n.toNat<s.size:=by omega
  refine⟨.int .u8 (s.data.getD n.toNat 0).toNat,?_,.v _ _ (.int _ _),rfl⟩
  have e:s[n.toNat]?=some (s.data.getD n.toNat 0):=by
   have aw:n.toNat<s.data.size:=ae
   rw[getElem?_pos s n.toNat ae]
   simp only[Array.getD,aw,dite_true]
   rfl
  simp[Instr.index,asIntOf,run_underlying hu,h0,e]
 ·rename_i l k n
  cases hi with
  |v _ _ hi=>
  cases hi
  cases hx with
  |agg _ us hl ho hr=>
  split at aa
  ·rename_i len sz hT
   obtain⟨h0,h1,h2⟩:=aa
   exact⟨_,cP hT h0 h1 (by simp),by simpa[hT]using aI.aggPart hl ho hr h2,by simp[hT]⟩
  ·rename_i len sz hT
   obtain⟨h0,h1,h2⟩:=aa
   refine⟨_,cP hT h0 h1 (fun _=>by omega),?_,by simp[hT]⟩
   simp only[hT,Bool.false_eq_true,if_false]
   rw[jB h2]
   have :n.toNat*sz<us.size:=by omega
   simp only[Array.getD,this,dite_true]
   exact hr _ h2 this
  ·exact aa.elim
 ·rename_i l k n
  cases hi with
  |v _ _ hi=>
  cases hi
  cases hx with
  |v _ _ hx=>
  cases hx with
  |agg _ us hl ho hr=>
  split at aa
  ·rename_i len sz hT
   obtain⟨h0,h1,h2⟩:=aa
   exact⟨_,cP hT h0 h1 (by simp),by simpa[hT]using .v _ _ (aU.aggPart hl ho hr h2),by simp[hT]⟩
  ·rename_i len sz hT
   obtain⟨h0,h1,h2⟩:=aa
   refine⟨_,cP hT h0 h1 (fun _=>by omega),?_,by simp[hT]⟩
   simp only[hT,Bool.false_eq_true,if_false]
   rw[jB h2]
   have :n.toNat*sz<us.size:=by omega
   simp only[Array.getD,this,dite_true]
   exact .v _ _ (hr _ h2 this)
  ·exact aa.elim
 ·exact aa.elim
def fF:List (V×V)->V->Option V
 |[],_=>none
 |(k',x)::r,k=>if fW k' k=true then some x else fF r k
def eG:List (V×V)->V->V->List (V×V)
 |[],k,x=>[(k,x)]
 |(k',y)::r,k,x=>if fW k' k=true then(k,x)::r else(k',y)::eG r k x
theorem Ft{x:V}(h:eT 0 x=true):∃ n,x=.int .i64 n:=by
 cases x with
 |int k n=>cases k<;>simp_all[eT]
 |_=>simp[eT]at h
theorem Fs{x:V}(h:eT 1 x=true):∃ s,x=.str s:=by
 cases x with
 |str s=>exact⟨s,rfl⟩
 |_=>simp[eT]at h
theorem we{m:Mem}{kd:Nat}{d:TypeDesc}(hd:(kd=0/\d=.int .i64)\/(kd=1/\d=.string)){x:V}{u:Value}(hx:aU m x u)(hk:eT kd x=true):MapKept.IsKey d u:=by
 rcases hd with⟨rfl,rfl⟩ | ⟨rfl,rfl⟩
 ·obtain⟨n,rfl⟩:=Ft hk
  cases hx
  simp[MapKept.IsKey]
 ·obtain⟨n,rfl⟩:=Fs hk
  cases hx
  simp[MapKept.IsKey]
theorem Y5{m:Mem}{kd:Nat}{d:TypeDesc}(hd:(kd=0/\d=.int .i64)\/(kd=1/\d=.string)){x y:V}{u v:Value}(hx:aU m x u)(hy:aU m y v)
 (hk:eT kd x=true) (j8:eT kd y=true):Instr.sameNow d u v=some (fW y x):=by
 rcases hd with⟨rfl,rfl⟩ | ⟨rfl,rfl⟩
 ·obtain⟨n,rfl⟩:=Ft hk
  obtain⟨n',rfl⟩:=Ft j8
  cases hx;cases hy
  simp only[Instr.sameNow,fW,if_true]
  congr 1
  rw[Bool.eq_iff_iff]
  simp only[beq_iff_eq]
  exact eq_comm
 ·obtain⟨n,rfl⟩:=Fs hk
  obtain⟨n',rfl⟩:=Fs j8
  cases hx;cases hy
  simp only[Instr.sameNow,fW]
  congr 1
  rw[Bool.eq_iff_iff,MapKept.bytes_beq,MapKept.bytes_beq,eq_comm]
theorem Qr{m:Mem}{kd:Nat}{d:TypeDesc}(hd:(kd=0/\d=.int .i64)\/(kd=1/\d=.string)){x:V}{u:Value}(hx:aU m x u)(hk:eT kd x=true)(z:V):
 ∀ (es:List (V×V)) (ents:List MapEntry) (i:Nat),es.length=ents.length->(∀ p∈es,eT kd p.1=true)->
   (∀ j (h:j<es.length) (h':j<ents.length),aU m es[j].1 ents[j].key/\aU m es[j].2 ents[j].val)->
   (fF es x=none/\Instr.findNow d u ents i=some none/\eG es x z=es++[(x,z)])\/
   ∃ (j:Nat) (h:j<es.length) (h':j<ents.length),fF es x=some es[j].2/\Instr.findNow d u ents i=some (some (i+j,ents[j].val))/\ents[j].key=u/\eG es x z=es.set j (x,z)
 |[],ents,i,hl,_,_=>by
  have :ents=[]:=by cases ents<;>simp_all
  subst this
  exact .inl ⟨rfl,rfl,rfl⟩
 |(k',y)::r,[],i,hl,_,_=>by simp at hl
 |(k',y)::r,e::ents,i,hl,sb,hr=>by
  have h0:=hr 0 (by simp) (by simp)
  simp only[List.getElem_cons_zero]at h0
  have j8:eT kd k'=true:=sb (k',y) (by simp)
  have hs:=Y5 hd hx h0.1 hk j8
  by_cases hq:fW k' x=true
  ·refine .inr ⟨0,by simp,by simp,by simp[fF,hq],by simp[Instr.findNow,hs,hq],?_,by simp[eG,hq]⟩
   obtain⟨b,hb,aa6⟩:=MapKept.sameNow_of_keys (we hd hx hk) (we hd h0.1 j8)
   rw[hs]at hb
   simp only[Option.some.injEq]at hb
   exact(aa6.1 (by rw[<-hb];exact hq)).symm
  ·have bI:fW k' x=false:=by simpa using hq
   rcases Qr hd hx hk z r ents (i+1) (by simpa using hl) (fun p hp=>sb p (by simp[hp])) (fun j h h'=>hr (j+1) (by simpa using h) (by simpa using h'))with⟨h1,h2,h3⟩ | ⟨j,h,h',h1,h2,h3,h4⟩
   ·exact .inl ⟨by simp[fF,bI,h1],by simp[Instr.findNow,hs,bI,h2],by simp[eG,bI,h3]⟩
   ·refine .inr ⟨j+1,by simpa using h,by simpa using h',by simp[fF,bI,h1],?_,by simpa using h3,by simp[eG,bI,h4]⟩
    simp only[Instr.findNow,hs,bI,h2,List.getElem_cons_succ]
    rw[show i+1+j=i+(j+1)by omega]
def Dt(P:Program)(kt:TypeId)(kd:Nat):Prop:=
 (kd=0/\P.underlying kt=some (.int .i64))\/(kd=1/\P.underlying kt=some .string)\/(kd=2/\sX P kt=true)
theorem DK{P:Program}{T e:TypeId}{kd:Nat}(h:kW P T=some (kd,e)):
 ∃ k,P.underlying T=some (.map k e)/\Dt P k kd:=by
 unfold kW at h
 split at h
 ·rename_i k e' hu
  split at h
  ·rename_i hk
   simp only[Option.some.injEq,Prod.mk.injEq]at h
   obtain⟨rfl,rfl⟩:=h
   exact⟨k,hu,.inl ⟨rfl,hk⟩⟩
  ·rename_i hk
   simp only[Option.some.injEq,Prod.mk.injEq]at h
   obtain⟨rfl,rfl⟩:=h
   exact⟨k,hu,.inr (.inl ⟨rfl,hk⟩)⟩
  ·split at h
   ·rename_i hk
    simp only[Option.some.injEq,Prod.mk.injEq]at h
    obtain⟨rfl,rfl⟩:=h
    exact⟨k,hu,.inr (.inr ⟨rfl,hk⟩)⟩
   ·cases h
  ·cases h
 ·cases h
theorem Y3{x:V}(h:eT 2 x=true):∃ a b,x=.agg [.int .i64 a,.int .i64 b]:=by
 unfold eT at h
 split at h
 ·rename_i h0;omega
 ·rename_i h0;omega
 ·exact⟨_,_,rfl⟩
 ·cases h
theorem Be{m:Mem}{x:V}{u:Value}(hx:aU m x u)(h:eT 2 x=true):∃ a b,x=.agg [.int .i64 a,.int .i64 b]/\u=.agg #[.int .i64 a,.int .i64 b]:=by
 obtain⟨a,b,rfl⟩:=Y3 h
 refine⟨a,b,rfl,?_⟩
 cases hx with
 |agg _ us hl ho hr=>
  have hs:us.size=2:=by simpa using hl.symm
  have h0:=hr 0 (by simp) (by omega)
  have h1:=hr 1 (by simp) (by omega)
  simp only[List.getElem_cons_zero,List.getElem_cons_succ]at h0 h1
  have e:us= #[us[0],us[1]]:=by
   apply Array.ext
   ·simp[hs]
   ·intro i h2 h3
    have :i=0\/i=1:=by omega
    rcases this with rfl | rfl<;>rfl
  rw[e]
  generalize py:us[0]=q0 at *
  generalize F3:us[1]=q1 at *
  cases h0
  cases h1
  rfl
structure aex (P:Program) (kt:TypeId) (f g:Field):Prop where
 st:∃ fs,P.underlying kt=some (.struct fs)/\fs.toList=[f,g]
 held:P.stoodInHeld kt=false
 nf:f.name≠ "_"
 ng:g.name≠ "_"
 of:f.offset=0
 og:g.offset=1
 tf:P.underlying f.type=some (.int .i64)
 tg:P.underlying g.type=some (.int .i64)
 af:bf P f.type=some (false,1)
 ag:bf P g.type=some (false,1)
theorem JC{P:Program}{T:TypeId}{k:IntKind}(h:n9 P T=some k):P.underlying T=some (.int k):=by
 unfold n9 at h
 split at h
 ·rename_i h1;cases h;exact h1
 ·cases h
theorem Ez{P:Program}{kt:TypeId}(h:sX P kt=true):∃ f g,aex P kt f g:=by
 unfold sX at h
 split at h
 ·rename_i fs hu
  split at h
  ·rename_i f g hl
   simp only[Bool.and_eq_true,decide_eq_true_eq,Bool.not_eq_true',beq_eq_false_iff_ne]at h
   obtain⟨⟨⟨⟨⟨⟨⟨⟨h1,h2⟩,h3⟩,h4⟩,h5⟩,h6⟩,h7⟩,h8⟩,h9⟩:=h
   exact⟨f,g,⟨fs,hu,hl⟩,h1,h2,h3,Nat.eq_of_beq_eq_true h4,Nat.eq_of_beq_eq_true h5,JC h6,JC h7,h8,h9⟩
  ·cases h
 ·cases h
theorem VQ{P:Program}{kt:TypeId}(h:sX P kt=true)(a b c d:Int)(w:World):
 (Op.equal kt (.agg #[.int .i64 a,.int .i64 b]) (.agg #[.int .i64 c,.int .i64 d])).run P w=.ok (a==c&&b==d) w:=by
 obtain⟨f,g,⟨fs,hu,oN⟩,h1,h2,h3,h4,h5,h6,h7,h8,h9⟩:=Ez h
 have hp:(Sem.run P program w)=.ok P w:=rfl
 have e0:∀ x y:Value,(part f.type #[x,y] 0).run P w=.ok x w:=fun x y=>(rp h8 #[x,y] 0 (fun _=>by simp) w).trans (by simp[Array.getD])
 have e1:∀ x y:Value,(part g.type #[x,y] 1).run P w=.ok y w:=fun x y=>(rp h9 #[x,y] 1 (fun _=>by simp) w).trans (by simp[Array.getD])
 suffices key:∀ n,(Op.equalIn (n+1+1) kt (.agg #[.int .i64 a,.int .i64 b]) (.agg #[.int .i64 c,.int .i64 d])).run P w=.ok (a==c&&b==d) w from key 9998
 intro n
 have i0:∀ a b:Int,(Op.equalIn (n+1) f.type (.int .i64 a) (.int .i64 b)).run P w=.ok (a==b) w:=fun a b=>by simp[Op.equalIn,run_underlying h6 w]
 have i1:∀ a b:Int,(Op.equalIn (n+1) g.type (.int .i64 a) (.int .i64 b)).run P w=.ok (a==b) w:=fun a b=>by simp[Op.equalIn,run_underlying h7 w]
 unfold Op.equalIn
 simp only[Sem.run_bind,run_underlying hu w,Result.andThen_ok,hp,h1,Bool.false_eq_true,if_false,Sem.run_ite]
 rw[<-Array.forIn_toList,oN]
 simp only[List.forIn_cons,List.forIn_nil,h2,h3,h4,h5,ne_eq,not_false_eq_true,if_true,Sem.run_bind,e0,e1,i0,i1,Result.andThen_ok]
 by_cases q:a=c<;>by_cases q2:b=d<;>simp[q,q2,e0,e1,i0,i1]
theorem VS{P:Program}{kt:TypeId}(h:sX P kt=true)(a b:Int)(e:Bool)(n:Nat)(w:World):
 (Instr.checkKey e (n+2) kt (.agg #[.int .i64 a,.int .i64 b])).run P w=.ok () w:=by
 obtain⟨f,g,⟨fs,hu,oN⟩,h1,h2,h3,h4,h5,h6,h7,h8,h9⟩:=Ez h
 have e0:∀ x y:Value,(part f.type #[x,y] 0).run P w=.ok x w:=fun x y=>(rp h8 #[x,y] 0 (fun _=>by simp) w).trans (by simp[Array.getD])
 have e1:∀ x y:Value,(part g.type #[x,y] 1).run P w=.ok y w:=fun x y=>(rp h9 #[x,y] 1 (fun _=>by simp) w).trans (by simp[Array.getD])
 have i0:∀ v:Int,(Instr.checkKey e (n+1) f.type (.int .i64 v)).run P w=.ok () w:=fun v=>MapKept.run_checkKey h6 (by simp[MapKept.IsKey]) e n
 have i1:∀ v:Int,(Instr.checkKey e (n+1) g.type (.int .i64 v)).run P w=.ok () w:=fun v=>MapKept.run_checkKey h7 (by simp[MapKept.IsKey]) e n
 unfold Instr.checkKey
 simp only[Sem.run_bind,run_underlying hu w,Result.andThen_ok]
 rw[<-Array.forIn_toList,oN]
 simp[h2,h3,h4,h5,e0,e1,i0,i1,Array.getD]
theorem D8{P:Program}{kt:TypeId}{kd:Nat}(hk:Dt P kt kd){m:Mem}{x:V}{u:Value}(hx:aU m x u)(h:eT kd x=true)(e:Bool)(w:World):
 (Instr.checkKey e 10000 kt u).run P w=.ok () w:=by
 rcases hk with⟨rfl,hd⟩ | ⟨rfl,hd⟩ | ⟨rfl,hd⟩
 ·exact MapKept.run_checkKey hd (we (.inl ⟨rfl,rfl⟩) hx h) e 9999
 ·exact MapKept.run_checkKey hd (we (.inr ⟨rfl,rfl⟩) hx h) e 9999
 ·obtain⟨a,b,rfl,rfl⟩:=Be hx h
  exact VS hd a b e 9998 w
theorem VP{P:Program}{kd:Nat}{m:Mem}{x:V}{u:Value}(nj:kd<=2)(hx:aU m x u)(h:eT kd x=true)(w:World):(Instr.keyThatStays u u).run P w=.ok u w:=by
 have :kd=0\/kd=1\/kd=2:=by omega
 rcases this with rfl | rfl | rfl
 ·exact MapKept.run_keyThatStays (we (d:=.int .i64) (.inl ⟨rfl,rfl⟩) hx h)
 ·exact MapKept.run_keyThatStays (we (d:=.string) (.inr ⟨rfl,rfl⟩) hx h)
 ·obtain⟨a,b,rfl,rfl⟩:=Be hx h
  have :Instr.sameBits 10000 (.agg #[.int .i64 a,.int .i64 b]) (.agg #[.int .i64 a,.int .i64 b])=true:=by
   simp[Instr.sameBits]
  simp[Instr.keyThatStays,this]
theorem Y2{P:Program}{kt:TypeId}{kd:Nat}(hk:Dt P kt kd):kd<=2:=by
 rcases hk with⟨rfl,_⟩ | ⟨rfl,_⟩ | ⟨rfl,_⟩<;>omega
theorem Qt{P:Program}{kt:TypeId}(hp:sX P kt=true){m:Mem}{x:V}{u:Value}(hx:aU m x u)(hk:eT 2 x=true)(z:V)(w:World):
 ∀ (es:List (V×V)) (ents:List MapEntry) (i:Nat),es.length=ents.length->(∀ p∈es,eT 2 p.1=true)->
   (∀ j (h:j<es.length) (h':j<ents.length),aU m es[j].1 ents[j].key/\aU m es[j].2 ents[j].val)->
   (fF es x=none/\(Instr.findAsking kt u ents i).run P w=.ok none w/\eG es x z=es++[(x,z)])\/
   ∃ (j:Nat) (h:j<es.length) (h':j<ents.length),fF es x=some es[j].2/\(Instr.findAsking kt u ents i).run P w=.ok (some (i+j,ents[j].val)) w/\ents[j].key=u/\eG es x z=es.set j (x,z)
 |[],ents,i,hl,_,_=>by
  have :ents=[]:=by cases ents<;>simp_all
  subst this
  exact .inl ⟨rfl,rfl,rfl⟩
 |(k',y)::r,[],i,hl,_,_=>by simp at hl
 |(k',y)::r,e::ents,i,hl,sb,hr=>by
  have h0:=hr 0 (by simp) (by simp)
  simp only[List.getElem_cons_zero]at h0
  have j8:eT 2 k'=true:=sb (k',y) (by simp)
  obtain⟨a,b,hxa,OE⟩:=Be hx hk
  obtain⟨c,d,Gt,Bv⟩:=Be h0.1 j8
  have hs:(Op.equal kt u e.key).run P w=.ok (a==c&&b==d) w:=by rw[OE,Bv];exact VQ hp a b c d w
  have hq:fW k' x=(a==c&&b==d):=by
   rw[hxa,Gt]
   show (c==a&&d==b)=_
   rw[Bool.eq_iff_iff]
   simp only[Bool.and_eq_true,beq_iff_eq]
   exact⟨fun h=>⟨h.1.symm,h.2.symm⟩,fun h=>⟨h.1.symm,h.2.symm⟩⟩
  cases hb:(a==c&&b==d)with
  |true=>
   rw[hb]at hs hq
   refine .inr ⟨0,by simp,by simp,by simp[fF,hq],by simp[Instr.findAsking,hs],?_,by simp[eG,hq]⟩
   simp only[Bool.and_eq_true,beq_iff_eq]at hb
   simp only[List.getElem_cons_zero]
   rw[OE,Bv,hb.1,hb.2]
  |false=>
   rw[hb]at hs hq
   rcases Qt hp hx hk z w r ents (i+1) (by simpa using hl) (fun p hp=>sb p (by simp[hp])) (fun j h h'=>hr (j+1) (by simpa using h) (by simpa using h'))with⟨h1,h2,h3⟩ | ⟨j,h,h',h1,h2,h3,h4⟩
   ·exact .inl ⟨by simp[fF,hq,h1],by simp[Instr.findAsking,hs,h2],by simp[eG,hq,h3]⟩
   ·refine .inr ⟨j+1,by simpa using h,by simpa using h',by simp[fF,hq,h1],?_,by simpa using h3,by simp[eG,hq,h4]⟩
    simp only[Instr.findAsking,Sem.run_bind,hs,Result.andThen_ok,Bool.false_eq_true,if_false,h2,List.getElem_cons_succ]
    rw[show i+1+j=i+(j+1)by omega]
theorem Hu{P:Program}{kt:TypeId}{kd:Nat}(hT:Dt P kt kd){m:Mem}{x:V}{u:Value}(hx:aU m x u)(hk:eT kd x=true)(z:V)(w:World)
 (es:List (V×V)) (ents:List MapEntry) (hl:es.length=ents.length) (sb:∀ p∈es,eT kd p.1=true)
 (hr:∀ j (h:j<es.length) (h':j<ents.length),aU m es[j].1 ents[j].key/\aU m es[j].2 ents[j].val):
   (fF es x=none/\(Instr.findKey kt u ents).run P w=.ok none w/\eG es x z=es++[(x,z)])\/
   ∃ (j:Nat) (h:j<es.length) (h':j<ents.length),fF es x=some es[j].2/\(Instr.findKey kt u ents).run P w=.ok (some (j,ents[j].val)) w/\ents[j].key=u/\eG es x z=es.set j (x,z):=by
 have plain:∀ d,P.underlying kt=some d->((kd=0/\d=.int .i64)\/(kd=1/\d=.string))->(fF es x=none/\(Instr.findKey kt u ents).run P w=.ok none w/\eG es x z=es++[(x,z)])\/
     ∃ (j:Nat) (h:j<es.length) (h':j<ents.length),fF es x=some es[j].2/\(Instr.findKey kt u ents).run P w=.ok (some (j,ents[j].val)) w/\ents[j].key=u/\eG es x z=es.set j (x,z):=by
  intro d hd nj
  rcases Qr nj hx hk z es ents 0 hl sb hr with⟨h1,h2,h3⟩ | ⟨j,h,h',h1,h2,h3,h4⟩
  ·exact .inl ⟨h1,MapKept.run_findKey hd h2,h3⟩
  ·exact .inr ⟨j,h,h',h1,by rw[Nat.zero_add]at h2;exact MapKept.run_findKey hd h2,h3,h4⟩
 rcases hT with⟨rfl,hd⟩ | ⟨rfl,hd⟩ | ⟨rfl,hp⟩
 ·exact plain _ hd (.inl ⟨rfl,rfl⟩)
 ·exact plain _ hd (.inr ⟨rfl,rfl⟩)
 ·have key:(Instr.findKey kt u ents).run P w=(Instr.findAsking kt u ents).run P w:=by
    obtain⟨f,g,⟨fs,hu,_⟩,_⟩:=Ez hp
    cases ents with
    |nil=>simp[Instr.findKey,run_underlying hu w,Instr.findNow,Instr.findAsking]
    |cons e r=>
     have :Instr.sameNow (.struct fs) u e.key=none:=by
      cases u<;>rfl
     simp[Instr.findKey,run_underlying hu w,Instr.findNow,this]
  rw[key]
  rcases Qt hp hx hk z w es ents 0 hl sb hr with⟨h1,h2,h3⟩ | ⟨j,h,h',h1,h2,h3,h4⟩
  ·exact .inl ⟨h1,h2,h3⟩
  ·exact .inr ⟨j,h,h',h1,by rw[Nat.zero_add]at h2;exact h2,h3,h4⟩
def nI(P:Program)(obj:Name->Option O)(T:TypeId)(x k:D)(Rl:Bool):R:=
 match kW P T with
 |some (kd,e)=>match (bp P e).bind fun z=>eX (jV z),eX k with
  |some z,some kv=>match x with
   | .nilmap=>⟨kd<=2/\eT kd kv=true,if Rl then .tup [.v z,.v (.bool false)]else .v z,obj⟩
   | .map nm=>match obj nm with
     |some (.map lh es)=>⟨kd<=2/\eT kd kv=true/\lh=kd,if Rl then .tup [.v ((fF es kv).getD z),.v (.bool (fF es kv).isSome)]else .v ((fF es kv).getD z),obj⟩
     |_=>.bad obj
   |_=>.bad obj
  |_,_=>.bad obj
 |none=>.bad obj
theorem Ed{φ:Name->Loc}{obj:Name->Option O}{m:Mem}{z:V}{u:Value}{b:Bool}(h:aU m z u):aI φ obj m (.tup [.v z,.v (.bool b)]) (.tuple #[u,.bool b]):=by
 refine .tup _ _ rfl fun i h1 h2=>?_
 match i,h1 with
 | 0,_=>exact .v _ _ h
 | 1,_=>exact .v _ _ (.bool b)
theorem Ut{P:Program}{G:Ghost}{φ:Name->Loc}{m:Mem}{σ:S}{a:Act}{w:World}(hC:aV G φ m σ a w){T:TypeId}{x k:D}{u uk:Value}{co:Bool}
 (hx:aI φ σ.obj m x u) (hk:aI φ σ.obj m k uk) (aa:(nI P σ.obj T x k co).ok):
 ∃ v,(Instr.lookup T u uk co).run P w=.ok v w/\aI φ σ.obj m (nI P σ.obj T x k co).d v/\(nI P σ.obj T x k co).obj=σ.obj:=by
 unfold nI at aa |-
 cases hT:kW P T with
 |none=>simp only[hT]at aa;exact aa.elim
 |some p=>
 obtain⟨kd,e⟩:=p
 simp only[hT]at aa |-
 split at aa
 ·rename_i z kv hz tY
  have hk:=pM hk tY
  cases yq:bp P e with
  |none=>simp[yq]at hz
  |some zv=>
  simp only[yq,Option.bind_some]at hz
  have gS:aU m z zv:=pM (vN (φ:=φ) (obj:=σ.obj) (m:=m) zv) hz
  try simp only[yq,Option.bind_some,hz,tY]
  split at aa
  ·obtain⟨h1,h2⟩:=aa
   obtain⟨kt,hu,nj⟩:=DK hT
   cases hx
   refine⟨if co then .tuple #[zv,.bool false]else zv,?_,?_,rfl⟩
   ·have j':=D8 nj hk h2 true w
    have qy:(Instr.findKey kt uk []).run P w=.ok none w:=by
     rcases Hu nj hk h2 z w [] [] rfl (fun _ h=>by cases h) (fun _ h=>by cases h)with⟨_,h,_⟩ | ⟨_,h,_⟩
     ·exact h
     ·cases h
    simp[Instr.lookup,run_underlying hu,j',qy,xI yq]
    try (split<;>rfl)
   ·cases co with
    |true=>exact Ed gS
    |false=>exact .v _ _ gS
  ·rename_i nm
   split at aa
   ·rename_i lh es aD
    obtain⟨h1,h2,h3⟩:=aa
    subst h3
    obtain⟨kt,hu,nj⟩:=DK hT
    simp only[aD]
    cases hx with
    |map _ hx=>
    obtain⟨g0,g1,sh,ents,clock,g2,g3,g4⟩:=hC.objs nm _ aD
    have j':=D8 nj hk h2 ents.isEmpty w
    have yX:=MapKept.run_getObj_map (P:=P) g2
    rcases Hu nj hk h2 z w es ents.toList (by simp[g3]) sh (fun j a b=>by simpa using g4 j a (by simpa using b))with⟨a1,a2,_⟩ | ⟨j,h,h',a1,a2,a3,_⟩
    ·refine⟨if co then .tuple #[zv,.bool false]else zv,?_,?_,trivial⟩
     ·have qy:=a2
      simp[Instr.lookup,run_underlying hu,yX,j',qy,xI yq]
      try (split<;>rfl)
     ·rw[a1]
      simp only[Option.getD_none,Option.isSome_none]
      cases co with
      |true=>exact Ed gS
      |false=>exact .v _ _ gS
    ·have iy:j<ents.size:=by simpa using h'
     refine⟨if co then .tuple #[ents[j].val,.bool true]else ents[j].val,?_,?_,trivial⟩
     ·have qy:=a2
      simp[Instr.lookup,run_underlying hu,yX,j',qy]
      try (split<;>rfl)
     ·simp only[a1,Option.getD_some,Option.isSome_some]
      have :=(g4 j h iy).2
      cases co with
      |true=>exact Ed this
      |false=>exact .v _ _ this
   ·exact aa.elim
  ·exact aa.elim
 ·exact aa.elim
def kT(P:Program)(obj:Name->Option O)(T:TypeId)(x k d:D):R:=
 match kW P T,x,eX k,eX d with
 |some (kd,_),.map nm,some kv,some y=>match obj nm with
  |some (.map lh es)=>⟨kd<=2/\eT kd kv=true/\lh=kd,.any,upd obj nm (some (.map lh (eG es kv y)))⟩
  |_=>.bad obj
 |_,_,_,_=>.bad obj
theorem JZ{P:Program}{G:Ghost}{φ:Name->Loc}{m:Mem}{σ:S}{a:Act}{w:World}(hC:aV G φ m σ a w){T:TypeId}{x k d:D}{u uk ud:Value}
 (hx:aI φ σ.obj m x u) (hk:aI φ σ.obj m k uk) (kP:aI φ σ.obj m d ud) (aa:(kT P σ.obj T x k d).ok):
 ∃ w',(Instr.mapUpdate T u uk ud).run P w=.ok () w'/\∃ φ' m',aV G φ' m' { σ with obj:=(kT P σ.obj T x k d).obj } a w':=by
 unfold kT at aa |-
 split at aa
 ·rename_i kd e nm kv y hT tY hy
  split at aa
  ·rename_i lh es aD
   obtain⟨h1,h2,h3⟩:=aa
   subst h3
   obtain⟨kt,hu,nj⟩:=DK hT
   simp only[hT,tY,hy,aD]
   cases hx with
   |map _ hx=>
   have hk:=pM hk tY
   have Bs:=pM kP hy
   obtain⟨g0,g1,sh,ents,clock,g2,g3,g4⟩:=hC.objs nm _ aD
   have lD:(φ nm).blk<w.heap.size:=(Array.getElem?_eq_some_iff.1 g2).1
   have j':=D8 nj hk h2 false w
   have yX:=MapKept.run_getObj_map (P:=P) g2
   have bB:=Ext.same (φ:=φ) (o':=.map lh (eG es kv y)) aD rfl rfl
   have fin:∀ sk CI,sk.size=(eG es kv y).length->(∀ j (h:j<(eG es kv y).length) (h':j<sk.size),aU m (eG es kv y)[j].1 sk[j].key/\aU m (eG es kv y)[j].2 sk[j].val)->
       (∀ q∈eG es kv y,eT lh q.1=true)->
       aV G φ m { σ with obj:=upd σ.obj nm (some (.map lh (eG es kv y))) } a (bZ w (φ nm).blk (.map sk CI)):=by
    intro sk CI e1 e2 e3
    have :=hC.chg (w':=bZ w (φ nm).blk (.map sk CI)) nm (.map lh (eG es kv y)) (φ nm) bB ⟨rfl,rfl,rfl,by simp[bZ]⟩
     (fun b hb hn=>nW (by rcases hn with h | h; · rw[g1]at h;cases h
                          ·exact h))
     (fun _=>.inr ⟨⟨_,aD,rfl,g1⟩,rfl⟩) ⟨g0,g1,e3,sk,CI,mK lD,e1,e2⟩
    rwa [hM]at this
   rcases Hu nj hk h2 y w es ents.toList (by simp[g3]) sh (fun j a b=>by simpa using g4 j a (by simpa using b))with⟨a1,a2,a3⟩ | ⟨j,h,h',a1,a2,a3,a4⟩
   ·have qy:=a2
    refine⟨bZ w (φ nm).blk (.map (ents.push { key:=uk,val:=ud,born:=clock }) (clock+1)),?_,φ,m,?_⟩
    ·simp[Instr.mapUpdate,run_underlying hu,yX,j',qy,MapKept.run_setObj_map _ g2]
     rfl
    ·rw[a3]at fin |-
     refine fin _ _ (by simp[g3]) (fun j h h'=>?_) (fun q hq=>?_)
     ·by_cases hj:j<es.length
      ·rw[List.getElem_append_left hj,Array.getElem_push_lt (by omega)]
       exact g4 j hj (by omega)
      ·have hje:j=es.length:=by simp at h;omega
       subst hje
       simp only[List.getElem_append_right (Nat.le_refl _),Nat.sub_self,List.getElem_cons_zero]
       have :(ents.push { key:=uk,val:=ud,born:=clock })[es.length]={ key:=uk,val:=ud,born:=clock }:=by
        simp[<-g3]
       rw[this]
       exact⟨hk,Bs⟩
     ·rcases List.mem_append.1 hq with hq | hq
      ·exact sh q hq
      ·simp only[List.mem_singleton]at hq;subst hq;exact h2
   ·have qy:=a2
    have iy:j<ents.size:=by simpa using h'
    have a3':ents[j].key=uk:=by simpa using a3
    refine⟨bZ w (φ nm).blk (.map (ents.modify j fun e=>{ e with key:=uk,val:=ud }) clock),?_,φ,m,?_⟩
    ·simp[Instr.mapUpdate,run_underlying hu,yX,j',qy,Array.getElem?_eq_getElem iy,a3',VP (P:=P) (Y2 nj) hk h2 w,MapKept.run_setObj_map _ g2]
     rfl
    ·rw[a4]at fin |-
     refine fin _ _ (by simp[g3]) (fun q hq bI=>?_) (fun q hq=>?_)
     ·simp only[List.getElem_set,Array.getElem_modify]
      by_cases hj:j=q
      ·subst hj;simp only[if_true];exact⟨hk,Bs⟩
      ·simp only[hj,if_false];exact g4 q (by simpa using hq) (by simpa using bI)
     ·rcases List.mem_or_eq_of_mem_set hq with hq | hq
      ·exact sh q hq
      ·subst hq;exact h2
  ·exact aa.elim
 ·exact aa.elim
def rB(P:Program)(T:TypeId)(l:List V)(off:Nat):Option V:=
 match bf P T with
 |some (true,n)=>if off+n<=l.length then some (.agg ((l.drop off).take n))else none
 |some (false,_)=>l[off]?
 |none=>none
def pE(P:Program)(g:TypeId->V->V->Option Bool):List Field->List V->List V->Option Bool
 |[],_,_=>some true
 |f::r,xs,ys=>if f.name= "_" then pE P g r xs ys else
  match rB P f.type xs f.offset,rB P f.type ys f.offset with
  |some a,some b=>match g f.type a b with
   |some true=>pE P g r xs ys
   |some false=>some false
   |none=>none
  |_,_=>none
def jD(P:Program):Nat->TypeId->V->V->Option Bool
 | 0,_,_,_=>none
 |d+1,T,x,y=>match P.underlying T with
  |some .bool=>match x,y with | .bool a,.bool b=>some (a==b) | _,_=>none
  |some (.int _)=>match x,y with | .int k a,.int k' b=>if k=k' then some (a==b)else none | _,_=>none
  |some .string=>match x,y with | .str a,.str b=>some (a==b) | _,_=>none
  |some (.struct fs)=>match x,y with | .agg xs,.agg ys=>if P.stoodInHeld T=true then none else pE P (jD P d) fs.toList xs ys | _,_=>none
  |_=>none
theorem Kf{P:Program}{m:Mem}{T:TypeId}{xs:List V}{us:Array Value}{off:Nat}{a:V}(h:rB P T xs off=some a)(hl:xs.length=us.size)(ho:∀ x∈xs,x.one=true)
 (hr:∀ i (h:i<xs.length) (h':i<us.size),aU m xs[i] us[i]) (w:World):∃ u,(part T us off).run P w=.ok u w/\aU m a u:=by
 unfold rB at h
 split at h
 ·rename_i n hT
  split at h
  ·rename_i hle
   cases h
   refine⟨_,rp hT us off (fun h=>by cases h) w,?_⟩
   simp only[if_true]
   refine .agg _ _ (by simp;omega) (fun x hx=>ho x (List.mem_of_mem_drop (List.mem_of_mem_take hx))) fun i h1 h2=>?_
   simp only[List.length_take,List.length_drop]at h1
   simp only[List.getElem_take,List.getElem_drop,Array.getElem_extract]
   exact hr (off+i) (by omega) (by omega)
  ·cases h
 ·rename_i n hT
  obtain⟨ae,rfl⟩:=List.getElem?_eq_some_iff.1 h
  refine⟨_,rp hT us off (fun _=>by omega) w,?_⟩
  have aw:off<us.size:=by omega
  simp only[Bool.false_eq_true,if_false]
  have :us.getD off undef=us[off]:=by simp[Array.getD,aw]
  rw[this]
  exact hr off ae aw
 ·cases h
theorem QI{P:Program}{m:Mem}(w:World):∀ (d:Nat) (T:TypeId) (x y:V) (u v:Value) (b:Bool),jD P d T x y=some b->aU m x u->aU m y v->(Op.equalIn d T u v).run P w=.ok b w
 | 0,T,x,y,u,v,b,h,_,_=>by simp[jD]at h
 |d+1,T,x,y,u,v,b,h,hx,hy=>by
  have ih:=QI (P:=P) (m:=m) w d
  have fields:∀ (fs:List Field) (xs ys:List V) (us vs:Array Value) (b:Bool),pE P (jD P d) fs xs ys=some b->aU m (.agg xs) (.agg us)->aU m (.agg ys) (.agg vs)->
      (forIn (m:=Sem) fs ((none,()):Option Bool×Unit) (fun f _=>do
        if f.name≠ "_" then
          if !(<-Op.equalIn d f.type (<-part f.type us f.offset) (<-part f.type vs f.offset))then pure (ForInStep.done (some false,()))
          else pure (ForInStep.yield (none,()))
        else pure (ForInStep.yield (none,())))).run P w=.ok (if b then(none,())else(some false,())) w:=by
   intro fs
   induction fs with
   |nil=>
    intro xs ys us vs b h _ _
    simp only[pE,Option.some.injEq]at h
    subst h
    rfl
   |cons f r Oq=>
    intro xs ys us vs b h hx hy
    simp only[pE]at h
    rw[List.forIn_cons]
    by_cases hn:f.name= "_"
    ·rw[if_pos hn]at h
     simp only[hn,ne_eq,not_true_eq_false,if_false,Sem.run_bind,Sem.run_pure,Result.andThen_ok]
     exact Oq xs ys us vs b h hx hy
    ·rw[if_neg hn]at h
     simp only[hn,ne_eq,not_false_eq_true,if_true]
     split at h
     ·rename_i a1 b1 ha hb
      cases hx with
      |agg _ _ sa wx dS=>
      cases hy with
      |agg _ _ gE mj eH=>
      obtain⟨u1,j6,fX⟩:=Kf ha sa wx dS w
      obtain⟨v1,OC,tw⟩:=Kf hb gE mj eH w
      split at h
      ·rename_i he
       have :=ih f.type a1 b1 u1 v1 true he fX tw
       simp only[Sem.run_bind,j6,Result.andThen_ok,OC,this,Bool.not_true,Bool.false_eq_true,if_false,Sem.run_pure,Sem.run_ite]
       exact Oq xs ys us vs b h (.agg _ _ sa wx dS) (.agg _ _ gE mj eH)
      ·rename_i he
       cases h
       have :=ih f.type a1 b1 u1 v1 false he fX tw
       simp only[Sem.run_bind,j6,Result.andThen_ok,OC,this,Bool.not_false,if_true,Sem.run_pure,Sem.run_ite]
       rfl
      ·cases h
     ·cases h
  simp only[jD]at h
  split at h
  ·rename_i hT
   split at h
   ·cases hx;cases hy
    cases h
    simp[Op.equalIn,run_underlying hT w]
   ·cases h
  ·rename_i k hT
   split at h
   ·cases hx;cases hy
    split at h
    ·rename_i hk
     cases h
     simp[Op.equalIn,run_underlying hT w,hk]
    ·cases h
   ·cases h
  ·rename_i hT
   split at h
   ·cases hx;cases hy
    cases h
    simp[Op.equalIn,run_underlying hT w]
   ·cases h
  ·rename_i fs hT
   split at h
   ·rename_i xs ys
    split at h
    ·cases h
    ·rename_i hs
     cases hx with
     |agg _ us sa wx dS=>
     cases hy with
     |agg _ vs gE mj eH=>
     have hf:=fields fs.toList xs ys us vs b h (.agg _ _ sa wx dS) (.agg _ _ gE mj eH)
     have hp:(Sem.run P program w)=.ok P w:=rfl
     unfold Op.equalIn
     simp only[Sem.run_bind,run_underlying hT w,Result.andThen_ok,hp,hs,Bool.false_eq_true,if_false,Sem.run_ite]
     rw[<-Array.forIn_toList]
     rw[hf]
     cases b<;>rfl
   ·cases h
  ·cases h
def ko(P:Program)(obj:Name->Option O)(op:BinOp)(T:TypeId)(x y:V):R:=
 match jD P Op.maxDepth T x y with
 |some b=>⟨P.eqGuardType P.depth T=false/\(op=.eql\/op=.neq),.v (.bool (if op=.eql then b else !b)),obj⟩
 |none=>.bad obj
def qU(P:Program)(obj:Name->Option O)(op:BinOp)(T:TypeId)(x:D):R:=
 match x with
 | .v (.sl (_::_))=>⟨dM P T=some 0/\(op=.eql\/op=.neq),.v (.bool (if op=.eql then false else true)),obj⟩
 | .msl nm (k+1)=>⟨(obj nm).bind O.len?=some (k+1)/\dM P T=some 0/\(op=.eql\/op=.neq),.v (.bool (if op=.eql then false else true)),obj⟩
 |_=>.bad obj
def Bj:Operand->Bool
 | .const (.slice none _ _)=>true
 |_=>false
def nQ(P:Program)(obj:Name->Option O)(op:BinOp)(T:TypeId)(x y:D)(l4:Bool):R:=
 match l4 with
 |true=>qU P obj op T x
 |false=>match eX x,eX y with
  |some (.agg a),some (.agg b)=>ko P obj op T (.agg a) (.agg b)
  |_,_=>o5 P obj op T x y
theorem VR{P:Program}{T e:TypeId}(hu:P.underlying T=some (.slice e))(d:Nat)(p:Addr)(k c' n c:Nat)(w:World):(Op.equalIn (d+1) T (.slice (some p) k c') (.slice none n c)).run P w=.ok false w:=by
 simp[Op.equalIn,run_underlying hu w]
theorem Up{P:Program}{G:Ghost}{φ:Name->Loc}{m:Mem}{σ:S}{a:Act}{w:World}(hC:aV G φ m σ a w){T:TypeId}{op:BinOp}{x:D}{u:Value}{cx cy:Operand}{n c:Nat}(hx:aI φ σ.obj m x u)
 (aa:(qU P σ.obj op T x).ok):
 ∃ r,(do eqGuard op T cx cy u (.slice none n c);binOp op T u (.slice none n c):Sem Value).run P w=.ok r w/\aI φ σ.obj m (qU P σ.obj op T x).d r/\(qU P σ.obj op T x).obj=σ.obj:=by
 have key:∀ (p:Addr) (k c':Nat),u=.slice (some p) k c'->dM P T=some 0->(op=.eql\/op=.neq)->
     (do eqGuard op T cx cy u (.slice none n c);binOp op T u (.slice none n c):Sem Value).run P w=.ok (.bool (if op=.eql then false else true)) w:=by
  rintro p k c' rfl hT ho
  obtain⟨e,hu⟩:=TT hT
  have he:(Op.equal T (.slice (some p) k c') (.slice none n c)).run P w=.ok false w:=by
   exact VR hu 9999 p k c' n c w
  rcases ho with rfl | rfl
  ·have h1:binOp .eql T (.slice (some p) k c') (.slice none n c)=(do pure (.bool (<-Op.equal T (.slice (some p) k c') (.slice none n c)))):=rfl
   rw[h1]
   simp[eqGuard,he]
  ·have h1:binOp .neq T (.slice (some p) k c') (.slice none n c)=(do pure (.bool (!(<-Op.equal T (.slice (some p) k c') (.slice none n c))))):=rfl
   rw[h1]
   simp[eqGuard,he]
 unfold qU at aa |-
 split at aa
 ·rename_i y r
  cases hx with
  |v _ _ hx=>
  cases hx with
  |sl _ b o cap sz c' hn hl ka hs hc hr ho=>exact⟨_,key _ _ _ rfl aa.1 aa.2,.v _ _ (.bool _),rfl⟩
 ·rename_i nm k
  obtain⟨h1,h2,h3⟩:=aa
  cases hx with
  |msl _ _ _ hq hu=>
  obtain⟨o,n',ho,hlen,hk,hv⟩:=hq
  simp only[ho,Option.bind_some]at h1
  rw[hlen]at h1
  cases h1
  have hv:=hv rfl
  obtain⟨b,c',h4,_⟩:=DS (P:=P) hC ho hlen
  have dD:(φ nm).nul=false:=by
   have :=hC.objs nm o ho
   cases o with
   |arr sz l=>
    simp only[O.len?,Option.some.injEq]at hlen
    rcases this with⟨_,h⟩ | ⟨h,_⟩
    ·subst h;simp at hlen
    ·exact h
   |farr sz l=>
    simp only[O.len?,Option.some.injEq]at hlen
    rcases this with⟨_,h⟩ | ⟨h,_⟩
    ·subst h;simp at hlen
    ·exact h
   |dead sz q=>
    simp only[O.len?,Option.some.injEq]at hlen
    rcases this with⟨_,h⟩ | ⟨h,_⟩
    ·omega
    ·exact h
   |_=>cases hlen
  have hs:(φ nm).slice (k+1)=.slice (some ⟨(φ nm).blk,(φ nm).off,none⟩) (k+1) (φ nm).cap:=by unfold Loc.slice;rw[dD];rfl
  exact⟨_,key _ _ _ (hv.trans hs) h2 h3,.v _ _ (.bool _),rfl⟩
 ·exact aa.elim
theorem UA{P:Program}{φ:Name->Loc}{obj:Name->Option O}{m:Mem}{T:TypeId}{op:BinOp}{x y:List V}{u v:Value}{cx cy:Operand}(w:World)(hx:aU m (.agg x) u)(hy:aU m (.agg y) v)
 (aa:(ko P obj op T (.agg x) (.agg y)).ok):
 ∃ r,(do eqGuard op T cx cy u v;binOp op T u v:Sem Value).run P w=.ok r w/\aI φ obj m (ko P obj op T (.agg x) (.agg y)).d r/\(ko P obj op T (.agg x) (.agg y)).obj=obj:=by
 unfold ko at aa |-
 split at aa
 ·rename_i b hb
  obtain⟨h1,h2⟩:=aa
  have he:(Op.equal T u v).run P w=.ok b w:=QI w _ T _ _ u v b hb hx hy
  have hp:(Sem.run P program w)=.ok P w:=rfl
  cases hx with
  |agg _ us _ _ _=>
  cases hy with
  |agg _ vs _ _ _=>
  refine⟨.bool (if op=.eql then b else !b),?_,?_,?_⟩
  ·rcases h2 with rfl | rfl
   ·have h3:binOp .eql T (.agg us) (.agg vs)=(do pure (.bool (<-Op.equal T (.agg us) (.agg vs)))):=rfl
    rw[h3]
    simp[eqGuard,he,hp,h1]
   ·have h3:binOp .neq T (.agg us) (.agg vs)=(do pure (.bool (!(<-Op.equal T (.agg us) (.agg vs))))):=rfl
    rw[h3]
    simp[eqGuard,he,hp,h1]
  ·first | exact .v _ _ (.bool _) | (rw[hb];exact .v _ _ (.bool _))
  ·first | rfl | (rw[hb])
 ·exact aa.elim
theorem UF{P:Program}{G:Ghost}{φ:Name->Loc}{m:Mem}{σ:S}{a:Act}{w:World}(hC:aV G φ m σ a w){T:TypeId}{op:BinOp}{x y:D}{u v:Value}{cx cy:Operand}{l4:Bool}
 (hx:aI φ σ.obj m x u) (hy:aI φ σ.obj m y v) (hn:l4=true->∃ n c,v=.slice none n c) (aa:(nQ P σ.obj op T x y l4).ok):
 ∃ r,(do eqGuard op T cx cy u v;binOp op T u v:Sem Value).run P w=.ok r w/\aI φ σ.obj m (nQ P σ.obj op T x y l4).d r/\(nQ P σ.obj op T x y l4).obj=σ.obj:=by
 unfold nQ at aa |-
 cases l4 with
 |true=>
  obtain⟨n,c,rfl⟩:=hn rfl
  exact Up hC hx aa
 |false=>
  simp only at aa |-
  split at aa
  ·rename_i l1 l2 h1 h2
   exact UA w (pM hx h1) (pM hy h2) aa
  ·exact UG w hx hy aa
def a7:D->List Name
 | .ref nm _=>[nm]
 | .msl nm _=>[nm]
 | .aref nm _ _ _=>[nm]
 | .map nm=>[nm]
 |_=>[]
def fg(f:D->List Name):List D->List Name
 |[]=>[]
 |d::r=>f d++fg f r
def fp:Nat->(Name->Option O)->D->List Name
 | 0,_,_=>[]
 |n+1,obj,d=>match d with
  | .msl nm _=>[nm]
  | .ref nm _=>nm::(match obj nm with
    |some (.box cs)=>fg (fp n obj) cs
    |_=>[])
  | .agg l=>fg (fp n obj) l
  | .tup l=>fg (fp n obj) l
  | .clo _ f c=>fg (fp n obj) f++fg (fp n obj) c
  |_=>[]
def bX(ns:List Name)(o o2:Name->Option O):Prop:=∀ nm∈ns,o2 nm=o nm
structure b8 (r r2:R) (obj obj2:Name->Option O) (wr:List Name):Prop where
 ok:r2.ok=r.ok
 d:r2.d=r.d
 eff:∀ nm,r2.obj nm=if nm∈wr then r.obj nm else obj2 nm
 frame:∀ nm,nm∉wr->r.obj nm=obj nm
theorem b8.same{r r2:R}{obj obj2:Name->Option O}(h1:r2.ok=r.ok)(h2:r2.d=r.d)(h3:r.obj=obj)(h4:r2.obj=obj2):b8 r r2 obj obj2 []:=
 ⟨h1,h2,fun nm=>by rw[h4];simp,fun nm _=>by rw[h3]⟩
theorem b8.one{ok:Prop}{d:D}{obj obj2:Name->Option O}{nm:Name}{o:Option O}{wr:List Name}(h:nm∈wr)(ha:bX wr obj obj2):b8 ⟨ok,d,upd obj nm o⟩ ⟨ok,d,upd obj2 nm o⟩ obj obj2 wr:=by
 refine⟨rfl,rfl,fun x=>?_,fun x hx=>?_⟩
 ·show upd obj2 nm o x=if x∈wr then upd obj nm o x else obj2 x
  by_cases hx:x=nm
  ·subst hx;rw[aX,aX,if_pos h]
  ·rw[bm _ _ _ hx,bm _ _ _ hx]
   split
   ·exact ha x (by assumption)
   ·rfl
 ·show upd obj nm o x=obj x
  rw[bm];rintro rfl;exact hx h
theorem b8.none{ok:Prop}{d:D}{obj obj2:Name->Option O}(wr:List Name)(ha:bX wr obj obj2):b8 ⟨ok,d,obj⟩ ⟨ok,d,obj2⟩ obj obj2 wr:=by
 refine⟨rfl,rfl,fun x=>?_,fun x _=>rfl⟩
 show obj2 x=if x∈wr then obj x else obj2 x
 split
 ·exact ha x (by assumption)
 ·rfl
section
variable {P:Program} {obj obj2:Name->Option O}
theorem X6{T:TypeId}{x:D}(h:bX (a7 x) obj obj2):b8 (km P obj T x) (km P obj2 T x) obj obj2 []:=by
 cases x with
 |ref nm off=>
  have h':obj2 nm=obj nm:=h nm (by simp[a7])
  rcases hT:bf P T with _ | ⟨_ | _,_ | _ | n⟩<;>rcases ho:obj nm with _ | o<;>(try cases o)<;>simp only[km,h',ho,hT,Option.bind_none,Option.bind_some]<;>first
   |exact .same rfl rfl rfl rfl
   |((repeat' split)<;>exact .same rfl rfl rfl rfl)
 |aref nm k i off=>
  have h':obj2 nm=obj nm:=h nm (by simp[a7])
  rcases hT:bf P T with _ | ⟨_ | _,_ | _ | n⟩<;>rcases ho:obj nm with _ | o<;>(try cases o)<;>simp only[km,h',ho,hT,Option.bind_none,Option.bind_some]<;>first
   |exact .same rfl rfl rfl rfl
   |((repeat' split)<;>exact .same rfl rfl rfl rfl)
 |_=>unfold km;(repeat' split)<;>first | exact .same rfl rfl rfl rfl | (exfalso;simp_all;done)
theorem Ya{T:TypeId}{f:Nat}{x:D}(h:bX (a7 x) obj obj2):b8 (mH P obj T f x) (mH P obj2 T f x) obj obj2 []:=by
 cases x with
 |aref nm k i off=>
  have h':obj2 nm=obj nm:=h nm (by simp[a7])
  rcases hT:b9 P T f with _ | ⟨_,_,_⟩<;>rcases ho:obj nm with _ | o<;>(try cases o)<;>simp only[mH,h',ho,hT,Option.bind_none,Option.bind_some]<;>first
   |exact .same rfl rfl rfl rfl
   |((repeat' split)<;>exact .same rfl rfl rfl rfl)
 |_=>unfold mH;(repeat' split)<;>first | exact .same rfl rfl rfl rfl | (exfalso;simp_all;done)
theorem X2{x:D}(h:bX (a7 x) obj obj2):b8 (lP obj x) (lP obj2 x) obj obj2 []:=by
 cases x with
 |aref nm k i off=>
  have h':obj2 nm=obj nm:=h nm (by simp[a7])
  rcases ho:obj nm with _ | o<;>(try cases o)<;>simp only[lP,h',ho,Option.bind_none,Option.bind_some]<;>first
   |exact .same rfl rfl rfl rfl
   |((repeat' split)<;>exact .same rfl rfl rfl rfl)
 |_=>unfold lP;(repeat' split)<;>first | exact .same rfl rfl rfl rfl | (exfalso;simp_all;done)
theorem X7{T:TypeId}{x:D}(h:bX (a7 x) obj obj2):b8 (lQ P obj T x) (lQ P obj2 T x) obj obj2 []:=by
 cases x with
 |msl nm k=>
  have h':obj2 nm=obj nm:=h nm (by simp[a7])
  rcases hT:dM P T with _ | _ | _ | _ | n<;>rcases ho:obj nm with _ | o<;>(try cases o)<;>simp only[lQ,h',ho,hT,Option.bind_none,Option.bind_some]<;>first
   |exact .same rfl rfl rfl rfl
   |((repeat' split)<;>exact .same rfl rfl rfl rfl)
 |map nm=>
  have h':obj2 nm=obj nm:=h nm (by simp[a7])
  rcases hT:dM P T with _ | _ | _ | _ | n<;>rcases ho:obj nm with _ | o<;>(try cases o)<;>simp only[lQ,h',ho,hT,Option.bind_none,Option.bind_some]<;>first
   |exact .same rfl rfl rfl rfl
   |((repeat' split)<;>exact .same rfl rfl rfl rfl)
 |_=>unfold lQ;(repeat' split)<;>first | exact .same rfl rfl rfl rfl | (exfalso;simp_all;done)
theorem X9{T:TypeId}{x i:D}(h:bX (a7 x) obj obj2):b8 (mG P obj T x i) (mG P obj2 T x i) obj obj2 []:=by
 cases x with
 |msl nm k=>
  have h':obj2 nm=obj nm:=h nm (by simp[a7])
  cases i<;>(try (rename_i y;cases y))<;>rcases hT:cC P T with _ | ⟨_,_,_⟩<;>rcases ho:obj nm with _ | o<;>(try cases o)<;>simp only[mG,h',ho,hT,Option.bind_none,Option.bind_some]<;>first
   |exact .same rfl rfl rfl rfl
   |((repeat' split)<;>exact .same rfl rfl rfl rfl)
 |_=>unfold mG;(repeat' split)<;>first | exact .same rfl rfl rfl rfl | (exfalso;simp_all;done)
theorem X5{T:TypeId}{x k:D}{co:Bool}(h:bX (a7 x) obj obj2):b8 (nI P obj T x k co) (nI P obj2 T x k co) obj obj2 []:=by
 unfold nI
 split
 ·split
  ·cases x with
   |map nm=>
    have h':obj2 nm=obj nm:=h nm (by simp[a7])
    simp only[h']
    rcases ho:obj nm with _ | o<;>(try cases o)<;>exact .same rfl rfl rfl rfl
   |_=>exact .same rfl rfl rfl rfl
  ·exact .same rfl rfl rfl rfl
 ·exact .same rfl rfl rfl rfl
theorem X0{T:TypeId}{x:D}{lo hi mx:Option D}(h:bX (a7 x) obj obj2):b8 (kS P obj T x lo hi mx) (kS P obj2 T x lo hi mx) obj obj2 (a7 x):=by
 cases x with
 |msl nm k=>
  have h':obj2 nm=obj nm:=h nm (by simp[a7])
  rcases mx with _ | y
  ·unfold kS
   simp only[h']
   rcases obj nm with _ | o<;>(try cases o)<;>rcases cC P T with _ | ⟨_,_,_⟩<;>rcases ie lo with _ | _<;>rcases lB k hi with _ | _<;>first
    |exact .none _ h
    |exact .one (by simp[a7]) h
  ·cases y with
   |v z=>
    cases z with
    |int kk n=>
     rcases n with n | n
     ·rcases n with _ | n
      ·simp only[kS,Int.ofNat_eq_natCast,Int.cast_ofNat_Int,h']
       rcases hT:cC P T with _ | ⟨_,_,_⟩<;>(repeat' split)<;>first
        |exact .none _ h
        |(exfalso;simp_all;done)
      ·exact .none _ h
     ·exact .none _ h
    |_=>exact .none _ h
   |_=>exact .none _ h
 |_=>unfold kS;(repeat' split)<;>first | exact .none _ h | (exfalso;simp_all;done)
theorem XZ{T:TypeId}{x d:D}(h:bX (a7 x) obj obj2):b8 (lO P obj T x d) (lO P obj2 T x d) obj obj2 (a7 x):=by
 cases x with
 |ref nm off=>
  have h':obj2 nm=obj nm:=h nm (by simp[a7])
  unfold lO
  rcases bf P T with _ | ⟨b,n⟩
  ·exact .none _ h
  simp only[h']
  rcases obj nm with _ | o<;>(try cases o)<;>first
   |exact .none _ h
   |exact .one (by simp[a7]) h
 |aref nm k i off=>
  have h':obj2 nm=obj nm:=h nm (by simp[a7])
  unfold lO
  rcases bf P T with _ | ⟨b,n⟩
  ·exact .none _ h
  simp only[h']
  rcases obj nm with _ | o<;>(try cases o)<;>rcases eX d with _ | y<;>first
   |exact .none _ h
   |exact .one (by simp[a7]) h
 |_=>unfold lO;(repeat' split)<;>first | exact .none _ h | (exfalso;simp_all;done)
theorem Me{T:TypeId}{x k d:D}(h:bX (a7 x) obj obj2):b8 (kT P obj T x k d) (kT P obj2 T x k d) obj obj2 (a7 x):=by
 cases x with
 |map nm=>
  have h':obj2 nm=obj nm:=h nm (by simp[a7])
  unfold kT
  rcases kW P T with _ | ⟨kd,e⟩
  ·exact .none _ h
  rcases eX k with _ | kv<;>rcases eX d with _ | y<;>first
   |exact .none _ h
   |(simp only[h']
     rcases obj nm with _ | o<;>(try cases o)<;>first
      |exact .none _ h
      |exact .one (by simp[a7]) h)
 |_=>unfold kT;(repeat' split)<;>first | exact .none _ h | (exfalso;simp_all;done)
theorem Mg{t:Name}{x:D}(h:bX [bj t] obj obj2):b8 (nP obj t x) (nP obj2 t x) obj obj2 [bj t]:=by
 have h1:=h (bj t) (by simp)
 unfold nP
 simp only[h1]
 exact .one (by simp) h
theorem Yk{t:Name}{T:TypeId}(h:bX [bj t] obj obj2):b8 (o6 P obj t T) (o6 P obj2 t T) obj obj2 [bj t]:=by
 unfold o6
 split
 ·exact Mg h
 ·exact .none _ h
theorem X4{t:Name}{T:TypeId}{r:Option D}(h:bX [bj t] obj obj2):b8 (o4 P obj t T r) (o4 P obj2 t T r) obj obj2 [bj t]:=by
 have h1:=h (bj t) (by simp)
 unfold o4
 rcases kW P T with _ | ⟨kd,e⟩
 ·exact .none _ h
 cases r
 ·simp only[h1]
  exact .one (by simp) h
 ·exact .none _ h
theorem X3{t:Name}{T:TypeId}{l c:D}(h:bX [bj t] obj obj2):b8 (o3 P obj t T l c) (o3 P obj2 t T l c) obj obj2 [bj t]:=by
 have h1:=h (bj t) (by simp)
 unfold o3
 split
 ·split
  ·simp only[h1]
   exact .one (by simp) h
  ·exact .none _ h
 ·exact .none _ h
theorem JH{x:D}(h:bX (a7 x) obj obj2):aO obj2 x=aO obj x:=by
 cases x with
 |msl nm k=>
  have h':obj2 nm=obj nm:=h nm (by simp[a7])
  unfold aO
  simp only[h']
 |v y=>cases y<;>rfl
 |_=>rfl
theorem Bb{t:Name}{T1 T2:TypeId}{s x:D}(h:bX (a7 s++a7 x++[bj t]) obj obj2):
 b8 (dm P obj t T1 T2 s x) (dm P obj2 t T1 T2 s x) obj obj2 (a7 s++a7 x++[bj t]):=by
 have h1:=h (bj t) (by simp)
 have h2:aO obj2 x=aO obj x:=JH fun nm hn=>h nm (by simp[hn])
 unfold dm
 rcases cC P T1 with _ | ⟨e,sz,b⟩
 ·exact .none _ h
 rcases cC P T2 with _ | _
 ·exact .none _ h
 simp only[h1,h2]
 rcases bp P e with _ | z
 ·exact .none _ h
 cases s with
 |nilsl=>exact .one (by simp) h
 |msl nm k=>
  have h':obj2 nm=obj nm:=h nm (by simp[a7])
  simp only[h']
  rcases obj nm with _ | o<;>(try cases o)<;>first
   |exact .none _ h
   |exact .one (by simp[a7]) h
 |_=>exact .none _ h
end
def Fz(obj obj':Name->Option O):Prop:=∀ nm,obj' nm=obj nm\/∃ o o',obj nm=some o/\o.mut=true/\obj' nm=some o'/\o'.mut=false
theorem Fz.refl(obj:Name->Option O):Fz obj obj:=fun _=>.inl rfl
theorem Fz.trans{a b c:Name->Option O}(h:Fz a b)(k:Fz b c):Fz a c:=by
 intro nm
 rcases k nm with e | ⟨o,o',h1,h2,h3,h4⟩
 ·rw[e];exact h nm
 ·rcases h nm with e | ⟨q,q',g1,g2,g3,g4⟩
  ·exact .inr ⟨o,o',e▸h1,h2,h3,h4⟩
  ·rw[h1]at g3;cases g3;rw[h2]at g4;cases g4
theorem Fz.one{obj obj':Name->Option O}{nm:Name}{o o':O}(h:Fz obj obj')(h1:obj nm=some o)(h2:o.mut=true)(h3:o'.mut=false):Fz obj (upd obj' nm (some o')):=by
 intro x
 by_cases hx:x=nm
 ·subst hx;exact .inr ⟨o,o',h1,h2,aX _ _ _,h3⟩
 ·rw[bm _ _ _ hx];exact h x
theorem zo{f:(Name->Option O)->D->FR}(hf:∀ obj d,Fz obj (f obj d).obj):∀ (l:List D) (obj:Name->Option O),Fz obj (bD f obj l).obj
 |[],obj=>.refl obj
 |d::r,obj=>(hf obj d).trans (zo hf r _)
theorem zm:∀ (n:Nat) (obj:Name->Option O) (d:D),Fz obj (aQ n obj d).obj
 | 0,obj,d=>by cases d<;>exact .refl obj
 |n+1,obj,d=>by
  have ih:∀ (l:List D) (obj:Name->Option O),Fz obj (bD (aQ n) obj l).obj:=zo (zm n)
  cases d with
  |msl nm k=>
   unfold aQ
   simp only
   rcases ho:obj nm with _ | o
   ·exact .refl obj
   ·cases o<;>first
      |exact .refl obj
      |exact Fz.one (.refl obj) ho rfl rfl
  |ref nm off=>
   unfold aQ
   simp only
   rcases ho:obj nm with _ | o
   ·exact .refl obj
   ·cases o<;>first
      |exact .refl obj
      |exact Fz.one (ih _ obj) ho rfl rfl
  |agg l=>exact ih l obj
  |tup l=>exact ih l obj
  |clo fn f c=>exact(ih f obj).trans (ih c _)
  |_=>exact .refl obj
theorem Cm{f g:D->List Name}(h:∀ d,∀ nm∈f d,nm∈g d):∀ (l:List D),∀ nm∈fg f l,nm∈fg g l
 |[],nm,hn=>hn
 |d::r,nm,hn=>by
  rcases List.mem_append.1 hn with hn | hn
  ·exact List.mem_append_left _ (h d nm hn)
  ·exact List.mem_append_right _ (Cm h r nm hn)
theorem Ho{obj obj':Name->Option O}(h:Fz obj obj'):∀ (n:Nat) (d:D),∀ nm∈fp n obj' d,nm∈fp n obj d
 | 0,d,nm,hn=>by cases d<;>exact hn
 |n+1,d,nm,hn=>by
  have ih:∀ (l:List D),∀ nm∈fg (fp n obj') l,nm∈fg (fp n obj) l:=Cm (Ho h n)
  cases d with
  |ref x off=>
   simp only[fp]at hn |-
   rcases List.mem_cons.1 hn with hn | hn
   ·exact hn▸List.mem_cons_self
   ·refine List.mem_cons_of_mem _ ?_
    rcases h x with e | ⟨o,o',h1,h2,h3,h4⟩
    ·rw[e]at hn
     rcases ho:obj x with _ | o
     ·rw[ho]at hn;simp at hn
     ·rw[ho]at hn
      cases o<;>first
       |exact ih _ nm hn
       |(simp at hn;done)
    ·rw[h3]at hn
     cases o'<;>simp[O.mut]at h4<;>simp at hn
  |agg l=>exact ih l nm hn
  |tup l=>exact ih l nm hn
  |clo fn f c=>
   rcases List.mem_append.1 hn with hn | hn
   ·exact List.mem_append_left _ (ih f nm hn)
   ·exact List.mem_append_right _ (ih c nm hn)
  |_=>exact hn
structure mJ (ok ok2:Prop) (o o2 obj obj2:Name->Option O) (W:List Name):Prop where
 ok:ok2=ok
 agr:bX W o o2
 frame:∀ nm,nm∉W->o nm=obj nm
 frame2:∀ nm,nm∉W->o2 nm=obj2 nm
theorem mJ.refl{ok:Prop}{obj obj2:Name->Option O}{W:List Name}(h:bX W obj obj2):mJ ok ok obj obj2 obj obj2 W:=⟨rfl,h,fun _ _=>rfl,fun _ _=>rfl⟩
theorem mJ.upd{ok ok2:Prop}{o o2 obj obj2:Name->Option O}{W:List Name}(h:mJ ok ok2 o o2 obj obj2 W){nm:Name}(hn:nm∈W)(q:Option O)(Lw Lv:Prop)(hk:Lv=Lw):
 mJ Lw Lv (Go.Eng.upd o nm q) (Go.Eng.upd o2 nm q) obj obj2 W:=by
 refine⟨hk,fun x hx=>?_,fun x hx=>?_,fun x hx=>?_⟩
 ·by_cases e:x=nm
  ·subst e;rw[aX,aX]
  ·rw[bm _ _ _ e,bm _ _ _ e];exact h.agr x hx
 ·rw[bm _ _ _ (by rintro rfl;exact hx hn)];exact h.frame x hx
 ·rw[bm _ _ _ (by rintro rfl;exact hx hn)];exact h.frame2 x hx
def Tc(n:Nat):Prop:=∀ (d:D) (obj obj2:Name->Option O) (W:List Name),(∀ nm∈fp n obj d,nm∈W)->bX W obj obj2->
 (aQ n obj2 d).x=(aQ n obj d).x/\mJ (aQ n obj d).ok (aQ n obj2 d).ok (aQ n obj d).obj (aQ n obj2 d).obj obj obj2 W
theorem zn{n:Nat}(hf:Tc n):∀ (l:List D) (obj obj2:Name->Option O) (W:List Name),(∀ nm∈fg (fp n obj) l,nm∈W)->bX W obj obj2->
 (bD (aQ n) obj2 l).xs=(bD (aQ n) obj l).xs/\mJ (bD (aQ n) obj l).ok (bD (aQ n) obj2 l).ok (bD (aQ n) obj l).obj (bD (aQ n) obj2 l).obj obj obj2 W
 |[],obj,obj2,W,_,h=>⟨rfl,.refl h⟩
 |d::r,obj,obj2,W,hw,h=>by
  obtain⟨h1,h2⟩:=hf d obj obj2 W (fun nm hn=>hw nm (List.mem_append_left _ hn)) h
  obtain⟨h3,h4⟩:=zn hf r (aQ n obj d).obj (aQ n obj2 d).obj W (fun nm hn=>hw nm (List.mem_append_right _ (Cm (Ho (zm n obj d) n) r nm hn))) h2.agr
  refine⟨?_,?_⟩
  ·simp only[bD,h1,h3]
  ·refine⟨?_,h4.agr,fun nm hn=>(h4.frame nm hn).trans (h2.frame nm hn),fun nm hn=>(h4.frame2 nm hn).trans (h2.frame2 nm hn)⟩
   simp only[bD,h2.ok,h4.ok]
theorem Ck:∀ n,Tc n
 | 0=>fun d obj obj2 W hw h=>by cases d<;>exact⟨rfl,.refl h⟩
 |n+1=>fun d obj obj2 W hw h=>by
  have ih:=zn (Ck n)
  cases d with
  |msl nm k=>
   have hn:nm∈W:=hw nm (by simp[fp])
   have h':=h nm hn
   unfold aQ
   simp only[h']
   rcases ho:obj nm with _ | o
   ·exact⟨rfl,.refl h⟩
   ·cases o<;>first
      |exact⟨rfl,.refl h⟩
      |exact⟨rfl,(mJ.refl (ok:=True) h).upd hn _ _ _ rfl⟩
  |ref nm off=>
   have hn:nm∈W:=hw nm (by simp[fp])
   have h':=h nm hn
   unfold aQ
   simp only[h']
   rcases ho:obj nm with _ | o
   ·exact⟨rfl,.refl h⟩
   ·cases o<;>first
      |exact⟨rfl,.refl h⟩
      |(obtain⟨h1,h2⟩:=ih _ obj obj2 W (fun x hx=>hw x (by simp only[fp,ho];exact List.mem_cons_of_mem _ hx)) h
        simp only[h1]
        exact⟨trivial,h2.upd hn _ _ _ (by rw[h2.ok,h2.agr nm hn])⟩)
  |agg l=>
   obtain⟨h1,h2⟩:=ih l obj obj2 W hw h
   refine⟨?_,h2⟩
   simp only[aQ,h1]
  |tup l=>
   obtain⟨h1,h2⟩:=ih l obj obj2 W hw h
   refine⟨?_,h2⟩
   simp only[aQ,h1]
  |clo fn f c=>
   obtain⟨h1,h2⟩:=ih f obj obj2 W (fun nm hn=>hw nm (List.mem_append_left _ hn)) h
   obtain⟨h3,h4⟩:=ih c (bD (aQ n) obj f).obj (bD (aQ n) obj2 f).obj W (fun nm hn=>hw nm (List.mem_append_right _ (Cm (Ho (zo (zm n) f obj) n) c nm hn))) h2.agr
   refine⟨?_,?_,h4.agr,fun nm hn=>(h4.frame nm hn).trans (h2.frame nm hn),fun nm hn=>(h4.frame2 nm hn).trans (h2.frame2 nm hn)⟩
   ·simp only[aQ,h1,h3]
   ·simp only[aQ,h2.ok,h4.ok]
  |_=>exact⟨rfl,.refl h⟩
def muts(obj:Name->Option O)(l:List Name):List Name:=l.filter fun nm=>match obj nm with | some o=>o.mut | none=>false
theorem mJ.like{ok ok2:Prop}{d d2:D}{o o2 obj obj2:Name->Option O}{W:List Name}(h:mJ ok ok2 o o2 obj obj2 W)(hd:d2=d)(hz:Fz obj o)(ha:bX W obj obj2):
 b8 ⟨ok,d,o⟩ ⟨ok2,d2,o2⟩ obj obj2 (muts obj W):=by
 have key:∀ nm,nm∉muts obj W->o nm=obj nm:=by
  intro nm hn
  rcases hz nm with e | ⟨q,q',h1,h2,h3,h4⟩
  ·exact e
  ·by_cases hw:nm∈W
   ·exact(hn (List.mem_filter.2 ⟨hw,by simp[h1,h2]⟩)).elim
   ·exact h.frame nm hw
 refine⟨h.ok,hd,fun nm=>?_,key⟩
 show o2 nm=if nm∈muts obj W then o nm else obj2 nm
 split
 ·rename_i hn
  exact h.agr nm (List.mem_filter.1 hn).1
 ·rename_i hn
  by_cases hw:nm∈W
  ·rw[h.agr nm hw,key nm hn];exact(ha nm hw).symm
  ·exact h.frame2 nm hw
def V.flat0:V->Bool
 | .int _ _ | .bool _ | .str _ | .nilp | .nilfn=>true
 |_=>false
def V.flat1:V->Bool
 | .agg l=>l.all V.flat0
 |x=>x.flat0
def V.flat:V->Bool
 | .tup l=>l.all V.flat1
 |x=>x.flat1
theorem aU.flat0{m m':Mem}{x:V}{u:Value}(h:aU m x u)(hf:x.flat0=true):aU m' x u:=by
 cases h<;>simp[V.flat0]at hf
 ·exact .int _ _
 ·exact .bool _
 ·exact .str _ (by assumption)
 ·exact .nilp
 ·exact .nilfn
theorem aU.flat1{m m':Mem}{x:V}{u:Value}(h:aU m x u)(hf:x.flat1=true):aU m' x u:=by
 cases x with
 |agg l=>
  cases h with
  |agg _ us hl ho hr=>
  simp only[V.flat1,List.all_eq_true]at hf
  exact .agg l us hl ho fun i a b=>(hr i a b).flat0 (hf _ (List.getElem_mem a))
 |_=>exact h.flat0 hf
theorem aU.flat{m m':Mem}{x:V}{u:Value}(h:aU m x u)(hf:x.flat=true):aU m' x u:=by
 cases x with
 |tup l=>
  cases h with
  |tup _ us hl hr=>
  simp only[V.flat,List.all_eq_true]at hf
  exact .tup l us hl fun i a b=>(hr i a b).flat1 (hf _ (List.getElem_mem a))
 |_=>exact h.flat1 hf
structure PSpec where
 pre:List V->Prop
 fn:List V->V
 flat:Bool
def u3(m:Mem)(xs:List V)(us:List Value):Prop:=
 xs.length=us.length/\∀ i (h:i<xs.length) (h':i<us.length),aU m xs[i] us[i]
def yid:FuncId:=1000000000
structure aZ (P:Program) (f:FuncId) (s:PSpec):Prop where
 ne:f≠yid
 enter:∀ args w,(callFunc f args).run P w=.ok (.enter f args) w
 flat:s.flat=true->∀ xs,s.pre xs->(s.fn xs).flat=true
 calls:∀ (m:Mem) (w:World) (xs:List V) (args:Array Value),(∀ b off v,m b off=some v->w.cell? ⟨b,off,none⟩=some v)->u3 m xs args.toList->s.pre xs->
  Calls P f args w fun e w'=>∃ v m',e=.returned v/\RowKit.Below w.heap.size w w'/\Mem.le m m'/\
   (∀ b off c,m' b off=some c->m b off=some c\/(w.heap.size<=b/\w'.cell? ⟨b,off,none⟩=some c))/\aU m' (s.fn xs) v
def ax(σ:S):Operand->D
 | .tmp t=>(σ.env t).d
 | .const v=>jV v
 | .func f=>.v (.clo (.func f) [] [])
 | .global _=>.any
def dh(σ:S):Operand->Bool
 | .tmp t=>(σ.env t).c
 |_=>true
structure Spec where
 app:(Name->Option O)->Name->List D->R
 foot:(Name->Option O)->Name->List D->List Name
 wrt:(Name->Option O)->Name->List D->List Name
structure Spec.Near (s:Spec):Prop where
 like:∀ obj obj2 t ds,bX (s.foot obj t ds) obj obj2->b8 (s.app obj t ds) (s.app obj2 t ds) obj obj2 (s.wrt obj t ds)
 foot:∀ obj obj2 t ds,bX (s.foot obj t ds) obj obj2->s.foot obj2 t ds=s.foot obj t ds
 sub:∀ obj t ds,∀ nm∈s.wrt obj t ds,nm∈s.foot obj t ds
 wrt:∀ obj obj2 t ds,bX (s.foot obj t ds) obj obj2->s.wrt obj2 t ds=s.wrt obj t ds
def gr(rd:Option Nat):Fence:={ Fence.wide with round:=rd }
theorem Qz{rd:Option Nat}{n:Nat}{P:Program}{f:FuncId}{args:Array Value}{w:World}{R:Ending->World->Prop}(h:Calls P f args w R):CallsIn (gr rd) n P f args w R:=
 (callsIn_wide (n:=n)).2 h
def sH(P:Program)(G:Ghost)(σ:S)(a:Act)(w:World)(o:Oper)(r:R):Prop:=
 ∀ (next:Act->World->Prop) (Q:Exit->Act->World->Prop),
   (∀ v φ' m' w',aV G φ' m' { σ with obj:=r.obj } a w'->aI φ' r.obj m' r.d v->next (a.put o.dst v) w')->o.uponIn (gr G.rd) 0 P a next Q ((execOp a.eval o).run P w)
structure aT (P:Program) (f:FuncId) (s:Spec):Prop where
 near:s.Near
 enter:f≠yid->∀ args w,(callFunc f args).run P w=.ok (.enter f args) w
 calls:f≠yid->∀ (G:Ghost) (φ:Name->Loc) (m:Mem) (σ:S) (a:Act) (w:World),aV G φ m σ a w->∀ (t:Name) (ds:List D) (us:Array Value),(∃ k,t=k::σ.pre)->ds.length=us.size->
  (∀ i (h:i<ds.length) (h':i<us.size),aI φ σ.obj m ds[i] us[i])->(s.app σ.obj t ds).ok->
  Calls P f us w fun e w'=>∃ v φ' m',e=.returned v/\aV G φ' m' { σ with obj:=(s.app σ.obj t ds).obj } a w'/\aI φ' (s.app σ.obj t ds).obj m' (s.app σ.obj t ds).d v/\Ext φ φ' σ.obj (s.app σ.obj t ds).obj
 yields:f=yid->∀ (G:Ghost) (φ:Name->Loc) (m:Mem) (σ:S) (a:Act) (w:World),aV G φ m σ a w->∀ (t nm:Name) (ds:List D) (us:Array Value),(∃ k,t=k::σ.pre)->ds.length=us.size->
  (∀ i (h:i<ds.length) (h':i<us.size),aI φ σ.obj m ds[i] us[i])->tj σ.obj nm->(s.app σ.obj t (.yld nm::ds)).ok->
  ∀ o:Oper,execOp a.eval o=Instr.yield (φ nm).blk us->sH P G σ a w o (s.app σ.obj t (.yld nm::ds))
def PSpec.toSpec(s:PSpec):Spec:=
 ⟨fun obj _ ds=>⟨(bD (aQ 6) obj ds).ok/\s.pre (bD (aQ 6) obj ds).xs,.v (s.fn (bD (aQ 6) obj ds).xs),if s.flat then obj else(bD (aQ 6) obj ds).obj⟩,
  fun obj _ ds=>fg (fp 6 obj) ds,fun obj _ ds=>if s.flat then[]else muts obj (fg (fp 6 obj) ds)⟩
def fA(f:D)(args:List D):List D:=
 match f with
 | .v (.clo _ fs cs)=>fs.map .v++args++cs.map .v
 | .clo _ fs cs=>fs++args++cs
 | .yld nm=>.yld nm::args
 |_=>[]
def hJ:D->Option FuncId
 | .v (.clo (.func f) _ _)=>if f=yid then none else some f
 | .clo (.func f) _ _=>if f=yid then none else some f
 | .yld _=>some yid
 |_=>none
def uX(Γ:FuncId->Option Spec)(σ:S)(t:Name)(f:D)(args:List D):R:=
 match (hJ f).bind Γ with
 |some s=>s.app σ.obj t (fA f args)
 |none=>.bad σ.obj
def nN(P:Program)(σ:S)(t:Name)(b:Builtin)(ts:List TypeId)(args:List D):R:=
 match b,ts,args with
 | .len,[T],[x]=>lQ P σ.obj T x
 | .append,[T1,T2],[s,x]=>dm P σ.obj t T1 T2 s x
 | .min,_,[.v (.int k a),.v (.int _ b)]=>⟨True,.v (.int k (if b<a then b else a)),σ.obj⟩
 | .max,_,[.v (.int k a),.v (.int _ b)]=>⟨True,.v (.int k (if b>a then b else a)),σ.obj⟩
 |_,_,_=>.bad σ.obj
def bn(P:Program)(Γ:FuncId->Option Spec)(σ:S)(t:Name):Op->R
 | .move x=>⟨True,ax σ x,σ.obj⟩
 | .assign x=>⟨True,ax σ x,σ.obj⟩
 | .pick c x y=>kj σ.obj (ax σ c) (ax σ x) (ax σ y)
 | .alloc T=>o6 P σ.obj t T
 | .box _ x=>nP σ.obj t (ax σ x)
 | .build T ps=>nO P σ.obj T (ps.toList.map fun p=>(p.1,ax σ p.2))
 | .buildSlice T n ps=>pO P σ.obj T n (ps.toList.map fun p=>(p.1,ax σ p.2))
 | .load T x=>km P σ.obj T (ax σ x)
 | .store T x d=>lO P σ.obj T (ax σ x) (ax σ d)
 | .nilCheck x=>lP σ.obj (ax σ x)
 | .binOp op T x y _=>nQ P σ.obj op T (ax σ x) (ax σ y) (Bj y)
 | .unOp op _ x=>nH σ.obj op (ax σ x)
 | .convert s d x=>nM P σ.obj s d (ax σ x)
 | .makeFunc fn f c=>Sv σ.obj fn (f.toList.map (ax σ)) (c.toList.map (ax σ))
 | .makeMap T r=>o4 P σ.obj t T (r.map (ax σ))
 | .makeSlice T l c=>o3 P σ.obj t T (ax σ l) (ax σ c)
 | .slice T x lo hi mx=>kS P σ.obj T (ax σ x) (lo.map (ax σ)) (hi.map (ax σ)) (mx.map (ax σ))
 | .fieldAddr T x f=>mH P σ.obj T f (ax σ x)
 | .field T x f=>nK P σ.obj T (ax σ x) f
 | .indexAddr T x i=>mG P σ.obj T (ax σ x) (ax σ i)
 | .index T x i=>nJ P σ.obj T (ax σ x) (ax σ i)
 | .lookup T x i co=>nI P σ.obj T (ax σ x) (ax σ i) co
 | .mapUpdate T x k d=>kT P σ.obj T (ax σ x) (ax σ k) (ax σ d)
 | .insert T x k d=>kT P σ.obj T (ax σ x) (ax σ k) (ax σ d)
 | .extract x i=>nL σ.obj (ax σ x) i
 | .call ⟨.value f,args,_⟩=>uX Γ σ t (ax σ f) (args.toList.map (ax σ))
 | .call ⟨.builtin b,args,ts⟩=>nN P σ t b ts.toList (args.toList.map (ax σ))
 |_=>.bad σ.obj
theorem cL{G:Ghost}{φ:Name->Loc}{m:Mem}{σ:S}{a:Act}{w:World}(hC:aV G φ m σ a w){x:Operand}(h:dh σ x=true):aI φ σ.obj m (ax σ x) (a.eval x):=by
 cases x with
 |tmp t=>
  have :=hC.tmps t
  unfold cN at this
  simp only[dh]at h
  rw[if_pos h]at this
  exact this
 |const v=>exact vN v
 |func f=>exact .v _ _ (.clo _ _ _ _ _ rfl rfl (fun i h=>by simp at h) (fun i h=>by simp at h))
 |global g=>exact .any _
theorem uC{P:Program}{G:Ghost}{φ:Name->Loc}{m:Mem}{σ:S}{a:Act}{w:World}{o:Oper}{r:R}{v:Value}{w':World}
 (cP:(execOp a.eval o).run P w=.ok (.value v) w') (hd:pS G σ a r v w'):sH P G σ a w o r:=by
 intro next Q tP
 obtain⟨φ',m',h1,h2⟩:=hd
 rw[cP]
 exact tP v φ' m' w' h1 h2
theorem lE{P:Program}{G:Ghost}{φ:Name->Loc}{m:Mem}{σ:S}{a:Act}{w:World}(hC:aV G φ m σ a w){o:Oper}{r:R}{s:Sem Value}
 (he:execOp a.eval o=(do pure (.value (<-s)))) (h:∃ v,s.run P w=.ok v w/\aI φ σ.obj m r.d v/\r.obj=σ.obj):sH P G σ a w o r:=by
 obtain⟨v,h1,h2,h3⟩:=h
 refine uC (φ:=φ) (m:=m) (v:=v) (w':=w) (by rw[he];simp[h1]) ⟨φ,m,?_,?_⟩
 ·rw[h3];exact hC
 ·rw[h3];exact h2
theorem uD{P:Program}{G:Ghost}{σ:S}{a:Act}{w:World}{o:Oper}{r:R}{s:Sem Value}
 (he:execOp a.eval o=(do pure (.value (<-s)))) (h:∃ v w',s.run P w=.ok v w'/\pS G σ a r v w'):sH P G σ a w o r:=by
 obtain⟨v,w',h1,h2⟩:=h
 obtain⟨φ',m',h3,h4⟩:=h2
 exact uC (φ:=φ') (m:=m') (v:=v) (w':=w') (by rw[he];simp[h1]) ⟨φ',m',h3,h4⟩
theorem Hm{P:Program}{G:Ghost}{σ:S}{a:Act}{w:World}{o:Oper}{r:R}{s:Sem Unit}(hd:r.d=.any)
 (he:execOp a.eval o=(do s;pure .skip)) (h:∃ w',s.run P w=.ok () w'/\∃ φ' m',aV G φ' m' { σ with obj:=r.obj } a w'):sH P G σ a w o r:=by
 obtain⟨w',h1,φ',m',h2⟩:=h
 intro next Q tP
 rw[he]
 simp only[Sem.run_bind,h1,Result.andThen_ok,Sem.run_pure]
 exact tP undef φ' m' w' h2 (by rw[hd];exact .any _)
theorem Ee{G:Ghost}{φ:Name->Loc}{m:Mem}{σ:S}{a:Act}{w:World}(hC:aV G φ m σ a w){x:Option Operand}(h:∀ y∈x.toList,dh σ y=true):
 pP φ σ.obj m (x.map (ax σ)) (x.map a.eval):=by
 cases x with
 |none=>trivial
 |some y=>exact cL hC (h y (by simp))
theorem RH{P:Program}{Γ:FuncId->Option Spec}(hΓ:∀ f s,Γ f=some s->aT P f s){G:Ghost}{φ:Name->Loc}{m:Mem}{σ:S}{a:Act}{w:World}(hC:aV G φ m σ a w)
 {o:Oper} {f:FuncId} {s:Spec} {t:Name} (ht:∃ k,t=k::σ.pre) (hf:f≠yid) (hs:Γ f=some s) {ds:List D} {us:Array Value}
 (he:(execOp a.eval o)=callFunc f us) (hl:ds.length=us.size) (hr:∀ i (h:i<ds.length) (h':i<us.size),aI φ σ.obj m ds[i] us[i])
 (aa:(s.app σ.obj t ds).ok):sH P G σ a w o (s.app σ.obj t ds):=by
 obtain⟨_,mo,uv,_⟩:=hΓ f s hs
 intro next Q tP
 rw[he,mo hf,Oper.uponIn_enter]
 refine⟨fun h=>(by simp[gr,Fence.wide]at h),Qz ?_⟩
 refine(uv hf G φ m σ a w hC t ds us ht hl hr aa).mono ?_
 rintro e w' ⟨v,φ',m',rfl,h1,h2,_⟩
 exact tP v φ' m' w' h1 h2
theorem Qm{obj obj2:Name->Option O}:∀ (n:Nat) (d:D),bX (fp n obj d) obj obj2->fp n obj2 d=fp n obj d
 | 0,d,h=>by cases d<;>rfl
 |n+1,d,h=>by
  have ih:∀ (l:List D),bX (fg (fp n obj) l) obj obj2->fg (fp n obj2) l=fg (fp n obj) l:=by
   intro l
   induction l with
   |nil=>intro _;rfl
   |cons d r ihr=>intro h;simp only[fg];rw[Qm n d fun nm hn=>h nm (List.mem_append_left _ hn),ihr fun nm hn=>h nm (List.mem_append_right _ hn)]
  cases d with
  |ref nm off=>
   have h':=h nm (by simp[fp])
   simp only[fp,h']
   rcases ho:obj nm with _ | o
   ·rfl
   ·cases o<;>first
      |rfl
      |(simp only;rw[ih _ fun x hx=>h x (by simp only[fp,ho];exact List.mem_cons_of_mem _ hx)])
  |agg l=>exact ih l h
  |tup l=>exact ih l h
  |clo fn f c=>simp only[fp];rw[ih f fun nm hn=>h nm (List.mem_append_left _ hn),ih c fun nm hn=>h nm (List.mem_append_right _ hn)]
  |_=>rfl
theorem zp{obj obj2:Name->Option O}{n:Nat}:∀ (l:List D),bX (fg (fp n obj) l) obj obj2->fg (fp n obj2) l=fg (fp n obj) l
 |[],_=>rfl
 |d::r,h=>by simp only[fg];rw[Qm n d fun nm hn=>h nm (List.mem_append_left _ hn),zp r fun nm hn=>h nm (List.mem_append_right _ hn)]
theorem E0{obj obj2:Name->Option O}{l:List Name}(h:bX l obj obj2):muts obj2 l=muts obj l:=
 List.filter_congr fun nm hn=>by rw[h nm hn]
theorem PSpec.near(s:PSpec):s.toSpec.Near:=by
 refine⟨fun obj obj2 t ds h=>?_,fun obj obj2 t ds h=>zp ds h,fun obj t ds nm hn=>?_,fun obj obj2 t ds h=>?_⟩
 ·obtain⟨h1,h2⟩:=zn (Ck 6) ds obj obj2 _ (fun _ hn=>hn) h
  have aa:((bD (aQ 6) obj2 ds).ok/\s.pre (bD (aQ 6) obj2 ds).xs)=((bD (aQ 6) obj ds).ok/\s.pre (bD (aQ 6) obj ds).xs):=by rw[h1,h2.ok]
  simp only[PSpec.toSpec]
  cases hf:s.flat with
  |true=>exact .same aa (by rw[h1]) rfl rfl
  |false=>
   simp only[Bool.false_eq_true,if_false]
   exact mJ.like ⟨aa,h2.agr,h2.frame,h2.frame2⟩ (by rw[h1]) (zo (zm 6) ds obj) h
 ·simp only[PSpec.toSpec]at hn |-
  split at hn
  ·simp at hn
  ·exact(List.mem_filter.1 hn).1
 ·simp only[PSpec.toSpec]
  split
  ·rfl
  ·rw[zp ds h];exact E0 h
theorem aZ.sound{P:Program}{f:FuncId}{s:PSpec}(h:aZ P f s):aT P f s.toSpec:=by
 obtain⟨hy,mo,dZ,uv⟩:=h
 refine⟨s.near,fun _=>mo,fun _ G φ m σ a w hC t ds us _ hl hr aa=>?_,fun e=>(hy e).elim⟩
 obtain⟨yE,rZ⟩:=aa
 obtain⟨m1,a1,a2,a3,a4,a5,a6⟩:=si (qF 6) ds hC us.toList (by simpa using hl) (fun i h h'=>by
  have :=hr i h (by simpa using h')
  rw[Array.getElem_toList];exact this) yE
 refine(uv m1 w (bD (aQ 6) σ.obj ds).xs us a2.mem ⟨by rw[a4];simpa using hl,a5⟩ rZ).mono ?_
 rintro e w' ⟨v,m',rfl,hb,hm,hn,hv⟩
 simp only[PSpec.toSpec]
 by_cases uj:s.flat=true
 ·have tz:aU m (s.fn (bD (aQ 6) σ.obj ds).xs) v:=hv.flat (dZ uj _ rZ)
  refine⟨v,φ,m,rfl,?_,?_,?_⟩
  ·simp only[uj,if_true]
   exact hC.imm (Mem.le_refl m) ⟨hb.os,hb.tape,hb.output,hb.size⟩ hb.block (fun _ _ _ h=>.inl h)
  ·simp only[uj,if_true]
   exact .v _ _ tz
  ·simp only[uj,if_true]
   exact .refl _ _
 ·refine⟨v,φ,m',rfl,?_,?_,?_⟩
  ·simp only[uj,Bool.false_eq_true,if_false]
   exact a2.imm hm ⟨hb.os,hb.tape,hb.output,hb.size⟩ hb.block hn
  ·simp only[uj,Bool.false_eq_true,if_false]
   exact .v _ _ hv
  ·simp only[uj,Bool.false_eq_true,if_false]
   exact a3
theorem adQ{P:Program}{Γ:FuncId->Option Spec}{σ:S}{t:Name}{op:Op}(h:(bn P Γ σ t op).ok):∀ c,op≠ .defer c:=by
 rintro c rfl
 exact h
def pk(σ:S):Op->Bool
 | .pick c x y=>dh σ c&&(match ax σ c with | .v (.bool b)=>if b then dh σ x else dh σ y | _=>false)
 |op=>op.operands.toList.all (dh σ)
theorem dI{σ:S}{op:Op}(h:op.operands.toList.all (dh σ)=true){x:Operand}(hx:x∈op.operands.toList):dh σ x=true:=List.all_eq_true.1 h x hx
theorem KY{G:Ghost}{φ:Name->Loc}{m:Mem}{σ:S}{a:Act}{w:World}(hC:aV G φ m σ a w){ps:Array (Nat×Operand)}(h:∀ p∈ps.toList,dh σ p.2=true):
 (ps.toList.map fun p=>(p.1,ax σ p.2)).map (·.1)=(ps.map fun (i,x)=>(i,a.eval x)).toList.map (·.1)/\
 ∀ (k:Nat) (p:Nat×D) (q:Nat×Value),(ps.toList.map fun p=>(p.1,ax σ p.2))[k]?=some p->(ps.map fun (i,x)=>(i,a.eval x)).toList[k]?=some q->aI φ σ.obj m p.2 q.2:=by
 refine⟨by simp,fun k p q hp hq=>?_⟩
 simp only[List.getElem?_map,Option.map_eq_some_iff]at hp
 obtain⟨y,hy,rfl⟩:=hp
 simp only[Array.toList_map,List.getElem?_map,hy,Option.map_some,Option.some.injEq]at hq
 subst hq
 exact cL hC (h y (List.mem_of_getElem? hy))
theorem Fe{G:Ghost}{φ:Name->Loc}{m:Mem}{σ:S}{a:Act}{w:World}(hC:aV G φ m σ a w){xs:Array Operand}(h:∀ x∈xs.toList,dh σ x=true):
 (xs.toList.map (ax σ)).length=(xs.map a.eval).size/\∀ i (h:i<(xs.toList.map (ax σ)).length) (h':i<(xs.map a.eval).size),aI φ σ.obj m (xs.toList.map (ax σ))[i] (xs.map a.eval)[i]:=by
 refine⟨by simp,fun i h1 h2=>?_⟩
 simp only[List.getElem_map,Array.getElem_toList,Array.getElem_map]
 exact cL hC (h _ (by simp))
set_option maxHeartbeats 1000000 in
theorem adl{P:Program}{G:Ghost}{φ:Name->Loc}{m:Mem}{σ:S}{a:Act}{w:World}(hC:aV G φ m σ a w)(o:Oper)(t:Name)(b:Builtin)(args:Array Operand)(ts:Array TypeId)
 (ho:o.op=.call ⟨.builtin b,args,ts⟩) (eM:∀ x∈args.toList,dh σ x=true) (aa:(nN P σ t b ts.toList (args.toList.map (ax σ))).ok):
 sH P G σ a w o (nN P σ t b ts.toList (args.toList.map (ax σ))):=by
 obtain⟨args⟩:=args
 obtain⟨ts⟩:=ts
 have wH:(∃ T x,b=.len/\ts=[T]/\args=[x])\/(∃ T1 T2 s x,b=.append/\ts=[T1,T2]/\args=[s,x])\/
     (∃ x y,(b=.min\/b=.max)/\args=[x,y]):=by
  rcases args with _ | ⟨x,_ | ⟨y,_ | ⟨z,r⟩⟩⟩
  ·unfold nN at aa;split at aa<;>first | exact aa.elim | (exfalso;simp_all;done)
  ·unfold nN at aa
   split at aa
   ·exact .inl ⟨_,x,rfl,by assumption,rfl⟩
   ·exfalso;simp_all
   ·exfalso;simp_all
   ·exfalso;simp_all
   ·exact aa.elim
  ·unfold nN at aa
   split at aa
   ·exfalso;simp_all
   ·exact .inr (.inl ⟨_,_,x,y,rfl,by assumption,rfl⟩)
   ·exact .inr (.inr ⟨x,y,.inl rfl,rfl⟩)
   ·exact .inr (.inr ⟨x,y,.inr rfl,rfl⟩)
   ·exact aa.elim
  ·unfold nN at aa;split at aa<;>first | exact aa.elim | (exfalso;simp_all;done)
 rcases wH with⟨T,x,rfl,rfl,rfl⟩ | ⟨T1,T2,s,x,rfl,rfl,rfl⟩ | ⟨x,y,hb,rfl⟩
 ·have hx:=cL hC (eM x (by simp))
  refine lE hC (s:=Builtin.len_ #[T] o.type #[a.eval x]) ?_ (Uu hC hx aa)
  simp[execOp,ho,resolve,invoke,builtin]
 ·have hs:=cL hC (eM s (by simp))
  have hx:=cL hC (eM x (by simp))
  refine uD (s:=Builtin.append_ #[T1,T2] o.type #[a.eval s,a.eval x]) ?_ (UH hC hs hx aa)
  simp[execOp,ho,resolve,invoke,builtin]
 ·have hx:=cL hC (eM x (by simp))
  have hy:=cL hC (eM y (by simp))
  simp only[List.map_cons,List.map_nil]at aa |-
  generalize ax σ x=dx at *
  generalize ax σ y=dy at *
  have hd:∃ k1 a1 k2 a2,dx=.v (.int k1 a1)/\dy=.v (.int k2 a2):=by
   rcases hb with rfl | rfl
   ·simp only[nN]at aa
    split at aa
    all_goals first
     |exact aa.elim
     |(exfalso;simp_all;done)
     |(rename_i h;simp only[List.cons.injEq,and_true]at h;exact⟨_,_,_,_,h.1,h.2⟩)
   ·simp only[nN]at aa
    split at aa
    all_goals first
     |exact aa.elim
     |(exfalso;simp_all;done)
     |(rename_i h;simp only[List.cons.injEq,and_true]at h;exact⟨_,_,_,_,h.1,h.2⟩)
  obtain⟨k1,a1,k2,a2,rfl,rfl⟩:=hd
  cases hx with
  |v _ _ hx=>
  cases hy with
  |v _ _ hy=>
  generalize hu:a.eval x=u at *
  generalize hv:a.eval y=v at *
  cases hx;cases hy
  rcases hb with rfl | rfl
  ·refine lE hC (s:=Builtin.min_ ts.toArray o.type #[.int k1 a1,.int k2 a2]) ?_ ⟨.int k1 (if a2<a1 then a2 else a1),?_,.v _ _ (.int _ _),rfl⟩
   ·simp[execOp,ho,resolve,invoke,builtin,hu,hv]
   ·simp[Builtin.min_,Builtin.min2]
  ·refine lE hC (s:=Builtin.max_ ts.toArray o.type #[.int k1 a1,.int k2 a2]) ?_ ⟨.int k1 (if a2>a1 then a2 else a1),?_,.v _ _ (.int _ _),rfl⟩
   ·simp[execOp,ho,resolve,invoke,builtin,hu,hv]
   ·simp[Builtin.max_,Builtin.max2]
set_option maxHeartbeats 4000000 in
theorem adP{P:Program}{Γ:FuncId->Option Spec}(hΓ:∀ f s,Γ f=some s->aT P f s){G:Ghost}{φ:Name->Loc}{m:Mem}{σ:S}{a:Act}{w:World}(hC:aV G φ m σ a w)
 (o:Oper) (t:Name) (ht:∃ k,t=k::σ.pre) (hc:pk σ o.op=true) (aa:(bn P Γ σ t o.op).ok):sH P G σ a w o (bn P Γ σ t o.op):=by
 cases ho:o.op with
 |move x=>
  rw[ho]at hc aa
  refine uC (φ:=φ) (m:=m) (v:=a.eval x) (w':=w) (by simp[execOp,ho]) ⟨φ,m,hC,cL hC (dI hc (by simp[Op.operands]))⟩
 |assign x=>
  rw[ho]at hc aa
  refine uC (φ:=φ) (m:=m) (v:=a.eval x) (w':=w) (by simp[execOp,ho]) ⟨φ,m,hC,cL hC (dI hc (by simp[Op.operands]))⟩
 |pick c x y=>
  rw[ho]at hc aa
  simp only[pk,Bool.and_eq_true]at hc
  obtain⟨h1,h2⟩:=hc
  have B2:=cL hC h1
  simp only[bn]at aa |-
  generalize ax σ c=dc at *
  unfold kj at aa
  split at aa
  ·rename_i b
   generalize he:a.eval c=u at B2
   cases B2 with
   |v _ _ B2=>
   cases B2
   simp only at h2
   refine uC (φ:=φ) (m:=m) (v:=if b then a.eval x else a.eval y) (w':=w) (by simp[execOp,ho,he,asBool]) ⟨φ,m,by simpa[kj]using hC,?_⟩
   have :aI φ σ.obj m (if b then ax σ x else ax σ y) (if b then a.eval x else a.eval y):=by
    cases b with
    |true=>exact cL hC (by simpa using h2)
    |false=>exact cL hC (by simpa using h2)
   exact ad5 this
  ·exact aa.elim
 |alloc T=>
  rw[ho]at aa
  refine uD (s:=Instr.alloc T true (.tuple #[])) (by simp[execOp,ho]) (UI hC aa)
 |box T x=>
  rw[ho]at hc aa
  refine uD (s:=Instr.box T (a.eval x)) (by simp[execOp,ho]) (UE hC (cL hC (dI hc (by simp[Op.operands]))) aa)
 |build T ps=>
  rw[ho]at hc aa
  obtain⟨h1,h2⟩:=KY hC (ps:=ps) (fun p hp=>dI hc (by simp only[Op.operands,List.mem_map];exact⟨p,hp,rfl⟩))
  refine lE hC (s:=Instr.build T (ps.map fun (i,x)=>(i,a.eval x))) (by simp[execOp,ho]) (UD w h1 h2 aa)
 |buildSlice T n ps=>
  rw[ho]at hc aa
  obtain⟨h1,h2⟩:=KY hC (ps:=ps) (fun p hp=>dI hc (by simp only[Op.operands,List.mem_map];exact⟨p,hp,rfl⟩))
  refine uD (s:=Instr.buildSlice T n (ps.map fun (i,x)=>(i,a.eval x))) (by simp[execOp,ho]) (UC hC h1 h2 aa)
 |load T x=>
  rw[ho]at hc aa
  refine lE hC (s:=Instr.loadAt T (a.eval x)) (by simp[execOp,ho]) (J0 hC (cL hC (dI hc (by simp[Op.operands]))) aa)
 |store T x d=>
  rw[ho]at hc aa
  refine Hm ?_ (s:=Instr.storeAt T (a.eval x) (a.eval d)) (by simp[execOp,ho]) (Un hC (cL hC (dI hc (by simp[Op.operands]))) (cL hC (dI hc (by simp[Op.operands]))) aa)
  simp only[bn,lO]
  (repeat' split)<;>rfl
 |nilCheck x=>
  rw[ho]at hc aa
  obtain⟨h1,h2,h3⟩:=Uq (P:=P) (ρ:=a.eval) (c:=x) (o:=o) w (cL hC (dI hc (by simp[Op.operands]))) aa ho rfl
  refine uC (φ:=φ) (m:=m) h1 ⟨φ,m,?_,?_⟩
  ·simp only[bn];rw[h3];exact hC
  ·simp only[bn];rw[h3];exact h2
 |binOp op T x y yT=>
  rw[ho]at hc aa
  exact lE hC (s:=do eqGuard op T x y (a.eval x) (a.eval y);binOp op T (a.eval x) (a.eval y)) (by simp[execOp,ho]) (UF hC (cL hC (dI hc (by simp[Op.operands]))) (cL hC (dI hc (by simp[Op.operands]))) (fun h=>by
   cases y with
   |const v=>cases v with
    |slice a n c=>cases a with
     |none=>exact⟨n,c,rfl⟩
     |some=>cases h
    |_=>cases h
   |_=>cases h) aa)
 |unOp op T x=>
  rw[ho]at hc aa
  exact lE hC (s:=Op.unary op (a.eval x)) (by simp[execOp,ho]) (Um w (cL hC (dI hc (by simp[Op.operands]))) aa)
 |convert s d x=>
  rw[ho]at hc aa
  exact lE hC (s:=convert s d (a.eval x)) (by simp[execOp,ho]) (UB w (cL hC (dI hc (by simp[Op.operands]))) aa)
 |makeFunc fn f c=>
  rw[ho]at hc aa
  obtain⟨h1,h2⟩:=Fe hC (xs:=f) (fun x hx=>dI hc (by simp[Op.operands,hx]))
  obtain⟨h3,h4⟩:=Fe hC (xs:=c) (fun x hx=>dI hc (by simp[Op.operands,hx]))
  exact uC (φ:=φ) (m:=m) (v:=.func fn (f.map a.eval) (c.map a.eval)) (w':=w) (by simp[execOp,ho,Instr.makeFunc]) ⟨φ,m,hC,.clo _ _ _ _ _ h1 h3 h2 h4⟩
 |makeMap T r=>
  rw[ho]at hc aa
  exact uD (s:=Instr.makeMap T (r.map a.eval)) (by simp[execOp,ho]) (Us hC (by cases r<;>rfl) aa)
 |makeSlice T l c=>
  rw[ho]at hc aa
  exact uD (s:=Instr.makeSlice T (a.eval l) (a.eval c)) (by simp[execOp,ho]) (Ur hC (cL hC (dI hc (by simp[Op.operands]))) (cL hC (dI hc (by simp[Op.operands]))) aa)
 |slice T x lo hi mx=>
  rw[ho]at hc aa
  have h0:∀ y,(y∈lo.toList\/y∈hi.toList\/y∈mx.toList\/y=x)->dh σ y=true:=fun y hy=>dI hc (by
   simp only[Op.operands,Array.toList_append,List.mem_append,Option.toList_toArray]
   rcases hy with h | h | h | h
   ·exact .inl (.inl (.inr h))
   ·exact .inl (.inr h)
   ·exact .inr h
   ·exact .inl (.inl (.inl (by simp[h]))))
  exact uD (s:=Instr.sliceAt T (a.eval x) (lo.map a.eval) (hi.map a.eval) (mx.map a.eval)) (by simp[execOp,ho])
   (Uo hC (cL hC (h0 x (by simp))) (Ee hC fun y hy=>h0 y (.inl hy)) (Ee hC fun y hy=>h0 y (.inr (.inl hy))) (Ee hC fun y hy=>h0 y (.inr (.inr (.inl hy)))) aa)
 |fieldAddr T x f=>
  rw[ho]at hc aa
  exact lE hC (s:=Instr.fieldAt T (a.eval x) f) (by simp[execOp,ho]) (Ux w (cL hC (dI hc (by simp[Op.operands]))) aa)
 |field T x f=>
  rw[ho]at hc aa
  exact lE hC (s:=Instr.field T (a.eval x) f) (by simp[execOp,ho]) (Uy w (cL hC (dI hc (by simp[Op.operands]))) aa)
 |indexAddr T x i=>
  rw[ho]at hc aa
  exact lE hC (s:=Instr.indexAt T (a.eval x) (a.eval i)) (by simp[execOp,ho]) (Uv hC (cL hC (dI hc (by simp[Op.operands]))) (cL hC (dI hc (by simp[Op.operands]))) aa)
 |index T x i=>
  rw[ho]at hc aa
  exact lE hC (s:=Instr.index T (a.eval x) (a.eval i)) (by simp[execOp,ho]) (Uw w (cL hC (dI hc (by simp[Op.operands]))) (cL hC (dI hc (by simp[Op.operands]))) aa)
 |lookup T x i co=>
  rw[ho]at hc aa
  exact lE hC (s:=Instr.lookup T (a.eval x) (a.eval i) co) (by simp[execOp,ho]) (Ut hC (cL hC (dI hc (by simp[Op.operands]))) (cL hC (dI hc (by simp[Op.operands]))) aa)
 |mapUpdate T x k d=>
  rw[ho]at hc aa
  refine Hm ?_ (s:=Instr.mapUpdate T (a.eval x) (a.eval k) (a.eval d)) (by simp[execOp,ho])
   (JZ hC (cL hC (dI hc (by simp[Op.operands]))) (cL hC (dI hc (by simp[Op.operands]))) (cL hC (dI hc (by simp[Op.operands]))) aa)
  simp only[bn,kT]
  (repeat' split)<;>rfl
 |insert T x k d=>
  rw[ho]at hc aa
  refine Hm ?_ (s:=Instr.mapUpdate T (a.eval x) (a.eval k) (a.eval d)) (by simp[execOp,ho])
   (JZ hC (cL hC (dI hc (by simp[Op.operands]))) (cL hC (dI hc (by simp[Op.operands]))) (cL hC (dI hc (by simp[Op.operands]))) aa)
  simp only[bn,kT]
  (repeat' split)<;>rfl
 |extract x i=>
  rw[ho]at hc aa
  exact lE hC (s:=Instr.extract (a.eval x) i) (by simp[execOp,ho]) (Uz w (cL hC (dI hc (by simp[Op.operands]))) aa)
 |call c=>
  obtain⟨callee,args,ts⟩:=c
  rw[ho]at hc aa
  cases callee with
  |builtin b=>
   exact adl hC o t b args ts ho (fun x hx=>dI hc (by simp[Op.operands,Call.operands,hx])) aa
  |invoke=>exact aa.elim
  |value f=>
   have hf:=cL hC (dI hc (x:=f) (by simp[Op.operands,Call.operands]))
   obtain⟨h1,h2⟩:=Fe hC (xs:=args) (fun x hx=>dI hc (by simp[Op.operands,Call.operands,hx]))
   simp only[bn]at aa |-
   generalize hu:a.eval f=u at hf
   generalize ax σ f=df at *
   unfold uX at aa |-
   split at aa
   ·rename_i s hs
    obtain⟨g,hg,FU⟩:=Option.bind_eq_some_iff.1 hs
    unfold hJ at hg
    split at hg
    ·rename_i g fs cs
     split at hg
     ·cases hg
     rename_i aH
     cases hg
     cases hf with
     |v _ _ hf=>
     cases hf with
     |clo _ _ _ us vs e1 e2 dS eH=>
     try simp only[hs]
     refine RH hΓ hC ht aH FU (us:=us++args.map a.eval++vs) (by simp[execOp,ho,resolve,Deferred.ofValue,hu,invoke]) (by simp[fA,e1,e2]) (fun i hi bP=>?_) aa
     simp only[fA,List.length_append,List.length_map]at hi |-
     by_cases k1:i<fs.length
     ·have q1:i<us.size:=by omega
      simp only[List.append_assoc,Array.append_assoc]
      rw[List.getElem_append_left (by simpa using k1),Array.getElem_append_left q1]
      simp only[List.getElem_map]
      exact .v _ _ (dS i k1 q1)
     ·by_cases k2:i<fs.length+args.toList.length
      ·simp only[List.append_assoc,Array.append_assoc]
       rw[List.getElem_append_right (by simp;omega),List.getElem_append_left (by simp at k2 |-;omega),Array.getElem_append_right (by omega),Array.getElem_append_left (by simp at k2 |-;omega)]
       have :=h2 (i-fs.length) (by simp at k2 |-;omega) (by simp at k2 |-;omega)
       simp only[List.length_map,<-e1]
       exact this
      ·rw[List.getElem_append_right (by simp at k2 |-;omega),Array.getElem_append_right (by simp at k2 |-;omega)]
       have :=eH (i-(fs.length+args.size)) (by simp at hi k2;omega) (by simp at hi k2;omega)
       simp only[List.length_append,List.length_map,Array.length_toList,Array.size_append,Array.size_map,List.getElem_map,<-e1]
       exact .v _ _ this
    ·rename_i g fs cs
     split at hg
     ·cases hg
     rename_i aH
     cases hg
     cases hf with
     |clo _ _ _ us vs e1 e2 dS eH=>
     try simp only[hs]
     refine RH hΓ hC ht aH FU (us:=us++args.map a.eval++vs) (by simp[execOp,ho,resolve,Deferred.ofValue,hu,invoke]) (by simp[fA,e1,e2]) (fun i hi bP=>?_) aa
     simp only[fA,List.length_append,List.length_map]at hi |-
     by_cases k1:i<fs.length
     ·have q1:i<us.size:=by omega
      simp only[List.append_assoc,Array.append_assoc]
      rw[List.getElem_append_left (by simpa using k1),Array.getElem_append_left q1]
      exact dS i k1 q1
     ·by_cases k2:i<fs.length+args.toList.length
      ·simp only[List.append_assoc,Array.append_assoc]
       rw[List.getElem_append_right (by omega),List.getElem_append_left (by simp at k2 |-;omega),Array.getElem_append_right (by omega),Array.getElem_append_left (by simp at k2 |-;omega)]
       have :=h2 (i-fs.length) (by simp at k2 |-;omega) (by simp at k2 |-;omega)
       simp only[<-e1]
       exact this
      ·rw[List.getElem_append_right (by simp at k2 |-;omega),Array.getElem_append_right (by simp at k2 |-;omega)]
       have :=eH (i-(fs.length+args.size)) (by simp at hi k2;omega) (by simp at hi k2;omega)
       simp only[List.length_append,List.length_map,Array.length_toList,Array.size_append,Array.size_map,<-e1]
       exact this
    ·rename_i nm
     cases hg
     cases hf with
     |yld _ hb=>
     try simp only[hs]
     exact(hΓ yid s FU).yields rfl G φ m σ a w hC t nm (args.toList.map (ax σ)) (args.map a.eval) ht h1 h2 hb aa o (by simp[execOp,ho,resolve,Deferred.ofValue,hu,invoke])
    ·cases hg
   ·exact aa.elim
 |_=>rw[ho]at aa;exact aa.elim
def pB(ops:Array Oper)(j:Nat):Option Tmp:=(ops[j]?).bind (·.dst)
def HG(e:E)(want:Bool):Bool:=e.c&&(match e.d with | .v (.bool b)=>b==want | _=>false)
def Cq(e:E):Prop:=match e.d with | .v (.bool _)=>True | _=>e.c=false
def fv(ops:Array Oper)(σ:S)(o:Oper):Bool:=
 match o.guard with
 |none=>true
 |some (j,want)=>match pB ops j with
  |some s=>HG (σ.env s) want
  |none=>false
def pC(ops:Array Oper)(σ:S)(o:Oper):Prop:=
 match o.guard with
 |none=>True
 |some (j,_)=>match pB ops j with
  |some s=>Cq (σ.env s)/\s<σ.nt
  |none=>True
theorem TB{G:Ghost}{φ:Name->Loc}{m:Mem}{σ:S}{a:Act}{w:World}(hC:aV G φ m σ a w){ops:Array Oper}{o:Oper}(h:pC ops σ o):
 Region.wanted o (yielded ops a.tmps)=fv ops σ o:=by
 unfold Region.wanted fv
 unfold pC at h
 cases hg:o.guard with
 |none=>rfl
 |some p=>
  obtain⟨j,want⟩:=p
  simp only[hg]at h |-
  unfold yielded
  unfold pB at h |-
  cases hs:(ops[j]?).bind (·.dst)with
  |none=>rfl
  |some s=>
   simp only[hs]at h |-
   obtain⟨h,ae⟩:=h
   have ht:=hC.tmps s
   have aw:s<a.tmps.size:=by rw[hC.size];exact ae
   have e0:a.tmps.getD s undef=a.tmps[s]:=by simp[Array.getD,aw]
   rw[e0]at ht
   simp only[Option.bind_some,Array.getElem?_eq_getElem aw]
   unfold HG
   unfold Cq at h
   unfold cN at ht
   generalize a.tmps[s]=u at *
   generalize σ.env s=e at *
   obtain⟨c,d⟩:=e
   simp only at h ht |-
   cases c with
   |false=>
    simp only[Bool.false_eq_true,if_false]at ht
    subst ht
    simp[undef]
   |true=>
    simp only[if_true]at ht
    split at h
    ·cases ht with
     |v _ _ ht=>cases ht;simp
    ·cases h
def bz(P:Program)(Γ:FuncId->Option Spec)(ops:Array Oper)(σ:S)(o:Oper):S:=
 ⟨σ.nt,match o.dst with
   |some t=>upd σ.env t ⟨fv ops σ o,(bn P Γ σ ((σ.base+t)::σ.pre) o.op).d⟩
   |none=>σ.env,if fv ops σ o=true then(bn P Γ σ ((σ.base+o.dst.getD 0)::σ.pre) o.op).obj else σ.obj,σ.pre,σ.base⟩
def lZ(P:Program)(Γ:FuncId->Option Spec)(ops:Array Oper)(σ:S)(o:Oper):Prop:=
 pC ops σ o/\(match o.dst with | some t=>t<σ.nt | none=>True)/\(fv ops σ o=true->pk σ o.op=true/\(bn P Γ σ ((σ.base+o.dst.getD 0)::σ.pre) o.op).ok)
def qX(P:Program)(Γ:FuncId->Option Spec)(ops:Array Oper):List Oper->S->(S->Prop)->Prop
 |[],σ,K=>K σ
 |o::r,σ,K=>lZ P Γ ops σ o/\qX P Γ ops r (bz P Γ ops σ o) K
theorem DM{P:Program}{Γ:FuncId->Option Spec}(hΓ:∀ f s,Γ f=some s->aT P f s){G:Ghost}{φ:Name->Loc}{m:Mem}{σ:S}{a:Act}{w:World}(hC:aV G φ m σ a w)
 {ops:Array Oper} {i:Nat} {o:Oper} (hi:ops[i]?=some o) (h:lZ P Γ ops σ o) {K:Act->World->Prop} {Q:Exit->Act->World->Prop}
 (hK:∀ a' w' φ' m',aV G φ' m' (bz P Γ ops σ o) a' w'->K a' w'):wpOpIn (gr G.rd) 0 P ops Q i K a w:=by
 obtain⟨h1,h2,h3⟩:=h
 unfold wpOpIn
 simp only[hi,TB hC h1]
 cases hg:fv ops σ o with
 |true=>
  simp only[if_true]
  obtain⟨h4,h5⟩:=h3 hg
  refine⟨fun _ _=>trivial,?_⟩
  rw[Oper.semAt_eq _ _ _ (adQ h5)]
  refine(adP hΓ hC o ((σ.base+o.dst.getD 0)::σ.pre) ⟨_,rfl⟩ h4 h5 _ _ fun v φ' m' w' cR hr=>hK _ _ φ' m' ?_)
  unfold bz
  rw[hg]
  cases hd:o.dst with
  |none=>simpa[hd,Act.put]using cR
  |some t=>
   simp only[hd]at h2
   simp only[hd,Option.getD_some,if_true]at cR hr |-
   refine cR.put (e:=⟨true,_⟩) h2 ?_
   unfold cN
   simpa using hr
 |false=>
  simp only[Bool.false_eq_true,if_false]
  refine⟨fun _ _=>trivial,hK _ _ φ m ?_⟩
  unfold bz
  rw[hg]
  cases hd:o.dst with
  |none=>simpa[hd,Act.put]using hC
  |some t=>
   simp only[hd]at h2
   simp only[Bool.false_eq_true,if_false]
   refine hC.put (e:=⟨false,_⟩) h2 ?_
   unfold cN
   simp
theorem Ku{P:Program}{Γ:FuncId->Option Spec}(hΓ:∀ f s,Γ f=some s->aT P f s){G:Ghost}{ops:Array Oper}{Q:Exit->Act->World->Prop}{K:S->Prop}:
 ∀ (n k:Nat) {φ:Name->Loc} {m:Mem} {σ:S} {a:Act} {w:World},k+n=ops.size->aV G φ m σ a w->qX P Γ ops (ops.toList.drop k) σ K->
   (∀ a' w' φ' m' σ',aV G φ' m' σ' a' w'->K σ'->Q .normal a' w')->wpOpsIn (gr G.rd) 0 P ops Q (List.range' k n) a w
 | 0,k,φ,m,σ,a,w,hk,hC,hr,hQ=>by
   have :ops.toList.drop k=[]:=List.drop_eq_nil_of_le (by simp;omega)
   rw[this]at hr
   exact hQ _ _ φ m σ hC hr
 |n+1,k,φ,m,σ,a,w,hk,hC,hr,hQ=>by
  have ae:k<ops.size:=by omega
  have hd:ops.toList.drop k=ops[k]::ops.toList.drop (k+1):=by
   rw[List.drop_eq_getElem_cons (by simpa using ae)];simp
  rw[hd]at hr
  obtain⟨h1,h2⟩:=hr
  rw[List.range'_succ,wpOpsIn_cons]
  exact DM hΓ hC (Array.getElem?_eq_getElem ae) h1 fun a' w' φ' m' cR=>Ku hΓ n (k+1) (by omega) cR h2 hQ
def CW(P:Program)(c:Code)(σ:S)(K:Exit->S->Prop):Prop:=
 ∀ (G:Ghost) (φ:Name->Loc) (m:Mem) (a:Act) (w:World),aV G φ m σ a w->c.wpIn (gr G.rd) 0 P (fun e a' w'=>∃ φ' m' σ',aV G φ' m' σ' a' w'/\K e σ') a w
def kr(k:S->Prop)(K:Exit->S->Prop):Exit->S->Prop
 | .normal,σ=>k σ
 |e,σ=>K e σ
def sy(id:Nat)(K:Exit->S->Prop):Exit->S->Prop
 | .exit l8,σ=>if l8=id then K .normal σ else K (.exit l8) σ
 |e,σ=>K e σ
theorem CW.mono{P:Program}{c:Code}{σ:S}{K K':Exit->S->Prop}(h:CW P c σ K)(hk:∀ e σ',K e σ'->K' e σ'):CW P c σ K':=
 fun G φ m a w hC=>wpIn_mono (h G φ m a w hC) fun e a' w' ⟨φ',m',σ',h1,h2⟩=>⟨φ',m',σ',h1,hk _ _ h2⟩
theorem CC{P:Program}{x y:Code}{σ:S}{K:Exit->S->Prop}(h:CW P x σ (kr (fun σ'=>CW P y σ' K) K)):CW P (.seq x y) σ K:=by
 intro G φ m a w hC
 refine wpIn_seq (wpIn_mono (h G φ m a w hC) ?_)
 rintro e a' w' ⟨φ',m',σ',h1,h2⟩
 cases e with
 |normal=>exact h2 G φ' m' a' w' h1
 |_=>exact⟨φ',m',σ',h1,h2⟩
theorem Q'{P:Program}{σ:S}{K:Exit->S->Prop}(h:K .normal σ):CW P .skip σ K:=
 fun G φ m a w hC=>wpIn_skip ⟨φ,m,σ,hC,h⟩
theorem Re{P:Program}{id:Nat}{σ:S}{K:Exit->S->Prop}(h:K (.exit id) σ):CW P (.exit id) σ K:=
 fun G φ m a w hC=>wpIn_exit ⟨φ,m,σ,hC,h⟩
theorem Ra{P:Program}{σ:S}{K:Exit->S->Prop}(h:K .ret σ):CW P .ret σ K:=
 fun G φ m a w hC=>wpIn_ret ⟨φ,m,σ,hC,h⟩
theorem acO{P:Program}{l:Nat}{σ:S}{K:Exit->S->Prop}(h:K .normal σ):CW P (.label l) σ K:=
 fun G φ m a w hC=>wpIn_label ⟨φ,m,σ,hC,h⟩
section
variable {P:Program} {b:Frame} {a:Act} {k:List Item} {cs:List Frame} {w:World}
theorem vu{c:Code}:step P (lone (b.atR a (.code (.scope c)::k)) cs w)=.next (lone (b.atR a (.code c:: .inScope c::k)) cs w):=
 step_lone_go (by simp[stepG,stepG.exec,Frame.atR])
theorem TX{c:Code}:step P (lone (b.atR a (.inScope c::k)) cs w)=.next (lone (b.atR a k) cs w):=
 step_lone_go (by simp[stepG,stepG.exec,Frame.atR])
end
theorem acN{P:Program}{c:Code}{σ:S}{K:Exit->S->Prop}(hng:∀ l σ',¬ K (.goto l) σ')(h:CW P c σ K):CW P (.scope c) σ K:=by
 intro G φ m a w hC b k cs dA hb hr
 have h0:(lone (b.atR a (.code (.scope c)::k)) cs w).fenced P (gr G.rd):=fenced_calm hb hr rfl
 obtain⟨e,a₁,w₁,⟨φ',m',σ',h1,h2⟩,ja⟩:=h G φ m a w hC b (.inScope c::k) cs dA hb hr
 cases e with
 |normal=>exact⟨.normal,a₁,w₁,⟨φ',m',σ',h1,h2⟩,.head h0 vu (StepsIn.trans ja (.one (fenced_calm hb hr rfl) TX))⟩
 |exit id=>
  have hx:exitTo id (.inScope c::k)=exitTo id k:=by simp[exitTo]
  exact⟨.exit id,a₁,w₁,⟨φ',m',σ',h1,h2⟩,fun k' hk=>.head h0 vu (ja.1 k' (by rw[hx];exact hk)),
   fun rX hk=>let ⟨k₁,h1,h2⟩:=ja.2 rX (by rw[hx];exact hk);⟨k₁,h1,.head h0 vu h2⟩⟩
 |goto l=>exact(hng l σ' h2).elim
 |ret=>exact⟨_,a₁,w₁,⟨φ',m',σ',h1,h2⟩,.of_steps (.one h0 vu) ja⟩
 |panic ch=>exact⟨_,a₁,w₁,⟨φ',m',σ',h1,h2⟩,.of_steps (.one h0 vu) ja⟩
 |outgrown=>exact⟨_,a₁,w₁,⟨φ',m',σ',h1,h2⟩,.of_steps (.one h0 vu) ja⟩
theorem H0{P:Program}{c:Operand}{x y:Code}{σ:S}{K:Exit->S->Prop}{b:Bool}(hc:dh σ c=true)(hd:ax σ c=.v (.bool b))
 (ht:b=true->CW P x σ K) (hf:b=false->CW P y σ K):CW P (.cond c x y) σ K:=by
 intro G φ m a w hC
 have hr:=cL hC hc
 rw[hd]at hr
 have he:a.eval c=.bool b:=by
  generalize a.eval c=u at hr
  cases hr with | v _ _ hr=>cases hr;rfl
 exact wpIn_cond_split he (fun e=>ht e G φ m a w hC) (fun e=>hf e G φ m a w hC)
theorem zx{P:Program}{id:Nat}{c:Code}{σ:S}{K:Exit->S->Prop}(h:CW P c σ (sy id K)):CW P (.block id c) σ K:=by
 intro G φ m a w hC
 refine wpIn_block (wpIn_mono (h G φ m a w hC) ?_)
 rintro e a' w' ⟨φ',m',σ',h1,h2⟩
 cases e with
 |exit l8=>
  simp only[Exit.inBlock]
  simp only[sy]at h2
  split<;>rename_i ue
  ·rw[if_pos ue]at h2;exact⟨φ',m',σ',h1,h2⟩
  ·rw[if_neg ue]at h2;exact⟨φ',m',σ',h1,h2⟩
 |_=>exact⟨φ',m',σ',h1,h2⟩
def eN(σ σ':S):Prop:=
 ∀ (G:Ghost) (φ:Name->Loc) (m:Mem) (a:Act) (w:World),aV G φ m σ a w->∃ φ',aV G φ' m σ' a w
theorem w5{P:Program}{c:Code}{σ σ':S}{K:Exit->S->Prop}(hw:eN σ σ')(h:CW P c σ' K):CW P c σ K:=by
 intro G φ m a w hC
 obtain⟨φ',cR⟩:=hw G φ m a w hC
 exact h G φ' m a w cR
theorem Rd{P:Program}{c:Code}{σ:S}{K:Exit->S->Prop}{ι:Type}(I:ι->S)(R:ι->Prop)(μ:ι->Nat)(i0:ι)(hR:R i0)(h0:eN σ (I i0))
 (round:∀ i,R i->CW P c (I i) (kr (fun σ'=>∃ i',R i'/\μ i'<μ i/\eN σ' (I i')) K)):CW P (.loop c) σ K:=by
 intro G φ m a w hC
 obtain⟨φ0,hC0⟩:=h0 G φ m a w hC
 intro b k cs dA hb hr
 have key:∀ n i,μ i=n->R i->∀ φ m a w,aV G φ m (I i) a w->
     ∃ e a' w',(∃ φ' m' σ',aV G φ' m' σ' a' w'/\K e σ')/\ArrivesIn (Machine.fenced P (gr G.rd)) P (lone (b.atR a (.code c:: .inLoop c::k)) cs w) b k cs e a' w':=by
  intro n
  induction n using Nat.strongRecOn with
  |_ n ih=>
   intro i hn hi φ m a w hC
   obtain⟨e,a₁,w₁,hq,ja⟩:=round i hi G φ m a w hC b (.inLoop c::k) cs dA hb hr
   obtain⟨φ',m',σ',h1,h2⟩:=hq
   cases e with
   |normal=>
    obtain⟨i',bP,ae,hw⟩:=h2
    obtain⟨vg,abW⟩:=hw G φ' m' a₁ w₁ h1
    obtain⟨e₂,a₂,w₂,hq₂,abD⟩:=ih (μ i') (hn▸ae) i' rfl bP vg m' a₁ w₁ abW
    exact⟨e₂,a₂,w₂,hq₂,.of_steps (StepsIn.trans ja (.one (fenced_calm hb hr rfl) stepR_inLoop)) abD⟩
   |exit id=>exact⟨_,a₁,w₁,⟨φ',m',σ',h1,h2⟩,.pass (x:=.inLoop c) rfl (fun _ _=>.inl (by simp)) ja⟩
   |goto l=>exact⟨_,a₁,w₁,⟨φ',m',σ',h1,h2⟩,.pass (x:=.inLoop c) rfl (fun _ _=>.inl (by simp)) ja⟩
   |ret=>exact⟨_,a₁,w₁,⟨φ',m',σ',h1,h2⟩,.pass (x:=.inLoop c) rfl (fun _ _=>.inl (by simp)) ja⟩
   |panic ch=>exact⟨_,a₁,w₁,⟨φ',m',σ',h1,h2⟩,.pass (x:=.inLoop c) rfl (fun _ _=>.inl (by simp)) ja⟩
   |outgrown=>exact⟨_,a₁,w₁,⟨φ',m',σ',h1,h2⟩,.pass (x:=.inLoop c) rfl (fun _ _=>.inl (by simp)) ja⟩
 obtain⟨e,a',w',hq,ja⟩:=key _ i0 rfl hR φ0 m a w hC0
 exact⟨e,a',w',hq,.of_steps (.one (fenced_calm hb hr rfl) stepR_loop) ja⟩
theorem HX{P:Program}{Γ:FuncId->Option Spec}(hΓ:∀ f s,Γ f=some s->aT P f s){id:Nat}{l:List Oper}{σ:S}{K:Exit->S->Prop}
 (h:∀ K':S->Prop,(∀ σ',K .normal σ'->K' σ')->qX P Γ l.toArray l σ K'):CW P (.region id l.toArray false) σ K:=by
 intro G φ m a w hC
 refine wpIn_region ?_
 rw[List.range_eq_range']
 refine Ku hΓ (ops:=l.toArray) l.toArray.size 0 (by simp) hC (K:=K .normal) (by simpa using h (K .normal) fun _ h=>h) fun a' w' φ' m' σ' cR hK=>⟨φ',m',σ',cR,hK⟩
mutual
def D.clos(dom:Name->Bool):D->Bool
 | .ref nm _=>dom nm
 | .msl nm _=>dom nm
 | .aref nm _ _ _=>dom nm
 | .map nm=>dom nm
 | .yld nm=>dom nm
 | .clo _ f c=>D.closL dom f&&D.closL dom c
 | .agg l=>D.closL dom l
 | .tup l=>D.closL dom l
 |_=>true
def D.closL(dom:Name->Bool):List D->Bool
 |[]=>true
 |d::r=>D.clos dom d&&D.closL dom r
end
theorem jF{dom:Name->Bool}:∀ {l:List D} {i:Nat} (h:i<l.length),D.closL dom l=true->D.clos dom l[i]=true
 |d::r,0,_,hc=>by simp only[D.closL,Bool.and_eq_true]at hc;exact hc.1
 |d::r,i+1,h,hc=>by simp only[D.closL,Bool.and_eq_true]at hc;exact jF (l:=r) (by simpa using h) hc.2
theorem aI.drop{φ:Name->Loc}{obj obj':Name->Option O}{m:Mem}{dom:Name->Bool}(ho:∀ nm,dom nm=true->obj' nm=obj nm){d:D}{u:Value}(h:aI φ obj m d u)
 (hc:D.clos dom d=true):aI φ obj' m d u:=by
 induction h with
 |any u=>exact .any u
 |v x u h=>exact .v x u h
 |nilsl a=>exact .nilsl a
 |nilmap=>exact .nilmap
 |ref nm off h=>simp only[D.clos]at hc;exact .ref nm off (by unfold tj;rw[ho _ hc];exact h)
 |map nm h=>simp only[D.clos]at hc;exact .map nm (by unfold tj;rw[ho _ hc];exact h)
 |yld nm h=>simp only[D.clos]at hc;exact .yld nm (by unfold tj;rw[ho _ hc];exact h)
 |msl nm k u h hu=>simp only[D.clos]at hc;exact .msl nm k u (by rw[ho _ hc];exact h) hu
 |aref nm k i off u h hu=>simp only[D.clos]at hc;exact .aref nm k i off u (by rw[ho _ hc];exact h) hu
 |clo fn fs cs us vs h1 h2 dS eH qo qn=>
  simp only[D.clos,Bool.and_eq_true]at hc
  exact .clo fn fs cs us vs h1 h2 (fun i a b=>qo i a b (jF a hc.1)) fun i a b=>qn i a b (jF a hc.2)
 |agg l us h dk hr ih=>simp only[D.clos]at hc;exact .agg l us h dk fun i a b=>ih i a b (jF a hc)
 |tup l us h hr ih=>simp only[D.clos]at hc;exact .tup l us h fun i a b=>ih i a b (jF a hc)
def O.clos(dom:Name->Bool):O->Bool
 | .box cs=>D.closL dom cs
 | .loop env _ _ _ _ _=>D.closL dom (env.map (·.d))
 |_=>true
mutual
theorem clos_imp{dom dom':Name->Bool}(hd:∀ nm,dom nm=true->dom' nm=true):∀ d:D,D.clos dom d=true->D.clos dom' d=true
 | .ref nm _,hc=>hd nm hc
 | .msl nm _,hc=>hd nm hc
 | .aref nm _ _ _,hc=>hd nm hc
 | .map nm,hc=>hd nm hc
 | .yld nm,hc=>hd nm hc
 | .clo _ f c,hc=>by
   simp only[D.clos,Bool.and_eq_true]at hc |-
   exact⟨uP hd f hc.1,uP hd c hc.2⟩
 | .agg l,hc=>by simp only[D.clos]at hc |-;exact uP hd l hc
 | .tup l,hc=>by simp only[D.clos]at hc |-;exact uP hd l hc
 | .v _,_=>by simp only[D.clos]
 | .nilsl,_=>by simp only[D.clos]
 | .nilmap,_=>by simp only[D.clos]
 | .any,_=>by simp only[D.clos]
theorem uP{dom dom':Name->Bool}(hd:∀ nm,dom nm=true->dom' nm=true):∀ l:List D,D.closL dom l=true->D.closL dom' l=true
 |[],_=>by simp only[D.closL]
 |d::r,hc=>by
  simp only[D.closL,Bool.and_eq_true]at hc |-
  exact⟨clos_imp hd d hc.1,uP hd r hc.2⟩
end
theorem O.clos_imp{dom dom':Name->Bool}(hd:∀ nm,dom nm=true->dom' nm=true){o:O}(h:O.clos dom o=true):O.clos dom' o=true:=by
 cases o with
 |box cs=>exact uP hd cs h
 |loop env=>exact uP hd _ h
 |_=>rfl
def eAny:E:=⟨true,.any⟩
def bu(nt:Nat)(p:Name)(H:Name->Option O)(l:List (Nat×E))(h:List (Name×O)):S:=
 ⟨nt,ey eAny l,fun nm=>if own p nm=true then ey none (h.map fun q=>(q.1,some q.2)) nm else H nm,p,0⟩
def cv(p:Name)(h:List (Name×O))(nm:Name):Bool:=!own p nm||h.any fun q=>q.1==nm
def cG(p:Name)(dom:Name->Bool)(H:Name->Option O):Prop:=∀ nm o,own p nm=false->H nm=some o->O.clos dom o=true
structure Fits (σ:S) (p:Name) (H:Name->Option O) (l:List (Nat×E)) (h:List (Name×O)):Prop where
 pre:σ.pre=p
 out:∀ nm,own p nm=false->σ.obj nm=H nm
 env:∀ q∈l,σ.env q.1=q.2
 obj:∀ q∈h,σ.obj q.1=some q.2
 envc:(l.all fun q=>D.clos (cv p h) q.2.d)=true
 objc:(h.all fun q=>O.clos (cv p h) q.2)=true
 outc:cG p (cv p h) H
theorem vO{α β:Type}[DecidableEq α]{z:β}:∀ (l:List (α×β)) (x:α),ey z l x=z\/(x,ey z l x)∈l
 |[],x=>.inl rfl
 |(a,b)::r,x=>by
  simp only[ey]
  split
  ·rename_i h;subst h;exact .inr (by simp)
  ·rcases vO r x with h | h
   ·exact .inl h
   ·exact .inr (List.mem_cons_of_mem _ h)
theorem Fits.dom{σ:S}{p:Name}{H:Name->Option O}{l:List (Nat×E)}{h:List (Name×O)}(hf:Fits σ p H l h):∀ nm,cv p h nm=true->(bu σ.nt p H l h).obj nm=σ.obj nm:=by
 intro nm hd
 simp only[cv,Bool.or_eq_true,Bool.not_eq_true',List.any_eq_true,beq_iff_eq]at hd
 cases ho:own p nm with
 |false=>
  simp only[bu,ho,Bool.false_eq_true,if_false]
  exact(hf.out nm ho).symm
 |true=>
 rw[ho]at hd
 simp only[Bool.true_eq_false,false_or]at hd
 obtain⟨q,hq,rfl⟩:=hd
 rw[hf.obj q hq]
 simp only[bu,ho,if_true]
 have key:∀ (h':List (Name×O)),(∀ r∈h',r∈h)->q∈h'->ey none (h'.map fun q=>(q.1,some q.2)) q.1=some q.2:=by
  intro h' hs OW
  induction h' with
  |nil=>simp at OW
  |cons r rs ih=>
   simp only[List.map_cons,ey]
   split
   ·rename_i e
    have h1:=hf.obj r (hs r (by simp))
    have h2:=hf.obj q hq
    rw[<-e]at h1
    rw[h1]at h2
    exact h2
   ·rename_i e
    rcases List.mem_cons.1 OW with h1 | h1
    ·subst h1;exact(e rfl).elim
    ·exact ih (fun r hr=>hs r (by simp[hr])) h1
 exact key h (fun _ h=>h) hq
theorem Fits.conc{σ:S}{p:Name}{H:Name->Option O}{l:List (Nat×E)}{h:List (Name×O)}(hf:Fits σ p H l h){G:Ghost}{φ:Name->Loc}{m:Mem}{a:Act}{w:World}(hC:aV G φ m σ a w):
 aV G φ m (bu σ.nt p H l h) a w:=by
 have yG:∀ nm o,(bu σ.nt p H l h).obj nm=some o->σ.obj nm=some o/\O.clos (cv p h) o=true:=by
  intro nm o hn
  simp only[bu]at hn
  split at hn
  ·rcases vO (z:=(none:Option O)) (h.map fun q=>(q.1,some q.2)) nm with h1 | h1
   ·rw[h1]at hn;cases hn
   ·rw[hn]at h1
    simp only[List.mem_map,Prod.mk.injEq,Option.some.injEq]at h1
    obtain⟨q,hq,h2,h3⟩:=h1
    have :=hf.obj q hq
    rw[h2,h3]at this
    have h5:=List.all_eq_true.1 hf.objc q hq
    rw[h3]at h5
    exact⟨this,h5⟩
  ·rename_i ho
   have dk:own p nm=false:=by simpa using ho
   exact⟨(hf.out nm dk).trans hn,hf.outc nm o dk hn⟩
 have sd:=hf.dom
 have uf:∀ nm,holds φ (bu σ.nt p H l h).obj nm->holds φ σ.obj nm:=fun nm ⟨o,h1,h2,h3⟩=>⟨o,(yG nm o h1).1,h2,h3⟩
 constructor
 ·intro t
  rcases vO (z:=eAny) l t with h1 | h1
  ·show cN φ _ m (ey eAny l t) _
   rw[h1];unfold cN eAny;simp;exact .any _
  ·show cN φ _ m (ey eAny l t) _
   have h2:=hf.env _ h1
   have h3:=List.all_eq_true.1 hf.envc _ h1
   have h4:=hC.tmps t
   simp only at h2 h3
   rw[h2]at h4
   unfold cN at h4 |-
   split
   ·rename_i hc
    rw[if_pos hc]at h4
    exact h4.drop sd h3
   ·rename_i hc
    rw[if_neg hc]at h4;exact h4
 ·exact hC.size
 ·exact hC.defers
 ·intro nm o hn
  obtain⟨h1,h4⟩:=yG nm o hn
  have h3:=hC.objs nm o h1
  cases o with
  |box cs=>
   obtain⟨g0,g1,g2,us,T,f,g3,g4,g5,g6⟩:=h3
   simp only[O.clos]at h4
   exact⟨g0,g1,g2,us,T,f,g3,g4,g5,fun i a b=>(g6 i a b).drop sd (jF a h4)⟩
  |loop env ps asg body st bS=>
   obtain⟨g0,g1,r,g2,g3,g4,g5,g6,g7,g8,g9⟩:=h3
   simp only[O.clos]at h4
   refine⟨g0,g1,r,g2,g3,g4,g5,g6,g7,g8,fun i a=>?_⟩
   have Cj:=g9 i a
   unfold cN at Cj |-
   split
   ·rename_i hc
    rw[if_pos hc]at Cj
    refine Cj.drop sd ?_
    have :=jF (l:=env.map (·.d)) (i:=i) (by simpa using a) h4
    simpa using this
   ·rename_i hc
    rwa [if_neg hc]at Cj
  |arr=>exact h3
  |map=>exact h3
  |fbox=>exact h3
  |farr=>exact h3
  |dead=>exact h3
 ·exact hC.mem
 ·exact fun nm hn=>hC.apart nm (uf nm hn)
 ·exact fun x y hx hy e=>hC.inj x y (uf x hx) (uf y hy) e
 ·exact fun nm hn=>hC.own nm (uf nm hn)
 ·exact hC.fr
 ·exact hC.fresh
 ·refine⟨fun nm o h5=>hC.kept.1 nm o h5 |> fun h6=>by rw[hf.pre]at h6;exact h6,fun nm o h5=>?_⟩
  obtain⟨o',h6,h7⟩:=hC.kept.2 nm o h5
  have h8:=hC.kept.1 nm o h5
  rw[hf.pre]at h8
  refine⟨o',?_,h7⟩
  simp only[bu,h8,Bool.false_eq_true,if_false]
  rw[<-hf.out nm h8]
  exact h6
theorem Fits.weak{σ:S}{p:Name}{H:Name->Option O}{l:List (Nat×E)}{h:List (Name×O)}(hf:Fits σ p H l h):eN σ (bu σ.nt p H l h):=
 fun _ φ _ _ _ hC=>⟨φ,hf.conc hC⟩
theorem Tx{σ:S}(t:Nat)(nm:Name)(sz:Nat)(he:σ.env t=⟨true,.nilsl⟩)(hn:σ.obj nm=none):
 eN σ ⟨σ.nt,upd σ.env t ⟨true,.msl nm 0⟩,upd σ.obj nm (some (.arr sz [])),σ.pre,σ.base⟩:=by
 intro G φ m a w hC
 have ht:=hC.tmps t
 rw[he]at ht
 unfold cN at ht
 simp only[if_true]at ht
 generalize hu:a.tmps.getD t undef=u at ht
 cases ht with
 |nilsl b=>
 have hx:=Ext.new (φ:=φ) hn ⟨0,0,0,true,b⟩ (.arr sz [])
 have cR:=hC.chg (w':=w) nm (.arr sz []) ⟨0,0,0,true,b⟩ hx ⟨rfl,rfl,rfl,Nat.le_refl _⟩ (fun _ _ _=>rfl) (fun h=>by cases h) (.inl ⟨rfl,rfl⟩)
 refine⟨_,{ cR with tmps:=fun x=>?_ }⟩
 by_cases yr:x=t
 ·subst yr
  simp only[aX]
  rw[hu]
  unfold cN
  simp only[if_true]
  refine .msl _ _ _ ⟨_,_,aX _ _ _,rfl,by simp,fun _=>?_⟩ rfl
  rw[aX];rfl
 ·have:=cR.tmps x
  simp only[bm _ _ _ yr]
  exact this
def oh(P:Program)(σ:S):ResultVar->R
 | .tmp t=>⟨(σ.env t).c=true,(σ.env t).d,σ.obj⟩
 | .cell a T=>⟨(σ.env a).c=true/\(match (σ.env a).d with | .ref _ _=>True | .v (.ptr _)=>True | _=>False)/\(km P σ.obj T (σ.env a).d).ok,(km P σ.obj T (σ.env a).d).d,σ.obj⟩
def cf(P:Program)(σ:S)(rs:List ResultVar):R:=
 match rs with
 |[r]=>oh P σ r
 |rs=>⟨∀ r∈rs,(oh P σ r).ok,.tup (rs.map fun r=>(oh P σ r).d),σ.obj⟩
def oe(P:Program)(rs:List ResultVar)(y:V):Exit->S->Prop
 | .normal,σ=>(cf P σ rs).ok/\(aQ 6 σ.obj (cf P σ rs).d).ok/\(aQ 6 σ.obj (cf P σ rs).d).x=y
 | .ret,σ=>(cf P σ rs).ok/\(aQ 6 σ.obj (cf P σ rs).d).ok/\(aQ 6 σ.obj (cf P σ rs).d).x=y
 |_,_=>False
def gv:Nat->List V->List (Nat×E)
 |_,[]=>[]
 |k,x::r=>(k,⟨true,.v x⟩)::gv (k+1) r
theorem IA:∀ {k:Nat} {xs:List V} {t:Nat} {e:E},(t,e)∈gv k xs->∃ (i:Nat) (h:i<xs.length),t=k+i/\e=⟨true,.v xs[i]⟩
 |k,[],t,e,h=>by simp[gv]at h
 |k,x::r,t,e,h=>by
  simp only[gv,List.mem_cons,Prod.mk.injEq]at h
  rcases h with⟨rfl,rfl⟩ | h
  ·exact⟨0,by simp,rfl,rfl⟩
  ·obtain⟨i,hi,h1,h2⟩:=IA h
   exact⟨i+1,by simpa using hi,by omega,by simpa using h2⟩
def vI(tmps:Array Value):ResultVar->Sem Value
 | .tmp t=>pure (tmps.getD t undef)
 | .cell b T=>do loadVar T (<-asAddr (tmps.getD b undef))
theorem V4(fn:Func)(tmps:Array Value):results fn tmps=(do
 let vs <-fn.results.mapM (vI tmps)
 pure (if h:vs.size=1 then vs[0]else .tuple vs)):=by
 unfold results
 have e:(fun r:ResultVar=>(match r with
     | .tmp t=>pure (tmps.getD t undef)
     | .cell a t=>do loadVar t (<-asAddr (tmps.getD a undef)):Sem Value))=vI tmps:=by
  funext r
  cases r<;>rfl
 rw[<-e]
 rfl
theorem V6{P:Program}{G:Ghost}{φ:Name->Loc}{m:Mem}{σ:S}{a:Act}{w:World}(hC:aV G φ m σ a w)(r:ResultVar)(aa:(oh P σ r).ok):
 ∃ v,(vI a.tmps r).run P w=.ok v w/\aI φ σ.obj m (oh P σ r).d v:=by
 cases r with
 |tmp t=>
  have :=hC.tmps t
  unfold cN at this
  simp only[oh]at aa
  rw[if_pos aa]at this
  exact⟨_,rfl,this⟩
 |cell b T=>
  simp only[oh]at aa |-
  obtain⟨h1,h2,h3⟩:=aa
  have ht:=hC.tmps b
  unfold cN at ht
  rw[if_pos h1]at ht
  have oG:vI a.tmps (.cell b T)=(do loadVar T (<-asAddr (a.tmps.getD b undef))):=rfl
  rw[oG]
  generalize a.tmps.getD b undef=u at *
  obtain⟨v,h4,h5,_⟩:=J0 hC ht h3
  refine⟨v,?_,h5⟩
  generalize (σ.env b).d=d at *
  cases ht with
  |ref=>simpa[Instr.loadAt,Instr.sureAddr,asAddr]using h4
  |v _ _ hv=>
   cases hv with
   |ptr=>simpa[Instr.loadAt,Instr.sureAddr,asAddr]using h4
   |_=>exact h2.elim
  |_=>exact h2.elim
theorem Kp{P:Program}{G:Ghost}{φ:Name->Loc}{m:Mem}{σ:S}{a:Act}{w:World}(hC:aV G φ m σ a w)(fn:Func)(aa:(cf P σ fn.results.toList).ok):
 ∃ v,(results fn a.tmps).run P w=.ok v w/\aI φ σ.obj m (cf P σ fn.results.toList).d v:=by
 have Pf:∀ (rs:List ResultVar),(∀ r∈rs,(oh P σ r).ok)->
     ∃ vs:List Value,(rs.mapM (vI a.tmps)).run P w=.ok vs w/\vs.length=rs.length/\
       ∀ i (h:i<rs.length) (h':i<vs.length),aI φ σ.obj m (oh P σ rs[i]).d vs[i]:=by
  intro rs
  induction rs with
  |nil=>intro _;exact⟨[],rfl,rfl,fun i h=>by simp at h⟩
  |cons r rs ih=>
   intro h
   obtain⟨v,h1,h2⟩:=V6 hC r (h r (by simp))
   obtain⟨vs,h3,h4,h5⟩:=ih (fun r hr=>h r (by simp[hr]))
   refine⟨v::vs,?_,by simp[h4],fun i hi bP=>?_⟩
   ·simp only[List.mapM_cons,Sem.run_bind]
    rw[h1]
    simp only[Result.andThen_ok]
    rw[h3]
    rfl
   ·cases i with
    |zero=>exact h2
    |succ i=>exact h5 i (by simpa using hi) (by simpa using bP)
 have BB:∀ vs:List Value,(fn.results.toList.mapM (vI a.tmps)).run P w=.ok vs w->
     (results fn a.tmps).run P w=.ok (if h:vs.toArray.size=1 then vs.toArray[0]else .tuple vs.toArray) w:=by
  intro vs h
  rw[V4,Array.mapM_eq_mapM_toList]
  simp only[Sem.run_bind,Sem.run_map]
  rw[h]
  rfl
 generalize cg:fn.results.toList=rs at *
 unfold cf at aa |-
 split at aa
 ·rename_i r
  obtain⟨vs,h1,h2,h3⟩:=Pf [r] (fun q hq=>by simp at hq;subst hq;exact aa)
  match vs,h2 with
  |[v],_=>exact⟨v,by simpa using BB [v] h1,h3 0 (by simp) (by simp)⟩
 ·rename_i aH
  obtain⟨vs,h1,h2,h3⟩:=Pf rs aa
  refine⟨.tuple vs.toArray,?_,?_⟩
  ·have:=BB vs h1
   rw[dif_neg (by
    simp only[List.size_toArray]
    intro e
    match rs,(h2▸e:rs.length=1)with
    |[r],_=>exact aH r rfl)]at this
   exact this
  ·refine .tup _ _ (by simp[h2]) fun i a b=>?_
   simp only[List.getElem_map,List.getElem_toArray]
   exact h3 i (by simpa using a) (by simpa using b)
mutual
def V.wf:V->Prop
 | .sl l=>l.length<=maxLen/\V.wfL l
 | .agg l=>V.wfL l
 | .tup l=>V.wfL l
 | .ptr l=>V.wfL l
 | .clo _ f c=>V.wfL f/\V.wfL c
 | .str s=>s.size<=maxLen
 |_=>True
def V.wfL:List V->Prop
 |[]=>True
 |x::r=>V.wf x/\V.wfL r
end
theorem pT:∀ {l:List V},(∀ i (h:i<l.length),V.wf l[i])->V.wfL l
 |[],_=>trivial
 |x::r,h=>⟨h 0 (by simp),pT fun i hi=>h (i+1) (by simpa using hi)⟩
theorem Tu{x:V}(h:∀ j (h:j<x.cells.length),V.wf x.cells[j]):V.wf x:=by
 cases x with
 |agg l=>exact pT h
 |_=>exact h 0 (by simp[V.cells])
theorem Tt{m:Mem}{x:V}{u:Value}(h:aU m x u):V.wf x:=by
 induction h with
 |int=>trivial
 |bool=>trivial
 |str s h=>exact h
 |slnil=>exact⟨Nat.zero_le _,trivial⟩
 |sl l b o cap sz c hn hl ka hs hc hr ho ih=>exact⟨hl,pT fun i hi=>Tu fun j hj=>ih i j hi hj⟩
 |agg l us h ho hr ih=>exact pT fun i hi=>ih i hi (by omega)
 |tup l us h hr ih=>exact pT fun i hi=>ih i hi (by omega)
 |ptr cs b o c ho hc hr ih=>exact pT fun i hi=>ih i hi
 |nilp=>trivial
 |clo fn fs cs us vs h1 h2 dS eH qo qn=>exact⟨pT fun i hi=>qo i hi (by omega),pT fun i hi=>qn i hi (by omega)⟩
 |nilfn=>trivial
theorem Tv{m:Mem}{xs:List V}{us:List Value}(h:u3 m xs us):V.wfL xs:=pT fun i hi=>Tt (h.2 i hi (by have:=h.1;omega))
theorem aV.take{G:Ghost}{φ:Name->Loc}{m:Mem}{σ:S}{a:Act}{w:World}{D:Nat}{ds:List Deferred}(hC:aV G φ m σ a w)(ha:a.defers={ target:=.collected D,args:= #[] }::ds):
 w.heap[D]?=some (.deferred (some []))/\aV G φ m σ { a with defers:=ds } (w.putObj D (.deferred none)):=by
 obtain⟨l,h1,h2,h3⟩:=hC.defers
 rw[ha]at h1
 cases l with
 |nil=>cases h1
 |cons D' l=>
  simp only[List.map_cons,List.cons.injEq,Deferred.mk.injEq,Target.collected.injEq,and_true]at h1
  obtain⟨rfl,rfl⟩:=h1
  obtain⟨h5,h6⟩:=h3 D (by simp)
  have hb:∀ b,b≠D->(w.putObj D (.deferred none)).heap[b]?=w.heap[b]?:=fun b hb=>World.putObj_heap_other hb
  have ae:=(Array.getElem?_eq_some_iff.1 h6).1
  refine⟨h6,?_⟩
  constructor
  ·exact hC.tmps
  ·exact hC.size
  ·refine⟨l,rfl,(List.nodup_cons.1 h2).2,fun E hE=>⟨(h3 E (by simp[hE])).1,?_⟩⟩
   rw[hb E (fun e=>(List.nodup_cons.1 h2).1 (e▸hE))]
   exact(h3 E (by simp[hE])).2
  ·intro nm o ho
   refine(hC.objs nm o ho).ext (Mem.le_refl m) (Ext.refl _ _) fun hm hn=>hb _ fun e=>?_
   exact(hC.objs nm o ho).notDef hm hn _ (by rw[e];exact h6)
  ·intro b off v h
   have h7:=hC.mem b off v h
   rw[sx (hb b (fun e=>by subst e;unfold World.cell? at h7;simp[h6]at h7))]
   exact h7
  ·exact hC.apart
  ·exact hC.inj
  ·exact hC.own
  ·refine⟨hC.fr.os,hC.fr.tape,hC.fr.output,by simpa using hC.fr.size,fun b dg ho=>?_⟩
   rw[hb b (by omega)]
   exact hC.fr.block b dg ho
  ·exact hC.fresh
  ·exact hC.kept
theorem Fh{P:Program}{F:Fence}{n:Nat}{G:Ghost}{φ:Name->Loc}{m:Mem}{σ:S}{fn:Func}{R:Ending->World->Prop}:∀ (ds:List Deferred) {a:Act} {w:World} (_:a.defers=ds) (_:aV G φ m σ a w)
 (_:∀ a' w',a'.tmps=a.tmps->aV G φ m σ a' w'->∃ v,(results fn a'.tmps).run P w'=.ok v w'/\R (.returned v) w'),LeavesInM F n P fn a.tmps R a.defers .returning w
 |[],a,w,ha,hC,fin=>by
  obtain⟨v,h1,h2⟩:=fin a w rfl hC
  rw[ha]
  exact⟨v,h1,h2⟩
 |d::ds,a,w,ha,hC,fin=>by
  obtain⟨l,h1,h2,h3⟩:=hC.defers
  rw[ha]at h1
  cases l with
  |nil=>cases h1
  |cons D l=>
   simp only[List.map_cons,List.cons.injEq]at h1
   obtain⟨h4,h5⟩:=hC.take (D:=D) (ds:=ds) (by rw[ha,h1.1])
   have :=Fh ds (F:=F) (n:=n) (a:={ a with defers:=ds }) (w:=w.putObj D (.deferred none)) rfl h5 (fun a' w' e cR=>fin a' w' e cR)
   rw[ha]
   refine⟨by simp,.inl ⟨D,_,by rw[h1.1],run_takeDeferred h4,this⟩⟩
theorem KT{P:Program}{f:FuncId}{fn:Func}{c:Code}{s:PSpec}{nt:Nat}{rs:List ResultVar}(hf:P.funcs[f]?=some fn)(hb:fn.body=some c)(cM:fn.ntmps=nt)(cg:fn.results.toList=rs)(mo:∀ args w,(callFunc f args).run P w=.ok (.enter f args) w)(aH:f≠yid)
 (dZ:s.flat=true->∀ xs,s.pre xs->(s.fn xs).flat=true)
 (h:∀ xs,s.pre xs->V.wfL xs->xs.length<=nt/\CW P c (bu nt [0] (fun _=>none) (gv 0 xs) []) (oe P rs (s.fn xs))):aZ P f s:=by
 subst cM
 subst cg
 refine⟨aH,mo,dZ,fun m w xs args hm hx hp=>?_⟩
 obtain⟨hlen,oS⟩:=h xs hp (Tv hx)
 have ef:xs.length=args.size:=by simpa using hx.1
 refine(callsIn_wide (n:=0)).1 (callsIn_of_wp_marks hf hb trivial ?_)
 have hC:aV ⟨w,m,fun _=>False,none,fun _=>⟨0,0,0,true,none⟩,fun _=>none,fun _ h=>by cases h⟩ (fun _=>⟨0,0,0,true,none⟩) m (bu fn.ntmps [0] (fun _=>none) (gv 0 xs) []) { tmps:=args++Array.replicate (fn.ntmps-args.size) undef,defers:=[] } w:=by
  constructor
  ·intro t
   show cN _ _ m (ey eAny (gv 0 xs) t) _
   rcases vO (z:=eAny) (gv 0 xs) t with h1 | h1
   ·rw[h1];unfold cN eAny;simp;exact .any _
   ·obtain⟨i,hi,h2,h3⟩:=IA h1
    rw[h3]
    unfold cN
    simp only[if_true]
    have bP:i<args.size:=by omega
    have e:((args++Array.replicate (fn.ntmps-args.size) undef).getD t undef)=args[i]:=by
     have aw:0+i<(args++Array.replicate (fn.ntmps-args.size) undef).size:=by simp;omega
     rw[h2]
     simp only[Array.getD,aw,dite_true]
     show (args++Array.replicate (fn.ntmps-args.size) undef)[0+i]=args[i]
     simp only[Nat.zero_add]
     exact Array.getElem_append_left bP
    rw[e]
    exact .v _ _ (by have:=hx.2 i hi (by simpa using bP);rw[Array.getElem_toList]at this;exact this)
  ·show (args++Array.replicate (fn.ntmps-args.size) undef).size=fn.ntmps
   simp;omega
  ·exact⟨[],rfl,by simp,by simp⟩
  ·intro nm o h;simp[bu,ey]at h
  ·exact hm
  ·rintro nm ⟨o,h,_⟩;simp[bu,ey]at h
  ·rintro nm k9 ⟨o,h,_⟩;simp[bu,ey]at h
  ·rintro nm ⟨o,h,_⟩;simp[bu,ey]at h
  ·exact⟨rfl,rfl,rfl,Nat.le_refl _,fun _ _ _=>rfl⟩
  ·intro b off v h;exact .inl h
  ·exact⟨fun _ _ h=>(by cases h),fun _ _ h=>(by cases h)⟩
 refine wpIn_mono (oS _ _ m _ w hC) ?_
 rintro e a1 w1 ⟨φ',m',σ',iQ,hK⟩
 have fin:(cf P σ' fn.results.toList).ok/\(aQ 6 σ'.obj (cf P σ' fn.results.toList).d).ok/\(aQ 6 σ'.obj (cf P σ' fn.results.toList).d).x=s.fn xs->
     LeavesInM Fence.wide 0 P fn a1.tmps (fun e w'=>∃ v m',e=.returned v/\RowKit.Below w.heap.size w w'/\Mem.le m m'/\
     (∀ b off c,m' b off=some c->m b off=some c\/(w.heap.size<=b/\w'.cell? ⟨b,off,none⟩=some c))/\aU m' (s.fn xs) v) a1.defers .returning w1:=by
  rintro⟨h1,h2,h3⟩
  refine Fh a1.defers rfl iQ fun a' w' _ cR=>?_
  obtain⟨v,h4,h5⟩:=Kp cR fn h1
  obtain⟨m2,h6,h7,_,h8,_⟩:=qF 6 _ _ _ _ _ _ cR _ _ h5 h2
  refine⟨v,h4,v,fun b off=>match m2 b off with | some c=>some c | none=>m b off,rfl,?_,?_,?_,?_⟩
  ·exact⟨cR.fr.os,cR.fr.tape,cR.fr.output,cR.fr.size,fun k hk=>cR.fr.block k hk (fun h=>h)⟩
  ·intro b off c hc
   show (match m2 b off with | some c=>some c | none=>m b off)=some c
   cases gD:m2 b off with
   |none=>exact hc
   |some c'=>
    have k1:=h7.mem b off c' gD
    have k2:=hm b off c hc
    have ae:=pL k2
    rw[sx (cR.fr.block b ae (fun h=>h))]at k1
    rw[k2]at k1
    exact k1.symm
  ·intro b off c hc
   have iN:(match m2 b off with | some c=>some c | none=>m b off)=some c:=hc
   cases gD:m2 b off with
   |none=>rw[gD]at iN;exact .inl iN
   |some c'=>
    rw[gD]at iN
    simp only[Option.some.injEq]at iN
    subst iN
    rcases h7.fresh b off c' gD with h | h | h
    ·exact .inl h
    ·exact .inr ⟨h,h7.mem b off c' gD⟩
    ·exact h.elim
  ·rw[<-h3]
   refine h8.mono fun b off c hc=>?_
   show (match m2 b off with | some c=>some c | none=>m b off)=some c
   rw[hc]
 cases e with
 |normal=>exact fin hK
 |ret=>exact fin hK
 |_=>exact hK.elim
theorem XI(n:Nat)(p:Name)(H:Name->Option O)(l:List (Nat×E))(h:List (Name×O)):(bu n p H l h).env=ey eAny l:=rfl
theorem XE(n:Nat)(p:Name)(H:Name->Option O)(l:List (Nat×E))(h:List (Name×O)):(bu n p H l h).obj=fun nm=>if own p nm=true then ey none (h.map fun q=>(q.1,some q.2)) nm else H nm:=rfl
theorem XF(n:Nat)(p:Name)(H:Name->Option O)(l:List (Nat×E))(h:List (Name×O)):(bu n p H l h).nt=n:=rfl
theorem XJ(n:Nat)(p:Name)(H:Name->Option O)(l:List (Nat×E))(h:List (Name×O)):(bu n p H l h).base=0:=rfl
theorem XD(n:Nat)(p:Name)(H:Name->Option O)(l:List (Nat×E))(h:List (Name×O)):(bu n p H l h).pre=p:=rfl
theorem A7{n:Nat}{p:Name}{H H':Name->Option O}{l:List (Nat×E)}{h:List (Name×O)}(hh:∀ nm,own p nm=false->H nm=H' nm):bu n p H l h=bu n p H' l h:=by
 unfold bu
 congr 1
 funext nm
 cases ho:own p nm with
 |true=>rfl
 |false=>simp only[Bool.false_eq_true,if_false];exact hh nm ho
theorem XH(n:Nat)(p:Name)(F H:Name->Option O)(l:List (Nat×E))(h:List (Name×O)):bu n p (fun nm=>if own p nm=true then F nm else H nm) l h=bu n p H l h:=
 A7 fun nm hn=>by simp[hn]
theorem XC{n:Nat}{p:Name}{H:Name->Option O}{nm:Name}{o:Option O}{l:List (Nat×E)}{h:List (Name×O)}(ho:own p nm=true):bu n p (upd H nm o) l h=bu n p H l h:=
 A7 fun x hx=>bm _ _ _ (by rintro rfl;rw[ho]at hx;cases hx)
theorem aez(p:Name)(dom:Name->Bool):cG p dom (fun _=>none)=True:=eq_true fun nm o _ h=>by cases h
theorem aeB(p:Name)(dom:Name->Bool)(F H:Name->Option O):cG p dom (fun nm=>if own p nm=true then F nm else H nm)=cG p dom H:=by
 refine propext ⟨fun k nm o ho h=>k nm o ho (by simp[ho,h]),fun k nm o ho h=>k nm o ho ?_⟩
 simpa[ho]using h
theorem aey{p:Name}{dom:Name->Bool}{H:Name->Option O}{nm:Name}{o:Option O}(ho:own p nm=true):cG p dom (upd H nm o)=cG p dom H:=by
 have e:∀ x,own p x=false->upd H nm o x=H x:=fun x hx=>bm _ _ _ (by rintro rfl;rw[ho]at hx;cases hx)
 exact propext ⟨fun k x q hx h=>k x q hx (by rw[e x hx];exact h),fun k x q hx h=>k x q hx (by rw[<-e x hx];exact h)⟩
theorem vd{p:Name}{dom:Name->Bool}{H:Name->Option O}{nm:Name}{o:O}(h1:O.clos dom o=true)(h2:cG p dom H):cG p dom (upd H nm (some o)):=by
 intro x q hx h
 by_cases e:x=nm
 ·subst e;rw[aX]at h;cases h;exact h1
 ·rw[bm _ _ _ e]at h;exact h2 x q hx h
def jq(ks:List Nat)(ns:List Name)(σ:S):S:=
 bu σ.nt σ.pre σ.obj (ks.map fun t=>(t,σ.env t)) (ns.filterMap fun nm=>(σ.obj nm).map fun o=>(nm,o))
def je(ks:List Nat)(ns:List Name)(σ:S):Prop:=
 (((ks.map fun t=>(t,σ.env t)).all fun q=>D.clos (cv σ.pre (ns.filterMap fun nm=>(σ.obj nm).map fun o=>(nm,o))) q.2.d)&&
 ((ns.filterMap fun nm=>(σ.obj nm).map fun o=>(nm,o)).all fun q=>O.clos (cv σ.pre (ns.filterMap fun nm=>(σ.obj nm).map fun o=>(nm,o))) q.2))=true/\
 cG σ.pre (cv σ.pre (ns.filterMap fun nm=>(σ.obj nm).map fun o=>(nm,o))) σ.obj
theorem DD{σ:S}(ks:List Nat)(ns:List Name)(h:je ks ns σ):eN σ (jq ks ns σ):=by
 unfold je at h
 simp only[Bool.and_eq_true]at h
 refine Fits.weak ⟨rfl,fun _ _=>rfl,fun p hp=>?_,fun p hp=>?_,h.1.1,h.1.2,h.2⟩
 ·simp only[List.mem_map]at hp
  obtain⟨t,_,rfl⟩:=hp
  rfl
 ·simp only[List.mem_filterMap,Option.map_eq_some_iff]at hp
  obtain⟨nm,_,o,h1,rfl⟩:=hp
  exact h1
theorem HY{P:Program}{c:Code}{σ:S}{K:Exit->S->Prop}(ks:List Nat)(ns:List Name)(h:je ks ns σ)(hc:CW P c (jq ks ns σ) K):CW P c σ K:=
 w5 (DD ks ns h) hc
def CL(P:Program):List Code->S->(Exit->S->Prop)->Prop
 |[],σ,K=>K .normal σ
 |c::r,σ,K=>CW P c σ (kr (fun σ'=>CL P r σ' K) K)
theorem kg{P:Program}{c:Code}{σ:S}{K:Exit->S->Prop}(h:CL P [c] σ K):CW P c σ K:=
 CW.mono h fun e σ' hk=>by cases e<;>exact hk
theorem bW{P:Program}{σ:S}{K:Exit->S->Prop}(h:K .normal σ):CL P [] σ K:=h
theorem fj{P:Program}{x y:Code}{r:List Code}{σ:S}{K:Exit->S->Prop}(h:CL P (x::y::r) σ K):CL P (.seq x y::r) σ K:=
 CC (CW.mono h fun e σ' hk=>by cases e<;>exact hk)
theorem aF{P:Program}{r:List Code}{σ:S}{K:Exit->S->Prop}(h:CL P r σ K):CL P (.skip::r) σ K:=Q' h
theorem bN{P:Program}{id:Nat}{r:List Code}{σ:S}{K:Exit->S->Prop}(h:K (.exit id) σ):CL P (.exit id::r) σ K:=Re h
theorem aB{P:Program}{r:List Code}{σ:S}{K:Exit->S->Prop}(h:K .ret σ):CL P (.ret::r) σ K:=Ra h
theorem RA{P:Program}{c:Operand}{x y:Code}{r:List Code}{σ:S}{K:Exit->S->Prop}{b:Bool}(hc:dh σ c=true)(hd:ax σ c=.v (.bool b))
 (ht:b=true->CL P (x::r) σ K) (hf:b=false->CL P (y::r) σ K):CL P (.cond c x y::r) σ K:=H0 hc hd ht hf
theorem aR{P:Program}{id:Nat}{c:Code}{r:List Code}{σ:S}{K:Exit->S->Prop}(h:CL P [c] σ (sy id (kr (fun σ'=>CL P r σ' K) K))):CL P (.block id c::r) σ K:=
 zx (kg h)
theorem Ia{P:Program}{c:Code}{r:List Code}{σ:S}{K:Exit->S->Prop}{ι:Type}(I:ι->S)(R:ι->Prop)(μ:ι->Nat)(i0:ι)(hR:R i0)(h0:eN σ (I i0))
 (round:∀ i,R i->CL P [c] (I i) (kr (fun σ'=>∃ i',R i'/\μ i'<μ i/\eN σ' (I i')) K)):CL P (.loop c::r) σ K:=
 Rd I R μ i0 hR h0 fun i hi=>CW.mono (kg (round i hi)) fun e σ' hk=>by cases e<;>exact hk
theorem CJ{P:Program}{Γ:FuncId->Option Spec}(hΓ:∀ f s,Γ f=some s->aT P f s){id:Nat}{l:List Oper}{c:Code}{r:List Code}{σ:S}{K:Exit->S->Prop}(ks:List Nat)(ns:List Name)
 (h:∀ K':S->Prop,(∀ σ',je ks ns σ'->CL P (c::r) (jq ks ns σ') K->K' σ')->qX P Γ l.toArray l σ K'):CL P (.region id l.toArray false::c::r) σ K:=
 HX hΓ fun K' hK=>h K' fun σ' hc hy=>hK σ' (HY ks ns hc hy)
theorem aW{P:Program}{Γ:FuncId->Option Spec}(hΓ:∀ f s,Γ f=some s->aT P f s){id:Nat}{l:List Oper}{σ:S}{K:Exit->S->Prop}
 (h:∀ K':S->Prop,(∀ σ',K .normal σ'->K' σ')->qX P Γ l.toArray l σ K'):CL P [.region id l.toArray false] σ K:=
 HX hΓ fun K' hK=>h K' fun σ' hc=>hK σ' hc
theorem DC{σ:S}(nt:Nat)(p:Name)(H:Name->Option O)(l:List (Nat×E))(h:List (Name×O))(hn:σ.nt=nt)(hp:σ.pre=p)(h0:∀ nm,own p nm=false->σ.obj nm=H nm)
 (h1:∀ q∈l,σ.env q.1=q.2) (h2:∀ q∈h,σ.obj q.1=some q.2)
 (h3:((l.all fun q=>D.clos (cv p h) q.2.d)&&(h.all fun q=>O.clos (cv p h) q.2))=true) (h4:cG p (cv p h) H):eN σ (bu nt p H l h):=by
 subst hn
 simp only[Bool.and_eq_true]at h3
 exact Fits.weak ⟨hp,h0,h1,h2,h3.1,h3.2,h4⟩
theorem ad7(obj:Name->Option O)(b p q:Bool):kj obj (.v (.bool b)) (.v (.bool p)) (.v (.bool q))=⟨True,.v (.bool (if b=true then p else q)),obj⟩:=rfl
theorem ad6(obj:Name->Option O)(x y:D):kj obj (.v (.bool false)) x y=⟨True,y,obj⟩:=by
 unfold kj
 simp only
 congr 1
 split
 ·simp_all
 ·rfl
theorem ad4(obj:Name->Option O)(x y:D):kj obj (.v (.bool true)) x y=⟨True,x,obj⟩:=by
 unfold kj
 simp only
 congr 1
 split
 ·simp_all
 ·rfl
attribute [go_sem] ad7 ad6 ad4
attribute [go_sem] Array.toList_append List.length_map List.forall_mem_cons List.not_mem_nil false_implies implies_true qX lZ bz pC fv pB HG Cq pk bn ax dh jV vP Op.operands Call.operands XI XE XF XD XJ Nat.zero_add XH XC aez aeB aey own oe gv ey TG jq je eAny kr sy km nP o6 nO pO lO lP o5 nH nM Sv o4 o3 kS nQ qU Bj mH nK mG nJ nI kT nL uX nN lQ dm R.bad bj D.boxable D.cells D.one V.cells V.one V.okc O.len? D.clos D.closL O.clos cv zG C2 xb zC eX uU xd aO aQ bD ie lB kx uF fF eG fW eT Value.cells cf oh List.map_cons List.map_nil List.all_cons List.all_nil List.any_cons List.any_nil List.filterMap_cons List.filterMap_nil Option.map_some Option.map_none Option.bind_some Option.bind_none Option.isSome_some Option.isSome_none Option.getD_some Option.getD_none Bool.and_true Bool.true_and Bool.and_false Bool.false_and Bool.or_true Bool.true_or Bool.or_false Bool.false_or Bool.not_true Bool.not_false List.cons.injEq true_and and_true if_true if_false Bool.false_eq_true forall_const true_implies List.length_cons List.length_nil List.getD_cons_zero List.getD_cons_succ List.drop_zero List.drop_succ_cons List.take_succ_cons List.take_zero List.nil_append List.cons_append beq_self_eq_true Prod.mk.injEq and_self
theorem wrap_i64{x:Int}(h0: -9223372036854775808<=x)(h1:x<=9223372036854775807):IntKind.i64.wrap x=x:=by
 rw[IntKind.wrap_i64];omega
theorem bc{i n:Nat}(h:i<n)(hn:n<=maxLen):IntKind.i64.wrap ((i:Int)+1)=((i+1:Nat):Int):=by
 unfold maxLen at hn
 rw[wrap_i64 (by omega) (by omega)];rfl
theorem ai{α:Type}{f:α->V}{l:List α}{i:Nat}(h:i<l.length):(l.map f).getD i default=f l[i]:=by
 rw[jB (by simpa using h)];simp
def cE(Γ:FuncId->Option Spec)(σ:S)(t:Name):Op->List Name
 | .alloc _ | .box _ _ | .makeMap _ _ | .makeSlice _ _ _=>[bj t]
 | .load _ x | .nilCheck x | .fieldAddr _ x _ | .indexAddr _ x _ | .lookup _ x _ _ | .store _ x _ | .mapUpdate _ x _ _ | .insert _ x _ _ | .slice _ x _ _ _=>a7 (ax σ x)
 | .binOp _ _ x _ _=>a7 (ax σ x)
 | .buildSlice _ _ ps=>fg (fp 4 σ.obj) (ps.toList.map fun p=>ax σ p.2)
 | .call ⟨.value f,args,_⟩=>match (hJ (ax σ f)).bind Γ with
   |some s=>s.foot σ.obj t (fA (ax σ f) (args.toList.map (ax σ)))
   |none=>[]
 | .call ⟨.builtin .append,args,_⟩=>match args.toList with
   |[s,x]=>a7 (ax σ s)++a7 (ax σ x)++[bj t]
   |_=>[]
 | .call ⟨.builtin .len,args,_⟩=>match args.toList with
   |[x]=>a7 (ax σ x)
   |_=>[]
 |_=>[]
def bV(Γ:FuncId->Option Spec)(σ:S)(t:Name):Op->List Name
 | .alloc _ | .box _ _ | .makeMap _ _ | .makeSlice _ _ _=>[bj t]
 | .store _ x _ | .mapUpdate _ x _ _ | .insert _ x _ _=>a7 (ax σ x)
 | .slice _ x _ _ _=>muts σ.obj (a7 (ax σ x))
 | .buildSlice _ _ ps=>muts σ.obj (fg (fp 4 σ.obj) (ps.toList.map fun p=>ax σ p.2))
 | .call ⟨.value f,args,_⟩=>match (hJ (ax σ f)).bind Γ with
   |some s=>s.wrt σ.obj t (fA (ax σ f) (args.toList.map (ax σ)))
   |none=>[]
 | .call ⟨.builtin .append,args,_⟩=>match args.toList with
   |[s,x]=>a7 (ax σ s)++a7 (ax σ x)++[bj t]
   |_=>[]
 |_=>[]
theorem ad3{P:Program}{obj:Name->Option O}{T:TypeId}{x:D}{lo hi mx:Option D}:Fz obj (kS P obj T x lo hi mx).obj:=by
 unfold kS
 repeat' split
 all_goals first
  |exact .refl obj
  |exact Fz.one (.refl obj) (by assumption) rfl rfl
theorem b8.muts{r r2:R}{obj obj2:Name->Option O}{W:List Name}(h:b8 r r2 obj obj2 W)(hz:Fz obj r.obj)(ha:bX W obj obj2):b8 r r2 obj obj2 (muts obj W):=by
 refine mJ.like (W:=W) ⟨h.ok,fun nm hn=>?_,h.frame,fun nm hn=>?_⟩ h.d hz ha
 ·rw[h.eff nm,if_pos hn]
 ·rw[h.eff nm,if_neg hn]
theorem Ff{ok:Prop}{d:D}{obj obj2:Name->Option O}:b8 ⟨ok,d,obj⟩ ⟨ok,d,obj2⟩ obj obj2 []:=.same rfl rfl rfl rfl
theorem Yh{P:Program}{obj obj2:Name->Option O}{T:TypeId}{ps:List (Nat×D)}:b8 (nO P obj T ps) (nO P obj2 T ps) obj obj2 []:=by
 unfold nO
 (repeat' split)<;>exact .same rfl rfl rfl rfl
theorem Yg{P:Program}{obj obj2:Name->Option O}{T:TypeId}{n:Nat}{ps:List (Nat×D)}(h:bX (fg (fp 4 obj) (ps.map (·.2))) obj obj2):
 b8 (pO P obj T n ps) (pO P obj2 T n ps) obj obj2 (muts obj (fg (fp 4 obj) (ps.map (·.2)))):=by
 have hm:bX (muts obj (fg (fp 4 obj) (ps.map (·.2)))) obj obj2:=fun nm hn=>h nm (List.mem_filter.1 hn).1
 obtain⟨h1,h2⟩:=zn (Ck 4) (ps.map (·.2)) obj obj2 _ (fun _ hn=>hn) h
 unfold pO
 split
 ·split
  ·exact .none _ hm
  ·refine mJ.like ⟨?_,h2.agr,h2.frame,h2.frame2⟩ (by rw[h1]) (zo (zm 4) _ obj) h
   rw[h1,h2.ok]
 ·exact .none _ hm
theorem Yj{P:Program}{obj obj2:Name->Option O}{op:BinOp}{T:TypeId}{x y:D}:b8 (o5 P obj op T x y) (o5 P obj2 op T x y) obj obj2 []:=by
 unfold o5
 (repeat' split)<;>first | exact .same rfl rfl rfl rfl | (exfalso;simp_all;done)
theorem Yi{P:Program}{obj obj2:Name->Option O}{op:BinOp}{T:TypeId}{x y:D}{l4:Bool}(h:bX (a7 x) obj obj2):b8 (nQ P obj op T x y l4) (nQ P obj2 op T x y l4) obj obj2 []:=by
 unfold nQ
 cases l4 with
 |true=>
  simp only
  unfold qU
  split
  ·exact .same rfl rfl rfl rfl
  ·rename_i nm k
   have h':obj2 nm=obj nm:=h nm (by simp[a7])
   rw[h']
   exact .same rfl rfl rfl rfl
  ·exact .same rfl rfl rfl rfl
 |false=>
  simp only
  split
  ·unfold ko
   split<;>exact .same rfl rfl rfl rfl
  ·exact Yj
theorem XY{obj obj2:Name->Option O}{op:UnOp}{x:D}:b8 (nH obj op x) (nH obj2 op x) obj obj2 []:=by
 unfold nH
 (repeat' split)<;>first | exact .same rfl rfl rfl rfl | (exfalso;simp_all;done)
theorem Yd{P:Program}{obj obj2:Name->Option O}{T T':TypeId}{x:D}:b8 (nM P obj T T' x) (nM P obj2 T T' x) obj obj2 []:=by
 unfold nM
 (repeat' split)<;>first | exact .same rfl rfl rfl rfl | (exfalso;simp_all;done)
theorem Yb{P:Program}{obj obj2:Name->Option O}{T:TypeId}{x:D}{f:Nat}:b8 (nK P obj T x f) (nK P obj2 T x f) obj obj2 []:=by
 unfold nK
 (repeat' split)<;>first | exact .same rfl rfl rfl rfl | (exfalso;simp_all;done)
theorem X'{P:Program}{obj obj2:Name->Option O}{T:TypeId}{x y:D}:b8 (nJ P obj T x y) (nJ P obj2 T x y) obj obj2 []:=by
 unfold nJ
 (repeat' split)<;>first | exact .same rfl rfl rfl rfl | (exfalso;simp_all;done)
theorem Yc{obj obj2:Name->Option O}{x:D}{i:Nat}:b8 (nL obj x i) (nL obj2 x i) obj obj2 []:=by
 unfold nL
 (repeat' split)<;>first | exact .same rfl rfl rfl rfl | (exfalso;simp_all;done)
theorem X1{obj obj2:Name->Option O}{c x y:D}:b8 (kj obj c x y) (kj obj2 c x y) obj obj2 []:=by
 unfold kj
 split<;>exact .same rfl rfl rfl rfl
theorem Yf{Γ:FuncId->Option Spec}(hN:∀ f s,Γ f=some s->s.Near){σ σ2:S}{t:Name}{f:D}{args:List D}
 (h:bX (match (hJ f).bind Γ with | some s=>s.foot σ.obj t (fA f args) | none=>[]) σ.obj σ2.obj):
 b8 (uX Γ σ t f args) (uX Γ σ2 t f args) σ.obj σ2.obj (match (hJ f).bind Γ with | some s=>s.wrt σ.obj t (fA f args) | none=>[])/\
 (match (hJ f).bind Γ with | some s=>s.foot σ2.obj t (fA f args) | none=>[])=(match (hJ f).bind Γ with | some s=>s.foot σ.obj t (fA f args) | none=>[]):=by
 unfold uX
 rcases hs:(hJ f).bind Γ with _ | s
 ·exact⟨.same rfl rfl rfl rfl,rfl⟩
 ·simp only[hs]at h |-
  obtain⟨g,_,hs⟩:=Option.bind_eq_some_iff.1 hs
  exact⟨(hN g s hs).like _ _ _ _ h,(hN g s hs).foot _ _ _ _ h⟩
theorem IB{P:Program}{Γ:FuncId->Option Spec}(hN:∀ f s,Γ f=some s->s.Near){σ σ2:S}(t:Name)(op:Op)
 (ho:∀ x∈op.operands.toList,ax σ2 x=ax σ x) (h:bX (cE Γ σ t op) σ.obj σ2.obj):
 b8 (bn P Γ σ t op) (bn P Γ σ2 t op) σ.obj σ2.obj (bV Γ σ t op)/\cE Γ σ2 t op=cE Γ σ t op:=by
 cases op with
 |move x=>exact⟨by simp only[bn,ho x (by simp[Op.operands])];exact Ff,rfl⟩
 |assign x=>exact⟨by simp only[bn,ho x (by simp[Op.operands])];exact Ff,rfl⟩
 |pick c x y=>exact⟨by simp only[bn,ho c (by simp[Op.operands]),ho x (by simp[Op.operands]),ho y (by simp[Op.operands])];exact X1,rfl⟩
 |alloc T=>exact⟨Yk h,rfl⟩
 |box T x=>exact⟨by simp only[bn,ho x (by simp[Op.operands])];exact Mg h,rfl⟩
 |build T ps=>
  have hp:(ps.toList.map fun p=>(p.1,ax σ2 p.2))=ps.toList.map fun p=>(p.1,ax σ p.2):=List.map_congr_left fun p hp=>by rw[ho p.2 (by simp only[Op.operands];exact List.mem_map_of_mem hp)]
  exact⟨by simp only[bn,hp];exact Yh,rfl⟩
 |buildSlice T n ps=>
  have hp:(ps.toList.map fun p=>(p.1,ax σ2 p.2))=ps.toList.map fun p=>(p.1,ax σ p.2):=List.map_congr_left fun p hp=>by rw[ho p.2 (by simp only[Op.operands];exact List.mem_map_of_mem hp)]
  have mh:(ps.toList.map fun p=>ax σ2 p.2)=ps.toList.map fun p=>ax σ p.2:=List.map_congr_left fun p hp=>by rw[ho p.2 (by simp only[Op.operands];exact List.mem_map_of_mem hp)]
  have hm:(ps.toList.map fun p=>(p.1,ax σ p.2)).map (·.2)=ps.toList.map fun p=>ax σ p.2:=by simp
  simp only[cE,bV]at h |-
  rw[mh]
  rw[<-hm]at h |-
  refine⟨?_,zp _ h⟩
  simp only[bn,hp]
  exact Yg h
 |load T x=>
  simp only[cE,bV,bn,ho x (by simp[Op.operands])]at h |-
  exact⟨X6 h,trivial⟩
 |store T x d=>
  simp only[cE,bV,bn,ho x (by simp[Op.operands]),ho d (by simp[Op.operands])]at h |-
  exact⟨XZ h,trivial⟩
 |nilCheck x=>
  simp only[cE,bV,bn,ho x (by simp[Op.operands])]at h |-
  exact⟨X2 h,trivial⟩
 |binOp op T x y c=>
  simp only[cE,bV,bn,ho x (by simp[Op.operands]),ho y (by simp[Op.operands])]at h |-
  exact⟨Yi h,trivial⟩
 |unOp op T x=>exact⟨by simp only[bn,ho x (by simp[Op.operands])];exact XY,rfl⟩
 |convert s d x=>exact⟨by simp only[bn,ho x (by simp[Op.operands])];exact Yd,rfl⟩
 |makeFunc fn f c=>
  have h1:f.toList.map (ax σ2)=f.toList.map (ax σ):=List.map_congr_left fun x hx=>ho x (by simp only[Op.operands,Array.toList_append];exact List.mem_append_left _ hx)
  have h2:c.toList.map (ax σ2)=c.toList.map (ax σ):=List.map_congr_left fun x hx=>ho x (by simp only[Op.operands,Array.toList_append];exact List.mem_append_right _ hx)
  exact⟨by simp only[bn,h1,h2];exact Ff,rfl⟩
 |makeMap T r=>
  have h1:r.map (ax σ2)=r.map (ax σ):=by
   cases r with
   |none=>rfl
   |some x=>simp only[Option.map_some,ho x (by simp[Op.operands])]
  exact⟨by simp only[bn,h1];exact X4 h,rfl⟩
 |makeSlice T l c=>exact⟨by simp only[bn,ho l (by simp[Op.operands]),ho c (by simp[Op.operands])];exact X3 h,rfl⟩
 |slice T x lo hi mx=>
  have e:∀ r:Option Operand,(∀ y∈r.toList,ax σ2 y=ax σ y)->r.map (ax σ2)=r.map (ax σ):=by
   intro r hr
   cases r with
   |none=>rfl
   |some x=>simp only[Option.map_some,hr x (by simp)]
  have h1:=e lo fun y hy=>ho y (by simp[Op.operands]at hy |-;simp[hy])
  have h2:=e hi fun y hy=>ho y (by simp[Op.operands]at hy |-;simp[hy])
  have h3:=e mx fun y hy=>ho y (by simp[Op.operands]at hy |-;simp[hy])
  simp only[cE,bV,bn,ho x (by simp[Op.operands]),h1,h2,h3]at h |-
  exact⟨(X0 h).muts ad3 h,trivial⟩
 |fieldAddr T x f=>
  simp only[cE,bV,bn,ho x (by simp[Op.operands])]at h |-
  exact⟨Ya h,trivial⟩
 |field T x f=>exact⟨by simp only[bn,ho x (by simp[Op.operands])];exact Yb,rfl⟩
 |indexAddr T x i=>
  simp only[cE,bV,bn,ho x (by simp[Op.operands]),ho i (by simp[Op.operands])]at h |-
  exact⟨X9 h,trivial⟩
 |index T x i=>exact⟨by simp only[bn,ho x (by simp[Op.operands]),ho i (by simp[Op.operands])];exact X',rfl⟩
 |lookup T x i co=>
  simp only[cE,bV,bn,ho x (by simp[Op.operands]),ho i (by simp[Op.operands])]at h |-
  exact⟨X5 h,trivial⟩
 |mapUpdate T x k d=>
  simp only[cE,bV,bn,ho x (by simp[Op.operands]),ho k (by simp[Op.operands]),ho d (by simp[Op.operands])]at h |-
  exact⟨Me h,trivial⟩
 |insert T x k d=>
  simp only[cE,bV,bn,ho x (by simp[Op.operands]),ho k (by simp[Op.operands]),ho d (by simp[Op.operands])]at h |-
  exact⟨Me h,trivial⟩
 |extract x i=>exact⟨by simp only[bn,ho x (by simp[Op.operands])];exact Yc,rfl⟩
 |call c=>
  obtain⟨callee,args,ts⟩:=c
  cases callee with
  |value f=>
   have h1:ax σ2 f=ax σ f:=ho f (by simp[Op.operands,Call.operands])
   have h2:args.toList.map (ax σ2)=args.toList.map (ax σ):=List.map_congr_left fun x hx=>ho x (by simp[Op.operands,Call.operands]at hx |-;simp[hx])
   simp only[cE,bV,bn,h1,h2]at h |-
   exact Yf hN h
  |builtin b=>
   have h2:args.toList.map (ax σ2)=args.toList.map (ax σ):=List.map_congr_left fun x hx=>ho x (by simp[Op.operands,Call.operands]at hx |-;simp[hx])
   have h3:∀ x∈args.toList,ax σ2 x=ax σ x:=fun x hx=>ho x (by simp[Op.operands,Call.operands]at hx |-;simp[hx])
   simp only[bn,h2]
   obtain⟨args⟩:=args
   obtain⟨ts⟩:=ts
   simp only at *
   cases b with
   |len=>
    rcases args with _ | ⟨x,_ | ⟨y,r⟩⟩
    ·exact⟨by rcases ts with _ | ⟨_,_ | _⟩<;>exact .same rfl rfl rfl rfl,rfl⟩
    ·simp only[cE,bV,h3 x (by simp),List.map_cons,List.map_nil]at h |-
     refine⟨?_,trivial⟩
     rcases ts with _ | ⟨T,_ | _⟩<;>first
      |exact .same rfl rfl rfl rfl
      |exact X7 h
    ·refine⟨?_,rfl⟩
     rcases ts with _ | ⟨_,_ | _⟩<;>exact .same rfl rfl rfl rfl
   |append=>
    rcases args with _ | ⟨s,_ | ⟨x,_ | ⟨y,r⟩⟩⟩
    ·refine⟨?_,rfl⟩
     rcases ts with _ | ⟨_,_ | ⟨_,_ | _⟩⟩<;>exact .same rfl rfl rfl rfl
    ·refine⟨?_,rfl⟩
     rcases ts with _ | ⟨_,_ | ⟨_,_ | _⟩⟩<;>exact .same rfl rfl rfl rfl
    ·simp only[cE,bV,h3 x (by simp),h3 s (by simp),List.map_cons,List.map_nil]at h |-
     refine⟨?_,trivial⟩
     rcases ts with _ | ⟨T1,_ | ⟨T2,_ | _⟩⟩<;>first
      |exact Bb h
      |exact .none _ h
    ·refine⟨?_,rfl⟩
     rcases ts with _ | ⟨_,_ | ⟨_,_ | _⟩⟩<;>exact .same rfl rfl rfl rfl
   |_=>
    refine⟨?_,rfl⟩
    show b8 _ _ _ _ []
    unfold nN
    (repeat' split)<;>first | exact .same rfl rfl rfl rfl | (exfalso;simp_all;done)
  |invoke r m=>exact⟨.same rfl rfl rfl rfl,rfl⟩
 |_=>exact⟨.same rfl rfl rfl rfl,rfl⟩
theorem adO{Γ:FuncId->Option Spec}(hN:∀ f s,Γ f=some s->s.Near){σ σ2:S}(t:Name)(op:Op)
 (ho:∀ x∈op.operands.toList,ax σ2 x=ax σ x) (h:bX (cE Γ σ t op) σ.obj σ2.obj):bV Γ σ2 t op=bV Γ σ t op:=by
 cases op with
 |buildSlice T n ps=>
  have mh:(ps.toList.map fun p=>ax σ2 p.2)=ps.toList.map fun p=>ax σ p.2:=List.map_congr_left fun p hp=>by rw[ho p.2 (by simp only[Op.operands];exact List.mem_map_of_mem hp)]
  simp only[cE,bV]at h |-
  rw[mh,zp _ h]
  exact E0 h
 |store T x d=>simp only[bV,ho x (by simp[Op.operands])]
 |mapUpdate T x k d=>simp only[bV,ho x (by simp[Op.operands])]
 |insert T x k d=>simp only[bV,ho x (by simp[Op.operands])]
 |slice T x lo hi mx=>
  simp only[cE,bV,ho x (by simp[Op.operands])]at h |-
  exact E0 h
 |call c=>
  obtain⟨callee,args,ts⟩:=c
  cases callee with
  |value f=>
   have h1:ax σ2 f=ax σ f:=ho f (by simp[Op.operands,Call.operands])
   have h2:args.toList.map (ax σ2)=args.toList.map (ax σ):=List.map_congr_left fun x hx=>ho x (by simp[Op.operands,Call.operands]at hx |-;simp[hx])
   simp only[cE,bV,h1,h2]at h |-
   cases hq:(hJ (ax σ f)).bind Γ with
   |none=>rfl
   |some s=>
    simp only[hq]at h |-
    obtain⟨g,hg,hs⟩:=Option.bind_eq_some_iff.1 hq
    exact(hN g s hs).wrt _ _ _ _ h
  |builtin b=>
   have h3:∀ x∈args.toList,ax σ2 x=ax σ x:=fun x hx=>ho x (by simp[Op.operands,Call.operands]at hx |-;simp[hx])
   obtain⟨args⟩:=args
   simp only at *
   cases b with
   |append=>
    rcases args with _ | ⟨s,_ | ⟨x,_ | ⟨y,r⟩⟩⟩<;>first
     |rfl
     |simp only[bV,h3 x (by simp),h3 s (by simp)]
   |_=>rfl
  |invoke r m=>rfl
 |_=>rfl
theorem I'{Γ:FuncId->Option Spec}(hN:∀ f s,Γ f=some s->s.Near){σ:S}(t:Name)(op:Op):∀ nm∈bV Γ σ t op,nm∈cE Γ σ t op:=by
 intro nm hn
 cases op with
 |buildSlice T n ps=>exact(List.mem_filter.1 hn).1
 |slice T x lo hi mx=>exact(List.mem_filter.1 hn).1
 |call c=>
  obtain⟨callee,args,ts⟩:=c
  cases callee with
  |value f=>
   simp only[cE,bV]at hn |-
   cases hq:(hJ (ax σ f)).bind Γ with
   |none=>simp[hq]at hn
   |some s=>
    simp only[hq]at hn |-
    obtain⟨g,hg,hs⟩:=Option.bind_eq_some_iff.1 hq
    exact(hN g s hs).sub _ _ _ _ hn
  |builtin b=>cases b<;>first | exact hn | (simp[bV]at hn;done)
  |invoke r m=>simp[bV]at hn
 |_=>first | exact hn | (simp[bV]at hn;done)
section
variable {P:Program} {Γ:FuncId->Option Spec} {ops:Array Oper}
abbrev Oper.tt (σ:S) (o:Oper):Name:=(σ.base+o.dst.getD 0)::σ.pre
theorem WO{σ σ':S}{x:Operand}(h:∀ t,x=.tmp t->σ'.env t=σ.env t):ax σ' x=ax σ x/\dh σ' x=dh σ x:=by
 cases x with
 |tmp t=>exact⟨by simp only[ax,h t rfl],by simp only[dh,h t rfl]⟩
 |_=>exact⟨rfl,rfl⟩
theorem XQ{o:Oper}{x:Operand}(hx:x∈o.op.operands.toList){t:Nat}(h:x=.tmp t):t∈o.looksAt ops:=
 List.mem_append_left _ (List.mem_filterMap.2 ⟨x,hx,by subst h;rfl⟩)
theorem L6{o:Oper}{j:Nat}{b:Bool}(hg:o.guard=some (j,b)){s:Nat}(h:pB ops j=some s):s∈o.looksAt ops:=by
 refine List.mem_append_right _ ?_
 unfold pB at h
 simp[hg,h]
theorem acS{σ σ':S}{op:Op}(h:∀ x∈op.operands.toList,ax σ' x=ax σ x/\dh σ' x=dh σ x):pk σ' op=pk σ op:=by
 have eM:op.operands.toList.all (dh σ')=op.operands.toList.all (dh σ):=by
  refine Bool.eq_iff_iff.2 ?_
  simp only[List.all_eq_true]
  exact⟨fun k x hx=>(h x hx).2▸k x hx,fun k x hx=>(h x hx).2.symm▸k x hx⟩
 cases op with
 |pick c x y=>
  simp only[pk]
  have h1:=h c (by simp[Op.operands])
  have h2:=h x (by simp[Op.operands])
  have h3:=h y (by simp[Op.operands])
  rw[h1.1,h1.2,h2.2,h3.2]
 |_=>exact eM
structure sD (P:Program) (Γ:FuncId->Option Spec) (ops:Array Oper) (σ σ':S) (o:Oper):Prop where
 obl:lZ P Γ ops σ' o↔lZ P Γ ops σ o
 g:fv ops σ' o=fv ops σ o
 d:(bn P Γ σ' (Oper.tt σ o) o.op).d=(bn P Γ σ (Oper.tt σ o) o.op).d
 eff:∀ nm,(bz P Γ ops σ' o).obj nm=if nm∈bV Γ σ (Oper.tt σ o) o.op then(bz P Γ ops σ o).obj nm else σ'.obj nm
 frame:∀ nm,nm∉bV Γ σ (Oper.tt σ o) o.op->(bz P Γ ops σ o).obj nm=σ.obj nm
 foot:cE Γ σ' (Oper.tt σ o) o.op=cE Γ σ (Oper.tt σ o) o.op
 wrt:bV Γ σ' (Oper.tt σ o) o.op=bV Γ σ (Oper.tt σ o) o.op
theorem xu(hN:∀ f s,Γ f=some s->s.Near){σ σ':S}(o:Oper)(cM:σ'.nt=σ.nt)(OT:σ'.pre=σ.pre)(B4:σ'.base=σ.base)(he:∀ t∈o.looksAt ops,σ'.env t=σ.env t)
 (ha:bX (cE Γ σ (Oper.tt σ o) o.op) σ.obj σ'.obj):sD P Γ ops σ σ' o:=by
 have hx:∀ x∈o.op.operands.toList,ax σ' x=ax σ x/\dh σ' x=dh σ x:=fun x hx=>WO fun t ht=>he t (XQ hx ht)
 have hg:fv ops σ' o=fv ops σ o:=by
  unfold fv
  cases GJ:o.guard with
  |none=>rfl
  |some p=>
   obtain⟨j,b⟩:=p
   simp only
   cases hs:pB ops j with
   |none=>rfl
   |some s=>simp only[he s (L6 GJ hs)]
 have hgk:pC ops σ' o↔pC ops σ o:=by
  unfold pC
  cases GJ:o.guard with
  |none=>exact Iff.rfl
  |some p=>
   obtain⟨j,b⟩:=p
   simp only
   cases hs:pB ops j with
   |none=>exact Iff.rfl
   |some s=>simp only[he s (L6 GJ hs),cM]
 obtain⟨h1,h2⟩:=IB (P:=P) hN (Oper.tt σ o) o.op (fun x h=>(hx x h).1) ha
 have h3:=adO hN (Oper.tt σ o) o.op (fun x h=>(hx x h).1) ha
 refine⟨?_,hg,h1.d,fun nm=>?_,fun nm hn=>?_,h2,h3⟩
 ·have aa:(bn P Γ σ' ((σ.base+o.dst.getD 0)::σ.pre) o.op).ok=(bn P Γ σ ((σ.base+o.dst.getD 0)::σ.pre) o.op).ok:=h1.ok
  unfold lZ
  rw[hgk,hg,cM,OT,B4,acS hx,aa]
 ·unfold bz
  simp only[hg,OT,B4]
  cases hc:fv ops σ o with
  |true=>simp only[if_true];exact h1.eff nm
  |false=>
   simp only[Bool.false_eq_true,if_false]
   split
   ·rename_i hn;exact ha nm (I' hN _ _ nm hn)
   ·rfl
 ·unfold bz
  cases hc:fv ops σ o with
  |true=>simp only[if_true];exact h1.frame nm hn
  |false=>simp only[Bool.false_eq_true,if_false]
theorem sN{σ:S}{o:Oper}{t:Nat}(h:o.dst≠some t):(bz P Γ ops σ o).env t=σ.env t:=by
 unfold bz
 cases hd:o.dst with
 |none=>rfl
 |some s=>exact bm _ _ _ (by rintro rfl;exact h hd)
def zU(a b:List Name):Prop:=∀ nm∈a,nm∉b
theorem comm{oi oj:Oper}(hN:∀ f s,Γ f=some s->s.Near){σ:S}(kb:oi.apart ops oj=true)
 (h1:zU (bV Γ σ (Oper.tt σ oi) oi.op) (cE Γ (bz P Γ ops σ oi) (Oper.tt σ oj) oj.op)) (h2:zU (bV Γ (bz P Γ ops σ oi) (Oper.tt σ oj) oj.op) (cE Γ σ (Oper.tt σ oi) oi.op)):
 sD P Γ ops (bz P Γ ops σ oi) σ oj/\sD P Γ ops σ (bz P Γ ops σ oj) oi/\bz P Γ ops (bz P Γ ops σ oj) oi=bz P Γ ops (bz P Γ ops σ oi) oj:=by
 obtain⟨a1,a2,a3⟩:=Oper.apart_spec kb
 have s0:sD P Γ ops σ σ oi:=xu hN oi rfl rfl rfl (fun _ _=>rfl) (fun _ _=>rfl)
 have s1:sD P Γ ops (bz P Γ ops σ oi) σ oj:=by
  refine xu hN oj rfl rfl rfl (fun t ht=>(sN fun hd=>a1 t hd ht).symm) fun nm hn=>?_
  exact(s0.frame nm fun hw=>h1 nm hw hn).symm
 have s2:sD P Γ ops σ (bz P Γ ops σ oj) oi:=by
  refine xu hN oi rfl rfl rfl (fun t ht=>sN fun hd=>a3 t hd ht) fun nm hn=>?_
  exact(s1.eff nm).trans (if_neg fun hw=>h2 nm hw hn)
 refine⟨s1,s2,?_⟩
 have e1:(bz P Γ ops (bz P Γ ops σ oj) oi).obj=(bz P Γ ops (bz P Γ ops σ oi) oj).obj:=by
  funext nm
  rw[s2.eff nm]
  by_cases hi:nm∈bV Γ σ (Oper.tt σ oi) oi.op
  ·rw[if_pos hi]
   have :=I' hN _ _ nm hi
   have s3:sD P Γ ops (bz P Γ ops σ oi) (bz P Γ ops σ oi) oj:=xu hN oj rfl rfl rfl (fun _ _=>rfl) (fun _ _=>rfl)
   exact(s3.frame nm fun hw=>h2 nm hw this).symm
  ·rw[if_neg hi,s1.eff nm]
   split
   ·rfl
   ·rename_i hj
    have s3:sD P Γ ops (bz P Γ ops σ oi) (bz P Γ ops σ oi) oj:=xu hN oj rfl rfl rfl (fun _ _=>rfl) (fun _ _=>rfl)
    rw[s3.frame nm hj,s0.frame nm hi]
 have e2:(bz P Γ ops (bz P Γ ops σ oj) oi).env=(bz P Γ ops (bz P Γ ops σ oi) oj).env:=by
  funext x
  by_cases hi:oi.dst=some x
  ·have hj:oj.dst≠some x:=a2 x hi
   rw[sN (σ:=bz P Γ ops σ oi) hj]
   show (match oi.dst with
    |some t=>upd (bz P Γ ops σ oj).env t ⟨fv ops (bz P Γ ops σ oj) oi,(bn P Γ (bz P Γ ops σ oj) ((σ.base+t)::σ.pre) oi.op).d⟩
    |none=>(bz P Γ ops σ oj).env) x=(match oi.dst with
    |some t=>upd σ.env t ⟨fv ops σ oi,(bn P Γ σ ((σ.base+t)::σ.pre) oi.op).d⟩
    |none=>σ.env) x
   have d1:=s2.d
   have g1:=s2.g
   unfold Oper.tt at d1
   simp only[hi,Option.getD_some]at d1 |-
   rw[aX,aX,d1,g1]
  ·rw[sN hi]
   by_cases hj:oj.dst=some x
   ·show (match oj.dst with
      |some t=>upd σ.env t ⟨fv ops σ oj,(bn P Γ σ ((σ.base+t)::σ.pre) oj.op).d⟩
      |none=>σ.env) x=(match oj.dst with
      |some t=>upd (bz P Γ ops σ oi).env t ⟨fv ops (bz P Γ ops σ oi) oj,(bn P Γ (bz P Γ ops σ oi) ((σ.base+t)::σ.pre) oj.op).d⟩
      |none=>(bz P Γ ops σ oi).env) x
    have d1:(bn P Γ σ (Oper.tt σ oj) oj.op).d=(bn P Γ (bz P Γ ops σ oi) (Oper.tt σ oj) oj.op).d:=s1.d
    have g1:=s1.g
    unfold Oper.tt at d1
    simp only[hj,Option.getD_some]at d1 |-
    rw[aX,aX,d1,g1]
   ·rw[sN hj,sN hj,sN hi]
 have e3:(bz P Γ ops (bz P Γ ops σ oj) oi).nt=(bz P Γ ops (bz P Γ ops σ oi) oj).nt:=rfl
 have e4:(bz P Γ ops (bz P Γ ops σ oj) oi).pre=(bz P Γ ops (bz P Γ ops σ oi) oj).pre:=rfl
 have e5:(bz P Γ ops (bz P Γ ops σ oj) oi).base=(bz P Γ ops (bz P Γ ops σ oi) oj).base:=rfl
 generalize bz P Γ ops (bz P Γ ops σ oj) oi=x at *
 generalize bz P Γ ops (bz P Γ ops σ oi) oj=y at *
 cases x;cases y
 simp only at e1 e2 e3 e4 e5
 subst e1 e2 e3 e4 e5
 rfl
structure sF where
 on:Nat
 foot:List Name
 wrt:List Name
def AT(anc:List Nat)(foot wrt:List Name)(L:List sF):Prop:=∀ e∈L,e.on∈anc\/(zU e.wrt foot/\zU wrt e.foot)
variable (P Γ ops)in
def sK(anc:Nat->List Nat)(L:List sF)(K:S->Prop):Nat->Array Bool->S->Prop
 | 0,listed,σ=>Region.ready .any ops listed=[]/\K σ
 |fuel+1,listed,σ=>(Region.ready .any ops listed=[]->K σ)/\∀ i∈Region.ready .any ops listed,∀ o,ops[i]?=some o->
    lZ P Γ ops σ o/\AT (anc i) (cE Γ σ (Oper.tt σ o) o.op) (bV Γ σ (Oper.tt σ o) o.op) L/\sK anc L K fuel (listed.setIfInBounds i true) (bz P Γ ops σ o)
def zV(ops:Array Oper)(anc:Nat->List Nat):Prop:=∀ j o,ops[j]?=some o->∀ i∈anc j,∃ e∈o.after,Region.binds .any e=true/\(e.on=i\/i∈anc e.on)
def vf(anc:Nat->List Nat)(listed:Array Bool):Prop:=∀ j,listed.getD j false=true->∀ i∈anc j,listed.getD i false=true
theorem vf.ready{anc:Nat->List Nat}{listed:Array Bool}(hA:zV ops anc)(h:vf anc listed){j:Nat}(hj:j∈Region.ready .any ops listed):∀ i∈anc j,listed.getD i false=true:=by
 intro i hi
 obtain⟨_,o,ho,eM⟩:=mem_ready.1 hj
 obtain⟨e,he,hb,h1⟩:=hA j o ho i hi
 have :=eM e he hb
 rcases h1 with h1 | h1
 ·rw[<-h1];exact this
 ·exact h _ this i h1
theorem vf.set{anc:Nat->List Nat}{listed:Array Bool}(hA:zV ops anc)(h:vf anc listed){j:Nat}(hj:j∈Region.ready .any ops listed):vf anc (listed.setIfInBounds j true):=by
 intro k hk i hi
 by_cases Pk:j=k
 ·subst Pk
  exact getD_set_true (h.ready hA hj i hi)
 ·rw[getD_set_ne false Pk]at hk
  exact getD_set_true (h k hk i hi)
theorem pull(hN:∀ f s,Γ f=some s->s.Near){anc:Nat->List Nat}(hA:zV ops anc){K:S->Prop}{i:Nat}{oi:Oper}(hi:ops[i]?=some oi){L:List sF}:
 ∀ (fuel:Nat) (listed:Array Bool) (σ:S),vf anc listed->
   (∀ j oj,ops[j]?=some oj->j≠i->listed.getD j true=false->i∉anc j->oi.apart ops oj=true)->
   i∈Region.ready .any ops listed->lZ P Γ ops σ oi->AT (anc i) (cE Γ σ (Oper.tt σ oi) oi.op) (bV Γ σ (Oper.tt σ oi) oi.op) L->
   sK P Γ ops anc (⟨i,cE Γ σ (Oper.tt σ oi) oi.op,bV Γ σ (Oper.tt σ oi) oi.op⟩::L) K fuel (listed.setIfInBounds i true) (bz P Γ ops σ oi)->
   sK P Γ ops anc L K (fuel+1) listed σ:=by
 have weaken:∀ (e:sF) (fuel:Nat) (listed:Array Bool) (σ:S),sK P Γ ops anc (e::L) K fuel listed σ->sK P Γ ops anc L K fuel listed σ:=by
  intro e fuel
  induction fuel with
  |zero=>exact fun _ _ h=>h
  |succ n ih=>exact fun listed σ h=>⟨h.1,fun i hi o ho=>⟨(h.2 i hi o ho).1,fun e' he'=>(h.2 i hi o ho).2.1 e' (List.mem_cons_of_mem _ he'),ih _ _ (h.2 i hi o ho).2.2⟩⟩
 intro fuel
 induction fuel with
 |zero=>
  intro listed σ cA GL hr fN aa H
  refine⟨fun h=>(by rw[h]at hr;cases hr),fun j hj oj tN=>?_⟩
  by_cases ff:j=i
  ·subst ff
   rw[hi]at tN;cases tN
   exact⟨fN,aa,weaken _ _ _ _ H⟩
  ·have:=ready_mono hj ff
   rw[H.1]at this
   cases this
 |succ fuel ih=>
  intro listed σ cA GL hr fN aa H
  refine⟨fun h=>(by rw[h]at hr;cases hr),fun j hj oj tN=>?_⟩
  by_cases ff:j=i
  ·subst ff
   rw[hi]at tN;cases tN
   exact⟨fN,aa,weaken _ _ _ _ H⟩
  ·obtain⟨g1,g2,g3⟩:=H.2 j (ready_mono hj ff) oj tN
   have yx:listed.getD j true=false:=(mem_ready.1 hj).1
   have BK:i∉anc j:=fun h=>by
    have h1:=cA.ready hA hj i h
    have h0:=(mem_ready.1 hr).1
    rcases Nat.lt_or_ge i listed.size with h' | h'
    ·simp[h']at h0 h1;rw[h0]at h1;cases h1
    ·simp[Array.getElem?_eq_none h']at h1
   rcases g2 _ List.mem_cons_self with k | ⟨d1,d2⟩
   ·exact(BK k).elim
   simp only at d1 d2
   obtain⟨s1,s2,s3⟩:=comm hN (GL j oj tN ff yx BK) d1 d2
   have f1:cE Γ σ (Oper.tt σ oj) oj.op=cE Γ (bz P Γ ops σ oi) (Oper.tt σ oj) oj.op:=s1.foot
   have f2:bV Γ σ (Oper.tt σ oj) oj.op=bV Γ (bz P Γ ops σ oi) (Oper.tt σ oj) oj.op:=s1.wrt
   have f3:cE Γ (bz P Γ ops σ oj) (Oper.tt σ oi) oi.op=cE Γ σ (Oper.tt σ oi) oi.op:=s2.foot
   have f4:bV Γ (bz P Γ ops σ oj) (Oper.tt σ oi) oi.op=bV Γ σ (Oper.tt σ oi) oi.op:=s2.wrt
   refine⟨s1.obl.2 g1,?_,?_⟩
   ·rw[f1,f2]
    exact fun e he=>g2 e (List.mem_cons_of_mem _ he)
   ·refine ih _ _ (cA.set hA hj) (fun k ok hk dE OD iq=>GL k ok hk dE ?_ iq) (ready_mono hr (Ne.symm ff)) (s2.obl.2 fN) ?_ ?_
    ·by_cases oJ:j=k
     ·subst oJ;exact yx
     ·rw[getD_set_ne true oJ]at OD;exact OD
    ·show AT (anc i) (cE Γ (bz P Γ ops σ oj) (Oper.tt σ oi) oi.op) (bV Γ (bz P Γ ops σ oj) (Oper.tt σ oi) oi.op) L
     rw[f3,f4];exact aa
    ·show sK P Γ ops anc (⟨i,cE Γ (bz P Γ ops σ oj) (Oper.tt σ oi) oi.op,bV Γ (bz P Γ ops σ oj) (Oper.tt σ oi) oi.op⟩::L) K fuel _ _
     rw[Array.setIfInBounds_comm _ _ ff,f3,f4,s3]
     exact g3
theorem Sn(hΓ:∀ f s,Γ f=some s->aT P f s){G:Ghost}{Q:Exit->Act->World->Prop}{K:S->Prop}{anc:Nat->List Nat}{L:List sF}:
 ∀ (fuel:Nat) (listed:Array Bool) {φ:Name->Loc} {m:Mem} {σ:S} {a:Act} {w:World},aV G φ m σ a w->sK P Γ ops anc L K fuel listed σ->
   (∀ a' w' φ' m' σ',aV G φ' m' σ' a' w'->K σ'->Q .normal a' w')->wpAnyIn (gr G.rd) 0 P .any ops Q fuel listed a w
 | 0,listed,φ,m,σ,a,w,hC,h,hQ=>⟨h.1,hQ _ _ φ m σ hC h.2⟩
 |fuel+1,listed,φ,m,σ,a,w,hC,h,hQ=>by
  refine⟨fun h0=>hQ _ _ φ m σ hC (h.1 h0),fun i hi=>?_⟩
  obtain⟨_,o,ho,_⟩:=mem_ready.1 hi
  obtain⟨h1,_,h3⟩:=h.2 i hi o ho
  exact DM hΓ hC ho h1 fun a' w' φ' m' cR=>Sn hΓ fuel _ cR h3 hQ
end
end Go.Eng
