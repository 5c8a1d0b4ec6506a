import Derived.Orders
import Derived.Below
import Derived.Lib.ItoaNum
import Derived.Laws.Cells
import Derived.Laws.Tables
import Derived.Laws.MakeOwn
import Derived.Deep.AppendSrc
import Derived.MapKept
import Derived.Laws.AppendOwn
import Derived.Lib.ConvBytes
import Derived.Laws.IdiomStrings
/- Texts Eng1 to Eng9. -/
set_option linter.all false
namespace Go.Eng
open Go
def dh:Value->Bool
 | .agg _=>false
 | .tuple _=>false
 |_=>true
abbrev Name:=List Nat
abbrev Mem:=Nat->Nat->Option Value
structure Loc where
 blk:Nat
 off:Nat
 cap:Nat
 nul:Bool
 nb:Option Addr
def Loc.slice(p:Loc)(k:Nat):Value:=if p.nul then .slice p.nb 0 0 else .slice (some ⟨p.blk,p.off,none⟩) k p.cap
inductive V where
 |int (k:IntKind) (n:Int)
 |bool (b:Bool)
 |str (s:ByteArray)
 |sl (l:List V)
 |agg (l:List V)
 |tup (l:List V)
 |ptr (cs:List V)
 |nilp
 |clo (fn:Fn) (first w9:List V)
 |nilfn
 deriving Inhabited
def V.cells:V->List V
 | .agg l=>l
 |x=>[x]
def V.one:V->Bool
 | .agg _=>false
 | .tup _=>false
 |_=>true
inductive D where
 |v (x:V)
 |nilsl
 |nilmap
 |ref (nm:Name) (off:Nat)
 |msl (nm:Name) (k:Nat)
 |aref (nm:Name) (k i off:Nat)
 |map (nm:Name)
 |yld (nm:Name)
 |clo (fn:Fn) (first w9:List D)
 |agg (l:List D)
 |tup (l:List D)
 |any
 deriving Inhabited
def D.one:D->Bool
 | .v x=>x.one
 | .agg _=>false
 | .tup _=>false
 | .any=>false
 |_=>true
def D.cells:D->List D
 | .agg l=>l
 | .v (.agg l)=>l.map .v
 |x=>[x]
structure E where
 c:Bool
 d:D
inductive O where
 |box (cs:List D)
 |arr (sz:Nat) (l:List V)
 |map (kd:Nat) (es:List (V×V))
 |fbox (cs:List V)
 |farr (sz:Nat) (l:List V)
 |dead (sz n:Nat)
 |loop (env:List E) (ps:List Nat) (asg body:Code) (st:LoopState) (aW:Option Code)
def bZ:Nat->V->Bool
 | 0,.int .i64 _=>true
 | 1,.str _=>true
 | 2,.agg [.int .i64 _,.int .i64 _]=>true
 |_,_=>false
def jy:V->V->Bool
 | .int _ a,.int _ b=>a==b
 | .str a,.str b=>a==b
 | .agg [.int _ a,.int _ b],.agg [.int _ c,.int _ d]=>a==c&&b==d
 |_,_=>false
def O.len?:O->Option Nat
 | .arr _ l=>some l.length
 | .farr _ l=>some l.length
 | .dead _ n=>some n
 |_=>none
def O.sz:O->Nat
 | .arr s _=>s
 | .farr s _=>s
 | .dead s _=>s
 |_=>0
def O.mut:O->Bool
 | .fbox _=>false
 | .farr _ _=>false
 | .dead _ _=>false
 |_=>true
structure S where
 nt:Nat
 env:Nat->E
 obj:Name->Option O
 pre:Name
 base:Nat
def upd{α β:Type}[DecidableEq α](f:α->β)(a:α)(b:β):α->β:=fun x=>if x=a then b else f x
theorem GY{α β:Type}[DecidableEq α](f:α->β)(a:α)(b:β)(x:α):upd f a b x=if x=a then b else f x:=rfl
theorem aD{α β:Type}[DecidableEq α](f:α->β)(a:α)(b:β):upd f a b a=b:=if_pos rfl
theorem aU{α β:Type}[DecidableEq α](f:α->β)(a:α)(b:β){x:α}(h:x≠a):upd f a b x=f x:=if_neg h
def cm{α β:Type}[DecidableEq α](z:β):List (α×β)->α->β
 |[],_=>z
 |(a,b)::r,x=>if x=a then b else cm z r x
inductive aw (m:Mem):V->Value->Prop
 |int (k:IntKind) (n:Int):aw m (.int k n) (.int k n)
 |bool (b:Bool):aw m (.bool b) (.bool b)
 |str (s:ByteArray) (h:s.size<=maxLen):aw m (.str s) (.string s)
 |slnil (a:Option Addr) (cap:Nat):aw m (.sl []) (.slice a 0 cap)
 |sl (l:List V) (b o cap sz:Nat) (c:Nat->Nat->Value) (hn:l≠[]) (hl:l.length<=maxLen) (fg:l.length<=cap)
    (hs:∀ i (h:i<l.length),(l[i].cells).length=sz)
    (hc:∀ i j,i<l.length->j<sz->m b (o+i*sz+j)=some (c i j))
    (hr:∀ i j (h:i<l.length) (h':j<(l[i].cells).length),aw m (l[i].cells)[j] (c i j))
    (ho:∀ i (h:i<l.length),∀ x∈l[i].cells,x.one=true):
    aw m (.sl l) (.slice (some ⟨b,o,none⟩) l.length cap)
 |agg (l:List V) (us:Array Value) (h:l.length=us.size) (ho:∀ x∈l,x.one=true)
    (hr:∀ i (h:i<l.length) (h':i<us.size),aw m l[i] us[i]):aw m (.agg l) (.agg us)
 |tup (l:List V) (us:Array Value) (h:l.length=us.size)
    (hr:∀ i (h:i<l.length) (h':i<us.size),aw m l[i] us[i]):aw m (.tup l) (.tuple us)
 |ptr (cs:List V) (b o:Nat) (c:Nat->Value) (ho:∀ y∈cs,y.one=true) (hc:∀ j,j<cs.length->m b (o+j)=some (c j))
    (hr:∀ j (h:j<cs.length),aw m cs[j] (c j)):aw m (.ptr cs) (.pointer (some ⟨b,o,none⟩))
 |nilp:aw m .nilp (.pointer none)
 |clo (fn:Fn) (fs cs:List V) (us vs:Array Value) (h1:fs.length=us.size) (h2:cs.length=vs.size)
    (bk:∀ i (h:i<fs.length) (h':i<us.size),aw m fs[i] us[i])
    (bX:∀ i (h:i<cs.length) (h':i<vs.size),aw m cs[i] vs[i]):aw m (.clo fn fs cs) (.func fn us vs)
 |nilfn:aw m .nilfn .nilFunc
def Mem.le(m m':Mem):Prop:=∀ b o v,m b o=some v->m' b o=some v
theorem Mem.le_refl(m:Mem):Mem.le m m:=fun _ _ _ h=>h
theorem Mem.le_trans{a b c:Mem}(h:Mem.le a b)(k:Mem.le b c):Mem.le a c:=fun _ _ _ x=>k _ _ _ (h _ _ _ x)
theorem aw.mono{m m':Mem}(hm:Mem.le m m'){x:V}{u:Value}(h:aw m x u):aw m' x u:=by
 induction h with
 |int k n=>exact .int k n
 |bool b=>exact .bool b
 |str s h=>exact .str s h
 |slnil a cap=>exact .slnil a cap
 |sl l b o cap sz c hn hl fg hs hc hr ho ih=>exact .sl l b o cap sz c hn hl fg hs (fun i j hi hj=>hm _ _ _ (hc i j hi hj)) ih ho
 |agg l us h ho hr ih=>exact .agg l us h ho ih
 |tup l us h hr ih=>exact .tup l us h ih
 |ptr x b o c ho hc hr ih=>exact .ptr x b o c ho (fun j hj=>hm _ _ _ (hc j hj)) ih
 |nilp=>exact .nilp
 |clo fn fs cs us vs h1 h2 bk bX jA jz=>exact .clo fn fs cs us vs h1 h2 jA jz
 |nilfn=>exact .nilfn
theorem aw.one{m:Mem}{x:V}{u:Value}(h:aw m x u)(hx:x.one=true):dh u=true:=by
 cases h<;>first | rfl | simp[V.one]at hx
theorem aw.cells{m:Mem}{x:V}{u:Value}(h:aw m x u):x.cells.length=u.cells.size:=by
 cases h<;>simp_all[V.cells,Value.cells]
theorem aw.cell{m:Mem}{x:V}{u:Value}(h:aw m x u)(i:Nat)(h1:i<x.cells.length)(h2:i<u.cells.size):aw m x.cells[i] u.cells[i]:=by
 cases h with
 |agg l us h ho hr=>exact hr i h1 h2
 |int k n=>simp only[V.cells,List.length_singleton,Nat.lt_one_iff]at h1;subst h1;exact .int k n
 |bool b=>simp only[V.cells,List.length_singleton,Nat.lt_one_iff]at h1;subst h1;exact .bool b
 |str s h=>simp only[V.cells,List.length_singleton,Nat.lt_one_iff]at h1;subst h1;exact .str s h
 |slnil a cap=>simp only[V.cells,List.length_singleton,Nat.lt_one_iff]at h1;subst h1;exact .slnil a cap
 |sl l b o cap sz c hn hl fg hs hc hr ho=>simp only[V.cells,List.length_singleton,Nat.lt_one_iff]at h1;subst h1;exact .sl l b o cap sz c hn hl fg hs hc hr ho
 |tup l us h hr=>simp only[V.cells,List.length_singleton,Nat.lt_one_iff]at h1;subst h1;exact .tup l us h hr
 |ptr x b o c ho hc hr=>simp only[V.cells,List.length_singleton,Nat.lt_one_iff]at h1;subst h1;exact .ptr x b o c ho hc hr
 |nilp=>simp only[V.cells,List.length_singleton,Nat.lt_one_iff]at h1;subst h1;exact .nilp
 |clo fn fs cs us vs a b c d=>simp only[V.cells,List.length_singleton,Nat.lt_one_iff]at h1;subst h1;exact .clo fn fs cs us vs a b c d
 |nilfn=>simp only[V.cells,List.length_singleton,Nat.lt_one_iff]at h1;subst h1;exact .nilfn
def lG(obj:Name->Option O)(nm:Name):Prop:=∃ o,obj nm=some o/\o.len?=none
inductive al (φ:Name->Loc) (obj:Name->Option O) (m:Mem):D->Value->Prop
 |any (u:Value):al φ obj m .any u
 |v (x:V) (u:Value) (h:aw m x u):al φ obj m (.v x) u
 |nilsl (a:Option Addr):al φ obj m .nilsl (.slice a 0 0)
 |nilmap:al φ obj m .nilmap (.map none)
 |ref (nm:Name) (off:Nat) (h:lG obj nm):al φ obj m (.ref nm off) (.pointer (some ⟨(φ nm).blk,(φ nm).off+off,none⟩))
 |map (nm:Name) (h:lG obj nm):al φ obj m (.map nm) (.map (some (φ nm).blk))
 |yld (nm:Name) (h:lG obj nm):al φ obj m (.yld nm) (.func (.yield (φ nm).blk) #[] #[])
 |msl (nm:Name) (k:Nat) (u:Value) (h:∃ o n,obj nm=some o/\o.len?=some n/\k<=n/\(k=n->u=(φ nm).slice k)) (hu:dh u=true):al φ obj m (.msl nm k) u
 |aref (nm:Name) (k i off:Nat) (u:Value)
    (h:∃ o n,obj nm=some o/\o.len?=some n/\k<=n/\(k=n->u=.pointer (some ⟨(φ nm).blk,(φ nm).off+i*o.sz+off,none⟩))) (hu:dh u=true):
    al φ obj m (.aref nm k i off) u
 |clo (fn:Fn) (fs cs:List D) (us vs:Array Value) (h1:fs.length=us.size) (h2:cs.length=vs.size)
    (bk:∀ i (h:i<fs.length) (h':i<us.size),al φ obj m fs[i] us[i])
    (bX:∀ i (h:i<cs.length) (h':i<vs.size),al φ obj m cs[i] vs[i]):al φ obj m (.clo fn fs cs) (.func fn us vs)
 |agg (l:List D) (us:Array Value) (h:l.length=us.size) (ho:∀ d∈l,d.one=true)
    (hr:∀ i (h:i<l.length) (h':i<us.size),al φ obj m l[i] us[i]):al φ obj m (.agg l) (.agg us)
 |tup (l:List D) (us:Array Value) (h:l.length=us.size)
    (hr:∀ i (h:i<l.length) (h':i<us.size),al φ obj m l[i] us[i]):al φ obj m (.tup l) (.tuple us)
def Ext(φ φ':Name->Loc)(obj obj':Name->Option O):Prop:=
 ∀ nm o,obj nm=some o->∃ o',obj' nm=some o'/\
   ((o'.len?=o.len?/\φ' nm=φ nm/\o'.sz=o.sz)\/(∃ n n',o.len?=some n/\o'.len?=some n'/\n<n'))
theorem Ext.trans{φ φ' mG:Name->Loc}{obj obj' obj'':Name->Option O}(h:Ext φ φ' obj obj')(k:Ext φ' mG obj' obj''):Ext φ mG obj obj'':=by
 intro nm o ho
 obtain⟨o',bA,h1⟩:=h nm o ho
 obtain⟨tK,Ob,h2⟩:=k nm o' bA
 refine⟨tK,Ob,?_⟩
 rcases h1 with⟨a1,a2,a3⟩ | ⟨n,n',a1,a2,a3⟩<;>rcases h2 with⟨b1,b2,b3⟩ | ⟨k,k',b1,b2,b3⟩
 ·exact .inl ⟨b1.trans a1,b2.trans a2,b3.trans a3⟩
 ·exact .inr ⟨k,k',a1▸b1,b2,b3⟩
 ·exact .inr ⟨n,n',a1,b1.trans a2,a3⟩
 ·rw[a2]at b1;cases b1
  exact .inr ⟨n,k',a1,b2,by omega⟩
theorem Ext.refl(φ:Name->Loc)(obj:Name->Option O):Ext φ φ obj obj:=fun _ o h=>⟨o,h,.inl ⟨rfl,rfl,rfl⟩⟩
theorem al.ext{φ φ':Name->Loc}{obj obj':Name->Option O}{m m':Mem}(hm:Mem.le m m')(hx:Ext φ φ' obj obj'){d:D}{u:Value}
 (h:al φ obj m d u):al φ' obj' m' d u:=by
 induction h with
 |any u=>exact .any u
 |v x u h=>exact .v x u (h.mono hm)
 |nilsl a=>exact .nilsl a
 |nilmap=>exact .nilmap
 |ref nm off h=>
  obtain⟨o,ho,hl⟩:=h
  obtain⟨o',bA,h⟩:=hx nm o ho
  rcases h with⟨h1,h2,h3⟩ | ⟨n,n',h1,h2,h3⟩
  ·rw[<-h2];exact .ref nm off ⟨o',bA,h1.trans hl⟩
  ·rw[hl]at h1;cases h1
 |map nm h=>
  obtain⟨o,ho,hl⟩:=h
  obtain⟨o',bA,h⟩:=hx nm o ho
  rcases h with⟨h1,h2,h3⟩ | ⟨n,n',h1,h2,h3⟩
  ·rw[<-h2];exact .map nm ⟨o',bA,h1.trans hl⟩
  ·rw[hl]at h1;cases h1
 |yld nm h=>
  obtain⟨o,ho,hl⟩:=h
  obtain⟨o',bA,h⟩:=hx nm o ho
  rcases h with⟨h1,h2,h3⟩ | ⟨n,n',h1,h2,h3⟩
  ·rw[<-h2];exact .yld nm ⟨o',bA,h1.trans hl⟩
  ·rw[hl]at h1;cases h1
 |msl nm k u h hu=>
  obtain⟨o,n,ho,hl,hk,he⟩:=h
  obtain⟨o',bA,h⟩:=hx nm o ho
  rcases h with⟨h1,h2,h3⟩ | ⟨n1,n',h1,h2,h3⟩
  ·exact .msl nm k u ⟨o',n,bA,h1.trans hl,hk,fun e=>by rw[h2];exact he e⟩ hu
  ·rw[hl]at h1;cases h1
   exact .msl nm k u ⟨o',n',bA,h2,by omega,fun e=>by omega⟩ hu
 |aref nm k i off u h hu=>
  obtain⟨o,n,ho,hl,hk,he⟩:=h
  obtain⟨o',bA,h⟩:=hx nm o ho
  rcases h with⟨h1,h2,h3⟩ | ⟨n1,n',h1,h2,h3⟩
  ·exact .aref nm k i off u ⟨o',n,bA,h1.trans hl,hk,fun e=>by rw[h2,h3];exact he e⟩ hu
  ·rw[hl]at h1;cases h1
   exact .aref nm k i off u ⟨o',n',bA,h2,by omega,fun e=>by omega⟩ hu
 |clo fn fs cs us vs h1 h2 bk bX jA jz=>exact .clo fn fs cs us vs h1 h2 jA jz
 |agg l us h ho hr ih=>exact .agg l us h ho ih
 |tup l us h hr ih=>exact .tup l us h ih
theorem al.one{φ:Name->Loc}{obj:Name->Option O}{m:Mem}{d:D}{u:Value}(h:al φ obj m d u)(hx:d.one=true):dh u=true:=by
 cases h with
 |v x u h=>exact h.one hx
 |msl=>assumption
 |aref=>assumption
 |any=>simp[D.one]at hx
 |agg=>simp[D.one]at hx
 |tup=>simp[D.one]at hx
 |_=>rfl
theorem al.cells{φ:Name->Loc}{obj:Name->Option O}{m:Mem}{d:D}{u:Value}(h:al φ obj m d u)(hd:d≠ .any):d.cells.length=u.cells.size:=by
 have ec:∀ u:Value,dh u=true->u.cells.size=1:=by intro u hu;cases u<;>simp_all[Value.cells,dh]
 cases h with
 |v x u h=>
  have :=h.cells
  cases x<;>simp_all[D.cells,V.cells]
 |any=>exact(hd rfl).elim
 |msl nm k u h hu=>simp[D.cells,ec u hu]
 |aref nm k i off u h hu=>simp[D.cells,ec u hu]
 |agg l us h ho hr=>exact h
 |_=>rfl
theorem al.cell{φ:Name->Loc}{obj:Name->Option O}{m:Mem}{d:D}{u:Value}(h:al φ obj m d u)(hd:d≠ .any)(i:Nat)(h1:i<d.cells.length)(h2:i<u.cells.size):
 al φ obj m d.cells[i] u.cells[i]:=by
 have one:∀ (h0:d.cells=[d]) (Eh:u.cells= #[u]),al φ obj m d.cells[i] u.cells[i]:=by
  intro h0 Eh
  have cZ:=h1
  rw[h0]at cZ
  simp only[List.length_singleton,Nat.lt_one_iff]at cZ
  subst cZ
  simp only[h0,Eh,List.getElem_cons_zero,List.getElem_toArray]
  exact h
 have ec:∀ u:Value,dh u=true->u.cells= #[u]:=by intro u hu;cases u<;>simp_all[Value.cells,dh]
 cases h with
 |v x u h=>
  cases h with
  |agg l us hl ho hr=>
   simp only[D.cells,List.length_map]at h1
   simp only[D.cells,List.getElem_map,Value.cells]
   exact .v _ _ (hr i h1 h2)
  |_=>exact one rfl rfl
 |any=>exact(hd rfl).elim
 |msl nm k u h hu=>exact one rfl (ec u hu)
 |aref nm k i off u h hu=>exact one rfl (ec u hu)
 |agg l us h ho hr=>exact hr i h1 h2
 |_=>exact one rfl rfl
def bn(φ:Name->Loc)(obj:Name->Option O)(m:Mem)(e:E)(u:Value):Prop:=
 if e.c=true then al φ obj m e.d u else u=undef
theorem bn.ext{φ φ':Name->Loc}{obj obj':Name->Option O}{m m':Mem}(hm:Mem.le m m')(hx:Ext φ φ' obj obj'){e:E}{u:Value}
 (h:bn φ obj m e u):bn φ' obj' m' e u:=by
 unfold bn at *
 split<;>simp_all
 exact h.ext hm hx
def s6:List (Nat×Array Value):=[]
def pP(w:World):Prop:=∀ q∈s6,∃ T f,w.heap[q.1]?=some (.cells q.2 T f)
structure Ghost where
 w0:World
 m0:Mem
 ob:Nat->Prop
 rd:Option Nat
 φ0:Name->Loc
 obj0:Name->Option O
 rdok:∀ l,rd=some l->¬ ob l/\∃ r,w0.heap[l]?=some (.loop r)
 tab:pP w0/\∀ q∈s6,¬ ob q.1
def own(p:Name):Name->Bool
 |[]=>false
 |_::r=>r==p||own p r
def dz(φ:Name->Loc)(obj:Name->Option O)(m:Mem)(o:O)(p:Loc)(w:World):Prop:=
 match o with
 | .box cs=>p.off=0/\p.nul=false/\(∀ d∈cs,d.one=true)/\∃ us T f,w.heap[p.blk]?=some (.cells us T f)/\f.1=f.2/\us.size=cs.length/\
     ∀ i (h:i<cs.length) (h':i<us.size),al φ obj m cs[i] us[i]
 | .arr sz l=>(p.nul=true/\l=[])\/(p.nul=false/\l.length<=p.cap/\p.cap<=maxLen/\(∀ i (h:i<l.length),(l[i].cells).length=sz)/\
     (∀ i (h:i<l.length),∀ x∈l[i].cells,x.one=true)/\∃ us T f,w.heap[p.blk]?=some (.cells us T f)/\f.1=f.2/\p.off+p.cap*sz<=us.size/\
     ∀ i j (h:i<l.length) (h':j<(l[i].cells).length),∃ c,us[p.off+i*sz+j]?=some c/\aw m (l[i].cells)[j] c)
 | .map kd es=>p.off=0/\p.nul=false/\(∀ q∈es,bZ kd q.1=true)/\∃ ents clock,w.heap[p.blk]?=some (.map ents clock)/\ents.size=es.length/\
     ∀ i (h:i<es.length) (h':i<ents.size),aw m es[i].1 ents[i].key/\aw m es[i].2 ents[i].val
 | .fbox cs=>(∀ x∈cs,x.one=true)/\∀ i (h:i<cs.length),∃ c,m p.blk (p.off+i)=some c/\aw m cs[i] c
 | .farr sz l=>(p.nul=true/\l=[])\/(p.nul=false/\(l.length<=p.cap/\l.length<=maxLen)/\(∀ i (h:i<l.length),(l[i].cells).length=sz)/\
     (∀ i (h:i<l.length),∀ x∈l[i].cells,x.one=true)/\
     ∀ i j (h:i<l.length) (h':j<(l[i].cells).length),∃ c,m p.blk (p.off+i*sz+j)=some c/\aw m (l[i].cells)[j] c)
 | .dead _ n=>(p.nul=true/\n=0)\/(p.nul=false/\n<=p.cap)
 | .loop env ps asg body st aW=>p.off=0/\p.nul=false/\∃ r:Loop,w.heap[p.blk]?=some (.loop r)/\r.state=st/\r.pending=aW/\r.params.toList=ps/\r.assign=asg/\r.body=body/\
     r.tmps.size=env.length/\∀ i (h:i<env.length),bn φ obj m env[i] (r.tmps.getD i undef)
def holds(φ:Name->Loc)(obj:Name->Option O)(nm:Name):Prop:=∃ o,obj nm=some o/\o.mut=true/\(φ nm).nul=false
structure Fr (G:Ghost) (w:World):Prop where
 os:w.os=G.w0.os
 tape:w.tape=G.w0.tape
 output:w.output=G.w0.output
 size:G.w0.heap.size<=w.heap.size
 block:∀ b,b<G.w0.heap.size->¬ G.ob b->w.heap[b]?=G.w0.heap[b]?
theorem Fr.tab{G:Ghost}{w:World}(h:Fr G w):pP w:=fun q hq=>by
 obtain⟨T,f,e⟩:=G.tab.1 q hq
 rw[h.block q.1 (Array.getElem?_eq_some_iff.1 e).1 (G.tab.2 q hq)]
 exact⟨T,f,e⟩
structure ay (G:Ghost) (φ:Name->Loc) (m:Mem) (σ:S) (a:Act) (w:World):Prop where
 tmps:∀ t,bn φ σ.obj m (σ.env t) (a.tmps.getD t undef)
 size:a.tmps.size=σ.nt
 defers:∃ ds:List Nat,a.defers=ds.map (fun D=>{ target:=.collected D,args:= #[] })/\ds.Nodup/\∀ D∈ds,G.w0.heap.size<=D/\w.heap[D]?=some (.deferred (some []))
 objs:∀ nm o,σ.obj nm=some o->dz φ σ.obj m o (φ nm) w
 mem:∀ b off v,m b off=some v->w.cell? ⟨b,off,none⟩=some v
 apart:∀ nm,holds φ σ.obj nm->∀ off,m (φ nm).blk off=none
 inj:∀ nm fT,holds φ σ.obj nm->holds φ σ.obj fT->(φ nm).blk=(φ fT).blk->nm=fT
 own:∀ nm,holds φ σ.obj nm->G.w0.heap.size<=(φ nm).blk\/G.ob (φ nm).blk
 fr:Fr G w
 fresh:∀ b off v,m b off=some v->G.m0 b off=some v\/G.w0.heap.size<=b\/G.ob b
 kept:(∀ nm o,G.obj0 nm=some o->Go.Eng.own σ.pre nm=false)/\Ext G.φ0 φ G.obj0 σ.obj
theorem jb{w:World}{b off:Nat}{s:Option Nat}{v:Value}(h:w.cell? ⟨b,off,s⟩=some v):b<w.heap.size:=by
 unfold World.cell? at h
 simp only at h
 cases hh:w.heap[b]? with
 |none=>simp[hh]at h
 |some o=>exact(Array.getElem?_eq_some_iff.1 hh).1
theorem kV{w w':World}{b off:Nat}{s:Option Nat}(h:w'.heap[b]?=w.heap[b]?):w'.cell? ⟨b,off,s⟩=w.cell? ⟨b,off,s⟩:=by
 unfold World.cell?
 simp only[h]
theorem dz.lt{φ:Name->Loc}{obj:Name->Option O}{m:Mem}{o:O}{p:Loc}{w:World}(h:dz φ obj m o p w)(hm:o.mut=true)(hn:p.nul=false):p.blk<w.heap.size:=by
 cases o with
 |box cs=>obtain⟨_,_,_,us,T,f,h,_⟩:=h;exact(Array.getElem?_eq_some_iff.1 h).1
 |arr sz l=>
  rcases h with⟨h,_⟩ | ⟨_,_,_,_,_,us,T,f,h,_⟩
  ·rw[h]at hn;cases hn
  ·exact(Array.getElem?_eq_some_iff.1 h).1
 |map kd es=>obtain⟨_,_,_,us,T,h,_⟩:=h;exact(Array.getElem?_eq_some_iff.1 h).1
 |loop=>obtain⟨_,_,r,h,_⟩:=h;exact(Array.getElem?_eq_some_iff.1 h).1
 |fbox=>cases hm
 |farr=>cases hm
 |dead=>cases hm
theorem dz.notDef{φ:Name->Loc}{obj:Name->Option O}{m:Mem}{o:O}{p:Loc}{w:World}(h:dz φ obj m o p w)(hm:o.mut=true)(hn:p.nul=false)(x:Option (List Deferred)):
 w.heap[p.blk]?≠some (.deferred x):=by
 intro hx
 cases o with
 |box cs=>obtain⟨_,_,_,us,T,f,h,_⟩:=h;rw[h]at hx;cases hx
 |arr sz l=>
  rcases h with⟨h,_⟩ | ⟨_,_,_,_,_,us,T,f,h,_⟩
  ·rw[h]at hn;cases hn
  ·rw[h]at hx;cases hx
 |map kd es=>obtain⟨_,_,_,us,T,h,_⟩:=h;rw[h]at hx;cases hx
 |loop=>obtain⟨_,_,r,h,_⟩:=h;rw[h]at hx;cases hx
 |fbox=>cases hm
 |farr=>cases hm
 |dead=>cases hm
theorem dz.ext{φ φ':Name->Loc}{obj obj':Name->Option O}{m m':Mem}{o:O}{p:Loc}{w w':World}(hm:Mem.le m m')(hx:Ext φ φ' obj obj')
 (hw:o.mut=true->p.nul=false->w'.heap[p.blk]?=w.heap[p.blk]?) (h:dz φ obj m o p w):dz φ' obj' m' o p w':=by
 cases o with
 |box cs=>
  obtain⟨h0,h1,cZ,us,T,f,h2,h3,h4,h5⟩:=h
  exact⟨h0,h1,cZ,us,T,f,by rw[hw rfl h1];exact h2,h3,h4,fun i a b=>(h5 i a b).ext hm hx⟩
 |arr sz l=>
  rcases h with⟨h,h'⟩ | ⟨h0,h1,h2,h3,h4,us,T,f,h5,h6,h7,h8⟩
  ·exact .inl ⟨h,h'⟩
  ·exact .inr ⟨h0,h1,h2,h3,h4,us,T,f,by rw[hw rfl h0];exact h5,h6,h7,fun i j a b=>let ⟨c,x,y⟩:=h8 i j a b;⟨c,x,y.mono hm⟩⟩
 |map kd es=>
  obtain⟨h0,h1,cZ,us,T,h2,h3,h4⟩:=h
  exact⟨h0,h1,cZ,us,T,by rw[hw rfl h1];exact h2,h3,fun i a b=>⟨(h4 i a b).1.mono hm,(h4 i a b).2.mono hm⟩⟩
 |fbox cs=>exact⟨h.1,fun i a=>let ⟨c,x,y⟩:=h.2 i a;⟨c,hm _ _ _ x,y.mono hm⟩⟩
 |farr sz l=>
  rcases h with⟨h,h'⟩ | ⟨h0,h1,h2,h3,h4⟩
  ·exact .inl ⟨h,h'⟩
  ·exact .inr ⟨h0,h1,h2,h3,fun i j a b=>let ⟨c,x,y⟩:=h4 i j a b;⟨c,hm _ _ _ x,y.mono hm⟩⟩
 |dead=>exact h
 |loop env ps asg body st aW=>
  obtain⟨h0,h1,r,h2,h3,h4,h5,h6,h7,h8,h9⟩:=h
  exact⟨h0,h1,r,by rw[hw rfl h1];exact h2,h3,h4,h5,h6,h7,h8,fun i a=>(h9 i a).ext hm hx⟩
theorem ay.chg{G:Ghost}{φ:Name->Loc}{m:Mem}{σ:S}{a:Act}{w w':World}(hC:ay G φ m σ a w)(nm:Name)(o':O)(p':Loc)
 (hx:Ext φ (upd φ nm p') σ.obj (upd σ.obj nm (some o')))
 (hw:w'.os=w.os/\w'.tape=w.tape/\w'.output=w.output/\w.heap.size<=w'.heap.size)
 (hb:∀ b,b<w.heap.size->(p'.nul=true\/b≠p'.blk)->w'.heap[b]?=w.heap[b]?)
 (hp:p'.nul=false->w.heap.size<=p'.blk\/(holds φ σ.obj nm/\(φ nm).blk=p'.blk))
 (hs:dz (upd φ nm p') (upd σ.obj nm (some o')) m o' p' w'):
 ay G (upd φ nm p') m { σ with obj:=upd σ.obj nm (some o') } a w':=by
 have ae:∀ x,holds φ σ.obj x->(φ x).blk<w.heap.size:=fun x ⟨o,h1,h2,h3⟩=>(hC.objs x o h1).lt h2 h3
 have hold:∀ x,x≠nm->holds (upd φ nm p') (upd σ.obj nm (some o')) x->holds φ σ.obj x:=by
  rintro x ar ⟨o,h1,h2,h3⟩
  rw[aU _ _ _ ar]at h1
  rw[aU _ _ _ ar]at h3
  exact⟨o,h1,h2,h3⟩
 have bC:holds (upd φ nm p') (upd σ.obj nm (some o')) nm->p'.nul=false:=by
  rintro⟨o,h1,h2,h3⟩;rwa [aD]at h3
 have vX:∀ x,x≠nm->holds φ σ.obj x->p'.nul=false->(φ x).blk≠p'.blk:=by
  intro x ar aO hn e
  rcases hp hn with h | ⟨h,h'⟩
  ·have:=ae x aO;omega
  ·exact ar (hC.inj _ _ aO h (e.trans h'.symm))
 have lY:∀ b off v,m b off=some v->b<w.heap.size/\(p'.nul=true\/b≠p'.blk):=by
  intro b off v h
  have h1:=hC.mem b off v h
  refine⟨jb h1,?_⟩
  cases hn:p'.nul with
  |true=>exact .inl rfl
  |false=>
   refine .inr fun e=>?_
   subst e
   rcases hp hn with h' | ⟨h',eg⟩
   ·have:=jb h1;omega
   ·have:=hC.apart nm h' off;rw[eg,h]at this;cases this
 constructor
 ·exact fun t=>(hC.tmps t).ext (Mem.le_refl m) hx
 ·exact hC.size
 ·obtain⟨ds,h1,h2,h3⟩:=hC.defers
  refine⟨ds,h1,h2,fun D hD=>⟨(h3 D hD).1,?_⟩⟩
  have hk:=(h3 D hD).2
  rw[hb D (Array.getElem?_eq_some_iff.1 hk).1 ?_]
  ·exact hk
  ·cases hn:p'.nul with
   |true=>exact .inl rfl
   |false=>
    refine .inr fun e=>?_
    rcases hp hn with h' | ⟨⟨o,h4,h5,h6⟩,eg⟩
    ·have:=(Array.getElem?_eq_some_iff.1 hk).1;omega
    ·exact(hC.objs nm o h4).notDef h5 h6 _ (by rw[eg,<-e];exact hk)
 ·intro x o iM
  simp only at iM
  by_cases ar:x=nm
  ·subst ar
   rw[aD]at iM
   cases iM
   rw[aD]
   exact hs
  ·rw[aU _ _ _ ar]at iM
   rw[aU _ _ _ ar]
   refine(hC.objs x o iM).ext (Mem.le_refl m) hx fun h1 h2=>?_
   refine hb _ (ae x ⟨o,iM,h1,h2⟩) ?_
   cases hn:p'.nul with
   |true=>exact .inl rfl
   |false=>exact .inr (vX x ar ⟨o,iM,h1,h2⟩ hn)
 ·intro b off v h
  obtain⟨h1,h2⟩:=lY b off v h
  rw[kV (hb b h1 h2)]
  exact hC.mem b off v h
 ·intro x aO off
  by_cases ar:x=nm
  ·subst ar
   rw[aD]
   cases hc:m p'.blk off with
   |none=>rfl
   |some v=>
    rcases(lY _ _ _ hc).2 with h | h
    ·rw[bC aO]at h;cases h
    ·exact(h rfl).elim
  ·rw[aU _ _ _ ar]
   exact hC.apart x (hold x ar aO) off
 ·intro x y aO hy e
  by_cases ar:x=nm
  ·by_cases iQ:y=nm
   ·rw[ar,iQ]
   ·subst ar
    rw[aD,aU _ _ _ iQ]at e
    exact(vX y iQ (hold y iQ hy) (bC aO) e.symm).elim
  ·by_cases iQ:y=nm
   ·subst iQ
    rw[aD,aU _ _ _ ar]at e
    exact(vX x ar (hold x ar aO) (bC hy) e).elim
   ·rw[aU _ _ _ ar,aU _ _ _ iQ]at e
    exact hC.inj _ _ (hold x ar aO) (hold y iQ hy) e
 ·intro x aO
  by_cases ar:x=nm
  ·subst ar
   rw[aD]
   rcases hp (bC aO)with h | ⟨h,h'⟩
   ·exact .inl (Nat.le_trans hC.fr.size h)
   ·rw[<-h'];exact hC.own _ h
  ·rw[aU _ _ _ ar]
   exact hC.own x (hold x ar aO)
 ·obtain⟨h1,h2,h3,h4⟩:=hw
  refine⟨h1.trans hC.fr.os,h2.trans hC.fr.tape,h3.trans hC.fr.output,Nat.le_trans hC.fr.size h4,fun b cE ho=>?_⟩
  rw[hb b (Nat.lt_of_lt_of_le cE hC.fr.size) ?_]
  ·exact hC.fr.block b cE ho
  ·cases hn:p'.nul with
   |true=>exact .inl rfl
   |false=>
    refine .inr fun e=>?_
    subst e
    rcases hp hn with h | ⟨h,h'⟩
    ·have:=hC.fr.size;omega
    ·rcases hC.own _ h with eg | eg<;>rw[h']at eg
     ·omega
     ·exact ho eg
 ·exact hC.fresh
 ·exact⟨hC.kept.1,hC.kept.2.trans hx⟩
theorem ay.imm{G:Ghost}{φ:Name->Loc}{m m':Mem}{σ:S}{a:Act}{w w':World}(hC:ay G φ m σ a w)(hm:Mem.le m m')
 (hw:w'.os=w.os/\w'.tape=w.tape/\w'.output=w.output/\w.heap.size<=w'.heap.size)
 (hb:∀ b,b<w.heap.size->w'.heap[b]?=w.heap[b]?)
 (hn:∀ b off v,m' b off=some v->m b off=some v\/(w.heap.size<=b/\w'.cell? ⟨b,off,none⟩=some v)):
 ay G φ m' σ a w':=by
 have ae:∀ x,holds φ σ.obj x->(φ x).blk<w.heap.size:=fun x ⟨o,h1,h2,h3⟩=>(hC.objs x o h1).lt h2 h3
 constructor
 ·exact fun t=>(hC.tmps t).ext hm (Ext.refl _ _)
 ·exact hC.size
 ·obtain⟨ds,h1,h2,h3⟩:=hC.defers
  exact⟨ds,h1,h2,fun D hD=>⟨(h3 D hD).1,(hb D (Array.getElem?_eq_some_iff.1 (h3 D hD).2).1).trans (h3 D hD).2⟩⟩
 ·exact fun x o iM=>(hC.objs x o iM).ext hm (Ext.refl _ _) fun h1 h2=>hb _ (ae x ⟨o,iM,h1,h2⟩)
 ·intro b off v h
  rcases hn b off v h with h' | h'
  ·have h1:=hC.mem b off v h'
   rw[kV (hb b (jb h1))];exact h1
  ·exact h'.2
 ·intro x hx off
  cases hc:m' (φ x).blk off with
  |none=>rfl
  |some v=>
   rcases hn _ _ _ hc with h | h
   ·have:=hC.apart x hx off;rw[h]at this;cases this
   ·have:=ae x hx;omega
 ·exact hC.inj
 ·exact hC.own
 ·obtain⟨h1,h2,h3,h4⟩:=hw
  exact⟨h1.trans hC.fr.os,h2.trans hC.fr.tape,h3.trans hC.fr.output,Nat.le_trans hC.fr.size h4,fun b cE ho=>
   (hb b (Nat.lt_of_lt_of_le cE hC.fr.size)).trans (hC.fr.block b cE ho)⟩
 ·intro b off v h
  rcases hn b off v h with h' | h'
  ·exact hC.fresh b off v h'
  ·exact .inr (.inl (Nat.le_trans hC.fr.size h'.1))
 ·exact hC.kept
theorem ay.put{G:Ghost}{φ:Name->Loc}{m:Mem}{σ:S}{a:Act}{w:World}(hC:ay G φ m σ a w){t:Nat}{e:E}{v:Value}(ht:t<σ.nt)
 (he:bn φ σ.obj m e v):ay G φ m { σ with env:=upd σ.env t e } (a.put (some t) v) w:=by
 refine⟨fun x=>?_,?_,hC.defers,hC.objs,hC.mem,hC.apart,hC.inj,hC.own,hC.fr,hC.fresh,hC.kept⟩
 ·have hs:t<a.tmps.size:=by rw[hC.size];exact ht
  simp only[Act.put]
  by_cases hx:x=t
  ·subst hx
   rw[aD]
   simp[Array.getD,hs]
   exact he
  ·rw[aU _ _ _ hx]
   have :=hC.tmps x
   simp only[Array.getD_eq_getD_getElem?]at this |-
   rw[Array.getElem?_setIfInBounds_ne (fun h=>hx h.symm)]
   exact this
 ·simp[Act.put,hC.size]
theorem ay.drawn{G:Ghost}{φ:Name->Loc}{m:Mem}{σ:S}{a:Act}{w:World}(hC:ay G φ m σ a w)(n:Nat):
 ay G φ m σ a { w with drawn:=n }:=
 hC.imm (Mem.le_refl m) ⟨rfl,rfl,rfl,Nat.le_refl _⟩ (fun _ _=>rfl) (fun _ _ _ h=>.inl h)
def aV(w:World)(g:Nat)(o:Obj):World:={ w with heap:=w.heap.setIfInBounds g o }
theorem dN{w:World}{g:Nat}{o:Obj}(h:g<w.heap.size):(aV w g o).heap[g]?=some o:=by
 simp[aV,h]
theorem fO{w:World}{g b:Nat}{o:Obj}(h:b≠g):(aV w g o).heap[b]?=w.heap[b]?:=by
 simp only[aV]
 exact Array.getElem?_setIfInBounds_ne (fun e=>h e.symm)
theorem pX{w:World}{g:Nat}{o:Obj}:(aV w g o).heap.size=w.heap.size:=by simp[aV]
theorem n5{w:World}{g:Nat}{o o':Obj}:aV (aV w g o) g o'=aV w g o':=by
 simp[aV,Array.setIfInBounds_setIfInBounds]
theorem xN{w:World}{g off:Nat}{us:Array Value}{T:TypeId}{f:Nat×Nat}(h:w.heap[g]?=some (.cells us T f))(v:Value):
 w.setCell ⟨g,off,none⟩ v=aV w g (.cells (us.setIfInBounds off v) T f):=by
 have hg:g<w.heap.size:=(Array.getElem?_eq_some_iff.1 h).1
 have he:w.heap[g]=.cells us T f:=by rw[Array.getElem?_eq_getElem hg]at h;simpa using h
 simp only[World.setCell,aV]
 congr 1
 apply Array.ext_getElem?
 intro i
 rw[Array.getElem?_modify]
 by_cases hi:g=i
 ·subst hi
  rw[if_pos rfl,h]
  simp[hg]
 ·rw[if_neg hi,Array.getElem?_setIfInBounds_ne hi]
theorem eP(b o j:Nat):(⟨b,o,none⟩:Addr).add j=⟨b,o+j,none⟩:=by
 unfold Addr.add;split<;>simp_all
theorem wv{w:World}{g off:Nat}{us:Array Value}{T:TypeId}{f:Nat×Nat}(h:w.heap[g]?=some (.cells us T f))(hf:f.1=f.2):
 w.frozen? ⟨g,off,none⟩=false:=by
 obtain⟨lo,hi⟩:=f
 simp only at hf
 subst hf
 simp[World.frozen?,h]
theorem gH{w:World}{g off:Nat}{us:Array Value}{T:TypeId}{f:Nat×Nat}(h:w.heap[g]?=some (.cells us T f)):
 w.cell? ⟨g,off,none⟩=us[off]?:=by
 simp[World.cell?,h]
theorem oq(P:Program)(g o:Nat)(T:TypeId)(f:Nat×Nat)(hf:f.1=f.2):∀ (vs:List Value) (i:Nat) (us:Array Value) (w:World),
 w.heap[g]?=some (.cells us T f)->o+i+vs.length<=us.size->(∀ v∈vs,dh v=true)->
 ∃ aP:Array Value,aP.size=us.size/\(∀ k,aP[k]?=if o+i<=k/\k<o+i+vs.length then vs[k-(o+i)]? else us[k]?)/\
   (storeCells ⟨g,o,none⟩ vs i).run P w=.ok () (aV w g (.cells aP T f))
 |[],i,us,w,hg,_,_=>by
  refine⟨us,rfl,fun k=>?_,?_⟩
  ·rw[if_neg];simp only[List.length_nil];omega
  ·have:aV w g (.cells us T f)=w:=by
     simp only[aV]
     congr 1
     apply Array.ext_getElem?
     intro j
     by_cases hj:g=j
     ·subst hj;rw[hg];simp[(Array.getElem?_eq_some_iff.1 hg).1]
     ·rw[Array.getElem?_setIfInBounds_ne hj]
   simp[storeCells,this]
 |v::rest,i,us,w,hg,hl,ho=>by
  have nA:g<w.heap.size:=(Array.getElem?_eq_some_iff.1 hg).1
  have hi:o+i<us.size:=by simp at hl;omega
  have h1:(store (Addr.add ⟨g,o,none⟩ i) v).run P w=.ok () (aV w g (.cells (us.setIfInBounds (o+i) v) T f)):=by
   rw[eP,run_store P w _ v .plain (by have:=ho v (by simp);cases v<;>simp_all[dh,Value.oneCell'])]
   rw[gH hg,Array.getElem?_eq_getElem hi,wv hg hf,xN hg]
   rfl
  obtain⟨aP,hs,hk,hr⟩:=oq P g o T f hf rest (i+1) (us.setIfInBounds (o+i) v) (aV w g (.cells (us.setIfInBounds (o+i) v) T f))
   (dN nA) (by simp at hl |-;omega) (fun x hx=>ho x (by simp[hx]))
  refine⟨aP,by simpa using hs,fun k=>?_,?_⟩
  ·rw[hk k]
   by_cases nx:o+i=k
   ·subst nx
    rw[if_neg (by omega),if_pos (by simp)]
    simp[hi]
   ·rw[Array.getElem?_setIfInBounds_ne nx]
    by_cases eI:o+(i+1)<=k/\k<o+(i+1)+rest.length
    ·rw[if_pos eI,if_pos (by simp;omega)]
     have :k-(o+i)=(k-(o+(i+1)))+1:=by omega
     rw[this,List.getElem?_cons_succ]
    ·rw[if_neg eI,if_neg (by simp;omega)]
  ·simp only[storeCells,Sem.run_bind,h1,Result.andThen_ok,hr,n5]
theorem II(P:Program)(w:World)(b o n:Nat)(f:Nat->Value)(h:∀ j,j<n->w.cell? ⟨b,o+j,none⟩=some (f j)):
 (loadCells ⟨b,o,none⟩ n).run P w=.ok ((List.range n).map f).toArray w:=
 run_loadCells w ⟨b,o,none⟩ n f fun j hj=>by rw[eP];exact h j hj
def Nh:TypeDesc->Bool
 | .struct _ | .array _ _=>true
 |_=>false
def aE(P:Program)(t:TypeId):Option (Bool×Nat):=
 match P.underlying t,P.info? t with
 |some d,some i=>some (Nh d,i.size)
 |_,_=>none
def aH(P:Program)(t:TypeId):Option Value:=(P.info? t).bind (·.zero)
def bg(P:Program)(t:TypeId):Option (TypeId×Nat×Nat):=
 match P.underlying t with
 |some (.slice e)=>(P.info? e).map fun i=>(e,i.size,i.bytes)
 |_=>none
def be(P:Program)(t:TypeId)(f:Nat):Option (Nat×Nat×Bool):=
 match P.underlying t with
 |some (.struct fs)=>(fs[f]?).bind fun x=>(aE P x.type).map fun y=>(x.offset,y.2,y.1)
 |_=>none
def dP(P:Program)(t:TypeId):Option (Nat×Nat×Bool):=
 match P.underlying t with
 |some (.array n e)=>(aE P e).map fun y=>(n,y.2,y.1)
 |_=>none
def fo(P:Program)(t:TypeId):Option IntKind:=
 match P.underlying t with
 |some (.int k)=>some k
 |_=>none
theorem xU{P:Program}{t:TypeId}{b:Bool}{n:Nat}(h:aE P t=some (b,n))(w:World):(isAgg t).run P w=.ok b w:=by
 unfold aE at h
 split at h
 ·rename_i d i h1 h2
  simp only[Option.some.injEq,Prod.mk.injEq]at h
  unfold isAgg
  rw[Sem.run_bind,run_underlying h1 w]
  simp only[Result.andThen_ok]
  cases d<;>(rw[<-h.1];rfl)
 ·cases h
theorem ka{P:Program}{t:TypeId}{b:Bool}{n:Nat}(h:aE P t=some (b,n))(w:World):(sizeOf t).run P w=.ok n w:=by
 unfold aE at h
 split at h
 ·rename_i d i h1 h2
  simp only[Option.some.injEq,Prod.mk.injEq]at h
  simp[sizeOf,typeInfo,h2,h.2]
 ·cases h
theorem IH{P:Program}{t:TypeId}{b:Bool}{n:Nat}(h:aE P t=some (b,n)){w:World}{blk off:Nat}(f:Nat->Value)
 (hn:b=false->0<n) (hc:∀ j,j<n->w.cell? ⟨blk,off+j,none⟩=some (f j)):
 (loadVar t ⟨blk,off,none⟩).run P w=.ok (if b then .agg ((List.range n).map f).toArray else f 0) w:=by
 simp only[loadVar,Sem.run_bind,xU h,Result.andThen_ok,Sem.run_ite,ka h,II P w blk off n f hc,Sem.run_pure,run_load]
 cases b
 ·have:=hc 0 (hn rfl)
  simp at this
  simp[this]
 ·simp
theorem xT{P:Program}{t:TypeId}{b:Bool}{n:Nat}(h:aE P t=some (b,n)){w:World}{g o:Nat}{us:Array Value}{T:TypeId}{f:Nat×Nat}
 (hf:f.1=f.2) (hg:w.heap[g]?=some (.cells us T f)) (v:Value) (hv:v.cells.size=n) (hl:o+n<=us.size) (ho:∀ c∈v.cells.toList,dh c=true):
 ∃ aP:Array Value,aP.size=us.size/\(∀ k,aP[k]?=if o<=k/\k<o+n then v.cells.toList[k-o]? else us[k]?)/\
   (storeVar t ⟨g,o,none⟩ v).run P w=.ok () (aV w g (.cells aP T f)):=by
 obtain⟨aP,h1,h2,h3⟩:=oq P g o T f hf v.cells.toList 0 us w hg (by simp[hv];omega) ho
 refine⟨aP,h1,fun k=>?_,?_⟩
 ·have:=h2 k
  simp only[Nat.add_zero,Array.length_toList,hv]at this
  exact this
 ·simp only[storeVar,Sem.run_bind,ka h,Result.andThen_ok,Sem.run_ite,hv,h3]
  simp
theorem dV{α:Type}{l:List α}{i:Nat}(h:i<l.length)(z:α):l.getD i z=l[i]:=by
 simp[List.getD,List.getElem?_eq_getElem h]
structure R where
 ok:Prop
 d:D
 obj:Name->Option O
def R.bad(obj:Name->Option O):R:=⟨False,.any,obj⟩
def mX:Value->D
 | .int k n=>.v (.int k n)
 | .bool b=>.v (.bool b)
 | .pointer none=>.v .nilp
 | .slice none 0 0=>.nilsl
 | .map none=>.nilmap
 | .nilFunc=>.v .nilfn
 | .string s=>if s.size<=maxLen then .v (.str s)else .any
 |_=>.any
def eW:Value->D
 | .agg cs=>if (cs.toList.map mX).all D.one=true then .agg (cs.toList.map mX)else .any
 |v=>mX v
theorem yL{φ:Name->Loc}{obj:Name->Option O}{m:Mem}(u:Value):al φ obj m (mX u) u:=by
 unfold mX
 split
 ·exact .v _ _ (.int _ _)
 ·exact .v _ _ (.bool _)
 ·exact .v _ _ .nilp
 ·exact .nilsl none
 ·exact .nilmap
 ·exact .v _ _ .nilfn
 ·split
  ·exact .v _ _ (.str _ (by assumption))
  ·exact .any _
 ·exact .any _
theorem mV{φ:Name->Loc}{obj:Name->Option O}{m:Mem}(u:Value):al φ obj m (eW u) u:=by
 unfold eW
 split
 ·split
  ·rename_i cs h
   refine .agg _ _ (by simp) (fun d hd=>List.all_eq_true.1 h d hd) fun i h1 h2=>?_
   simp only[List.getElem_map,Array.getElem_toList]
   exact yL _
  ·exact .any _
 ·exact yL _
def kY:D->Option V
 | .v x=>some x
 | .nilsl=>some (.sl [])
 |_=>none
def kX:List D->Option (List V)
 |[]=>some []
 |d::r=>match kY d,kX r with
  |some x,some xs=>some (x::xs)
  |_,_=>none
def ck:D->Option V
 | .v x=>some x
 | .nilsl=>some (.sl [])
 | .agg l=>(kX l).map .agg
 |_=>none
theorem Q3{φ:Name->Loc}{obj:Name->Option O}{m:Mem}{d:D}{u:Value}{x:V}(h:al φ obj m d u)(hx:kY d=some x):aw m x u:=by
 cases h<;>simp[kY]at hx
 ·subst hx;assumption
 ·subst hx;exact .slnil _ _
theorem Q4{d:D}{x:V}(hx:kY d=some x)(hd:d.one=true):x.one=true:=by
 cases d<;>simp[kY]at hx
 ·subst hx;exact hd
 ·subst hx;rfl
theorem FX:∀ {l:List D} {xs:List V},kX l=some xs->xs.length=l.length/\∀ i (h:i<l.length) (h':i<xs.length),kY l[i]=some xs[i]
 |[],xs,h=>by simp[kX]at h;subst h;simp
 |d::r,xs,h=>by
  simp only[kX]at h
  split at h
  ·rename_i x ys h1 h2
   simp only[Option.some.injEq]at h
   subst h
   obtain⟨h3,h4⟩:=FX h2
   refine⟨by simp[h3],fun i hi bl=>?_⟩
   cases i with
   |zero=>simpa using h1
   |succ i=>simpa using h4 i (by simpa using hi) (by simpa using bl)
  ·cases h
theorem jd{φ:Name->Loc}{obj:Name->Option O}{m:Mem}{d:D}{u:Value}{x:V}(h:al φ obj m d u)(hx:ck d=some x):aw m x u:=by
 cases h with
 |agg l us hl ho hr=>
  simp only[ck,Option.map_eq_some_iff]at hx
  obtain⟨xs,h1,h2⟩:=hx
  subst h2
  obtain⟨h3,h4⟩:=FX h1
  refine .agg xs us (h3.trans hl) (fun y hy=>?_) fun i h5 h6=>Q3 (hr i (by omega) h6) (h4 i (by omega) h5)
  obtain⟨i,hi,rfl⟩:=List.mem_iff_getElem.1 hy
  exact Q4 (h4 i (by omega) hi) (ho _ (List.getElem_mem _))
 |v y u h=>simp[ck]at hx;subst hx;exact h
 |nilsl a=>simp[ck]at hx;subst hx;exact .slnil _ _
 |_=>simp[ck]at hx
def eR(P:Program)(obj:Name->Option O)(T:TypeId)(x:D):R:=
 match aE P T,x with
 |some (true,n),.v (.ptr cs)=>⟨n<=cs.length,.v (.agg (cs.take n)),obj⟩
 |some (false,1),.v (.ptr cs)=>⟨0<cs.length,.v (cs.getD 0 default),obj⟩
 |some (true,n),.ref nm off=>match obj nm with
  |some (.box cs)=>⟨off+n<=cs.length,.agg ((cs.drop off).take n),obj⟩
  |some (.fbox cs)=>⟨off+n<=cs.length,.v (.agg ((cs.drop off).take n)),obj⟩
  |_=>.bad obj
 |some (false,1),.ref nm off=>match obj nm with
  |some (.box cs)=>⟨off<cs.length,cs.getD off .any,obj⟩
  |some (.fbox cs)=>⟨off<cs.length,.v (cs.getD off default),obj⟩
  |_=>.bad obj
 |some (true,n),.aref nm k i off=>match obj nm with
  |some (.arr _ l) | some (.farr _ l)=>⟨k=l.length/\i<l.length/\off+n<=(l.getD i default).cells.length,.v (.agg (((l.getD i default).cells.drop off).take n)),obj⟩
  |_=>.bad obj
 |some (false,1),.aref nm k i off=>match obj nm with
  |some (.arr _ l) | some (.farr _ l)=>⟨k=l.length/\i<l.length/\off<(l.getD i default).cells.length,.v ((l.getD i default).cells.getD off default),obj⟩
  |_=>.bad obj
 |_,_=>.bad obj
theorem tW{P:Program}{φ:Name->Loc}{obj:Name->Option O}{m:Mem}{T:TypeId}{ag:Bool}{n:Nat}(hT:aE P T=some (ag,n))(hn:ag=false->n=1)
 {w:World} {b o:Nat} (ds:List D) (pk:n<=ds.length) (ho:∀ d∈ds,d.one=true)
 (hc:∀ j (h:j<ds.length),∃ c,w.cell? ⟨b,o+j,none⟩=some c/\al φ obj m ds[j] c):
 ∃ v,(loadVar T ⟨b,o,none⟩).run P w=.ok v w/\al φ obj m (if ag then .agg (ds.take n)else ds.getD 0 .any) v:=by
 refine⟨_,IH hT (fun j=>(w.cell? ⟨b,o+j,none⟩).getD undef) (fun h=>by rw[hn h];omega) (fun j hj=>?_),?_⟩
 ·obtain⟨c,h1,h2⟩:=hc j (by omega);simp[h1]
 ·cases ag with
  |true=>
   simp only[if_true]
   refine .agg _ _ (by simp;omega) (fun d hd=>ho d (List.mem_of_mem_take hd)) fun i h1 h2=>?_
   simp only[List.length_take]at h1
   obtain⟨c,h3,h4⟩:=hc i (by omega)
   simp only[List.getElem_take,List.getElem_toArray,List.getElem_map,List.getElem_range,h3,Option.getD_some]
   exact h4
  |false=>
   have :=hn rfl
   obtain⟨c,h3,h4⟩:=hc 0 (by omega)
   simp only[Nat.add_zero]at h3
   simp only[Bool.false_eq_true,if_false,Nat.add_zero,h3,Option.getD_some]
   rw[dV (by omega)]
   exact h4
theorem m6{P:Program}{φ:Name->Loc}{obj:Name->Option O}{m:Mem}{T:TypeId}{ag:Bool}{n:Nat}(hT:aE P T=some (ag,n))(hn:ag=false->n=1)
 {w:World} {b o:Nat} (xs:List V) (pk:n<=xs.length) (ho:∀ d∈xs,d.one=true)
 (hc:∀ j (h:j<xs.length),∃ c,w.cell? ⟨b,o+j,none⟩=some c/\aw m xs[j] c):
 ∃ v,(loadVar T ⟨b,o,none⟩).run P w=.ok v w/\al φ obj m (.v (if ag then .agg (xs.take n)else xs.getD 0 default)) v:=by
 obtain⟨v,h1,h2⟩:=tW (φ:=φ) (obj:=obj) (m:=m) hT hn (w:=w) (b:=b) (o:=o) (xs.map .v) (by simpa using pk) (by intro d hd;obtain⟨x,hx,rfl⟩:=List.mem_map.1 hd;exact ho x hx)
  (fun j h=>by
    obtain⟨c,h1,h2⟩:=hc j (by simpa using h)
    exact⟨c,h1,by simpa using .v _ _ h2⟩)
 refine⟨v,h1,?_⟩
 cases ag with
 |true=>
  simp only[if_true]at h2 |-
  cases h2 with
  |agg l us hl bA hr=>
   refine .v _ _ (.agg _ _ (by simpa using hl) (fun x hx=>ho x (List.mem_of_mem_take hx)) fun i h3 h4=>?_)
   have :=hr i (by simpa using h3) h4
   simp only[List.getElem_take,List.getElem_map]at this
   cases this with
   |v _ _ h=>simpa using h
 |false=>
  have :=hn rfl
  simp only[Bool.false_eq_true,if_false]at h2 |-
  rw[dV (by simp;omega)]at h2
  simp only[List.getElem_map]at h2
  rw[dV (by omega)]
  exact h2
theorem wM{α:Type}(l:List α)(n:Nat)(z:α):(l.drop n).getD 0 z=l.getD n z:=by
 simp[List.getD,List.getElem?_drop]
theorem OS{α:Type}(l:List α)(z:α):l.headD z=l.getD 0 z:=by cases l<;>rfl
theorem xQ{P:Program}{G:Ghost}{φ:Name->Loc}{m:Mem}{σ:S}{a:Act}{w:World}(hC:ay G φ m σ a w){T:TypeId}{x:D}{u:Value}
 (hx:al φ σ.obj m x u) (aa:(eR P σ.obj T x).ok):
 ∃ v,(Instr.loadAt T u).run P w=.ok v w/\al φ σ.obj m (eR P σ.obj T x).d v/\(eR P σ.obj T x).obj=σ.obj:=by
 have lY:∀ {b off:Nat} {c:Value},m b off=some c->w.cell? ⟨b,off,none⟩=some c:=fun h=>hC.mem _ _ _ h
 have dU:∀ (nm:Name) (o:O) (s:Nat) (l:List V),(o=.arr s l\/o=.farr s l)->σ.obj nm=some o->∀ i,(hi:i<l.length)->
     (∀ y∈l[i].cells,y.one=true)/\∀ j (h:j<l[i].cells.length),∃ c,w.cell? ⟨(φ nm).blk,(φ nm).off+i*s+j,none⟩=some c/\aw m l[i].cells[j] c:=by
  intro nm o s l ho aj i hi
  have h:=hC.objs nm o aj
  rcases ho with rfl | rfl
  ·rcases h with⟨_,h⟩ | ⟨h0,h1,h2,h3,h4,us,T,f,h5,h6,h7,h8⟩
   ·subst h;simp at hi
   ·exact⟨h4 i hi,fun j hj=>let ⟨c,h9,mm⟩:=h8 i j hi hj;⟨c,by rw[gH h5];exact h9,mm⟩⟩
  ·rcases h with⟨_,h⟩ | ⟨h0,h1,h2,h3,h4⟩
   ·subst h;simp at hi
   ·exact⟨h3 i hi,fun j hj=>let ⟨c,h9,mm⟩:=h4 i j hi hj;⟨c,lY h9,mm⟩⟩
 have D0:∀ (nm:Name) (cs:List D),σ.obj nm=some (.box cs)->(∀ d∈cs,d.one=true)/\
     ∀ j (h:j<cs.length),∃ c,w.cell? ⟨(φ nm).blk,(φ nm).off+j,none⟩=some c/\al φ σ.obj m cs[j] c:=by
  intro nm cs aj
  obtain⟨h0,h1,cZ,us,T,f,h2,h3,h4,h5⟩:=hC.objs nm _ aj
  refine⟨cZ,fun j hj=>⟨us[j],?_,h5 j hj (by omega)⟩⟩
  rw[gH h2,h0,Nat.zero_add]
  exact Array.getElem?_eq_getElem (by omega)
 have DL:∀ (nm:Name) (cs:List V),σ.obj nm=some (.fbox cs)->(∀ d∈cs,d.one=true)/\
     ∀ j (h:j<cs.length),∃ c,w.cell? ⟨(φ nm).blk,(φ nm).off+j,none⟩=some c/\aw m cs[j] c:=by
  intro nm cs aj
  obtain⟨h0,h1⟩:=hC.objs nm _ aj
  exact⟨h0,fun j hj=>let ⟨c,h2,h3⟩:=h1 j hj;⟨c,lY h2,h3⟩⟩
 unfold eR at aa |-
 split at aa
 ·rename_i n cs hT
  cases hx with
  |v _ _ hx=>
  cases hx with
  |ptr _ b o c ho hc hr=>
  obtain⟨v,h1,h2⟩:=m6 (φ:=φ) (obj:=σ.obj) (m:=m) hT (by simp) (w:=w) (b:=b) (o:=o) cs aa ho (fun j h=>⟨c j,lY (hc j h),hr j h⟩)
  refine⟨v,?_,by simpa[hT]using h2,by simp[hT]⟩
  simpa[Instr.loadAt,Instr.sureAddr]using h1
 ·rename_i cs hT
  cases hx with
  |v _ _ hx=>
  cases hx with
  |ptr _ b o c ho hc hr=>
  obtain⟨v,h1,h2⟩:=m6 (φ:=φ) (obj:=σ.obj) (m:=m) hT (by simp) (w:=w) (b:=b) (o:=o) cs aa ho (fun j h=>⟨c j,lY (hc j h),hr j h⟩)
  refine⟨v,?_,by simpa[hT,OS]using h2,by simp[hT]⟩
  simpa[Instr.loadAt,Instr.sureAddr]using h1
 ·rename_i n nm off hT
  cases hx with
  |ref _ _ hx=>
  split at aa
  ·rename_i cs aj
   obtain⟨ib,eM⟩:=D0 nm cs aj
   obtain⟨v,h1,h2⟩:=tW (φ:=φ) (obj:=σ.obj) (m:=m) hT (by simp) (w:=w) (b:=(φ nm).blk) (o:=(φ nm).off+off) (cs.drop off)
    (by simp only[List.length_drop];have:off+n<=cs.length:=aa;omega) (fun d hd=>ib d (List.mem_of_mem_drop hd))
    (fun j h=>by
      simp only[List.length_drop]at h
      obtain⟨c,h3,h4⟩:=eM (off+j) (by omega)
      refine⟨c,by rw[Nat.add_assoc];exact h3,by simpa using h4⟩)
   refine⟨v,?_,by simpa[hT,aj]using h2,by simp[hT,aj]⟩
   simpa[Instr.loadAt,Instr.sureAddr]using h1
  ·rename_i cs aj
   obtain⟨ib,eM⟩:=DL nm cs aj
   obtain⟨v,h1,h2⟩:=m6 (φ:=φ) (obj:=σ.obj) (m:=m) hT (by simp) (w:=w) (b:=(φ nm).blk) (o:=(φ nm).off+off) (cs.drop off)
    (by simp only[List.length_drop];have:off+n<=cs.length:=aa;omega) (fun d hd=>ib d (List.mem_of_mem_drop hd))
    (fun j h=>by
      simp only[List.length_drop]at h
      obtain⟨c,h3,h4⟩:=eM (off+j) (by omega)
      refine⟨c,by rw[Nat.add_assoc];exact h3,by simpa using h4⟩)
   refine⟨v,?_,by simpa[hT,aj]using h2,by simp[hT,aj]⟩
   simpa[Instr.loadAt,Instr.sureAddr]using h1
  ·exact aa.elim
 ·rename_i nm off hT
  cases hx with
  |ref _ _ hx=>
  split at aa
  ·rename_i cs aj
   obtain⟨ib,eM⟩:=D0 nm cs aj
   obtain⟨v,h1,h2⟩:=tW (φ:=φ) (obj:=σ.obj) (m:=m) hT (by simp) (w:=w) (b:=(φ nm).blk) (o:=(φ nm).off+off) (cs.drop off)
    (by simp only[List.length_drop];have:off<cs.length:=aa;omega) (fun d hd=>ib d (List.mem_of_mem_drop hd))
    (fun j h=>by
      simp only[List.length_drop]at h
      obtain⟨c,h3,h4⟩:=eM (off+j) (by omega)
      refine⟨c,by rw[Nat.add_assoc];exact h3,by simpa using h4⟩)
   rw[if_neg (by simp),wM]at h2
   refine⟨v,?_,by simpa[hT,aj]using h2,by simp[hT,aj]⟩
   simpa[Instr.loadAt,Instr.sureAddr]using h1
  ·rename_i cs aj
   obtain⟨ib,eM⟩:=DL nm cs aj
   obtain⟨v,h1,h2⟩:=m6 (φ:=φ) (obj:=σ.obj) (m:=m) hT (by simp) (w:=w) (b:=(φ nm).blk) (o:=(φ nm).off+off) (cs.drop off)
    (by simp only[List.length_drop];have:off<cs.length:=aa;omega) (fun d hd=>ib d (List.mem_of_mem_drop hd))
    (fun j h=>by
      simp only[List.length_drop]at h
      obtain⟨c,h3,h4⟩:=eM (off+j) (by omega)
      refine⟨c,by rw[Nat.add_assoc];exact h3,by simpa using h4⟩)
   rw[if_neg (by simp),wM]at h2
   refine⟨v,?_,by simpa[hT,aj]using h2,by simp[hT,aj]⟩
   simpa[Instr.loadAt,Instr.sureAddr]using h1
  ·exact aa.elim
 ·rename_i n nm k i off hT
  cases hx with
  |aref _ _ _ _ _ hx hu=>
  obtain⟨o,k',aj,hlen,hk,br⟩:=hx
  have main:∀ s l,(o=.arr s l\/o=.farr s l)->(k=l.length/\i<l.length/\off+n<=(l.getD i default).cells.length)->
      ∃ v,(Instr.loadAt T u).run P w=.ok v w/\al φ σ.obj m (.v (.agg (((l.getD i default).cells.drop off).take n))) v:=by
   rintro s l ho ⟨nx,hi,vf⟩
   have rD:k'=l.length:=by rcases ho with rfl | rfl<;>simpa[O.len?]using hlen.symm
   have bB:o.sz=s:=by rcases ho with rfl | rfl<;>rfl
   obtain⟨vZ,vY⟩:=dU nm o s l ho aj i hi
   have e:=br (by omega)
   subst e
   rw[bB]
   rw[dV hi]at vf |-
   obtain⟨v,h1,h2⟩:=m6 (φ:=φ) (obj:=σ.obj) (m:=m) hT (by simp) (w:=w) (b:=(φ nm).blk) (o:=(φ nm).off+i*s+off) (l[i].cells.drop off)
    (by simp only[List.length_drop];omega) (fun d hd=>vZ d (List.mem_of_mem_drop hd))
    (fun j h=>by
      simp only[List.length_drop]at h
      obtain⟨c,h3,h4⟩:=vY (off+j) (by omega)
      refine⟨c,by rw[Nat.add_assoc];exact h3,by simpa using h4⟩)
   exact⟨v,by simpa[Instr.loadAt,Instr.sureAddr]using h1,by simpa using h2⟩
  split at aa
  ·rename_i s l bo
   rw[aj]at bo;cases bo
   obtain⟨v,h1,h2⟩:=main s l (.inl rfl) aa
   exact⟨v,h1,by simpa[hT,aj]using h2,by simp[hT,aj]⟩
  ·rename_i s l bo
   rw[aj]at bo;cases bo
   obtain⟨v,h1,h2⟩:=main s l (.inr rfl) aa
   exact⟨v,h1,by simpa[hT,aj]using h2,by simp[hT,aj]⟩
  ·exact aa.elim
 ·rename_i nm k i off hT
  cases hx with
  |aref _ _ _ _ _ hx hu=>
  obtain⟨o,k',aj,hlen,hk,br⟩:=hx
  have main:∀ s l,(o=.arr s l\/o=.farr s l)->(k=l.length/\i<l.length/\off<(l.getD i default).cells.length)->
      ∃ v,(Instr.loadAt T u).run P w=.ok v w/\al φ σ.obj m (.v ((l.getD i default).cells.getD off default)) v:=by
   rintro s l ho ⟨nx,hi,vf⟩
   have rD:k'=l.length:=by rcases ho with rfl | rfl<;>simpa[O.len?]using hlen.symm
   have bB:o.sz=s:=by rcases ho with rfl | rfl<;>rfl
   obtain⟨vZ,vY⟩:=dU nm o s l ho aj i hi
   have e:=br (by omega)
   subst e
   rw[bB]
   rw[dV hi]at vf |-
   obtain⟨v,h1,h2⟩:=m6 (φ:=φ) (obj:=σ.obj) (m:=m) hT (by simp) (w:=w) (b:=(φ nm).blk) (o:=(φ nm).off+i*s+off) (l[i].cells.drop off)
    (by simp only[List.length_drop];omega) (fun d hd=>vZ d (List.mem_of_mem_drop hd))
    (fun j h=>by
      simp only[List.length_drop]at h
      obtain⟨c,h3,h4⟩:=vY (off+j) (by omega)
      refine⟨c,by rw[Nat.add_assoc];exact h3,by simpa using h4⟩)
   rw[if_neg (by simp),wM]at h2
   exact⟨v,by simpa[Instr.loadAt,Instr.sureAddr]using h1,h2⟩
  split at aa
  ·rename_i s l bo
   rw[aj]at bo;cases bo
   obtain⟨v,h1,h2⟩:=main s l (.inl rfl) aa
   exact⟨v,h1,by simpa[hT,aj]using h2,by simp[hT,aj]⟩
  ·rename_i s l bo
   rw[aj]at bo;cases bo
   obtain⟨v,h1,h2⟩:=main s l (.inr rfl) aa
   exact⟨v,h1,by simpa[hT,aj]using h2,by simp[hT,aj]⟩
  ·exact aa.elim
 ·exact aa.elim
def gq(P:Program)(obj:Name->Option O)(T:TypeId)(f:Nat)(x:D):R:=
 match be P T f,x with
 |some (off,n,_),.v (.ptr cs)=>⟨n≠0/\off+n<=cs.length,.v (.ptr ((cs.drop off).take n)),obj⟩
 |some (off,n,_),.ref nm o=>⟨n≠0,.ref nm (o+off),obj⟩
 |some (off,n,_),.aref nm k i o=>⟨n≠0/\(obj nm).bind O.len?=some k,.aref nm k i (o+off),obj⟩
 |_,_=>.bad obj
theorem wE{P:Program}{T:TypeId}{f:Nat}{off n:Nat}{ag:Bool}(h:be P T f=some (off,n,ag))(hn:n≠0)(w:World)(b o:Nat):
 (Instr.fieldAt T (.pointer (some ⟨b,o,none⟩)) f).run P w=.ok (.pointer (some ⟨b,o+off,none⟩)) w:=by
 unfold be at h
 split at h
 ·rename_i fs hu
  cases hf:fs[f]? with
  |none=>simp[hf]at h
  |some x=>
   simp only[hf,Option.bind_some,Option.map_eq_some_iff,Prod.mk.injEq]at h
   obtain⟨y,h1,h2,h3,h4⟩:=h
   have hs:=ka (P:=P) (t:=x.type) (b:=y.1) (n:=y.2) h1 w
   have ar:y.2≠0:=by rw[h3];exact hn
   simp only[Instr.fieldAt,Sem.run_bind,run_underlying hu w,Result.andThen_ok,hf,Sem.run_pure,Instr.sureAddr,fieldPlace,hs,Sem.run_ite,ar,if_false,eP,h2]
 ·cases h
theorem HB{P:Program}{φ:Name->Loc}{obj:Name->Option O}{m:Mem}{T:TypeId}{f:Nat}{x:D}{u:Value}(w:World)
 (hx:al φ obj m x u) (aa:(gq P obj T f x).ok):
 ∃ v,(Instr.fieldAt T u f).run P w=.ok v w/\al φ obj m (gq P obj T f x).d v/\(gq P obj T f x).obj=obj:=by
 unfold gq at aa |-
 split at aa
 ·rename_i off n ag cs hT
  cases hx with
  |v _ _ hx=>
  cases hx with
  |ptr _ b o c ho hc hr=>
  obtain⟨h1,h2⟩:=aa
  refine⟨_,wE hT h1 w b o,?_,rfl⟩
  refine .v _ _ (.ptr _ b (o+off) (fun j=>c (off+j)) (fun y hy=>ho y (List.mem_of_mem_drop (List.mem_of_mem_take hy))) (fun j hj=>?_) fun j hj=>?_)
  ·simp only[List.length_take,List.length_drop]at hj
   rw[Nat.add_assoc];exact hc _ (by omega)
  ·simp only[List.length_take,List.length_drop]at hj
   simp only[List.getElem_take,List.getElem_drop]
   exact hr _ (by omega)
 ·rename_i off n ag nm o hT
  cases hx with
  |ref _ _ hx=>
  refine⟨_,wE hT aa w _ _,?_,rfl⟩
  have :=al.ref (φ:=φ) (m:=m) nm (o+off) hx
  rwa [<-Nat.add_assoc]at this
 ·rename_i off n ag nm k i o hT
  cases hx with
  |aref _ _ _ _ _ hx hu=>
  obtain⟨o',k',aj,hlen,hk,br⟩:=hx
  obtain⟨h1,h2⟩:=aa
  simp only[aj,Option.bind_some,hlen,Option.some.injEq]at h2
  have e:=br h2.symm
  subst e
  refine⟨_,wE hT h1 w _ _,.aref _ _ _ _ _ ⟨o',k',aj,hlen,hk,fun _=>by rw[Nat.add_assoc]⟩ rfl,rfl⟩
 ·exact aa.elim
def gp(P:Program)(obj:Name->Option O)(T:TypeId)(x i:D):R:=
 match x,i with
 | .v (.sl l),.v (.int _ n)=>match bg P T with
   |some (_,sz,_)=>⟨0<=n/\n<l.length/\(l.getD n.toNat default).cells.length=sz,.v (.ptr (l.getD n.toNat default).cells),obj⟩
   |_=>.bad obj
 | .msl nm k,.v (.int _ n)=>match bg P T,obj nm with
   |some (_,sz,_),some (.arr s l)=>⟨0<=n/\n<l.length/\k=l.length/\s=sz,.aref nm k n.toNat 0,obj⟩
   |some (_,sz,_),some (.farr s l)=>⟨0<=n/\n<l.length/\k=l.length/\s=sz,.aref nm k n.toNat 0,obj⟩
   |_,_=>.bad obj
 | .ref nm off,.v (.int _ n)=>match dP P T with
   |some (len,sz,_)=>⟨0<=n/\n<len,.ref nm (off+n.toNat*sz),obj⟩
   |_=>.bad obj
 | .v (.ptr cs),.v (.int _ n)=>match dP P T with
   |some (len,sz,_)=>⟨0<=n/\n<len/\n.toNat*sz+sz<=cs.length,.v (.ptr ((cs.drop (n.toNat*sz)).take sz)),obj⟩
   |_=>.bad obj
 |_,_=>.bad obj
theorem dO{P:Program}{T e:TypeId}{sz by_:Nat}(h:bg P T=some (e,sz,by_)):
 P.underlying T=some (.slice e)/\∃ i,P.info? e=some i/\i.size=sz/\i.bytes=by_:=by
 unfold bg at h
 split at h
 ·rename_i e' hu
  simp only[Option.map_eq_some_iff,Prod.mk.injEq]at h
  obtain⟨i,h1,h2,h3,h4⟩:=h
  subst h2
  exact⟨hu,i,h1,h3,h4⟩
 ·cases h
theorem CZ{P:Program}{T e:TypeId}{sz by_:Nat}(h:bg P T=some (e,sz,by_))(w:World)(b o len cap:Nat)(k:IntKind)(n:Int)(h0:0<=n)(h1:n<len):
 (Instr.indexAt T (.slice (some ⟨b,o,none⟩) len cap) (.int k n)).run P w=.ok (.pointer (some ⟨b,o+n.toNat*sz,none⟩)) w:=by
 obtain⟨hu,i,hi,hs,_⟩:=dO h
 simp[Instr.indexAt,asIntOf,run_underlying hu w,h0,h1,sizeOf,typeInfo,hi,hs,eP]
theorem C0{P:Program}{T:TypeId}{len sz:Nat}{ag:Bool}(h:dP P T=some (len,sz,ag))(w:World)(b o:Nat)(k:IntKind)(n:Int)(h0:0<=n)(h1:n<len):
 (Instr.indexAt T (.pointer (some ⟨b,o,none⟩)) (.int k n)).run P w=.ok (.pointer (some ⟨b,o+n.toNat*sz,none⟩)) w:=by
 unfold dP at h
 split at h
 ·rename_i n' e hu
  simp only[Option.map_eq_some_iff,Prod.mk.injEq]at h
  obtain⟨y,h2,h3,h4,h5⟩:=h
  subst h3
  have hs:=fun w=>ka (P:=P) (t:=e) (b:=y.1) (n:=y.2) h2 w
  simp[Instr.indexAt,asIntOf,run_underlying hu w,h0,h1,hs,eP,Instr.sureAddr,h4]
 ·cases h
theorem Hz{P:Program}{G:Ghost}{φ:Name->Loc}{m:Mem}{σ:S}{a:Act}{w:World}(hC:ay G φ m σ a w){T:TypeId}{x i:D}{u ui:Value}
 (hx:al φ σ.obj m x u) (hi:al φ σ.obj m i ui) (aa:(gp P σ.obj T x i).ok):
 ∃ v,(Instr.indexAt T u ui).run P w=.ok v w/\al φ σ.obj m (gp P σ.obj T x i).d v/\(gp P σ.obj T x i).obj=σ.obj:=by
 unfold gp at aa |-
 split at aa
 ·rename_i l k n
  split at aa
  ·rename_i e sz by_ hT
   cases hi with
   |v _ _ hi=>
   cases hi
   obtain⟨h0,h1,h2⟩:=aa
   cases hx with
   |v _ _ hx=>
   cases hx with
   |slnil=>simp at h1;omega
   |sl _ b o cap gx c hn hl fg hs hc hr ho=>
   have ae:n.toNat<l.length:=by omega
   refine⟨_,CZ hT w b o _ cap k n h0 h1,?_,by simp[hT]⟩
   simp only[hT]
   rw[dV ae]at h2 |-
   have bB:gx=sz:=(hs _ ae).symm.trans h2
   subst bB
   exact .v _ _ (.ptr _ b (o+n.toNat*gx) (fun j=>c n.toNat j) (ho _ ae) (fun j hj=>hc _ _ ae (by rw[<-h2];exact hj)) fun j hj=>hr _ _ ae hj)
  ·exact aa.elim
 ·rename_i nm k ik n
  cases hi with
  |v _ _ hi=>
  cases hi
  have main:∀ e sz by_ s l o,bg P T=some (e,sz,by_)->σ.obj nm=some o->(o=.arr s l\/o=.farr s l)->(0<=n/\n<l.length/\k=l.length/\s=sz)->
      ∃ v,(Instr.indexAt T u (.int ik n)).run P w=.ok v w/\al φ σ.obj m (.aref nm k n.toNat 0) v:=by
   rintro e sz by_ s l o hT aj nq ⟨h0,h1,h2,h3⟩
   cases hx with
   |msl _ _ _ hx hu=>
   obtain⟨o',k',bo,hlen,hk,br⟩:=hx
   rw[aj]at bo;cases bo
   have hl:k'=l.length:=by rcases nq with rfl | rfl<;>simpa[O.len?]using hlen.symm
   have bB:o.sz=s:=by rcases nq with rfl | rfl<;>rfl
   have e:=br (by omega)
   subst e
   have bC:(φ nm).nul=false:=by
    have :=hC.objs nm o aj
    rcases nq with rfl | rfl
    ·rcases this with⟨_,h⟩ | ⟨h,_⟩
     ·subst h;simp at h1;omega
     ·exact h
    ·rcases this with⟨_,h⟩ | ⟨h,_⟩
     ·subst h;simp at h1;omega
     ·exact h
   simp only[Loc.slice,bC,Bool.false_eq_true,if_false]
   refine⟨_,CZ hT w _ _ _ _ ik n h0 (by omega),.aref _ _ _ _ _ ⟨o,k',aj,hlen,hk,fun _=>?_⟩ rfl⟩
   rw[bB,h3,Nat.add_zero]
  split at aa
  ·rename_i e sz by_ s l hT aj
   obtain⟨v,h1,h2⟩:=main e sz by_ s l _ hT aj (.inl rfl) aa
   exact⟨v,h1,by simpa[hT,aj]using h2,by simp[hT,aj]⟩
  ·rename_i e sz by_ s l hT aj
   obtain⟨v,h1,h2⟩:=main e sz by_ s l _ hT aj (.inr rfl) aa
   exact⟨v,h1,by simpa[hT,aj]using h2,by simp[hT,aj]⟩
  ·exact aa.elim
 ·rename_i nm off k n
  split at aa
  ·rename_i len sz ag hT
   cases hi with
   |v _ _ hi=>
   cases hi
   cases hx with
   |ref _ _ hx=>
   obtain⟨h0,h1⟩:=aa
   refine⟨_,C0 hT w _ _ k n h0 h1,?_,by simp[hT]⟩
   simp only[hT]
   have :=al.ref (φ:=φ) (m:=m) nm (off+n.toNat*sz) hx
   rwa [<-Nat.add_assoc]at this
  ·exact aa.elim
 ·rename_i cs k n
  split at aa
  ·rename_i len sz ag hT
   cases hi with
   |v _ _ hi=>
   cases hi
   cases hx with
   |v _ _ hx=>
   cases hx with
   |ptr _ b o c ho hc hr=>
   obtain⟨h0,h1,h2⟩:=aa
   refine⟨_,C0 hT w _ _ k n h0 h1,?_,by simp[hT]⟩
   simp only[hT]
   refine .v _ _ (.ptr _ b (o+n.toNat*sz) (fun j=>c (n.toNat*sz+j)) (fun y hy=>ho y (List.mem_of_mem_drop (List.mem_of_mem_take hy))) (fun j hj=>?_) fun j hj=>?_)
   ·simp only[List.length_take,List.length_drop]at hj
    rw[Nat.add_assoc];exact hc _ (by omega)
   ·simp only[List.length_take,List.length_drop]at hj
    simp only[List.getElem_take,List.getElem_drop]
    exact hr _ (by omega)
  ·exact aa.elim
 ·exact aa.elim
def pL(op:BinOp)(k:IntKind)(a b:Int):V:=
 match op with
 | .add=>.int k (k.wrap (a+b))
 | .sub=>.int k (k.wrap (a-b))
 | .mul=>.int k (k.wrap (a*b))
 | .quo=>.int k (k.wrap (a.tdiv b))
 | .rem=>.int k (a.tmod b)
 | .and=>.int k (k.wrap (BitVec.ofInt k.bits a&&& BitVec.ofInt k.bits b).toNat)
 | .or=>.int k (k.wrap (BitVec.ofInt k.bits a||| BitVec.ofInt k.bits b).toNat)
 | .xor=>.int k (k.wrap (BitVec.ofInt k.bits a ^^^ BitVec.ofInt k.bits b).toNat)
 | .andNot=>.int k (k.wrap (BitVec.ofInt k.bits a&&& ~~~(BitVec.ofInt k.bits b)).toNat)
 | .shl=>.int k (k.wrap (a*2 ^ (min b.toNat k.bits)))
 | .shr=>.int k (a.fdiv (2 ^ (min b.toNat k.bits)))
 | .eql=>.bool (a==b)
 | .neq=>.bool (a != b)
 | .lss=>.bool (decide (a<b))
 | .leq=>.bool (decide (a<=b))
 | .gtr=>.bool (decide (a>b))
 | .geq=>.bool (decide (a>=b))
def sy(op:BinOp)(k k':IntKind)(b:Int):Prop:=
 match op with
 | .quo=>k=k'/\b≠0
 | .rem=>k=k'/\b≠0
 | .shl=>0<=b
 | .shr=>0<=b
 |_=>k=k'
def nW(op:BinOp)(a b:ByteArray):V:=
 match op with
 | .add=>.str (a++b)
 | .eql=>.bool (a.toList==b.toList)
 | .neq=>.bool (!(a.toList==b.toList))
 | .lss=>.bool (Op.bytesLess a.toList b.toList)
 | .leq=>.bool (Op.bytesLess a.toList b.toList||a.toList==b.toList)
 | .gtr=>.bool (!(Op.bytesLess a.toList b.toList||a.toList==b.toList))
 | .geq=>.bool (!(Op.bytesLess a.toList b.toList))
 |_=>.nilp
def pH(op:BinOp)(a b:ByteArray):Prop:=
 match op with
 | .add=>a.size+b.size<=maxLen
 | .eql | .neq | .lss | .leq | .gtr | .geq=>True
 |_=>False
def iy(P:Program)(obj:Name->Option O)(op:BinOp)(T:TypeId)(x y:D):R:=
 match x,y with
 | .v (.int k a),.v (.int k' b)=>⟨sy op k k' b,.v (pL op k a b),obj⟩
 | .v (.str a),.v (.str b)=>⟨pH op a b,.v (nW op a b),obj⟩
 | .v (.bool a),.v (.bool b)=>⟨P.underlying T=some .bool/\(op=.eql\/op=.neq),.v (.bool (if op=.eql then a==b else !(a==b))),obj⟩
 |_,_=>.bad obj
theorem run_equalIn_bool{P:Program}{T:TypeId}(hT:P.underlying T=some .bool)(d:Nat)(a b:Bool)(w:World):
 (Op.equalIn (d+1) T (.bool a) (.bool b)).run P w=.ok (a==b) w:=by
 simp[Op.equalIn,run_underlying hT w]
theorem run_equal_bool{P:Program}{T:TypeId}(hT:P.underlying T=some .bool)(a b:Bool)(w:World):
 (Op.equal T (.bool a) (.bool b)).run P w=.ok (a==b) w:=run_equalIn_bool hT 9999 a b w
theorem HL{P:Program}{φ:Name->Loc}{obj:Name->Option O}{m:Mem}{T:TypeId}{op:BinOp}{x y:D}{u v:Value}{cx cy:Operand}(w:World)
 (hx:al φ obj m x u) (hy:al φ obj m y v) (aa:(iy P obj op T x y).ok):
 ∃ r,(do eqGuard op T cx cy u v;binOp op T u v:Sem Value).run P w=.ok r w/\al φ obj m (iy P obj op T x y).d r/\(iy P obj op T x y).obj=obj:=by
 unfold iy at aa |-
 split at aa
 ·rename_i k a k' b
  cases hx with
  |v _ _ hx=>
  cases hy with
  |v _ _ hy=>
  cases hx;cases hy
  refine⟨match pL op k a b with | .int k n=>.int k n | .bool b=>.bool b | _=>undef,?_,?_,rfl⟩
  ·cases op<;>simp only[sy]at aa<;>
     (first | (obtain⟨rfl,hb⟩:=aa) | (subst aa) | skip)<;>
     simp[eqGuard,binOp,Op.intArith,Op.intDiv,Op.intBits,Op.intCmp,Op.shift,pL, *]<;>(try omega)
  ·simp only
   cases op<;>simp only[pL]<;>first | exact .v _ _ (.int _ _) | exact .v _ _ (.bool _)
 ·rename_i a b
  cases hx with
  |v _ _ hx=>
  cases hy with
  |v _ _ hy=>
  cases hx with
  |str _ ha=>
  cases hy with
  |str _ hb=>
  refine⟨match nW op a b with | .str s=>.string s | .bool b=>.bool b | _=>undef,?_,?_,rfl⟩
  ·cases op<;>simp only[pH]at aa<;>first
     |exact aa.elim
     |(simp[eqGuard,binOp,Op.stringOp,nW];done)
     |(have:¬ ((a.size+b.size:Nat):Int)>IntKind.i64.max:=by
        have h9:IntKind.i64.max=9223372036854775807:=by decide
        unfold maxLen at aa
        rw[h9];omega
       simp only[eqGuard,binOp,Op.stringOp,nW,Sem.run_bind,Sem.run_ite,if_neg this]
       rfl)
  ·simp only
   cases op<;>simp only[pH]at aa<;>simp only[nW]<;>first
    |exact aa.elim
    |exact .v _ _ (.bool _)
    |(refine .v _ _ (.str _ ?_);simpa[ByteArray.size_append]using aa)
 ·rename_i a b
  cases hx with
  |v _ _ hx=>
  cases hy with
  |v _ _ hy=>
  cases hx;cases hy
  obtain⟨hT,ho⟩:=aa
  refine⟨.bool (if op=.eql then a==b else !(a==b)),?_,.v _ _ (.bool _),rfl⟩
  have e:=run_equal_bool (P:=P) hT a b w
  rcases ho with rfl | rfl
  ·have h1:binOp .eql T (.bool a) (.bool b)=(do pure (.bool (<-Op.equal T (.bool a) (.bool b)))):=rfl
   rw[h1]
   simp only[Sem.run_bind,eqGuard,Result.andThen_ok,Sem.run_pure]
   simp
   rw[e]
   simp
  ·have h1:binOp .neq T (.bool a) (.bool b)=(do pure (.bool (!(<-Op.equal T (.bool a) (.bool b))))):=rfl
   rw[h1]
   simp only[Sem.run_bind,eqGuard,Result.andThen_ok,Sem.run_pure]
   simp
   rw[e]
   simp
 ·exact aa.elim
def gI(obj:Name->Option O)(op:UnOp)(x:D):R:=
 match op,x with
 | .not,.v (.bool b)=>⟨True,.v (.bool (!b)),obj⟩
 | .neg,.v (.int k n)=>⟨True,.v (.int k (k.wrap (0-n))),obj⟩
 |_,_=>.bad obj
theorem Hp{P:Program}{φ:Name->Loc}{obj:Name->Option O}{m:Mem}{op:UnOp}{x:D}{u:Value}(w:World)
 (hx:al φ obj m x u) (aa:(gI obj op x).ok):
 ∃ r,(Op.unary op u).run P w=.ok r w/\al φ obj m (gI obj op x).d r/\(gI obj op x).obj=obj:=by
 unfold gI at aa |-
 split at aa
 ·cases hx with
  |v _ _ hx=>cases hx;exact⟨_,rfl,.v _ _ (.bool _),rfl⟩
 ·cases hx with
  |v _ _ hx=>cases hx;exact⟨_,rfl,.v _ _ (.int _ _),rfl⟩
 ·exact aa.elim
def j0(P:Program)(obj:Name->Option O)(_src dst:TypeId)(x:D):R:=
 match fo P dst,x with
 |some k,.v (.int _ n)=>⟨(P.underlying _src).isSome=true,.v (.int k (k.wrap n)),obj⟩
 |_,_=>.bad obj
def sh(b:UInt8):V:=.int .u8 b.toNat
def gm(s:ByteArray):List V:=s.data.toList.map sh
def mK:V->UInt8
 | .int _ n=>UInt8.ofNat n.toNat
 |_=>0
def oG:V->Bool
 | .int .u8 n=>decide (0<=n)&&decide (n<256)
 |_=>false
def j8(P:Program)(src dst:TypeId):Nat:=
 match P.underlying src,P.underlying dst with
 |some .string,some (.slice e)=>match P.underlying e with
  |some (.int .u8)=>1
  |_=>0
 |some (.slice e),some .string=>match P.underlying e with
  |some (.int .u8)=>2
  |_=>0
 |_,_=>0
def ix(P:Program)(obj:Name->Option O)(src dst:TypeId)(x:D):R:=
 match j8 P src dst with
 | 1=>match x with
   | .v (.str s)=>⟨True,.v (.sl (gm s)),obj⟩
   |_=>.bad obj
 | 2=>match x with
   | .v (.sl l)=>⟨l.all oG=true,.v (.str ⟨(l.map mK).toArray⟩),obj⟩
   |_=>.bad obj
 |_=>j0 P obj src dst x
theorem HG{P:Program}{φ:Name->Loc}{obj:Name->Option O}{m:Mem}{src dst:TypeId}{x:D}{u:Value}(w:World)
 (hx:al φ obj m x u) (aa:(j0 P obj src dst x).ok):
 ∃ r,(convert src dst u).run P w=.ok r w/\al φ obj m (j0 P obj src dst x).d r/\(j0 P obj src dst x).obj=obj:=by
 unfold j0 at aa |-
 split at aa
 ·rename_i k ik n hT
  cases hx with
  |v _ _ hx=>
  cases hx
  have hd:P.underlying dst=some (.int k):=by
   unfold fo at hT
   split at hT
   ·simp only[Option.some.injEq]at hT;subst hT;assumption
   ·cases hT
  obtain⟨d,hs⟩:=Option.isSome_iff_exists.1 aa
  refine⟨.int k (k.wrap n),?_,by simpa[hT]using .v _ _ (.int _ _),by simp[hT]⟩
  simp[convert,run_underlying hd w,run_underlying hs w,Conv.intToInt]
 ·exact aa.elim
def gM(obj:Name->Option O)(x:D)(i:Nat):R:=
 match x with
 | .tup l=>⟨i<l.length,l.getD i .any,obj⟩
 | .v (.tup l)=>⟨i<l.length,.v (l.getD i default),obj⟩
 |_=>.bad obj
theorem HD{P:Program}{φ:Name->Loc}{obj:Name->Option O}{m:Mem}{x:D}{i:Nat}{u:Value}(w:World)
 (hx:al φ obj m x u) (aa:(gM obj x i).ok):
 ∃ r,(Instr.extract u i).run P w=.ok r w/\al φ obj m (gM obj x i).d r/\(gM obj x i).obj=obj:=by
 unfold gM at aa |-
 split at aa
 ·rename_i l
  cases hx with
  |tup _ us hl hr=>
  have hi:i<l.length:=aa
  refine⟨us[i],?_,by rw[dV hi];exact hr i hi (by omega),rfl⟩
  simp[Instr.extract,Array.getElem?_eq_getElem (show i<us.size by omega)]
 ·rename_i l
  cases hx with
  |v _ _ hx=>
  cases hx with
  |tup _ us hl hr=>
  have hi:i<l.length:=aa
  refine⟨us[i],?_,by rw[dV hi];exact .v _ _ (hr i hi (by omega)),rfl⟩
  simp[Instr.extract,Array.getElem?_eq_getElem (show i<us.size by omega)]
 ·exact aa.elim
def fL(obj:Name->Option O)(x:D):R:=
 match x with
 | .ref _ _=>⟨True,x,obj⟩
 | .v (.ptr _)=>⟨True,x,obj⟩
 | .aref nm k _ _=>⟨(obj nm).bind O.len?=some k,x,obj⟩
 |_=>.bad obj
theorem Ht{P:Program}{φ:Name->Loc}{obj:Name->Option O}{m:Mem}{x:D}{u:Value}{ρ:Operand->Value}{c:Operand}{o:Oper}(w:World)
 (hx:al φ obj m x u) (aa:(fL obj x).ok) (ho:o.op=.nilCheck c) (hc:ρ c=u):
 (execOp ρ o).run P w=.ok (.value u) w/\al φ obj m (fL obj x).d u/\(fL obj x).obj=obj:=by
 have hp:∃ q,u=.pointer (some q):=by
  unfold fL at aa
  split at aa
  ·cases hx;exact⟨_,rfl⟩
  ·cases hx with | v _ _ hx=>cases hx;exact⟨_,rfl⟩
  ·cases hx with
   |aref _ _ _ _ _ hx hu=>
   obtain⟨o',k',aj,hlen,hk,br⟩:=hx
   simp only[aj,Option.bind_some,hlen,Option.some.injEq]at aa
   exact⟨_,br aa.symm⟩
  ·exact aa.elim
 obtain⟨q,hq⟩:=hp
 refine⟨by subst hq;simp[execOp,ho,hc],?_⟩
 unfold fL at aa |-
 split at aa
 ·exact⟨hx,rfl⟩
 ·exact⟨hx,rfl⟩
 ·exact⟨hx,rfl⟩
 ·exact aa.elim
theorem Ext.new{φ:Name->Loc}{obj:Name->Option O}{nm:Name}(h:obj nm=none)(p:Loc)(o:O):Ext φ (upd φ nm p) obj (upd obj nm (some o)):=by
 intro x o' hx
 have ar:x≠nm:=fun e=>by subst e;rw[h]at hx;cases hx
 exact⟨o',by rw[aU _ _ _ ar];exact hx,.inl ⟨rfl,by rw[aU _ _ _ ar],rfl⟩⟩
theorem Ext.same{φ:Name->Loc}{obj:Name->Option O}{nm:Name}{o o':O}(h:obj nm=some o)(hl:o'.len?=o.len?)(hs:o'.sz=o.sz):
 Ext φ (upd φ nm (φ nm)) obj (upd obj nm (some o')):=by
 intro x o1 hx
 by_cases ar:x=nm
 ·subst ar
  rw[h]at hx;cases hx
  exact⟨o',aD _ _ _,.inl ⟨hl,aD _ _ _,hs⟩⟩
 ·exact⟨o1,by rw[aU _ _ _ ar];exact hx,.inl ⟨rfl,by rw[aU _ _ _ ar],rfl⟩⟩
theorem Ext.grow{φ:Name->Loc}{obj:Name->Option O}{nm:Name}{o o':O}{n n':Nat}(h:obj nm=some o)(hn:o.len?=some n)(vp:o'.len?=some n')(ae:n<n')(p:Loc):
 Ext φ (upd φ nm p) obj (upd obj nm (some o')):=by
 intro x o1 hx
 by_cases ar:x=nm
 ·subst ar
  rw[h]at hx;cases hx
  exact⟨o',aD _ _ _,.inr ⟨n,n',hn,vp,ae⟩⟩
 ·exact⟨o1,by rw[aU _ _ _ ar];exact hx,.inl ⟨rfl,by rw[aU _ _ _ ar],rfl⟩⟩
theorem c8{α β:Type}[DecidableEq α](f:α->β)(a:α):upd f a (f a)=f:=by
 funext x;unfold upd;split<;>simp_all
structure FR where
 ok:Prop
 x:V
 obj:Name->Option O
structure RY where
 ok:Prop
 xs:List V
 obj:Name->Option O
def aG(f:(Name->Option O)->D->FR)(obj:Name->Option O):List D->RY
 |[]=>⟨True,[],obj⟩
 |d::r=>⟨(f obj d).ok/\(aG f (f obj d).obj r).ok,(f obj d).x::(aG f (f obj d).obj r).xs,(aG f (f obj d).obj r).obj⟩
def aq:Nat->(Name->Option O)->D->FR
 | 0,obj,d=>match d with
   | .v x=>⟨True,x,obj⟩
   | .nilsl=>⟨True,.sl [],obj⟩
   |_=>⟨False,default,obj⟩
 |n+1,obj,d=>match d with
  | .v x=>⟨True,x,obj⟩
  | .nilsl=>⟨True,.sl [],obj⟩
  | .msl nm k=>match obj nm with
    |some (.arr sz l)=>⟨k=l.length,.sl l,upd obj nm (some (.farr sz l))⟩
    |some (.farr _ l)=>⟨k=l.length,.sl l,obj⟩
    |_=>⟨False,default,obj⟩
  | .ref nm off=>match obj nm with
    |some (.box cs)=>⟨(aG (aq n) obj cs).ok/\(aG (aq n) obj cs).obj nm=some (.box cs),.ptr ((aG (aq n) obj cs).xs.drop off),
       upd (aG (aq n) obj cs).obj nm (some (.fbox (aG (aq n) obj cs).xs))⟩
    |some (.fbox cs)=>⟨True,.ptr (cs.drop off),obj⟩
    |_=>⟨False,default,obj⟩
  | .agg l=>⟨(aG (aq n) obj l).ok,.agg (aG (aq n) obj l).xs,(aG (aq n) obj l).obj⟩
  | .tup l=>⟨(aG (aq n) obj l).ok,.tup (aG (aq n) obj l).xs,(aG (aq n) obj l).obj⟩
  | .clo fn f c=>⟨(aG (aq n) obj f).ok/\(aG (aq n) (aG (aq n) obj f).obj c).ok,.clo fn (aG (aq n) obj f).xs (aG (aq n) (aG (aq n) obj f).obj c).xs,
      (aG (aq n) (aG (aq n) obj f).obj c).obj⟩
  |_=>⟨False,default,obj⟩
theorem ay.frz1{G:Ghost}{φ:Name->Loc}{m:Mem}{σ:S}{a:Act}{w:World}(hC:ay G φ m σ a w)(nm:Name)(o o':O)(ho:σ.obj nm=some o)(hm:o.mut=true)
 (bC:(φ nm).nul=false) (us:Array Value) (T:TypeId) (f:Nat×Nat) (hb:w.heap[(φ nm).blk]?=some (.cells us T f))
 (hl:o'.len?=o.len?) (hs:o'.sz=o.sz) (fb:o'.mut=false)
 (e8:∀ m',Mem.le m m'->(∀ off c,us[off]?=some c->m' (φ nm).blk off=some c)->dz φ (upd σ.obj nm (some o')) m' o' (φ nm) w):
 ∃ m',Mem.le m m'/\ay G φ m' { σ with obj:=upd σ.obj nm (some o') } a w/\(∀ off c,us[off]?=some c->m' (φ nm).blk off=some c):=by
 have hh:holds φ σ.obj nm:=⟨o,ho,hm,bC⟩
 let m':Mem:=fun b off=>if b=(φ nm).blk then us[off]? else m b off
 have hle:Mem.le m m':=by
  intro b off v h
  show (if b=(φ nm).blk then us[off]? else m b off)=some v
  by_cases cE:b=(φ nm).blk
  ·subst cE;rw[hC.apart nm hh off]at h;cases h
  ·rw[if_neg cE];exact h
 have iR:∀ off c,us[off]?=some c->m' (φ nm).blk off=some c:=fun off c h=>by
  show (if (φ nm).blk=(φ nm).blk then us[off]? else m _ off)=some c
  rw[if_pos rfl];exact h
 have hx:Ext φ φ σ.obj (upd σ.obj nm (some o')):=by
  have :=Ext.same (φ:=φ) (o':=o') ho hl hs
  rwa [c8]at this
 have hold:∀ x,holds φ (upd σ.obj nm (some o')) x->x≠nm/\holds φ σ.obj x:=by
  rintro x ⟨o1,h1,h2,h3⟩
  by_cases ar:x=nm
  ·subst ar;rw[aD]at h1;cases h1;rw[fb]at h2;cases h2
  ·rw[aU _ _ _ ar]at h1;exact⟨ar,o1,h1,h2,h3⟩
 refine⟨m',hle,?_,iR⟩
 constructor
 ·exact fun t=>(hC.tmps t).ext hle hx
 ·exact hC.size
 ·exact hC.defers
 ·intro x o1 lL
  simp only at lL
  by_cases ar:x=nm
  ·subst ar
   rw[aD]at lL
   cases lL
   exact e8 m' hle iR
  ·rw[aU _ _ _ ar]at lL
   exact(hC.objs x o1 lL).ext hle hx fun _ _=>rfl
 ·intro b off v h
  have h':(if b=(φ nm).blk then us[off]? else m b off)=some v:=h
  by_cases cE:b=(φ nm).blk
  ·subst cE;rw[if_pos rfl]at h';rw[gH hb];exact h'
  ·rw[if_neg cE]at h';exact hC.mem _ _ _ h'
 ·intro x aO off
  obtain⟨ar,h⟩:=hold x aO
  show (if (φ x).blk=(φ nm).blk then us[off]? else m _ off)=none
  rw[if_neg fun e=>ar (hC.inj _ _ h hh e)]
  exact hC.apart x h off
 ·exact fun x y aO hy e=>hC.inj _ _ (hold x aO).2 (hold y hy).2 e
 ·exact fun x aO=>hC.own x (hold x aO).2
 ·exact hC.fr
 ·intro b off v h
  have h':(if b=(φ nm).blk then us[off]? else m b off)=some v:=h
  by_cases cE:b=(φ nm).blk
  ·subst cE;exact .inr (hC.own nm hh)
  ·rw[if_neg cE]at h';exact hC.fresh _ _ _ h'
 ·exact⟨hC.kept.1,hC.kept.2.trans hx⟩
theorem ay.frzNil{G:Ghost}{φ:Name->Loc}{m:Mem}{σ:S}{a:Act}{w:World}(hC:ay G φ m σ a w)(nm:Name)(sz:Nat)(ho:σ.obj nm=some (.arr sz []))
 (bC:(φ nm).nul=true):ay G φ m { σ with obj:=upd σ.obj nm (some (.farr sz [])) } a w:=by
 have :=hC.chg (w':=w) nm (.farr sz []) (φ nm) (Ext.same ho rfl rfl) ⟨rfl,rfl,rfl,Nat.le_refl _⟩ (fun _ _ _=>rfl) (fun h=>by rw[bC]at h;cases h) (.inl ⟨bC,rfl⟩)
 rwa [c8]at this
def GD(f:(Name->Option O)->D->FR):Prop:=
 ∀ (G:Ghost) (φ:Name->Loc) (m:Mem) (σ:S) (a:Act) (w:World) (_:ay G φ m σ a w) (d:D) (u:Value) (_:al φ σ.obj m d u) (_:(f σ.obj d).ok),
   ∃ m',Mem.le m m'/\ay G φ m' { σ with obj:=(f σ.obj d).obj } a w/\Ext φ φ σ.obj (f σ.obj d).obj/\aw m' (f σ.obj d).x u/\(d.one=true->(f σ.obj d).x.one=true)
theorem kP{f:(Name->Option O)->D->FR}(hf:GD f):∀ (l:List D) {G:Ghost} {φ:Name->Loc} {m:Mem} {σ:S} {a:Act} {w:World} (_:ay G φ m σ a w) (us:List Value)
 (_:l.length=us.length) (_:∀ i (h:i<l.length) (h':i<us.length),al φ σ.obj m l[i] us[i]) (_:(aG f σ.obj l).ok),
 ∃ m',Mem.le m m'/\ay G φ m' { σ with obj:=(aG f σ.obj l).obj } a w/\Ext φ φ σ.obj (aG f σ.obj l).obj/\(aG f σ.obj l).xs.length=l.length/\
   (∀ i (h:i<(aG f σ.obj l).xs.length) (h':i<us.length),aw m' (aG f σ.obj l).xs[i] us[i])/\
   ((∀ d∈l,d.one=true)->∀ x∈(aG f σ.obj l).xs,x.one=true)
 |[],G,φ,m,σ,a,w,hC,us,hl,hr,aa=>⟨m,Mem.le_refl m,hC,Ext.refl _ _,rfl,fun i h=>by simp[aG]at h,fun _ x hx=>by simp[aG]at hx⟩
 |d::r,G,φ,m,σ,a,w,hC,[],hl,hr,aa=>by simp at hl
 |d::r,G,φ,m,σ,a,w,hC,u::us,hl,hr,aa=>by
  obtain⟨h1,h2⟩:=aa
  obtain⟨m1,a1,a2,a3,a4,a5⟩:=hf _ _ _ _ _ _ hC _ _ (hr 0 (by simp) (by simp)) h1
  obtain⟨m2,b1,b2,b3,b4,b5,b6⟩:=kP hf r (σ:={ σ with obj:=(f σ.obj d).obj }) a2 us (by simpa using hl)
   (fun i h h'=>(hr (i+1) (by simpa using h) (by simpa using h')).ext a1 a3) h2
  refine⟨m2,Mem.le_trans a1 b1,b2,a3.trans b3,by simpa[aG]using b4,fun i h h'=>?_,fun ho x hx=>?_⟩
  ·cases i with
   |zero=>exact a4.mono b1
   |succ i=>simpa[aG]using b5 i (by simpa[aG]using h) (by simpa using h')
  ·simp only[aG,List.mem_cons]at hx
   rcases hx with rfl | hx
   ·exact a5 (ho d (by simp))
   ·exact b6 (fun d hd=>ho d (by simp[hd])) x hx
theorem jQ:∀ n,GD (aq n)
 | 0=>by
   intro G φ m σ a w hC d u hd aa
   cases d with
   |v x=>cases hd with | v _ _ h=>exact⟨m,Mem.le_refl m,hC,Ext.refl _ _,h,id⟩
   |nilsl=>cases hd;exact⟨m,Mem.le_refl m,hC,Ext.refl _ _,.slnil _ _,fun _=>rfl⟩
   |_=>exact aa.elim
 |n+1=>by
  intro G φ m σ a w hC d u hd aa
  have ih:=jQ n
  cases d with
  |v x=>cases hd with | v _ _ h=>exact⟨m,Mem.le_refl m,hC,Ext.refl _ _,h,id⟩
  |nilsl=>cases hd;exact⟨m,Mem.le_refl m,hC,Ext.refl _ _,.slnil _ _,fun _=>rfl⟩
  |msl nm k=>
   cases hd with
   |msl _ _ _ hx hu=>
   obtain⟨o,k',aj,hlen,hk,br⟩:=hx
   cases o with
   |arr sz l=>
    simp only[aq,aj]at aa |-
    simp only[O.len?,Option.some.injEq]at hlen
    subst hlen
    have e:=br aa
    subst e
    have hx:Ext φ φ σ.obj (upd σ.obj nm (some (.farr sz l))):=by
     have :=Ext.same (φ:=φ) (o':=.farr sz l) aj rfl rfl
     rwa [c8]at this
    rcases hC.objs nm _ aj with⟨h,h'⟩ | ⟨h0,h1,h2,h3,h4,us,T,f,h5,h6,h7,h8⟩
    ·subst h'
     refine⟨m,Mem.le_refl m,hC.frzNil nm sz aj h,hx,?_,fun _=>rfl⟩
     simp only[Loc.slice,h,if_true]
     exact .slnil _ _
    ·have e8:∀ m',Mem.le m m'->(∀ off c,us[off]?=some c->m' (φ nm).blk off=some c)->
         ∀ i j (h:i<l.length) (h':j<(l[i].cells).length),∃ c,m' (φ nm).blk ((φ nm).off+i*sz+j)=some c/\aw m' (l[i].cells)[j] c:=
       fun m' hle fb i j a b=>let ⟨c,x,y⟩:=h8 i j a b;⟨c,fb _ _ x,y.mono hle⟩
     obtain⟨m',hle,bp,fb⟩:=hC.frz1 nm (.arr sz l) (.farr sz l) aj rfl h0 us T f h5 rfl rfl rfl
      (fun m' hle fb=>.inr ⟨h0,⟨h1,by omega⟩,h3,h4,e8 m' hle fb⟩)
     refine⟨m',hle,bp,hx,?_,fun _=>rfl⟩
     simp only[Loc.slice,h0,Bool.false_eq_true,if_false]
     rw[aa]
     by_cases hl:l=[]
     ·subst hl;exact .slnil _ _
     ·refine .sl l _ _ _ sz (fun i j=>(us[(φ nm).off+i*sz+j]?).getD undef) hl (by omega) h1 h3 (fun i j hi hj=>?_) (fun i j hi hj=>?_) h4
      ·obtain⟨c,x,y⟩:=h8 i j hi (by rw[h3];exact hj)
       rw[x];exact fb _ _ x
      ·obtain⟨c,x,y⟩:=h8 i j hi hj
       rw[x];exact y.mono hle
   |farr sz l=>
    simp only[aq,aj]at aa |-
    simp only[O.len?,Option.some.injEq]at hlen
    subst hlen
    have e:=br aa
    subst e
    refine⟨m,Mem.le_refl m,hC,Ext.refl _ _,?_,fun _=>rfl⟩
    rcases hC.objs nm _ aj with⟨h,h'⟩ | ⟨h0,h1,h2,h3,h4⟩
    ·subst h'
     simp only[Loc.slice,h,if_true]
     exact .slnil _ _
    ·simp only[Loc.slice,h0,Bool.false_eq_true,if_false]
     rw[aa]
     by_cases hl:l=[]
     ·subst hl;exact .slnil _ _
     ·refine .sl l _ _ _ sz (fun i j=>(m (φ nm).blk ((φ nm).off+i*sz+j)).getD undef) hl h1.2 h1.1 h2 (fun i j hi hj=>?_) (fun i j hi hj=>?_) h3
      ·obtain⟨c,x,y⟩:=h4 i j hi (by rw[h2];exact hj)
       rw[x];rfl
      ·obtain⟨c,x,y⟩:=h4 i j hi hj
       rw[x];exact y
   |box=>simp[aq,aj]at aa
   |map=>simp[aq,aj]at aa
   |fbox=>simp[aq,aj]at aa
   |loop=>simp[aq,aj]at aa
   |dead=>first | (simp[aq,aj]at aa;done) | (simp[O.len?]at hlen;done)
  |ref nm off=>
   cases hd with
   |ref _ _ hx=>
   obtain⟨o,aj,hlen⟩:=hx
   cases o with
   |box cs=>
    simp only[aq,aj]at aa |-
    obtain⟨ve,oX⟩:=aa
    obtain⟨h0,h1,cZ,us,T,f,h2,h3,h4,h5⟩:=hC.objs nm _ aj
    obtain⟨m1,a1,a2,a3,a4,a5,a6⟩:=kP ih cs hC us.toList (by simp[h4]) (fun i h h'=>by simpa using h5 i h (by simpa using h')) ve
    obtain⟨m2,b1,b2,b3⟩:=a2.frz1 nm (.box cs) (.fbox (aG (aq n) σ.obj cs).xs) oX rfl h1 us T f h2 rfl rfl rfl
     (fun m' hle fb=>⟨a6 cZ,fun i hi=>by
       have DF:i<us.size:=by omega
       refine⟨us[i],?_,(a5 i hi (by simpa using DF)).mono hle⟩
       rw[h0,Nat.zero_add];exact fb _ _ (Array.getElem?_eq_getElem DF)⟩)
    refine⟨m2,Mem.le_trans a1 b1,b2,a3.trans (by have:=Ext.same (φ:=φ) (o':=.fbox (aG (aq n) σ.obj cs).xs) oX rfl rfl;rwa [c8]at this),?_,fun _=>rfl⟩
    refine .ptr _ _ _ (fun j=>(us[off+j]?).getD undef) (fun y hy=>a6 cZ y (List.mem_of_mem_drop hy)) (fun j hj=>?_) fun j hj=>?_
    ·simp only[List.length_drop]at hj
     have o7:off+j<us.size:=by omega
     rw[h0,Nat.zero_add,Array.getElem?_eq_getElem o7]
     exact b3 _ _ (Array.getElem?_eq_getElem o7)
    ·simp only[List.length_drop]at hj
     have o7:off+j<us.size:=by omega
     simp only[List.getElem_drop,Array.getElem?_eq_getElem o7,Option.getD_some]
     have h9:=(a5 (off+j) (by omega) (by simpa using o7)).mono b1
     rw[Array.getElem_toList]at h9
     exact h9
   |fbox cs=>
    simp only[aq,aj]at aa |-
    obtain⟨h0,h1⟩:=hC.objs nm _ aj
    refine⟨m,Mem.le_refl m,hC,Ext.refl _ _,?_,fun _=>rfl⟩
    refine .ptr _ _ _ (fun j=>(m (φ nm).blk ((φ nm).off+off+j)).getD undef) (fun y hy=>h0 y (List.mem_of_mem_drop hy)) (fun j hj=>?_) fun j hj=>?_
    ·simp only[List.length_drop]at hj
     obtain⟨c,h2,h3⟩:=h1 (off+j) (by omega)
     rw[Nat.add_assoc,h2];rfl
    ·simp only[List.length_drop]at hj
     obtain⟨c,h2,h3⟩:=h1 (off+j) (by omega)
     rw[Nat.add_assoc,h2]
     simpa using h3
   |arr=>simp[O.len?]at hlen
   |farr=>simp[O.len?]at hlen
   |map=>simp[aq,aj]at aa
   |loop=>simp[aq,aj]at aa
   |dead=>first | (simp[aq,aj]at aa;done) | (simp[O.len?]at hlen;done)
  |agg l=>
   cases hd with
   |agg _ us hl ho hr=>
   simp only[aq]at aa |-
   obtain⟨m1,a1,a2,a3,a4,a5,a6⟩:=kP ih l hC us.toList (by simpa using hl) (fun i h h'=>by simpa using hr i h (by simpa using h')) aa
   exact⟨m1,a1,a2,a3,.agg _ us (by rw[a4];exact hl) (a6 ho) (fun i h h'=>by have h9:=a5 i h (by simpa using h');rw[Array.getElem_toList]at h9;exact h9),fun h=>by simp[D.one]at h⟩
  |tup l=>
   cases hd with
   |tup _ us hl hr=>
   simp only[aq]at aa |-
   obtain⟨m1,a1,a2,a3,a4,a5,a6⟩:=kP ih l hC us.toList (by simpa using hl) (fun i h h'=>by simpa using hr i h (by simpa using h')) aa
   exact⟨m1,a1,a2,a3,.tup _ us (by rw[a4];exact hl) (fun i h h'=>by have h9:=a5 i h (by simpa using h');rw[Array.getElem_toList]at h9;exact h9),fun h=>by simp[D.one]at h⟩
  |clo fn fs cs=>
   cases hd with
   |clo _ _ _ us vs h1 h2 bk bX=>
   simp only[aq]at aa |-
   obtain⟨m1,a1,a2,a3,a4,a5,a6⟩:=kP ih fs hC us.toList (by simpa using h1) (fun i h h'=>by simpa using bk i h (by simpa using h')) aa.1
   obtain⟨m2,b1,b2,b3,b4,b5,b6⟩:=kP ih cs a2 vs.toList (by simpa using h2) (fun i h h'=>by simpa using(bX i h (by simpa using h')).ext a1 a3) aa.2
   exact⟨m2,Mem.le_trans a1 b1,b2,a3.trans b3,.clo fn _ _ us vs (by rw[a4];exact h1) (by simpa using b4.trans h2) (fun i h h'=>by have h9:=(a5 i h (by simpa using h')).mono b1;rw[Array.getElem_toList]at h9;exact h9)
    (fun i h h'=>by have h9:=b5 i h (by simpa using h');rw[Array.getElem_toList]at h9;exact h9),fun _=>rfl⟩
  |_=>exact aa.elim
def iA(G:Ghost)(σ:S)(a:Act)(r:R)(v:Value)(w':World):Prop:=
 ∃ φ' m',ay G φ' m' { σ with obj:=r.obj } a w'/\al φ' r.obj m' r.d v
abbrev aI (t:Name):Name:=t
def D.boxable:D->Bool
 | .any=>false
 | .tup _=>false
 | .v (.tup _)=>false
 |_=>true
theorem al.boxed{φ:Name->Loc}{obj:Name->Option O}{m:Mem}{d:D}{u:Value}(h:al φ obj m d u)(hb:d.boxable=true):∀ c∈d.cells,c.one=true:=by
 cases h with
 |v x u h=>
  cases h with
  |agg l us hl ho hr=>intro c hc;simp only[D.cells,List.mem_map]at hc;obtain⟨y,hy,rfl⟩:=hc;exact ho y hy
  |tup=>simp[D.boxable]at hb
  |_=>intro c hc;simp only[D.cells,List.mem_singleton]at hc;subst hc;rfl
 |agg l us hl ho hr=>exact ho
 |any=>simp[D.boxable]at hb
 |tup=>simp[D.boxable]at hb
 |_=>intro c hc;simp only[D.cells,List.mem_singleton]at hc;subst hc;rfl
theorem D.boxable_any{d:D}(hb:d.boxable=true):d≠ .any:=by rintro rfl;simp[D.boxable]at hb
def gP(obj:Name->Option O)(t:Name)(x:D):R:=
 ⟨obj (aI t)=none/\x.boxable=true,.ref (aI t) 0,upd obj (aI t) (some (.box x.cells))⟩
theorem hY{w:World}{o:Obj}{b:Nat}(h:b<w.heap.size):({ w with heap:=w.heap.push o }:World).heap[b]?=w.heap[b]?:=by
 show (w.heap.push o)[b]?=_
 rw[Array.getElem?_push,if_neg (by omega)]
theorem pj{w:World}{o:Obj}:({ w with heap:=w.heap.push o }:World).heap[w.heap.size]?=some o:=by
 show (w.heap.push o)[w.heap.size]?=_
 simp
theorem Fs{G:Ghost}{φ:Name->Loc}{m:Mem}{σ:S}{a:Act}{w:World}(hC:ay G φ m σ a w){t:Name}{x:D}{u:Value}(T:TypeId)
 (hx:al φ σ.obj m x u) (aa:(gP σ.obj t x).ok):
 iA G σ a (gP σ.obj t x) (.pointer (some ⟨w.heap.size,0,none⟩)) { w with heap:=w.heap.push (.cells u.cells T) }:=by
 obtain⟨h1,h2⟩:=aa
 have aO:=Ext.new (φ:=φ) h1 ⟨w.heap.size,0,0,false,none⟩ (.box x.cells)
 have ar:=D.boxable_any h2
 refine⟨upd φ (aI t) ⟨w.heap.size,0,0,false,none⟩,m,hC.chg (aI t) (.box x.cells) ⟨w.heap.size,0,0,false,none⟩ aO ⟨rfl,rfl,rfl,by simp⟩
  (fun b hb _=>hY hb) (fun _=>.inl (Nat.le_refl _)) ?_,?_⟩
 ·exact⟨rfl,rfl,hx.boxed h2,u.cells,T,(0,0),pj,rfl,(hx.cells ar).symm,fun i h h'=>(hx.cell ar i h h').ext (Mem.le_refl m) aO⟩
 ·have:=al.ref (φ:=upd φ (aI t) ⟨w.heap.size,0,0,false,none⟩) (obj:=upd σ.obj (aI t) (some (.box x.cells))) (m:=m) (aI t) 0 ⟨_,aD _ _ _,rfl⟩
  rwa [aD]at this
theorem HJ{P:Program}{G:Ghost}{φ:Name->Loc}{m:Mem}{σ:S}{a:Act}{w:World}(hC:ay G φ m σ a w){t:Name}{T:TypeId}{x:D}{u:Value}
 (hx:al φ σ.obj m x u) (aa:(gP σ.obj t x).ok):
 ∃ v w',(Instr.box T u).run P w=.ok v w'/\iA G σ a (gP σ.obj t x) v w':=
 ⟨_,_,rfl,Fs hC T hx aa⟩
def iz(P:Program)(obj:Name->Option O)(t:Name)(T:TypeId):R:=
 match aH P T with
 |some z=>gP obj t (eW z)
 |none=>.bad obj
theorem mP{P:Program}{T:TypeId}{z:Value}(h:aH P T=some z)(w:World):(zeroValue T).run P w=.ok z w:=by
 unfold aH at h
 cases hi:P.info? T with
 |none=>simp[hi]at h
 |some i=>simp only[hi,Option.bind_some]at h;simp[zeroValue,typeInfo,hi,h]
theorem HN{P:Program}{G:Ghost}{φ:Name->Loc}{m:Mem}{σ:S}{a:Act}{w:World}(hC:ay G φ m σ a w){t:Name}{T:TypeId}
 (aa:(iz P σ.obj t T).ok):
 ∃ v w',(Instr.alloc T true (.tuple #[])).run P w=.ok v w'/\iA G σ a (iz P σ.obj t T) v w':=by
 unfold iz at aa |-
 cases hz:aH P T with
 |none=>rw[hz]at aa;exact aa.elim
 |some z=>
  rw[hz]at aa
  refine⟨_,_,?_,Fs hC T (mV z) aa⟩
  simp only[Instr.alloc,Sem.run_bind,mP hz,Result.andThen_ok]
  rfl
def eU{α:Type}(cs:List α)(off:Nat)(ds:List α):List α:=cs.take off++ds++cs.drop (off+ds.length)
theorem ti{α:Type}{cs ds:List α}{off:Nat}(h:off+ds.length<=cs.length):(eU cs off ds).length=cs.length:=by
 simp[eU];omega
theorem mO{α:Type}{cs ds:List α}{off:Nat}(h:off+ds.length<=cs.length)(k:Nat):
 (eU cs off ds)[k]?=if off<=k/\k<off+ds.length then ds[k-off]? else cs[k]?:=by
 unfold eU
 by_cases h1:k<off
 ·rw[if_neg (by omega),List.append_assoc,List.getElem?_append_left (by simp;omega)]
  simp[List.getElem?_take,h1]
 ·by_cases h2:k<off+ds.length
  ·rw[if_pos (by omega),List.append_assoc,List.getElem?_append_right (by simp;omega),List.getElem?_append_left (by simp;omega)]
   congr 1;simp;omega
  ·rw[if_neg (by omega),List.getElem?_append_right (by simp;omega),List.getElem?_drop]
   congr 1;simp;omega
def mq(place:Nat->Option (Nat×Nat)):List D->List (Nat×D)->Option (List D)
 |cs,[]=>some cs
 |cs,(i,d)::r=>
  match place i with
  |none=>none
  |some (off,size)=>if d.boxable=true/\d.cells.length=size/\off+size<=cs.length then mq place (eU cs off d.cells) r else none
theorem wy(off:Nat):∀ (vs:List Value) (s:Nat) (cs:Array Value),off+s+vs.length<=cs.size->
 ((vs.zipIdx s).foldl (fun cs (c,j)=>cs.setIfInBounds (off+j) c) cs).size=cs.size/\
 ∀ k,((vs.zipIdx s).foldl (fun cs (c,j)=>cs.setIfInBounds (off+j) c) cs)[k]?=if off+s<=k/\k<off+s+vs.length then vs[k-(off+s)]? else cs[k]?
 |[],s,cs,_=>⟨rfl,fun k=>by rw[if_neg (by simp only[List.length_nil];omega)];rfl⟩
 |v::vs,s,cs,h=>by
  simp only[List.length_cons]at h
  obtain⟨h1,h2⟩:=wy off vs (s+1) (cs.setIfInBounds (off+s) v) (by simp;omega)
  simp only[List.zipIdx_cons,List.foldl_cons]
  refine⟨by rw[h1];simp,fun k=>?_⟩
  rw[h2 k]
  by_cases hk:k=off+s
  ·subst hk
   rw[if_neg (by omega),if_pos (by simp)]
   simp[show off+s<cs.size by omega]
  ·rw[Array.getElem?_setIfInBounds_ne (fun e=>hk e.symm)]
   by_cases eI:off+(s+1)<=k/\k<off+(s+1)+vs.length
   ·rw[if_pos eI,if_pos (by simp;omega)]
    have :k-(off+s)=(k-(off+(s+1)))+1:=by omega
    rw[this,List.getElem?_cons_succ]
   ·rw[if_neg eI,if_neg (by simp;omega)]
def F'(φ:Name->Loc)(obj:Name->Option O)(m:Mem)(ds:List D)(us:Array Value):Prop:=
 ds.length=us.size/\∀ (k:Nat) (d:D) (u:Value),ds[k]?=some d->us[k]?=some u->al φ obj m d u
theorem EC{φ:Name->Loc}{obj:Name->Option O}{m:Mem}(place:Nat->Option (Nat×Nat)):∀ (parts:List (Nat×D)) (vals:List (Nat×Value)) (cs:List D) (us:Array Value) (ja:List D),
 parts.map (·.1)=vals.map (·.1)->(∀ (k:Nat) (p:Nat×D) (q:Nat×Value),parts[k]?=some p->vals[k]?=some q->al φ obj m p.2 q.2)->F' φ obj m cs us->(∀ d∈cs,d.one=true)->mq place cs parts=some ja->
 ∃ aP,Instr.fill place us vals=some aP/\F' φ obj m ja aP/\(∀ d∈ja,d.one=true)
 |[],vals,cs,us,ja,he,hr,hl,ho,hf=>by
  cases vals with
  |nil=>simp only[mq,Option.some.injEq]at hf;subst hf;exact⟨us,rfl,hl,ho⟩
  |cons=>simp at he
 |(i,d)::parts,vals,cs,us,ja,he,hr,hl,ho,hf=>by
  cases vals with
  |nil=>simp at he
  |cons q vals=>
   obtain⟨i',u⟩:=q
   simp only[List.map_cons,List.cons.injEq]at he
   obtain⟨rfl,he⟩:=he
   simp only[mq]at hf
   cases hp:place i with
   |none=>simp[hp]at hf
   |some p=>
    obtain⟨off,size⟩:=p
    simp only[hp]at hf
    split at hf
    ·rename_i hc
     obtain⟨hb,hs,hle⟩:=hc
     have hd:al φ obj m d u:=hr 0 (i,d) (i,u) rfl rfl
     have ar:=D.boxable_any hb
     have ef:=hd.cells ar
     have bB:us.size=cs.length:=hl.1.symm
     have Dd:u.cells.toList.length=d.cells.length:=by simp[ef]
     obtain⟨g1,g2⟩:=wy off u.cells.toList 0 us (by rw[Dd];omega)
     have vz:off+d.cells.length<=cs.length:=by omega
     obtain⟨aP,k1,k2,k3⟩:=EC place parts vals (eU cs off d.cells) (((u.cells.toList.zipIdx 0).foldl (fun cs (c,j)=>cs.setIfInBounds (off+j) c) us)) ja he
      (fun k p q hp hq=>hr (k+1) p q (by simpa using hp) (by simpa using hq))
      (by
        refine⟨by rw[ti vz,g1,bB],fun k d' u' hk fE=>?_⟩
        rw[mO vz]at hk
        rw[g2]at fE
        simp only[Nat.add_zero,Dd]at fE
        by_cases eI:off<=k/\k<off+d.cells.length
        ·rw[if_pos eI]at hk fE
         obtain⟨a1,a2⟩:=List.getElem?_eq_some_iff.1 hk
         obtain⟨b1,b2⟩:=List.getElem?_eq_some_iff.1 fE
         rw[Array.getElem_toList]at b2
         rw[<-a2,<-b2]
         exact hd.cell ar _ a1 (by simpa using b1)
        ·rw[if_neg eI]at hk fE
         exact hl.2 k d' u' hk fE)
      (by
        intro c hc
        obtain⟨k,hk⟩:=List.mem_iff_getElem?.1 hc
        rw[mO vz]at hk
        split at hk
        ·exact hd.boxed hb c (List.mem_of_getElem? hk)
        ·exact ho c (List.mem_of_getElem? hk)) hf
     refine⟨aP,?_,k2,k3⟩
     simp only[Instr.fill,hp]
     rw[if_neg (by simp;omega)]
     have hz:u.cells.toList.zipIdx 0=(u.cells.zipIdx).toList:=by simp
     rw[<-Array.foldl_toList,<-hz]
     exact k1
    ·cases hf
def dA(P:Program)(t:TypeId):Option (List (Nat×Nat)):=
 match P.underlying t with
 |some (.struct fs)=>fs.toList.mapM fun f=>(P.info? f.type).map fun i=>(f.offset,i.size)
 |some (.array n e)=>(P.info? e).map fun i=>(List.range n).map fun j=>(j*i.size,i.size)
 |_=>none
def gO(P:Program)(obj:Name->Option O)(T:TypeId)(parts:List (Nat×D)):R:=
 match dA P T,aH P T with
 |some ps,some z=>match eW z with
  | .agg cs=>match mq (fun i=>ps[i]?) cs parts with
    |some ja=>⟨True,.agg ja,obj⟩
    |none=>.bad obj
  |_=>.bad obj
 |_,_=>.bad obj
theorem EE{n sz:Nat}:∀ (vals:List (Nat×Value)) (us aP:Array Value),
 Instr.fill (fun i=>((List.range n).map fun j=>(j*sz,sz))[i]?) us vals=some aP->Instr.fill (fun i=>some (i*sz,sz)) us vals=some aP
 |[],us,aP,h=>h
 |(i,v)::r,us,aP,h=>by
  simp only[Instr.fill]at h |-
  split at h
  ·cases h
  ·rename_i off size hp
   simp only[List.getElem?_map,Option.map_eq_some_iff]at hp
   obtain⟨j,hj,hp⟩:=hp
   have :j=i:=by
    obtain⟨a1,a2⟩:=List.getElem?_eq_some_iff.1 hj
    simpa using a2.symm
   subst this
   simp only[Prod.mk.injEq]at hp
   obtain⟨rfl,rfl⟩:=hp
   split at h
   ·cases h
   ·rename_i hc
    rw[if_neg hc]
    exact EE r _ aP h
theorem HI{P:Program}{φ:Name->Loc}{obj:Name->Option O}{m:Mem}{T:TypeId}{parts:List (Nat×D)}{vals:Array (Nat×Value)}(w:World)
 (he:parts.map (·.1)=vals.toList.map (·.1)) (hr:∀ (k:Nat) (p:Nat×D) (q:Nat×Value),parts[k]?=some p->vals.toList[k]?=some q->al φ obj m p.2 q.2) (aa:(gO P obj T parts).ok):
 ∃ v,(Instr.build T vals).run P w=.ok v w/\al φ obj m (gO P obj T parts).d v/\(gO P obj T parts).obj=obj:=by
 unfold gO at aa |-
 split at aa
 ·rename_i ps z fa hz
  split at aa
  ·rename_i cs dp
   split at aa
   ·rename_i ja hf
    have dk:al φ obj m (eW z) z:=mV z
    rw[dp]at dk
    cases dk with
    |agg _ us hl ho np=>
    obtain⟨aP,h1,h2,h3⟩:=EC (fun i=>ps[i]?) parts vals.toList cs us ja he hr
     ⟨hl,fun k d u hd hu=>by
       obtain⟨a1,a2⟩:=List.getElem?_eq_some_iff.1 hd
       obtain⟨b1,b2⟩:=Array.getElem?_eq_some_iff.1 hu
       rw[<-a2,<-b2];exact np k a1 b1⟩ ho hf
    refine⟨.agg aP,?_,?_,by simp[fa,hz,dp,hf]⟩
    ·refine run_build w T vals aP ?_
     unfold dA at fa
     unfold aH at hz
     unfold Program.built
     cases eJ:P.info? T with
     |none=>simp[eJ]at hz
     |some it=>
      simp only[eJ,Option.bind_some]at hz
      split at fa
      ·rename_i fs hu
       simp only[hu,hz,fa,Value.cells]
       simpa using h1
      ·rename_i n e hu
       simp only[Option.map_eq_some_iff]at fa
       obtain⟨i,hi,fa⟩:=fa
       subst fa
       simp only[hu,hz,hi,Value.cells]
       exact EE _ _ _ h1
      ·cases fa
    ·simp only[fa,hz,dp,hf]
     refine .agg _ _ h2.1 h3 fun i a b=>h2.2 i _ _ (List.getElem?_eq_getElem a) (Array.getElem?_eq_getElem b)
   ·exact aa.elim
  ·exact aa.elim
 ·exact aa.elim
def V.okc:V->Bool
 | .tup _=>false
 |_=>true
theorem aw.ones{m:Mem}{x:V}{u:Value}(h:aw m x u)(hb:x.okc=true):∀ c∈x.cells,c.one=true:=by
 cases h with
 |agg l us hl ho hr=>exact ho
 |tup=>simp[V.okc]at hb
 |_=>intro c hc;simp only[V.cells,List.mem_singleton]at hc;subst hc;rfl
theorem ay.immNew{G:Ghost}{φ:Name->Loc}{m:Mem}{σ:S}{a:Act}{w:World}(hC:ay G φ m σ a w)(us:Array Value)(T:TypeId):
 ∃ m',Mem.le m m'/\ay G φ m' σ a { w with heap:=w.heap.push (.cells us T) }/\∀ (off:Nat) (c:Value),us[off]?=some c->m' w.heap.size off=some c:=by
 let m':Mem:=fun b off=>if b=w.heap.size then us[off]? else m b off
 have hle:Mem.le m m':=by
  intro b off v h
  show (if b=w.heap.size then us[off]? else m b off)=some v
  rw[if_neg (by have:=jb (hC.mem _ _ _ h);omega)];exact h
 refine⟨m',hle,?_,fun off c h=>by show (if w.heap.size=w.heap.size then us[off]? else m _ off)=some c;rw[if_pos rfl];exact h⟩
 refine hC.imm hle ⟨rfl,rfl,rfl,by simp⟩ (fun b hb=>hY hb) fun b off v h=>?_
 have h':(if b=w.heap.size then us[off]? else m b off)=some v:=h
 by_cases hb:b=w.heap.size
 ·subst hb
  rw[if_pos rfl]at h'
  refine .inr ⟨Nat.le_refl _,?_⟩
  rw[gH (T:=T) (f:=(0,0)) pj];exact h'
 ·rw[if_neg hb]at h';exact .inl h'
theorem ED(sz:Nat):∀ (vals:List (Nat×Value)) (s:Nat) (us:Array Value),vals.map (·.1)=(List.range vals.length).map (s+ ·)->
 (∀ q∈vals,q.2.cells.size=sz)->(s+vals.length)*sz<=us.size->
 ∃ aP,Instr.fill (fun i=>some (i*sz,sz)) us vals=some aP/\aP.size=us.size/\(∀ k,k<s*sz->aP[k]?=us[k]?)/\
   ∀ (i j:Nat) (h:i<vals.length),j<sz->aP[(s+i)*sz+j]?=vals[i].2.cells[j]?
 |[],s,us,_,_,_=>⟨us,rfl,rfl,fun _ _=>rfl,fun i j h=>by simp at h⟩
 |(i0,v)::r,s,us,he,hs,hl=>by
  have OV:i0=s:=by
   have :=congrArg (·[0]?) he
   simpa using this
  subst OV
  have hv:v.cells.size=sz:=hs (i0,v) (by simp)
  have hmul:(i0+1+r.length)*sz=i0*sz+sz+r.length*sz:=by rw[Nat.add_mul,Nat.add_mul,Nat.one_mul]
  simp only[List.length_cons]at hl
  have DB:i0*sz+sz+r.length*sz<=us.size:=by rw[<-hmul];rw[show i0+1+r.length=i0+(r.length+1)by omega];exact hl
  obtain⟨g1,g2⟩:=wy (i0*sz) v.cells.toList 0 us (by simp[hv];omega)
  obtain⟨aP,k1,k2,k3,k4⟩:=ED sz r (i0+1) ((v.cells.toList.zipIdx 0).foldl (fun cs (c,j)=>cs.setIfInBounds (i0*sz+j) c) us)
   (by
     have h1:(List.range (r.length+1))=0::(List.range r.length).map (· +1):=by rw[List.range_succ_eq_map]
     simp only[List.map_cons,List.length_cons,h1,List.map_map,List.cons.injEq]at he
     rw[he.2]
     apply List.map_congr_left
     intro x _
     simp;omega)
   (fun q hq=>hs q (by simp[hq])) (by rw[g1,hmul];exact DB)
  refine⟨aP,?_,by rw[k2,g1],fun k hk=>?_,fun i j hi hj=>?_⟩
  ·simp only[Instr.fill]
   rw[if_neg (by simp[hv];omega)]
   have hz:v.cells.toList.zipIdx 0=(v.cells.zipIdx).toList:=by simp
   rw[<-Array.foldl_toList,<-hz]
   exact k1
  ·rw[k3 k (by rw[Nat.add_mul,Nat.one_mul];omega),g2,if_neg (by simp only[Nat.add_zero];omega)]
  ·cases i with
   |zero=>
    simp only[Nat.add_zero,List.getElem_cons_zero]
    rw[k3 _ (by rw[Nat.add_mul,Nat.one_mul];omega),g2]
    rw[if_pos (by simp only[Nat.add_zero,Array.length_toList,hv];omega)]
    simp only[Nat.add_zero,Nat.add_sub_cancel_left,Array.getElem?_toList]
   |succ i=>
    simp only[List.length_cons]at hi
    have :=k4 i j (by omega) hj
    rw[show i0+(i+1)=i0+1+i by omega]
    simpa using this
def jf(P:Program)(obj:Name->Option O)(T:TypeId)(n:Nat)(parts:List (Nat×D)):R:=
 match bg P T with
 |some (e,sz,_)=>
  if n=0/\parts=[]then⟨(aH P e).isSome=true,.nilsl,obj⟩
  else⟨parts.map (·.1)=List.range n/\(aG (aq 4) obj (parts.map (·.2))).ok/\(∀ x∈(aG (aq 4) obj (parts.map (·.2))).xs,x.cells.length=sz/\x.okc=true)/\
   n *sz<=16777216/\sz≠0/\(aH P e).isSome=true/\0<n,.v (.sl (aG (aq 4) obj (parts.map (·.2))).xs),(aG (aq 4) obj (parts.map (·.2))).obj⟩
 |none=>.bad obj
theorem HH{P:Program}{G:Ghost}{φ:Name->Loc}{m:Mem}{σ:S}{a:Act}{w:World}(hC:ay G φ m σ a w){T:TypeId}{n:Nat}{parts:List (Nat×D)}{vals:Array (Nat×Value)}
 (he:parts.map (·.1)=vals.toList.map (·.1)) (hr:∀ (k:Nat) (p:Nat×D) (q:Nat×Value),parts[k]?=some p->vals.toList[k]?=some q->al φ σ.obj m p.2 q.2)
 (aa:(jf P σ.obj T n parts).ok):
 ∃ v w',(Instr.buildSlice T n vals).run P w=.ok v w'/\iA G σ a (jf P σ.obj T n parts) v w':=by
 unfold jf at aa |-
 split at aa
 ·rename_i e sz by_ hT
  obtain⟨hu,i,hi,hs,_⟩:=dO hT
  have fC:(sizeOf e).run P w=.ok sz w:=by simp[sizeOf,typeInfo,hi,hs]
  split at aa
  ·rename_i hc
   obtain⟨rfl,rfl⟩:=hc
   have hv:vals= #[]:=by
    have :vals.toList=[]:=by simpa using he.symm
    simpa using this
   subst hv
   obtain⟨m',h1,h2,h3⟩:=hC.immNew #[] e
   refine⟨.slice (some ⟨w.heap.size,0,none⟩) 0 0,{ w with heap:=w.heap.push (.cells #[] e) },?_,?_⟩
   ·simp only[Instr.buildSlice,Sem.run_bind,run_underlying hu,Result.andThen_ok,fC]
    simp[Instr.fill,newRow,Array.range_zero']
   ·simp only[hT]
    rw[if_pos (by simp)]
    exact⟨φ,m',h2,.nilsl _⟩
  ·rename_i hc
   obtain⟨h1,h2,h3,h4,h5,h6,h7⟩:=aa
   obtain⟨z,hz⟩:=Option.isSome_iff_exists.1 h6
   have hlen:vals.toList.length=n:=by
    have :=congrArg List.length (he.symm.trans h1)
    simpa using this
   have Dn:parts.length=n:=by
    have :=congrArg List.length h1
    simpa using this
   obtain⟨m1,a1,a2,a3,a4,a5,_⟩:=kP (jQ 4) (parts.map (·.2)) hC (vals.toList.map (·.2)) (by simp[Dn];simpa using hlen.symm)
    (fun k h h'=>by
      simp only[List.length_map]at h h'
      simp only[List.getElem_map]
      exact hr k _ _ (List.getElem?_eq_getElem h) (List.getElem?_eq_getElem h')) h2
   have mC:(aG (aq 4) σ.obj (parts.map (·.2))).xs.length=n:=by rw[a4];simpa using Dn
   obtain⟨aP,b1,b2,b3,b4⟩:=ED sz vals.toList 0 ((Array.range (n*sz)).map (z.cells[· % z.cells.size]!))
    (by rw[<-he,h1,hlen];simp)
    (fun q hq=>by
      obtain⟨k,hk,rfl⟩:=List.mem_iff_getElem.1 hq
      have h8:=a5 k (by rw[mC];omega) (by simpa using hk)
      have h9:=(h3 _ (List.getElem_mem (show k<_ by rw[mC];omega))).1
      rw[<-h9]
      simpa using h8.cells.symm) (by simp[hlen])
   obtain⟨m2,c1,c2,c3⟩:=a2.immNew aP e
   refine⟨.slice (some ⟨w.heap.size,0,none⟩) n n,{ w with heap:=w.heap.push (.cells aP e) },?_,?_⟩
   ·simp only[Instr.buildSlice,Sem.run_bind,run_underlying hu,Result.andThen_ok,fC]
    have ar:¬ n*sz=0:=by have:=Nat.mul_pos h7 (Nat.pos_of_ne_zero h5);omega
    simp only[Sem.run_ite,Sem.run_bind,if_neg ar,mP hz,Result.andThen_ok,Sem.run_pure,b1,if_neg (show ¬ n*sz>2 ^ 24 by omega)]
    rfl
   ·rw[if_neg hc]
    refine⟨φ,m2,c2,.v _ _ ?_⟩
    have iO:=aw.sl (m:=m2) (aG (aq 4) σ.obj (parts.map (·.2))).xs w.heap.size 0 n sz (fun i j=>(aP[i*sz+j]?).getD undef)
     (fun e0=>by rw[e0]at mC;simp at mC;omega) (by rw[mC];unfold maxLen;have:=Nat.le_mul_of_pos_right n (Nat.pos_of_ne_zero h5);omega) (by rw[mC];exact Nat.le_refl _)
     (fun i hi=>(h3 _ (List.getElem_mem hi)).1)
     (fun i j hi hj=>by
       have bl:i<vals.toList.length:=by omega
       have :=b4 i j bl hj
       simp only[Nat.zero_add]at this
       have dp:j<vals.toList[i].2.cells.size:=by
        have h8:=a5 i hi (by simpa using bl)
        have h9:=(h3 _ (List.getElem_mem hi)).1
        have :=h8.cells
        simp only[List.getElem_map]at this
        omega
       rw[Array.getElem?_eq_getElem dp]at this
       rw[this]
       simp only[Option.getD_some]
       rw[Nat.zero_add]
       exact c3 _ _ this)
     (fun i j hi hj=>by
       have bl:i<vals.toList.length:=by omega
       have h9:=(h3 _ (List.getElem_mem hi)).1
       have :=b4 i j bl (by omega)
       simp only[Nat.zero_add]at this
       have h8:=a5 i hi (by simpa using bl)
       have dp:j<vals.toList[i].2.cells.size:=by
        have :=h8.cells
        simp only[List.getElem_map]at this
        omega
       rw[Array.getElem?_eq_getElem dp]at this
       rw[this]
       simp only[Option.getD_some]
       have mm:=(h8.mono c1).cell j hj (by simpa using dp)
       simpa using mm)
     (fun i hi x hx=>by
       have bl:i<vals.toList.length:=by omega
       exact(a5 i hi (by simpa using bl)).ones (h3 _ (List.getElem_mem hi)).2 x hx)
    rw[mC]at iO
    exact iO
 ·exact aa.elim
def fK(P:Program)(obj:Name->Option O)(T:TypeId)(x d:D):R:=
 match aE P T,x with
 |some (_,n),.ref nm off=>match obj nm with
  |some (.box cs)=>⟨d.boxable=true/\d.cells.length=n/\off+n<=cs.length,.any,upd obj nm (some (.box (eU cs off d.cells)))⟩
  |_=>.bad obj
 |some (_,n),.aref nm k i off=>match obj nm,ck d with
  |some (.arr sz l),some y=>⟨k=l.length/\i<l.length/\y.cells.length=n/\y.okc=true/\off+n<=sz/\sz≠0,.any,
     upd obj nm (some (.arr sz (l.set i (if off=0/\n=sz then y else .agg (eU (l.getD i default).cells off y.cells)))))⟩
  |_,_=>.bad obj
 |_,_=>.bad obj
theorem yG{u:Value}:(∀ c∈u.cells.toList,dh c=true)↔∀ (k:Nat) (h:k<u.cells.size),dh u.cells[k]=true:=by
 constructor
 ·intro h k hk;exact h _ (by simp)
 ·intro h c hc
  obtain⟨k,hk,rfl⟩:=List.mem_iff_getElem.1 hc
  simpa using h k (by simpa using hk)
theorem Hq{P:Program}{G:Ghost}{φ:Name->Loc}{m:Mem}{σ:S}{a:Act}{w:World}(hC:ay G φ m σ a w){T:TypeId}{x d:D}{u v:Value}
 (hx:al φ σ.obj m x u) (hd:al φ σ.obj m d v) (aa:(fK P σ.obj T x d).ok):
 ∃ w',(Instr.storeAt T u v).run P w=.ok () w'/\∃ φ' m',ay G φ' m' { σ with obj:=(fK P σ.obj T x d).obj } a w':=by
 unfold fK at aa |-
 split at aa
 ·rename_i ag n nm off hT
  cases hx with
  |ref _ _ hx=>
  split at aa
  ·rename_i cs aj
   obtain⟨h1,h2,h3⟩:=aa
   simp only[hT,aj]
   have ar:=D.boxable_any h1
   have ef:=hd.cells ar
   obtain⟨g0,g1,kO,us,T',f,g2,g3,g4,g5⟩:=hC.objs nm _ aj
   have dd:(φ nm).blk<w.heap.size:=(Array.getElem?_eq_some_iff.1 g2).1
   have ec:∀ c∈v.cells.toList,dh c=true:=by
    rw[yG]
    intro k hk
    exact(hd.cell ar k (by omega) hk).one (hd.boxed h1 _ (List.getElem_mem _))
   obtain⟨aP,k1,k2,k3⟩:=xT hT g3 g2 v (by omega) (o:=off) (by omega) ec
   have hle:off+d.cells.length<=cs.length:=by omega
   have aO:=Ext.same (φ:=φ) (o':=.box (eU cs off d.cells)) aj rfl rfl
   refine⟨_,by simpa[Instr.storeAt,Instr.sureAddr,g0]using k3,φ,m,?_⟩
   have :=hC.chg (w':=aV w (φ nm).blk (.cells aP T' f)) nm (.box (eU cs off d.cells)) (φ nm) aO ⟨rfl,rfl,rfl,by simp[aV]⟩
    (fun b hb hn=>fO (by rcases hn with h | h; · rw[g1]at h;cases h
                         ·exact h))
    (fun _=>.inr ⟨⟨_,aj,rfl,g1⟩,rfl⟩)
    ⟨g0,g1,fun c hc=>by
       obtain⟨k,hk⟩:=List.mem_iff_getElem?.1 hc
       rw[mO hle]at hk
       split at hk
       ·exact hd.boxed h1 c (List.mem_of_getElem? hk)
       ·exact kO c (List.mem_of_getElem? hk),aP,T',f,dN dd,g3,by rw[k1,ti hle,g4],
      fun i h h'=>by
       have e1:=List.getElem?_eq_getElem h
       have e2:=Array.getElem?_eq_getElem h'
       rw[mO hle]at e1
       rw[k2]at e2
       by_cases eI:off<=i/\i<off+d.cells.length
       ·rw[if_pos eI]at e1
        rw[if_pos (by omega)]at e2
        obtain⟨a1,a2⟩:=List.getElem?_eq_some_iff.1 e1
        obtain⟨b1,b2⟩:=List.getElem?_eq_some_iff.1 e2
        rw[Array.getElem_toList]at b2
        rw[<-a2,<-b2]
        exact(hd.cell ar _ a1 (by simpa using b1)).ext (Mem.le_refl m) aO
       ·rw[if_neg eI]at e1
        rw[if_neg (by omega)]at e2
        obtain⟨a1,a2⟩:=List.getElem?_eq_some_iff.1 e1
        obtain⟨b1,b2⟩:=Array.getElem?_eq_some_iff.1 e2
        rw[<-a2,<-b2]
        exact(g5 _ a1 b1).ext (Mem.le_refl m) aO⟩
   rwa [c8]at this
  ·exact aa.elim
 ·rename_i ag n nm k i off hT
  cases hx with
  |aref _ _ _ _ _ hx hu=>
  obtain⟨o,k',bo,hlen,hk,br⟩:=hx
  split at aa
  ·rename_i sz l y aj hy
   rw[bo]at aj;cases aj
   obtain⟨h1,h2,h3,h4,h5,h6⟩:=aa
   simp only[hT,bo,hy]
   simp only[O.len?,Option.some.injEq]at hlen
   have e:=br (by omega)
   subst e
   have qX:=jd hd hy
   have iP:=qX.ones h4
   have ef:=qX.cells
   rcases hC.objs nm _ bo with⟨_,hl⟩ | ⟨g0,g1,g2,g3,g4,us,T',f,g5,g6,g7,g8⟩
   ·subst hl;simp at h2
   have dd:(φ nm).blk<w.heap.size:=(Array.getElem?_eq_some_iff.1 g5).1
   have hmul:i*sz+sz<=(φ nm).cap*sz:=by
    have :(i+1)*sz<=(φ nm).cap*sz:=Nat.mul_le_mul_right _ (by omega)
    rwa [Nat.add_mul,Nat.one_mul]at this
   have ec:∀ c∈v.cells.toList,dh c=true:=by
    rw[yG]
    intro q hq
    exact(qX.cell q (by omega) hq).one (iP _ (List.getElem_mem _))
   obtain⟨aP,k1,k2,k3⟩:=xT hT g6 g5 v (by omega) (o:=(φ nm).off+i*sz+off) (by omega) ec
   refine⟨_,by simpa[Instr.storeAt,Instr.sureAddr,O.sz]using k3,φ,m,?_⟩
   generalize hz:(if off=0/\n=sz then y else V.agg (eU (l.getD i default).cells off y.cells))=z
   have Oo:(l.getD i default).cells.length=sz:=by rw[dV h2];exact g3 i h2
   have jC:z.cells=eU (l.getD i default).cells off y.cells:=by
    subst hz
    split
    ·rename_i hc
     have e1:(l.getD i default).cells.drop (0+y.cells.length)=[]:=List.drop_eq_nil_of_le (by omega)
     rw[hc.1]
     unfold eU
     rw[e1]
     simp
    ·rfl
   have hle:off+y.cells.length<=(l.getD i default).cells.length:=by omega
   have NA:z.cells.length=sz:=by rw[jC,ti hle,Oo]
   have Nz:∀ c∈z.cells,c.one=true:=by
    intro c hc
    rw[jC]at hc
    obtain⟨q,hq⟩:=List.mem_iff_getElem?.1 hc
    rw[mO hle]at hq
    split at hq
    ·exact iP c (List.mem_of_getElem? hq)
    ·rw[dV h2]at hq;exact g4 i h2 c (List.mem_of_getElem? hq)
   have aO:=Ext.same (φ:=φ) (o':=.arr sz (l.set i z)) bo (by simp[O.len?]) rfl
   have :=hC.chg (w':=aV w (φ nm).blk (.cells aP T' f)) nm (.arr sz (l.set i z)) (φ nm) aO ⟨rfl,rfl,rfl,by simp[aV]⟩
    (fun b hb hn=>fO (by rcases hn with h | h; · rw[g0]at h;cases h
                         ·exact h))
    (fun _=>.inr ⟨⟨_,bo,rfl,g0⟩,rfl⟩)
    (.inr ⟨g0,by simpa using g1,g2,fun q hq=>by
        rw[List.getElem_set]
        split
        ·exact NA
        ·exact g3 q (by simpa using hq),
      fun q hq=>by
       rw[List.getElem_set]
       split
       ·exact Nz
       ·exact g4 q (by simpa using hq),aP,T',f,dN dd,g6,by rw[k1];exact g7,
      fun q j hq hj=>by
       have bu:q<l.length:=by simpa using hq
       by_cases u6:i=q
       ·subst u6
        simp only[List.getElem_set,if_true]at hj |-
        have e1:=List.getElem?_eq_getElem hj
        have e2:z.cells[j]?=(eU (l.getD i default).cells off y.cells)[j]?:=by rw[jC]
        rw[e2,mO hle]at e1
        rw[k2]
        by_cases eI:off<=j/\j<off+y.cells.length
        ·rw[if_pos eI]at e1
         rw[if_pos (by omega)]
         obtain⟨a1,a2⟩:=List.getElem?_eq_some_iff.1 e1
         have lM:j-off<v.cells.size:=by omega
         refine⟨v.cells[j-off],?_,?_⟩
         ·have:(φ nm).off+i*sz+j-((φ nm).off+i*sz+off)=j-off:=by omega
          rw[this,Array.getElem?_toList];exact Array.getElem?_eq_getElem lM
         ·rw[<-a2];exact qX.cell _ a1 lM
        ·rw[if_neg eI]at e1
         rw[if_neg (by omega)]
         obtain⟨a1,a2⟩:=List.getElem?_eq_some_iff.1 e1
         rw[<-a2]
         have Rl:j<(l[i]).cells.length:=by rw[dV h2]at a1;exact a1
         obtain⟨c,x1,x2⟩:=g8 i j h2 Rl
         refine⟨c,x1,?_⟩
         have e3:(l.getD i default).cells[j]=(l[i]).cells[j]:=by simp only[dV h2]
         rw[e3];exact x2
       ·simp only[List.getElem_set,u6,if_false]at hj |-
        obtain⟨c,x1,x2⟩:=g8 q j bu hj
        refine⟨c,?_,x2⟩
        rw[k2,if_neg ?_]
        ·exact x1
        ·have dm:j<sz:=by rw[<-g3 q bu];exact hj
         rintro⟨b1,b2⟩
         rcases Nat.lt_or_gt_of_ne u6 with ae | DH
         ·have:(i+1)*sz<=q*sz:=Nat.mul_le_mul_right _ (by omega)
          rw[Nat.add_mul,Nat.one_mul]at this
          omega
         ·have:(q+1)*sz<=i*sz:=Nat.mul_le_mul_right _ (by omega)
          rw[Nat.add_mul,Nat.one_mul]at this
          omega⟩)
   rwa [c8]at this
  ·exact aa.elim
 ·exact aa.elim
def lx(P:Program)(k:TypeId):Bool:=
 match P.underlying k with
 |some (.struct fs)=>match fs.toList with
  |[f,g]=>!P.stoodInHeld k&&!(f.name== "_")&&!(g.name== "_")&&Nat.beq f.offset 0&&Nat.beq g.offset 1&&
     decide (fo P f.type=some .i64)&&decide (fo P g.type=some .i64)&&decide (aE P f.type=some (false,1))&&decide (aE P g.type=some (false,1))
  |_=>false
 |_=>false
def gw(P:Program)(T:TypeId):Option (Nat×TypeId):=
 match P.underlying T with
 |some (.map k e)=>match P.underlying k with
  |some (.int .i64)=>some (0,e)
  |some .string=>some (1,e)
  |some (.struct _)=>if lx P k=true then some (2,e)else none
  |_=>none
 |_=>none
def iv(P:Program)(obj:Name->Option O)(t:Name)(T:TypeId)(IX:Option D):R:=
 match gw P T,IX with
 |some (kd,_),none=>⟨obj (aI t)=none,.map (aI t),upd obj (aI t) (some (.map kd []))⟩
 |_,_=>.bad obj
theorem Hv{P:Program}{G:Ghost}{φ:Name->Loc}{m:Mem}{σ:S}{a:Act}{w:World}(hC:ay G φ m σ a w){t:Name}{T:TypeId}{r:Option D}{ur:Option Value}
 (hr:r.isSome=ur.isSome) (aa:(iv P σ.obj t T r).ok):
 ∃ v w',(Instr.makeMap T ur).run P w=.ok v w'/\iA G σ a (iv P σ.obj t T r) v w':=by
 unfold iv at aa |-
 split at aa
 ·rename_i kd e hT
  cases ur with
  |some=>simp at hr
  |none=>
  refine⟨.map (some w.heap.size),{ w with heap:=w.heap.push (.map #[] 0) },rfl,?_⟩
  have aO:=Ext.new (φ:=φ) aa ⟨w.heap.size,0,0,false,none⟩ (.map kd [])
  try simp only[hT]
  refine⟨upd φ (aI t) ⟨w.heap.size,0,0,false,none⟩,m,hC.chg (aI t) (.map kd []) ⟨w.heap.size,0,0,false,none⟩ aO ⟨rfl,rfl,rfl,by simp⟩
   (fun b hb _=>hY hb) (fun _=>.inl (Nat.le_refl _)) ?_,?_⟩
  ·exact⟨rfl,rfl,fun q hq=>by simp at hq,#[],0,pj,rfl,fun i h=>by simp at h⟩
  ·have:=al.map (φ:=upd φ (aI t) ⟨w.heap.size,0,0,false,none⟩) (obj:=upd σ.obj (aI t) (some (.map kd []))) (m:=m) (aI t) ⟨_,aD _ _ _,rfl⟩
   rwa [aD]at this
 ·exact aa.elim
def iu(P:Program)(obj:Name->Option O)(t:Name)(T:TypeId)(l c:D):R:=
 match bg P T,l,c with
 |some (e,sz,by_),.v (.int _ n),.v (.int _ n')=>match (aH P e).bind fun z=>ck (eW z)with
  |some zv=>⟨n'=n/\0<=n/\(by_:Int)*n<=281474976710656/\n<=9223372036854775807/\zv.cells.length=sz/\zv.okc=true/\sz≠0/\obj (aI t)=none,
     .msl (aI t) n.toNat,upd obj (aI t) (some (.arr sz (List.replicate n.toNat zv)))⟩
  |none=>.bad obj
 |_,_,_=>.bad obj
theorem Hu{P:Program}{G:Ghost}{φ:Name->Loc}{m:Mem}{σ:S}{a:Act}{w:World}(hC:ay G φ m σ a w){t:Name}{T:TypeId}{l c:D}{ul uc:Value}
 (hl:al φ σ.obj m l ul) (hc:al φ σ.obj m c uc) (aa:(iu P σ.obj t T l c).ok):
 ∃ v w',(Instr.makeSlice T ul uc).run P w=.ok v w'/\iA G σ a (iu P σ.obj t T l c) v w':=by
 unfold iu at aa |-
 split at aa
 ·rename_i e sz by_ kl n kc n' hT
  split at aa
  ·rename_i zv lJ
   obtain⟨h1,h2,h3,h4,h5,h6,h7,h8⟩:=aa
   subst h1
   simp only[hT,lJ]
   cases hl with
   |v _ _ hl=>
   cases hl
   cases hc with
   |v _ _ hc=>
   cases hc
   obtain⟨hu,i,hi,hs,hb⟩:=dO hT
   cases hz:aH P e with
   |none=>simp[hz]at lJ
   |some z=>
   simp only[hz,Option.bind_some]at lJ
   have oK:i.zero=some z:=by unfold aH at hz;simpa[hi]using hz
   have dk:aw m zv z:=jd (mV (φ:=φ) (obj:=σ.obj) (m:=m) z) lJ
   have jB:z.cells.size=sz:=by rw[<-dk.cells];exact h5
   have bz:=run_make (P:=P) w T e i z hu hi oK kl kc n' n' h2 (Int.le_refl _) (by rw[hb];exact h3) h4
   refine⟨_,_,bz,?_⟩
   have aO:=Ext.new (φ:=φ) h8 ⟨w.heap.size,0,n'.toNat,false,none⟩ (.arr sz (List.replicate n'.toNat zv))
   refine⟨upd φ (aI t) ⟨w.heap.size,0,n'.toNat,false,none⟩,m,hC.chg (aI t) _ ⟨w.heap.size,0,n'.toNat,false,none⟩ aO ⟨rfl,rfl,rfl,by show w.heap.size<=(w.heap.push _).size;simp⟩
    (fun b hb _=>hY hb) (fun _=>.inl (Nat.le_refl _)) ?_,?_⟩
   ·refine .inr ⟨rfl,by simp,by show n'.toNat<=maxLen;unfold maxLen;omega,fun q hq=>by rw[List.getElem_replicate];exact h5,fun q hq=>by rw[List.getElem_replicate];exact dk.ones h6,
      madeCells z.cells (n'.toNat*i.size),e,(0,0),pj,rfl,by rw[size_madeCells,hs];simp,fun q j hq hj=>?_⟩
    simp only[List.length_replicate]at hq
    simp only[List.getElem_replicate]at hj |-
    have dm:j<z.cells.size:=by omega
    refine⟨z.cells[j],?_,dk.cell j hj dm⟩
    have ae:q*sz+j<n'.toNat*sz:=by
     have :(q+1)*sz<=n'.toNat*sz:=Nat.mul_le_mul_right _ (by omega)
     rw[Nat.add_mul,Nat.one_mul]at this;omega
    have Oi:(q*sz+j) % z.cells.size=j:=by
     rw[jB,Nat.mul_comm,Nat.mul_add_mod]
     exact Nat.mod_eq_of_lt (by omega)
    unfold madeCells
    rw[Nat.zero_add,hs]
    simp[ae,Oi,dm]
   ·refine .msl _ _ _ ⟨_,_,aD _ _ _,rfl,by simp,fun _=>?_⟩ rfl
    rw[aD];rfl
  ·exact aa.elim
 ·exact aa.elim
def bJ(P:Program)(t:TypeId):Option Nat:=
 match P.underlying t with
 |some (.slice _)=>some 0
 |some .string=>some 1
 |some (.map _ _)=>some 2
 |_=>none
def fM(P:Program)(obj:Name->Option O)(T:TypeId)(x:D):R:=
 match bJ P T,x with
 |some 0,.v (.sl l)=>⟨True,.v (.int .i64 l.length),obj⟩
 |some 0,.nilsl=>⟨True,.v (.int .i64 0),obj⟩
 |some 0,.msl nm k=>⟨(obj nm).bind O.len?=some k,.v (.int .i64 k),obj⟩
 |some 1,.v (.str s)=>⟨True,.v (.int .i64 s.size),obj⟩
 |some 2,.nilmap=>⟨True,.v (.int .i64 0),obj⟩
 |some 2,.map nm=>match obj nm with
  |some (.map _ es)=>⟨True,.v (.int .i64 es.length),obj⟩
  |_=>.bad obj
 |_,_=>.bad obj
theorem te{P:Program}{G:Ghost}{φ:Name->Loc}{m:Mem}{σ:S}{a:Act}{w:World}(hC:ay G φ m σ a w){nm:Name}{o:O}{n:Nat}
 (aj:σ.obj nm=some o) (hlen:o.len?=some n):∃ b c,(φ nm).slice n=.slice b n c/\n<=c:=by
 have :=hC.objs nm o aj
 unfold Loc.slice
 cases o with
 |arr sz l=>
  simp only[O.len?,Option.some.injEq]at hlen
  subst hlen
  rcases this with⟨h,h'⟩ | ⟨h,h',_⟩
  ·subst h';simp[h]
  ·simp only[h,Bool.false_eq_true,if_false];exact⟨_,_,rfl,h'⟩
 |farr sz l=>
  simp only[O.len?,Option.some.injEq]at hlen
  subst hlen
  rcases this with⟨h,h'⟩ | ⟨h,h',_⟩
  ·subst h';simp[h]
  ·simp only[h,Bool.false_eq_true,if_false];exact⟨_,_,rfl,h'.1⟩
 |dead sz k=>
  simp only[O.len?,Option.some.injEq]at hlen
  subst hlen
  rcases this with⟨h,h'⟩ | ⟨h,h'⟩
  ·subst h';simp[h]
  ·simp only[h,Bool.false_eq_true,if_false];exact⟨_,_,rfl,h'⟩
 |_=>simp[O.len?]at hlen
theorem Hy{P:Program}{G:Ghost}{φ:Name->Loc}{m:Mem}{σ:S}{a:Act}{w:World}(hC:ay G φ m σ a w){T ty:TypeId}{x:D}{u:Value}
 (hx:al φ σ.obj m x u) (aa:(fM P σ.obj T x).ok):
 ∃ v,(Builtin.len_ #[T] ty #[u]).run P w=.ok v w/\al φ σ.obj m (fM P σ.obj T x).d v/\(fM P σ.obj T x).obj=σ.obj:=by
 have iO:bJ P T=some 0->∃ e,P.underlying T=some (.slice e):=by
  intro h;unfold bJ at h;split at h<;>simp_all
 have fA:bJ P T=some 1->P.underlying T=some .string:=by
  intro h;unfold bJ at h;split at h<;>simp_all
 have Dw:bJ P T=some 2->∃ k e,P.underlying T=some (.map k e):=by
  intro h;unfold bJ at h;split at h<;>simp_all
 unfold fM at aa |-
 split at aa
 ·rename_i l hT
  obtain⟨e,hu⟩:=iO hT
  cases hx with
  |v _ _ hx=>
  refine⟨.int .i64 l.length,?_,by simpa[hT]using .v _ _ (.int _ _),by simp[hT]⟩
  cases hx<;>simp[Builtin.len_,run_underlying hu,goInt]
 ·rename_i hT
  obtain⟨e,hu⟩:=iO hT
  cases hx
  exact⟨.int .i64 0,by simp[Builtin.len_,run_underlying hu,goInt],by simpa[hT]using .v _ _ (.int _ _),by simp[hT]⟩
 ·rename_i nm k hT
  obtain⟨e,hu⟩:=iO hT
  cases hx with
  |msl _ _ _ hx nk=>
  obtain⟨o,n,aj,hlen,hk,br⟩:=hx
  simp only[aj,Option.bind_some,hlen,Option.some.injEq]at aa
  have e:=br aa.symm
  subst e
  subst aa
  obtain⟨b,c,h1,_⟩:=te (P:=P) hC aj hlen
  rw[h1]
  exact⟨.int .i64 n,by simp[Builtin.len_,run_underlying hu,goInt],by simpa[hT]using .v _ _ (.int _ _),by simp[hT]⟩
 ·rename_i s hT
  have hu:=fA hT
  cases hx with
  |v _ _ hx=>
  cases hx
  exact⟨.int .i64 s.size,by simp[Builtin.len_,run_underlying hu,goInt],by simpa[hT]using .v _ _ (.int _ _),by simp[hT]⟩
 ·rename_i hT
  obtain⟨k,e,hu⟩:=Dw hT
  cases hx
  exact⟨.int .i64 0,by simp[Builtin.len_,run_underlying hu,goInt],by simpa[hT]using .v _ _ (.int _ _),by simp[hT]⟩
 ·rename_i nm hT
  obtain⟨k,e,hu⟩:=Dw hT
  cases hx with
  |map _ hx=>
  split at aa
  ·rename_i kd es aj
   obtain⟨g0,g1,_,ents,clock,g2,g3,g4⟩:=hC.objs nm _ aj
   refine⟨.int .i64 es.length,?_,by simpa[hT,aj]using .v _ _ (.int _ _),by simp[hT,aj]⟩
   simp[Builtin.len_,run_underlying hu,MapKept.run_getObj_map g2,goInt,g3]
  ·exact aa.elim
 ·exact aa.elim
def dt:Option D->Option Int
 |none=>some 0
 |some (.v (.int _ n))=>some n
 |_=>none
def fG(n:Nat):Option D->Option Int
 |none=>some n
 |some (.v (.int _ k))=>some k
 |_=>none
def er(P:Program)(obj:Name->Option O)(T:TypeId)(x:D)(lo hi mx:Option D):R:=
 match mx,x with
 |none,.v (.sl l)=>match bg P T,dt lo,fG l.length hi with
  |some (_,sz,_),some i,some j=>⟨0<=i/\i<=j/\j<=l.length/\(∀ x∈l,x.cells.length=sz),.v (.sl ((l.drop i.toNat).take (j.toNat-i.toNat))),obj⟩
  |_,_,_=>.bad obj
 |none,.nilsl=>match bg P T,dt lo,fG 0 hi with
  |some (_,_,_),some i,some j=>⟨i=0/\j=0,.nilsl,obj⟩
  |_,_,_=>.bad obj
 |none,.msl nm k=>match obj nm,bg P T,dt lo,fG k hi with
  |some (.arr s l),some (_,sz,_),some i,some j=>⟨k=l.length/\0<=i/\i<=j/\j<=l.length/\(∀ x∈l,x.cells.length=sz),.v (.sl ((l.drop i.toNat).take (j.toNat-i.toNat))),upd obj nm (some (.farr s l))⟩
  |some (.farr s l),some (_,sz,_),some i,some j=>⟨k=l.length/\0<=i/\i<=j/\j<=l.length/\(∀ x∈l,x.cells.length=sz),.v (.sl ((l.drop i.toNat).take (j.toNat-i.toNat))),obj⟩
  |_,_,_,_=>.bad obj
 |some (.v (.int _ 0)),.v (.sl _)=>match bg P T,dt lo,hi with
  |some _,some 0,some (.v (.int _ 0))=>⟨True,.nilsl,obj⟩
  |_,_,_=>.bad obj
 |some (.v (.int _ 0)),.nilsl=>match bg P T,dt lo,hi with
  |some _,some 0,some (.v (.int _ 0))=>⟨True,.nilsl,obj⟩
  |_,_,_=>.bad obj
 |some (.v (.int _ 0)),.msl nm k=>match bg P T,dt lo,hi with
  |some _,some 0,some (.v (.int _ 0))=>⟨(obj nm).bind O.len?=some k,.nilsl,obj⟩
  |_,_,_=>.bad obj
 |none,.v (.str s)=>match bJ P T,dt lo,fG s.size hi with
  |some 1,some i,some j=>⟨0<=i/\i<=j/\j<=s.size,.v (.str (s.extract i.toNat j.toNat)),obj⟩
  |_,_,_=>.bad obj
 |none,.ref nm off=>match lo,hi,dP P T,obj nm with
  |none,none,some (n,sz,_),some (.fbox cs)=>⟨sz=1/\0<n/\n<=1000/\off+n<=cs.length,.v (.sl ((cs.drop off).take n)),obj⟩
  |_,_,_,_=>.bad obj
 |_,_=>.bad obj
theorem run_sliceBound{P:Program}{k:IntKind}{n:Int}{y:Nat}{c:BoundsCode}(h0:0<=n)(h1:n<=y)(w:World):
 (Instr.sliceBound (.int k n) y c).run P w=.ok n.toNat w:=by
 simp[Instr.sliceBound,asIntOf,h0,h1]
def jg(φ:Name->Loc)(obj:Name->Option O)(m:Mem)(d:Option D)(u:Option Value):Prop:=
 match d,u with
 |none,none=>True
 |some d,some u=>al φ obj m d u
 |_,_=>False
theorem qa{P:Program}{φ:Name->Loc}{obj:Name->Option O}{m:Mem}{lo hi:Option D}{ulo uhi:Option Value}{len cap n:Nat}{i j:Int}(b:Bool)
 (cI:jg φ obj m lo ulo) (dK:jg φ obj m hi uhi) (e1:dt lo=some i) (e2:fG len hi=some j) (h0:0<=i) (h1:i<=j) (h2:j<=len) (h3:len<=cap) (w:World):
 (Instr.sliceBounds b len cap ulo uhi none).run P w=.ok (i.toNat,j.toNat,cap) w:=by
 have hh:(uhi=none/\j=len)\/∃ k,uhi=some (.int k j):=by
  cases hi with
  |none=>
   cases uhi with
   |none=>simp only[fG,Option.some.injEq]at e2;exact .inl ⟨rfl,e2.symm⟩
   |some=>exact dK.elim
  |some d=>
   cases uhi with
   |none=>exact dK.elim
   |some u=>
    have hd:al φ obj m d u:=dK
    unfold fG at e2
    split at e2
    ·cases ‹some d=none›
    ·rename_i hq
     cases hq
     simp only[Option.some.injEq]at e2
     subst e2
     cases hd with
     |v _ _ hd=>cases hd;exact .inr ⟨_,rfl⟩
    ·cases e2
 have hl:(ulo=none/\i=0)\/∃ k,ulo=some (.int k i):=by
  cases lo with
  |none=>
   cases ulo with
   |none=>simp only[dt,Option.some.injEq]at e1;exact .inl ⟨rfl,e1.symm⟩
   |some=>exact cI.elim
  |some d=>
   cases ulo with
   |none=>exact cI.elim
   |some u=>
    have hd:al φ obj m d u:=cI
    unfold dt at e1
    split at e1
    ·cases ‹some d=none›
    ·rename_i hq
     cases hq
     simp only[Option.some.injEq]at e1
     subst e1
     cases hd with
     |v _ _ hd=>cases hd;exact .inr ⟨_,rfl⟩
    ·cases e1
 rcases hh with⟨rfl,rfl⟩ | ⟨k1,rfl⟩
 ·rcases hl with⟨rfl,rfl⟩ | ⟨k2,rfl⟩
  ·simp[Instr.sliceBounds]
  ·simp[Instr.sliceBounds,run_sliceBound (P:=P) (k:=k2) (y:=len) (c:=.sliceB) h0 (by omega)]
 ·have hb:=run_sliceBound (P:=P) (k:=k1) (y:=cap) (c:=if b=true then .sliceAcap else .sliceAlen) (n:=j) (by omega) (by omega) w
  rcases hl with⟨rfl,rfl⟩ | ⟨k2,rfl⟩
  ·simp[Instr.sliceBounds,hb]
  ·simp[Instr.sliceBounds,hb,run_sliceBound (P:=P) (k:=k2) (y:=j.toNat) (c:=.sliceB) h0 (by omega)]
theorem aw.cut{P:Program}{m:Mem}{T:TypeId}{l:List V}{u:Value}(h:aw m (.sl l) u){sz:Nat}(i j:Nat)(ny:i<=j)(hj:j<=l.length)(bB:∀ x∈l,x.cells.length=sz):
 ∃ b len cap,u=.slice b len cap/\len=l.length/\len<=cap/\aw m (.sl ((l.drop i).take (j-i))) (.slice (if cap=i then b else b.map (·.add (i*sz))) (j-i) (cap-i)):=by
 cases h with
 |slnil b cap=>exact⟨b,0,cap,rfl,rfl,Nat.zero_le _,by simp only[List.drop_nil,List.take_nil];simp at hj;rw[hj];simp;exact .slnil _ _⟩
 |sl _ b o cap gx c hn hl fg hs hc hr ho=>
  refine⟨some ⟨b,o,none⟩,l.length,cap,rfl,rfl,fg,?_⟩
  by_cases ae:i<j
  ·have NU:gx=sz:=by
     have h0:0<l.length:=by omega
     rw[<-hs 0 h0];exact bB _ (List.getElem_mem h0)
   subst NU
   rw[if_neg (by omega)]
   simp only[Option.map_some,eP]
   have hlen:((l.drop i).take (j-i)).length=j-i:=by simp;omega
   have :=aw.sl (m:=m) ((l.drop i).take (j-i)) b (o+i*gx) (cap-i) gx (fun p q=>c (i+p) q) (fun e=>by rw[e]at hlen;simp at hlen;omega) (by rw[hlen];omega) (by rw[hlen];omega)
    (fun p hp=>by simp only[List.getElem_take,List.getElem_drop];exact hs _ (by simp at hp;omega))
    (fun p q hp hq=>by
      have :=hc (i+p) q (by simp at hp;omega) hq
      rw[Nat.add_mul]at this
      rw[show o+i*gx+p*gx+q=o+(i*gx+p*gx)+q by omega];exact this)
    (fun p q hp hq=>by
      simp only[List.getElem_take,List.getElem_drop]at hq |-
      exact hr _ _ (by simp at hp;omega) hq)
    (fun p hp=>by simp only[List.getElem_take,List.getElem_drop];exact ho _ (by simp at hp;omega))
   rw[hlen]at this
   exact this
  ·have:j-i=0:=by omega
   rw[this,List.take_zero]
   exact .slnil _ _
theorem G8{P:Program}{T:TypeId}(h:bJ P T=some 0):∃ e,P.underlying T=some (.slice e):=by
 unfold bJ at h;split at h<;>simp_all
theorem xz{P:Program}{T:TypeId}(h:bJ P T=some 1):P.underlying T=some .string:=by
 unfold bJ at h;split at h<;>simp_all
theorem p7{P:Program}{T e:TypeId}(hu:P.underlying T=some (.slice e))(x:Value)(lo hi mx:Option Value)(w:World):
 (Instr.sliceAt T x lo hi mx).run P w=(Instr.slice T x lo hi mx).run P w:=by
 simp[Instr.sliceAt,run_underlying hu]
theorem tl{P:Program}{T e:TypeId}(hu:P.underlying T=some (.slice e)){it:TypeInfo}(eJ:P.info? e=some it)(b:Option Addr)(len cap:Nat){k1 k2 k3:IntKind}{ulo:Option Value}
 (hl:ulo=none\/ulo=some (.int k1 0)) (w:World):
 (Instr.sliceAt T (.slice b len cap) ulo (some (.int k2 0)) (some (.int k3 0))).run P w=.ok (.slice b 0 0) w:=by
 have hb:=fun (k:IntKind) (y:Nat) (c:BoundsCode)=>run_sliceBound (P:=P) (k:=k) (y:=y) (c:=c) (n:=0) (Int.le_refl 0) (by omega) w
 rw[p7 hu]
 rcases hl with rfl | rfl<;>simp[Instr.slice,run_underlying hu,Instr.sliceBounds,hb,sizeOf,typeInfo,eJ]
theorem tk{P:Program}{φ:Name->Loc}{obj:Name->Option O}{m m':Mem}{T e:TypeId}{sz by_:Nat}(hT:bg P T=some (e,sz,by_)){l:List V}{u:Value}(h:aw m' (.sl l) u){lo hi:Option D}{ulo uhi:Option Value}{i j:Int}
 (cI:jg φ obj m lo ulo) (dK:jg φ obj m hi uhi) (e1:dt lo=some i) (e2:fG l.length hi=some j) (h0:0<=i) (h1:i<=j) (h2:j<=l.length) (bB:∀ x∈l,x.cells.length=sz) (w:World):
 ∃ v,(Instr.sliceAt T u ulo uhi none).run P w=.ok v w/\aw m' (.sl ((l.drop i.toNat).take (j.toNat-i.toNat))) v:=by
 obtain⟨hu,it,eJ,hs,_⟩:=dO hT
 obtain⟨b,len,cap,rfl,rfl,hc,hr⟩:=aw.cut (P:=P) (T:=T) h (sz:=sz) i.toNat j.toNat (by omega) (by omega) bB
 refine⟨_,?_,hr⟩
 rw[p7 hu]
 have hb:=qa (P:=P) (cap:=cap) (n:=0) true cI dK e1 e2 h0 h1 h2 hc w
 simp only[Instr.slice,Sem.run_bind,run_underlying hu,Result.andThen_ok,hb]
 simp[sizeOf,typeInfo,eJ,hs]
theorem Ha{P:Program}{T:TypeId}{n sz:Nat}{ag:Bool}(h:dP P T=some (n,sz,ag)):∃ e,P.underlying T=some (.array n e)/\∀ w,(sizeOf e).run P w=.ok sz w:=by
 unfold dP at h
 split at h
 ·rename_i n' e hu
  simp only[Option.map_eq_some_iff,Prod.mk.injEq]at h
  obtain⟨y,h2,h3,h4,h5⟩:=h
  subst h3
  subst h4
  exact⟨e,hu,fun w=>ka (P:=P) (t:=e) (b:=y.1) (n:=y.2) h2 w⟩
 ·cases h
theorem Hr{P:Program}{G:Ghost}{φ:Name->Loc}{m:Mem}{σ:S}{a:Act}{w:World}(hC:ay G φ m σ a w){T:TypeId}{x:D}{u:Value}{lo hi mx:Option D}{ulo uhi n7:Option Value}
 (hx:al φ σ.obj m x u) (cI:jg φ σ.obj m lo ulo) (dK:jg φ σ.obj m hi uhi) (kG:jg φ σ.obj m mx n7) (aa:(er P σ.obj T x lo hi mx).ok):
 ∃ v w',(Instr.sliceAt T u ulo uhi n7).run P w=.ok v w'/\iA G σ a (er P σ.obj T x lo hi mx) v w':=by
 have vq:∀ {k:IntKind},jg φ σ.obj m (some (.v (.int k 0))) n7->n7=some (.int k 0):=by
  intro k h
  cases n7 with
  |none=>exact h.elim
  |some v=>have h':al φ σ.obj m (.v (.int k 0)) v:=h;cases h' with | v _ _ h'=>cases h';rfl
 have vJ:∀ {k:IntKind},hi=some (.v (.int k 0))->uhi=some (.int k 0):=by
  intro k he
  subst he
  cases uhi with
  |none=>exact dK.elim
  |some v=>have h':al φ σ.obj m (.v (.int k 0)) v:=dK;cases h' with | v _ _ h'=>cases h';rfl
 have vy:dt lo=some 0->∃ k,ulo=none\/ulo=some (.int k 0):=by
  intro he
  cases lo with
  |none=>
   cases ulo with
   |none=>exact⟨.i64,.inl rfl⟩
   |some=>exact cI.elim
  |some d=>
   cases ulo with
   |none=>exact cI.elim
   |some v=>
    have hd:al φ σ.obj m d v:=cI
    unfold dt at he
    split at he
    ·cases ‹some d=none›
    ·rename_i hq
     cases hq
     simp only[Option.some.injEq]at he
     subst he
     cases hd with
     |v _ _ hd=>cases hd;exact⟨_,.inr rfl⟩
    ·cases he
 have lU:∀ {y:Option Value},jg φ σ.obj m none y->y=none:=by
  intro y h;cases y with | none=>rfl | some=>exact h.elim
 unfold er at aa |-
 split at aa
 ·rename_i l
  cases lU kG
  split at aa
  ·rename_i e sz by_ i j hT e1 e2
   obtain⟨h0,h1,h2,h3⟩:=aa
   cases hx with
   |v _ _ hx=>
   obtain⟨v,r1,r2⟩:=tk hT hx cI dK e1 e2 h0 h1 h2 h3 w
   exact⟨v,w,r1,φ,m,by simpa[hT,e1,e2]using hC,by simpa[hT,e1,e2]using .v _ _ r2⟩
  ·exact aa.elim
 ·cases lU kG
  split at aa
  ·rename_i e sz by_ i j hT e1 e2
   obtain⟨rfl,rfl⟩:=aa
   cases hx with
   |nilsl b=>
   obtain⟨hu,it,eJ,hs,_⟩:=dO hT
   have hb:=qa (P:=P) (cap:=0) (n:=0) (len:=0) true cI dK e1 e2 (by omega) (by omega) (by omega) (by omega) w
   refine⟨.slice b 0 0,w,?_,φ,m,by simpa[hT,e1,e2]using hC,by simpa[hT,e1,e2]using .nilsl _⟩
   rw[p7 hu]
   simp only[Instr.slice,Sem.run_bind,run_underlying hu,Result.andThen_ok,hb]
   simp[sizeOf,typeInfo,eJ]
  ·exact aa.elim
 ·rename_i nm k
  cases lU kG
  split at aa
  ·rename_i s l e sz by_ i j aj hT e1 e2
   obtain⟨hk,h0,h1,h2,h3⟩:=aa
   have hf:(aq 1 σ.obj (.msl nm k))=⟨k=l.length,.sl l,upd σ.obj nm (some (.farr s l))⟩:=by simp[aq,aj]
   obtain⟨m',a1,a2,a3,a4,_⟩:=jQ 1 _ _ _ _ _ _ hC _ _ hx (by rw[hf];exact hk)
   rw[hf]at a2 a4
   subst hk
   obtain⟨v,r1,r2⟩:=tk hT a4 cI dK e1 e2 h0 h1 h2 h3 w
   exact⟨v,w,r1,φ,m',by simpa[aj,hT,e1,e2]using a2,by simpa[aj,hT,e1,e2]using .v _ _ r2⟩
  ·rename_i s l e sz by_ i j aj hT e1 e2
   obtain⟨hk,h0,h1,h2,h3⟩:=aa
   have hf:(aq 1 σ.obj (.msl nm k))=⟨k=l.length,.sl l,σ.obj⟩:=by simp[aq,aj]
   obtain⟨m',a1,a2,a3,a4,_⟩:=jQ 1 _ _ _ _ _ _ hC _ _ hx (by rw[hf];exact hk)
   rw[hf]at a2 a4
   subst hk
   obtain⟨v,r1,r2⟩:=tk hT a4 cI dK e1 e2 h0 h1 h2 h3 w
   exact⟨v,w,r1,φ,m',by simpa[aj,hT,e1,e2]using a2,by simpa[aj,hT,e1,e2]using .v _ _ r2⟩
  ·exact aa.elim
 ·rename_i k l
  cases vq kG
  split at aa
  ·rename_i p k2 hT e1
   obtain⟨e,sz,by_⟩:=p
   obtain⟨hu,it,eJ,hs,_⟩:=dO hT
   cases vJ rfl
   obtain⟨k1,hl⟩:=vy e1
   cases hx with
   |v _ _ hx=>
   have iO:∃ b len cap,u=.slice b len cap:=by cases hx;exact⟨_,_,_,rfl⟩;exact⟨_,_,_,rfl⟩
   obtain⟨b,len,cap,rfl⟩:=iO
   exact⟨_,w,tl hu eJ b len cap hl w,φ,m,by simpa[hT,e1]using hC,by simpa[hT,e1]using .nilsl _⟩
  ·exact aa.elim
 ·rename_i k
  cases vq kG
  split at aa
  ·rename_i p k2 hT e1
   obtain⟨e,sz,by_⟩:=p
   obtain⟨hu,it,eJ,hs,_⟩:=dO hT
   cases vJ rfl
   obtain⟨k1,hl⟩:=vy e1
   cases hx with
   |nilsl b=>
   exact⟨_,w,tl hu eJ b 0 0 hl w,φ,m,by simpa[hT,e1]using hC,by simpa[hT,e1]using .nilsl _⟩
  ·exact aa.elim
 ·rename_i k0 nm k
  cases vq kG
  split at aa
  ·rename_i p k2 hT e1
   obtain⟨e,sz,by_⟩:=p
   obtain⟨hu,it,eJ,hs,_⟩:=dO hT
   cases vJ rfl
   obtain⟨k1,hl⟩:=vy e1
   cases hx with
   |msl _ _ _ hx nk=>
   obtain⟨o,n,aj,hlen,hk,br⟩:=hx
   simp only[aj,Option.bind_some,hlen,Option.some.injEq]at aa
   have e:=br aa.symm
   subst e
   subst aa
   obtain⟨b,c,h1,_⟩:=te (P:=P) hC aj hlen
   rw[h1]
   exact⟨_,w,tl hu eJ b _ c hl w,φ,m,by simpa[hT,e1]using hC,by simpa[hT,e1]using .nilsl _⟩
  ·exact aa.elim
 ·rename_i s
  cases lU kG
  split at aa
  ·rename_i i j hT e1 e2
   obtain⟨h0,h1,h2⟩:=aa
   have hu:=xz hT
   cases hx with
   |v _ _ hx=>
   cases hx with
   |str _ hs=>
   have hb:=qa (P:=P) (cap:=s.size) (n:=0) (len:=s.size) false cI dK e1 e2 h0 h1 h2 (Nat.le_refl _) w
   refine⟨.string (s.extract i.toNat j.toNat),w,?_,φ,m,by simpa[hT,e1,e2]using hC,?_⟩
   ·simp only[Instr.sliceAt,Instr.slice,Sem.run_bind,run_underlying hu,Result.andThen_ok]
    simp[hb]
   ·simp only[hT,e1,e2]
    refine .v _ _ (.str _ ?_)
    rw[ByteArray.size_extract];omega
  ·exact aa.elim
 ·rename_i nm off
  cases lU kG
  split at aa
  ·rename_i n sz ag cs hT aj
   obtain⟨rfl,h0,h1,h2⟩:=aa
   cases lU cI
   cases lU dK
   obtain⟨e,hu,hs⟩:=Ha hT
   cases hx with
   |ref _ _ hb=>
   obtain⟨ho,hc⟩:=hC.objs nm _ aj
   refine⟨.slice (some ⟨(φ nm).blk,(φ nm).off+off,none⟩) n n,w,?_,φ,m,by simpa[hT,aj]using hC,?_⟩
   ·simp[Instr.sliceAt,run_underlying hu,Instr.sliceBounds,Instr.sureAddr,hs,eP]
   ·simp only[hT,aj]
    have hlen:((cs.drop off).take n).length=n:=by rw[List.length_take,List.length_drop];omega
    have cX:∀ i (h:i<((cs.drop off).take n).length),∃ hi:off+i<cs.length,((cs.drop off).take n)[i]=cs[off+i]:=fun i h=>by
     rw[hlen]at h
     exact⟨by omega,by simp[List.getElem_take,List.getElem_drop]⟩
    have ec:∀ i (h:i<((cs.drop off).take n).length),(((cs.drop off).take n)[i]).cells=[((cs.drop off).take n)[i]]/\(((cs.drop off).take n)[i]).one=true:=fun i h=>by
     obtain⟨hi,e⟩:=cX i h
     have hx:=ho _ (List.getElem_mem hi)
     rw[e]
     generalize cs[off+i]=x at hx
     refine⟨?_,hx⟩
     cases x with
     |agg=>cases hx
     |_=>rfl
    refine .v _ _ ?_
    have :=aw.sl (m:=m) ((cs.drop off).take n) (φ nm).blk ((φ nm).off+off) n 1 (fun i _=>(m (φ nm).blk ((φ nm).off+(off+i))).getD undef) (by intro h;rw[h]at hlen;simp at hlen;omega) (by rw[hlen];unfold maxLen;omega) (by omega)
     (fun i h=>by rw[(ec i h).1];rfl)
     (fun i j hi hj=>by
       obtain rfl:j=0:=by omega
       obtain⟨h3,_⟩:=cX i hi
       obtain⟨c,h4,_⟩:=hc (off+i) h3
       rw[show (φ nm).off+off+i*1+0=(φ nm).off+(off+i)by omega,h4];rfl)
     (fun i j hi hj=>by
       obtain⟨h5,h6⟩:=ec i hi
       have vE:j=0:=by rw[h5]at hj;simpa using hj
       subst vE
       obtain⟨h3,e⟩:=cX i hi
       obtain⟨c,h4,h7⟩:=hc (off+i) h3
       rw[h4]
       have e2:∀ (x y:V) (cq:x=y) (bG:x.cells=[x]) (h0:0<x.cells.length),x.cells[0]=y:=by
        intro x y cq bG h0
        subst cq
        simp[bG]
       rw[e2 _ _ e h5];exact h7)
     (fun i hi x hx=>by
       obtain⟨h5,h6⟩:=ec i hi
       rw[h5]at hx;simp only[List.mem_singleton]at hx;rw[hx];exact h6)
    rw[hlen]at this
    exact this
  ·exact aa.elim
 ·exact aa.elim
theorem G'{P:Program}{src dst:TypeId}(h:j8 P src dst=1):∃ e,P.underlying src=some .string/\P.underlying dst=some (.slice e)/\P.underlying e=some (.int .u8):=by
 unfold j8 at h
 split at h
 ·rename_i e h1 h2
  split at h
  ·exact⟨e,h1,h2,by assumption⟩
  ·cases h
 ·split at h<;>cases h
 ·cases h
theorem G9{P:Program}{src dst:TypeId}(h:j8 P src dst=2):∃ e,P.underlying src=some (.slice e)/\P.underlying dst=some .string/\P.underlying e=some (.int .u8):=by
 unfold j8 at h
 split at h
 ·split at h<;>cases h
 ·rename_i e h1 h2
  split at h
  ·exact⟨e,h1,h2,by assumption⟩
  ·cases h
 ·cases h
theorem QJ(b:UInt8):(sh b).cells=[sh b]:=rfl
theorem Nf{m:Mem}{x:V}{u:Value}(hx:oG x=true)(h:aw m x u):u=.int .u8 ((mK x).toNat:Int):=by
 unfold oG at hx
 split at hx
 ·rename_i n
  simp only[Bool.and_eq_true,decide_eq_true_eq]at hx
  cases h
  have :((UInt8.ofNat n.toNat).toNat:Int)=n:=by
   rw[UInt8.toNat_ofNat']
   omega
  show Value.int .u8 n=.int .u8 ((UInt8.ofNat n.toNat).toNat:Int)
  rw[this]
 ·cases hx
theorem uG{x:V}(hx:oG x=true):x.cells=[x]:=by
 cases x with
 |agg=>cases hx
 |_=>rfl
theorem Fp(s:ByteArray){i:Nat}(hi:i<(gm s).length):((gm s)[i]).cells=[(gm s)[i]]:=by
 unfold gm at hi |-
 rw[List.getElem_map];rfl
theorem QG(s:ByteArray){i:Nat}(hi:i<(gm s).length):((gm s)[i]).one=true:=by
 unfold gm at hi |-
 rw[List.getElem_map];rfl
theorem QH(s:ByteArray):(gm s).length=s.size:=by
 unfold gm
 rw[List.length_map,Array.length_toList];rfl
theorem QI{m:Mem}{x:V}{b:UInt8}{j:Nat}(he:x=sh b)(hj:j<x.cells.length):aw m x.cells[j] (.int .u8 (b.toNat:Int)):=by
 subst he
 have vE:j=0:=by
  rw[QJ]at hj
  simpa using hj
 subst vE
 exact .int _ _
theorem HF{P:Program}{G:Ghost}{φ:Name->Loc}{m:Mem}{σ:S}{a:Act}{w:World}(hC:ay G φ m σ a w){src dst:TypeId}{x:D}{u:Value}
 (hx:al φ σ.obj m x u) (aa:(ix P σ.obj src dst x).ok):
 ∃ v w',(convert src dst u).run P w=.ok v w'/\iA G σ a (ix P σ.obj src dst x) v w':=by
 unfold ix at aa |-
 split at aa
 ·rename_i ht
  obtain⟨e,h1,h2,h3⟩:=G' ht
  split at aa
  ·rename_i s
   cases hx with
   |v _ _ hx=>
   cases hx with
   |str _ hs=>
   refine⟨_,_,Lib.run_convert_string_bytes w src dst e s h1 h2 h3,φ,fun b off=>if b=w.heap.size/\off<s.size then some (.int .u8 ((s.data.toList.getD off 0).toNat:Int))else m b off,?_,?_⟩
   ·have hle:Mem.le m (fun b off=>if b=w.heap.size/\off<s.size then some (.int .u8 ((s.data.toList.getD off 0).toNat:Int))else m b off):=by
      intro b off v hv
      have ae:=jb (hC.mem b off v hv)
      show (if _ then _ else _)=_
      rw[if_neg (by omega)];exact hv
    have :=hC.imm (w':=Lib.bytesWorld w e s) hle ⟨rfl,rfl,rfl,by rw[Lib.bytesWorld_size];omega⟩ (fun b hb=>Lib.bytesWorld_at_old w e s b hb) (fun b off v hv=>by
     have hv:(if b=w.heap.size/\off<s.size then some (Value.int .u8 ((s.data.toList.getD off 0).toNat:Int))else m b off)=some v:=hv
     by_cases hb:b=w.heap.size/\off<s.size
     ·rw[if_pos hb]at hv
      rw[hb.1]
      exact .inr ⟨Nat.le_refl _,(Lib.bytesWorld_cell w e s off hb.2).trans hv⟩
     ·rw[if_neg hb]at hv
      exact .inl hv)
    simpa[ht]using this
   ·try simp only[ht]
    refine .v _ _ ?_
    have hlen:(gm s).length=s.size:=QH s
    by_cases h0:s.size=0
    ·have:gm s=[]:=List.eq_nil_of_length_eq_zero (by omega)
     rw[this,h0]
     exact .slnil _ _
    ·have:=aw.sl (m:=fun b off=>if b=w.heap.size/\off<s.size then some (.int .u8 ((s.data.toList.getD off 0).toNat:Int))else m b off) (gm s) w.heap.size 0 (grownCap w s.size 0 e) 1 (fun i _=>.int .u8 ((s.data.toList.getD i 0).toNat:Int))
       (by intro h;rw[h]at hlen;exact h0 hlen.symm) (by omega) (by rw[hlen];exact grownCap_ge _ _ _ _)
       (fun i hi=>by rw[Fp s hi];rfl)
       (fun i j hi hj=>by
         obtain rfl:j=0:=by omega
         show (if _ then _ else _)=_
         rw[if_pos ⟨rfl,by omega⟩,show 0+i*1+0=i by omega])
       (fun i j hi hj=>by
         refine QI ?_ hj
         have bl:i<s.data.toList.length:=by rw[hlen]at hi;rw[Array.length_toList];exact hi
         rw[dV bl]
         exact List.getElem_map _)
       (fun i hi x hx=>by
         rw[Fp s hi]at hx
         rw[List.mem_singleton.1 hx]
         exact QG s hi)
     rw[hlen]at this
     exact this
  ·exact aa.elim
 ·rename_i ht
  obtain⟨e,h1,h2,h3⟩:=G9 ht
  split at aa
  ·rename_i l
   cases hx with
   |v _ _ hx=>
   rw[List.all_eq_true]at aa
   have hb:=fun i (h:i<l.length)=>aa _ (List.getElem_mem h)
   have bB:(⟨(l.map mK).toArray⟩:ByteArray).size=l.length:=by simp[ByteArray.size]
   cases hx with
   |slnil a cap=>
    refine⟨.string ⟨#[]⟩,w,?_,φ,m,by simpa[ht]using hC,?_⟩
    ·rw[run_convert_bytes_string w src dst e a 0 cap h1 h3 h2]
     cases a with
     |none=>rfl
     |some a=>simp[Conv.bytesToString,loadCells,loadCellsFrom];rfl
    ·simp only[ht]
     exact .v _ _ (.str _ (by simp[ByteArray.size]))
   |sl _ b o cap sz c hn hl fg hs hc hr ho=>
    refine⟨.string ⟨(l.map mK).toArray⟩,w,?_,φ,m,by simpa[ht]using hC,?_⟩
    ·have:=run_convert_bytes_back (P:=P) w src dst e ⟨b,o,none⟩ cap (l.map mK) h1 h3 h2 (fun j hj=>by
       have fF:j<l.length:=by simpa using hj
       have NT:sz=1:=by rw[<-hs j fF,uG (hb j fF)];rfl
       subst NT
       have h4:=hC.mem _ _ _ (hc j 0 fF (by omega))
       have h5:=hr j 0 fF (by rw[uG (hb j fF)];simp)
       have h6:∀ (x:V) (hx:oG x=true) (h:0<x.cells.length) (u:Value),aw m x.cells[0] u->u=.int .u8 ((mK x).toNat:Int):=by
        intro x hx h u hu
        have e0:=uG hx
        have :x.cells[0]=x:=by simp[e0]
        rw[this]at hu
        exact Nf hx hu
       have h7:=h6 _ (hb j fF) _ _ h5
       rw[h7]at h4
       rw[eP]
       simpa using h4)
     simpa using this
    ·simp only[ht]
     exact .v _ _ (.str _ (by rw[bB];exact hl))
  ·exact aa.elim
 ·rename_i ht1 ht2
  obtain⟨r,k1,k2,k3⟩:=HG (P:=P) w hx aa
  refine⟨r,w,k1,φ,m,?_,?_⟩
  ·rw[k3];exact hC
  ·rw[k3];exact k2
end Go.Eng
