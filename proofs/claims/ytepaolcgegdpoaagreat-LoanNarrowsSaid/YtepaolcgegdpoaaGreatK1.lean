import Derived.Orders
import Derived.Below
import Derived.Laws.Cells
import Derived.Laws.Tables
import Derived.Laws.MakeOwn
import Derived.Deep.AppendSrc
import Derived.MapKept
import Derived.Laws.AppendOwn
/- Texts Eng1 to Eng10. -/
set_option linter.all false
namespace Go.Eng
open Go
def gN:Value->Bool
 | .agg _=>false
 | .tuple _=>false
 |_=>true
abbrev Name:=List Nat
abbrev Mem:=Nat->Nat->Option Value
structure Loc where
 blk:Nat
 off:Nat
 cap:Nat
 nul:Bool
 nb:Option Addr
def Loc.slice(p:Loc)(k:Nat):Value:=if p.nul then .slice p.nb 0 0 else .slice (some ⟨p.blk,p.off,none⟩) k p.cap
inductive V where
 |int (k:IntKind) (n:Int)
 |bool (b:Bool)
 |str (s:ByteArray)
 |sl (l:List V)
 |agg (l:List V)
 |tup (l:List V)
 |ptr (cs:List V)
 |nilp
 |clo (fn:Fn) (first eE:List V)
 |nilfn
 deriving Inhabited
def V.cells:V->List V
 | .agg l=>l
 |x=>[x]
def V.one:V->Bool
 | .agg _=>false
 | .tup _=>false
 |_=>true
inductive D where
 |v (x:V)
 |nilsl
 |nilmap
 |ref (nm:Name) (off:Nat)
 |msl (nm:Name) (k:Nat)
 |aref (nm:Name) (k i off:Nat)
 |map (nm:Name)
 |yld (nm:Name)
 |clo (fn:Fn) (first eE:List D)
 |agg (l:List D)
 |tup (l:List D)
 |any
 deriving Inhabited
def D.one:D->Bool
 | .v x=>x.one
 | .agg _=>false
 | .tup _=>false
 | .any=>false
 |_=>true
def D.cells:D->List D
 | .agg l=>l
 | .v (.agg l)=>l.map .v
 |x=>[x]
structure E where
 c:Bool
 d:D
inductive O where
 |box (cs:List D)
 |arr (sz:Nat) (l:List V)
 |map (kd:Nat) (es:List (V×V))
 |fbox (cs:List V)
 |farr (sz:Nat) (l:List V)
 |dead (sz n:Nat)
 |loop (env:List E) (ps:List Nat) (asg body:Code) (st:LoopState) (bS:Option Code)
def eT:Nat->V->Bool
 | 0,.int .i64 _=>true
 | 1,.str _=>true
 | 2,.agg [.int .i64 _,.int .i64 _]=>true
 |_,_=>false
def fW:V->V->Bool
 | .int _ a,.int _ b=>a==b
 | .str a,.str b=>a==b
 | .agg [.int _ a,.int _ b],.agg [.int _ c,.int _ d]=>a==c&&b==d
 |_,_=>false
def O.len?:O->Option Nat
 | .arr _ l=>some l.length
 | .farr _ l=>some l.length
 | .dead _ n=>some n
 |_=>none
def O.sz:O->Nat
 | .arr s _=>s
 | .farr s _=>s
 | .dead s _=>s
 |_=>0
def O.mut:O->Bool
 | .fbox _=>false
 | .farr _ _=>false
 | .dead _ _=>false
 |_=>true
structure S where
 nt:Nat
 env:Nat->E
 obj:Name->Option O
 pre:Name
 base:Nat
def upd{α β:Type}[DecidableEq α](f:α->β)(a:α)(b:β):α->β:=fun x=>if x=a then b else f x
theorem TG{α β:Type}[DecidableEq α](f:α->β)(a:α)(b:β)(x:α):upd f a b x=if x=a then b else f x:=rfl
theorem aX{α β:Type}[DecidableEq α](f:α->β)(a:α)(b:β):upd f a b a=b:=if_pos rfl
theorem bm{α β:Type}[DecidableEq α](f:α->β)(a:α)(b:β){x:α}(h:x≠a):upd f a b x=f x:=if_neg h
def ey{α β:Type}[DecidableEq α](z:β):List (α×β)->α->β
 |[],_=>z
 |(a,b)::r,x=>if x=a then b else ey z r x
inductive aU (m:Mem):V->Value->Prop
 |int (k:IntKind) (n:Int):aU m (.int k n) (.int k n)
 |bool (b:Bool):aU m (.bool b) (.bool b)
 |str (s:ByteArray) (h:s.size<=maxLen):aU m (.str s) (.string s)
 |slnil (a:Option Addr) (cap:Nat):aU m (.sl []) (.slice a 0 cap)
 |sl (l:List V) (b o cap sz:Nat) (c:Nat->Nat->Value) (hn:l≠[]) (hl:l.length<=maxLen) (ka:l.length<=cap)
    (hs:∀ i (h:i<l.length),(l[i].cells).length=sz)
    (hc:∀ i j,i<l.length->j<sz->m b (o+i*sz+j)=some (c i j))
    (hr:∀ i j (h:i<l.length) (h':j<(l[i].cells).length),aU m (l[i].cells)[j] (c i j))
    (ho:∀ i (h:i<l.length),∀ x∈l[i].cells,x.one=true):
    aU m (.sl l) (.slice (some ⟨b,o,none⟩) l.length cap)
 |agg (l:List V) (us:Array Value) (h:l.length=us.size) (ho:∀ x∈l,x.one=true)
    (hr:∀ i (h:i<l.length) (h':i<us.size),aU m l[i] us[i]):aU m (.agg l) (.agg us)
 |tup (l:List V) (us:Array Value) (h:l.length=us.size)
    (hr:∀ i (h:i<l.length) (h':i<us.size),aU m l[i] us[i]):aU m (.tup l) (.tuple us)
 |ptr (cs:List V) (b o:Nat) (c:Nat->Value) (ho:∀ y∈cs,y.one=true) (hc:∀ j,j<cs.length->m b (o+j)=some (c j))
    (hr:∀ j (h:j<cs.length),aU m cs[j] (c j)):aU m (.ptr cs) (.pointer (some ⟨b,o,none⟩))
 |nilp:aU m .nilp (.pointer none)
 |clo (fn:Fn) (fs cs:List V) (us vs:Array Value) (h1:fs.length=us.size) (h2:cs.length=vs.size)
    (dS:∀ i (h:i<fs.length) (h':i<us.size),aU m fs[i] us[i])
    (eH:∀ i (h:i<cs.length) (h':i<vs.size),aU m cs[i] vs[i]):aU m (.clo fn fs cs) (.func fn us vs)
 |nilfn:aU m .nilfn .nilFunc
def Mem.le(m m':Mem):Prop:=∀ b o v,m b o=some v->m' b o=some v
theorem Mem.le_refl(m:Mem):Mem.le m m:=fun _ _ _ h=>h
theorem Mem.le_trans{a b c:Mem}(h:Mem.le a b)(k:Mem.le b c):Mem.le a c:=fun _ _ _ x=>k _ _ _ (h _ _ _ x)
theorem aU.mono{m m':Mem}(hm:Mem.le m m'){x:V}{u:Value}(h:aU m x u):aU m' x u:=by
 induction h with
 |int k n=>exact .int k n
 |bool b=>exact .bool b
 |str s h=>exact .str s h
 |slnil a cap=>exact .slnil a cap
 |sl l b o cap sz c hn hl ka hs hc hr ho ih=>exact .sl l b o cap sz c hn hl ka hs (fun i j hi hj=>hm _ _ _ (hc i j hi hj)) ih ho
 |agg l us h ho hr ih=>exact .agg l us h ho ih
 |tup l us h hr ih=>exact .tup l us h ih
 |ptr x b o c ho hc hr ih=>exact .ptr x b o c ho (fun j hj=>hm _ _ _ (hc j hj)) ih
 |nilp=>exact .nilp
 |clo fn fs cs us vs h1 h2 dS eH qo qn=>exact .clo fn fs cs us vs h1 h2 qo qn
 |nilfn=>exact .nilfn
theorem aU.one{m:Mem}{x:V}{u:Value}(h:aU m x u)(hx:x.one=true):gN u=true:=by
 cases h<;>first | rfl | simp[V.one]at hx
theorem aU.cells{m:Mem}{x:V}{u:Value}(h:aU m x u):x.cells.length=u.cells.size:=by
 cases h<;>simp_all[V.cells,Value.cells]
theorem aU.cell{m:Mem}{x:V}{u:Value}(h:aU m x u)(i:Nat)(h1:i<x.cells.length)(h2:i<u.cells.size):aU m x.cells[i] u.cells[i]:=by
 cases h with
 |agg l us h ho hr=>exact hr i h1 h2
 |int k n=>simp only[V.cells,List.length_singleton,Nat.lt_one_iff]at h1;subst h1;exact .int k n
 |bool b=>simp only[V.cells,List.length_singleton,Nat.lt_one_iff]at h1;subst h1;exact .bool b
 |str s h=>simp only[V.cells,List.length_singleton,Nat.lt_one_iff]at h1;subst h1;exact .str s h
 |slnil a cap=>simp only[V.cells,List.length_singleton,Nat.lt_one_iff]at h1;subst h1;exact .slnil a cap
 |sl l b o cap sz c hn hl ka hs hc hr ho=>simp only[V.cells,List.length_singleton,Nat.lt_one_iff]at h1;subst h1;exact .sl l b o cap sz c hn hl ka hs hc hr ho
 |tup l us h hr=>simp only[V.cells,List.length_singleton,Nat.lt_one_iff]at h1;subst h1;exact .tup l us h hr
 |ptr x b o c ho hc hr=>simp only[V.cells,List.length_singleton,Nat.lt_one_iff]at h1;subst h1;exact .ptr x b o c ho hc hr
 |nilp=>simp only[V.cells,List.length_singleton,Nat.lt_one_iff]at h1;subst h1;exact .nilp
 |clo fn fs cs us vs a b c d=>simp only[V.cells,List.length_singleton,Nat.lt_one_iff]at h1;subst h1;exact .clo fn fs cs us vs a b c d
 |nilfn=>simp only[V.cells,List.length_singleton,Nat.lt_one_iff]at h1;subst h1;exact .nilfn
def tj(obj:Name->Option O)(nm:Name):Prop:=∃ o,obj nm=some o/\o.len?=none
inductive aI (φ:Name->Loc) (obj:Name->Option O) (m:Mem):D->Value->Prop
 |any (u:Value):aI φ obj m .any u
 |v (x:V) (u:Value) (h:aU m x u):aI φ obj m (.v x) u
 |nilsl (a:Option Addr):aI φ obj m .nilsl (.slice a 0 0)
 |nilmap:aI φ obj m .nilmap (.map none)
 |ref (nm:Name) (off:Nat) (h:tj obj nm):aI φ obj m (.ref nm off) (.pointer (some ⟨(φ nm).blk,(φ nm).off+off,none⟩))
 |map (nm:Name) (h:tj obj nm):aI φ obj m (.map nm) (.map (some (φ nm).blk))
 |yld (nm:Name) (h:tj obj nm):aI φ obj m (.yld nm) (.func (.yield (φ nm).blk) #[] #[])
 |msl (nm:Name) (k:Nat) (u:Value) (h:∃ o n,obj nm=some o/\o.len?=some n/\k<=n/\(k=n->u=(φ nm).slice k)) (hu:gN u=true):aI φ obj m (.msl nm k) u
 |aref (nm:Name) (k i off:Nat) (u:Value)
    (h:∃ o n,obj nm=some o/\o.len?=some n/\k<=n/\(k=n->u=.pointer (some ⟨(φ nm).blk,(φ nm).off+i*o.sz+off,none⟩))) (hu:gN u=true):
    aI φ obj m (.aref nm k i off) u
 |clo (fn:Fn) (fs cs:List D) (us vs:Array Value) (h1:fs.length=us.size) (h2:cs.length=vs.size)
    (dS:∀ i (h:i<fs.length) (h':i<us.size),aI φ obj m fs[i] us[i])
    (eH:∀ i (h:i<cs.length) (h':i<vs.size),aI φ obj m cs[i] vs[i]):aI φ obj m (.clo fn fs cs) (.func fn us vs)
 |agg (l:List D) (us:Array Value) (h:l.length=us.size) (ho:∀ d∈l,d.one=true)
    (hr:∀ i (h:i<l.length) (h':i<us.size),aI φ obj m l[i] us[i]):aI φ obj m (.agg l) (.agg us)
 |tup (l:List D) (us:Array Value) (h:l.length=us.size)
    (hr:∀ i (h:i<l.length) (h':i<us.size),aI φ obj m l[i] us[i]):aI φ obj m (.tup l) (.tuple us)
def Ext(φ φ':Name->Loc)(obj obj':Name->Option O):Prop:=
 ∀ nm o,obj nm=some o->∃ o',obj' nm=some o'/\
   ((o'.len?=o.len?/\φ' nm=φ nm/\o'.sz=o.sz)\/(∃ n n',o.len?=some n/\o'.len?=some n'/\n<n'))
theorem Ext.trans{φ φ' vg:Name->Loc}{obj obj' obj'':Name->Option O}(h:Ext φ φ' obj obj')(k:Ext φ' vg obj' obj''):Ext φ vg obj obj'':=by
 intro nm o ho
 obtain⟨o',dk,h1⟩:=h nm o ho
 obtain⟨ES,aaW,h2⟩:=k nm o' dk
 refine⟨ES,aaW,?_⟩
 rcases h1 with⟨a1,a2,a3⟩ | ⟨n,n',a1,a2,a3⟩<;>rcases h2 with⟨b1,b2,b3⟩ | ⟨k,k',b1,b2,b3⟩
 ·exact .inl ⟨b1.trans a1,b2.trans a2,b3.trans a3⟩
 ·exact .inr ⟨k,k',a1▸b1,b2,b3⟩
 ·exact .inr ⟨n,n',a1,b1.trans a2,a3⟩
 ·rw[a2]at b1;cases b1
  exact .inr ⟨n,k',a1,b2,by omega⟩
theorem Ext.refl(φ:Name->Loc)(obj:Name->Option O):Ext φ φ obj obj:=fun _ o h=>⟨o,h,.inl ⟨rfl,rfl,rfl⟩⟩
theorem aI.ext{φ φ':Name->Loc}{obj obj':Name->Option O}{m m':Mem}(hm:Mem.le m m')(hx:Ext φ φ' obj obj'){d:D}{u:Value}
 (h:aI φ obj m d u):aI φ' obj' m' d u:=by
 induction h with
 |any u=>exact .any u
 |v x u h=>exact .v x u (h.mono hm)
 |nilsl a=>exact .nilsl a
 |nilmap=>exact .nilmap
 |ref nm off h=>
  obtain⟨o,ho,hl⟩:=h
  obtain⟨o',dk,h⟩:=hx nm o ho
  rcases h with⟨h1,h2,h3⟩ | ⟨n,n',h1,h2,h3⟩
  ·rw[<-h2];exact .ref nm off ⟨o',dk,h1.trans hl⟩
  ·rw[hl]at h1;cases h1
 |map nm h=>
  obtain⟨o,ho,hl⟩:=h
  obtain⟨o',dk,h⟩:=hx nm o ho
  rcases h with⟨h1,h2,h3⟩ | ⟨n,n',h1,h2,h3⟩
  ·rw[<-h2];exact .map nm ⟨o',dk,h1.trans hl⟩
  ·rw[hl]at h1;cases h1
 |yld nm h=>
  obtain⟨o,ho,hl⟩:=h
  obtain⟨o',dk,h⟩:=hx nm o ho
  rcases h with⟨h1,h2,h3⟩ | ⟨n,n',h1,h2,h3⟩
  ·rw[<-h2];exact .yld nm ⟨o',dk,h1.trans hl⟩
  ·rw[hl]at h1;cases h1
 |msl nm k u h hu=>
  obtain⟨o,n,ho,hl,hk,he⟩:=h
  obtain⟨o',dk,h⟩:=hx nm o ho
  rcases h with⟨h1,h2,h3⟩ | ⟨n1,n',h1,h2,h3⟩
  ·exact .msl nm k u ⟨o',n,dk,h1.trans hl,hk,fun e=>by rw[h2];exact he e⟩ hu
  ·rw[hl]at h1;cases h1
   exact .msl nm k u ⟨o',n',dk,h2,by omega,fun e=>by omega⟩ hu
 |aref nm k i off u h hu=>
  obtain⟨o,n,ho,hl,hk,he⟩:=h
  obtain⟨o',dk,h⟩:=hx nm o ho
  rcases h with⟨h1,h2,h3⟩ | ⟨n1,n',h1,h2,h3⟩
  ·exact .aref nm k i off u ⟨o',n,dk,h1.trans hl,hk,fun e=>by rw[h2,h3];exact he e⟩ hu
  ·rw[hl]at h1;cases h1
   exact .aref nm k i off u ⟨o',n',dk,h2,by omega,fun e=>by omega⟩ hu
 |clo fn fs cs us vs h1 h2 dS eH qo qn=>exact .clo fn fs cs us vs h1 h2 qo qn
 |agg l us h ho hr ih=>exact .agg l us h ho ih
 |tup l us h hr ih=>exact .tup l us h ih
theorem aI.one{φ:Name->Loc}{obj:Name->Option O}{m:Mem}{d:D}{u:Value}(h:aI φ obj m d u)(hx:d.one=true):gN u=true:=by
 cases h with
 |v x u h=>exact h.one hx
 |msl=>assumption
 |aref=>assumption
 |any=>simp[D.one]at hx
 |agg=>simp[D.one]at hx
 |tup=>simp[D.one]at hx
 |_=>rfl
theorem aI.cells{φ:Name->Loc}{obj:Name->Option O}{m:Mem}{d:D}{u:Value}(h:aI φ obj m d u)(hd:d≠ .any):d.cells.length=u.cells.size:=by
 have mi:∀ u:Value,gN u=true->u.cells.size=1:=by intro u hu;cases u<;>simp_all[Value.cells,gN]
 cases h with
 |v x u h=>
  have :=h.cells
  cases x<;>simp_all[D.cells,V.cells]
 |any=>exact(hd rfl).elim
 |msl nm k u h hu=>simp[D.cells,mi u hu]
 |aref nm k i off u h hu=>simp[D.cells,mi u hu]
 |agg l us h ho hr=>exact h
 |_=>rfl
theorem aI.cell{φ:Name->Loc}{obj:Name->Option O}{m:Mem}{d:D}{u:Value}(h:aI φ obj m d u)(hd:d≠ .any)(i:Nat)(h1:i<d.cells.length)(h2:i<u.cells.size):
 aI φ obj m d.cells[i] u.cells[i]:=by
 have one:∀ (h0:d.cells=[d]) (Qh:u.cells= #[u]),aI φ obj m d.cells[i] u.cells[i]:=by
  intro h0 Qh
  have fZ:=h1
  rw[h0]at fZ
  simp only[List.length_singleton,Nat.lt_one_iff]at fZ
  subst fZ
  simp only[h0,Qh,List.getElem_cons_zero,List.getElem_toArray]
  exact h
 have mi:∀ u:Value,gN u=true->u.cells= #[u]:=by intro u hu;cases u<;>simp_all[Value.cells,gN]
 cases h with
 |v x u h=>
  cases h with
  |agg l us hl ho hr=>
   simp only[D.cells,List.length_map]at h1
   simp only[D.cells,List.getElem_map,Value.cells]
   exact .v _ _ (hr i h1 h2)
  |_=>exact one rfl rfl
 |any=>exact(hd rfl).elim
 |msl nm k u h hu=>exact one rfl (mi u hu)
 |aref nm k i off u h hu=>exact one rfl (mi u hu)
 |agg l us h ho hr=>exact hr i h1 h2
 |_=>exact one rfl rfl
def cN(φ:Name->Loc)(obj:Name->Option O)(m:Mem)(e:E)(u:Value):Prop:=
 if e.c=true then aI φ obj m e.d u else u=undef
theorem cN.ext{φ φ':Name->Loc}{obj obj':Name->Option O}{m m':Mem}(hm:Mem.le m m')(hx:Ext φ φ' obj obj'){e:E}{u:Value}
 (h:cN φ obj m e u):cN φ' obj' m' e u:=by
 unfold cN at *
 split<;>simp_all
 exact h.ext hm hx
structure Ghost where
 w0:World
 m0:Mem
 ob:Nat->Prop
 rd:Option Nat
 φ0:Name->Loc
 obj0:Name->Option O
 rdok:∀ l,rd=some l->¬ ob l/\∃ r,w0.heap[l]?=some (.loop r)
def own(p:Name):Name->Bool
 |[]=>false
 |_::r=>r==p||own p r
def iD(φ:Name->Loc)(obj:Name->Option O)(m:Mem)(o:O)(p:Loc)(w:World):Prop:=
 match o with
 | .box cs=>p.off=0/\p.nul=false/\(∀ d∈cs,d.one=true)/\∃ us T f,w.heap[p.blk]?=some (.cells us T f)/\f.1=f.2/\us.size=cs.length/\
     ∀ i (h:i<cs.length) (h':i<us.size),aI φ obj m cs[i] us[i]
 | .arr sz l=>(p.nul=true/\l=[])\/(p.nul=false/\l.length<=p.cap/\p.cap<=maxLen/\(∀ i (h:i<l.length),(l[i].cells).length=sz)/\
     (∀ i (h:i<l.length),∀ x∈l[i].cells,x.one=true)/\∃ us T f,w.heap[p.blk]?=some (.cells us T f)/\f.1=f.2/\p.off+p.cap*sz<=us.size/\
     ∀ i j (h:i<l.length) (h':j<(l[i].cells).length),∃ c,us[p.off+i*sz+j]?=some c/\aU m (l[i].cells)[j] c)
 | .map kd es=>p.off=0/\p.nul=false/\(∀ q∈es,eT kd q.1=true)/\∃ ents clock,w.heap[p.blk]?=some (.map ents clock)/\ents.size=es.length/\
     ∀ i (h:i<es.length) (h':i<ents.size),aU m es[i].1 ents[i].key/\aU m es[i].2 ents[i].val
 | .fbox cs=>(∀ x∈cs,x.one=true)/\∀ i (h:i<cs.length),∃ c,m p.blk (p.off+i)=some c/\aU m cs[i] c
 | .farr sz l=>(p.nul=true/\l=[])\/(p.nul=false/\(l.length<=p.cap/\l.length<=maxLen)/\(∀ i (h:i<l.length),(l[i].cells).length=sz)/\
     (∀ i (h:i<l.length),∀ x∈l[i].cells,x.one=true)/\
     ∀ i j (h:i<l.length) (h':j<(l[i].cells).length),∃ c,m p.blk (p.off+i*sz+j)=some c/\aU m (l[i].cells)[j] c)
 | .dead _ n=>(p.nul=true/\n=0)\/(p.nul=false/\n<=p.cap)
 | .loop env ps asg body st bS=>p.off=0/\p.nul=false/\∃ r:Loop,w.heap[p.blk]?=some (.loop r)/\r.state=st/\r.pending=bS/\r.params.toList=ps/\r.assign=asg/\r.body=body/\
     r.tmps.size=env.length/\∀ i (h:i<env.length),cN φ obj m env[i] (r.tmps.getD i undef)
def holds(φ:Name->Loc)(obj:Name->Option O)(nm:Name):Prop:=∃ o,obj nm=some o/\o.mut=true/\(φ nm).nul=false
structure Fr (G:Ghost) (w:World):Prop where
 os:w.os=G.w0.os
 tape:w.tape=G.w0.tape
 output:w.output=G.w0.output
 size:G.w0.heap.size<=w.heap.size
 block:∀ b,b<G.w0.heap.size->¬ G.ob b->w.heap[b]?=G.w0.heap[b]?
structure aV (G:Ghost) (φ:Name->Loc) (m:Mem) (σ:S) (a:Act) (w:World):Prop where
 tmps:∀ t,cN φ σ.obj m (σ.env t) (a.tmps.getD t undef)
 size:a.tmps.size=σ.nt
 defers:∃ ds:List Nat,a.defers=ds.map (fun D=>{ target:=.collected D,args:= #[] })/\ds.Nodup/\∀ D∈ds,G.w0.heap.size<=D/\w.heap[D]?=some (.deferred (some []))
 objs:∀ nm o,σ.obj nm=some o->iD φ σ.obj m o (φ nm) w
 mem:∀ b off v,m b off=some v->w.cell? ⟨b,off,none⟩=some v
 apart:∀ nm,holds φ σ.obj nm->∀ off,m (φ nm).blk off=none
 inj:∀ nm k9,holds φ σ.obj nm->holds φ σ.obj k9->(φ nm).blk=(φ k9).blk->nm=k9
 own:∀ nm,holds φ σ.obj nm->G.w0.heap.size<=(φ nm).blk\/G.ob (φ nm).blk
 fr:Fr G w
 fresh:∀ b off v,m b off=some v->G.m0 b off=some v\/G.w0.heap.size<=b\/G.ob b
 kept:(∀ nm o,G.obj0 nm=some o->Go.Eng.own σ.pre nm=false)/\Ext G.φ0 φ G.obj0 σ.obj
theorem pL{w:World}{b off:Nat}{s:Option Nat}{v:Value}(h:w.cell? ⟨b,off,s⟩=some v):b<w.heap.size:=by
 unfold World.cell? at h
 simp only at h
 cases hh:w.heap[b]? with
 |none=>simp[hh]at h
 |some o=>exact(Array.getElem?_eq_some_iff.1 hh).1
theorem sx{w w':World}{b off:Nat}{s:Option Nat}(h:w'.heap[b]?=w.heap[b]?):w'.cell? ⟨b,off,s⟩=w.cell? ⟨b,off,s⟩:=by
 unfold World.cell?
 simp only[h]
theorem iD.lt{φ:Name->Loc}{obj:Name->Option O}{m:Mem}{o:O}{p:Loc}{w:World}(h:iD φ obj m o p w)(hm:o.mut=true)(hn:p.nul=false):p.blk<w.heap.size:=by
 cases o with
 |box cs=>obtain⟨_,_,_,us,T,f,h,_⟩:=h;exact(Array.getElem?_eq_some_iff.1 h).1
 |arr sz l=>
  rcases h with⟨h,_⟩ | ⟨_,_,_,_,_,us,T,f,h,_⟩
  ·rw[h]at hn;cases hn
  ·exact(Array.getElem?_eq_some_iff.1 h).1
 |map kd es=>obtain⟨_,_,_,us,T,h,_⟩:=h;exact(Array.getElem?_eq_some_iff.1 h).1
 |loop=>obtain⟨_,_,r,h,_⟩:=h;exact(Array.getElem?_eq_some_iff.1 h).1
 |fbox=>cases hm
 |farr=>cases hm
 |dead=>cases hm
theorem iD.notDef{φ:Name->Loc}{obj:Name->Option O}{m:Mem}{o:O}{p:Loc}{w:World}(h:iD φ obj m o p w)(hm:o.mut=true)(hn:p.nul=false)(x:Option (List Deferred)):
 w.heap[p.blk]?≠some (.deferred x):=by
 intro hx
 cases o with
 |box cs=>obtain⟨_,_,_,us,T,f,h,_⟩:=h;rw[h]at hx;cases hx
 |arr sz l=>
  rcases h with⟨h,_⟩ | ⟨_,_,_,_,_,us,T,f,h,_⟩
  ·rw[h]at hn;cases hn
  ·rw[h]at hx;cases hx
 |map kd es=>obtain⟨_,_,_,us,T,h,_⟩:=h;rw[h]at hx;cases hx
 |loop=>obtain⟨_,_,r,h,_⟩:=h;rw[h]at hx;cases hx
 |fbox=>cases hm
 |farr=>cases hm
 |dead=>cases hm
theorem iD.ext{φ φ':Name->Loc}{obj obj':Name->Option O}{m m':Mem}{o:O}{p:Loc}{w w':World}(hm:Mem.le m m')(hx:Ext φ φ' obj obj')
 (hw:o.mut=true->p.nul=false->w'.heap[p.blk]?=w.heap[p.blk]?) (h:iD φ obj m o p w):iD φ' obj' m' o p w':=by
 cases o with
 |box cs=>
  obtain⟨h0,h1,fZ,us,T,f,h2,h3,h4,h5⟩:=h
  exact⟨h0,h1,fZ,us,T,f,by rw[hw rfl h1];exact h2,h3,h4,fun i a b=>(h5 i a b).ext hm hx⟩
 |arr sz l=>
  rcases h with⟨h,h'⟩ | ⟨h0,h1,h2,h3,h4,us,T,f,h5,h6,h7,h8⟩
  ·exact .inl ⟨h,h'⟩
  ·exact .inr ⟨h0,h1,h2,h3,h4,us,T,f,by rw[hw rfl h0];exact h5,h6,h7,fun i j a b=>let ⟨c,x,y⟩:=h8 i j a b;⟨c,x,y.mono hm⟩⟩
 |map kd es=>
  obtain⟨h0,h1,fZ,us,T,h2,h3,h4⟩:=h
  exact⟨h0,h1,fZ,us,T,by rw[hw rfl h1];exact h2,h3,fun i a b=>⟨(h4 i a b).1.mono hm,(h4 i a b).2.mono hm⟩⟩
 |fbox cs=>exact⟨h.1,fun i a=>let ⟨c,x,y⟩:=h.2 i a;⟨c,hm _ _ _ x,y.mono hm⟩⟩
 |farr sz l=>
  rcases h with⟨h,h'⟩ | ⟨h0,h1,h2,h3,h4⟩
  ·exact .inl ⟨h,h'⟩
  ·exact .inr ⟨h0,h1,h2,h3,fun i j a b=>let ⟨c,x,y⟩:=h4 i j a b;⟨c,hm _ _ _ x,y.mono hm⟩⟩
 |dead=>exact h
 |loop env ps asg body st bS=>
  obtain⟨h0,h1,r,h2,h3,h4,h5,h6,h7,h8,h9⟩:=h
  exact⟨h0,h1,r,by rw[hw rfl h1];exact h2,h3,h4,h5,h6,h7,h8,fun i a=>(h9 i a).ext hm hx⟩
theorem aV.chg{G:Ghost}{φ:Name->Loc}{m:Mem}{σ:S}{a:Act}{w w':World}(hC:aV G φ m σ a w)(nm:Name)(o':O)(p':Loc)
 (hx:Ext φ (upd φ nm p') σ.obj (upd σ.obj nm (some o')))
 (hw:w'.os=w.os/\w'.tape=w.tape/\w'.output=w.output/\w.heap.size<=w'.heap.size)
 (hb:∀ b,b<w.heap.size->(p'.nul=true\/b≠p'.blk)->w'.heap[b]?=w.heap[b]?)
 (hp:p'.nul=false->w.heap.size<=p'.blk\/(holds φ σ.obj nm/\(φ nm).blk=p'.blk))
 (hs:iD (upd φ nm p') (upd σ.obj nm (some o')) m o' p' w'):
 aV G (upd φ nm p') m { σ with obj:=upd σ.obj nm (some o') } a w':=by
 have ae:∀ x,holds φ σ.obj x->(φ x).blk<w.heap.size:=fun x ⟨o,h1,h2,h3⟩=>(hC.objs x o h1).lt h2 h3
 have hold:∀ x,x≠nm->holds (upd φ nm p') (upd σ.obj nm (some o')) x->holds φ σ.obj x:=by
  rintro x aH ⟨o,h1,h2,h3⟩
  rw[bm _ _ _ aH]at h1
  rw[bm _ _ _ aH]at h3
  exact⟨o,h1,h2,h3⟩
 have dD:holds (upd φ nm p') (upd σ.obj nm (some o')) nm->p'.nul=false:=by
  rintro⟨o,h1,h2,h3⟩;rwa [aX]at h3
 have G0:∀ x,x≠nm->holds φ σ.obj x->p'.nul=false->(φ x).blk≠p'.blk:=by
  intro x aH bB hn e
  rcases hp hn with h | ⟨h,h'⟩
  ·have:=ae x bB;omega
  ·exact aH (hC.inj _ _ bB h (e.trans h'.symm))
 have jv:∀ b off v,m b off=some v->b<w.heap.size/\(p'.nul=true\/b≠p'.blk):=by
  intro b off v h
  have h1:=hC.mem b off v h
  refine⟨pL h1,?_⟩
  cases hn:p'.nul with
  |true=>exact .inl rfl
  |false=>
   refine .inr fun e=>?_
   subst e
   rcases hp hn with h' | ⟨h',iy⟩
   ·have:=pL h1;omega
   ·have:=hC.apart nm h' off;rw[iy,h]at this;cases this
 constructor
 ·exact fun t=>(hC.tmps t).ext (Mem.le_refl m) hx
 ·exact hC.size
 ·obtain⟨ds,h1,h2,h3⟩:=hC.defers
  refine⟨ds,h1,h2,fun D hD=>⟨(h3 D hD).1,?_⟩⟩
  have hk:=(h3 D hD).2
  rw[hb D (Array.getElem?_eq_some_iff.1 hk).1 ?_]
  ·exact hk
  ·cases hn:p'.nul with
   |true=>exact .inl rfl
   |false=>
    refine .inr fun e=>?_
    rcases hp hn with h' | ⟨⟨o,h4,h5,h6⟩,iy⟩
    ·have:=(Array.getElem?_eq_some_iff.1 hk).1;omega
    ·exact(hC.objs nm o h4).notDef h5 h6 _ (by rw[iy,<-e];exact hk)
 ·intro x o px
  simp only at px
  by_cases aH:x=nm
  ·subst aH
   rw[aX]at px
   cases px
   rw[aX]
   exact hs
  ·rw[bm _ _ _ aH]at px
   rw[bm _ _ _ aH]
   refine(hC.objs x o px).ext (Mem.le_refl m) hx fun h1 h2=>?_
   refine hb _ (ae x ⟨o,px,h1,h2⟩) ?_
   cases hn:p'.nul with
   |true=>exact .inl rfl
   |false=>exact .inr (G0 x aH ⟨o,px,h1,h2⟩ hn)
 ·intro b off v h
  obtain⟨h1,h2⟩:=jv b off v h
  rw[sx (hb b h1 h2)]
  exact hC.mem b off v h
 ·intro x bB off
  by_cases aH:x=nm
  ·subst aH
   rw[aX]
   cases hc:m p'.blk off with
   |none=>rfl
   |some v=>
    rcases(jv _ _ _ hc).2 with h | h
    ·rw[dD bB]at h;cases h
    ·exact(h rfl).elim
  ·rw[bm _ _ _ aH]
   exact hC.apart x (hold x aH bB) off
 ·intro x y bB hy e
  by_cases aH:x=nm
  ·by_cases ni:y=nm
   ·rw[aH,ni]
   ·subst aH
    rw[aX,bm _ _ _ ni]at e
    exact(G0 y ni (hold y ni hy) (dD bB) e.symm).elim
  ·by_cases ni:y=nm
   ·subst ni
    rw[aX,bm _ _ _ aH]at e
    exact(G0 x aH (hold x aH bB) (dD hy) e).elim
   ·rw[bm _ _ _ aH,bm _ _ _ ni]at e
    exact hC.inj _ _ (hold x aH bB) (hold y ni hy) e
 ·intro x bB
  by_cases aH:x=nm
  ·subst aH
   rw[aX]
   rcases hp (dD bB)with h | ⟨h,h'⟩
   ·exact .inl (Nat.le_trans hC.fr.size h)
   ·rw[<-h'];exact hC.own _ h
  ·rw[bm _ _ _ aH]
   exact hC.own x (hold x aH bB)
 ·obtain⟨h1,h2,h3,h4⟩:=hw
  refine⟨h1.trans hC.fr.os,h2.trans hC.fr.tape,h3.trans hC.fr.output,Nat.le_trans hC.fr.size h4,fun b dg ho=>?_⟩
  rw[hb b (Nat.lt_of_lt_of_le dg hC.fr.size) ?_]
  ·exact hC.fr.block b dg ho
  ·cases hn:p'.nul with
   |true=>exact .inl rfl
   |false=>
    refine .inr fun e=>?_
    subst e
    rcases hp hn with h | ⟨h,h'⟩
    ·have:=hC.fr.size;omega
    ·rcases hC.own _ h with iy | iy<;>rw[h']at iy
     ·omega
     ·exact ho iy
 ·exact hC.fresh
 ·exact⟨hC.kept.1,hC.kept.2.trans hx⟩
theorem aV.imm{G:Ghost}{φ:Name->Loc}{m m':Mem}{σ:S}{a:Act}{w w':World}(hC:aV G φ m σ a w)(hm:Mem.le m m')
 (hw:w'.os=w.os/\w'.tape=w.tape/\w'.output=w.output/\w.heap.size<=w'.heap.size)
 (hb:∀ b,b<w.heap.size->w'.heap[b]?=w.heap[b]?)
 (hn:∀ b off v,m' b off=some v->m b off=some v\/(w.heap.size<=b/\w'.cell? ⟨b,off,none⟩=some v)):
 aV G φ m' σ a w':=by
 have ae:∀ x,holds φ σ.obj x->(φ x).blk<w.heap.size:=fun x ⟨o,h1,h2,h3⟩=>(hC.objs x o h1).lt h2 h3
 constructor
 ·exact fun t=>(hC.tmps t).ext hm (Ext.refl _ _)
 ·exact hC.size
 ·obtain⟨ds,h1,h2,h3⟩:=hC.defers
  exact⟨ds,h1,h2,fun D hD=>⟨(h3 D hD).1,(hb D (Array.getElem?_eq_some_iff.1 (h3 D hD).2).1).trans (h3 D hD).2⟩⟩
 ·exact fun x o px=>(hC.objs x o px).ext hm (Ext.refl _ _) fun h1 h2=>hb _ (ae x ⟨o,px,h1,h2⟩)
 ·intro b off v h
  rcases hn b off v h with h' | h'
  ·have h1:=hC.mem b off v h'
   rw[sx (hb b (pL h1))];exact h1
  ·exact h'.2
 ·intro x hx off
  cases hc:m' (φ x).blk off with
  |none=>rfl
  |some v=>
   rcases hn _ _ _ hc with h | h
   ·have:=hC.apart x hx off;rw[h]at this;cases this
   ·have:=ae x hx;omega
 ·exact hC.inj
 ·exact hC.own
 ·obtain⟨h1,h2,h3,h4⟩:=hw
  exact⟨h1.trans hC.fr.os,h2.trans hC.fr.tape,h3.trans hC.fr.output,Nat.le_trans hC.fr.size h4,fun b dg ho=>
   (hb b (Nat.lt_of_lt_of_le dg hC.fr.size)).trans (hC.fr.block b dg ho)⟩
 ·intro b off v h
  rcases hn b off v h with h' | h'
  ·exact hC.fresh b off v h'
  ·exact .inr (.inl (Nat.le_trans hC.fr.size h'.1))
 ·exact hC.kept
theorem aV.put{G:Ghost}{φ:Name->Loc}{m:Mem}{σ:S}{a:Act}{w:World}(hC:aV G φ m σ a w){t:Nat}{e:E}{v:Value}(ht:t<σ.nt)
 (he:cN φ σ.obj m e v):aV G φ m { σ with env:=upd σ.env t e } (a.put (some t) v) w:=by
 refine⟨fun x=>?_,?_,hC.defers,hC.objs,hC.mem,hC.apart,hC.inj,hC.own,hC.fr,hC.fresh,hC.kept⟩
 ·have hs:t<a.tmps.size:=by rw[hC.size];exact ht
  simp only[Act.put]
  by_cases hx:x=t
  ·subst hx
   rw[aX]
   simp[Array.getD,hs]
   exact he
  ·rw[bm _ _ _ hx]
   have :=hC.tmps x
   simp only[Array.getD_eq_getD_getElem?]at this |-
   rw[Array.getElem?_setIfInBounds_ne (fun h=>hx h.symm)]
   exact this
 ·simp[Act.put,hC.size]
theorem aV.drawn{G:Ghost}{φ:Name->Loc}{m:Mem}{σ:S}{a:Act}{w:World}(hC:aV G φ m σ a w)(n:Nat):
 aV G φ m σ a { w with drawn:=n }:=
 hC.imm (Mem.le_refl m) ⟨rfl,rfl,rfl,Nat.le_refl _⟩ (fun _ _=>rfl) (fun _ _ _ h=>.inl h)
def bZ(w:World)(g:Nat)(o:Obj):World:={ w with heap:=w.heap.setIfInBounds g o }
theorem mK{w:World}{g:Nat}{o:Obj}(h:g<w.heap.size):(bZ w g o).heap[g]?=some o:=by
 simp[bZ,h]
theorem nW{w:World}{g b:Nat}{o:Obj}(h:b≠g):(bZ w g o).heap[b]?=w.heap[b]?:=by
 simp only[bZ]
 exact Array.getElem?_setIfInBounds_ne (fun e=>h e.symm)
theorem I9{w:World}{g:Nat}{o:Obj}:(bZ w g o).heap.size=w.heap.size:=by simp[bZ]
theorem Dz{w:World}{g:Nat}{o o':Obj}:bZ (bZ w g o) g o'=bZ w g o':=by
 simp[bZ,Array.setIfInBounds_setIfInBounds]
theorem JX{w:World}{g off:Nat}{us:Array Value}{T:TypeId}{f:Nat×Nat}(h:w.heap[g]?=some (.cells us T f))(v:Value):
 w.setCell ⟨g,off,none⟩ v=bZ w g (.cells (us.setIfInBounds off v) T f):=by
 have hg:g<w.heap.size:=(Array.getElem?_eq_some_iff.1 h).1
 have he:w.heap[g]=.cells us T f:=by rw[Array.getElem?_eq_getElem hg]at h;simpa using h
 simp only[World.setCell,bZ]
 congr 1
 apply Array.ext_getElem?
 intro i
 rw[Array.getElem?_modify]
 by_cases hi:g=i
 ·subst hi
  rw[if_pos rfl,h]
  simp[hg]
 ·rw[if_neg hi,Array.getElem?_setIfInBounds_ne hi]
theorem nG(b o j:Nat):(⟨b,o,none⟩:Addr).add j=⟨b,o+j,none⟩:=by
 unfold Addr.add;split<;>simp_all
theorem ab'{w:World}{g off:Nat}{us:Array Value}{T:TypeId}{f:Nat×Nat}(h:w.heap[g]?=some (.cells us T f))(hf:f.1=f.2):
 w.frozen? ⟨g,off,none⟩=false:=by
 obtain⟨lo,hi⟩:=f
 simp only at hf
 subst hf
 simp[World.frozen?,h]
theorem pK{w:World}{g off:Nat}{us:Array Value}{T:TypeId}{f:Nat×Nat}(h:w.heap[g]?=some (.cells us T f)):
 w.cell? ⟨g,off,none⟩=us[off]?:=by
 simp[World.cell?,h]
theorem xJ(P:Program)(g o:Nat)(T:TypeId)(f:Nat×Nat)(hf:f.1=f.2):∀ (vs:List Value) (i:Nat) (us:Array Value) (w:World),
 w.heap[g]?=some (.cells us T f)->o+i+vs.length<=us.size->(∀ v∈vs,gN v=true)->
 ∃ bK:Array Value,bK.size=us.size/\(∀ k,bK[k]?=if o+i<=k/\k<o+i+vs.length then vs[k-(o+i)]? else us[k]?)/\
   (storeCells ⟨g,o,none⟩ vs i).run P w=.ok () (bZ w g (.cells bK T f))
 |[],i,us,w,hg,_,_=>by
  refine⟨us,rfl,fun k=>?_,?_⟩
  ·rw[if_neg];simp only[List.length_nil];omega
  ·have:bZ w g (.cells us T f)=w:=by
     simp only[bZ]
     congr 1
     apply Array.ext_getElem?
     intro j
     by_cases hj:g=j
     ·subst hj;rw[hg];simp[(Array.getElem?_eq_some_iff.1 hg).1]
     ·rw[Array.getElem?_setIfInBounds_ne hj]
   simp[storeCells,this]
 |v::rest,i,us,w,hg,hl,ho=>by
  have wC:g<w.heap.size:=(Array.getElem?_eq_some_iff.1 hg).1
  have hi:o+i<us.size:=by simp at hl;omega
  have h1:(store (Addr.add ⟨g,o,none⟩ i) v).run P w=.ok () (bZ w g (.cells (us.setIfInBounds (o+i) v) T f)):=by
   rw[nG,run_store P w _ v .plain (by have:=ho v (by simp);cases v<;>simp_all[gN,Value.oneCell'])]
   rw[pK hg,Array.getElem?_eq_getElem hi,ab' hg hf,JX hg]
   rfl
  obtain⟨bK,hs,hk,hr⟩:=xJ P g o T f hf rest (i+1) (us.setIfInBounds (o+i) v) (bZ w g (.cells (us.setIfInBounds (o+i) v) T f))
   (mK wC) (by simp at hl |-;omega) (fun x hx=>ho x (by simp[hx]))
  refine⟨bK,by simpa using hs,fun k=>?_,?_⟩
  ·rw[hk k]
   by_cases BS:o+i=k
   ·subst BS
    rw[if_neg (by omega),if_pos (by simp)]
    simp[hi]
   ·rw[Array.getElem?_setIfInBounds_ne BS]
    by_cases lz:o+(i+1)<=k/\k<o+(i+1)+rest.length
    ·rw[if_pos lz,if_pos (by simp;omega)]
     have :k-(o+i)=(k-(o+(i+1)))+1:=by omega
     rw[this,List.getElem?_cons_succ]
    ·rw[if_neg lz,if_neg (by simp;omega)]
  ·simp only[storeCells,Sem.run_bind,h1,Result.andThen_ok,hr,Dz]
theorem VO(P:Program)(w:World)(b o n:Nat)(f:Nat->Value)(h:∀ j,j<n->w.cell? ⟨b,o+j,none⟩=some (f j)):
 (loadCells ⟨b,o,none⟩ n).run P w=.ok ((List.range n).map f).toArray w:=
 run_loadCells w ⟨b,o,none⟩ n f fun j hj=>by rw[nG];exact h j hj
def aab:TypeDesc->Bool
 | .struct _ | .array _ _=>true
 |_=>false
def bf(P:Program)(t:TypeId):Option (Bool×Nat):=
 match P.underlying t,P.info? t with
 |some d,some i=>some (aab d,i.size)
 |_,_=>none
def bp(P:Program)(t:TypeId):Option Value:=(P.info? t).bind (·.zero)
def cC(P:Program)(t:TypeId):Option (TypeId×Nat×Nat):=
 match P.underlying t with
 |some (.slice e)=>(P.info? e).map fun i=>(e,i.size,i.bytes)
 |_=>none
def b9(P:Program)(t:TypeId)(f:Nat):Option (Nat×Nat×Bool):=
 match P.underlying t with
 |some (.struct fs)=>(fs[f]?).bind fun x=>(bf P x.type).map fun y=>(x.offset,y.2,y.1)
 |_=>none
def ku(P:Program)(t:TypeId):Option (Nat×Nat×Bool):=
 match P.underlying t with
 |some (.array n e)=>(bf P e).map fun y=>(n,y.2,y.1)
 |_=>none
def n9(P:Program)(t:TypeId):Option IntKind:=
 match P.underlying t with
 |some (.int k)=>some k
 |_=>none
theorem Kg{P:Program}{t:TypeId}{b:Bool}{n:Nat}(h:bf P t=some (b,n))(w:World):(isAgg t).run P w=.ok b w:=by
 unfold bf at h
 split at h
 ·rename_i d i h1 h2
  simp only[Option.some.injEq,Prod.mk.injEq]at h
  unfold isAgg
  rw[Sem.run_bind,run_underlying h1 w]
  simp only[Result.andThen_ok]
  cases d<;>(rw[<-h.1];rfl)
 ·cases h
theorem vG{P:Program}{t:TypeId}{b:Bool}{n:Nat}(h:bf P t=some (b,n))(w:World):(sizeOf t).run P w=.ok n w:=by
 unfold bf at h
 split at h
 ·rename_i d i h1 h2
  simp only[Option.some.injEq,Prod.mk.injEq]at h
  simp[sizeOf,typeInfo,h2,h.2]
 ·cases h
theorem VN{P:Program}{t:TypeId}{b:Bool}{n:Nat}(h:bf P t=some (b,n)){w:World}{blk off:Nat}(f:Nat->Value)
 (hn:b=false->0<n) (hc:∀ j,j<n->w.cell? ⟨blk,off+j,none⟩=some (f j)):
 (loadVar t ⟨blk,off,none⟩).run P w=.ok (if b then .agg ((List.range n).map f).toArray else f 0) w:=by
 simp only[loadVar,Sem.run_bind,Kg h,Result.andThen_ok,Sem.run_ite,vG h,VO P w blk off n f hc,Sem.run_pure,run_load]
 cases b
 ·have:=hc 0 (hn rfl)
  simp at this
  simp[this]
 ·simp
theorem Ke{P:Program}{t:TypeId}{b:Bool}{n:Nat}(h:bf P t=some (b,n)){w:World}{g o:Nat}{us:Array Value}{T:TypeId}{f:Nat×Nat}
 (hf:f.1=f.2) (hg:w.heap[g]?=some (.cells us T f)) (v:Value) (hv:v.cells.size=n) (hl:o+n<=us.size) (ho:∀ c∈v.cells.toList,gN c=true):
 ∃ bK:Array Value,bK.size=us.size/\(∀ k,bK[k]?=if o<=k/\k<o+n then v.cells.toList[k-o]? else us[k]?)/\
   (storeVar t ⟨g,o,none⟩ v).run P w=.ok () (bZ w g (.cells bK T f)):=by
 obtain⟨bK,h1,h2,h3⟩:=xJ P g o T f hf v.cells.toList 0 us w hg (by simp[hv];omega) ho
 refine⟨bK,h1,fun k=>?_,?_⟩
 ·have:=h2 k
  simp only[Nat.add_zero,Array.length_toList,hv]at this
  exact this
 ·simp only[storeVar,Sem.run_bind,vG h,Result.andThen_ok,Sem.run_ite,hv,h3]
  simp
theorem jB{α:Type}{l:List α}{i:Nat}(h:i<l.length)(z:α):l.getD i z=l[i]:=by
 simp[List.getD,List.getElem?_eq_getElem h]
structure R where
 ok:Prop
 d:D
 obj:Name->Option O
def R.bad(obj:Name->Option O):R:=⟨False,.any,obj⟩
def vP:Value->D
 | .int k n=>.v (.int k n)
 | .bool b=>.v (.bool b)
 | .pointer none=>.v .nilp
 | .slice none 0 0=>.nilsl
 | .map none=>.nilmap
 | .nilFunc=>.v .nilfn
 | .string s=>if s.size<=maxLen then .v (.str s)else .any
 |_=>.any
def jV:Value->D
 | .agg cs=>if (cs.toList.map vP).all D.one=true then .agg (cs.toList.map vP)else .any
 |v=>vP v
theorem Ly{φ:Name->Loc}{obj:Name->Option O}{m:Mem}(u:Value):aI φ obj m (vP u) u:=by
 unfold vP
 split
 ·exact .v _ _ (.int _ _)
 ·exact .v _ _ (.bool _)
 ·exact .v _ _ .nilp
 ·exact .nilsl none
 ·exact .nilmap
 ·exact .v _ _ .nilfn
 ·split
  ·exact .v _ _ (.str _ (by assumption))
  ·exact .any _
 ·exact .any _
theorem vN{φ:Name->Loc}{obj:Name->Option O}{m:Mem}(u:Value):aI φ obj m (jV u) u:=by
 unfold jV
 split
 ·split
  ·rename_i cs h
   refine .agg _ _ (by simp) (fun d hd=>List.all_eq_true.1 h d hd) fun i h1 h2=>?_
   simp only[List.getElem_map,Array.getElem_toList]
   exact Ly _
  ·exact .any _
 ·exact Ly _
def uU:D->Option V
 | .v x=>some x
 | .nilsl=>some (.sl [])
 |_=>none
def xd:List D->Option (List V)
 |[]=>some []
 |d::r=>match uU d,xd r with
  |some x,some xs=>some (x::xs)
  |_,_=>none
def eX:D->Option V
 | .v x=>some x
 | .nilsl=>some (.sl [])
 | .agg l=>(xd l).map .agg
 |_=>none
theorem adJ{φ:Name->Loc}{obj:Name->Option O}{m:Mem}{d:D}{u:Value}{x:V}(h:aI φ obj m d u)(hx:uU d=some x):aU m x u:=by
 cases h<;>simp[uU]at hx
 ·subst hx;assumption
 ·subst hx;exact .slnil _ _
theorem adK{d:D}{x:V}(hx:uU d=some x)(hd:d.one=true):x.one=true:=by
 cases d<;>simp[uU]at hx
 ·subst hx;exact hd
 ·subst hx;rfl
theorem Si:∀ {l:List D} {xs:List V},xd l=some xs->xs.length=l.length/\∀ i (h:i<l.length) (h':i<xs.length),uU l[i]=some xs[i]
 |[],xs,h=>by simp[xd]at h;subst h;simp
 |d::r,xs,h=>by
  simp only[xd]at h
  split at h
  ·rename_i x ys h1 h2
   simp only[Option.some.injEq]at h
   subst h
   obtain⟨h3,h4⟩:=Si h2
   refine⟨by simp[h3],fun i hi bP=>?_⟩
   cases i with
   |zero=>simpa using h1
   |succ i=>simpa using h4 i (by simpa using hi) (by simpa using bP)
  ·cases h
theorem pM{φ:Name->Loc}{obj:Name->Option O}{m:Mem}{d:D}{u:Value}{x:V}(h:aI φ obj m d u)(hx:eX d=some x):aU m x u:=by
 cases h with
 |agg l us hl ho hr=>
  simp only[eX,Option.map_eq_some_iff]at hx
  obtain⟨xs,h1,h2⟩:=hx
  subst h2
  obtain⟨h3,h4⟩:=Si h1
  refine .agg xs us (h3.trans hl) (fun y hy=>?_) fun i h5 h6=>adJ (hr i (by omega) h6) (h4 i (by omega) h5)
  obtain⟨i,hi,rfl⟩:=List.mem_iff_getElem.1 hy
  exact adK (h4 i (by omega) hi) (ho _ (List.getElem_mem _))
 |v y u h=>simp[eX]at hx;subst hx;exact h
 |nilsl a=>simp[eX]at hx;subst hx;exact .slnil _ _
 |_=>simp[eX]at hx
def km(P:Program)(obj:Name->Option O)(T:TypeId)(x:D):R:=
 match bf P T,x with
 |some (true,n),.v (.ptr cs)=>⟨n<=cs.length,.v (.agg (cs.take n)),obj⟩
 |some (false,1),.v (.ptr cs)=>⟨0<cs.length,.v (cs.getD 0 default),obj⟩
 |some (true,n),.ref nm off=>match obj nm with
  |some (.box cs)=>⟨off+n<=cs.length,.agg ((cs.drop off).take n),obj⟩
  |some (.fbox cs)=>⟨off+n<=cs.length,.v (.agg ((cs.drop off).take n)),obj⟩
  |_=>.bad obj
 |some (false,1),.ref nm off=>match obj nm with
  |some (.box cs)=>⟨off<cs.length,cs.getD off .any,obj⟩
  |some (.fbox cs)=>⟨off<cs.length,.v (cs.getD off default),obj⟩
  |_=>.bad obj
 |some (true,n),.aref nm k i off=>match obj nm with
  |some (.arr _ l) | some (.farr _ l)=>⟨k=l.length/\i<l.length/\off+n<=(l.getD i default).cells.length,.v (.agg (((l.getD i default).cells.drop off).take n)),obj⟩
  |_=>.bad obj
 |some (false,1),.aref nm k i off=>match obj nm with
  |some (.arr _ l) | some (.farr _ l)=>⟨k=l.length/\i<l.length/\off<(l.getD i default).cells.length,.v ((l.getD i default).cells.getD off default),obj⟩
  |_=>.bad obj
 |_,_=>.bad obj
theorem Fb{P:Program}{φ:Name->Loc}{obj:Name->Option O}{m:Mem}{T:TypeId}{ag:Bool}{n:Nat}(hT:bf P T=some (ag,n))(hn:ag=false->n=1)
 {w:World} {b o:Nat} (ds:List D) (nl:n<=ds.length) (ho:∀ d∈ds,d.one=true)
 (hc:∀ j (h:j<ds.length),∃ c,w.cell? ⟨b,o+j,none⟩=some c/\aI φ obj m ds[j] c):
 ∃ v,(loadVar T ⟨b,o,none⟩).run P w=.ok v w/\aI φ obj m (if ag then .agg (ds.take n)else ds.getD 0 .any) v:=by
 refine⟨_,VN hT (fun j=>(w.cell? ⟨b,o+j,none⟩).getD undef) (fun h=>by rw[hn h];omega) (fun j hj=>?_),?_⟩
 ·obtain⟨c,h1,h2⟩:=hc j (by omega);simp[h1]
 ·cases ag with
  |true=>
   simp only[if_true]
   refine .agg _ _ (by simp;omega) (fun d hd=>ho d (List.mem_of_mem_take hd)) fun i h1 h2=>?_
   simp only[List.length_take]at h1
   obtain⟨c,h3,h4⟩:=hc i (by omega)
   simp only[List.getElem_take,List.getElem_toArray,List.getElem_map,List.getElem_range,h3,Option.getD_some]
   exact h4
  |false=>
   have :=hn rfl
   obtain⟨c,h3,h4⟩:=hc 0 (by omega)
   simp only[Nat.add_zero]at h3
   simp only[Bool.false_eq_true,if_false,Nat.add_zero,h3,Option.getD_some]
   rw[jB (by omega)]
   exact h4
theorem vZ{P:Program}{φ:Name->Loc}{obj:Name->Option O}{m:Mem}{T:TypeId}{ag:Bool}{n:Nat}(hT:bf P T=some (ag,n))(hn:ag=false->n=1)
 {w:World} {b o:Nat} (xs:List V) (nl:n<=xs.length) (ho:∀ d∈xs,d.one=true)
 (hc:∀ j (h:j<xs.length),∃ c,w.cell? ⟨b,o+j,none⟩=some c/\aU m xs[j] c):
 ∃ v,(loadVar T ⟨b,o,none⟩).run P w=.ok v w/\aI φ obj m (.v (if ag then .agg (xs.take n)else xs.getD 0 default)) v:=by
 obtain⟨v,h1,h2⟩:=Fb (φ:=φ) (obj:=obj) (m:=m) hT hn (w:=w) (b:=b) (o:=o) (xs.map .v) (by simpa using nl) (by intro d hd;obtain⟨x,hx,rfl⟩:=List.mem_map.1 hd;exact ho x hx)
  (fun j h=>by
    obtain⟨c,h1,h2⟩:=hc j (by simpa using h)
    exact⟨c,h1,by simpa using .v _ _ h2⟩)
 refine⟨v,h1,?_⟩
 cases ag with
 |true=>
  simp only[if_true]at h2 |-
  cases h2 with
  |agg l us hl dk hr=>
   refine .v _ _ (.agg _ _ (by simpa using hl) (fun x hx=>ho x (List.mem_of_mem_take hx)) fun i h3 h4=>?_)
   have :=hr i (by simpa using h3) h4
   simp only[List.getElem_take,List.getElem_map]at this
   cases this with
   |v _ _ h=>simpa using h
 |false=>
  have :=hn rfl
  simp only[Bool.false_eq_true,if_false]at h2 |-
  rw[jB (by simp;omega)]at h2
  simp only[List.getElem_map]at h2
  rw[jB (by omega)]
  exact h2
theorem HJ{α:Type}(l:List α)(n:Nat)(z:α):(l.drop n).getD 0 z=l.getD n z:=by
 simp[List.getD,List.getElem?_drop]
theorem abp{α:Type}(l:List α)(z:α):l.headD z=l.getD 0 z:=by cases l<;>rfl
theorem J0{P:Program}{G:Ghost}{φ:Name->Loc}{m:Mem}{σ:S}{a:Act}{w:World}(hC:aV G φ m σ a w){T:TypeId}{x:D}{u:Value}
 (hx:aI φ σ.obj m x u) (aa:(km P σ.obj T x).ok):
 ∃ v,(Instr.loadAt T u).run P w=.ok v w/\aI φ σ.obj m (km P σ.obj T x).d v/\(km P σ.obj T x).obj=σ.obj:=by
 have jv:∀ {b off:Nat} {c:Value},m b off=some c->w.cell? ⟨b,off,none⟩=some c:=fun h=>hC.mem _ _ _ h
 have ja:∀ (nm:Name) (o:O) (s:Nat) (l:List V),(o=.arr s l\/o=.farr s l)->σ.obj nm=some o->∀ i,(hi:i<l.length)->
     (∀ y∈l[i].cells,y.one=true)/\∀ j (h:j<l[i].cells.length),∃ c,w.cell? ⟨(φ nm).blk,(φ nm).off+i*s+j,none⟩=some c/\aU m l[i].cells[j] c:=by
  intro nm o s l ho aD i hi
  have h:=hC.objs nm o aD
  rcases ho with rfl | rfl
  ·rcases h with⟨_,h⟩ | ⟨h0,h1,h2,h3,h4,us,T,f,h5,h6,h7,h8⟩
   ·subst h;simp at hi
   ·exact⟨h4 i hi,fun j hj=>let ⟨c,h9,uB⟩:=h8 i j hi hj;⟨c,by rw[pK h5];exact h9,uB⟩⟩
  ·rcases h with⟨_,h⟩ | ⟨h0,h1,h2,h3,h4⟩
   ·subst h;simp at hi
   ·exact⟨h3 i hi,fun j hj=>let ⟨c,h9,uB⟩:=h4 i j hi hj;⟨c,jv h9,uB⟩⟩
 have PX:∀ (nm:Name) (cs:List D),σ.obj nm=some (.box cs)->(∀ d∈cs,d.one=true)/\
     ∀ j (h:j<cs.length),∃ c,w.cell? ⟨(φ nm).blk,(φ nm).off+j,none⟩=some c/\aI φ σ.obj m cs[j] c:=by
  intro nm cs aD
  obtain⟨h0,h1,fZ,us,T,f,h2,h3,h4,h5⟩:=hC.objs nm _ aD
  refine⟨fZ,fun j hj=>⟨us[j],?_,h5 j hj (by omega)⟩⟩
  rw[pK h2,h0,Nat.zero_add]
  exact Array.getElem?_eq_getElem (by omega)
 have PE:∀ (nm:Name) (cs:List V),σ.obj nm=some (.fbox cs)->(∀ d∈cs,d.one=true)/\
     ∀ j (h:j<cs.length),∃ c,w.cell? ⟨(φ nm).blk,(φ nm).off+j,none⟩=some c/\aU m cs[j] c:=by
  intro nm cs aD
  obtain⟨h0,h1⟩:=hC.objs nm _ aD
  exact⟨h0,fun j hj=>let ⟨c,h2,h3⟩:=h1 j hj;⟨c,jv h2,h3⟩⟩
 unfold km at aa |-
 split at aa
 ·rename_i n cs hT
  cases hx with
  |v _ _ hx=>
  cases hx with
  |ptr _ b o c ho hc hr=>
  obtain⟨v,h1,h2⟩:=vZ (φ:=φ) (obj:=σ.obj) (m:=m) hT (by simp) (w:=w) (b:=b) (o:=o) cs aa ho (fun j h=>⟨c j,jv (hc j h),hr j h⟩)
  refine⟨v,?_,by simpa[hT]using h2,by simp[hT]⟩
  simpa[Instr.loadAt,Instr.sureAddr]using h1
 ·rename_i cs hT
  cases hx with
  |v _ _ hx=>
  cases hx with
  |ptr _ b o c ho hc hr=>
  obtain⟨v,h1,h2⟩:=vZ (φ:=φ) (obj:=σ.obj) (m:=m) hT (by simp) (w:=w) (b:=b) (o:=o) cs aa ho (fun j h=>⟨c j,jv (hc j h),hr j h⟩)
  refine⟨v,?_,by simpa[hT,abp]using h2,by simp[hT]⟩
  simpa[Instr.loadAt,Instr.sureAddr]using h1
 ·rename_i n nm off hT
  cases hx with
  |ref _ _ hx=>
  split at aa
  ·rename_i cs aD
   obtain⟨oT,mq⟩:=PX nm cs aD
   obtain⟨v,h1,h2⟩:=Fb (φ:=φ) (obj:=σ.obj) (m:=m) hT (by simp) (w:=w) (b:=(φ nm).blk) (o:=(φ nm).off+off) (cs.drop off)
    (by simp only[List.length_drop];have:off+n<=cs.length:=aa;omega) (fun d hd=>oT d (List.mem_of_mem_drop hd))
    (fun j h=>by
      simp only[List.length_drop]at h
      obtain⟨c,h3,h4⟩:=mq (off+j) (by omega)
      refine⟨c,by rw[Nat.add_assoc];exact h3,by simpa using h4⟩)
   refine⟨v,?_,by simpa[hT,aD]using h2,by simp[hT,aD]⟩
   simpa[Instr.loadAt,Instr.sureAddr]using h1
  ·rename_i cs aD
   obtain⟨oT,mq⟩:=PE nm cs aD
   obtain⟨v,h1,h2⟩:=vZ (φ:=φ) (obj:=σ.obj) (m:=m) hT (by simp) (w:=w) (b:=(φ nm).blk) (o:=(φ nm).off+off) (cs.drop off)
    (by simp only[List.length_drop];have:off+n<=cs.length:=aa;omega) (fun d hd=>oT d (List.mem_of_mem_drop hd))
    (fun j h=>by
      simp only[List.length_drop]at h
      obtain⟨c,h3,h4⟩:=mq (off+j) (by omega)
      refine⟨c,by rw[Nat.add_assoc];exact h3,by simpa using h4⟩)
   refine⟨v,?_,by simpa[hT,aD]using h2,by simp[hT,aD]⟩
   simpa[Instr.loadAt,Instr.sureAddr]using h1
  ·exact aa.elim
 ·rename_i nm off hT
  cases hx with
  |ref _ _ hx=>
  split at aa
  ·rename_i cs aD
   obtain⟨oT,mq⟩:=PX nm cs aD
   obtain⟨v,h1,h2⟩:=Fb (φ:=φ) (obj:=σ.obj) (m:=m) hT (by simp) (w:=w) (b:=(φ nm).blk) (o:=(φ nm).off+off) (cs.drop off)
    (by simp only[List.length_drop];have:off<cs.length:=aa;omega) (fun d hd=>oT d (List.mem_of_mem_drop hd))
    (fun j h=>by
      simp only[List.length_drop]at h
      obtain⟨c,h3,h4⟩:=mq (off+j) (by omega)
      refine⟨c,by rw[Nat.add_assoc];exact h3,by simpa using h4⟩)
   rw[if_neg (by simp),HJ]at h2
   refine⟨v,?_,by simpa[hT,aD]using h2,by simp[hT,aD]⟩
   simpa[Instr.loadAt,Instr.sureAddr]using h1
  ·rename_i cs aD
   obtain⟨oT,mq⟩:=PE nm cs aD
   obtain⟨v,h1,h2⟩:=vZ (φ:=φ) (obj:=σ.obj) (m:=m) hT (by simp) (w:=w) (b:=(φ nm).blk) (o:=(φ nm).off+off) (cs.drop off)
    (by simp only[List.length_drop];have:off<cs.length:=aa;omega) (fun d hd=>oT d (List.mem_of_mem_drop hd))
    (fun j h=>by
      simp only[List.length_drop]at h
      obtain⟨c,h3,h4⟩:=mq (off+j) (by omega)
      refine⟨c,by rw[Nat.add_assoc];exact h3,by simpa using h4⟩)
   rw[if_neg (by simp),HJ]at h2
   refine⟨v,?_,by simpa[hT,aD]using h2,by simp[hT,aD]⟩
   simpa[Instr.loadAt,Instr.sureAddr]using h1
  ·exact aa.elim
 ·rename_i n nm k i off hT
  cases hx with
  |aref _ _ _ _ _ hx hu=>
  obtain⟨o,k',aD,hlen,hk,cV⟩:=hx
  have main:∀ s l,(o=.arr s l\/o=.farr s l)->(k=l.length/\i<l.length/\off+n<=(l.getD i default).cells.length)->
      ∃ v,(Instr.loadAt T u).run P w=.ok v w/\aI φ σ.obj m (.v (.agg (((l.getD i default).cells.drop off).take n))) v:=by
   rintro s l ho ⟨BS,hi,F8⟩
   have BR:k'=l.length:=by rcases ho with rfl | rfl<;>simpa[O.len?]using hlen.symm
   have ef:o.sz=s:=by rcases ho with rfl | rfl<;>rfl
   obtain⟨wI,ze⟩:=ja nm o s l ho aD i hi
   have e:=cV (by omega)
   subst e
   rw[ef]
   rw[jB hi]at F8 |-
   obtain⟨v,h1,h2⟩:=vZ (φ:=φ) (obj:=σ.obj) (m:=m) hT (by simp) (w:=w) (b:=(φ nm).blk) (o:=(φ nm).off+i*s+off) (l[i].cells.drop off)
    (by simp only[List.length_drop];omega) (fun d hd=>wI d (List.mem_of_mem_drop hd))
    (fun j h=>by
      simp only[List.length_drop]at h
      obtain⟨c,h3,h4⟩:=ze (off+j) (by omega)
      refine⟨c,by rw[Nat.add_assoc];exact h3,by simpa using h4⟩)
   exact⟨v,by simpa[Instr.loadAt,Instr.sureAddr]using h1,by simpa using h2⟩
  split at aa
  ·rename_i s l dB
   rw[aD]at dB;cases dB
   obtain⟨v,h1,h2⟩:=main s l (.inl rfl) aa
   exact⟨v,h1,by simpa[hT,aD]using h2,by simp[hT,aD]⟩
  ·rename_i s l dB
   rw[aD]at dB;cases dB
   obtain⟨v,h1,h2⟩:=main s l (.inr rfl) aa
   exact⟨v,h1,by simpa[hT,aD]using h2,by simp[hT,aD]⟩
  ·exact aa.elim
 ·rename_i nm k i off hT
  cases hx with
  |aref _ _ _ _ _ hx hu=>
  obtain⟨o,k',aD,hlen,hk,cV⟩:=hx
  have main:∀ s l,(o=.arr s l\/o=.farr s l)->(k=l.length/\i<l.length/\off<(l.getD i default).cells.length)->
      ∃ v,(Instr.loadAt T u).run P w=.ok v w/\aI φ σ.obj m (.v ((l.getD i default).cells.getD off default)) v:=by
   rintro s l ho ⟨BS,hi,F8⟩
   have BR:k'=l.length:=by rcases ho with rfl | rfl<;>simpa[O.len?]using hlen.symm
   have ef:o.sz=s:=by rcases ho with rfl | rfl<;>rfl
   obtain⟨wI,ze⟩:=ja nm o s l ho aD i hi
   have e:=cV (by omega)
   subst e
   rw[ef]
   rw[jB hi]at F8 |-
   obtain⟨v,h1,h2⟩:=vZ (φ:=φ) (obj:=σ.obj) (m:=m) hT (by simp) (w:=w) (b:=(φ nm).blk) (o:=(φ nm).off+i*s+off) (l[i].cells.drop off)
    (by simp only[List.length_drop];omega) (fun d hd=>wI d (List.mem_of_mem_drop hd))
    (fun j h=>by
      simp only[List.length_drop]at h
      obtain⟨c,h3,h4⟩:=ze (off+j) (by omega)
      refine⟨c,by rw[Nat.add_assoc];exact h3,by simpa using h4⟩)
   rw[if_neg (by simp),HJ]at h2
   exact⟨v,by simpa[Instr.loadAt,Instr.sureAddr]using h1,h2⟩
  split at aa
  ·rename_i s l dB
   rw[aD]at dB;cases dB
   obtain⟨v,h1,h2⟩:=main s l (.inl rfl) aa
   exact⟨v,h1,by simpa[hT,aD]using h2,by simp[hT,aD]⟩
  ·rename_i s l dB
   rw[aD]at dB;cases dB
   obtain⟨v,h1,h2⟩:=main s l (.inr rfl) aa
   exact⟨v,h1,by simpa[hT,aD]using h2,by simp[hT,aD]⟩
  ·exact aa.elim
 ·exact aa.elim
def mH(P:Program)(obj:Name->Option O)(T:TypeId)(f:Nat)(x:D):R:=
 match b9 P T f,x with
 |some (off,n,_),.v (.ptr cs)=>⟨n≠0/\off+n<=cs.length,.v (.ptr ((cs.drop off).take n)),obj⟩
 |some (off,n,_),.ref nm o=>⟨n≠0,.ref nm (o+off),obj⟩
 |some (off,n,_),.aref nm k i o=>⟨n≠0/\(obj nm).bind O.len?=some k,.aref nm k i (o+off),obj⟩
 |_,_=>.bad obj
theorem Hv{P:Program}{T:TypeId}{f:Nat}{off n:Nat}{ag:Bool}(h:b9 P T f=some (off,n,ag))(hn:n≠0)(w:World)(b o:Nat):
 (Instr.fieldAt T (.pointer (some ⟨b,o,none⟩)) f).run P w=.ok (.pointer (some ⟨b,o+off,none⟩)) w:=by
 unfold b9 at h
 split at h
 ·rename_i fs hu
  cases hf:fs[f]? with
  |none=>simp[hf]at h
  |some x=>
   simp only[hf,Option.bind_some,Option.map_eq_some_iff,Prod.mk.injEq]at h
   obtain⟨y,h1,h2,h3,h4⟩:=h
   have hs:=vG (P:=P) (t:=x.type) (b:=y.1) (n:=y.2) h1 w
   have aH:y.2≠0:=by rw[h3];exact hn
   simp only[Instr.fieldAt,Sem.run_bind,run_underlying hu w,Result.andThen_ok,hf,Sem.run_pure,Instr.sureAddr,fieldPlace,hs,Sem.run_ite,aH,if_false,nG,h2]
 ·cases h
theorem Ux{P:Program}{φ:Name->Loc}{obj:Name->Option O}{m:Mem}{T:TypeId}{f:Nat}{x:D}{u:Value}(w:World)
 (hx:aI φ obj m x u) (aa:(mH P obj T f x).ok):
 ∃ v,(Instr.fieldAt T u f).run P w=.ok v w/\aI φ obj m (mH P obj T f x).d v/\(mH P obj T f x).obj=obj:=by
 unfold mH at aa |-
 split at aa
 ·rename_i off n ag cs hT
  cases hx with
  |v _ _ hx=>
  cases hx with
  |ptr _ b o c ho hc hr=>
  obtain⟨h1,h2⟩:=aa
  refine⟨_,Hv hT h1 w b o,?_,rfl⟩
  refine .v _ _ (.ptr _ b (o+off) (fun j=>c (off+j)) (fun y hy=>ho y (List.mem_of_mem_drop (List.mem_of_mem_take hy))) (fun j hj=>?_) fun j hj=>?_)
  ·simp only[List.length_take,List.length_drop]at hj
   rw[Nat.add_assoc];exact hc _ (by omega)
  ·simp only[List.length_take,List.length_drop]at hj
   simp only[List.getElem_take,List.getElem_drop]
   exact hr _ (by omega)
 ·rename_i off n ag nm o hT
  cases hx with
  |ref _ _ hx=>
  refine⟨_,Hv hT aa w _ _,?_,rfl⟩
  have :=aI.ref (φ:=φ) (m:=m) nm (o+off) hx
  rwa [<-Nat.add_assoc]at this
 ·rename_i off n ag nm k i o hT
  cases hx with
  |aref _ _ _ _ _ hx hu=>
  obtain⟨o',k',aD,hlen,hk,cV⟩:=hx
  obtain⟨h1,h2⟩:=aa
  simp only[aD,Option.bind_some,hlen,Option.some.injEq]at h2
  have e:=cV h2.symm
  subst e
  refine⟨_,Hv hT h1 w _ _,.aref _ _ _ _ _ ⟨o',k',aD,hlen,hk,fun _=>by rw[Nat.add_assoc]⟩ rfl,rfl⟩
 ·exact aa.elim
def mG(P:Program)(obj:Name->Option O)(T:TypeId)(x i:D):R:=
 match x,i with
 | .v (.sl l),.v (.int _ n)=>match cC P T with
   |some (_,sz,_)=>⟨0<=n/\n<l.length/\(l.getD n.toNat default).cells.length=sz,.v (.ptr (l.getD n.toNat default).cells),obj⟩
   |_=>.bad obj
 | .msl nm k,.v (.int _ n)=>match cC P T,obj nm with
   |some (_,sz,_),some (.arr s l)=>⟨0<=n/\n<l.length/\k=l.length/\s=sz,.aref nm k n.toNat 0,obj⟩
   |some (_,sz,_),some (.farr s l)=>⟨0<=n/\n<l.length/\k=l.length/\s=sz,.aref nm k n.toNat 0,obj⟩
   |_,_=>.bad obj
 | .ref nm off,.v (.int _ n)=>match ku P T with
   |some (len,sz,_)=>⟨0<=n/\n<len,.ref nm (off+n.toNat*sz),obj⟩
   |_=>.bad obj
 | .v (.ptr cs),.v (.int _ n)=>match ku P T with
   |some (len,sz,_)=>⟨0<=n/\n<len/\n.toNat*sz+sz<=cs.length,.v (.ptr ((cs.drop (n.toNat*sz)).take sz)),obj⟩
   |_=>.bad obj
 |_,_=>.bad obj
theorem jN{P:Program}{T e:TypeId}{sz by_:Nat}(h:cC P T=some (e,sz,by_)):
 P.underlying T=some (.slice e)/\∃ i,P.info? e=some i/\i.size=sz/\i.bytes=by_:=by
 unfold cC at h
 split at h
 ·rename_i e' hu
  simp only[Option.map_eq_some_iff,Prod.mk.injEq]at h
  obtain⟨i,h1,h2,h3,h4⟩:=h
  subst h2
  exact⟨hu,i,h1,h3,h4⟩
 ·cases h
theorem On{P:Program}{T e:TypeId}{sz by_:Nat}(h:cC P T=some (e,sz,by_))(w:World)(b o len cap:Nat)(k:IntKind)(n:Int)(h0:0<=n)(h1:n<len):
 (Instr.indexAt T (.slice (some ⟨b,o,none⟩) len cap) (.int k n)).run P w=.ok (.pointer (some ⟨b,o+n.toNat*sz,none⟩)) w:=by
 obtain⟨hu,i,hi,hs,_⟩:=jN h
 simp[Instr.indexAt,asIntOf,run_underlying hu w,h0,h1,sizeOf,typeInfo,hi,hs,nG]
theorem Oo{P:Program}{T:TypeId}{len sz:Nat}{ag:Bool}(h:ku P T=some (len,sz,ag))(w:World)(b o:Nat)(k:IntKind)(n:Int)(h0:0<=n)(h1:n<len):
 (Instr.indexAt T (.pointer (some ⟨b,o,none⟩)) (.int k n)).run P w=.ok (.pointer (some ⟨b,o+n.toNat*sz,none⟩)) w:=by
 unfold ku at h
 split at h
 ·rename_i n' e hu
  simp only[Option.map_eq_some_iff,Prod.mk.injEq]at h
  obtain⟨y,h2,h3,h4,h5⟩:=h
  subst h3
  have hs:=fun w=>vG (P:=P) (t:=e) (b:=y.1) (n:=y.2) h2 w
  simp[Instr.indexAt,asIntOf,run_underlying hu w,h0,h1,hs,nG,Instr.sureAddr,h4]
 ·cases h
theorem Uv{P:Program}{G:Ghost}{φ:Name->Loc}{m:Mem}{σ:S}{a:Act}{w:World}(hC:aV G φ m σ a w){T:TypeId}{x i:D}{u ui:Value}
 (hx:aI φ σ.obj m x u) (hi:aI φ σ.obj m i ui) (aa:(mG P σ.obj T x i).ok):
 ∃ v,(Instr.indexAt T u ui).run P w=.ok v w/\aI φ σ.obj m (mG P σ.obj T x i).d v/\(mG P σ.obj T x i).obj=σ.obj:=by
 unfold mG at aa |-
 split at aa
 ·rename_i l k n
  split at aa
  ·rename_i e sz by_ hT
   cases hi with
   |v _ _ hi=>
   cases hi
   obtain⟨h0,h1,h2⟩:=aa
   cases hx with
   |v _ _ hx=>
   cases hx with
   |slnil=>simp at h1;omega
   |sl _ b o cap mM c hn hl ka hs hc hr ho=>
   have ae:n.toNat<l.length:=by omega
   refine⟨_,On hT w b o _ cap k n h0 h1,?_,by simp[hT]⟩
   simp only[hT]
   rw[jB ae]at h2 |-
   have ef:mM=sz:=(hs _ ae).symm.trans h2
   subst ef
   exact .v _ _ (.ptr _ b (o+n.toNat*mM) (fun j=>c n.toNat j) (ho _ ae) (fun j hj=>hc _ _ ae (by rw[<-h2];exact hj)) fun j hj=>hr _ _ ae hj)
  ·exact aa.elim
 ·rename_i nm k ik n
  cases hi with
  |v _ _ hi=>
  cases hi
  have main:∀ e sz by_ s l o,cC P T=some (e,sz,by_)->σ.obj nm=some o->(o=.arr s l\/o=.farr s l)->(0<=n/\n<l.length/\k=l.length/\s=sz)->
      ∃ v,(Instr.indexAt T u (.int ik n)).run P w=.ok v w/\aI φ σ.obj m (.aref nm k n.toNat 0) v:=by
   rintro e sz by_ s l o hT aD F4 ⟨h0,h1,h2,h3⟩
   cases hx with
   |msl _ _ _ hx hu=>
   obtain⟨o',k',dB,hlen,hk,cV⟩:=hx
   rw[aD]at dB;cases dB
   have hl:k'=l.length:=by rcases F4 with rfl | rfl<;>simpa[O.len?]using hlen.symm
   have ef:o.sz=s:=by rcases F4 with rfl | rfl<;>rfl
   have e:=cV (by omega)
   subst e
   have dD:(φ nm).nul=false:=by
    have :=hC.objs nm o aD
    rcases F4 with rfl | rfl
    ·rcases this with⟨_,h⟩ | ⟨h,_⟩
     ·subst h;simp at h1;omega
     ·exact h
    ·rcases this with⟨_,h⟩ | ⟨h,_⟩
     ·subst h;simp at h1;omega
     ·exact h
   simp only[Loc.slice,dD,Bool.false_eq_true,if_false]
   refine⟨_,On hT w _ _ _ _ ik n h0 (by omega),.aref _ _ _ _ _ ⟨o,k',aD,hlen,hk,fun _=>?_⟩ rfl⟩
   rw[ef,h3,Nat.add_zero]
  split at aa
  ·rename_i e sz by_ s l hT aD
   obtain⟨v,h1,h2⟩:=main e sz by_ s l _ hT aD (.inl rfl) aa
   exact⟨v,h1,by simpa[hT,aD]using h2,by simp[hT,aD]⟩
  ·rename_i e sz by_ s l hT aD
   obtain⟨v,h1,h2⟩:=main e sz by_ s l _ hT aD (.inr rfl) aa
   exact⟨v,h1,by simpa[hT,aD]using h2,by simp[hT,aD]⟩
  ·exact aa.elim
 ·rename_i nm off k n
  split at aa
  ·rename_i len sz ag hT
   cases hi with
   |v _ _ hi=>
   cases hi
   cases hx with
   |ref _ _ hx=>
   obtain⟨h0,h1⟩:=aa
   refine⟨_,Oo hT w _ _ k n h0 h1,?_,by simp[hT]⟩
   simp only[hT]
   have :=aI.ref (φ:=φ) (m:=m) nm (off+n.toNat*sz) hx
   rwa [<-Nat.add_assoc]at this
  ·exact aa.elim
 ·rename_i cs k n
  split at aa
  ·rename_i len sz ag hT
   cases hi with
   |v _ _ hi=>
   cases hi
   cases hx with
   |v _ _ hx=>
   cases hx with
   |ptr _ b o c ho hc hr=>
   obtain⟨h0,h1,h2⟩:=aa
   refine⟨_,Oo hT w _ _ k n h0 h1,?_,by simp[hT]⟩
   simp only[hT]
   refine .v _ _ (.ptr _ b (o+n.toNat*sz) (fun j=>c (n.toNat*sz+j)) (fun y hy=>ho y (List.mem_of_mem_drop (List.mem_of_mem_take hy))) (fun j hj=>?_) fun j hj=>?_)
   ·simp only[List.length_take,List.length_drop]at hj
    rw[Nat.add_assoc];exact hc _ (by omega)
   ·simp only[List.length_take,List.length_drop]at hj
    simp only[List.getElem_take,List.getElem_drop]
    exact hr _ (by omega)
  ·exact aa.elim
 ·exact aa.elim
def zG(op:BinOp)(k:IntKind)(a b:Int):V:=
 match op with
 | .add=>.int k (k.wrap (a+b))
 | .sub=>.int k (k.wrap (a-b))
 | .mul=>.int k (k.wrap (a*b))
 | .quo=>.int k (k.wrap (a.tdiv b))
 | .rem=>.int k (a.tmod b)
 | .and=>.int k (k.wrap (BitVec.ofInt k.bits a&&& BitVec.ofInt k.bits b).toNat)
 | .or=>.int k (k.wrap (BitVec.ofInt k.bits a||| BitVec.ofInt k.bits b).toNat)
 | .xor=>.int k (k.wrap (BitVec.ofInt k.bits a ^^^ BitVec.ofInt k.bits b).toNat)
 | .andNot=>.int k (k.wrap (BitVec.ofInt k.bits a&&& ~~~(BitVec.ofInt k.bits b)).toNat)
 | .shl=>.int k (k.wrap (a*2 ^ (min b.toNat k.bits)))
 | .shr=>.int k (a.fdiv (2 ^ (min b.toNat k.bits)))
 | .eql=>.bool (a==b)
 | .neq=>.bool (a != b)
 | .lss=>.bool (decide (a<b))
 | .leq=>.bool (decide (a<=b))
 | .gtr=>.bool (decide (a>b))
 | .geq=>.bool (decide (a>=b))
def C2(op:BinOp)(k k':IntKind)(b:Int):Prop:=
 match op with
 | .quo=>k=k'/\b≠0
 | .rem=>k=k'/\b≠0
 | .shl=>0<=b
 | .shr=>0<=b
 |_=>k=k'
def xb(op:BinOp)(a b:ByteArray):V:=
 match op with
 | .add=>.str (a++b)
 | .eql=>.bool (a.toList==b.toList)
 | .neq=>.bool (!(a.toList==b.toList))
 | .lss=>.bool (Op.bytesLess a.toList b.toList)
 | .leq=>.bool (Op.bytesLess a.toList b.toList||a.toList==b.toList)
 | .gtr=>.bool (!(Op.bytesLess a.toList b.toList||a.toList==b.toList))
 | .geq=>.bool (!(Op.bytesLess a.toList b.toList))
 |_=>.nilp
def zC(op:BinOp)(a b:ByteArray):Prop:=
 match op with
 | .add=>a.size+b.size<=maxLen
 | .eql | .neq | .lss | .leq | .gtr | .geq=>True
 |_=>False
def o5(P:Program)(obj:Name->Option O)(op:BinOp)(T:TypeId)(x y:D):R:=
 match x,y with
 | .v (.int k a),.v (.int k' b)=>⟨C2 op k k' b,.v (zG op k a b),obj⟩
 | .v (.str a),.v (.str b)=>⟨zC op a b,.v (xb op a b),obj⟩
 | .v (.bool a),.v (.bool b)=>⟨P.underlying T=some .bool/\(op=.eql\/op=.neq),.v (.bool (if op=.eql then a==b else !(a==b))),obj⟩
 |_,_=>.bad obj
theorem run_equalIn_bool{P:Program}{T:TypeId}(hT:P.underlying T=some .bool)(d:Nat)(a b:Bool)(w:World):
 (Op.equalIn (d+1) T (.bool a) (.bool b)).run P w=.ok (a==b) w:=by
 simp[Op.equalIn,run_underlying hT w]
theorem run_equal_bool{P:Program}{T:TypeId}(hT:P.underlying T=some .bool)(a b:Bool)(w:World):
 (Op.equal T (.bool a) (.bool b)).run P w=.ok (a==b) w:=run_equalIn_bool hT 9999 a b w
theorem UG{P:Program}{φ:Name->Loc}{obj:Name->Option O}{m:Mem}{T:TypeId}{op:BinOp}{x y:D}{u v:Value}{cx cy:Operand}(w:World)
 (hx:aI φ obj m x u) (hy:aI φ obj m y v) (aa:(o5 P obj op T x y).ok):
 ∃ r,(do eqGuard op T cx cy u v;binOp op T u v:Sem Value).run P w=.ok r w/\aI φ obj m (o5 P obj op T x y).d r/\(o5 P obj op T x y).obj=obj:=by
 unfold o5 at aa |-
 split at aa
 ·rename_i k a k' b
  cases hx with
  |v _ _ hx=>
  cases hy with
  |v _ _ hy=>
  cases hx;cases hy
  refine⟨match zG op k a b with | .int k n=>.int k n | .bool b=>.bool b | _=>undef,?_,?_,rfl⟩
  ·cases op<;>simp only[C2]at aa<;>
     (first | (obtain⟨rfl,hb⟩:=aa) | (subst aa) | skip)<;>
     simp[eqGuard,binOp,Op.intArith,Op.intDiv,Op.intBits,Op.intCmp,Op.shift,zG, *]<;>(try omega)
  ·simp only
   cases op<;>simp only[zG]<;>first | exact .v _ _ (.int _ _) | exact .v _ _ (.bool _)
 ·rename_i a b
  cases hx with
  |v _ _ hx=>
  cases hy with
  |v _ _ hy=>
  cases hx with
  |str _ ha=>
  cases hy with
  |str _ hb=>
  refine⟨match xb op a b with | .str s=>.string s | .bool b=>.bool b | _=>undef,?_,?_,rfl⟩
  ·cases op<;>simp only[zC]at aa<;>first
     |exact aa.elim
     |(simp[eqGuard,binOp,Op.stringOp,xb];done)
     |(have:¬ ((a.size+b.size:Nat):Int)>IntKind.i64.max:=by
        have h9:IntKind.i64.max=9223372036854775807:=by decide
        unfold maxLen at aa
        rw[h9];omega
       simp only[eqGuard,binOp,Op.stringOp,xb,Sem.run_bind,Sem.run_ite,if_neg this]
       rfl)
  ·simp only
   cases op<;>simp only[zC]at aa<;>simp only[xb]<;>first
    |exact aa.elim
    |exact .v _ _ (.bool _)
    |(refine .v _ _ (.str _ ?_);simpa[ByteArray.size_append]using aa)
 ·rename_i a b
  cases hx with
  |v _ _ hx=>
  cases hy with
  |v _ _ hy=>
  cases hx;cases hy
  obtain⟨hT,ho⟩:=aa
  refine⟨.bool (if op=.eql then a==b else !(a==b)),?_,.v _ _ (.bool _),rfl⟩
  have e:=run_equal_bool (P:=P) hT a b w
  rcases ho with rfl | rfl
  ·have h1:binOp .eql T (.bool a) (.bool b)=(do pure (.bool (<-Op.equal T (.bool a) (.bool b)))):=rfl
   rw[h1]
   simp only[Sem.run_bind,eqGuard,Result.andThen_ok,Sem.run_pure]
   simp
   rw[e]
   simp
  ·have h1:binOp .neq T (.bool a) (.bool b)=(do pure (.bool (!(<-Op.equal T (.bool a) (.bool b))))):=rfl
   rw[h1]
   simp only[Sem.run_bind,eqGuard,Result.andThen_ok,Sem.run_pure]
   simp
   rw[e]
   simp
 ·exact aa.elim
def nH(obj:Name->Option O)(op:UnOp)(x:D):R:=
 match op,x with
 | .not,.v (.bool b)=>⟨True,.v (.bool (!b)),obj⟩
 | .neg,.v (.int k n)=>⟨True,.v (.int k (k.wrap (0-n))),obj⟩
 |_,_=>.bad obj
theorem Um{P:Program}{φ:Name->Loc}{obj:Name->Option O}{m:Mem}{op:UnOp}{x:D}{u:Value}(w:World)
 (hx:aI φ obj m x u) (aa:(nH obj op x).ok):
 ∃ r,(Op.unary op u).run P w=.ok r w/\aI φ obj m (nH obj op x).d r/\(nH obj op x).obj=obj:=by
 unfold nH at aa |-
 split at aa
 ·cases hx with
  |v _ _ hx=>cases hx;exact⟨_,rfl,.v _ _ (.bool _),rfl⟩
 ·cases hx with
  |v _ _ hx=>cases hx;exact⟨_,rfl,.v _ _ (.int _ _),rfl⟩
 ·exact aa.elim
def nM(P:Program)(obj:Name->Option O)(_src dst:TypeId)(x:D):R:=
 match n9 P dst,x with
 |some k,.v (.int _ n)=>⟨(P.underlying _src).isSome=true,.v (.int k (k.wrap n)),obj⟩
 |_,_=>.bad obj
theorem UB{P:Program}{φ:Name->Loc}{obj:Name->Option O}{m:Mem}{src dst:TypeId}{x:D}{u:Value}(w:World)
 (hx:aI φ obj m x u) (aa:(nM P obj src dst x).ok):
 ∃ r,(convert src dst u).run P w=.ok r w/\aI φ obj m (nM P obj src dst x).d r/\(nM P obj src dst x).obj=obj:=by
 unfold nM at aa |-
 split at aa
 ·rename_i k ik n hT
  cases hx with
  |v _ _ hx=>
  cases hx
  have hd:P.underlying dst=some (.int k):=by
   unfold n9 at hT
   split at hT
   ·simp only[Option.some.injEq]at hT;subst hT;assumption
   ·cases hT
  obtain⟨d,hs⟩:=Option.isSome_iff_exists.1 aa
  refine⟨.int k (k.wrap n),?_,by simpa[hT]using .v _ _ (.int _ _),by simp[hT]⟩
  simp[convert,run_underlying hd w,run_underlying hs w,Conv.intToInt]
 ·exact aa.elim
def nL(obj:Name->Option O)(x:D)(i:Nat):R:=
 match x with
 | .tup l=>⟨i<l.length,l.getD i .any,obj⟩
 | .v (.tup l)=>⟨i<l.length,.v (l.getD i default),obj⟩
 |_=>.bad obj
theorem Uz{P:Program}{φ:Name->Loc}{obj:Name->Option O}{m:Mem}{x:D}{i:Nat}{u:Value}(w:World)
 (hx:aI φ obj m x u) (aa:(nL obj x i).ok):
 ∃ r,(Instr.extract u i).run P w=.ok r w/\aI φ obj m (nL obj x i).d r/\(nL obj x i).obj=obj:=by
 unfold nL at aa |-
 split at aa
 ·rename_i l
  cases hx with
  |tup _ us hl hr=>
  have hi:i<l.length:=aa
  refine⟨us[i],?_,by rw[jB hi];exact hr i hi (by omega),rfl⟩
  simp[Instr.extract,Array.getElem?_eq_getElem (show i<us.size by omega)]
 ·rename_i l
  cases hx with
  |v _ _ hx=>
  cases hx with
  |tup _ us hl hr=>
  have hi:i<l.length:=aa
  refine⟨us[i],?_,by rw[jB hi];exact .v _ _ (hr i hi (by omega)),rfl⟩
  simp[Instr.extract,Array.getElem?_eq_getElem (show i<us.size by omega)]
 ·exact aa.elim
def lP(obj:Name->Option O)(x:D):R:=
 match x with
 | .ref _ _=>⟨True,x,obj⟩
 | .v (.ptr _)=>⟨True,x,obj⟩
 | .aref nm k _ _=>⟨(obj nm).bind O.len?=some k,x,obj⟩
 |_=>.bad obj
theorem Uq{P:Program}{φ:Name->Loc}{obj:Name->Option O}{m:Mem}{x:D}{u:Value}{ρ:Operand->Value}{c:Operand}{o:Oper}(w:World)
 (hx:aI φ obj m x u) (aa:(lP obj x).ok) (ho:o.op=.nilCheck c) (hc:ρ c=u):
 (execOp ρ o).run P w=.ok (.value u) w/\aI φ obj m (lP obj x).d u/\(lP obj x).obj=obj:=by
 have hp:∃ q,u=.pointer (some q):=by
  unfold lP at aa
  split at aa
  ·cases hx;exact⟨_,rfl⟩
  ·cases hx with | v _ _ hx=>cases hx;exact⟨_,rfl⟩
  ·cases hx with
   |aref _ _ _ _ _ hx hu=>
   obtain⟨o',k',aD,hlen,hk,cV⟩:=hx
   simp only[aD,Option.bind_some,hlen,Option.some.injEq]at aa
   exact⟨_,cV aa.symm⟩
  ·exact aa.elim
 obtain⟨q,hq⟩:=hp
 refine⟨by subst hq;simp[execOp,ho,hc],?_⟩
 unfold lP at aa |-
 split at aa
 ·exact⟨hx,rfl⟩
 ·exact⟨hx,rfl⟩
 ·exact⟨hx,rfl⟩
 ·exact aa.elim
theorem Ext.new{φ:Name->Loc}{obj:Name->Option O}{nm:Name}(h:obj nm=none)(p:Loc)(o:O):Ext φ (upd φ nm p) obj (upd obj nm (some o)):=by
 intro x o' hx
 have aH:x≠nm:=fun e=>by subst e;rw[h]at hx;cases hx
 exact⟨o',by rw[bm _ _ _ aH];exact hx,.inl ⟨rfl,by rw[bm _ _ _ aH],rfl⟩⟩
theorem Ext.same{φ:Name->Loc}{obj:Name->Option O}{nm:Name}{o o':O}(h:obj nm=some o)(hl:o'.len?=o.len?)(hs:o'.sz=o.sz):
 Ext φ (upd φ nm (φ nm)) obj (upd obj nm (some o')):=by
 intro x o1 hx
 by_cases aH:x=nm
 ·subst aH
  rw[h]at hx;cases hx
  exact⟨o',aX _ _ _,.inl ⟨hl,aX _ _ _,hs⟩⟩
 ·exact⟨o1,by rw[bm _ _ _ aH];exact hx,.inl ⟨rfl,by rw[bm _ _ _ aH],rfl⟩⟩
theorem Ext.grow{φ:Name->Loc}{obj:Name->Option O}{nm:Name}{o o':O}{n n':Nat}(h:obj nm=some o)(hn:o.len?=some n)(tU:o'.len?=some n')(ae:n<n')(p:Loc):
 Ext φ (upd φ nm p) obj (upd obj nm (some o')):=by
 intro x o1 hx
 by_cases aH:x=nm
 ·subst aH
  rw[h]at hx;cases hx
  exact⟨o',aX _ _ _,.inr ⟨n,n',hn,tU,ae⟩⟩
 ·exact⟨o1,by rw[bm _ _ _ aH];exact hx,.inl ⟨rfl,by rw[bm _ _ _ aH],rfl⟩⟩
theorem hM{α β:Type}[DecidableEq α](f:α->β)(a:α):upd f a (f a)=f:=by
 funext x;unfold upd;split<;>simp_all
structure FR where
 ok:Prop
 x:V
 obj:Name->Option O
structure FRL where
 ok:Prop
 xs:List V
 obj:Name->Option O
def bD(f:(Name->Option O)->D->FR)(obj:Name->Option O):List D->FRL
 |[]=>⟨True,[],obj⟩
 |d::r=>⟨(f obj d).ok/\(bD f (f obj d).obj r).ok,(f obj d).x::(bD f (f obj d).obj r).xs,(bD f (f obj d).obj r).obj⟩
def aQ:Nat->(Name->Option O)->D->FR
 | 0,obj,d=>match d with
   | .v x=>⟨True,x,obj⟩
   | .nilsl=>⟨True,.sl [],obj⟩
   |_=>⟨False,default,obj⟩
 |n+1,obj,d=>match d with
  | .v x=>⟨True,x,obj⟩
  | .nilsl=>⟨True,.sl [],obj⟩
  | .msl nm k=>match obj nm with
    |some (.arr sz l)=>⟨k=l.length,.sl l,upd obj nm (some (.farr sz l))⟩
    |some (.farr _ l)=>⟨k=l.length,.sl l,obj⟩
    |_=>⟨False,default,obj⟩
  | .ref nm off=>match obj nm with
    |some (.box cs)=>⟨(bD (aQ n) obj cs).ok/\(bD (aQ n) obj cs).obj nm=some (.box cs),.ptr ((bD (aQ n) obj cs).xs.drop off),
       upd (bD (aQ n) obj cs).obj nm (some (.fbox (bD (aQ n) obj cs).xs))⟩
    |some (.fbox cs)=>⟨True,.ptr (cs.drop off),obj⟩
    |_=>⟨False,default,obj⟩
  | .agg l=>⟨(bD (aQ n) obj l).ok,.agg (bD (aQ n) obj l).xs,(bD (aQ n) obj l).obj⟩
  | .tup l=>⟨(bD (aQ n) obj l).ok,.tup (bD (aQ n) obj l).xs,(bD (aQ n) obj l).obj⟩
  | .clo fn f c=>⟨(bD (aQ n) obj f).ok/\(bD (aQ n) (bD (aQ n) obj f).obj c).ok,.clo fn (bD (aQ n) obj f).xs (bD (aQ n) (bD (aQ n) obj f).obj c).xs,
      (bD (aQ n) (bD (aQ n) obj f).obj c).obj⟩
  |_=>⟨False,default,obj⟩
theorem aV.frz1{G:Ghost}{φ:Name->Loc}{m:Mem}{σ:S}{a:Act}{w:World}(hC:aV G φ m σ a w)(nm:Name)(o o':O)(ho:σ.obj nm=some o)(hm:o.mut=true)
 (dD:(φ nm).nul=false) (us:Array Value) (T:TypeId) (f:Nat×Nat) (hb:w.heap[(φ nm).blk]?=some (.cells us T f))
 (hl:o'.len?=o.len?) (hs:o'.sz=o.sz) (ly:o'.mut=false)
 (kJ:∀ m',Mem.le m m'->(∀ off c,us[off]?=some c->m' (φ nm).blk off=some c)->iD φ (upd σ.obj nm (some o')) m' o' (φ nm) w):
 ∃ m',Mem.le m m'/\aV G φ m' { σ with obj:=upd σ.obj nm (some o') } a w/\(∀ off c,us[off]?=some c->m' (φ nm).blk off=some c):=by
 have hh:holds φ σ.obj nm:=⟨o,ho,hm,dD⟩
 let m':Mem:=fun b off=>if b=(φ nm).blk then us[off]? else m b off
 have hle:Mem.le m m':=by
  intro b off v h
  show (if b=(φ nm).blk then us[off]? else m b off)=some v
  by_cases dg:b=(φ nm).blk
  ·subst dg;rw[hC.apart nm hh off]at h;cases h
  ·rw[if_neg dg];exact h
 have fO:∀ off c,us[off]?=some c->m' (φ nm).blk off=some c:=fun off c h=>by
  show (if (φ nm).blk=(φ nm).blk then us[off]? else m _ off)=some c
  rw[if_pos rfl];exact h
 have hx:Ext φ φ σ.obj (upd σ.obj nm (some o')):=by
  have :=Ext.same (φ:=φ) (o':=o') ho hl hs
  rwa [hM]at this
 have hold:∀ x,holds φ (upd σ.obj nm (some o')) x->x≠nm/\holds φ σ.obj x:=by
  rintro x ⟨o1,h1,h2,h3⟩
  by_cases aH:x=nm
  ·subst aH;rw[aX]at h1;cases h1;rw[ly]at h2;cases h2
  ·rw[bm _ _ _ aH]at h1;exact⟨aH,o1,h1,h2,h3⟩
 refine⟨m',hle,?_,fO⟩
 constructor
 ·exact fun t=>(hC.tmps t).ext hle hx
 ·exact hC.size
 ·exact hC.defers
 ·intro x o1 qp
  simp only at qp
  by_cases aH:x=nm
  ·subst aH
   rw[aX]at qp
   cases qp
   exact kJ m' hle fO
  ·rw[bm _ _ _ aH]at qp
   exact(hC.objs x o1 qp).ext hle hx fun _ _=>rfl
 ·intro b off v h
  have h':(if b=(φ nm).blk then us[off]? else m b off)=some v:=h
  by_cases dg:b=(φ nm).blk
  ·subst dg;rw[if_pos rfl]at h';rw[pK hb];exact h'
  ·rw[if_neg dg]at h';exact hC.mem _ _ _ h'
 ·intro x bB off
  obtain⟨aH,h⟩:=hold x bB
  show (if (φ x).blk=(φ nm).blk then us[off]? else m _ off)=none
  rw[if_neg fun e=>aH (hC.inj _ _ h hh e)]
  exact hC.apart x h off
 ·exact fun x y bB hy e=>hC.inj _ _ (hold x bB).2 (hold y hy).2 e
 ·exact fun x bB=>hC.own x (hold x bB).2
 ·exact hC.fr
 ·intro b off v h
  have h':(if b=(φ nm).blk then us[off]? else m b off)=some v:=h
  by_cases dg:b=(φ nm).blk
  ·subst dg;exact .inr (hC.own nm hh)
  ·rw[if_neg dg]at h';exact hC.fresh _ _ _ h'
 ·exact⟨hC.kept.1,hC.kept.2.trans hx⟩
theorem aV.frzNil{G:Ghost}{φ:Name->Loc}{m:Mem}{σ:S}{a:Act}{w:World}(hC:aV G φ m σ a w)(nm:Name)(sz:Nat)(ho:σ.obj nm=some (.arr sz []))
 (dD:(φ nm).nul=true):aV G φ m { σ with obj:=upd σ.obj nm (some (.farr sz [])) } a w:=by
 have :=hC.chg (w':=w) nm (.farr sz []) (φ nm) (Ext.same ho rfl rfl) ⟨rfl,rfl,rfl,Nat.le_refl _⟩ (fun _ _ _=>rfl) (fun h=>by rw[dD]at h;cases h) (.inl ⟨dD,rfl⟩)
 rwa [hM]at this
def Tb(f:(Name->Option O)->D->FR):Prop:=
 ∀ (G:Ghost) (φ:Name->Loc) (m:Mem) (σ:S) (a:Act) (w:World) (_:aV G φ m σ a w) (d:D) (u:Value) (_:aI φ σ.obj m d u) (_:(f σ.obj d).ok),
   ∃ m',Mem.le m m'/\aV G φ m' { σ with obj:=(f σ.obj d).obj } a w/\Ext φ φ σ.obj (f σ.obj d).obj/\aU m' (f σ.obj d).x u/\(d.one=true->(f σ.obj d).x.one=true)
theorem si{f:(Name->Option O)->D->FR}(hf:Tb f):∀ (l:List D) {G:Ghost} {φ:Name->Loc} {m:Mem} {σ:S} {a:Act} {w:World} (_:aV G φ m σ a w) (us:List Value)
 (_:l.length=us.length) (_:∀ i (h:i<l.length) (h':i<us.length),aI φ σ.obj m l[i] us[i]) (_:(bD f σ.obj l).ok),
 ∃ m',Mem.le m m'/\aV G φ m' { σ with obj:=(bD f σ.obj l).obj } a w/\Ext φ φ σ.obj (bD f σ.obj l).obj/\(bD f σ.obj l).xs.length=l.length/\
   (∀ i (h:i<(bD f σ.obj l).xs.length) (h':i<us.length),aU m' (bD f σ.obj l).xs[i] us[i])/\
   ((∀ d∈l,d.one=true)->∀ x∈(bD f σ.obj l).xs,x.one=true)
 |[],G,φ,m,σ,a,w,hC,us,hl,hr,aa=>⟨m,Mem.le_refl m,hC,Ext.refl _ _,rfl,fun i h=>by simp[bD]at h,fun _ x hx=>by simp[bD]at hx⟩
 |d::r,G,φ,m,σ,a,w,hC,[],hl,hr,aa=>by simp at hl
 |d::r,G,φ,m,σ,a,w,hC,u::us,hl,hr,aa=>by
  obtain⟨h1,h2⟩:=aa
  obtain⟨m1,a1,a2,a3,a4,a5⟩:=hf _ _ _ _ _ _ hC _ _ (hr 0 (by simp) (by simp)) h1
  obtain⟨m2,b1,b2,b3,b4,b5,b6⟩:=si hf r (σ:={ σ with obj:=(f σ.obj d).obj }) a2 us (by simpa using hl)
   (fun i h h'=>(hr (i+1) (by simpa using h) (by simpa using h')).ext a1 a3) h2
  refine⟨m2,Mem.le_trans a1 b1,b2,a3.trans b3,by simpa[bD]using b4,fun i h h'=>?_,fun ho x hx=>?_⟩
  ·cases i with
   |zero=>exact a4.mono b1
   |succ i=>simpa[bD]using b5 i (by simpa[bD]using h) (by simpa using h')
  ·simp only[bD,List.mem_cons]at hx
   rcases hx with rfl | hx
   ·exact a5 (ho d (by simp))
   ·exact b6 (fun d hd=>ho d (by simp[hd])) x hx
theorem qF:∀ n,Tb (aQ n)
 | 0=>by
   intro G φ m σ a w hC d u hd aa
   cases d with
   |v x=>cases hd with | v _ _ h=>exact⟨m,Mem.le_refl m,hC,Ext.refl _ _,h,id⟩
   |nilsl=>cases hd;exact⟨m,Mem.le_refl m,hC,Ext.refl _ _,.slnil _ _,fun _=>rfl⟩
   |_=>exact aa.elim
 |n+1=>by
  intro G φ m σ a w hC d u hd aa
  have ih:=qF n
  cases d with
  |v x=>cases hd with | v _ _ h=>exact⟨m,Mem.le_refl m,hC,Ext.refl _ _,h,id⟩
  |nilsl=>cases hd;exact⟨m,Mem.le_refl m,hC,Ext.refl _ _,.slnil _ _,fun _=>rfl⟩
  |msl nm k=>
   cases hd with
   |msl _ _ _ hx hu=>
   obtain⟨o,k',aD,hlen,hk,cV⟩:=hx
   cases o with
   |arr sz l=>
    simp only[aQ,aD]at aa |-
    simp only[O.len?,Option.some.injEq]at hlen
    subst hlen
    have e:=cV aa
    subst e
    have hx:Ext φ φ σ.obj (upd σ.obj nm (some (.farr sz l))):=by
     have :=Ext.same (φ:=φ) (o':=.farr sz l) aD rfl rfl
     rwa [hM]at this
    rcases hC.objs nm _ aD with⟨h,h'⟩ | ⟨h0,h1,h2,h3,h4,us,T,f,h5,h6,h7,h8⟩
    ·subst h'
     refine⟨m,Mem.le_refl m,hC.frzNil nm sz aD h,hx,?_,fun _=>rfl⟩
     simp only[Loc.slice,h,if_true]
     exact .slnil _ _
    ·have kJ:∀ m',Mem.le m m'->(∀ off c,us[off]?=some c->m' (φ nm).blk off=some c)->
         ∀ i j (h:i<l.length) (h':j<(l[i].cells).length),∃ c,m' (φ nm).blk ((φ nm).off+i*sz+j)=some c/\aU m' (l[i].cells)[j] c:=
       fun m' hle ly i j a b=>let ⟨c,x,y⟩:=h8 i j a b;⟨c,ly _ _ x,y.mono hle⟩
     obtain⟨m',hle,cR,ly⟩:=hC.frz1 nm (.arr sz l) (.farr sz l) aD rfl h0 us T f h5 rfl rfl rfl
      (fun m' hle ly=>.inr ⟨h0,⟨h1,by omega⟩,h3,h4,kJ m' hle ly⟩)
     refine⟨m',hle,cR,hx,?_,fun _=>rfl⟩
     simp only[Loc.slice,h0,Bool.false_eq_true,if_false]
     rw[aa]
     by_cases hl:l=[]
     ·subst hl;exact .slnil _ _
     ·refine .sl l _ _ _ sz (fun i j=>(us[(φ nm).off+i*sz+j]?).getD undef) hl (by omega) h1 h3 (fun i j hi hj=>?_) (fun i j hi hj=>?_) h4
      ·obtain⟨c,x,y⟩:=h8 i j hi (by rw[h3];exact hj)
       rw[x];exact ly _ _ x
      ·obtain⟨c,x,y⟩:=h8 i j hi hj
       rw[x];exact y.mono hle
   |farr sz l=>
    simp only[aQ,aD]at aa |-
    simp only[O.len?,Option.some.injEq]at hlen
    subst hlen
    have e:=cV aa
    subst e
    refine⟨m,Mem.le_refl m,hC,Ext.refl _ _,?_,fun _=>rfl⟩
    rcases hC.objs nm _ aD with⟨h,h'⟩ | ⟨h0,h1,h2,h3,h4⟩
    ·subst h'
     simp only[Loc.slice,h,if_true]
     exact .slnil _ _
    ·simp only[Loc.slice,h0,Bool.false_eq_true,if_false]
     rw[aa]
     by_cases hl:l=[]
     ·subst hl;exact .slnil _ _
     ·refine .sl l _ _ _ sz (fun i j=>(m (φ nm).blk ((φ nm).off+i*sz+j)).getD undef) hl h1.2 h1.1 h2 (fun i j hi hj=>?_) (fun i j hi hj=>?_) h3
      ·obtain⟨c,x,y⟩:=h4 i j hi (by rw[h2];exact hj)
       rw[x];rfl
      ·obtain⟨c,x,y⟩:=h4 i j hi hj
       rw[x];exact y
   |box=>simp[aQ,aD]at aa
   |map=>simp[aQ,aD]at aa
   |fbox=>simp[aQ,aD]at aa
   |loop=>simp[aQ,aD]at aa
   |dead=>first | (simp[aQ,aD]at aa;done) | (simp[O.len?]at hlen;done)
  |ref nm off=>
   cases hd with
   |ref _ _ hx=>
   obtain⟨o,aD,hlen⟩:=hx
   cases o with
   |box cs=>
    simp only[aQ,aD]at aa |-
    obtain⟨yE,rZ⟩:=aa
    obtain⟨h0,h1,fZ,us,T,f,h2,h3,h4,h5⟩:=hC.objs nm _ aD
    obtain⟨m1,a1,a2,a3,a4,a5,a6⟩:=si ih cs hC us.toList (by simp[h4]) (fun i h h'=>by simpa using h5 i h (by simpa using h')) yE
    obtain⟨m2,b1,b2,b3⟩:=a2.frz1 nm (.box cs) (.fbox (bD (aQ n) σ.obj cs).xs) rZ rfl h1 us T f h2 rfl rfl rfl
     (fun m' hle ly=>⟨a6 fZ,fun i hi=>by
       have Pr:i<us.size:=by omega
       refine⟨us[i],?_,(a5 i hi (by simpa using Pr)).mono hle⟩
       rw[h0,Nat.zero_add];exact ly _ _ (Array.getElem?_eq_getElem Pr)⟩)
    refine⟨m2,Mem.le_trans a1 b1,b2,a3.trans (by have:=Ext.same (φ:=φ) (o':=.fbox (bD (aQ n) σ.obj cs).xs) rZ rfl rfl;rwa [hM]at this),?_,fun _=>rfl⟩
    refine .ptr _ _ _ (fun j=>(us[off+j]?).getD undef) (fun y hy=>a6 fZ y (List.mem_of_mem_drop hy)) (fun j hj=>?_) fun j hj=>?_
    ·simp only[List.length_drop]at hj
     have yP:off+j<us.size:=by omega
     rw[h0,Nat.zero_add,Array.getElem?_eq_getElem yP]
     exact b3 _ _ (Array.getElem?_eq_getElem yP)
    ·simp only[List.length_drop]at hj
     have yP:off+j<us.size:=by omega
     simp only[List.getElem_drop,Array.getElem?_eq_getElem yP,Option.getD_some]
     have h9:=(a5 (off+j) (by omega) (by simpa using yP)).mono b1
     rw[Array.getElem_toList]at h9
     exact h9
   |fbox cs=>
    simp only[aQ,aD]at aa |-
    obtain⟨h0,h1⟩:=hC.objs nm _ aD
    refine⟨m,Mem.le_refl m,hC,Ext.refl _ _,?_,fun _=>rfl⟩
    refine .ptr _ _ _ (fun j=>(m (φ nm).blk ((φ nm).off+off+j)).getD undef) (fun y hy=>h0 y (List.mem_of_mem_drop hy)) (fun j hj=>?_) fun j hj=>?_
    ·simp only[List.length_drop]at hj
     obtain⟨c,h2,h3⟩:=h1 (off+j) (by omega)
     rw[Nat.add_assoc,h2];rfl
    ·simp only[List.length_drop]at hj
     obtain⟨c,h2,h3⟩:=h1 (off+j) (by omega)
     rw[Nat.add_assoc,h2]
     simpa using h3
   |arr=>simp[O.len?]at hlen
   |farr=>simp[O.len?]at hlen
   |map=>simp[aQ,aD]at aa
   |loop=>simp[aQ,aD]at aa
   |dead=>first | (simp[aQ,aD]at aa;done) | (simp[O.len?]at hlen;done)
  |agg l=>
   cases hd with
   |agg _ us hl ho hr=>
   simp only[aQ]at aa |-
   obtain⟨m1,a1,a2,a3,a4,a5,a6⟩:=si ih l hC us.toList (by simpa using hl) (fun i h h'=>by simpa using hr i h (by simpa using h')) aa
   exact⟨m1,a1,a2,a3,.agg _ us (by rw[a4];exact hl) (a6 ho) (fun i h h'=>by have h9:=a5 i h (by simpa using h');rw[Array.getElem_toList]at h9;exact h9),fun h=>by simp[D.one]at h⟩
  |tup l=>
   cases hd with
   |tup _ us hl hr=>
   simp only[aQ]at aa |-
   obtain⟨m1,a1,a2,a3,a4,a5,a6⟩:=si ih l hC us.toList (by simpa using hl) (fun i h h'=>by simpa using hr i h (by simpa using h')) aa
   exact⟨m1,a1,a2,a3,.tup _ us (by rw[a4];exact hl) (fun i h h'=>by have h9:=a5 i h (by simpa using h');rw[Array.getElem_toList]at h9;exact h9),fun h=>by simp[D.one]at h⟩
  |clo fn fs cs=>
   cases hd with
   |clo _ _ _ us vs h1 h2 dS eH=>
   simp only[aQ]at aa |-
   obtain⟨m1,a1,a2,a3,a4,a5,a6⟩:=si ih fs hC us.toList (by simpa using h1) (fun i h h'=>by simpa using dS i h (by simpa using h')) aa.1
   obtain⟨m2,b1,b2,b3,b4,b5,b6⟩:=si ih cs a2 vs.toList (by simpa using h2) (fun i h h'=>by simpa using(eH i h (by simpa using h')).ext a1 a3) aa.2
   exact⟨m2,Mem.le_trans a1 b1,b2,a3.trans b3,.clo fn _ _ us vs (by rw[a4];exact h1) (by simpa using b4.trans h2) (fun i h h'=>by have h9:=(a5 i h (by simpa using h')).mono b1;rw[Array.getElem_toList]at h9;exact h9)
    (fun i h h'=>by have h9:=b5 i h (by simpa using h');rw[Array.getElem_toList]at h9;exact h9),fun _=>rfl⟩
  |_=>exact aa.elim
def pS(G:Ghost)(σ:S)(a:Act)(r:R)(v:Value)(w':World):Prop:=
 ∃ φ' m',aV G φ' m' { σ with obj:=r.obj } a w'/\aI φ' r.obj m' r.d v
abbrev bj (t:Name):Name:=t
def D.boxable:D->Bool
 | .any=>false
 | .tup _=>false
 | .v (.tup _)=>false
 |_=>true
theorem aI.boxed{φ:Name->Loc}{obj:Name->Option O}{m:Mem}{d:D}{u:Value}(h:aI φ obj m d u)(hb:d.boxable=true):∀ c∈d.cells,c.one=true:=by
 cases h with
 |v x u h=>
  cases h with
  |agg l us hl ho hr=>intro c hc;simp only[D.cells,List.mem_map]at hc;obtain⟨y,hy,rfl⟩:=hc;exact ho y hy
  |tup=>simp[D.boxable]at hb
  |_=>intro c hc;simp only[D.cells,List.mem_singleton]at hc;subst hc;rfl
 |agg l us hl ho hr=>exact ho
 |any=>simp[D.boxable]at hb
 |tup=>simp[D.boxable]at hb
 |_=>intro c hc;simp only[D.cells,List.mem_singleton]at hc;subst hc;rfl
theorem D.boxable_any{d:D}(hb:d.boxable=true):d≠ .any:=by rintro rfl;simp[D.boxable]at hb
def nP(obj:Name->Option O)(t:Name)(x:D):R:=
 ⟨obj (bj t)=none/\x.boxable=true,.ref (bj t) 0,upd obj (bj t) (some (.box x.cells))⟩
theorem oR{w:World}{o:Obj}{b:Nat}(h:b<w.heap.size):({ w with heap:=w.heap.push o }:World).heap[b]?=w.heap[b]?:=by
 show (w.heap.push o)[b]?=_
 rw[Array.getElem?_push,if_neg (by omega)]
theorem yY{w:World}{o:Obj}:({ w with heap:=w.heap.push o }:World).heap[w.heap.size]?=some o:=by
 show (w.heap.push o)[w.heap.size]?=_
 simp
theorem RR{G:Ghost}{φ:Name->Loc}{m:Mem}{σ:S}{a:Act}{w:World}(hC:aV G φ m σ a w){t:Name}{x:D}{u:Value}(T:TypeId)
 (hx:aI φ σ.obj m x u) (aa:(nP σ.obj t x).ok):
 pS G σ a (nP σ.obj t x) (.pointer (some ⟨w.heap.size,0,none⟩)) { w with heap:=w.heap.push (.cells u.cells T) }:=by
 obtain⟨h1,h2⟩:=aa
 have bB:=Ext.new (φ:=φ) h1 ⟨w.heap.size,0,0,false,none⟩ (.box x.cells)
 have aH:=D.boxable_any h2
 refine⟨upd φ (bj t) ⟨w.heap.size,0,0,false,none⟩,m,hC.chg (bj t) (.box x.cells) ⟨w.heap.size,0,0,false,none⟩ bB ⟨rfl,rfl,rfl,by simp⟩
  (fun b hb _=>oR hb) (fun _=>.inl (Nat.le_refl _)) ?_,?_⟩
 ·exact⟨rfl,rfl,hx.boxed h2,u.cells,T,(0,0),yY,rfl,(hx.cells aH).symm,fun i h h'=>(hx.cell aH i h h').ext (Mem.le_refl m) bB⟩
 ·have:=aI.ref (φ:=upd φ (bj t) ⟨w.heap.size,0,0,false,none⟩) (obj:=upd σ.obj (bj t) (some (.box x.cells))) (m:=m) (bj t) 0 ⟨_,aX _ _ _,rfl⟩
  rwa [aX]at this
theorem UE{P:Program}{G:Ghost}{φ:Name->Loc}{m:Mem}{σ:S}{a:Act}{w:World}(hC:aV G φ m σ a w){t:Name}{T:TypeId}{x:D}{u:Value}
 (hx:aI φ σ.obj m x u) (aa:(nP σ.obj t x).ok):
 ∃ v w',(Instr.box T u).run P w=.ok v w'/\pS G σ a (nP σ.obj t x) v w':=
 ⟨_,_,rfl,RR hC T hx aa⟩
def o6(P:Program)(obj:Name->Option O)(t:Name)(T:TypeId):R:=
 match bp P T with
 |some z=>nP obj t (jV z)
 |none=>.bad obj
theorem xI{P:Program}{T:TypeId}{z:Value}(h:bp P T=some z)(w:World):(zeroValue T).run P w=.ok z w:=by
 unfold bp at h
 cases hi:P.info? T with
 |none=>simp[hi]at h
 |some i=>simp only[hi,Option.bind_some]at h;simp[zeroValue,typeInfo,hi,h]
theorem UI{P:Program}{G:Ghost}{φ:Name->Loc}{m:Mem}{σ:S}{a:Act}{w:World}(hC:aV G φ m σ a w){t:Name}{T:TypeId}
 (aa:(o6 P σ.obj t T).ok):
 ∃ v w',(Instr.alloc T true (.tuple #[])).run P w=.ok v w'/\pS G σ a (o6 P σ.obj t T) v w':=by
 unfold o6 at aa |-
 cases hz:bp P T with
 |none=>rw[hz]at aa;exact aa.elim
 |some z=>
  rw[hz]at aa
  refine⟨_,_,?_,RR hC T (vN z) aa⟩
  simp only[Instr.alloc,Sem.run_bind,xI hz,Result.andThen_ok]
  rfl
def kx{α:Type}(cs:List α)(off:Nat)(ds:List α):List α:=cs.take off++ds++cs.drop (off+ds.length)
theorem DV{α:Type}{cs ds:List α}{off:Nat}(h:off+ds.length<=cs.length):(kx cs off ds).length=cs.length:=by
 simp[kx];omega
theorem vE{α:Type}{cs ds:List α}{off:Nat}(h:off+ds.length<=cs.length)(k:Nat):
 (kx cs off ds)[k]?=if off<=k/\k<off+ds.length then ds[k-off]? else cs[k]?:=by
 unfold kx
 by_cases h1:k<off
 ·rw[if_neg (by omega),List.append_assoc,List.getElem?_append_left (by simp;omega)]
  simp[List.getElem?_take,h1]
 ·by_cases h2:k<off+ds.length
  ·rw[if_pos (by omega),List.append_assoc,List.getElem?_append_right (by simp;omega),List.getElem?_append_left (by simp;omega)]
   congr 1;simp;omega
  ·rw[if_neg (by omega),List.getElem?_append_right (by simp;omega),List.getElem?_drop]
   congr 1;simp;omega
def uF(place:Nat->Option (Nat×Nat)):List D->List (Nat×D)->Option (List D)
 |cs,[]=>some cs
 |cs,(i,d)::r=>
  match place i with
  |none=>none
  |some (off,size)=>if d.boxable=true/\d.cells.length=size/\off+size<=cs.length then uF place (kx cs off d.cells) r else none
theorem Hp(off:Nat):∀ (vs:List Value) (s:Nat) (cs:Array Value),off+s+vs.length<=cs.size->
 ((vs.zipIdx s).foldl (fun cs (c,j)=>cs.setIfInBounds (off+j) c) cs).size=cs.size/\
 ∀ k,((vs.zipIdx s).foldl (fun cs (c,j)=>cs.setIfInBounds (off+j) c) cs)[k]?=if off+s<=k/\k<off+s+vs.length then vs[k-(off+s)]? else cs[k]?
 |[],s,cs,_=>⟨rfl,fun k=>by rw[if_neg (by simp only[List.length_nil];omega)];rfl⟩
 |v::vs,s,cs,h=>by
  simp only[List.length_cons]at h
  obtain⟨h1,h2⟩:=Hp off vs (s+1) (cs.setIfInBounds (off+s) v) (by simp;omega)
  simp only[List.zipIdx_cons,List.foldl_cons]
  refine⟨by rw[h1];simp,fun k=>?_⟩
  rw[h2 k]
  by_cases hk:k=off+s
  ·subst hk
   rw[if_neg (by omega),if_pos (by simp)]
   simp[show off+s<cs.size by omega]
  ·rw[Array.getElem?_setIfInBounds_ne (fun e=>hk e.symm)]
   by_cases lz:off+(s+1)<=k/\k<off+(s+1)+vs.length
   ·rw[if_pos lz,if_pos (by simp;omega)]
    have :k-(off+s)=(k-(off+(s+1)))+1:=by omega
    rw[this,List.getElem?_cons_succ]
   ·rw[if_neg lz,if_neg (by simp;omega)]
def S1(φ:Name->Loc)(obj:Name->Option O)(m:Mem)(ds:List D)(us:Array Value):Prop:=
 ds.length=us.size/\∀ (k:Nat) (d:D) (u:Value),ds[k]?=some d->us[k]?=some u->aI φ obj m d u
theorem Qv{φ:Name->Loc}{obj:Name->Option O}{m:Mem}(place:Nat->Option (Nat×Nat)):∀ (parts:List (Nat×D)) (vals:List (Nat×Value)) (cs:List D) (us:Array Value) (pJ:List D),
 parts.map (·.1)=vals.map (·.1)->(∀ (k:Nat) (p:Nat×D) (q:Nat×Value),parts[k]?=some p->vals[k]?=some q->aI φ obj m p.2 q.2)->S1 φ obj m cs us->(∀ d∈cs,d.one=true)->uF place cs parts=some pJ->
 ∃ bK,Instr.fill place us vals=some bK/\S1 φ obj m pJ bK/\(∀ d∈pJ,d.one=true)
 |[],vals,cs,us,pJ,he,hr,hl,ho,hf=>by
  cases vals with
  |nil=>simp only[uF,Option.some.injEq]at hf;subst hf;exact⟨us,rfl,hl,ho⟩
  |cons=>simp at he
 |(i,d)::parts,vals,cs,us,pJ,he,hr,hl,ho,hf=>by
  cases vals with
  |nil=>simp at he
  |cons q vals=>
   obtain⟨i',u⟩:=q
   simp only[List.map_cons,List.cons.injEq]at he
   obtain⟨rfl,he⟩:=he
   simp only[uF]at hf
   cases hp:place i with
   |none=>simp[hp]at hf
   |some p=>
    obtain⟨off,size⟩:=p
    simp only[hp]at hf
    split at hf
    ·rename_i hc
     obtain⟨hb,hs,hle⟩:=hc
     have hd:aI φ obj m d u:=hr 0 (i,d) (i,u) rfl rfl
     have aH:=D.boxable_any hb
     have uq:=hd.cells aH
     have ef:us.size=cs.length:=hl.1.symm
     have wq:u.cells.toList.length=d.cells.length:=by simp[uq]
     obtain⟨g1,g2⟩:=Hp off u.cells.toList 0 us (by rw[wq];omega)
     have Gp:off+d.cells.length<=cs.length:=by omega
     obtain⟨bK,k1,k2,k3⟩:=Qv place parts vals (kx cs off d.cells) (((u.cells.toList.zipIdx 0).foldl (fun cs (c,j)=>cs.setIfInBounds (off+j) c) us)) pJ he
      (fun k p q hp hq=>hr (k+1) p q (by simpa using hp) (by simpa using hq))
      (by
        refine⟨by rw[DV Gp,g1,ef],fun k d' u' hk j8=>?_⟩
        rw[vE Gp]at hk
        rw[g2]at j8
        simp only[Nat.add_zero,wq]at j8
        by_cases lz:off<=k/\k<off+d.cells.length
        ·rw[if_pos lz]at hk j8
         obtain⟨a1,a2⟩:=List.getElem?_eq_some_iff.1 hk
         obtain⟨b1,b2⟩:=List.getElem?_eq_some_iff.1 j8
         rw[Array.getElem_toList]at b2
         rw[<-a2,<-b2]
         exact hd.cell aH _ a1 (by simpa using b1)
        ·rw[if_neg lz]at hk j8
         exact hl.2 k d' u' hk j8)
      (by
        intro c hc
        obtain⟨k,hk⟩:=List.mem_iff_getElem?.1 hc
        rw[vE Gp]at hk
        split at hk
        ·exact hd.boxed hb c (List.mem_of_getElem? hk)
        ·exact ho c (List.mem_of_getElem? hk)) hf
     refine⟨bK,?_,k2,k3⟩
     simp only[Instr.fill,hp]
     rw[if_neg (by simp;omega)]
     have hz:u.cells.toList.zipIdx 0=(u.cells.zipIdx).toList:=by simp
     rw[<-Array.foldl_toList,<-hz]
     exact k1
    ·cases hf
def iZ(P:Program)(t:TypeId):Option (List (Nat×Nat)):=
 match P.underlying t with
 |some (.struct fs)=>fs.toList.mapM fun f=>(P.info? f.type).map fun i=>(f.offset,i.size)
 |some (.array n e)=>(P.info? e).map fun i=>(List.range n).map fun j=>(j*i.size,i.size)
 |_=>none
def nO(P:Program)(obj:Name->Option O)(T:TypeId)(parts:List (Nat×D)):R:=
 match iZ P T,bp P T with
 |some ps,some z=>match jV z with
  | .agg cs=>match uF (fun i=>ps[i]?) cs parts with
    |some pJ=>⟨True,.agg pJ,obj⟩
    |none=>.bad obj
  |_=>.bad obj
 |_,_=>.bad obj
theorem Qx{n sz:Nat}:∀ (vals:List (Nat×Value)) (us bK:Array Value),
 Instr.fill (fun i=>((List.range n).map fun j=>(j*sz,sz))[i]?) us vals=some bK->Instr.fill (fun i=>some (i*sz,sz)) us vals=some bK
 |[],us,bK,h=>h
 |(i,v)::r,us,bK,h=>by
  simp only[Instr.fill]at h |-
  split at h
  ·cases h
  ·rename_i off size hp
   simp only[List.getElem?_map,Option.map_eq_some_iff]at hp
   obtain⟨j,hj,hp⟩:=hp
   have :j=i:=by
    obtain⟨a1,a2⟩:=List.getElem?_eq_some_iff.1 hj
    simpa using a2.symm
   subst this
   simp only[Prod.mk.injEq]at hp
   obtain⟨rfl,rfl⟩:=hp
   split at h
   ·cases h
   ·rename_i hc
    rw[if_neg hc]
    exact Qx r _ bK h
theorem UD{P:Program}{φ:Name->Loc}{obj:Name->Option O}{m:Mem}{T:TypeId}{parts:List (Nat×D)}{vals:Array (Nat×Value)}(w:World)
 (he:parts.map (·.1)=vals.toList.map (·.1)) (hr:∀ (k:Nat) (p:Nat×D) (q:Nat×Value),parts[k]?=some p->vals.toList[k]?=some q->aI φ obj m p.2 q.2) (aa:(nO P obj T parts).ok):
 ∃ v,(Instr.build T vals).run P w=.ok v w/\aI φ obj m (nO P obj T parts).d v/\(nO P obj T parts).obj=obj:=by
 unfold nO at aa |-
 split at aa
 ·rename_i ps z fH hz
  split at aa
  ·rename_i cs gF
   split at aa
   ·rename_i pJ hf
    have gS:aI φ obj m (jV z) z:=vN z
    rw[gF]at gS
    cases gS with
    |agg _ us hl ho wu=>
    obtain⟨bK,h1,h2,h3⟩:=Qv (fun i=>ps[i]?) parts vals.toList cs us pJ he hr
     ⟨hl,fun k d u hd hu=>by
       obtain⟨a1,a2⟩:=List.getElem?_eq_some_iff.1 hd
       obtain⟨b1,b2⟩:=Array.getElem?_eq_some_iff.1 hu
       rw[<-a2,<-b2];exact wu k a1 b1⟩ ho hf
    refine⟨.agg bK,?_,?_,by simp[fH,hz,gF,hf]⟩
    ·refine run_build w T vals bK ?_
     unfold iZ at fH
     unfold bp at hz
     unfold Program.built
     cases iw:P.info? T with
     |none=>simp[iw]at hz
     |some it=>
      simp only[iw,Option.bind_some]at hz
      split at fH
      ·rename_i fs hu
       simp only[hu,hz,fH,Value.cells]
       simpa using h1
      ·rename_i n e hu
       simp only[Option.map_eq_some_iff]at fH
       obtain⟨i,hi,fH⟩:=fH
       subst fH
       simp only[hu,hz,hi,Value.cells]
       exact Qx _ _ _ h1
      ·cases fH
    ·simp only[fH,hz,gF,hf]
     refine .agg _ _ h2.1 h3 fun i a b=>h2.2 i _ _ (List.getElem?_eq_getElem a) (Array.getElem?_eq_getElem b)
   ·exact aa.elim
  ·exact aa.elim
 ·exact aa.elim
def V.okc:V->Bool
 | .tup _=>false
 |_=>true
theorem aU.ones{m:Mem}{x:V}{u:Value}(h:aU m x u)(hb:x.okc=true):∀ c∈x.cells,c.one=true:=by
 cases h with
 |agg l us hl ho hr=>exact ho
 |tup=>simp[V.okc]at hb
 |_=>intro c hc;simp only[V.cells,List.mem_singleton]at hc;subst hc;rfl
theorem aV.immNew{G:Ghost}{φ:Name->Loc}{m:Mem}{σ:S}{a:Act}{w:World}(hC:aV G φ m σ a w)(us:Array Value)(T:TypeId):
 ∃ m',Mem.le m m'/\aV G φ m' σ a { w with heap:=w.heap.push (.cells us T) }/\∀ (off:Nat) (c:Value),us[off]?=some c->m' w.heap.size off=some c:=by
 let m':Mem:=fun b off=>if b=w.heap.size then us[off]? else m b off
 have hle:Mem.le m m':=by
  intro b off v h
  show (if b=w.heap.size then us[off]? else m b off)=some v
  rw[if_neg (by have:=pL (hC.mem _ _ _ h);omega)];exact h
 refine⟨m',hle,?_,fun off c h=>by show (if w.heap.size=w.heap.size then us[off]? else m _ off)=some c;rw[if_pos rfl];exact h⟩
 refine hC.imm hle ⟨rfl,rfl,rfl,by simp⟩ (fun b hb=>oR hb) fun b off v h=>?_
 have h':(if b=w.heap.size then us[off]? else m b off)=some v:=h
 by_cases hb:b=w.heap.size
 ·subst hb
  rw[if_pos rfl]at h'
  refine .inr ⟨Nat.le_refl _,?_⟩
  rw[pK (T:=T) (f:=(0,0)) yY];exact h'
 ·rw[if_neg hb]at h';exact .inl h'
theorem Qw(sz:Nat):∀ (vals:List (Nat×Value)) (s:Nat) (us:Array Value),vals.map (·.1)=(List.range vals.length).map (s+ ·)->
 (∀ q∈vals,q.2.cells.size=sz)->(s+vals.length)*sz<=us.size->
 ∃ bK,Instr.fill (fun i=>some (i*sz,sz)) us vals=some bK/\bK.size=us.size/\(∀ k,k<s*sz->bK[k]?=us[k]?)/\
   ∀ (i j:Nat) (h:i<vals.length),j<sz->bK[(s+i)*sz+j]?=vals[i].2.cells[j]?
 |[],s,us,_,_,_=>⟨us,rfl,rfl,fun _ _=>rfl,fun i j h=>by simp at h⟩
 |(i0,v)::r,s,us,he,hs,hl=>by
  have he0:i0=s:=by
   have :=congrArg (·[0]?) he
   simpa using this
  subst he0
  have hv:v.cells.size=sz:=hs (i0,v) (by simp)
  have hmul:(i0+1+r.length)*sz=i0*sz+sz+r.length*sz:=by rw[Nat.add_mul,Nat.add_mul,Nat.one_mul]
  simp only[List.length_cons]at hl
  have Ph:i0*sz+sz+r.length*sz<=us.size:=by rw[<-hmul];rw[show i0+1+r.length=i0+(r.length+1)by omega];exact hl
  obtain⟨g1,g2⟩:=Hp (i0*sz) v.cells.toList 0 us (by simp[hv];omega)
  obtain⟨bK,k1,k2,k3,k4⟩:=Qw sz r (i0+1) ((v.cells.toList.zipIdx 0).foldl (fun cs (c,j)=>cs.setIfInBounds (i0*sz+j) c) us)
   (by
     have h1:(List.range (r.length+1))=0::(List.range r.length).map (· +1):=by rw[List.range_succ_eq_map]
     simp only[List.map_cons,List.length_cons,h1,List.map_map,List.cons.injEq]at he
     rw[he.2]
     apply List.map_congr_left
     intro x _
     simp;omega)
   (fun q hq=>hs q (by simp[hq])) (by rw[g1,hmul];exact Ph)
  refine⟨bK,?_,by rw[k2,g1],fun k hk=>?_,fun i j hi hj=>?_⟩
  ·simp only[Instr.fill]
   rw[if_neg (by simp[hv];omega)]
   have hz:v.cells.toList.zipIdx 0=(v.cells.zipIdx).toList:=by simp
   rw[<-Array.foldl_toList,<-hz]
   exact k1
  ·rw[k3 k (by rw[Nat.add_mul,Nat.one_mul];omega),g2,if_neg (by simp only[Nat.add_zero];omega)]
  ·cases i with
   |zero=>
    simp only[Nat.add_zero,List.getElem_cons_zero]
    rw[k3 _ (by rw[Nat.add_mul,Nat.one_mul];omega),g2]
    rw[if_pos (by simp only[Nat.add_zero,Array.length_toList,hv];omega)]
    simp only[Nat.add_zero,Nat.add_sub_cancel_left,Array.getElem?_toList]
   |succ i=>
    simp only[List.length_cons]at hi
    have :=k4 i j (by omega) hj
    rw[show i0+(i+1)=i0+1+i by omega]
    simpa using this
def pO(P:Program)(obj:Name->Option O)(T:TypeId)(n:Nat)(parts:List (Nat×D)):R:=
 match cC P T with
 |some (e,sz,_)=>
  if n=0/\parts=[]then⟨(bp P e).isSome=true,.nilsl,obj⟩
  else⟨parts.map (·.1)=List.range n/\(bD (aQ 4) obj (parts.map (·.2))).ok/\(∀ x∈(bD (aQ 4) obj (parts.map (·.2))).xs,x.cells.length=sz/\x.okc=true)/\
   n *sz<=16777216/\sz≠0/\(bp P e).isSome=true/\0<n,.v (.sl (bD (aQ 4) obj (parts.map (·.2))).xs),(bD (aQ 4) obj (parts.map (·.2))).obj⟩
 |none=>.bad obj
theorem UC{P:Program}{G:Ghost}{φ:Name->Loc}{m:Mem}{σ:S}{a:Act}{w:World}(hC:aV G φ m σ a w){T:TypeId}{n:Nat}{parts:List (Nat×D)}{vals:Array (Nat×Value)}
 (he:parts.map (·.1)=vals.toList.map (·.1)) (hr:∀ (k:Nat) (p:Nat×D) (q:Nat×Value),parts[k]?=some p->vals.toList[k]?=some q->aI φ σ.obj m p.2 q.2)
 (aa:(pO P σ.obj T n parts).ok):
 ∃ v w',(Instr.buildSlice T n vals).run P w=.ok v w'/\pS G σ a (pO P σ.obj T n parts) v w':=by
 unfold pO at aa |-
 split at aa
 ·rename_i e sz by_ hT
  obtain⟨hu,i,hi,hs,_⟩:=jN hT
  have OI:(sizeOf e).run P w=.ok sz w:=by simp[sizeOf,typeInfo,hi,hs]
  split at aa
  ·rename_i hc
   obtain⟨rfl,rfl⟩:=hc
   have hv:vals= #[]:=by
    have :vals.toList=[]:=by simpa using he.symm
    simpa using this
   subst hv
   obtain⟨m',h1,h2,h3⟩:=hC.immNew #[] e
   refine⟨.slice (some ⟨w.heap.size,0,none⟩) 0 0,{ w with heap:=w.heap.push (.cells #[] e) },?_,?_⟩
   ·simp only[Instr.buildSlice,Sem.run_bind,run_underlying hu,Result.andThen_ok,OI]
    simp[Instr.fill,newRow,Array.range_zero']
   ·simp only[hT]
    rw[if_pos (by simp)]
    exact⟨φ,m',h2,.nilsl _⟩
  ·rename_i hc
   obtain⟨h1,h2,h3,h4,h5,h6,h7⟩:=aa
   obtain⟨z,hz⟩:=Option.isSome_iff_exists.1 h6
   have hlen:vals.toList.length=n:=by
    have :=congrArg List.length (he.symm.trans h1)
    simpa using this
   have OV:parts.length=n:=by
    have :=congrArg List.length h1
    simpa using this
   obtain⟨m1,a1,a2,a3,a4,a5,_⟩:=si (qF 4) (parts.map (·.2)) hC (vals.toList.map (·.2)) (by simp[OV];simpa using hlen.symm)
    (fun k h h'=>by
      simp only[List.length_map]at h h'
      simp only[List.getElem_map]
      exact hr k _ _ (List.getElem?_eq_getElem h) (List.getElem?_eq_getElem h')) h2
   have uY:(bD (aQ 4) σ.obj (parts.map (·.2))).xs.length=n:=by rw[a4];simpa using OV
   obtain⟨bK,b1,b2,b3,b4⟩:=Qw sz vals.toList 0 ((Array.range (n*sz)).map (z.cells[· % z.cells.size]!))
    (by rw[<-he,h1,hlen];simp)
    (fun q hq=>by
      obtain⟨k,hk,rfl⟩:=List.mem_iff_getElem.1 hq
      have h8:=a5 k (by rw[uY];omega) (by simpa using hk)
      have h9:=(h3 _ (List.getElem_mem (show k<_ by rw[uY];omega))).1
      rw[<-h9]
      simpa using h8.cells.symm) (by simp[hlen])
   obtain⟨m2,c1,c2,c3⟩:=a2.immNew bK e
   refine⟨.slice (some ⟨w.heap.size,0,none⟩) n n,{ w with heap:=w.heap.push (.cells bK e) },?_,?_⟩
   ·simp only[Instr.buildSlice,Sem.run_bind,run_underlying hu,Result.andThen_ok,OI]
    have aH:¬ n*sz=0:=by have:=Nat.mul_pos h7 (Nat.pos_of_ne_zero h5);omega
    simp only[Sem.run_ite,Sem.run_bind,if_neg aH,xI hz,Result.andThen_ok,Sem.run_pure,b1,if_neg (show ¬ n*sz>2 ^ 24 by omega)]
    rfl
   ·rw[if_neg hc]
    refine⟨φ,m2,c2,.v _ _ ?_⟩
    have i6:=aU.sl (m:=m2) (bD (aQ 4) σ.obj (parts.map (·.2))).xs w.heap.size 0 n sz (fun i j=>(bK[i*sz+j]?).getD undef)
     (fun e0=>by rw[e0]at uY;simp at uY;omega) (by rw[uY];unfold maxLen;have:=Nat.le_mul_of_pos_right n (Nat.pos_of_ne_zero h5);omega) (by rw[uY];exact Nat.le_refl _)
     (fun i hi=>(h3 _ (List.getElem_mem hi)).1)
     (fun i j hi hj=>by
       have bP:i<vals.toList.length:=by omega
       have :=b4 i j bP hj
       simp only[Nat.zero_add]at this
       have gF:j<vals.toList[i].2.cells.size:=by
        have h8:=a5 i hi (by simpa using bP)
        have h9:=(h3 _ (List.getElem_mem hi)).1
        have :=h8.cells
        simp only[List.getElem_map]at this
        omega
       rw[Array.getElem?_eq_getElem gF]at this
       rw[this]
       simp only[Option.getD_some]
       rw[Nat.zero_add]
       exact c3 _ _ this)
     (fun i j hi hj=>by
       have bP:i<vals.toList.length:=by omega
       have h9:=(h3 _ (List.getElem_mem hi)).1
       have :=b4 i j bP (by omega)
       simp only[Nat.zero_add]at this
       have h8:=a5 i hi (by simpa using bP)
       have gF:j<vals.toList[i].2.cells.size:=by
        have :=h8.cells
        simp only[List.getElem_map]at this
        omega
       rw[Array.getElem?_eq_getElem gF]at this
       rw[this]
       simp only[Option.getD_some]
       have uB:=(h8.mono c1).cell j hj (by simpa using gF)
       simpa using uB)
     (fun i hi x hx=>by
       have bP:i<vals.toList.length:=by omega
       exact(a5 i hi (by simpa using bP)).ones (h3 _ (List.getElem_mem hi)).2 x hx)
    rw[uY]at i6
    exact i6
 ·exact aa.elim
def lO(P:Program)(obj:Name->Option O)(T:TypeId)(x d:D):R:=
 match bf P T,x with
 |some (_,n),.ref nm off=>match obj nm with
  |some (.box cs)=>⟨d.boxable=true/\d.cells.length=n/\off+n<=cs.length,.any,upd obj nm (some (.box (kx cs off d.cells)))⟩
  |_=>.bad obj
 |some (_,n),.aref nm k i off=>match obj nm,eX d with
  |some (.arr sz l),some y=>⟨k=l.length/\i<l.length/\y.cells.length=n/\y.okc=true/\off+n<=sz/\sz≠0,.any,
     upd obj nm (some (.arr sz (l.set i (if off=0/\n=sz then y else .agg (kx (l.getD i default).cells off y.cells)))))⟩
  |_,_=>.bad obj
 |_,_=>.bad obj
theorem Lm{u:Value}:(∀ c∈u.cells.toList,gN c=true)↔∀ (k:Nat) (h:k<u.cells.size),gN u.cells[k]=true:=by
 constructor
 ·intro h k hk;exact h _ (by simp)
 ·intro h c hc
  obtain⟨k,hk,rfl⟩:=List.mem_iff_getElem.1 hc
  simpa using h k (by simpa using hk)
theorem Un{P:Program}{G:Ghost}{φ:Name->Loc}{m:Mem}{σ:S}{a:Act}{w:World}(hC:aV G φ m σ a w){T:TypeId}{x d:D}{u v:Value}
 (hx:aI φ σ.obj m x u) (hd:aI φ σ.obj m d v) (aa:(lO P σ.obj T x d).ok):
 ∃ w',(Instr.storeAt T u v).run P w=.ok () w'/\∃ φ' m',aV G φ' m' { σ with obj:=(lO P σ.obj T x d).obj } a w':=by
 unfold lO at aa |-
 split at aa
 ·rename_i ag n nm off hT
  cases hx with
  |ref _ _ hx=>
  split at aa
  ·rename_i cs aD
   obtain⟨h1,h2,h3⟩:=aa
   simp only[hT,aD]
   have aH:=D.boxable_any h1
   have uq:=hd.cells aH
   obtain⟨g0,g1,sh,us,T',f,g2,g3,g4,g5⟩:=hC.objs nm _ aD
   have lD:(φ nm).blk<w.heap.size:=(Array.getElem?_eq_some_iff.1 g2).1
   have mi:∀ c∈v.cells.toList,gN c=true:=by
    rw[Lm]
    intro k hk
    exact(hd.cell aH k (by omega) hk).one (hd.boxed h1 _ (List.getElem_mem _))
   obtain⟨bK,k1,k2,k3⟩:=Ke hT g3 g2 v (by omega) (o:=off) (by omega) mi
   have hle:off+d.cells.length<=cs.length:=by omega
   have bB:=Ext.same (φ:=φ) (o':=.box (kx cs off d.cells)) aD rfl rfl
   refine⟨_,by simpa[Instr.storeAt,Instr.sureAddr,g0]using k3,φ,m,?_⟩
   have :=hC.chg (w':=bZ w (φ nm).blk (.cells bK T' f)) nm (.box (kx cs off d.cells)) (φ nm) bB ⟨rfl,rfl,rfl,by simp[bZ]⟩
    (fun b hb hn=>nW (by rcases hn with h | h; · rw[g1]at h;cases h
                         ·exact h))
    (fun _=>.inr ⟨⟨_,aD,rfl,g1⟩,rfl⟩)
    ⟨g0,g1,fun c hc=>by
       obtain⟨k,hk⟩:=List.mem_iff_getElem?.1 hc
       rw[vE hle]at hk
       split at hk
       ·exact hd.boxed h1 c (List.mem_of_getElem? hk)
       ·exact sh c (List.mem_of_getElem? hk),bK,T',f,mK lD,g3,by rw[k1,DV hle,g4],
      fun i h h'=>by
       have e1:=List.getElem?_eq_getElem h
       have e2:=Array.getElem?_eq_getElem h'
       rw[vE hle]at e1
       rw[k2]at e2
       by_cases lz:off<=i/\i<off+d.cells.length
       ·rw[if_pos lz]at e1
        rw[if_pos (by omega)]at e2
        obtain⟨a1,a2⟩:=List.getElem?_eq_some_iff.1 e1
        obtain⟨b1,b2⟩:=List.getElem?_eq_some_iff.1 e2
        rw[Array.getElem_toList]at b2
        rw[<-a2,<-b2]
        exact(hd.cell aH _ a1 (by simpa using b1)).ext (Mem.le_refl m) bB
       ·rw[if_neg lz]at e1
        rw[if_neg (by omega)]at e2
        obtain⟨a1,a2⟩:=List.getElem?_eq_some_iff.1 e1
        obtain⟨b1,b2⟩:=Array.getElem?_eq_some_iff.1 e2
        rw[<-a2,<-b2]
        exact(g5 _ a1 b1).ext (Mem.le_refl m) bB⟩
   rwa [hM]at this
  ·exact aa.elim
 ·rename_i ag n nm k i off hT
  cases hx with
  |aref _ _ _ _ _ hx hu=>
  obtain⟨o,k',dB,hlen,hk,cV⟩:=hx
  split at aa
  ·rename_i sz l y aD hy
   rw[dB]at aD;cases aD
   obtain⟨h1,h2,h3,h4,h5,h6⟩:=aa
   simp only[hT,dB,hy]
   simp only[O.len?,Option.some.injEq]at hlen
   have e:=cV (by omega)
   subst e
   have Br:=pM hd hy
   have OZ:=Br.ones h4
   have uq:=Br.cells
   rcases hC.objs nm _ dB with⟨_,hl⟩ | ⟨g0,g1,g2,g3,g4,us,T',f,g5,g6,g7,g8⟩
   ·subst hl;simp at h2
   have lD:(φ nm).blk<w.heap.size:=(Array.getElem?_eq_some_iff.1 g5).1
   have hmul:i*sz+sz<=(φ nm).cap*sz:=by
    have :(i+1)*sz<=(φ nm).cap*sz:=Nat.mul_le_mul_right _ (by omega)
    rwa [Nat.add_mul,Nat.one_mul]at this
   have mi:∀ c∈v.cells.toList,gN c=true:=by
    rw[Lm]
    intro q hq
    exact(Br.cell q (by omega) hq).one (OZ _ (List.getElem_mem _))
   obtain⟨bK,k1,k2,k3⟩:=Ke hT g6 g5 v (by omega) (o:=(φ nm).off+i*sz+off) (by omega) mi
   refine⟨_,by simpa[Instr.storeAt,Instr.sureAddr,O.sz]using k3,φ,m,?_⟩
   generalize hz:(if off=0/\n=sz then y else V.agg (kx (l.getD i default).cells off y.cells))=z
   have hli:(l.getD i default).cells.length=sz:=by rw[jB h2];exact g3 i h2
   have tr:z.cells=kx (l.getD i default).cells off y.cells:=by
    subst hz
    split
    ·rename_i hc
     have e1:(l.getD i default).cells.drop (0+y.cells.length)=[]:=List.drop_eq_nil_of_le (by omega)
     rw[hc.1]
     unfold kx
     rw[e1]
     simp
    ·rfl
   have hle:off+y.cells.length<=(l.getD i default).cells.length:=by omega
   have aap:z.cells.length=sz:=by rw[tr,DV hle,hli]
   have aao:∀ c∈z.cells,c.one=true:=by
    intro c hc
    rw[tr]at hc
    obtain⟨q,hq⟩:=List.mem_iff_getElem?.1 hc
    rw[vE hle]at hq
    split at hq
    ·exact OZ c (List.mem_of_getElem? hq)
    ·rw[jB h2]at hq;exact g4 i h2 c (List.mem_of_getElem? hq)
   have bB:=Ext.same (φ:=φ) (o':=.arr sz (l.set i z)) dB (by simp[O.len?]) rfl
   have :=hC.chg (w':=bZ w (φ nm).blk (.cells bK T' f)) nm (.arr sz (l.set i z)) (φ nm) bB ⟨rfl,rfl,rfl,by simp[bZ]⟩
    (fun b hb hn=>nW (by rcases hn with h | h; · rw[g0]at h;cases h
                         ·exact h))
    (fun _=>.inr ⟨⟨_,dB,rfl,g0⟩,rfl⟩)
    (.inr ⟨g0,by simpa using g1,g2,fun q hq=>by
        rw[List.getElem_set]
        split
        ·exact aap
        ·exact g3 q (by simpa using hq),
      fun q hq=>by
       rw[List.getElem_set]
       split
       ·exact aao
       ·exact g4 q (by simpa using hq),bK,T',f,mK lD,g6,by rw[k1];exact g7,
      fun q j hq hj=>by
       have bI:q<l.length:=by simpa using hq
       by_cases tL:i=q
       ·subst tL
        simp only[List.getElem_set,if_true]at hj |-
        have e1:=List.getElem?_eq_getElem hj
        have e2:z.cells[j]?=(kx (l.getD i default).cells off y.cells)[j]?:=by rw[tr]
        rw[e2,vE hle]at e1
        rw[k2]
        by_cases lz:off<=j/\j<off+y.cells.length
        ·rw[if_pos lz]at e1
         rw[if_pos (by omega)]
         obtain⟨a1,a2⟩:=List.getElem?_eq_some_iff.1 e1
         have tv:j-off<v.cells.size:=by omega
         refine⟨v.cells[j-off],?_,?_⟩
         ·have:(φ nm).off+i*sz+j-((φ nm).off+i*sz+off)=j-off:=by omega
          rw[this,Array.getElem?_toList];exact Array.getElem?_eq_getElem tv
         ·rw[<-a2];exact Br.cell _ a1 tv
        ·rw[if_neg lz]at e1
         rw[if_neg (by omega)]
         obtain⟨a1,a2⟩:=List.getElem?_eq_some_iff.1 e1
         rw[<-a2]
         have a1':j<(l[i]).cells.length:=by rw[jB h2]at a1;exact a1
         obtain⟨c,x1,x2⟩:=g8 i j h2 a1'
         refine⟨c,x1,?_⟩
         have e3:(l.getD i default).cells[j]=(l[i]).cells[j]:=by simp only[jB h2]
         rw[e3];exact x2
       ·simp only[List.getElem_set,tL,if_false]at hj |-
        obtain⟨c,x1,x2⟩:=g8 q j bI hj
        refine⟨c,?_,x2⟩
        rw[k2,if_neg ?_]
        ·exact x1
        ·have gV:j<sz:=by rw[<-g3 q bI];exact hj
         rintro⟨b1,b2⟩
         rcases Nat.lt_or_gt_of_ne tL with ae | Pz
         ·have:(i+1)*sz<=q*sz:=Nat.mul_le_mul_right _ (by omega)
          rw[Nat.add_mul,Nat.one_mul]at this
          omega
         ·have:(q+1)*sz<=i*sz:=Nat.mul_le_mul_right _ (by omega)
          rw[Nat.add_mul,Nat.one_mul]at this
          omega⟩)
   rwa [hM]at this
  ·exact aa.elim
 ·exact aa.elim
def sX(P:Program)(k:TypeId):Bool:=
 match P.underlying k with
 |some (.struct fs)=>match fs.toList with
  |[f,g]=>!P.stoodInHeld k&&!(f.name== "_")&&!(g.name== "_")&&Nat.beq f.offset 0&&Nat.beq g.offset 1&&
     decide (n9 P f.type=some .i64)&&decide (n9 P g.type=some .i64)&&decide (bf P f.type=some (false,1))&&decide (bf P g.type=some (false,1))
  |_=>false
 |_=>false
def kW(P:Program)(T:TypeId):Option (Nat×TypeId):=
 match P.underlying T with
 |some (.map k e)=>match P.underlying k with
  |some (.int .i64)=>some (0,e)
  |some .string=>some (1,e)
  |some (.struct _)=>if sX P k=true then some (2,e)else none
  |_=>none
 |_=>none
def o4(P:Program)(obj:Name->Option O)(t:Name)(T:TypeId)(V5:Option D):R:=
 match kW P T,V5 with
 |some (kd,_),none=>⟨obj (bj t)=none,.map (bj t),upd obj (bj t) (some (.map kd []))⟩
 |_,_=>.bad obj
theorem Us{P:Program}{G:Ghost}{φ:Name->Loc}{m:Mem}{σ:S}{a:Act}{w:World}(hC:aV G φ m σ a w){t:Name}{T:TypeId}{r:Option D}{ur:Option Value}
 (hr:r.isSome=ur.isSome) (aa:(o4 P σ.obj t T r).ok):
 ∃ v w',(Instr.makeMap T ur).run P w=.ok v w'/\pS G σ a (o4 P σ.obj t T r) v w':=by
 unfold o4 at aa |-
 split at aa
 ·rename_i kd e hT
  cases ur with
  |some=>simp at hr
  |none=>
  refine⟨.map (some w.heap.size),{ w with heap:=w.heap.push (.map #[] 0) },rfl,?_⟩
  have bB:=Ext.new (φ:=φ) aa ⟨w.heap.size,0,0,false,none⟩ (.map kd [])
  try simp only[hT]
  refine⟨upd φ (bj t) ⟨w.heap.size,0,0,false,none⟩,m,hC.chg (bj t) (.map kd []) ⟨w.heap.size,0,0,false,none⟩ bB ⟨rfl,rfl,rfl,by simp⟩
   (fun b hb _=>oR hb) (fun _=>.inl (Nat.le_refl _)) ?_,?_⟩
  ·exact⟨rfl,rfl,fun q hq=>by simp at hq,#[],0,yY,rfl,fun i h=>by simp at h⟩
  ·have:=aI.map (φ:=upd φ (bj t) ⟨w.heap.size,0,0,false,none⟩) (obj:=upd σ.obj (bj t) (some (.map kd []))) (m:=m) (bj t) ⟨_,aX _ _ _,rfl⟩
   rwa [aX]at this
 ·exact aa.elim
def o3(P:Program)(obj:Name->Option O)(t:Name)(T:TypeId)(l c:D):R:=
 match cC P T,l,c with
 |some (e,sz,by_),.v (.int _ n),.v (.int _ n')=>match (bp P e).bind fun z=>eX (jV z)with
  |some zv=>⟨n'=n/\0<=n/\(by_:Int)*n<=281474976710656/\n<=9223372036854775807/\zv.cells.length=sz/\zv.okc=true/\sz≠0/\obj (bj t)=none,
     .msl (bj t) n.toNat,upd obj (bj t) (some (.arr sz (List.replicate n.toNat zv)))⟩
  |none=>.bad obj
 |_,_,_=>.bad obj
theorem Ur{P:Program}{G:Ghost}{φ:Name->Loc}{m:Mem}{σ:S}{a:Act}{w:World}(hC:aV G φ m σ a w){t:Name}{T:TypeId}{l c:D}{ul uc:Value}
 (hl:aI φ σ.obj m l ul) (hc:aI φ σ.obj m c uc) (aa:(o3 P σ.obj t T l c).ok):
 ∃ v w',(Instr.makeSlice T ul uc).run P w=.ok v w'/\pS G σ a (o3 P σ.obj t T l c) v w':=by
 unfold o3 at aa |-
 split at aa
 ·rename_i e sz by_ kl n kc n' hT
  split at aa
  ·rename_i zv tq
   obtain⟨h1,h2,h3,h4,h5,h6,h7,h8⟩:=aa
   subst h1
   simp only[hT,tq]
   cases hl with
   |v _ _ hl=>
   cases hl
   cases hc with
   |v _ _ hc=>
   cases hc
   obtain⟨hu,i,hi,hs,hb⟩:=jN hT
   cases hz:bp P e with
   |none=>simp[hz]at tq
   |some z=>
   simp only[hz,Option.bind_some]at tq
   have yp:i.zero=some z:=by unfold bp at hz;simpa[hi]using hz
   have gS:aU m zv z:=pM (vN (φ:=φ) (obj:=σ.obj) (m:=m) z) tq
   have yo:z.cells.size=sz:=by rw[<-gS.cells];exact h5
   have cP:=run_make (P:=P) w T e i z hu hi yp kl kc n' n' h2 (Int.le_refl _) (by rw[hb];exact h3) h4
   refine⟨_,_,cP,?_⟩
   have bB:=Ext.new (φ:=φ) h8 ⟨w.heap.size,0,n'.toNat,false,none⟩ (.arr sz (List.replicate n'.toNat zv))
   refine⟨upd φ (bj t) ⟨w.heap.size,0,n'.toNat,false,none⟩,m,hC.chg (bj t) _ ⟨w.heap.size,0,n'.toNat,false,none⟩ bB ⟨rfl,rfl,rfl,by show w.heap.size<=(w.heap.push _).size;simp⟩
    (fun b hb _=>oR hb) (fun _=>.inl (Nat.le_refl _)) ?_,?_⟩
   ·refine .inr ⟨rfl,by simp,by show n'.toNat<=maxLen;unfold maxLen;omega,fun q hq=>by rw[List.getElem_replicate];exact h5,fun q hq=>by rw[List.getElem_replicate];exact gS.ones h6,
      madeCells z.cells (n'.toNat*i.size),e,(0,0),yY,rfl,by rw[size_madeCells,hs];simp,fun q j hq hj=>?_⟩
    simp only[List.length_replicate]at hq
    simp only[List.getElem_replicate]at hj |-
    have gV:j<z.cells.size:=by omega
    refine⟨z.cells[j],?_,gS.cell j hj gV⟩
    have ae:q*sz+j<n'.toNat*sz:=by
     have :(q+1)*sz<=n'.toNat*sz:=Nat.mul_le_mul_right _ (by omega)
     rw[Nat.add_mul,Nat.one_mul]at this;omega
    have aa2:(q*sz+j) % z.cells.size=j:=by
     rw[yo,Nat.mul_comm,Nat.mul_add_mod]
     exact Nat.mod_eq_of_lt (by omega)
    unfold madeCells
    rw[Nat.zero_add,hs]
    simp[ae,aa2,gV]
   ·refine .msl _ _ _ ⟨_,_,aX _ _ _,rfl,by simp,fun _=>?_⟩ rfl
    rw[aX];rfl
  ·exact aa.elim
 ·exact aa.elim
def dM(P:Program)(t:TypeId):Option Nat:=
 match P.underlying t with
 |some (.slice _)=>some 0
 |some .string=>some 1
 |some (.map _ _)=>some 2
 |_=>none
def lQ(P:Program)(obj:Name->Option O)(T:TypeId)(x:D):R:=
 match dM P T,x with
 |some 0,.v (.sl l)=>⟨True,.v (.int .i64 l.length),obj⟩
 |some 0,.nilsl=>⟨True,.v (.int .i64 0),obj⟩
 |some 0,.msl nm k=>⟨(obj nm).bind O.len?=some k,.v (.int .i64 k),obj⟩
 |some 1,.v (.str s)=>⟨True,.v (.int .i64 s.size),obj⟩
 |some 2,.nilmap=>⟨True,.v (.int .i64 0),obj⟩
 |some 2,.map nm=>match obj nm with
  |some (.map _ es)=>⟨True,.v (.int .i64 es.length),obj⟩
  |_=>.bad obj
 |_,_=>.bad obj
theorem DS{P:Program}{G:Ghost}{φ:Name->Loc}{m:Mem}{σ:S}{a:Act}{w:World}(hC:aV G φ m σ a w){nm:Name}{o:O}{n:Nat}
 (aD:σ.obj nm=some o) (hlen:o.len?=some n):∃ b c,(φ nm).slice n=.slice b n c/\n<=c:=by
 have :=hC.objs nm o aD
 unfold Loc.slice
 cases o with
 |arr sz l=>
  simp only[O.len?,Option.some.injEq]at hlen
  subst hlen
  rcases this with⟨h,h'⟩ | ⟨h,h',_⟩
  ·subst h';simp[h]
  ·simp only[h,Bool.false_eq_true,if_false];exact⟨_,_,rfl,h'⟩
 |farr sz l=>
  simp only[O.len?,Option.some.injEq]at hlen
  subst hlen
  rcases this with⟨h,h'⟩ | ⟨h,h',_⟩
  ·subst h';simp[h]
  ·simp only[h,Bool.false_eq_true,if_false];exact⟨_,_,rfl,h'.1⟩
 |dead sz k=>
  simp only[O.len?,Option.some.injEq]at hlen
  subst hlen
  rcases this with⟨h,h'⟩ | ⟨h,h'⟩
  ·subst h';simp[h]
  ·simp only[h,Bool.false_eq_true,if_false];exact⟨_,_,rfl,h'⟩
 |_=>simp[O.len?]at hlen
theorem Uu{P:Program}{G:Ghost}{φ:Name->Loc}{m:Mem}{σ:S}{a:Act}{w:World}(hC:aV G φ m σ a w){T ty:TypeId}{x:D}{u:Value}
 (hx:aI φ σ.obj m x u) (aa:(lQ P σ.obj T x).ok):
 ∃ v,(Builtin.len_ #[T] ty #[u]).run P w=.ok v w/\aI φ σ.obj m (lQ P σ.obj T x).d v/\(lQ P σ.obj T x).obj=σ.obj:=by
 have i6:dM P T=some 0->∃ e,P.underlying T=some (.slice e):=by
  intro h;unfold dM at h;split at h<;>simp_all
 have dq:dM P T=some 1->P.underlying T=some .string:=by
  intro h;unfold dM at h;split at h<;>simp_all
 have Pe:dM P T=some 2->∃ k e,P.underlying T=some (.map k e):=by
  intro h;unfold dM at h;split at h<;>simp_all
 unfold lQ at aa |-
 split at aa
 ·rename_i l hT
  obtain⟨e,hu⟩:=i6 hT
  cases hx with
  |v _ _ hx=>
  refine⟨.int .i64 l.length,?_,by simpa[hT]using .v _ _ (.int _ _),by simp[hT]⟩
  cases hx<;>simp[Builtin.len_,run_underlying hu,goInt]
 ·rename_i hT
  obtain⟨e,hu⟩:=i6 hT
  cases hx
  exact⟨.int .i64 0,by simp[Builtin.len_,run_underlying hu,goInt],by simpa[hT]using .v _ _ (.int _ _),by simp[hT]⟩
 ·rename_i nm k hT
  obtain⟨e,hu⟩:=i6 hT
  cases hx with
  |msl _ _ _ hx Bw=>
  obtain⟨o,n,aD,hlen,hk,cV⟩:=hx
  simp only[aD,Option.bind_some,hlen,Option.some.injEq]at aa
  have e:=cV aa.symm
  subst e
  subst aa
  obtain⟨b,c,h1,_⟩:=DS (P:=P) hC aD hlen
  rw[h1]
  exact⟨.int .i64 n,by simp[Builtin.len_,run_underlying hu,goInt],by simpa[hT]using .v _ _ (.int _ _),by simp[hT]⟩
 ·rename_i s hT
  have hu:=dq hT
  cases hx with
  |v _ _ hx=>
  cases hx
  exact⟨.int .i64 s.size,by simp[Builtin.len_,run_underlying hu,goInt],by simpa[hT]using .v _ _ (.int _ _),by simp[hT]⟩
 ·rename_i hT
  obtain⟨k,e,hu⟩:=Pe hT
  cases hx
  exact⟨.int .i64 0,by simp[Builtin.len_,run_underlying hu,goInt],by simpa[hT]using .v _ _ (.int _ _),by simp[hT]⟩
 ·rename_i nm hT
  obtain⟨k,e,hu⟩:=Pe hT
  cases hx with
  |map _ hx=>
  split at aa
  ·rename_i kd es aD
   obtain⟨g0,g1,_,ents,clock,g2,g3,g4⟩:=hC.objs nm _ aD
   refine⟨.int .i64 es.length,?_,by simpa[hT,aD]using .v _ _ (.int _ _),by simp[hT,aD]⟩
   simp[Builtin.len_,run_underlying hu,MapKept.run_getObj_map g2,goInt,g3]
  ·exact aa.elim
 ·exact aa.elim
def ie:Option D->Option Int
 |none=>some 0
 |some (.v (.int _ n))=>some n
 |_=>none
def lB(n:Nat):Option D->Option Int
 |none=>some n
 |some (.v (.int _ k))=>some k
 |_=>none
def kS(P:Program)(obj:Name->Option O)(T:TypeId)(x:D)(lo hi mx:Option D):R:=
 match mx,x with
 |none,.v (.sl l)=>match cC P T,ie lo,lB l.length hi with
  |some (_,sz,_),some i,some j=>⟨0<=i/\i<=j/\j<=l.length/\(∀ x∈l,x.cells.length=sz),.v (.sl ((l.drop i.toNat).take (j.toNat-i.toNat))),obj⟩
  |_,_,_=>.bad obj
 |none,.nilsl=>match cC P T,ie lo,lB 0 hi with
  |some (_,_,_),some i,some j=>⟨i=0/\j=0,.nilsl,obj⟩
  |_,_,_=>.bad obj
 |none,.msl nm k=>match obj nm,cC P T,ie lo,lB k hi with
  |some (.arr s l),some (_,sz,_),some i,some j=>⟨k=l.length/\0<=i/\i<=j/\j<=l.length/\(∀ x∈l,x.cells.length=sz),.v (.sl ((l.drop i.toNat).take (j.toNat-i.toNat))),upd obj nm (some (.farr s l))⟩
  |some (.farr s l),some (_,sz,_),some i,some j=>⟨k=l.length/\0<=i/\i<=j/\j<=l.length/\(∀ x∈l,x.cells.length=sz),.v (.sl ((l.drop i.toNat).take (j.toNat-i.toNat))),obj⟩
  |_,_,_,_=>.bad obj
 |some (.v (.int _ 0)),.v (.sl _)=>match cC P T,ie lo,hi with
  |some _,some 0,some (.v (.int _ 0))=>⟨True,.nilsl,obj⟩
  |_,_,_=>.bad obj
 |some (.v (.int _ 0)),.nilsl=>match cC P T,ie lo,hi with
  |some _,some 0,some (.v (.int _ 0))=>⟨True,.nilsl,obj⟩
  |_,_,_=>.bad obj
 |some (.v (.int _ 0)),.msl nm k=>match cC P T,ie lo,hi with
  |some _,some 0,some (.v (.int _ 0))=>⟨(obj nm).bind O.len?=some k,.nilsl,obj⟩
  |_,_,_=>.bad obj
 |none,.v (.str s)=>match dM P T,ie lo,lB s.size hi with
  |some 1,some i,some j=>⟨0<=i/\i<=j/\j<=s.size,.v (.str (s.extract i.toNat j.toNat)),obj⟩
  |_,_,_=>.bad obj
 |_,_=>.bad obj
theorem run_sliceBound{P:Program}{k:IntKind}{n:Int}{y:Nat}{c:BoundsCode}(h0:0<=n)(h1:n<=y)(w:World):
 (Instr.sliceBound (.int k n) y c).run P w=.ok n.toNat w:=by
 simp[Instr.sliceBound,asIntOf,h0,h1]
def pP(φ:Name->Loc)(obj:Name->Option O)(m:Mem)(d:Option D)(u:Option Value):Prop:=
 match d,u with
 |none,none=>True
 |some d,some u=>aI φ obj m d u
 |_,_=>False
theorem Ay{P:Program}{φ:Name->Loc}{obj:Name->Option O}{m:Mem}{lo hi:Option D}{ulo uhi:Option Value}{len cap n:Nat}{i j:Int}(b:Bool)
 (eg:pP φ obj m lo ulo) (fP:pP φ obj m hi uhi) (e1:ie lo=some i) (e2:lB len hi=some j) (h0:0<=i) (h1:i<=j) (h2:j<=len) (h3:len<=cap) (w:World):
 (Instr.sliceBounds b len cap ulo uhi none).run P w=.ok (i.toNat,j.toNat,cap) w:=by
 have hh:(uhi=none/\j=len)\/∃ k,uhi=some (.int k j):=by
  cases hi with
  |none=>
   cases uhi with
   |none=>simp only[lB,Option.some.injEq]at e2;exact .inl ⟨rfl,e2.symm⟩
   |some=>exact fP.elim
  |some d=>
   cases uhi with
   |none=>exact fP.elim
   |some u=>
    have hd:aI φ obj m d u:=fP
    unfold lB at e2
    split at e2
    ·cases ‹some d=none›
    ·rename_i hq
     cases hq
     simp only[Option.some.injEq]at e2
     subst e2
     cases hd with
     |v _ _ hd=>cases hd;exact .inr ⟨_,rfl⟩
    ·cases e2
 have hl:(ulo=none/\i=0)\/∃ k,ulo=some (.int k i):=by
  cases lo with
  |none=>
   cases ulo with
   |none=>simp only[ie,Option.some.injEq]at e1;exact .inl ⟨rfl,e1.symm⟩
   |some=>exact eg.elim
  |some d=>
   cases ulo with
   |none=>exact eg.elim
   |some u=>
    have hd:aI φ obj m d u:=eg
    unfold ie at e1
    split at e1
    ·cases ‹some d=none›
    ·rename_i hq
     cases hq
     simp only[Option.some.injEq]at e1
     subst e1
     cases hd with
     |v _ _ hd=>cases hd;exact .inr ⟨_,rfl⟩
    ·cases e1
 rcases hh with⟨rfl,rfl⟩ | ⟨k1,rfl⟩
 ·rcases hl with⟨rfl,rfl⟩ | ⟨k2,rfl⟩
  ·simp[Instr.sliceBounds]
  ·simp[Instr.sliceBounds,run_sliceBound (P:=P) (k:=k2) (y:=len) (c:=.sliceB) h0 (by omega)]
 ·have hb:=run_sliceBound (P:=P) (k:=k1) (y:=cap) (c:=if b=true then .sliceAcap else .sliceAlen) (n:=j) (by omega) (by omega) w
  rcases hl with⟨rfl,rfl⟩ | ⟨k2,rfl⟩
  ·simp[Instr.sliceBounds,hb]
  ·simp[Instr.sliceBounds,hb,run_sliceBound (P:=P) (k:=k2) (y:=j.toNat) (c:=.sliceB) h0 (by omega)]
theorem aU.cut{P:Program}{m:Mem}{T:TypeId}{l:List V}{u:Value}(h:aU m (.sl l) u){sz:Nat}(i j:Nat)(bJ:i<=j)(hj:j<=l.length)(ef:∀ x∈l,x.cells.length=sz):
 ∃ b len cap,u=.slice b len cap/\len=l.length/\len<=cap/\aU m (.sl ((l.drop i).take (j-i))) (.slice (if cap=i then b else b.map (·.add (i*sz))) (j-i) (cap-i)):=by
 cases h with
 |slnil b cap=>exact⟨b,0,cap,rfl,rfl,Nat.zero_le _,by simp only[List.drop_nil,List.take_nil];simp at hj;rw[hj];simp;exact .slnil _ _⟩
 |sl _ b o cap mM c hn hl ka hs hc hr ho=>
  refine⟨some ⟨b,o,none⟩,l.length,cap,rfl,rfl,ka,?_⟩
  by_cases ae:i<j
  ·have aaC:mM=sz:=by
     have h0:0<l.length:=by omega
     rw[<-hs 0 h0];exact ef _ (List.getElem_mem h0)
   subst aaC
   rw[if_neg (by omega)]
   simp only[Option.map_some,nG]
   have hlen:((l.drop i).take (j-i)).length=j-i:=by simp;omega
   have :=aU.sl (m:=m) ((l.drop i).take (j-i)) b (o+i*mM) (cap-i) mM (fun p q=>c (i+p) q) (fun e=>by rw[e]at hlen;simp at hlen;omega) (by rw[hlen];omega) (by rw[hlen];omega)
    (fun p hp=>by simp only[List.getElem_take,List.getElem_drop];exact hs _ (by simp at hp;omega))
    (fun p q hp hq=>by
      have :=hc (i+p) q (by simp at hp;omega) hq
      rw[Nat.add_mul]at this
      rw[show o+i*mM+p*mM+q=o+(i*mM+p*mM)+q by omega];exact this)
    (fun p q hp hq=>by
      simp only[List.getElem_take,List.getElem_drop]at hq |-
      exact hr _ _ (by simp at hp;omega) hq)
    (fun p hp=>by simp only[List.getElem_take,List.getElem_drop];exact ho _ (by simp at hp;omega))
   rw[hlen]at this
   exact this
  ·have:j-i=0:=by omega
   rw[this,List.take_zero]
   exact .slnil _ _
theorem TT{P:Program}{T:TypeId}(h:dM P T=some 0):∃ e,P.underlying T=some (.slice e):=by
 unfold dM at h;split at h<;>simp_all
theorem JB{P:Program}{T:TypeId}(h:dM P T=some 1):P.underlying T=some .string:=by
 unfold dM at h;split at h<;>simp_all
theorem Aq{P:Program}{T e:TypeId}(hu:P.underlying T=some (.slice e))(x:Value)(lo hi mx:Option Value)(w:World):
 (Instr.sliceAt T x lo hi mx).run P w=(Instr.slice T x lo hi mx).run P w:=by
 simp[Instr.sliceAt,run_underlying hu]
theorem D7{P:Program}{T e:TypeId}(hu:P.underlying T=some (.slice e)){it:TypeInfo}(iw:P.info? e=some it)(b:Option Addr)(len cap:Nat){k1 k2 k3:IntKind}{ulo:Option Value}
 (hl:ulo=none\/ulo=some (.int k1 0)) (w:World):
 (Instr.sliceAt T (.slice b len cap) ulo (some (.int k2 0)) (some (.int k3 0))).run P w=.ok (.slice b 0 0) w:=by
 have hb:=fun (k:IntKind) (y:Nat) (c:BoundsCode)=>run_sliceBound (P:=P) (k:=k) (y:=y) (c:=c) (n:=0) (Int.le_refl 0) (by omega) w
 rw[Aq hu]
 rcases hl with rfl | rfl<;>simp[Instr.slice,run_underlying hu,Instr.sliceBounds,hb,sizeOf,typeInfo,iw]
theorem D6{P:Program}{φ:Name->Loc}{obj:Name->Option O}{m m':Mem}{T e:TypeId}{sz by_:Nat}(hT:cC P T=some (e,sz,by_)){l:List V}{u:Value}(h:aU m' (.sl l) u){lo hi:Option D}{ulo uhi:Option Value}{i j:Int}
 (eg:pP φ obj m lo ulo) (fP:pP φ obj m hi uhi) (e1:ie lo=some i) (e2:lB l.length hi=some j) (h0:0<=i) (h1:i<=j) (h2:j<=l.length) (ef:∀ x∈l,x.cells.length=sz) (w:World):
 ∃ v,(Instr.sliceAt T u ulo uhi none).run P w=.ok v w/\aU m' (.sl ((l.drop i.toNat).take (j.toNat-i.toNat))) v:=by
 obtain⟨hu,it,iw,hs,_⟩:=jN hT
 obtain⟨b,len,cap,rfl,rfl,hc,hr⟩:=aU.cut (P:=P) (T:=T) h (sz:=sz) i.toNat j.toNat (by omega) (by omega) ef
 refine⟨_,?_,hr⟩
 rw[Aq hu]
 have hb:=Ay (P:=P) (cap:=cap) (n:=0) true eg fP e1 e2 h0 h1 h2 hc w
 simp only[Instr.slice,Sem.run_bind,run_underlying hu,Result.andThen_ok,hb]
 simp[sizeOf,typeInfo,iw,hs]
theorem Uo{P:Program}{G:Ghost}{φ:Name->Loc}{m:Mem}{σ:S}{a:Act}{w:World}(hC:aV G φ m σ a w){T:TypeId}{x:D}{u:Value}{lo hi mx:Option D}{ulo uhi xo:Option Value}
 (hx:aI φ σ.obj m x u) (eg:pP φ σ.obj m lo ulo) (fP:pP φ σ.obj m hi uhi) (ir:pP φ σ.obj m mx xo) (aa:(kS P σ.obj T x lo hi mx).ok):
 ∃ v w',(Instr.sliceAt T u ulo uhi xo).run P w=.ok v w'/\pS G σ a (kS P σ.obj T x lo hi mx) v w':=by
 have Gi:∀ {k:IntKind},pP φ σ.obj m (some (.v (.int k 0))) xo->xo=some (.int k 0):=by
  intro k h
  cases xo with
  |none=>exact h.elim
  |some v=>have h':aI φ σ.obj m (.v (.int k 0)) v:=h;cases h' with | v _ _ h'=>cases h';rfl
 have GH:∀ {k:IntKind},hi=some (.v (.int k 0))->uhi=some (.int k 0):=by
  intro k he
  subst he
  cases uhi with
  |none=>exact fP.elim
  |some v=>have h':aI φ σ.obj m (.v (.int k 0)) v:=fP;cases h' with | v _ _ h'=>cases h';rfl
 have Gn:ie lo=some 0->∃ k,ulo=none\/ulo=some (.int k 0):=by
  intro he
  cases lo with
  |none=>
   cases ulo with
   |none=>exact⟨.i64,.inl rfl⟩
   |some=>exact eg.elim
  |some d=>
   cases ulo with
   |none=>exact eg.elim
   |some v=>
    have hd:aI φ σ.obj m d v:=eg
    unfold ie at he
    split at he
    ·cases ‹some d=none›
    ·rename_i hq
     cases hq
     simp only[Option.some.injEq]at he
     subst he
     cases hd with
     |v _ _ hd=>cases hd;exact⟨_,.inr rfl⟩
    ·cases he
 have BL:∀ {y:Option Value},pP φ σ.obj m none y->y=none:=by
  intro y h;cases y with | none=>rfl | some=>exact h.elim
 unfold kS at aa |-
 split at aa
 ·rename_i l
  cases BL ir
  split at aa
  ·rename_i e sz by_ i j hT e1 e2
   obtain⟨h0,h1,h2,h3⟩:=aa
   cases hx with
   |v _ _ hx=>
   obtain⟨v,r1,r2⟩:=D6 hT hx eg fP e1 e2 h0 h1 h2 h3 w
   exact⟨v,w,r1,φ,m,by simpa[hT,e1,e2]using hC,by simpa[hT,e1,e2]using .v _ _ r2⟩
  ·exact aa.elim
 ·cases BL ir
  split at aa
  ·rename_i e sz by_ i j hT e1 e2
   obtain⟨rfl,rfl⟩:=aa
   cases hx with
   |nilsl b=>
   obtain⟨hu,it,iw,hs,_⟩:=jN hT
   have hb:=Ay (P:=P) (cap:=0) (n:=0) (len:=0) true eg fP e1 e2 (by omega) (by omega) (by omega) (by omega) w
   refine⟨.slice b 0 0,w,?_,φ,m,by simpa[hT,e1,e2]using hC,by simpa[hT,e1,e2]using .nilsl _⟩
   rw[Aq hu]
   simp only[Instr.slice,Sem.run_bind,run_underlying hu,Result.andThen_ok,hb]
   simp[sizeOf,typeInfo,iw]
  ·exact aa.elim
 ·rename_i nm k
  cases BL ir
  split at aa
  ·rename_i s l e sz by_ i j aD hT e1 e2
   obtain⟨hk,h0,h1,h2,h3⟩:=aa
   have hf:(aQ 1 σ.obj (.msl nm k))=⟨k=l.length,.sl l,upd σ.obj nm (some (.farr s l))⟩:=by simp[aQ,aD]
   obtain⟨m',a1,a2,a3,a4,_⟩:=qF 1 _ _ _ _ _ _ hC _ _ hx (by rw[hf];exact hk)
   rw[hf]at a2 a4
   subst hk
   obtain⟨v,r1,r2⟩:=D6 hT a4 eg fP e1 e2 h0 h1 h2 h3 w
   exact⟨v,w,r1,φ,m',by simpa[aD,hT,e1,e2]using a2,by simpa[aD,hT,e1,e2]using .v _ _ r2⟩
  ·rename_i s l e sz by_ i j aD hT e1 e2
   obtain⟨hk,h0,h1,h2,h3⟩:=aa
   have hf:(aQ 1 σ.obj (.msl nm k))=⟨k=l.length,.sl l,σ.obj⟩:=by simp[aQ,aD]
   obtain⟨m',a1,a2,a3,a4,_⟩:=qF 1 _ _ _ _ _ _ hC _ _ hx (by rw[hf];exact hk)
   rw[hf]at a2 a4
   subst hk
   obtain⟨v,r1,r2⟩:=D6 hT a4 eg fP e1 e2 h0 h1 h2 h3 w
   exact⟨v,w,r1,φ,m',by simpa[aD,hT,e1,e2]using a2,by simpa[aD,hT,e1,e2]using .v _ _ r2⟩
  ·exact aa.elim
 ·rename_i k l
  cases Gi ir
  split at aa
  ·rename_i p k2 hT e1
   obtain⟨e,sz,by_⟩:=p
   obtain⟨hu,it,iw,hs,_⟩:=jN hT
   cases GH rfl
   obtain⟨k1,hl⟩:=Gn e1
   cases hx with
   |v _ _ hx=>
   have i6:∃ b len cap,u=.slice b len cap:=by cases hx;exact⟨_,_,_,rfl⟩;exact⟨_,_,_,rfl⟩
   obtain⟨b,len,cap,rfl⟩:=i6
   exact⟨_,w,D7 hu iw b len cap hl w,φ,m,by simpa[hT,e1]using hC,by simpa[hT,e1]using .nilsl _⟩
  ·exact aa.elim
 ·rename_i k
  cases Gi ir
  split at aa
  ·rename_i p k2 hT e1
   obtain⟨e,sz,by_⟩:=p
   obtain⟨hu,it,iw,hs,_⟩:=jN hT
   cases GH rfl
   obtain⟨k1,hl⟩:=Gn e1
   cases hx with
   |nilsl b=>
   exact⟨_,w,D7 hu iw b 0 0 hl w,φ,m,by simpa[hT,e1]using hC,by simpa[hT,e1]using .nilsl _⟩
  ·exact aa.elim
 ·rename_i k0 nm k
  cases Gi ir
  split at aa
  ·rename_i p k2 hT e1
   obtain⟨e,sz,by_⟩:=p
   obtain⟨hu,it,iw,hs,_⟩:=jN hT
   cases GH rfl
   obtain⟨k1,hl⟩:=Gn e1
   cases hx with
   |msl _ _ _ hx Bw=>
   obtain⟨o,n,aD,hlen,hk,cV⟩:=hx
   simp only[aD,Option.bind_some,hlen,Option.some.injEq]at aa
   have e:=cV aa.symm
   subst e
   subst aa
   obtain⟨b,c,h1,_⟩:=DS (P:=P) hC aD hlen
   rw[h1]
   exact⟨_,w,D7 hu iw b _ c hl w,φ,m,by simpa[hT,e1]using hC,by simpa[hT,e1]using .nilsl _⟩
  ·exact aa.elim
 ·rename_i s
  cases BL ir
  split at aa
  ·rename_i i j hT e1 e2
   obtain⟨h0,h1,h2⟩:=aa
   have hu:=JB hT
   cases hx with
   |v _ _ hx=>
   cases hx with
   |str _ hs=>
   have hb:=Ay (P:=P) (cap:=s.size) (n:=0) (len:=s.size) false eg fP e1 e2 h0 h1 h2 (Nat.le_refl _) w
   refine⟨.string (s.extract i.toNat j.toNat),w,?_,φ,m,by simpa[hT,e1,e2]using hC,?_⟩
   ·simp only[Instr.sliceAt,Instr.slice,Sem.run_bind,run_underlying hu,Result.andThen_ok]
    simp[hb]
   ·simp only[hT,e1,e2]
    refine .v _ _ (.str _ ?_)
    rw[ByteArray.size_extract];omega
  ·exact aa.elim
 ·exact aa.elim
def aO(obj:Name->Option O)(x:D):Prop×List V:=
 match x with
 | .v (.sl l)=>(True,l)
 | .nilsl=>(True,[])
 | .msl nm k=>match obj nm with
   |some (.arr _ l)=>(k=l.length,l)
   |some (.farr _ l)=>(k=l.length,l)
   |_=>(False,[])
 |_=>(False,[])
theorem AS{v:Value}(h:gN v=true):v.oneCell'=true:=by cases v<;>simp_all[gN,Value.oneCell']
structure Reads (m:Mem) (w:World) (l:List V) (sz:Nat) (b:Option Addr) (cap:Nat) (c:Nat->Nat->Value):Prop where
 aiT:l.length<=cap
 cell:l≠[]->∃ blk o,b=some ⟨blk,o,none⟩/\∀ i j,i<l.length->j<sz->w.cell? ⟨blk,o+i*sz+j,none⟩=some (c i j)
 rep:∀ i j (h:i<l.length) (h':j<l[i].cells.length),aU m l[i].cells[j] (c i j)
 one:∀ i j (_:i<l.length),j<sz->gN (c i j)=true
 oneV:∀ i (h:i<l.length),∀ y∈l[i].cells,y.one=true
theorem qk{α:Type}{l:List α}(h:l≠[]):0<l.length:=by cases l<;>simp_all
theorem rv{G:Ghost}{φ:Name->Loc}{m:Mem}{σ:S}{a:Act}{w:World}(hC:aV G φ m σ a w){x:D}{u:Value}(hx:aI φ σ.obj m x u){sz:Nat}
 (aa:(aO σ.obj x).1) (ef:∀ y∈(aO σ.obj x).2,y.cells.length=sz):
 ∃ b cap c,u=.slice b (aO σ.obj x).2.length cap/\Reads m w (aO σ.obj x).2 sz b cap c:=by
 unfold aO at aa ef |-
 split at aa
 ·rename_i l
  cases hx with
  |v _ _ hx=>
  cases hx with
  |slnil b cap=>exact⟨b,cap,fun _ _=>undef,rfl,Nat.zero_le _,fun h=>(h rfl).elim,fun i j h=>by simp at h,fun i j h=>by simp at h,fun i h=>by simp at h⟩
  |sl _ b o cap mM c hn hl ka hs hc hr ho=>
   have h0:0<l.length:=qk hn
   have :mM=sz:=by rw[<-hs 0 h0];exact ef _ (List.getElem_mem h0)
   subst this
   exact⟨some ⟨b,o,none⟩,cap,c,rfl,ka,fun _=>⟨b,o,rfl,fun i j hi hj=>hC.mem _ _ _ (hc i j hi hj)⟩,hr,
    fun i j hi hj=>(hr i j hi (by rw[hs];exact hj)).one (ho i hi _ (List.getElem_mem _)),ho⟩
 ·cases hx with
  |nilsl b=>exact⟨b,0,fun _ _=>undef,rfl,Nat.zero_le _,fun h=>(h rfl).elim,fun i j h=>by simp at h,fun i j h=>by simp at h,fun i h=>by simp at h⟩
 ·rename_i nm k
  cases hx with
  |msl _ _ _ hx hu=>
  obtain⟨o,n,aD,hlen,hk,cV⟩:=hx
  split at aa
  ·rename_i s l dB
   rw[aD]at dB;cases dB
   simp only[aD]at ef |-
   simp only[O.len?,Option.some.injEq]at hlen
   subst hlen
   have e:=cV aa
   subst e
   rcases hC.objs nm _ aD with⟨h,h'⟩ | ⟨g0,g1,g2,g3,g4,us,T,f,g5,g6,g7,g8⟩
   ·subst h'
    simp only[Loc.slice,h,if_true]
    exact⟨_,0,fun _ _=>undef,rfl,Nat.zero_le _,fun h=>(h rfl).elim,fun i j h=>by simp at h,fun i j h=>by simp at h,fun i h=>by simp at h⟩
   ·simp only[Loc.slice,g0,Bool.false_eq_true,if_false]
    rw[aa]
    have tG:l≠[]->s=sz:=fun aH=>by
     have h0:0<l.length:=qk aH
     rw[<-g3 0 h0];exact ef _ (List.getElem_mem h0)
    refine⟨_,_,fun i j=>(us[(φ nm).off+i*s+j]?).getD undef,rfl,g1,fun aH=>⟨_,_,rfl,fun i j hi hj=>?_⟩,fun i j hi hj=>?_,fun i j hi hj=>?_,g4⟩
    ·have hs:=tG aH
     obtain⟨c,x1,x2⟩:=g8 i j hi (by rw[g3,hs];exact hj)
     rw[pK g5,<-hs,x1];rfl
    ·obtain⟨c,x1,x2⟩:=g8 i j hi hj
     rw[x1];exact x2
    ·have hs:=tG (by intro e;rw[e]at hi;simp at hi)
     obtain⟨c,x1,x2⟩:=g8 i j hi (by rw[g3,hs];exact hj)
     rw[x1];exact x2.one (g4 i hi _ (List.getElem_mem _))
  ·rename_i s l dB
   rw[aD]at dB;cases dB
   simp only[aD]at ef |-
   simp only[O.len?,Option.some.injEq]at hlen
   subst hlen
   have e:=cV aa
   subst e
   rcases hC.objs nm _ aD with⟨h,h'⟩ | ⟨g0,⟨g1,sh⟩,g2,g3,g4⟩
   ·subst h'
    simp only[Loc.slice,h,if_true]
    exact⟨_,0,fun _ _=>undef,rfl,Nat.zero_le _,fun h=>(h rfl).elim,fun i j h=>by simp at h,fun i j h=>by simp at h,fun i h=>by simp at h⟩
   ·simp only[Loc.slice,g0,Bool.false_eq_true,if_false]
    rw[aa]
    have tG:l≠[]->s=sz:=fun aH=>by
     have h0:0<l.length:=qk aH
     rw[<-g2 0 h0];exact ef _ (List.getElem_mem h0)
    refine⟨_,_,fun i j=>(m (φ nm).blk ((φ nm).off+i*s+j)).getD undef,rfl,g1,fun aH=>⟨_,_,rfl,fun i j hi hj=>?_⟩,fun i j hi hj=>?_,fun i j hi hj=>?_,g3⟩
    ·have hs:=tG aH
     obtain⟨c,x1,x2⟩:=g4 i j hi (by rw[g2,hs];exact hj)
     rw[<-hs,hC.mem _ _ _ x1,x1];rfl
    ·obtain⟨c,x1,x2⟩:=g4 i j hi hj
     rw[x1];exact x2
    ·have hs:=tG (by intro e;rw[e]at hi;simp at hi)
     obtain⟨c,x1,x2⟩:=g4 i j hi (by rw[g2,hs];exact hj)
     rw[x1];exact x2.one (g3 i hi _ (List.getElem_mem _))
  ·exact aa.elim
 ·exact aa.elim
def rowOf(c:Nat->Nat->Value)(n sz:Nat):List Value:=(List.range (n*sz)).map fun k=>c (k / sz) (k % sz)
theorem fi(c:Nat->Nat->Value)(n sz:Nat):(rowOf c n sz).length=n*sz:=by simp[rowOf]
theorem Cr{k n sz:Nat}(h:k<n*sz):k / sz<n/\k % sz<sz:=by
 have h0:0<sz:=by
  rcases Nat.eq_zero_or_pos sz with h' | h'
  ·subst h';simp at h
  ·exact h'
 exact⟨Nat.div_lt_of_lt_mul (by rwa [Nat.mul_comm]),Nat.mod_lt _ h0⟩
theorem mO(c:Nat->Nat->Value){n sz i j:Nat}(hi:i<n)(hj:j<sz):(rowOf c n sz)[i*sz+j]?=some (c i j):=by
 have h1:i*sz+j<n*sz:=by
  have :(i+1)*sz<=n*sz:=Nat.mul_le_mul_right _ (by omega)
  rw[Nat.add_mul,Nat.one_mul]at this;omega
 have h2:(i*sz+j) / sz=i:=by
  rw[Nat.mul_comm,Nat.mul_add_div (by omega),Nat.div_eq_of_lt hj,Nat.add_zero]
 have h3:(i*sz+j) % sz=j:=by
  rw[Nat.mul_comm,Nat.mul_add_mod,Nat.mod_eq_of_lt hj]
 simp[rowOf,h1,h2,h3]
theorem xK{w:World}{c:Nat->Nat->Value}{n sz blk o:Nat}(h:∀ i j,i<n->j<sz->w.cell? ⟨blk,o+i*sz+j,none⟩=some (c i j)):
 ∀ j v,(rowOf c n sz)[j]?=some v->w.cell? ((⟨blk,o,none⟩:Addr).add j)=some v:=by
 intro j v hv
 have hj:j<n*sz:=by
  have :=(List.getElem?_eq_some_iff.1 hv).1
  rwa [fi]at this
 obtain⟨h1,h2⟩:=Cr hj
 have e:j=j / sz*sz+j % sz:=by rw[Nat.mul_comm];exact(Nat.div_add_mod j sz).symm
 rw[e,mO c h1 h2]at hv
 cases hv
 rw[nG]
 have :=h _ _ h1 h2
 rw[Nat.add_assoc,<-e]at this
 exact this
theorem Reads.src{P:Program}{m:Mem}{w:World}{l:List V}{sz:Nat}{b:Option Addr}{cap:Nat}{c:Nat->Nat->Value}(r:Reads m w l sz b cap c){tx e':TypeId}(hk:P.underlying tx=some (.slice e')):
 Src P sz tx (.slice b l.length cap) l.length (rowOf c l.length sz) w:=by
 have mi:∀ v∈rowOf c l.length sz,v.oneCell'=true:=by
  intro v hv
  simp only[rowOf,List.mem_map,List.mem_range]at hv
  obtain⟨k,hk,rfl⟩:=hv
  obtain⟨h1,h2⟩:=Cr hk
  exact AS (r.one _ _ h1 h2)
 by_cases hl:l=[]
 ·subst hl
  simp only[List.length_nil]
  have e0:rowOf c 0 sz=[]:=by simp[rowOf]
  rw[e0]
  cases b with
  |none=>exact Src.ofNil (w:=w) hk cap
  |some ad=>exact Src.ofSlice (w:=w) hk ad 0 cap [] (by simp) (by simp) (by simp)
 ·obtain⟨blk,o,hb,hc⟩:=r.cell hl
  rw[hb]
  exact Src.ofSlice (w:=w) hk ⟨blk,o,none⟩ l.length cap _ (fi _ _ _) (xK hc) mi
def dm(P:Program)(obj:Name->Option O)(t:Name)(T1 T2:TypeId)(s x:D):R:=
 match cC P T1,cC P T2 with
 |some (e,sz,by_),some _=>match bp P e with
  |some z=>match s with
   | .nilsl=>⟨(aO obj x).1/\(∀ y∈(aO obj x).2,y.cells.length=sz/\y.okc=true)/\z.cells.size=sz/\(aO obj x).2.length*by_<=140737488355328/\(aO obj x).2.length<=maxLen/\obj (bj t)=none,
       .msl (bj t) (aO obj x).2.length,upd obj (bj t) (some (.arr sz (aO obj x).2))⟩
   | .msl nm k=>match obj nm with
     |some (.arr s' l)=>⟨(aO obj x).1/\(∀ y∈(aO obj x).2,y.cells.length=sz/\y.okc=true)/\z.cells.size=sz/\(l.length+(aO obj x).2.length)*by_<=140737488355328/\
        l.length+(aO obj x).2.length<=maxLen/\k=l.length/\s'=sz,
        .msl nm (l.length+(aO obj x).2.length),upd obj nm (some (.arr sz (l++(aO obj x).2)))⟩
     |_=>.bad obj
   |_=>.bad obj
  |none=>.bad obj
 |_,_=>.bad obj
theorem JY{φ:Name->Loc}{obj:Name->Option O}{m:Mem}{w':World}{B cap sz:Nat}{T:TypeId}{l1 l2:List V}{us:Array Value}
 (hB:w'.heap[B]?=some (.cells us T (0,0))) (ka:l1.length+l2.length<=cap) (abw:cap<=maxLen) (tC:cap*sz<=us.size)
 (h1:∀ i (h:i<l1.length),l1[i].cells.length=sz) (fZ:∀ i (h:i<l1.length),∀ x∈l1[i].cells,x.one=true)
 (h2:∀ i (h:i<l2.length),l2[i].cells.length=sz) (qE:∀ i (h:i<l2.length),∀ x∈l2[i].cells,x.one=true)
 (r1:∀ i j (h:i<l1.length) (h':j<l1[i].cells.length),∃ c,us[i*sz+j]?=some c/\aU m l1[i].cells[j] c)
 (r2:∀ i j (h:i<l2.length) (h':j<l2[i].cells.length),∃ c,us[(l1.length+i)*sz+j]?=some c/\aU m l2[i].cells[j] c):
 iD φ obj m (.arr sz (l1++l2)) ⟨B,0,cap,false,none⟩ w':=by
 refine .inr ⟨rfl,by simpa using ka,abw,fun i hi=>?_,fun i hi=>?_,us,T,(0,0),hB,rfl,by simpa using tC,fun i j hi hj=>?_⟩
 ·by_cases h:i<l1.length
  ·rw[List.getElem_append_left h];exact h1 i h
  ·rw[List.getElem_append_right (by omega)];exact h2 _ (by simp at hi;omega)
 ·by_cases h:i<l1.length
  ·rw[List.getElem_append_left h];exact fZ i h
  ·rw[List.getElem_append_right (by omega)];exact qE _ (by simp at hi;omega)
 ·simp only[Nat.zero_add]
  by_cases h:i<l1.length
  ·simp only[List.getElem_append_left h]at hj |-;exact r1 i j h hj
  ·simp only[List.getElem_append_right (show l1.length<=i by omega)]at hj |-
   have :=r2 (i-l1.length) j (by simp at hi;omega) hj
   rwa [show l1.length+(i-l1.length)=i by omega]at this
set_option maxHeartbeats 4000000 in
theorem UH{P:Program}{G:Ghost}{φ:Name->Loc}{m:Mem}{σ:S}{a:Act}{w:World}(hC:aV G φ m σ a w){t:Name}{T1 T2 ty:TypeId}{s x:D}{us ux:Value}
 (hs:aI φ σ.obj m s us) (hx:aI φ σ.obj m x ux) (aa:(dm P σ.obj t T1 T2 s x).ok):
 ∃ v w',(Builtin.append_ #[T1,T2] ty #[us,ux]).run P w=.ok v w'/\pS G σ a (dm P σ.obj t T1 T2 s x) v w':=by
 unfold dm at aa |-
 split at aa
 ·rename_i e sz by_ p uw oU
  obtain⟨e2,sz2,RL⟩:=p
  obtain⟨j6,i,hi,oK,GF⟩:=jN uw
  obtain⟨fX,_⟩:=jN oU
  split at aa
  ·rename_i z hz
   have yp:i.zero=some z:=by unfold bp at hz;simpa[hi]using hz
   have grown:∀ (base:Option Addr) (l1:List V) (cap:Nat) (lW:Nat->Nat->Value),us=.slice base l1.length cap->
       cap <l1.length+(aO σ.obj x).2.length->
       (aO σ.obj x).1->(∀ y∈(aO σ.obj x).2,y.cells.length=sz/\y.okc=true)->z.cells.size=sz->(l1.length+(aO σ.obj x).2.length)*by_<=140737488355328->
       l1.length+(aO σ.obj x).2.length<=maxLen->
       (∀ i (h:i<l1.length),l1[i].cells.length=sz)->(∀ i (h:i<l1.length),∀ x∈l1[i].cells,x.one=true)->
       (Builtin.firstCells i.size l1.length us).run P w.drew=.ok (rowOf lW l1.length sz).toArray w.drew->
       (∀ i j (h:i<l1.length) (h':j<l1[i].cells.length),aU m l1[i].cells[j] (lW i j))->
       ∃ w' fh arr,(Builtin.append_ #[T1,T2] ty #[us,ux]).run P w=.ok (.slice (some ⟨w.heap.size,0,none⟩) (l1.length+(aO σ.obj x).2.length) fh) w'/\
         w'={ w with heap:=w.heap.push (.cells arr e),drawn:=w.drawn+1 }/\
         ∀ φ' obj',iD φ' obj' m (.arr sz (l1++(aO σ.obj x).2)) ⟨w.heap.size,0,fh,false,none⟩ w':=by
    intro base l1 cap lW cV ae h1 h2 h3 h4 h5 h6 Hg GN FV
    obtain⟨b2,uR,c2,kH,r⟩:=rv hC hx h1 (fun y hy=>(h2 y hy).1)
    have cD:=r.src (P:=P) fX
    rw[<-kH]at cD
    have F6:=r.oneV
    have hn:0<l1.length+(aO σ.obj x).2.length:=by omega
    have GX:=nextslicecap_le (old:=cap) (need:=l1.length+(aO σ.obj x).2.length) ae
    subst cV
    have cP:=run_append_grow_src (P:=P) w T1 T2 ty e i z j6 hi yp base l1.length cap (rowOf lW l1.length sz) GN ux (aO σ.obj x).2.length
     (rowOf c2 (aO σ.obj x).2.length sz) (by rw[oK];exact cD) ae (by unfold maxLen at h5;omega)
     (by rw[GF];calc _<=2*(l1.length+(aO σ.obj x).2.length)*by_:=Nat.mul_le_mul_right _ GX
         _=2*((l1.length+(aO σ.obj x).2.length)*by_):=by rw[Nat.mul_assoc]
         _<=_:=by omega)
    refine⟨_,_,_,cP,rfl,fun φ' obj'=>?_⟩
    have bE:=grownCap_ge w (l1.length+(aO σ.obj x).2.length) cap e
    have hle:=grownCap_le_maxLen w (l1.length+(aO σ.obj x).2.length) cap e h5
    generalize grownCap w (l1.length+(aO σ.obj x).2.length) cap e=gc at *
    refine JY (w':={ w with heap:=w.heap.push _,drawn:=w.drawn+1 }) (T:=e) (us:=_) (by show (w.heap.push _)[w.heap.size]?=_;simp;rfl) bE hle ?_ h6 Hg (fun k hk=>(h2 _ (List.getElem_mem hk)).1) F6 ?_ ?_
    ·simp only[Array.size_append,List.size_toArray,List.length_append,fi,Builtin.zeroCells,Array.size_map,Array.size_range,h3]
     have :l1.length*sz+(aO σ.obj x).2.length*sz+(gc-(l1.length+(aO σ.obj x).2.length))*sz=gc*sz:=by
      rw[<-Nat.add_mul,<-Nat.add_mul];congr 1;omega
     omega
    ·intro q j hq hj
     have gV:j<sz:=by rw[<-h6 q hq];exact hj
     refine⟨lW q j,?_,FV q j hq hj⟩
     have aw:q*sz+j<l1.length*sz:=by
      have :(q+1)*sz<=l1.length*sz:=Nat.mul_le_mul_right _ (by omega)
      rw[Nat.add_mul,Nat.one_mul]at this;omega
     rw[Array.getElem?_append_left (by simp[fi];omega)]
     rw[List.getElem?_toArray,List.getElem?_append_left (by rw[fi];omega)]
     exact mO lW hq gV
    ·intro q j hq hj
     have gV:j<sz:=by rw[<-(h2 _ (List.getElem_mem hq)).1];exact hj
     refine⟨c2 q j,?_,r.rep q j hq hj⟩
     have aw:q*sz+j<(aO σ.obj x).2.length*sz:=by
      have :(q+1)*sz<=(aO σ.obj x).2.length*sz:=Nat.mul_le_mul_right _ (by omega)
      rw[Nat.add_mul,Nat.one_mul]at this;omega
     have e9:(l1.length+q)*sz+j=l1.length*sz+(q*sz+j):=by rw[Nat.add_mul];omega
     rw[e9,Array.getElem?_append_left (by simp[fi];omega)]
     rw[List.getElem?_toArray,List.getElem?_append_right (by rw[fi];omega),fi,Nat.add_sub_cancel_left]
     exact mO c2 hq gV
   split at aa
   ·
    obtain⟨h1,h2,h3,h4,h5,h6⟩:=aa
    try simp only[uw,oU,hz]
    cases hs with
    |nilsl base=>
    by_cases hl:(aO σ.obj x).2=[]
    ·obtain⟨b2,uR,c2,kH,r⟩:=rv hC hx h1 (fun y hy=>(h2 y hy).1)
     have cD:=r.src (P:=P) fX
     rw[<-kH]at cD
     rw[hl]at cD |-
     refine⟨.slice base 0 0,w,?_,?_⟩
     ·simp only[List.length_nil]at cD
      have e0:rowOf c2 0 sz=[]:=by simp[rowOf]
      rw[e0]at cD
      have hc:=cD.cells
      rw[<-oK]at hc
      cases base with
      |none=>simp[Builtin.append_,run_underlying j6,run_underlying fX,sizeOf,typeInfo,hi,cD.len,hc]
      |some ad=>simp[Builtin.append_,run_underlying j6,run_underlying fX,sizeOf,typeInfo,hi,cD.len,hc,storeCells]
     ·have bB:=Ext.new (φ:=φ) h6 ⟨0,0,0,true,base⟩ (.arr sz [])
      refine⟨upd φ (bj t) ⟨0,0,0,true,base⟩,m,hC.chg (w':=w) (bj t) (.arr sz []) ⟨0,0,0,true,base⟩ bB ⟨rfl,rfl,rfl,Nat.le_refl _⟩ (fun _ _ _=>rfl)
       (fun h=>by cases h) (.inl ⟨rfl,rfl⟩),?_⟩
      refine .msl _ _ _ ⟨_,_,aX _ _ _,rfl,by simp,fun _=>?_⟩ rfl
      rw[aX];rfl
    ·have cQ:=qk hl
     obtain⟨w',fh,arr,cP,oB,kJ⟩:=grown base [] 0 (fun _ _=>undef) rfl (by simpa using cQ) h1 h2 h3 (by simpa using h4) (by simpa using h5) (fun i h=>by simp at h) (fun i h=>by simp at h)
      (by
        have e0:rowOf (fun _ _=>undef) ([]:List V).length sz=[]:=by simp[rowOf]
        rw[e0]
        cases base with
        |none=>simp[Builtin.firstCells]
        |some ad=>simp[Builtin.firstCells,loadCells,loadCellsFrom]) (fun i j h=>by simp at h)
     refine⟨_,_,cP,?_⟩
     subst oB
     have bB:=Ext.new (φ:=φ) h6 ⟨w.heap.size,0,fh,false,none⟩ (.arr sz (aO σ.obj x).2)
     refine⟨upd φ (bj t) ⟨w.heap.size,0,fh,false,none⟩,m,hC.chg (bj t) _ ⟨w.heap.size,0,fh,false,none⟩ bB ⟨rfl,rfl,rfl,by show w.heap.size<=(w.heap.push _).size;simp⟩
      (fun b hb _=>oR hb) (fun _=>.inl (Nat.le_refl _)) (kJ _ _),?_⟩
     refine .msl _ _ _ ⟨_,_,aX _ _ _,rfl,by simp,fun _=>?_⟩ rfl
     rw[aX]
     simp[Loc.slice]
   ·rename_i nm k
    split at aa
    ·rename_i s' l aD
     obtain⟨h1,h2,h3,h4,h5,h6,h7⟩:=aa
     subst h7
     simp only[uw,oU,hz,aD]
     cases hs with
     |msl _ _ _ hs Bw=>
     obtain⟨o,n,dB,hlen,hk,cV⟩:=hs
     rw[aD]at dB;cases dB
     simp only[O.len?,Option.some.injEq]at hlen
     subst hlen
     have e9:=cV h6
     subst e9
     subst h6
     by_cases hl:(aO σ.obj x).2=[]/\(φ nm).nul=true
     ·obtain⟨hl,dD⟩:=hl
      have mn:l=[]:=by
       rcases hC.objs nm _ aD with⟨_,h⟩ | ⟨h,_⟩
       ·exact h
       ·rw[dD]at h;cases h
      subst mn
      obtain⟨b2,uR,c2,kH,r⟩:=rv hC hx h1 (fun y hy=>(h2 y hy).1)
      have cD:=r.src (P:=P) fX
      rw[<-kH]at cD
      rw[hl]at cD |-
      simp only[Loc.slice,dD,if_true]
      refine⟨.slice (φ nm).nb 0 0,w,?_,?_⟩
      ·simp only[List.length_nil]at cD
       have e0:rowOf c2 0 s'=[]:=by simp[rowOf]
       rw[e0]at cD
       have hc:=cD.cells
       rw[<-oK]at hc
       cases (φ nm).nb with
       |none=>simp[Builtin.append_,run_underlying j6,run_underlying fX,sizeOf,typeInfo,hi,cD.len,hc]
       |some ad=>simp[Builtin.append_,run_underlying j6,run_underlying fX,sizeOf,typeInfo,hi,cD.len,hc,storeCells]
      ·refine⟨φ,m,?_,?_⟩
       ·have:upd σ.obj nm (some (.arr s' ([]++[])))=σ.obj:=by
          have :=hM σ.obj nm
          rw[aD]at this
          simpa using this
        simp only[this]
        exact hC
       ·refine .msl _ _ _ ⟨_,_,aX _ _ _,rfl,by simp,fun _=>?_⟩ rfl
        simp[Loc.slice,dD]
     ·obtain⟨b2,uR,c2,kH,r⟩:=rv hC hx h1 (fun y hy=>(h2 y hy).1)
      have cD:=r.src (P:=P) fX
      rw[<-kH]at cD
      rcases hC.objs nm _ aD with⟨dD,mn⟩ | ⟨g0,g1,g2,g3,g4,bK,T',f,g5,g6,g7,g8⟩
      ·subst mn
       have aH:(aO σ.obj x).2≠[]:=fun e=>hl ⟨e,dD⟩
       have cQ:=qk aH
       simp only[Loc.slice,dD,if_true]at grown |-
       obtain⟨w',fh,arr,cP,oB,kJ⟩:=grown (φ nm).nb [] 0 (fun _ _=>undef) rfl (by simpa using cQ) h1 h2 h3 h4 h5 (fun i h=>by simp at h) (fun i h=>by simp at h)
        (by
          have e0:rowOf (fun _ _=>undef) ([]:List V).length s'=[]:=by simp[rowOf]
          rw[e0]
          cases (φ nm).nb with
          |none=>simp[Builtin.firstCells]
          |some ad=>simp[Builtin.firstCells,loadCells,loadCellsFrom]) (fun i j h=>by simp at h)
       refine⟨_,_,cP,?_⟩
       subst oB
       have bB:=Ext.grow (φ:=φ) (o':=.arr s' ([]++(aO σ.obj x).2)) aD rfl rfl (by simpa using cQ) ⟨w.heap.size,0,fh,false,none⟩
       refine⟨upd φ nm ⟨w.heap.size,0,fh,false,none⟩,m,hC.chg nm _ ⟨w.heap.size,0,fh,false,none⟩ bB ⟨rfl,rfl,rfl,by show w.heap.size<=(w.heap.push _).size;simp⟩
        (fun b hb _=>oR hb) (fun _=>.inl (Nat.le_refl _)) (kJ _ _),?_⟩
       refine .msl _ _ _ ⟨_,_,aX _ _ _,rfl,by simp,fun _=>?_⟩ rfl
       rw[aX]
       simp[Loc.slice]
      ·have lD:(φ nm).blk<w.heap.size:=(Array.getElem?_eq_some_iff.1 g5).1
       simp only[Loc.slice,g0,Bool.false_eq_true,if_false]at grown |-
       by_cases lq:l.length+(aO σ.obj x).2.length<=(φ nm).cap
       ·
        have yJ:(l.length+(aO σ.obj x).2.length)*s'<=(φ nm).cap*s':=Nat.mul_le_mul_right _ lq
        rw[Nat.add_mul]at yJ
        obtain⟨us2,k1,k2,k3⟩:=xJ P (φ nm).blk ((φ nm).off+l.length*s') T' f g6 (rowOf c2 (aO σ.obj x).2.length s') 0 bK w g5 (by rw[fi];omega)
         (fun v hv=>by
           have :=cD.one v hv
           cases v<;>simp_all[gN,Value.oneCell'])
        refine⟨.slice (some ⟨(φ nm).blk,(φ nm).off,none⟩) (l.length+(aO σ.obj x).2.length) (φ nm).cap,bZ w (φ nm).blk (.cells us2 T' f),?_,?_⟩
        ·have hc:=cD.cells
         rw[<-oK]at hc k3
         simp[Builtin.append_,run_underlying j6,run_underlying fX,sizeOf,typeInfo,hi,cD.len,hc,lq,nG,k3]
        ·have yC:iD (upd φ nm (φ nm)) (upd σ.obj nm (some (.arr s' (l++(aO σ.obj x).2)))) m (.arr s' (l++(aO σ.obj x).2)) (φ nm) (bZ w (φ nm).blk (.cells us2 T' f)):=by
           refine .inr ⟨g0,by simpa using lq,g2,fun q hq=>?_,fun q hq=>?_,us2,T',f,mK lD,g6,by rw[k1];exact g7,fun q j hq hj=>?_⟩
           ·by_cases h:q<l.length
            ·rw[List.getElem_append_left h];exact g3 q h
            ·rw[List.getElem_append_right (by omega)];exact(h2 _ (List.getElem_mem _)).1
           ·by_cases h:q<l.length
            ·rw[List.getElem_append_left h];exact g4 q h
            ·rw[List.getElem_append_right (by omega)]
             exact r.oneV _ _
           ·rw[k2]
            simp only[Nat.add_zero,fi]
            by_cases h:q<l.length
            ·simp only[List.getElem_append_left h]at hj |-
             have gV:j<s':=by rw[<-g3 q h];exact hj
             have aw:q*s'+j<l.length*s':=by
              have :(q+1)*s'<=l.length*s':=Nat.mul_le_mul_right _ (by omega)
              rw[Nat.add_mul,Nat.one_mul]at this;omega
             rw[if_neg (by omega)]
             exact g8 q j h hj
            ·simp only[List.getElem_append_right (show l.length<=q by omega)]at hj |-
             have tK:q-l.length<(aO σ.obj x).2.length:=by simp at hq;omega
             have gV:j<s':=by rw[<-(h2 _ (List.getElem_mem tK)).1];exact hj
             have aw:(q-l.length)*s'+j<(aO σ.obj x).2.length*s':=by
              have :(q-l.length+1)*s'<=(aO σ.obj x).2.length*s':=Nat.mul_le_mul_right _ (by omega)
              rw[Nat.add_mul,Nat.one_mul]at this;omega
             have e10:q*s'=l.length*s'+(q-l.length)*s':=by rw[<-Nat.add_mul];congr 1;omega
             rw[if_pos (by omega)]
             refine⟨c2 (q-l.length) j,?_,r.rep _ _ tK hj⟩
             rw[show (φ nm).off+q*s'+j-((φ nm).off+l.length*s')=(q-l.length)*s'+j by omega]
             exact mO c2 tK gV
         by_cases gE:(aO σ.obj x).2=[]
         ·have bB:=Ext.same (φ:=φ) (o':=.arr s' (l++(aO σ.obj x).2)) aD (by simp[O.len?,gE]) rfl
          have :=hC.chg (w':=bZ w (φ nm).blk (.cells us2 T' f)) nm (.arr s' (l++(aO σ.obj x).2)) (φ nm) bB ⟨rfl,rfl,rfl,by simp[bZ]⟩
           (fun b hb hn=>nW (by rcases hn with h | h; · rw[g0]at h;cases h
                                ·exact h))
           (fun _=>.inr ⟨⟨_,aD,rfl,g0⟩,rfl⟩) yC
          refine⟨_,m,this,?_⟩
          refine .msl _ _ _ ⟨_,_,aX _ _ _,rfl,by simp,fun _=>?_⟩ rfl
          rw[aX]
          simp[Loc.slice,g0]
         ·have cQ:=qk gE
          have bB:=Ext.grow (φ:=φ) (o':=.arr s' (l++(aO σ.obj x).2)) aD rfl rfl (by simp;omega) (φ nm)
          have :=hC.chg (w':=bZ w (φ nm).blk (.cells us2 T' f)) nm (.arr s' (l++(aO σ.obj x).2)) (φ nm) bB ⟨rfl,rfl,rfl,by simp[bZ]⟩
           (fun b hb hn=>nW (by rcases hn with h | h; · rw[g0]at h;cases h
                                ·exact h))
           (fun _=>.inr ⟨⟨_,aD,rfl,g0⟩,rfl⟩) yC
          refine⟨_,m,this,?_⟩
          refine .msl _ _ _ ⟨_,_,aX _ _ _,rfl,by simp,fun _=>?_⟩ rfl
          rw[aX]
          simp[Loc.slice,g0]
       ·
        have cQ:0<(aO σ.obj x).2.length:=by omega
        have cA:∀ i j,i<l.length->j<s'->w.cell? ⟨(φ nm).blk,(φ nm).off+i*s'+j,none⟩=some ((bK[(φ nm).off+i*s'+j]?).getD undef):=by
         intro i j hi hj
         obtain⟨c,x1,x2⟩:=g8 i j hi (by rw[g3];exact hj)
         rw[pK g5,x1];rfl
        obtain⟨w',fh,arr,cP,oB,kJ⟩:=grown (some ⟨(φ nm).blk,(φ nm).off,none⟩) l (φ nm).cap (fun i j=>(bK[(φ nm).off+i*s'+j]?).getD undef) rfl (by omega) h1 h2 h3 h4 h5 g3 g4
         (by
           have :=run_firstCells_some (P:=P) w.drew i.size l.length ⟨(φ nm).blk,(φ nm).off,none⟩ l.length (φ nm).cap (rowOf (fun i j=>(bK[(φ nm).off+i*s'+j]?).getD undef) l.length s')
            (by rw[fi,oK]) (by intro j v hv;simpa using xK cA j v hv)
           exact this)
         (fun i j hi hj=>by
           obtain⟨c,x1,x2⟩:=g8 i j hi hj
           rw[x1];exact x2)
        refine⟨_,_,cP,?_⟩
        subst oB
        have bB:=Ext.grow (φ:=φ) (o':=.arr s' (l++(aO σ.obj x).2)) aD rfl rfl (by simp;omega) ⟨w.heap.size,0,fh,false,none⟩
        refine⟨upd φ nm ⟨w.heap.size,0,fh,false,none⟩,m,hC.chg nm _ ⟨w.heap.size,0,fh,false,none⟩ bB ⟨rfl,rfl,rfl,by show w.heap.size<=(w.heap.push _).size;simp⟩
         (fun b hb _=>oR hb) (fun _=>.inl (Nat.le_refl _)) (kJ _ _),?_⟩
        refine .msl _ _ _ ⟨_,_,aX _ _ _,rfl,by simp,fun _=>?_⟩ rfl
        rw[aX]
        simp[Loc.slice]
    ·exact aa.elim
   ·exact aa.elim
  ·exact aa.elim
 ·exact aa.elim
end Go.Eng
