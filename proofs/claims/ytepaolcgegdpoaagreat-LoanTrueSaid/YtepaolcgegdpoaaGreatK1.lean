import Derived.Orders
import Derived.Below
import Derived.Laws.Cells
import Derived.Laws.Tables
import Derived.Laws.MakeOwn
import Derived.Deep.AppendSrc
import Derived.MapKept
import Derived.Laws.AppendOwn
/- Texts Eng1 to Eng10. -/
set_option linter.all false
namespace Go.Eng
open Go
def gX:Value->Bool
 | .agg _=>false
 | .tuple _=>false
 |_=>true
abbrev Name:=List Nat
abbrev Mem:=Nat->Nat->Option Value
structure Loc where
 blk:Nat
 off:Nat
 cap:Nat
 nul:Bool
 nb:Option Addr
def Loc.slice(p:Loc)(k:Nat):Value:=if p.nul then .slice p.nb 0 0 else .slice (some ⟨p.blk,p.off,none⟩) k p.cap
inductive V where
 |int (k:IntKind) (n:Int)
 |bool (b:Bool)
 |str (s:ByteArray)
 |sl (l:List V)
 |agg (l:List V)
 |tup (l:List V)
 |ptr (cs:List V)
 |nilp
 |clo (fn:Fn) (first caps:List V)
 |nilfn
 deriving Inhabited
def V.cells:V->List V
 | .agg l=>l
 |x=>[x]
def V.one:V->Bool
 | .agg _=>false
 | .tup _=>false
 |_=>true
inductive D where
 |v (x:V)
 |nilsl
 |nilmap
 |ref (nm:Name) (off:Nat)
 |msl (nm:Name) (k:Nat)
 |aref (nm:Name) (k i off:Nat)
 |map (nm:Name)
 |yld (nm:Name)
 |clo (fn:Fn) (first caps:List D)
 |agg (l:List D)
 |tup (l:List D)
 |any
 deriving Inhabited
def D.one:D->Bool
 | .v x=>x.one
 | .agg _=>false
 | .tup _=>false
 | .any=>false
 |_=>true
def D.cells:D->List D
 | .agg l=>l
 | .v (.agg l)=>l.map .v
 |x=>[x]
structure E where
 c:Bool
 d:D
inductive O where
 |box (cs:List D)
 |arr (sz:Nat) (l:List V)
 |map (kd:Nat) (es:List (V×V))
 |fbox (cs:List V)
 |farr (sz:Nat) (l:List V)
 |dead (sz n:Nat)
 |loop (env:List E) (ps:List Nat) (asg body:Code) (st:LoopState) (bM:Option Code)
def eB:Nat->V->Bool
 | 0,.int .i64 _=>true
 | 1,.str _=>true
 | 2,.agg [.int .i64 _,.int .i64 _]=>true
 |_,_=>false
def fO:V->V->Bool
 | .int _ a,.int _ b=>a==b
 | .str a,.str b=>a==b
 | .agg [.int _ a,.int _ b],.agg [.int _ c,.int _ d]=>a==c&&b==d
 |_,_=>false
def O.len?:O->Option Nat
 | .arr _ l=>some l.length
 | .farr _ l=>some l.length
 | .dead _ n=>some n
 |_=>none
def O.sz:O->Nat
 | .arr s _=>s
 | .farr s _=>s
 | .dead s _=>s
 |_=>0
def O.mut:O->Bool
 | .fbox _=>false
 | .farr _ _=>false
 | .dead _ _=>false
 |_=>true
structure S where
 nt:Nat
 env:Nat->E
 obj:Name->Option O
 pre:Name
 base:Nat
def upd{α β:Type}[DecidableEq α](f:α->β)(a:α)(b:β):α->β:=fun x=>if x=a then b else f x
theorem RT{α β:Type}[DecidableEq α](f:α->β)(a:α)(b:β)(x:α):upd f a b x=if x=a then b else f x:=rfl
theorem aS{α β:Type}[DecidableEq α](f:α->β)(a:α)(b:β):upd f a b a=b:=if_pos rfl
theorem aY{α β:Type}[DecidableEq α](f:α->β)(a:α)(b:β){x:α}(h:x≠a):upd f a b x=f x:=if_neg h
def dH{α β:Type}[DecidableEq α](z:β):List (α×β)->α->β
 |[],_=>z
 |(a,b)::r,x=>if x=a then b else dH z r x
inductive aO (m:Mem):V->Value->Prop
 |int (k:IntKind) (n:Int):aO m (.int k n) (.int k n)
 |bool (b:Bool):aO m (.bool b) (.bool b)
 |str (s:ByteArray) (h:s.size<=maxLen):aO m (.str s) (.string s)
 |slnil (a:Option Addr) (cap:Nat):aO m (.sl []) (.slice a 0 cap)
 |sl (l:List V) (b o cap sz:Nat) (c:Nat->Nat->Value) (hn:l≠[]) (hl:l.length<=maxLen) (jR:l.length<=cap)
    (hs:∀ i (h:i<l.length),(l[i].cells).length=sz)
    (hc:∀ i j,i<l.length->j<sz->m b (o+i*sz+j)=some (c i j))
    (hr:∀ i j (h:i<l.length) (h':j<(l[i].cells).length),aO m (l[i].cells)[j] (c i j))
    (ho:∀ i (h:i<l.length),∀ x∈l[i].cells,x.one=true):
    aO m (.sl l) (.slice (some ⟨b,o,none⟩) l.length cap)
 |agg (l:List V) (us:Array Value) (h:l.length=us.size) (ho:∀ x∈l,x.one=true)
    (hr:∀ i (h:i<l.length) (h':i<us.size),aO m l[i] us[i]):aO m (.agg l) (.agg us)
 |tup (l:List V) (us:Array Value) (h:l.length=us.size)
    (hr:∀ i (h:i<l.length) (h':i<us.size),aO m l[i] us[i]):aO m (.tup l) (.tuple us)
 |ptr (cs:List V) (b o:Nat) (c:Nat->Value) (ho:∀ y∈cs,y.one=true) (hc:∀ j,j<cs.length->m b (o+j)=some (c j))
    (hr:∀ j (h:j<cs.length),aO m cs[j] (c j)):aO m (.ptr cs) (.pointer (some ⟨b,o,none⟩))
 |nilp:aO m .nilp (.pointer none)
 |clo (fn:Fn) (fs cs:List V) (us vs:Array Value) (h1:fs.length=us.size) (h2:cs.length=vs.size)
    (ew:∀ i (h:i<fs.length) (h':i<us.size),aO m fs[i] us[i])
    (gh:∀ i (h:i<cs.length) (h':i<vs.size),aO m cs[i] vs[i]):aO m (.clo fn fs cs) (.func fn us vs)
 |nilfn:aO m .nilfn .nilFunc
def Mem.le(m m':Mem):Prop:=∀ b o v,m b o=some v->m' b o=some v
theorem Mem.le_refl(m:Mem):Mem.le m m:=fun _ _ _ h=>h
theorem Mem.le_trans{a b c:Mem}(h:Mem.le a b)(k:Mem.le b c):Mem.le a c:=fun _ _ _ x=>k _ _ _ (h _ _ _ x)
theorem aO.mono{m m':Mem}(hm:Mem.le m m'){x:V}{u:Value}(h:aO m x u):aO m' x u:=by
 induction h with
 |int k n=>exact .int k n
 |bool b=>exact .bool b
 |str s h=>exact .str s h
 |slnil a cap=>exact .slnil a cap
 |sl l b o cap sz c hn hl jR hs hc hr ho ih=>exact .sl l b o cap sz c hn hl jR hs (fun i j hi hj=>hm _ _ _ (hc i j hi hj)) ih ho
 |agg l us h ho hr ih=>exact .agg l us h ho ih
 |tup l us h hr ih=>exact .tup l us h ih
 |ptr x b o c ho hc hr ih=>exact .ptr x b o c ho (fun j hj=>hm _ _ _ (hc j hj)) ih
 |nilp=>exact .nilp
 |clo fn fs cs us vs h1 h2 ew gh pT pS=>exact .clo fn fs cs us vs h1 h2 pT pS
 |nilfn=>exact .nilfn
theorem aO.one{m:Mem}{x:V}{u:Value}(h:aO m x u)(hx:x.one=true):gX u=true:=by
 cases h<;>first | rfl | simp[V.one]at hx
theorem aO.cells{m:Mem}{x:V}{u:Value}(h:aO m x u):x.cells.length=u.cells.size:=by
 cases h<;>simp_all[V.cells,Value.cells]
theorem aO.cell{m:Mem}{x:V}{u:Value}(h:aO m x u)(i:Nat)(h1:i<x.cells.length)(h2:i<u.cells.size):aO m x.cells[i] u.cells[i]:=by
 cases h with
 |agg l us h ho hr=>exact hr i h1 h2
 |int k n=>simp only[V.cells,List.length_singleton,Nat.lt_one_iff]at h1;subst h1;exact .int k n
 |bool b=>simp only[V.cells,List.length_singleton,Nat.lt_one_iff]at h1;subst h1;exact .bool b
 |str s h=>simp only[V.cells,List.length_singleton,Nat.lt_one_iff]at h1;subst h1;exact .str s h
 |slnil a cap=>simp only[V.cells,List.length_singleton,Nat.lt_one_iff]at h1;subst h1;exact .slnil a cap
 |sl l b o cap sz c hn hl jR hs hc hr ho=>simp only[V.cells,List.length_singleton,Nat.lt_one_iff]at h1;subst h1;exact .sl l b o cap sz c hn hl jR hs hc hr ho
 |tup l us h hr=>simp only[V.cells,List.length_singleton,Nat.lt_one_iff]at h1;subst h1;exact .tup l us h hr
 |ptr x b o c ho hc hr=>simp only[V.cells,List.length_singleton,Nat.lt_one_iff]at h1;subst h1;exact .ptr x b o c ho hc hr
 |nilp=>simp only[V.cells,List.length_singleton,Nat.lt_one_iff]at h1;subst h1;exact .nilp
 |clo fn fs cs us vs a b c d=>simp only[V.cells,List.length_singleton,Nat.lt_one_iff]at h1;subst h1;exact .clo fn fs cs us vs a b c d
 |nilfn=>simp only[V.cells,List.length_singleton,Nat.lt_one_iff]at h1;subst h1;exact .nilfn
def sM(obj:Name->Option O)(nm:Name):Prop:=∃ o,obj nm=some o/\o.len?=none
inductive aH (φ:Name->Loc) (obj:Name->Option O) (m:Mem):D->Value->Prop
 |any (u:Value):aH φ obj m .any u
 |v (x:V) (u:Value) (h:aO m x u):aH φ obj m (.v x) u
 |nilsl (a:Option Addr):aH φ obj m .nilsl (.slice a 0 0)
 |nilmap:aH φ obj m .nilmap (.map none)
 |ref (nm:Name) (off:Nat) (h:sM obj nm):aH φ obj m (.ref nm off) (.pointer (some ⟨(φ nm).blk,(φ nm).off+off,none⟩))
 |map (nm:Name) (h:sM obj nm):aH φ obj m (.map nm) (.map (some (φ nm).blk))
 |yld (nm:Name) (h:sM obj nm):aH φ obj m (.yld nm) (.func (.yield (φ nm).blk) #[] #[])
 |msl (nm:Name) (k:Nat) (u:Value) (h:∃ o n,obj nm=some o/\o.len?=some n/\k<=n/\(k=n->u=(φ nm).slice k)) (hu:gX u=true):aH φ obj m (.msl nm k) u
 |aref (nm:Name) (k i off:Nat) (u:Value)
    (h:∃ o n,obj nm=some o/\o.len?=some n/\k<=n/\(k=n->u=.pointer (some ⟨(φ nm).blk,(φ nm).off+i*o.sz+off,none⟩))) (hu:gX u=true):
    aH φ obj m (.aref nm k i off) u
 |clo (fn:Fn) (fs cs:List D) (us vs:Array Value) (h1:fs.length=us.size) (h2:cs.length=vs.size)
    (ew:∀ i (h:i<fs.length) (h':i<us.size),aH φ obj m fs[i] us[i])
    (gh:∀ i (h:i<cs.length) (h':i<vs.size),aH φ obj m cs[i] vs[i]):aH φ obj m (.clo fn fs cs) (.func fn us vs)
 |agg (l:List D) (us:Array Value) (h:l.length=us.size) (ho:∀ d∈l,d.one=true)
    (hr:∀ i (h:i<l.length) (h':i<us.size),aH φ obj m l[i] us[i]):aH φ obj m (.agg l) (.agg us)
 |tup (l:List D) (us:Array Value) (h:l.length=us.size)
    (hr:∀ i (h:i<l.length) (h':i<us.size),aH φ obj m l[i] us[i]):aH φ obj m (.tup l) (.tuple us)
def Ext(φ φ':Name->Loc)(obj obj':Name->Option O):Prop:=
 ∀ nm o,obj nm=some o->∃ o',obj' nm=some o'/\
   ((o'.len?=o.len?/\φ' nm=φ nm/\o'.sz=o.sz)\/(∃ n n',o.len?=some n/\o'.len?=some n'/\n<n'))
theorem Ext.trans{φ φ' uy:Name->Loc}{obj obj' obj'':Name->Option O}(h:Ext φ φ' obj obj')(k:Ext φ' uy obj' obj''):Ext φ uy obj obj'':=by
 intro nm o ho
 obtain⟨o',dg,h1⟩:=h nm o ho
 obtain⟨DJ,Zg,h2⟩:=k nm o' dg
 refine⟨DJ,Zg,?_⟩
 rcases h1 with⟨a1,a2,a3⟩ | ⟨n,n',a1,a2,a3⟩<;>rcases h2 with⟨b1,b2,b3⟩ | ⟨k,k',b1,b2,b3⟩
 ·exact .inl ⟨b1.trans a1,b2.trans a2,b3.trans a3⟩
 ·exact .inr ⟨k,k',a1▸b1,b2,b3⟩
 ·exact .inr ⟨n,n',a1,b1.trans a2,a3⟩
 ·rw[a2]at b1;cases b1
  exact .inr ⟨n,k',a1,b2,by omega⟩
theorem Ext.refl(φ:Name->Loc)(obj:Name->Option O):Ext φ φ obj obj:=fun _ o h=>⟨o,h,.inl ⟨rfl,rfl,rfl⟩⟩
theorem aH.ext{φ φ':Name->Loc}{obj obj':Name->Option O}{m m':Mem}(hm:Mem.le m m')(hx:Ext φ φ' obj obj'){d:D}{u:Value}
 (h:aH φ obj m d u):aH φ' obj' m' d u:=by
 induction h with
 |any u=>exact .any u
 |v x u h=>exact .v x u (h.mono hm)
 |nilsl a=>exact .nilsl a
 |nilmap=>exact .nilmap
 |ref nm off h=>
  obtain⟨o,ho,hl⟩:=h
  obtain⟨o',dg,h⟩:=hx nm o ho
  rcases h with⟨h1,h2,h3⟩ | ⟨n,n',h1,h2,h3⟩
  ·rw[<-h2];exact .ref nm off ⟨o',dg,h1.trans hl⟩
  ·rw[hl]at h1;cases h1
 |map nm h=>
  obtain⟨o,ho,hl⟩:=h
  obtain⟨o',dg,h⟩:=hx nm o ho
  rcases h with⟨h1,h2,h3⟩ | ⟨n,n',h1,h2,h3⟩
  ·rw[<-h2];exact .map nm ⟨o',dg,h1.trans hl⟩
  ·rw[hl]at h1;cases h1
 |yld nm h=>
  obtain⟨o,ho,hl⟩:=h
  obtain⟨o',dg,h⟩:=hx nm o ho
  rcases h with⟨h1,h2,h3⟩ | ⟨n,n',h1,h2,h3⟩
  ·rw[<-h2];exact .yld nm ⟨o',dg,h1.trans hl⟩
  ·rw[hl]at h1;cases h1
 |msl nm k u h hu=>
  obtain⟨o,n,ho,hl,hk,he⟩:=h
  obtain⟨o',dg,h⟩:=hx nm o ho
  rcases h with⟨h1,h2,h3⟩ | ⟨n1,n',h1,h2,h3⟩
  ·exact .msl nm k u ⟨o',n,dg,h1.trans hl,hk,fun e=>by rw[h2];exact he e⟩ hu
  ·rw[hl]at h1;cases h1
   exact .msl nm k u ⟨o',n',dg,h2,by omega,fun e=>by omega⟩ hu
 |aref nm k i off u h hu=>
  obtain⟨o,n,ho,hl,hk,he⟩:=h
  obtain⟨o',dg,h⟩:=hx nm o ho
  rcases h with⟨h1,h2,h3⟩ | ⟨n1,n',h1,h2,h3⟩
  ·exact .aref nm k i off u ⟨o',n,dg,h1.trans hl,hk,fun e=>by rw[h2,h3];exact he e⟩ hu
  ·rw[hl]at h1;cases h1
   exact .aref nm k i off u ⟨o',n',dg,h2,by omega,fun e=>by omega⟩ hu
 |clo fn fs cs us vs h1 h2 ew gh pT pS=>exact .clo fn fs cs us vs h1 h2 pT pS
 |agg l us h ho hr ih=>exact .agg l us h ho ih
 |tup l us h hr ih=>exact .tup l us h ih
theorem aH.one{φ:Name->Loc}{obj:Name->Option O}{m:Mem}{d:D}{u:Value}(h:aH φ obj m d u)(hx:d.one=true):gX u=true:=by
 cases h with
 |v x u h=>exact h.one hx
 |msl=>assumption
 |aref=>assumption
 |any=>simp[D.one]at hx
 |agg=>simp[D.one]at hx
 |tup=>simp[D.one]at hx
 |_=>rfl
theorem aH.cells{φ:Name->Loc}{obj:Name->Option O}{m:Mem}{d:D}{u:Value}(h:aH φ obj m d u)(hd:d≠ .any):d.cells.length=u.cells.size:=by
 have oa:∀ u:Value,gX u=true->u.cells.size=1:=by intro u hu;cases u<;>simp_all[Value.cells,gX]
 cases h with
 |v x u h=>
  have :=h.cells
  cases x<;>simp_all[D.cells,V.cells]
 |any=>exact(hd rfl).elim
 |msl nm k u h hu=>simp[D.cells,oa u hu]
 |aref nm k i off u h hu=>simp[D.cells,oa u hu]
 |agg l us h ho hr=>exact h
 |_=>rfl
theorem aH.cell{φ:Name->Loc}{obj:Name->Option O}{m:Mem}{d:D}{u:Value}(h:aH φ obj m d u)(hd:d≠ .any)(i:Nat)(h1:i<d.cells.length)(h2:i<u.cells.size):
 aH φ obj m d.cells[i] u.cells[i]:=by
 have one:∀ (h0:d.cells=[d]) (OC:u.cells= #[u]),aH φ obj m d.cells[i] u.cells[i]:=by
  intro h0 OC
  have fU:=h1
  rw[h0]at fU
  simp only[List.length_singleton,Nat.lt_one_iff]at fU
  subst fU
  simp only[h0,OC,List.getElem_cons_zero,List.getElem_toArray]
  exact h
 have oa:∀ u:Value,gX u=true->u.cells= #[u]:=by intro u hu;cases u<;>simp_all[Value.cells,gX]
 cases h with
 |v x u h=>
  cases h with
  |agg l us hl ho hr=>
   simp only[D.cells,List.length_map]at h1
   simp only[D.cells,List.getElem_map,Value.cells]
   exact .v _ _ (hr i h1 h2)
  |_=>exact one rfl rfl
 |any=>exact(hd rfl).elim
 |msl nm k u h hu=>exact one rfl (oa u hu)
 |aref nm k i off u h hu=>exact one rfl (oa u hu)
 |agg l us h ho hr=>exact hr i h1 h2
 |_=>exact one rfl rfl
def cL(φ:Name->Loc)(obj:Name->Option O)(m:Mem)(e:E)(u:Value):Prop:=
 if e.c=true then aH φ obj m e.d u else u=undef
theorem cL.ext{φ φ':Name->Loc}{obj obj':Name->Option O}{m m':Mem}(hm:Mem.le m m')(hx:Ext φ φ' obj obj'){e:E}{u:Value}
 (h:cL φ obj m e u):cL φ' obj' m' e u:=by
 unfold cL at *
 split<;>simp_all
 exact h.ext hm hx
structure Ghost where
 w0:World
 m0:Mem
 ob:Nat->Prop
 rd:Option Nat
 φ0:Name->Loc
 obj0:Name->Option O
 rdok:∀ l,rd=some l->¬ ob l/\∃ r,w0.heap[l]?=some (.loop r)
def own(p:Name):Name->Bool
 |[]=>false
 |_::r=>r==p||own p r
def ig(φ:Name->Loc)(obj:Name->Option O)(m:Mem)(o:O)(p:Loc)(w:World):Prop:=
 match o with
 | .box cs=>p.off=0/\p.nul=false/\(∀ d∈cs,d.one=true)/\∃ us T f,w.heap[p.blk]?=some (.cells us T f)/\f.1=f.2/\us.size=cs.length/\
     ∀ i (h:i<cs.length) (h':i<us.size),aH φ obj m cs[i] us[i]
 | .arr sz l=>(p.nul=true/\l=[])\/(p.nul=false/\l.length<=p.cap/\p.cap<=maxLen/\(∀ i (h:i<l.length),(l[i].cells).length=sz)/\
     (∀ i (h:i<l.length),∀ x∈l[i].cells,x.one=true)/\∃ us T f,w.heap[p.blk]?=some (.cells us T f)/\f.1=f.2/\p.off+p.cap*sz<=us.size/\
     ∀ i j (h:i<l.length) (h':j<(l[i].cells).length),∃ c,us[p.off+i*sz+j]?=some c/\aO m (l[i].cells)[j] c)
 | .map kd es=>p.off=0/\p.nul=false/\(∀ q∈es,eB kd q.1=true)/\∃ ents clock,w.heap[p.blk]?=some (.map ents clock)/\ents.size=es.length/\
     ∀ i (h:i<es.length) (h':i<ents.size),aO m es[i].1 ents[i].key/\aO m es[i].2 ents[i].val
 | .fbox cs=>(∀ x∈cs,x.one=true)/\∀ i (h:i<cs.length),∃ c,m p.blk (p.off+i)=some c/\aO m cs[i] c
 | .farr sz l=>(p.nul=true/\l=[])\/(p.nul=false/\(l.length<=p.cap/\l.length<=maxLen)/\(∀ i (h:i<l.length),(l[i].cells).length=sz)/\
     (∀ i (h:i<l.length),∀ x∈l[i].cells,x.one=true)/\
     ∀ i j (h:i<l.length) (h':j<(l[i].cells).length),∃ c,m p.blk (p.off+i*sz+j)=some c/\aO m (l[i].cells)[j] c)
 | .dead _ n=>(p.nul=true/\n=0)\/(p.nul=false/\n<=p.cap)
 | .loop env ps asg body st bM=>p.off=0/\p.nul=false/\∃ r:Loop,w.heap[p.blk]?=some (.loop r)/\r.state=st/\r.pending=bM/\r.params.toList=ps/\r.assign=asg/\r.body=body/\
     r.tmps.size=env.length/\∀ i (h:i<env.length),cL φ obj m env[i] (r.tmps.getD i undef)
def holds(φ:Name->Loc)(obj:Name->Option O)(nm:Name):Prop:=∃ o,obj nm=some o/\o.mut=true/\(φ nm).nul=false
structure Fr (G:Ghost) (w:World):Prop where
 os:w.os=G.w0.os
 tape:w.tape=G.w0.tape
 output:w.output=G.w0.output
 size:G.w0.heap.size<=w.heap.size
 block:∀ b,b<G.w0.heap.size->¬ G.ob b->w.heap[b]?=G.w0.heap[b]?
structure aQ (G:Ghost) (φ:Name->Loc) (m:Mem) (σ:S) (a:Act) (w:World):Prop where
 tmps:∀ t,cL φ σ.obj m (σ.env t) (a.tmps.getD t undef)
 size:a.tmps.size=σ.nt
 defers:∃ ds:List Nat,a.defers=ds.map (fun D=>{ target:=.collected D,args:= #[] })/\ds.Nodup/\∀ D∈ds,G.w0.heap.size<=D/\w.heap[D]?=some (.deferred (some []))
 objs:∀ nm o,σ.obj nm=some o->ig φ σ.obj m o (φ nm) w
 mem:∀ b off v,m b off=some v->w.cell? ⟨b,off,none⟩=some v
 apart:∀ nm,holds φ σ.obj nm->∀ off,m (φ nm).blk off=none
 inj:∀ nm kP,holds φ σ.obj nm->holds φ σ.obj kP->(φ nm).blk=(φ kP).blk->nm=kP
 own:∀ nm,holds φ σ.obj nm->G.w0.heap.size<=(φ nm).blk\/G.ob (φ nm).blk
 fr:Fr G w
 fresh:∀ b off v,m b off=some v->G.m0 b off=some v\/G.w0.heap.size<=b\/G.ob b
 kept:(∀ nm o,G.obj0 nm=some o->Go.Eng.own σ.pre nm=false)/\Ext G.φ0 φ G.obj0 σ.obj
theorem o9{w:World}{b off:Nat}{s:Option Nat}{v:Value}(h:w.cell? ⟨b,off,s⟩=some v):b<w.heap.size:=by
 unfold World.cell? at h
 simp only at h
 cases hh:w.heap[b]? with
 |none=>simp[hh]at h
 |some o=>exact(Array.getElem?_eq_some_iff.1 hh).1
theorem rV{w w':World}{b off:Nat}{s:Option Nat}(h:w'.heap[b]?=w.heap[b]?):w'.cell? ⟨b,off,s⟩=w.cell? ⟨b,off,s⟩:=by
 unfold World.cell?
 simp only[h]
theorem ig.lt{φ:Name->Loc}{obj:Name->Option O}{m:Mem}{o:O}{p:Loc}{w:World}(h:ig φ obj m o p w)(hm:o.mut=true)(hn:p.nul=false):p.blk<w.heap.size:=by
 cases o with
 |box cs=>obtain⟨_,_,_,us,T,f,h,_⟩:=h;exact(Array.getElem?_eq_some_iff.1 h).1
 |arr sz l=>
  rcases h with⟨h,_⟩ | ⟨_,_,_,_,_,us,T,f,h,_⟩
  ·rw[h]at hn;cases hn
  ·exact(Array.getElem?_eq_some_iff.1 h).1
 |map kd es=>obtain⟨_,_,_,us,T,h,_⟩:=h;exact(Array.getElem?_eq_some_iff.1 h).1
 |loop=>obtain⟨_,_,r,h,_⟩:=h;exact(Array.getElem?_eq_some_iff.1 h).1
 |fbox=>cases hm
 |farr=>cases hm
 |dead=>cases hm
theorem ig.notDef{φ:Name->Loc}{obj:Name->Option O}{m:Mem}{o:O}{p:Loc}{w:World}(h:ig φ obj m o p w)(hm:o.mut=true)(hn:p.nul=false)(x:Option (List Deferred)):
 w.heap[p.blk]?≠some (.deferred x):=by
 intro hx
 cases o with
 |box cs=>obtain⟨_,_,_,us,T,f,h,_⟩:=h;rw[h]at hx;cases hx
 |arr sz l=>
  rcases h with⟨h,_⟩ | ⟨_,_,_,_,_,us,T,f,h,_⟩
  ·rw[h]at hn;cases hn
  ·rw[h]at hx;cases hx
 |map kd es=>obtain⟨_,_,_,us,T,h,_⟩:=h;rw[h]at hx;cases hx
 |loop=>obtain⟨_,_,r,h,_⟩:=h;rw[h]at hx;cases hx
 |fbox=>cases hm
 |farr=>cases hm
 |dead=>cases hm
theorem ig.ext{φ φ':Name->Loc}{obj obj':Name->Option O}{m m':Mem}{o:O}{p:Loc}{w w':World}(hm:Mem.le m m')(hx:Ext φ φ' obj obj')
 (hw:o.mut=true->p.nul=false->w'.heap[p.blk]?=w.heap[p.blk]?) (h:ig φ obj m o p w):ig φ' obj' m' o p w':=by
 cases o with
 |box cs=>
  obtain⟨h0,h1,fU,us,T,f,h2,h3,h4,h5⟩:=h
  exact⟨h0,h1,fU,us,T,f,by rw[hw rfl h1];exact h2,h3,h4,fun i a b=>(h5 i a b).ext hm hx⟩
 |arr sz l=>
  rcases h with⟨h,h'⟩ | ⟨h0,h1,h2,h3,h4,us,T,f,h5,h6,h7,h8⟩
  ·exact .inl ⟨h,h'⟩
  ·exact .inr ⟨h0,h1,h2,h3,h4,us,T,f,by rw[hw rfl h0];exact h5,h6,h7,fun i j a b=>let ⟨c,x,y⟩:=h8 i j a b;⟨c,x,y.mono hm⟩⟩
 |map kd es=>
  obtain⟨h0,h1,fU,us,T,h2,h3,h4⟩:=h
  exact⟨h0,h1,fU,us,T,by rw[hw rfl h1];exact h2,h3,fun i a b=>⟨(h4 i a b).1.mono hm,(h4 i a b).2.mono hm⟩⟩
 |fbox cs=>exact⟨h.1,fun i a=>let ⟨c,x,y⟩:=h.2 i a;⟨c,hm _ _ _ x,y.mono hm⟩⟩
 |farr sz l=>
  rcases h with⟨h,h'⟩ | ⟨h0,h1,h2,h3,h4⟩
  ·exact .inl ⟨h,h'⟩
  ·exact .inr ⟨h0,h1,h2,h3,fun i j a b=>let ⟨c,x,y⟩:=h4 i j a b;⟨c,hm _ _ _ x,y.mono hm⟩⟩
 |dead=>exact h
 |loop env ps asg body st bM=>
  obtain⟨h0,h1,r,h2,h3,h4,h5,h6,h7,h8,h9⟩:=h
  exact⟨h0,h1,r,by rw[hw rfl h1];exact h2,h3,h4,h5,h6,h7,h8,fun i a=>(h9 i a).ext hm hx⟩
theorem aQ.chg{G:Ghost}{φ:Name->Loc}{m:Mem}{σ:S}{a:Act}{w w':World}(hC:aQ G φ m σ a w)(nm:Name)(o':O)(p':Loc)
 (hx:Ext φ (upd φ nm p') σ.obj (upd σ.obj nm (some o')))
 (hw:w'.os=w.os/\w'.tape=w.tape/\w'.output=w.output/\w.heap.size<=w'.heap.size)
 (hb:∀ b,b<w.heap.size->(p'.nul=true\/b≠p'.blk)->w'.heap[b]?=w.heap[b]?)
 (hp:p'.nul=false->w.heap.size<=p'.blk\/(holds φ σ.obj nm/\(φ nm).blk=p'.blk))
 (hs:ig (upd φ nm p') (upd σ.obj nm (some o')) m o' p' w'):
 aQ G (upd φ nm p') m { σ with obj:=upd σ.obj nm (some o') } a w':=by
 have ab:∀ x,holds φ σ.obj x->(φ x).blk<w.heap.size:=fun x ⟨o,h1,h2,h3⟩=>(hC.objs x o h1).lt h2 h3
 have hold:∀ x,x≠nm->holds (upd φ nm p') (upd σ.obj nm (some o')) x->holds φ σ.obj x:=by
  rintro x aF ⟨o,h1,h2,h3⟩
  rw[aY _ _ _ aF]at h1
  rw[aY _ _ _ aF]at h3
  exact⟨o,h1,h2,h3⟩
 have dN:holds (upd φ nm p') (upd σ.obj nm (some o')) nm->p'.nul=false:=by
  rintro⟨o,h1,h2,h3⟩;rwa [aS]at h3
 have F1:∀ x,x≠nm->holds φ σ.obj x->p'.nul=false->(φ x).blk≠p'.blk:=by
  intro x aF bC hn e
  rcases hp hn with h | ⟨h,h'⟩
  ·have:=ab x bC;omega
  ·exact aF (hC.inj _ _ bC h (e.trans h'.symm))
 have kr:∀ b off v,m b off=some v->b<w.heap.size/\(p'.nul=true\/b≠p'.blk):=by
  intro b off v h
  have h1:=hC.mem b off v h
  refine⟨o9 h1,?_⟩
  cases hn:p'.nul with
  |true=>exact .inl rfl
  |false=>
   refine .inr fun e=>?_
   subst e
   rcases hp hn with h' | ⟨h',hU⟩
   ·have:=o9 h1;omega
   ·have:=hC.apart nm h' off;rw[hU,h]at this;cases this
 constructor
 ·exact fun t=>(hC.tmps t).ext (Mem.le_refl m) hx
 ·exact hC.size
 ·obtain⟨ds,h1,h2,h3⟩:=hC.defers
  refine⟨ds,h1,h2,fun D hD=>⟨(h3 D hD).1,?_⟩⟩
  have hk:=(h3 D hD).2
  rw[hb D (Array.getElem?_eq_some_iff.1 hk).1 ?_]
  ·exact hk
  ·cases hn:p'.nul with
   |true=>exact .inl rfl
   |false=>
    refine .inr fun e=>?_
    rcases hp hn with h' | ⟨⟨o,h4,h5,h6⟩,hU⟩
    ·have:=(Array.getElem?_eq_some_iff.1 hk).1;omega
    ·exact(hC.objs nm o h4).notDef h5 h6 _ (by rw[hU,<-e];exact hk)
 ·intro x o oU
  simp only at oU
  by_cases aF:x=nm
  ·subst aF
   rw[aS]at oU
   cases oU
   rw[aS]
   exact hs
  ·rw[aY _ _ _ aF]at oU
   rw[aY _ _ _ aF]
   refine(hC.objs x o oU).ext (Mem.le_refl m) hx fun h1 h2=>?_
   refine hb _ (ab x ⟨o,oU,h1,h2⟩) ?_
   cases hn:p'.nul with
   |true=>exact .inl rfl
   |false=>exact .inr (F1 x aF ⟨o,oU,h1,h2⟩ hn)
 ·intro b off v h
  obtain⟨h1,h2⟩:=kr b off v h
  rw[rV (hb b h1 h2)]
  exact hC.mem b off v h
 ·intro x bC off
  by_cases aF:x=nm
  ·subst aF
   rw[aS]
   cases hc:m p'.blk off with
   |none=>rfl
   |some v=>
    rcases(kr _ _ _ hc).2 with h | h
    ·rw[dN bC]at h;cases h
    ·exact(h rfl).elim
  ·rw[aY _ _ _ aF]
   exact hC.apart x (hold x aF bC) off
 ·intro x y bC hy e
  by_cases aF:x=nm
  ·by_cases mN:y=nm
   ·rw[aF,mN]
   ·subst aF
    rw[aS,aY _ _ _ mN]at e
    exact(F1 y mN (hold y mN hy) (dN bC) e.symm).elim
  ·by_cases mN:y=nm
   ·subst mN
    rw[aS,aY _ _ _ aF]at e
    exact(F1 x aF (hold x aF bC) (dN hy) e).elim
   ·rw[aY _ _ _ aF,aY _ _ _ mN]at e
    exact hC.inj _ _ (hold x aF bC) (hold y mN hy) e
 ·intro x bC
  by_cases aF:x=nm
  ·subst aF
   rw[aS]
   rcases hp (dN bC)with h | ⟨h,h'⟩
   ·exact .inl (Nat.le_trans hC.fr.size h)
   ·rw[<-h'];exact hC.own _ h
  ·rw[aY _ _ _ aF]
   exact hC.own x (hold x aF bC)
 ·obtain⟨h1,h2,h3,h4⟩:=hw
  refine⟨h1.trans hC.fr.os,h2.trans hC.fr.tape,h3.trans hC.fr.output,Nat.le_trans hC.fr.size h4,fun b dn ho=>?_⟩
  rw[hb b (Nat.lt_of_lt_of_le dn hC.fr.size) ?_]
  ·exact hC.fr.block b dn ho
  ·cases hn:p'.nul with
   |true=>exact .inl rfl
   |false=>
    refine .inr fun e=>?_
    subst e
    rcases hp hn with h | ⟨h,h'⟩
    ·have:=hC.fr.size;omega
    ·rcases hC.own _ h with hU | hU<;>rw[h']at hU
     ·omega
     ·exact ho hU
 ·exact hC.fresh
 ·exact⟨hC.kept.1,hC.kept.2.trans hx⟩
theorem aQ.imm{G:Ghost}{φ:Name->Loc}{m m':Mem}{σ:S}{a:Act}{w w':World}(hC:aQ G φ m σ a w)(hm:Mem.le m m')
 (hw:w'.os=w.os/\w'.tape=w.tape/\w'.output=w.output/\w.heap.size<=w'.heap.size)
 (hb:∀ b,b<w.heap.size->w'.heap[b]?=w.heap[b]?)
 (hn:∀ b off v,m' b off=some v->m b off=some v\/(w.heap.size<=b/\w'.cell? ⟨b,off,none⟩=some v)):
 aQ G φ m' σ a w':=by
 have ab:∀ x,holds φ σ.obj x->(φ x).blk<w.heap.size:=fun x ⟨o,h1,h2,h3⟩=>(hC.objs x o h1).lt h2 h3
 constructor
 ·exact fun t=>(hC.tmps t).ext hm (Ext.refl _ _)
 ·exact hC.size
 ·obtain⟨ds,h1,h2,h3⟩:=hC.defers
  exact⟨ds,h1,h2,fun D hD=>⟨(h3 D hD).1,(hb D (Array.getElem?_eq_some_iff.1 (h3 D hD).2).1).trans (h3 D hD).2⟩⟩
 ·exact fun x o oU=>(hC.objs x o oU).ext hm (Ext.refl _ _) fun h1 h2=>hb _ (ab x ⟨o,oU,h1,h2⟩)
 ·intro b off v h
  rcases hn b off v h with h' | h'
  ·have h1:=hC.mem b off v h'
   rw[rV (hb b (o9 h1))];exact h1
  ·exact h'.2
 ·intro x hx off
  cases hc:m' (φ x).blk off with
  |none=>rfl
  |some v=>
   rcases hn _ _ _ hc with h | h
   ·have:=hC.apart x hx off;rw[h]at this;cases this
   ·have:=ab x hx;omega
 ·exact hC.inj
 ·exact hC.own
 ·obtain⟨h1,h2,h3,h4⟩:=hw
  exact⟨h1.trans hC.fr.os,h2.trans hC.fr.tape,h3.trans hC.fr.output,Nat.le_trans hC.fr.size h4,fun b dn ho=>
   (hb b (Nat.lt_of_lt_of_le dn hC.fr.size)).trans (hC.fr.block b dn ho)⟩
 ·intro b off v h
  rcases hn b off v h with h' | h'
  ·exact hC.fresh b off v h'
  ·exact .inr (.inl (Nat.le_trans hC.fr.size h'.1))
 ·exact hC.kept
theorem aQ.put{G:Ghost}{φ:Name->Loc}{m:Mem}{σ:S}{a:Act}{w:World}(hC:aQ G φ m σ a w){t:Nat}{e:E}{v:Value}(ht:t<σ.nt)
 (he:cL φ σ.obj m e v):aQ G φ m { σ with env:=upd σ.env t e } (a.put (some t) v) w:=by
 refine⟨fun x=>?_,?_,hC.defers,hC.objs,hC.mem,hC.apart,hC.inj,hC.own,hC.fr,hC.fresh,hC.kept⟩
 ·have hs:t<a.tmps.size:=by rw[hC.size];exact ht
  simp only[Act.put]
  by_cases hx:x=t
  ·subst hx
   rw[aS]
   simp[Array.getD,hs]
   exact he
  ·rw[aY _ _ _ hx]
   have :=hC.tmps x
   simp only[Array.getD_eq_getD_getElem?]at this |-
   rw[Array.getElem?_setIfInBounds_ne (fun h=>hx h.symm)]
   exact this
 ·simp[Act.put,hC.size]
theorem aQ.drawn{G:Ghost}{φ:Name->Loc}{m:Mem}{σ:S}{a:Act}{w:World}(hC:aQ G φ m σ a w)(n:Nat):
 aQ G φ m σ a { w with drawn:=n }:=
 hC.imm (Mem.le_refl m) ⟨rfl,rfl,rfl,Nat.le_refl _⟩ (fun _ _=>rfl) (fun _ _ _ h=>.inl h)
def cV(w:World)(g:Nat)(o:Obj):World:={ w with heap:=w.heap.setIfInBounds g o }
theorem sg{w:World}{g:Nat}{o:Obj}(h:g<w.heap.size):(cV w g o).heap[g]?=some o:=by
 simp[cV,h]
theorem qy{w:World}{g b:Nat}{o:Obj}(h:b≠g):(cV w g o).heap[b]?=w.heap[b]?:=by
 simp only[cV]
 exact Array.getElem?_setIfInBounds_ne (fun e=>h e.symm)
theorem Ry{w:World}{g:Nat}{o o':Obj}:cV (cV w g o) g o'=cV w g o':=by
 simp[cV,Array.setIfInBounds_setIfInBounds]
theorem Sx{w:World}{g off:Nat}{us:Array Value}{T:TypeId}{f:Nat×Nat}(h:w.heap[g]?=some (.cells us T f))(v:Value):
 w.setCell ⟨g,off,none⟩ v=cV w g (.cells (us.setIfInBounds off v) T f):=by
 have hg:g<w.heap.size:=(Array.getElem?_eq_some_iff.1 h).1
 have he:w.heap[g]=.cells us T f:=by rw[Array.getElem?_eq_getElem hg]at h;simpa using h
 simp only[World.setCell,cV]
 congr 1
 apply Array.ext_getElem?
 intro i
 rw[Array.getElem?_modify]
 by_cases hi:g=i
 ·subst hi
  rw[if_pos rfl,h]
  simp[hg]
 ·rw[if_neg hi,Array.getElem?_setIfInBounds_ne hi]
theorem pc(b o j:Nat):(⟨b,o,none⟩:Addr).add j=⟨b,o+j,none⟩:=by
 unfold Addr.add;split<;>simp_all
theorem aaP{w:World}{g off:Nat}{us:Array Value}{T:TypeId}{f:Nat×Nat}(h:w.heap[g]?=some (.cells us T f))(hf:f.1=f.2):
 w.frozen? ⟨g,off,none⟩=false:=by
 obtain⟨lo,hi⟩:=f
 simp only at hf
 subst hf
 simp[World.frozen?,h]
theorem rU{w:World}{g off:Nat}{us:Array Value}{T:TypeId}{f:Nat×Nat}(h:w.heap[g]?=some (.cells us T f)):
 w.cell? ⟨g,off,none⟩=us[off]?:=by
 simp[World.cell?,h]
theorem wQ(P:Program)(g o:Nat)(T:TypeId)(f:Nat×Nat)(hf:f.1=f.2):∀ (vs:List Value) (i:Nat) (us:Array Value) (w:World),
 w.heap[g]?=some (.cells us T f)->o+i+vs.length<=us.size->(∀ v∈vs,gX v=true)->
 ∃ b9:Array Value,b9.size=us.size/\(∀ k,b9[k]?=if o+i<=k/\k<o+i+vs.length then vs[k-(o+i)]? else us[k]?)/\
   (storeCells ⟨g,o,none⟩ vs i).run P w=.ok () (cV w g (.cells b9 T f))
 |[],i,us,w,hg,_,_=>by
  refine⟨us,rfl,fun k=>?_,?_⟩
  ·rw[if_neg];simp only[List.length_nil];omega
  ·have:cV w g (.cells us T f)=w:=by
     simp only[cV]
     congr 1
     apply Array.ext_getElem?
     intro j
     by_cases hj:g=j
     ·subst hj;rw[hg];simp[(Array.getElem?_eq_some_iff.1 hg).1]
     ·rw[Array.getElem?_setIfInBounds_ne hj]
   simp[storeCells,this]
 |v::rest,i,us,w,hg,hl,ho=>by
  have vI:g<w.heap.size:=(Array.getElem?_eq_some_iff.1 hg).1
  have hi:o+i<us.size:=by simp at hl;omega
  have h1:(store (Addr.add ⟨g,o,none⟩ i) v).run P w=.ok () (cV w g (.cells (us.setIfInBounds (o+i) v) T f)):=by
   rw[pc,run_store P w _ v .plain (by have:=ho v (by simp);cases v<;>simp_all[gX,Value.oneCell'])]
   rw[rU hg,Array.getElem?_eq_getElem hi,aaP hg hf,Sx hg]
   rfl
  obtain⟨b9,hs,hk,hr⟩:=wQ P g o T f hf rest (i+1) (us.setIfInBounds (o+i) v) (cV w g (.cells (us.setIfInBounds (o+i) v) T f))
   (sg vI) (by simp at hl |-;omega) (fun x hx=>ho x (by simp[hx]))
  refine⟨b9,by simpa using hs,fun k=>?_,?_⟩
  ·rw[hk k]
   by_cases vG:o+i=k
   ·subst vG
    rw[if_neg (by omega),if_pos (by simp)]
    simp[hi]
   ·rw[Array.getElem?_setIfInBounds_ne vG]
    by_cases jN:o+(i+1)<=k/\k<o+(i+1)+rest.length
    ·rw[if_pos jN,if_pos (by simp;omega)]
     have :k-(o+i)=(k-(o+(i+1)))+1:=by omega
     rw[this,List.getElem?_cons_succ]
    ·rw[if_neg jN,if_neg (by simp;omega)]
  ·simp only[storeCells,Sem.run_bind,h1,Result.andThen_ok,hr,Ry]
theorem TV(P:Program)(w:World)(b o n:Nat)(f:Nat->Value)(h:∀ j,j<n->w.cell? ⟨b,o+j,none⟩=some (f j)):
 (loadCells ⟨b,o,none⟩ n).run P w=.ok ((List.range n).map f).toArray w:=
 run_loadCells w ⟨b,o,none⟩ n f fun j hj=>by rw[pc];exact h j hj
def Yn:TypeDesc->Bool
 | .struct _ | .array _ _=>true
 |_=>false
def bc(P:Program)(t:TypeId):Option (Bool×Nat):=
 match P.underlying t,P.info? t with
 |some d,some i=>some (Yn d,i.size)
 |_,_=>none
def bh(P:Program)(t:TypeId):Option Value:=(P.info? t).bind (·.zero)
def cr(P:Program)(t:TypeId):Option (TypeId×Nat×Nat):=
 match P.underlying t with
 |some (.slice e)=>(P.info? e).map fun i=>(e,i.size,i.bytes)
 |_=>none
def bW(P:Program)(t:TypeId)(f:Nat):Option (Nat×Nat×Bool):=
 match P.underlying t with
 |some (.struct fs)=>(fs[f]?).bind fun x=>(bc P x.type).map fun y=>(x.offset,y.2,y.1)
 |_=>none
def jC(P:Program)(t:TypeId):Option (Nat×Nat×Bool):=
 match P.underlying t with
 |some (.array n e)=>(bc P e).map fun y=>(n,y.2,y.1)
 |_=>none
def nG(P:Program)(t:TypeId):Option IntKind:=
 match P.underlying t with
 |some (.int k)=>some k
 |_=>none
theorem I'{P:Program}{t:TypeId}{b:Bool}{n:Nat}(h:bc P t=some (b,n))(w:World):(isAgg t).run P w=.ok b w:=by
 unfold bc at h
 split at h
 ·rename_i d i h1 h2
  simp only[Option.some.injEq,Prod.mk.injEq]at h
  unfold isAgg
  rw[Sem.run_bind,run_underlying h1 w]
  simp only[Result.andThen_ok]
  cases d<;>(rw[<-h.1];rfl)
 ·cases h
theorem uV{P:Program}{t:TypeId}{b:Bool}{n:Nat}(h:bc P t=some (b,n))(w:World):(sizeOf t).run P w=.ok n w:=by
 unfold bc at h
 split at h
 ·rename_i d i h1 h2
  simp only[Option.some.injEq,Prod.mk.injEq]at h
  simp[sizeOf,typeInfo,h2,h.2]
 ·cases h
theorem TU{P:Program}{t:TypeId}{b:Bool}{n:Nat}(h:bc P t=some (b,n)){w:World}{blk off:Nat}(f:Nat->Value)
 (hn:b=false->0<n) (hc:∀ j,j<n->w.cell? ⟨blk,off+j,none⟩=some (f j)):
 (loadVar t ⟨blk,off,none⟩).run P w=.ok (if b then .agg ((List.range n).map f).toArray else f 0) w:=by
 simp only[loadVar,Sem.run_bind,I' h,Result.andThen_ok,Sem.run_ite,uV h,TV P w blk off n f hc,Sem.run_pure,run_load]
 cases b
 ·have:=hc 0 (hn rfl)
  simp at this
  simp[this]
 ·simp
theorem I8{P:Program}{t:TypeId}{b:Bool}{n:Nat}(h:bc P t=some (b,n)){w:World}{g o:Nat}{us:Array Value}{T:TypeId}{f:Nat×Nat}
 (hf:f.1=f.2) (hg:w.heap[g]?=some (.cells us T f)) (v:Value) (hv:v.cells.size=n) (hl:o+n<=us.size) (ho:∀ c∈v.cells.toList,gX c=true):
 ∃ b9:Array Value,b9.size=us.size/\(∀ k,b9[k]?=if o<=k/\k<o+n then v.cells.toList[k-o]? else us[k]?)/\
   (storeVar t ⟨g,o,none⟩ v).run P w=.ok () (cV w g (.cells b9 T f)):=by
 obtain⟨b9,h1,h2,h3⟩:=wQ P g o T f hf v.cells.toList 0 us w hg (by simp[hv];omega) ho
 refine⟨b9,h1,fun k=>?_,?_⟩
 ·have:=h2 k
  simp only[Nat.add_zero,Array.length_toList,hv]at this
  exact this
 ·simp only[storeVar,Sem.run_bind,uV h,Result.andThen_ok,Sem.run_ite,hv,h3]
  simp
theorem jr{α:Type}{l:List α}{i:Nat}(h:i<l.length)(z:α):l.getD i z=l[i]:=by
 simp[List.getD,List.getElem?_eq_getElem h]
structure R where
 ok:Prop
 d:D
 obj:Name->Option O
def R.bad(obj:Name->Option O):R:=⟨False,.any,obj⟩
def va:Value->D
 | .int k n=>.v (.int k n)
 | .bool b=>.v (.bool b)
 | .pointer none=>.v .nilp
 | .slice none 0 0=>.nilsl
 | .map none=>.nilmap
 | .nilFunc=>.v .nilfn
 | .string s=>if s.size<=maxLen then .v (.str s)else .any
 |_=>.any
def jI:Value->D
 | .agg cs=>if (cs.toList.map va).all D.one=true then .agg (cs.toList.map va)else .any
 |v=>va v
theorem Kk{φ:Name->Loc}{obj:Name->Option O}{m:Mem}(u:Value):aH φ obj m (va u) u:=by
 unfold va
 split
 ·exact .v _ _ (.int _ _)
 ·exact .v _ _ (.bool _)
 ·exact .v _ _ .nilp
 ·exact .nilsl none
 ·exact .nilmap
 ·exact .v _ _ .nilfn
 ·split
  ·exact .v _ _ (.str _ (by assumption))
  ·exact .any _
 ·exact .any _
theorem u2{φ:Name->Loc}{obj:Name->Option O}{m:Mem}(u:Value):aH φ obj m (jI u) u:=by
 unfold jI
 split
 ·split
  ·rename_i cs h
   refine .agg _ _ (by simp) (fun d hd=>List.all_eq_true.1 h d hd) fun i h1 h2=>?_
   simp only[List.getElem_map,Array.getElem_toList]
   exact Kk _
  ·exact .any _
 ·exact Kk _
def uf:D->Option V
 | .v x=>some x
 | .nilsl=>some (.sl [])
 |_=>none
def wj:List D->Option (List V)
 |[]=>some []
 |d::r=>match uf d,wj r with
  |some x,some xs=>some (x::xs)
  |_,_=>none
def eH:D->Option V
 | .v x=>some x
 | .nilsl=>some (.sl [])
 | .agg l=>(wj l).map .agg
 |_=>none
theorem acG{φ:Name->Loc}{obj:Name->Option O}{m:Mem}{d:D}{u:Value}{x:V}(h:aH φ obj m d u)(hx:uf d=some x):aO m x u:=by
 cases h<;>simp[uf]at hx
 ·subst hx;assumption
 ·subst hx;exact .slnil _ _
theorem acH{d:D}{x:V}(hx:uf d=some x)(hd:d.one=true):x.one=true:=by
 cases d<;>simp[uf]at hx
 ·subst hx;exact hd
 ·subst hx;rfl
theorem QA:∀ {l:List D} {xs:List V},wj l=some xs->xs.length=l.length/\∀ i (h:i<l.length) (h':i<xs.length),uf l[i]=some xs[i]
 |[],xs,h=>by simp[wj]at h;subst h;simp
 |d::r,xs,h=>by
  simp only[wj]at h
  split at h
  ·rename_i x ys h1 h2
   simp only[Option.some.injEq]at h
   subst h
   obtain⟨h3,h4⟩:=QA h2
   refine⟨by simp[h3],fun i hi bK=>?_⟩
   cases i with
   |zero=>simpa using h1
   |succ i=>simpa using h4 i (by simpa using hi) (by simpa using bK)
  ·cases h
theorem pb{φ:Name->Loc}{obj:Name->Option O}{m:Mem}{d:D}{u:Value}{x:V}(h:aH φ obj m d u)(hx:eH d=some x):aO m x u:=by
 cases h with
 |agg l us hl ho hr=>
  simp only[eH,Option.map_eq_some_iff]at hx
  obtain⟨xs,h1,h2⟩:=hx
  subst h2
  obtain⟨h3,h4⟩:=QA h1
  refine .agg xs us (h3.trans hl) (fun y hy=>?_) fun i h5 h6=>acG (hr i (by omega) h6) (h4 i (by omega) h5)
  obtain⟨i,hi,rfl⟩:=List.mem_iff_getElem.1 hy
  exact acH (h4 i (by omega) hi) (ho _ (List.getElem_mem _))
 |v y u h=>simp[eH]at hx;subst hx;exact h
 |nilsl a=>simp[eH]at hx;subst hx;exact .slnil _ _
 |_=>simp[eH]at hx
def jV(P:Program)(obj:Name->Option O)(T:TypeId)(x:D):R:=
 match bc P T,x with
 |some (true,n),.v (.ptr cs)=>⟨n<=cs.length,.v (.agg (cs.take n)),obj⟩
 |some (false,1),.v (.ptr cs)=>⟨0<cs.length,.v (cs.getD 0 default),obj⟩
 |some (true,n),.ref nm off=>match obj nm with
  |some (.box cs)=>⟨off+n<=cs.length,.agg ((cs.drop off).take n),obj⟩
  |some (.fbox cs)=>⟨off+n<=cs.length,.v (.agg ((cs.drop off).take n)),obj⟩
  |_=>.bad obj
 |some (false,1),.ref nm off=>match obj nm with
  |some (.box cs)=>⟨off<cs.length,cs.getD off .any,obj⟩
  |some (.fbox cs)=>⟨off<cs.length,.v (cs.getD off default),obj⟩
  |_=>.bad obj
 |some (true,n),.aref nm k i off=>match obj nm with
  |some (.arr _ l) | some (.farr _ l)=>⟨k=l.length/\i<l.length/\off+n<=(l.getD i default).cells.length,.v (.agg (((l.getD i default).cells.drop off).take n)),obj⟩
  |_=>.bad obj
 |some (false,1),.aref nm k i off=>match obj nm with
  |some (.arr _ l) | some (.farr _ l)=>⟨k=l.length/\i<l.length/\off<(l.getD i default).cells.length,.v ((l.getD i default).cells.getD off default),obj⟩
  |_=>.bad obj
 |_,_=>.bad obj
theorem D3{P:Program}{φ:Name->Loc}{obj:Name->Option O}{m:Mem}{T:TypeId}{ag:Bool}{n:Nat}(hT:bc P T=some (ag,n))(hn:ag=false->n=1)
 {w:World} {b o:Nat} (ds:List D) (mS:n<=ds.length) (ho:∀ d∈ds,d.one=true)
 (hc:∀ j (h:j<ds.length),∃ c,w.cell? ⟨b,o+j,none⟩=some c/\aH φ obj m ds[j] c):
 ∃ v,(loadVar T ⟨b,o,none⟩).run P w=.ok v w/\aH φ obj m (if ag then .agg (ds.take n)else ds.getD 0 .any) v:=by
 refine⟨_,TU hT (fun j=>(w.cell? ⟨b,o+j,none⟩).getD undef) (fun h=>by rw[hn h];omega) (fun j hj=>?_),?_⟩
 ·obtain⟨c,h1,h2⟩:=hc j (by omega);simp[h1]
 ·cases ag with
  |true=>
   simp only[if_true]
   refine .agg _ _ (by simp;omega) (fun d hd=>ho d (List.mem_of_mem_take hd)) fun i h1 h2=>?_
   simp only[List.length_take]at h1
   obtain⟨c,h3,h4⟩:=hc i (by omega)
   simp only[List.getElem_take,List.getElem_toArray,List.getElem_map,List.getElem_range,h3,Option.getD_some]
   exact h4
  |false=>
   have :=hn rfl
   obtain⟨c,h3,h4⟩:=hc 0 (by omega)
   simp only[Nat.add_zero]at h3
   simp only[Bool.false_eq_true,if_false,Nat.add_zero,h3,Option.getD_some]
   rw[jr (by omega)]
   exact h4
theorem vn{P:Program}{φ:Name->Loc}{obj:Name->Option O}{m:Mem}{T:TypeId}{ag:Bool}{n:Nat}(hT:bc P T=some (ag,n))(hn:ag=false->n=1)
 {w:World} {b o:Nat} (xs:List V) (mS:n<=xs.length) (ho:∀ d∈xs,d.one=true)
 (hc:∀ j (h:j<xs.length),∃ c,w.cell? ⟨b,o+j,none⟩=some c/\aO m xs[j] c):
 ∃ v,(loadVar T ⟨b,o,none⟩).run P w=.ok v w/\aH φ obj m (.v (if ag then .agg (xs.take n)else xs.getD 0 default)) v:=by
 obtain⟨v,h1,h2⟩:=D3 (φ:=φ) (obj:=obj) (m:=m) hT hn (w:=w) (b:=b) (o:=o) (xs.map .v) (by simpa using mS) (by intro d hd;obtain⟨x,hx,rfl⟩:=List.mem_map.1 hd;exact ho x hx)
  (fun j h=>by
    obtain⟨c,h1,h2⟩:=hc j (by simpa using h)
    exact⟨c,h1,by simpa using .v _ _ h2⟩)
 refine⟨v,h1,?_⟩
 cases ag with
 |true=>
  simp only[if_true]at h2 |-
  cases h2 with
  |agg l us hl dg hr=>
   refine .v _ _ (.agg _ _ (by simpa using hl) (fun x hx=>ho x (List.mem_of_mem_take hx)) fun i h3 h4=>?_)
   have :=hr i (by simpa using h3) h4
   simp only[List.getElem_take,List.getElem_map]at this
   cases this with
   |v _ _ h=>simpa using h
 |false=>
  have :=hn rfl
  simp only[Bool.false_eq_true,if_false]at h2 |-
  rw[jr (by simp;omega)]at h2
  simp only[List.getElem_map]at h2
  rw[jr (by omega)]
  exact h2
theorem GL{α:Type}(l:List α)(n:Nat)(z:α):(l.drop n).getD 0 z=l.getD n z:=by
 simp[List.getD,List.getElem?_drop]
theorem Z7{α:Type}(l:List α)(z:α):l.headD z=l.getD 0 z:=by cases l<;>rfl
theorem IX{P:Program}{G:Ghost}{φ:Name->Loc}{m:Mem}{σ:S}{a:Act}{w:World}(hC:aQ G φ m σ a w){T:TypeId}{x:D}{u:Value}
 (hx:aH φ σ.obj m x u) (aa:(jV P σ.obj T x).ok):
 ∃ v,(Instr.loadAt T u).run P w=.ok v w/\aH φ σ.obj m (jV P σ.obj T x).d v/\(jV P σ.obj T x).obj=σ.obj:=by
 have kr:∀ {b off:Nat} {c:Value},m b off=some c->w.cell? ⟨b,off,none⟩=some c:=fun h=>hC.mem _ _ _ h
 have iW:∀ (nm:Name) (o:O) (s:Nat) (l:List V),(o=.arr s l\/o=.farr s l)->σ.obj nm=some o->∀ i,(hi:i<l.length)->
     (∀ y∈l[i].cells,y.one=true)/\∀ j (h:j<l[i].cells.length),∃ c,w.cell? ⟨(φ nm).blk,(φ nm).off+i*s+j,none⟩=some c/\aO m l[i].cells[j] c:=by
  intro nm o s l ho aB i hi
  have h:=hC.objs nm o aB
  rcases ho with rfl | rfl
  ·rcases h with⟨_,h⟩ | ⟨h0,h1,h2,h3,h4,us,T,f,h5,h6,h7,h8⟩
   ·subst h;simp at hi
   ·exact⟨h4 i hi,fun j hj=>let ⟨c,h9,tH⟩:=h8 i j hi hj;⟨c,by rw[rU h5];exact h9,tH⟩⟩
  ·rcases h with⟨_,h⟩ | ⟨h0,h1,h2,h3,h4⟩
   ·subst h;simp at hi
   ·exact⟨h3 i hi,fun j hj=>let ⟨c,h9,tH⟩:=h4 i j hi hj;⟨c,kr h9,tH⟩⟩
 have Og:∀ (nm:Name) (cs:List D),σ.obj nm=some (.box cs)->(∀ d∈cs,d.one=true)/\
     ∀ j (h:j<cs.length),∃ c,w.cell? ⟨(φ nm).blk,(φ nm).off+j,none⟩=some c/\aH φ σ.obj m cs[j] c:=by
  intro nm cs aB
  obtain⟨h0,h1,fU,us,T,f,h2,h3,h4,h5⟩:=hC.objs nm _ aB
  refine⟨fU,fun j hj=>⟨us[j],?_,h5 j hj (by omega)⟩⟩
  rw[rU h2,h0,Nat.zero_add]
  exact Array.getElem?_eq_getElem (by omega)
 have N6:∀ (nm:Name) (cs:List V),σ.obj nm=some (.fbox cs)->(∀ d∈cs,d.one=true)/\
     ∀ j (h:j<cs.length),∃ c,w.cell? ⟨(φ nm).blk,(φ nm).off+j,none⟩=some c/\aO m cs[j] c:=by
  intro nm cs aB
  obtain⟨h0,h1⟩:=hC.objs nm _ aB
  exact⟨h0,fun j hj=>let ⟨c,h2,h3⟩:=h1 j hj;⟨c,kr h2,h3⟩⟩
 unfold jV at aa |-
 split at aa
 ·rename_i n cs hT
  cases hx with
  |v _ _ hx=>
  cases hx with
  |ptr _ b o c ho hc hr=>
  obtain⟨v,h1,h2⟩:=vn (φ:=φ) (obj:=σ.obj) (m:=m) hT (by simp) (w:=w) (b:=b) (o:=o) cs aa ho (fun j h=>⟨c j,kr (hc j h),hr j h⟩)
  refine⟨v,?_,by simpa[hT]using h2,by simp[hT]⟩
  simpa[Instr.loadAt,Instr.sureAddr]using h1
 ·rename_i cs hT
  cases hx with
  |v _ _ hx=>
  cases hx with
  |ptr _ b o c ho hc hr=>
  obtain⟨v,h1,h2⟩:=vn (φ:=φ) (obj:=σ.obj) (m:=m) hT (by simp) (w:=w) (b:=b) (o:=o) cs aa ho (fun j h=>⟨c j,kr (hc j h),hr j h⟩)
  refine⟨v,?_,by simpa[hT,Z7]using h2,by simp[hT]⟩
  simpa[Instr.loadAt,Instr.sureAddr]using h1
 ·rename_i n nm off hT
  cases hx with
  |ref _ _ hx=>
  split at aa
  ·rename_i cs aB
   obtain⟨qd,mT⟩:=Og nm cs aB
   obtain⟨v,h1,h2⟩:=D3 (φ:=φ) (obj:=σ.obj) (m:=m) hT (by simp) (w:=w) (b:=(φ nm).blk) (o:=(φ nm).off+off) (cs.drop off)
    (by simp only[List.length_drop];have:off+n<=cs.length:=aa;omega) (fun d hd=>qd d (List.mem_of_mem_drop hd))
    (fun j h=>by
      simp only[List.length_drop]at h
      obtain⟨c,h3,h4⟩:=mT (off+j) (by omega)
      refine⟨c,by rw[Nat.add_assoc];exact h3,by simpa using h4⟩)
   refine⟨v,?_,by simpa[hT,aB]using h2,by simp[hT,aB]⟩
   simpa[Instr.loadAt,Instr.sureAddr]using h1
  ·rename_i cs aB
   obtain⟨qd,mT⟩:=N6 nm cs aB
   obtain⟨v,h1,h2⟩:=vn (φ:=φ) (obj:=σ.obj) (m:=m) hT (by simp) (w:=w) (b:=(φ nm).blk) (o:=(φ nm).off+off) (cs.drop off)
    (by simp only[List.length_drop];have:off+n<=cs.length:=aa;omega) (fun d hd=>qd d (List.mem_of_mem_drop hd))
    (fun j h=>by
      simp only[List.length_drop]at h
      obtain⟨c,h3,h4⟩:=mT (off+j) (by omega)
      refine⟨c,by rw[Nat.add_assoc];exact h3,by simpa using h4⟩)
   refine⟨v,?_,by simpa[hT,aB]using h2,by simp[hT,aB]⟩
   simpa[Instr.loadAt,Instr.sureAddr]using h1
  ·exact aa.elim
 ·rename_i nm off hT
  cases hx with
  |ref _ _ hx=>
  split at aa
  ·rename_i cs aB
   obtain⟨qd,mT⟩:=Og nm cs aB
   obtain⟨v,h1,h2⟩:=D3 (φ:=φ) (obj:=σ.obj) (m:=m) hT (by simp) (w:=w) (b:=(φ nm).blk) (o:=(φ nm).off+off) (cs.drop off)
    (by simp only[List.length_drop];have:off<cs.length:=aa;omega) (fun d hd=>qd d (List.mem_of_mem_drop hd))
    (fun j h=>by
      simp only[List.length_drop]at h
      obtain⟨c,h3,h4⟩:=mT (off+j) (by omega)
      refine⟨c,by rw[Nat.add_assoc];exact h3,by simpa using h4⟩)
   rw[if_neg (by simp),GL]at h2
   refine⟨v,?_,by simpa[hT,aB]using h2,by simp[hT,aB]⟩
   simpa[Instr.loadAt,Instr.sureAddr]using h1
  ·rename_i cs aB
   obtain⟨qd,mT⟩:=N6 nm cs aB
   obtain⟨v,h1,h2⟩:=vn (φ:=φ) (obj:=σ.obj) (m:=m) hT (by simp) (w:=w) (b:=(φ nm).blk) (o:=(φ nm).off+off) (cs.drop off)
    (by simp only[List.length_drop];have:off<cs.length:=aa;omega) (fun d hd=>qd d (List.mem_of_mem_drop hd))
    (fun j h=>by
      simp only[List.length_drop]at h
      obtain⟨c,h3,h4⟩:=mT (off+j) (by omega)
      refine⟨c,by rw[Nat.add_assoc];exact h3,by simpa using h4⟩)
   rw[if_neg (by simp),GL]at h2
   refine⟨v,?_,by simpa[hT,aB]using h2,by simp[hT,aB]⟩
   simpa[Instr.loadAt,Instr.sureAddr]using h1
  ·exact aa.elim
 ·rename_i n nm k i off hT
  cases hx with
  |aref _ _ _ _ _ hx hu=>
  obtain⟨o,k',aB,hlen,hk,dt⟩:=hx
  have main:∀ s l,(o=.arr s l\/o=.farr s l)->(k=l.length/\i<l.length/\off+n<=(l.getD i default).cells.length)->
      ∃ v,(Instr.loadAt T u).run P w=.ok v w/\aH φ σ.obj m (.v (.agg (((l.getD i default).cells.drop off).take n))) v:=by
   rintro s l ho ⟨vG,hi,E6⟩
   have ZA:k'=l.length:=by rcases ho with rfl | rfl<;>simpa[O.len?]using hlen.symm
   have dS:o.sz=s:=by rcases ho with rfl | rfl<;>rfl
   obtain⟨vN,yk⟩:=iW nm o s l ho aB i hi
   have e:=dt (by omega)
   subst e
   rw[dS]
   rw[jr hi]at E6 |-
   obtain⟨v,h1,h2⟩:=vn (φ:=φ) (obj:=σ.obj) (m:=m) hT (by simp) (w:=w) (b:=(φ nm).blk) (o:=(φ nm).off+i*s+off) (l[i].cells.drop off)
    (by simp only[List.length_drop];omega) (fun d hd=>vN d (List.mem_of_mem_drop hd))
    (fun j h=>by
      simp only[List.length_drop]at h
      obtain⟨c,h3,h4⟩:=yk (off+j) (by omega)
      refine⟨c,by rw[Nat.add_assoc];exact h3,by simpa using h4⟩)
   exact⟨v,by simpa[Instr.loadAt,Instr.sureAddr]using h1,by simpa using h2⟩
  split at aa
  ·rename_i s l dF
   rw[aB]at dF;cases dF
   obtain⟨v,h1,h2⟩:=main s l (.inl rfl) aa
   exact⟨v,h1,by simpa[hT,aB]using h2,by simp[hT,aB]⟩
  ·rename_i s l dF
   rw[aB]at dF;cases dF
   obtain⟨v,h1,h2⟩:=main s l (.inr rfl) aa
   exact⟨v,h1,by simpa[hT,aB]using h2,by simp[hT,aB]⟩
  ·exact aa.elim
 ·rename_i nm k i off hT
  cases hx with
  |aref _ _ _ _ _ hx hu=>
  obtain⟨o,k',aB,hlen,hk,dt⟩:=hx
  have main:∀ s l,(o=.arr s l\/o=.farr s l)->(k=l.length/\i<l.length/\off<(l.getD i default).cells.length)->
      ∃ v,(Instr.loadAt T u).run P w=.ok v w/\aH φ σ.obj m (.v ((l.getD i default).cells.getD off default)) v:=by
   rintro s l ho ⟨vG,hi,E6⟩
   have ZA:k'=l.length:=by rcases ho with rfl | rfl<;>simpa[O.len?]using hlen.symm
   have dS:o.sz=s:=by rcases ho with rfl | rfl<;>rfl
   obtain⟨vN,yk⟩:=iW nm o s l ho aB i hi
   have e:=dt (by omega)
   subst e
   rw[dS]
   rw[jr hi]at E6 |-
   obtain⟨v,h1,h2⟩:=vn (φ:=φ) (obj:=σ.obj) (m:=m) hT (by simp) (w:=w) (b:=(φ nm).blk) (o:=(φ nm).off+i*s+off) (l[i].cells.drop off)
    (by simp only[List.length_drop];omega) (fun d hd=>vN d (List.mem_of_mem_drop hd))
    (fun j h=>by
      simp only[List.length_drop]at h
      obtain⟨c,h3,h4⟩:=yk (off+j) (by omega)
      refine⟨c,by rw[Nat.add_assoc];exact h3,by simpa using h4⟩)
   rw[if_neg (by simp),GL]at h2
   exact⟨v,by simpa[Instr.loadAt,Instr.sureAddr]using h1,h2⟩
  split at aa
  ·rename_i s l dF
   rw[aB]at dF;cases dF
   obtain⟨v,h1,h2⟩:=main s l (.inl rfl) aa
   exact⟨v,h1,by simpa[hT,aB]using h2,by simp[hT,aB]⟩
  ·rename_i s l dF
   rw[aB]at dF;cases dF
   obtain⟨v,h1,h2⟩:=main s l (.inr rfl) aa
   exact⟨v,h1,by simpa[hT,aB]using h2,by simp[hT,aB]⟩
  ·exact aa.elim
 ·exact aa.elim
def mi(P:Program)(obj:Name->Option O)(T:TypeId)(f:Nat)(x:D):R:=
 match bW P T f,x with
 |some (off,n,_),.v (.ptr cs)=>⟨n≠0/\off+n<=cs.length,.v (.ptr ((cs.drop off).take n)),obj⟩
 |some (off,n,_),.ref nm o=>⟨n≠0,.ref nm (o+off),obj⟩
 |some (off,n,_),.aref nm k i o=>⟨n≠0/\(obj nm).bind O.len?=some k,.aref nm k i (o+off),obj⟩
 |_,_=>.bad obj
theorem Gx{P:Program}{T:TypeId}{f:Nat}{off n:Nat}{ag:Bool}(h:bW P T f=some (off,n,ag))(hn:n≠0)(w:World)(b o:Nat):
 (Instr.fieldAt T (.pointer (some ⟨b,o,none⟩)) f).run P w=.ok (.pointer (some ⟨b,o+off,none⟩)) w:=by
 unfold bW at h
 split at h
 ·rename_i fs hu
  cases hf:fs[f]? with
  |none=>simp[hf]at h
  |some x=>
   simp only[hf,Option.bind_some,Option.map_eq_some_iff,Prod.mk.injEq]at h
   obtain⟨y,h1,h2,h3,h4⟩:=h
   have hs:=uV (P:=P) (t:=x.type) (b:=y.1) (n:=y.2) h1 w
   have aF:y.2≠0:=by rw[h3];exact hn
   simp only[Instr.fieldAt,Sem.run_bind,run_underlying hu w,Result.andThen_ok,hf,Sem.run_pure,Instr.sureAddr,fieldPlace,hs,Sem.run_ite,aF,if_false,pc,h2]
 ·cases h
theorem SJ{P:Program}{φ:Name->Loc}{obj:Name->Option O}{m:Mem}{T:TypeId}{f:Nat}{x:D}{u:Value}(w:World)
 (hx:aH φ obj m x u) (aa:(mi P obj T f x).ok):
 ∃ v,(Instr.fieldAt T u f).run P w=.ok v w/\aH φ obj m (mi P obj T f x).d v/\(mi P obj T f x).obj=obj:=by
 unfold mi at aa |-
 split at aa
 ·rename_i off n ag cs hT
  cases hx with
  |v _ _ hx=>
  cases hx with
  |ptr _ b o c ho hc hr=>
  obtain⟨h1,h2⟩:=aa
  refine⟨_,Gx hT h1 w b o,?_,rfl⟩
  refine .v _ _ (.ptr _ b (o+off) (fun j=>c (off+j)) (fun y hy=>ho y (List.mem_of_mem_drop (List.mem_of_mem_take hy))) (fun j hj=>?_) fun j hj=>?_)
  ·simp only[List.length_take,List.length_drop]at hj
   rw[Nat.add_assoc];exact hc _ (by omega)
  ·simp only[List.length_take,List.length_drop]at hj
   simp only[List.getElem_take,List.getElem_drop]
   exact hr _ (by omega)
 ·rename_i off n ag nm o hT
  cases hx with
  |ref _ _ hx=>
  refine⟨_,Gx hT aa w _ _,?_,rfl⟩
  have :=aH.ref (φ:=φ) (m:=m) nm (o+off) hx
  rwa [<-Nat.add_assoc]at this
 ·rename_i off n ag nm k i o hT
  cases hx with
  |aref _ _ _ _ _ hx hu=>
  obtain⟨o',k',aB,hlen,hk,dt⟩:=hx
  obtain⟨h1,h2⟩:=aa
  simp only[aB,Option.bind_some,hlen,Option.some.injEq]at h2
  have e:=dt h2.symm
  subst e
  refine⟨_,Gx hT h1 w _ _,.aref _ _ _ _ _ ⟨o',k',aB,hlen,hk,fun _=>by rw[Nat.add_assoc]⟩ rfl,rfl⟩
 ·exact aa.elim
def mh(P:Program)(obj:Name->Option O)(T:TypeId)(x i:D):R:=
 match x,i with
 | .v (.sl l),.v (.int _ n)=>match cr P T with
   |some (_,sz,_)=>⟨0<=n/\n<l.length/\(l.getD n.toNat default).cells.length=sz,.v (.ptr (l.getD n.toNat default).cells),obj⟩
   |_=>.bad obj
 | .msl nm k,.v (.int _ n)=>match cr P T,obj nm with
   |some (_,sz,_),some (.arr s l)=>⟨0<=n/\n<l.length/\k=l.length/\s=sz,.aref nm k n.toNat 0,obj⟩
   |some (_,sz,_),some (.farr s l)=>⟨0<=n/\n<l.length/\k=l.length/\s=sz,.aref nm k n.toNat 0,obj⟩
   |_,_=>.bad obj
 | .ref nm off,.v (.int _ n)=>match jC P T with
   |some (len,sz,_)=>⟨0<=n/\n<len,.ref nm (off+n.toNat*sz),obj⟩
   |_=>.bad obj
 | .v (.ptr cs),.v (.int _ n)=>match jC P T with
   |some (len,sz,_)=>⟨0<=n/\n<len/\n.toNat*sz+sz<=cs.length,.v (.ptr ((cs.drop (n.toNat*sz)).take sz)),obj⟩
   |_=>.bad obj
 |_,_=>.bad obj
theorem j6{P:Program}{T e:TypeId}{sz by_:Nat}(h:cr P T=some (e,sz,by_)):
 P.underlying T=some (.slice e)/\∃ i,P.info? e=some i/\i.size=sz/\i.bytes=by_:=by
 unfold cr at h
 split at h
 ·rename_i e' hu
  simp only[Option.map_eq_some_iff,Prod.mk.injEq]at h
  obtain⟨i,h1,h2,h3,h4⟩:=h
  subst h2
  exact⟨hu,i,h1,h3,h4⟩
 ·cases h
theorem M3{P:Program}{T e:TypeId}{sz by_:Nat}(h:cr P T=some (e,sz,by_))(w:World)(b o len cap:Nat)(k:IntKind)(n:Int)(h0:0<=n)(h1:n<len):
 (Instr.indexAt T (.slice (some ⟨b,o,none⟩) len cap) (.int k n)).run P w=.ok (.pointer (some ⟨b,o+n.toNat*sz,none⟩)) w:=by
 obtain⟨hu,i,hi,hs,_⟩:=j6 h
 simp[Instr.indexAt,asIntOf,run_underlying hu w,h0,h1,sizeOf,typeInfo,hi,hs,pc]
theorem M4{P:Program}{T:TypeId}{len sz:Nat}{ag:Bool}(h:jC P T=some (len,sz,ag))(w:World)(b o:Nat)(k:IntKind)(n:Int)(h0:0<=n)(h1:n<len):
 (Instr.indexAt T (.pointer (some ⟨b,o,none⟩)) (.int k n)).run P w=.ok (.pointer (some ⟨b,o+n.toNat*sz,none⟩)) w:=by
 unfold jC at h
 split at h
 ·rename_i n' e hu
  simp only[Option.map_eq_some_iff,Prod.mk.injEq]at h
  obtain⟨y,h2,h3,h4,h5⟩:=h
  subst h3
  have hs:=fun w=>uV (P:=P) (t:=e) (b:=y.1) (n:=y.2) h2 w
  simp[Instr.indexAt,asIntOf,run_underlying hu w,h0,h1,hs,pc,Instr.sureAddr,h4]
 ·cases h
theorem SH{P:Program}{G:Ghost}{φ:Name->Loc}{m:Mem}{σ:S}{a:Act}{w:World}(hC:aQ G φ m σ a w){T:TypeId}{x i:D}{u ui:Value}
 (hx:aH φ σ.obj m x u) (hi:aH φ σ.obj m i ui) (aa:(mh P σ.obj T x i).ok):
 ∃ v,(Instr.indexAt T u ui).run P w=.ok v w/\aH φ σ.obj m (mh P σ.obj T x i).d v/\(mh P σ.obj T x i).obj=σ.obj:=by
 unfold mh at aa |-
 split at aa
 ·rename_i l k n
  split at aa
  ·rename_i e sz by_ hT
   cases hi with
   |v _ _ hi=>
   cases hi
   obtain⟨h0,h1,h2⟩:=aa
   cases hx with
   |v _ _ hx=>
   cases hx with
   |slnil=>simp at h1;omega
   |sl _ b o cap mv c hn hl jR hs hc hr ho=>
   have ab:n.toNat<l.length:=by omega
   refine⟨_,M3 hT w b o _ cap k n h0 h1,?_,by simp[hT]⟩
   simp only[hT]
   rw[jr ab]at h2 |-
   have dS:mv=sz:=(hs _ ab).symm.trans h2
   subst dS
   exact .v _ _ (.ptr _ b (o+n.toNat*mv) (fun j=>c n.toNat j) (ho _ ab) (fun j hj=>hc _ _ ab (by rw[<-h2];exact hj)) fun j hj=>hr _ _ ab hj)
  ·exact aa.elim
 ·rename_i nm k ik n
  cases hi with
  |v _ _ hi=>
  cases hi
  have main:∀ e sz by_ s l o,cr P T=some (e,sz,by_)->σ.obj nm=some o->(o=.arr s l\/o=.farr s l)->(0<=n/\n<l.length/\k=l.length/\s=sz)->
      ∃ v,(Instr.indexAt T u (.int ik n)).run P w=.ok v w/\aH φ σ.obj m (.aref nm k n.toNat 0) v:=by
   rintro e sz by_ s l o hT aB E3 ⟨h0,h1,h2,h3⟩
   cases hx with
   |msl _ _ _ hx hu=>
   obtain⟨o',k',dF,hlen,hk,dt⟩:=hx
   rw[aB]at dF;cases dF
   have hl:k'=l.length:=by rcases E3 with rfl | rfl<;>simpa[O.len?]using hlen.symm
   have dS:o.sz=s:=by rcases E3 with rfl | rfl<;>rfl
   have e:=dt (by omega)
   subst e
   have dN:(φ nm).nul=false:=by
    have :=hC.objs nm o aB
    rcases E3 with rfl | rfl
    ·rcases this with⟨_,h⟩ | ⟨h,_⟩
     ·subst h;simp at h1;omega
     ·exact h
    ·rcases this with⟨_,h⟩ | ⟨h,_⟩
     ·subst h;simp at h1;omega
     ·exact h
   simp only[Loc.slice,dN,Bool.false_eq_true,if_false]
   refine⟨_,M3 hT w _ _ _ _ ik n h0 (by omega),.aref _ _ _ _ _ ⟨o,k',aB,hlen,hk,fun _=>?_⟩ rfl⟩
   rw[dS,h3,Nat.add_zero]
  split at aa
  ·rename_i e sz by_ s l hT aB
   obtain⟨v,h1,h2⟩:=main e sz by_ s l _ hT aB (.inl rfl) aa
   exact⟨v,h1,by simpa[hT,aB]using h2,by simp[hT,aB]⟩
  ·rename_i e sz by_ s l hT aB
   obtain⟨v,h1,h2⟩:=main e sz by_ s l _ hT aB (.inr rfl) aa
   exact⟨v,h1,by simpa[hT,aB]using h2,by simp[hT,aB]⟩
  ·exact aa.elim
 ·rename_i nm off k n
  split at aa
  ·rename_i len sz ag hT
   cases hi with
   |v _ _ hi=>
   cases hi
   cases hx with
   |ref _ _ hx=>
   obtain⟨h0,h1⟩:=aa
   refine⟨_,M4 hT w _ _ k n h0 h1,?_,by simp[hT]⟩
   simp only[hT]
   have :=aH.ref (φ:=φ) (m:=m) nm (off+n.toNat*sz) hx
   rwa [<-Nat.add_assoc]at this
  ·exact aa.elim
 ·rename_i cs k n
  split at aa
  ·rename_i len sz ag hT
   cases hi with
   |v _ _ hi=>
   cases hi
   cases hx with
   |v _ _ hx=>
   cases hx with
   |ptr _ b o c ho hc hr=>
   obtain⟨h0,h1,h2⟩:=aa
   refine⟨_,M4 hT w _ _ k n h0 h1,?_,by simp[hT]⟩
   simp only[hT]
   refine .v _ _ (.ptr _ b (o+n.toNat*sz) (fun j=>c (n.toNat*sz+j)) (fun y hy=>ho y (List.mem_of_mem_drop (List.mem_of_mem_take hy))) (fun j hj=>?_) fun j hj=>?_)
   ·simp only[List.length_take,List.length_drop]at hj
    rw[Nat.add_assoc];exact hc _ (by omega)
   ·simp only[List.length_take,List.length_drop]at hj
    simp only[List.getElem_take,List.getElem_drop]
    exact hr _ (by omega)
  ·exact aa.elim
 ·exact aa.elim
def yN(op:BinOp)(k:IntKind)(a b:Int):V:=
 match op with
 | .add=>.int k (k.wrap (a+b))
 | .sub=>.int k (k.wrap (a-b))
 | .mul=>.int k (k.wrap (a*b))
 | .quo=>.int k (k.wrap (a.tdiv b))
 | .rem=>.int k (a.tmod b)
 | .and=>.int k (k.wrap (BitVec.ofInt k.bits a&&& BitVec.ofInt k.bits b).toNat)
 | .or=>.int k (k.wrap (BitVec.ofInt k.bits a||| BitVec.ofInt k.bits b).toNat)
 | .xor=>.int k (k.wrap (BitVec.ofInt k.bits a ^^^ BitVec.ofInt k.bits b).toNat)
 | .andNot=>.int k (k.wrap (BitVec.ofInt k.bits a&&& ~~~(BitVec.ofInt k.bits b)).toNat)
 | .shl=>.int k (k.wrap (a*2 ^ (min b.toNat k.bits)))
 | .shr=>.int k (a.fdiv (2 ^ (min b.toNat k.bits)))
 | .eql=>.bool (a==b)
 | .neq=>.bool (a != b)
 | .lss=>.bool (decide (a<b))
 | .leq=>.bool (decide (a<=b))
 | .gtr=>.bool (decide (a>b))
 | .geq=>.bool (decide (a>=b))
def BZ(op:BinOp)(k k':IntKind)(b:Int):Prop:=
 match op with
 | .quo=>k=k'/\b≠0
 | .rem=>k=k'/\b≠0
 | .shl=>0<=b
 | .shr=>0<=b
 |_=>k=k'
def wi(op:BinOp)(a b:ByteArray):V:=
 match op with
 | .add=>.str (a++b)
 | .eql=>.bool (a.toList==b.toList)
 | .neq=>.bool (!(a.toList==b.toList))
 | .lss=>.bool (Op.bytesLess a.toList b.toList)
 | .leq=>.bool (Op.bytesLess a.toList b.toList||a.toList==b.toList)
 | .gtr=>.bool (!(Op.bytesLess a.toList b.toList||a.toList==b.toList))
 | .geq=>.bool (!(Op.bytesLess a.toList b.toList))
 |_=>.nilp
def yJ(op:BinOp)(a b:ByteArray):Prop:=
 match op with
 | .add=>a.size+b.size<=maxLen
 | .eql | .neq | .lss | .leq | .gtr | .geq=>True
 |_=>False
def oD(P:Program)(obj:Name->Option O)(op:BinOp)(T:TypeId)(x y:D):R:=
 match x,y with
 | .v (.int k a),.v (.int k' b)=>⟨BZ op k k' b,.v (yN op k a b),obj⟩
 | .v (.str a),.v (.str b)=>⟨yJ op a b,.v (wi op a b),obj⟩
 | .v (.bool a),.v (.bool b)=>⟨P.underlying T=some .bool/\(op=.eql\/op=.neq),.v (.bool (if op=.eql then a==b else !(a==b))),obj⟩
 |_,_=>.bad obj
theorem run_equalIn_bool{P:Program}{T:TypeId}(hT:P.underlying T=some .bool)(d:Nat)(a b:Bool)(w:World):
 (Op.equalIn (d+1) T (.bool a) (.bool b)).run P w=.ok (a==b) w:=by
 simp[Op.equalIn,run_underlying hT w]
theorem run_equal_bool{P:Program}{T:TypeId}(hT:P.underlying T=some .bool)(a b:Bool)(w:World):
 (Op.equal T (.bool a) (.bool b)).run P w=.ok (a==b) w:=run_equalIn_bool hT 9999 a b w
theorem SS{P:Program}{φ:Name->Loc}{obj:Name->Option O}{m:Mem}{T:TypeId}{op:BinOp}{x y:D}{u v:Value}{cx cy:Operand}(w:World)
 (hx:aH φ obj m x u) (hy:aH φ obj m y v) (aa:(oD P obj op T x y).ok):
 ∃ r,(do eqGuard op T cx cy u v;binOp op T u v:Sem Value).run P w=.ok r w/\aH φ obj m (oD P obj op T x y).d r/\(oD P obj op T x y).obj=obj:=by
 unfold oD at aa |-
 split at aa
 ·rename_i k a k' b
  cases hx with
  |v _ _ hx=>
  cases hy with
  |v _ _ hy=>
  cases hx;cases hy
  refine⟨match yN op k a b with | .int k n=>.int k n | .bool b=>.bool b | _=>undef,?_,?_,rfl⟩
  ·cases op<;>simp only[BZ]at aa<;>
     (first | (obtain⟨rfl,hb⟩:=aa) | (subst aa) | skip)<;>
     simp[eqGuard,binOp,Op.intArith,Op.intDiv,Op.intBits,Op.intCmp,Op.shift,yN, *]<;>(try omega)
  ·simp only
   cases op<;>simp only[yN]<;>first | exact .v _ _ (.int _ _) | exact .v _ _ (.bool _)
 ·rename_i a b
  cases hx with
  |v _ _ hx=>
  cases hy with
  |v _ _ hy=>
  cases hx with
  |str _ ha=>
  cases hy with
  |str _ hb=>
  refine⟨match wi op a b with | .str s=>.string s | .bool b=>.bool b | _=>undef,?_,?_,rfl⟩
  ·cases op<;>simp only[yJ]at aa<;>first
     |exact aa.elim
     |(simp[eqGuard,binOp,Op.stringOp,wi];done)
     |(have:¬ ((a.size+b.size:Nat):Int)>IntKind.i64.max:=by
        have h9:IntKind.i64.max=9223372036854775807:=by decide
        unfold maxLen at aa
        rw[h9];omega
       simp only[eqGuard,binOp,Op.stringOp,wi,Sem.run_bind,Sem.run_ite,if_neg this]
       rfl)
  ·simp only
   cases op<;>simp only[yJ]at aa<;>simp only[wi]<;>first
    |exact aa.elim
    |exact .v _ _ (.bool _)
    |(refine .v _ _ (.str _ ?_);simpa[ByteArray.size_append]using aa)
 ·rename_i a b
  cases hx with
  |v _ _ hx=>
  cases hy with
  |v _ _ hy=>
  cases hx;cases hy
  obtain⟨hT,ho⟩:=aa
  refine⟨.bool (if op=.eql then a==b else !(a==b)),?_,.v _ _ (.bool _),rfl⟩
  have e:=run_equal_bool (P:=P) hT a b w
  rcases ho with rfl | rfl
  ·have h1:binOp .eql T (.bool a) (.bool b)=(do pure (.bool (<-Op.equal T (.bool a) (.bool b)))):=rfl
   rw[h1]
   simp only[Sem.run_bind,eqGuard,Result.andThen_ok,Sem.run_pure]
   simp
   rw[e]
   simp
  ·have h1:binOp .neq T (.bool a) (.bool b)=(do pure (.bool (!(<-Op.equal T (.bool a) (.bool b))))):=rfl
   rw[h1]
   simp only[Sem.run_bind,eqGuard,Result.andThen_ok,Sem.run_pure]
   simp
   rw[e]
   simp
 ·exact aa.elim
def nj(obj:Name->Option O)(op:UnOp)(x:D):R:=
 match op,x with
 | .not,.v (.bool b)=>⟨True,.v (.bool (!b)),obj⟩
 | .neg,.v (.int k n)=>⟨True,.v (.int k (k.wrap (0-n))),obj⟩
 |_,_=>.bad obj
theorem Sy{P:Program}{φ:Name->Loc}{obj:Name->Option O}{m:Mem}{op:UnOp}{x:D}{u:Value}(w:World)
 (hx:aH φ obj m x u) (aa:(nj obj op x).ok):
 ∃ r,(Op.unary op u).run P w=.ok r w/\aH φ obj m (nj obj op x).d r/\(nj obj op x).obj=obj:=by
 unfold nj at aa |-
 split at aa
 ·cases hx with
  |v _ _ hx=>cases hx;exact⟨_,rfl,.v _ _ (.bool _),rfl⟩
 ·cases hx with
  |v _ _ hx=>cases hx;exact⟨_,rfl,.v _ _ (.int _ _),rfl⟩
 ·exact aa.elim
def nu(P:Program)(obj:Name->Option O)(_src dst:TypeId)(x:D):R:=
 match nG P dst,x with
 |some k,.v (.int _ n)=>⟨(P.underlying _src).isSome=true,.v (.int k (k.wrap n)),obj⟩
 |_,_=>.bad obj
theorem SN{P:Program}{φ:Name->Loc}{obj:Name->Option O}{m:Mem}{src dst:TypeId}{x:D}{u:Value}(w:World)
 (hx:aH φ obj m x u) (aa:(nu P obj src dst x).ok):
 ∃ r,(convert src dst u).run P w=.ok r w/\aH φ obj m (nu P obj src dst x).d r/\(nu P obj src dst x).obj=obj:=by
 unfold nu at aa |-
 split at aa
 ·rename_i k ik n hT
  cases hx with
  |v _ _ hx=>
  cases hx
  have hd:P.underlying dst=some (.int k):=by
   unfold nG at hT
   split at hT
   ·simp only[Option.some.injEq]at hT;subst hT;assumption
   ·cases hT
  obtain⟨d,hs⟩:=Option.isSome_iff_exists.1 aa
  refine⟨.int k (k.wrap n),?_,by simpa[hT]using .v _ _ (.int _ _),by simp[hT]⟩
  simp[convert,run_underlying hd w,run_underlying hs w,Conv.intToInt]
 ·exact aa.elim
def nq(obj:Name->Option O)(x:D)(i:Nat):R:=
 match x with
 | .tup l=>⟨i<l.length,l.getD i .any,obj⟩
 | .v (.tup l)=>⟨i<l.length,.v (l.getD i default),obj⟩
 |_=>.bad obj
theorem SL{P:Program}{φ:Name->Loc}{obj:Name->Option O}{m:Mem}{x:D}{i:Nat}{u:Value}(w:World)
 (hx:aH φ obj m x u) (aa:(nq obj x i).ok):
 ∃ r,(Instr.extract u i).run P w=.ok r w/\aH φ obj m (nq obj x i).d r/\(nq obj x i).obj=obj:=by
 unfold nq at aa |-
 split at aa
 ·rename_i l
  cases hx with
  |tup _ us hl hr=>
  have hi:i<l.length:=aa
  refine⟨us[i],?_,by rw[jr hi];exact hr i hi (by omega),rfl⟩
  simp[Instr.extract,Array.getElem?_eq_getElem (show i<us.size by omega)]
 ·rename_i l
  cases hx with
  |v _ _ hx=>
  cases hx with
  |tup _ us hl hr=>
  have hi:i<l.length:=aa
  refine⟨us[i],?_,by rw[jr hi];exact .v _ _ (hr i hi (by omega)),rfl⟩
  simp[Instr.extract,Array.getElem?_eq_getElem (show i<us.size by omega)]
 ·exact aa.elim
def lx(obj:Name->Option O)(x:D):R:=
 match x with
 | .ref _ _=>⟨True,x,obj⟩
 | .v (.ptr _)=>⟨True,x,obj⟩
 | .aref nm k _ _=>⟨(obj nm).bind O.len?=some k,x,obj⟩
 |_=>.bad obj
theorem SC{P:Program}{φ:Name->Loc}{obj:Name->Option O}{m:Mem}{x:D}{u:Value}{ρ:Operand->Value}{c:Operand}{o:Oper}(w:World)
 (hx:aH φ obj m x u) (aa:(lx obj x).ok) (ho:o.op=.nilCheck c) (hc:ρ c=u):
 (execOp ρ o).run P w=.ok (.value u) w/\aH φ obj m (lx obj x).d u/\(lx obj x).obj=obj:=by
 have hp:∃ q,u=.pointer (some q):=by
  unfold lx at aa
  split at aa
  ·cases hx;exact⟨_,rfl⟩
  ·cases hx with | v _ _ hx=>cases hx;exact⟨_,rfl⟩
  ·cases hx with
   |aref _ _ _ _ _ hx hu=>
   obtain⟨o',k',aB,hlen,hk,dt⟩:=hx
   simp only[aB,Option.bind_some,hlen,Option.some.injEq]at aa
   exact⟨_,dt aa.symm⟩
  ·exact aa.elim
 obtain⟨q,hq⟩:=hp
 refine⟨by subst hq;simp[execOp,ho,hc],?_⟩
 unfold lx at aa |-
 split at aa
 ·exact⟨hx,rfl⟩
 ·exact⟨hx,rfl⟩
 ·exact⟨hx,rfl⟩
 ·exact aa.elim
theorem Ext.new{φ:Name->Loc}{obj:Name->Option O}{nm:Name}(h:obj nm=none)(p:Loc)(o:O):Ext φ (upd φ nm p) obj (upd obj nm (some o)):=by
 intro x o' hx
 have aF:x≠nm:=fun e=>by subst e;rw[h]at hx;cases hx
 exact⟨o',by rw[aY _ _ _ aF];exact hx,.inl ⟨rfl,by rw[aY _ _ _ aF],rfl⟩⟩
theorem Ext.same{φ:Name->Loc}{obj:Name->Option O}{nm:Name}{o o':O}(h:obj nm=some o)(hl:o'.len?=o.len?)(hs:o'.sz=o.sz):
 Ext φ (upd φ nm (φ nm)) obj (upd obj nm (some o')):=by
 intro x o1 hx
 by_cases aF:x=nm
 ·subst aF
  rw[h]at hx;cases hx
  exact⟨o',aS _ _ _,.inl ⟨hl,aS _ _ _,hs⟩⟩
 ·exact⟨o1,by rw[aY _ _ _ aF];exact hx,.inl ⟨rfl,by rw[aY _ _ _ aF],rfl⟩⟩
theorem Ext.grow{φ:Name->Loc}{obj:Name->Option O}{nm:Name}{o o':O}{n n':Nat}(h:obj nm=some o)(hn:o.len?=some n)(te:o'.len?=some n')(ab:n<n')(p:Loc):
 Ext φ (upd φ nm p) obj (upd obj nm (some o')):=by
 intro x o1 hx
 by_cases aF:x=nm
 ·subst aF
  rw[h]at hx;cases hx
  exact⟨o',aS _ _ _,.inr ⟨n,n',hn,te,ab⟩⟩
 ·exact⟨o1,by rw[aY _ _ _ aF];exact hx,.inl ⟨rfl,by rw[aY _ _ _ aF],rfl⟩⟩
theorem gR{α β:Type}[DecidableEq α](f:α->β)(a:α):upd f a (f a)=f:=by
 funext x;unfold upd;split<;>simp_all
structure FR where
 ok:Prop
 x:V
 obj:Name->Option O
structure FRL where
 ok:Prop
 xs:List V
 obj:Name->Option O
def bz(f:(Name->Option O)->D->FR)(obj:Name->Option O):List D->FRL
 |[]=>⟨True,[],obj⟩
 |d::r=>⟨(f obj d).ok/\(bz f (f obj d).obj r).ok,(f obj d).x::(bz f (f obj d).obj r).xs,(bz f (f obj d).obj r).obj⟩
def aK:Nat->(Name->Option O)->D->FR
 | 0,obj,d=>match d with
   | .v x=>⟨True,x,obj⟩
   | .nilsl=>⟨True,.sl [],obj⟩
   |_=>⟨False,default,obj⟩
 |n+1,obj,d=>match d with
  | .v x=>⟨True,x,obj⟩
  | .nilsl=>⟨True,.sl [],obj⟩
  | .msl nm k=>match obj nm with
    |some (.arr sz l)=>⟨k=l.length,.sl l,upd obj nm (some (.farr sz l))⟩
    |some (.farr _ l)=>⟨k=l.length,.sl l,obj⟩
    |_=>⟨False,default,obj⟩
  | .ref nm off=>match obj nm with
    |some (.box cs)=>⟨(bz (aK n) obj cs).ok/\(bz (aK n) obj cs).obj nm=some (.box cs),.ptr ((bz (aK n) obj cs).xs.drop off),
       upd (bz (aK n) obj cs).obj nm (some (.fbox (bz (aK n) obj cs).xs))⟩
    |some (.fbox cs)=>⟨True,.ptr (cs.drop off),obj⟩
    |_=>⟨False,default,obj⟩
  | .agg l=>⟨(bz (aK n) obj l).ok,.agg (bz (aK n) obj l).xs,(bz (aK n) obj l).obj⟩
  | .tup l=>⟨(bz (aK n) obj l).ok,.tup (bz (aK n) obj l).xs,(bz (aK n) obj l).obj⟩
  | .clo fn f c=>⟨(bz (aK n) obj f).ok/\(bz (aK n) (bz (aK n) obj f).obj c).ok,.clo fn (bz (aK n) obj f).xs (bz (aK n) (bz (aK n) obj f).obj c).xs,
      (bz (aK n) (bz (aK n) obj f).obj c).obj⟩
  |_=>⟨False,default,obj⟩
theorem aQ.frz1{G:Ghost}{φ:Name->Loc}{m:Mem}{σ:S}{a:Act}{w:World}(hC:aQ G φ m σ a w)(nm:Name)(o o':O)(ho:σ.obj nm=some o)(hm:o.mut=true)
 (dN:(φ nm).nul=false) (us:Array Value) (T:TypeId) (f:Nat×Nat) (hb:w.heap[(φ nm).blk]?=some (.cells us T f))
 (hl:o'.len?=o.len?) (hs:o'.sz=o.sz) (kY:o'.mut=false)
 (ko:∀ m',Mem.le m m'->(∀ off c,us[off]?=some c->m' (φ nm).blk off=some c)->ig φ (upd σ.obj nm (some o')) m' o' (φ nm) w):
 ∃ m',Mem.le m m'/\aQ G φ m' { σ with obj:=upd σ.obj nm (some o') } a w/\(∀ off c,us[off]?=some c->m' (φ nm).blk off=some c):=by
 have hh:holds φ σ.obj nm:=⟨o,ho,hm,dN⟩
 let m':Mem:=fun b off=>if b=(φ nm).blk then us[off]? else m b off
 have hle:Mem.le m m':=by
  intro b off v h
  show (if b=(φ nm).blk then us[off]? else m b off)=some v
  by_cases dn:b=(φ nm).blk
  ·subst dn;rw[hC.apart nm hh off]at h;cases h
  ·rw[if_neg dn];exact h
 have mP:∀ off c,us[off]?=some c->m' (φ nm).blk off=some c:=fun off c h=>by
  show (if (φ nm).blk=(φ nm).blk then us[off]? else m _ off)=some c
  rw[if_pos rfl];exact h
 have hx:Ext φ φ σ.obj (upd σ.obj nm (some o')):=by
  have :=Ext.same (φ:=φ) (o':=o') ho hl hs
  rwa [gR]at this
 have hold:∀ x,holds φ (upd σ.obj nm (some o')) x->x≠nm/\holds φ σ.obj x:=by
  rintro x ⟨o1,h1,h2,h3⟩
  by_cases aF:x=nm
  ·subst aF;rw[aS]at h1;cases h1;rw[kY]at h2;cases h2
  ·rw[aY _ _ _ aF]at h1;exact⟨aF,o1,h1,h2,h3⟩
 refine⟨m',hle,?_,mP⟩
 constructor
 ·exact fun t=>(hC.tmps t).ext hle hx
 ·exact hC.size
 ·exact hC.defers
 ·intro x o1 pU
  simp only at pU
  by_cases aF:x=nm
  ·subst aF
   rw[aS]at pU
   cases pU
   exact ko m' hle mP
  ·rw[aY _ _ _ aF]at pU
   exact(hC.objs x o1 pU).ext hle hx fun _ _=>rfl
 ·intro b off v h
  have h':(if b=(φ nm).blk then us[off]? else m b off)=some v:=h
  by_cases dn:b=(φ nm).blk
  ·subst dn;rw[if_pos rfl]at h';rw[rU hb];exact h'
  ·rw[if_neg dn]at h';exact hC.mem _ _ _ h'
 ·intro x bC off
  obtain⟨aF,h⟩:=hold x bC
  show (if (φ x).blk=(φ nm).blk then us[off]? else m _ off)=none
  rw[if_neg fun e=>aF (hC.inj _ _ h hh e)]
  exact hC.apart x h off
 ·exact fun x y bC hy e=>hC.inj _ _ (hold x bC).2 (hold y hy).2 e
 ·exact fun x bC=>hC.own x (hold x bC).2
 ·exact hC.fr
 ·intro b off v h
  have h':(if b=(φ nm).blk then us[off]? else m b off)=some v:=h
  by_cases dn:b=(φ nm).blk
  ·subst dn;exact .inr (hC.own nm hh)
  ·rw[if_neg dn]at h';exact hC.fresh _ _ _ h'
 ·exact⟨hC.kept.1,hC.kept.2.trans hx⟩
theorem aQ.frzNil{G:Ghost}{φ:Name->Loc}{m:Mem}{σ:S}{a:Act}{w:World}(hC:aQ G φ m σ a w)(nm:Name)(sz:Nat)(ho:σ.obj nm=some (.arr sz []))
 (dN:(φ nm).nul=true):aQ G φ m { σ with obj:=upd σ.obj nm (some (.farr sz [])) } a w:=by
 have :=hC.chg (w':=w) nm (.farr sz []) (φ nm) (Ext.same ho rfl rfl) ⟨rfl,rfl,rfl,Nat.le_refl _⟩ (fun _ _ _=>rfl) (fun h=>by rw[dN]at h;cases h) (.inl ⟨dN,rfl⟩)
 rwa [gR]at this
def Rq(f:(Name->Option O)->D->FR):Prop:=
 ∀ (G:Ghost) (φ:Name->Loc) (m:Mem) (σ:S) (a:Act) (w:World) (_:aQ G φ m σ a w) (d:D) (u:Value) (_:aH φ σ.obj m d u) (_:(f σ.obj d).ok),
   ∃ m',Mem.le m m'/\aQ G φ m' { σ with obj:=(f σ.obj d).obj } a w/\Ext φ φ σ.obj (f σ.obj d).obj/\aO m' (f σ.obj d).x u/\(d.one=true->(f σ.obj d).x.one=true)
theorem rK{f:(Name->Option O)->D->FR}(hf:Rq f):∀ (l:List D) {G:Ghost} {φ:Name->Loc} {m:Mem} {σ:S} {a:Act} {w:World} (_:aQ G φ m σ a w) (us:List Value)
 (_:l.length=us.length) (_:∀ i (h:i<l.length) (h':i<us.length),aH φ σ.obj m l[i] us[i]) (_:(bz f σ.obj l).ok),
 ∃ m',Mem.le m m'/\aQ G φ m' { σ with obj:=(bz f σ.obj l).obj } a w/\Ext φ φ σ.obj (bz f σ.obj l).obj/\(bz f σ.obj l).xs.length=l.length/\
   (∀ i (h:i<(bz f σ.obj l).xs.length) (h':i<us.length),aO m' (bz f σ.obj l).xs[i] us[i])/\
   ((∀ d∈l,d.one=true)->∀ x∈(bz f σ.obj l).xs,x.one=true)
 |[],G,φ,m,σ,a,w,hC,us,hl,hr,aa=>⟨m,Mem.le_refl m,hC,Ext.refl _ _,rfl,fun i h=>by simp[bz]at h,fun _ x hx=>by simp[bz]at hx⟩
 |d::r,G,φ,m,σ,a,w,hC,[],hl,hr,aa=>by simp at hl
 |d::r,G,φ,m,σ,a,w,hC,u::us,hl,hr,aa=>by
  obtain⟨h1,h2⟩:=aa
  obtain⟨m1,a1,a2,a3,a4,a5⟩:=hf _ _ _ _ _ _ hC _ _ (hr 0 (by simp) (by simp)) h1
  obtain⟨m2,b1,b2,b3,b4,b5,b6⟩:=rK hf r (σ:={ σ with obj:=(f σ.obj d).obj }) a2 us (by simpa using hl)
   (fun i h h'=>(hr (i+1) (by simpa using h) (by simpa using h')).ext a1 a3) h2
  refine⟨m2,Mem.le_trans a1 b1,b2,a3.trans b3,by simpa[bz]using b4,fun i h h'=>?_,fun ho x hx=>?_⟩
  ·cases i with
   |zero=>exact a4.mono b1
   |succ i=>simpa[bz]using b5 i (by simpa[bz]using h) (by simpa using h')
  ·simp only[bz,List.mem_cons]at hx
   rcases hx with rfl | hx
   ·exact a5 (ho d (by simp))
   ·exact b6 (fun d hd=>ho d (by simp[hd])) x hx
theorem qm:∀ n,Rq (aK n)
 | 0=>by
   intro G φ m σ a w hC d u hd aa
   cases d with
   |v x=>cases hd with | v _ _ h=>exact⟨m,Mem.le_refl m,hC,Ext.refl _ _,h,id⟩
   |nilsl=>cases hd;exact⟨m,Mem.le_refl m,hC,Ext.refl _ _,.slnil _ _,fun _=>rfl⟩
   |_=>exact aa.elim
 |n+1=>by
  intro G φ m σ a w hC d u hd aa
  have ih:=qm n
  cases d with
  |v x=>cases hd with | v _ _ h=>exact⟨m,Mem.le_refl m,hC,Ext.refl _ _,h,id⟩
  |nilsl=>cases hd;exact⟨m,Mem.le_refl m,hC,Ext.refl _ _,.slnil _ _,fun _=>rfl⟩
  |msl nm k=>
   cases hd with
   |msl _ _ _ hx hu=>
   obtain⟨o,k',aB,hlen,hk,dt⟩:=hx
   cases o with
   |arr sz l=>
    simp only[aK,aB]at aa |-
    simp only[O.len?,Option.some.injEq]at hlen
    subst hlen
    have e:=dt aa
    subst e
    have hx:Ext φ φ σ.obj (upd σ.obj nm (some (.farr sz l))):=by
     have :=Ext.same (φ:=φ) (o':=.farr sz l) aB rfl rfl
     rwa [gR]at this
    rcases hC.objs nm _ aB with⟨h,h'⟩ | ⟨h0,h1,h2,h3,h4,us,T,f,h5,h6,h7,h8⟩
    ·subst h'
     refine⟨m,Mem.le_refl m,hC.frzNil nm sz aB h,hx,?_,fun _=>rfl⟩
     simp only[Loc.slice,h,if_true]
     exact .slnil _ _
    ·have ko:∀ m',Mem.le m m'->(∀ off c,us[off]?=some c->m' (φ nm).blk off=some c)->
         ∀ i j (h:i<l.length) (h':j<(l[i].cells).length),∃ c,m' (φ nm).blk ((φ nm).off+i*sz+j)=some c/\aO m' (l[i].cells)[j] c:=
       fun m' hle kY i j a b=>let ⟨c,x,y⟩:=h8 i j a b;⟨c,kY _ _ x,y.mono hle⟩
     obtain⟨m',hle,cO,kY⟩:=hC.frz1 nm (.arr sz l) (.farr sz l) aB rfl h0 us T f h5 rfl rfl rfl
      (fun m' hle kY=>.inr ⟨h0,⟨h1,by omega⟩,h3,h4,ko m' hle kY⟩)
     refine⟨m',hle,cO,hx,?_,fun _=>rfl⟩
     simp only[Loc.slice,h0,Bool.false_eq_true,if_false]
     rw[aa]
     by_cases hl:l=[]
     ·subst hl;exact .slnil _ _
     ·refine .sl l _ _ _ sz (fun i j=>(us[(φ nm).off+i*sz+j]?).getD undef) hl (by omega) h1 h3 (fun i j hi hj=>?_) (fun i j hi hj=>?_) h4
      ·obtain⟨c,x,y⟩:=h8 i j hi (by rw[h3];exact hj)
       rw[x];exact kY _ _ x
      ·obtain⟨c,x,y⟩:=h8 i j hi hj
       rw[x];exact y.mono hle
   |farr sz l=>
    simp only[aK,aB]at aa |-
    simp only[O.len?,Option.some.injEq]at hlen
    subst hlen
    have e:=dt aa
    subst e
    refine⟨m,Mem.le_refl m,hC,Ext.refl _ _,?_,fun _=>rfl⟩
    rcases hC.objs nm _ aB with⟨h,h'⟩ | ⟨h0,h1,h2,h3,h4⟩
    ·subst h'
     simp only[Loc.slice,h,if_true]
     exact .slnil _ _
    ·simp only[Loc.slice,h0,Bool.false_eq_true,if_false]
     rw[aa]
     by_cases hl:l=[]
     ·subst hl;exact .slnil _ _
     ·refine .sl l _ _ _ sz (fun i j=>(m (φ nm).blk ((φ nm).off+i*sz+j)).getD undef) hl h1.2 h1.1 h2 (fun i j hi hj=>?_) (fun i j hi hj=>?_) h3
      ·obtain⟨c,x,y⟩:=h4 i j hi (by rw[h2];exact hj)
       rw[x];rfl
      ·obtain⟨c,x,y⟩:=h4 i j hi hj
       rw[x];exact y
   |box=>simp[aK,aB]at aa
   |map=>simp[aK,aB]at aa
   |fbox=>simp[aK,aB]at aa
   |loop=>simp[aK,aB]at aa
   |dead=>first | (simp[aK,aB]at aa;done) | (simp[O.len?]at hlen;done)
  |ref nm off=>
   cases hd with
   |ref _ _ hx=>
   obtain⟨o,aB,hlen⟩:=hx
   cases o with
   |box cs=>
    simp only[aK,aB]at aa |-
    obtain⟨xP,ru⟩:=aa
    obtain⟨h0,h1,fU,us,T,f,h2,h3,h4,h5⟩:=hC.objs nm _ aB
    obtain⟨m1,a1,a2,a3,a4,a5,a6⟩:=rK ih cs hC us.toList (by simp[h4]) (fun i h h'=>by simpa using h5 i h (by simpa using h')) xP
    obtain⟨m2,b1,b2,b3⟩:=a2.frz1 nm (.box cs) (.fbox (bz (aK n) σ.obj cs).xs) ru rfl h1 us T f h2 rfl rfl rfl
     (fun m' hle kY=>⟨a6 fU,fun i hi=>by
       have NP:i<us.size:=by omega
       refine⟨us[i],?_,(a5 i hi (by simpa using NP)).mono hle⟩
       rw[h0,Nat.zero_add];exact kY _ _ (Array.getElem?_eq_getElem NP)⟩)
    refine⟨m2,Mem.le_trans a1 b1,b2,a3.trans (by have:=Ext.same (φ:=φ) (o':=.fbox (bz (aK n) σ.obj cs).xs) ru rfl rfl;rwa [gR]at this),?_,fun _=>rfl⟩
    refine .ptr _ _ _ (fun j=>(us[off+j]?).getD undef) (fun y hy=>a6 fU y (List.mem_of_mem_drop hy)) (fun j hj=>?_) fun j hj=>?_
    ·simp only[List.length_drop]at hj
     have xX:off+j<us.size:=by omega
     rw[h0,Nat.zero_add,Array.getElem?_eq_getElem xX]
     exact b3 _ _ (Array.getElem?_eq_getElem xX)
    ·simp only[List.length_drop]at hj
     have xX:off+j<us.size:=by omega
     simp only[List.getElem_drop,Array.getElem?_eq_getElem xX,Option.getD_some]
     have h9:=(a5 (off+j) (by omega) (by simpa using xX)).mono b1
     rw[Array.getElem_toList]at h9
     exact h9
   |fbox cs=>
    simp only[aK,aB]at aa |-
    obtain⟨h0,h1⟩:=hC.objs nm _ aB
    refine⟨m,Mem.le_refl m,hC,Ext.refl _ _,?_,fun _=>rfl⟩
    refine .ptr _ _ _ (fun j=>(m (φ nm).blk ((φ nm).off+off+j)).getD undef) (fun y hy=>h0 y (List.mem_of_mem_drop hy)) (fun j hj=>?_) fun j hj=>?_
    ·simp only[List.length_drop]at hj
     obtain⟨c,h2,h3⟩:=h1 (off+j) (by omega)
     rw[Nat.add_assoc,h2];rfl
    ·simp only[List.length_drop]at hj
     obtain⟨c,h2,h3⟩:=h1 (off+j) (by omega)
     rw[Nat.add_assoc,h2]
     simpa using h3
   |arr=>simp[O.len?]at hlen
   |farr=>simp[O.len?]at hlen
   |map=>simp[aK,aB]at aa
   |loop=>simp[aK,aB]at aa
   |dead=>first | (simp[aK,aB]at aa;done) | (simp[O.len?]at hlen;done)
  |agg l=>
   cases hd with
   |agg _ us hl ho hr=>
   simp only[aK]at aa |-
   obtain⟨m1,a1,a2,a3,a4,a5,a6⟩:=rK ih l hC us.toList (by simpa using hl) (fun i h h'=>by simpa using hr i h (by simpa using h')) aa
   exact⟨m1,a1,a2,a3,.agg _ us (by rw[a4];exact hl) (a6 ho) (fun i h h'=>by have h9:=a5 i h (by simpa using h');rw[Array.getElem_toList]at h9;exact h9),fun h=>by simp[D.one]at h⟩
  |tup l=>
   cases hd with
   |tup _ us hl hr=>
   simp only[aK]at aa |-
   obtain⟨m1,a1,a2,a3,a4,a5,a6⟩:=rK ih l hC us.toList (by simpa using hl) (fun i h h'=>by simpa using hr i h (by simpa using h')) aa
   exact⟨m1,a1,a2,a3,.tup _ us (by rw[a4];exact hl) (fun i h h'=>by have h9:=a5 i h (by simpa using h');rw[Array.getElem_toList]at h9;exact h9),fun h=>by simp[D.one]at h⟩
  |clo fn fs cs=>
   cases hd with
   |clo _ _ _ us vs h1 h2 ew gh=>
   simp only[aK]at aa |-
   obtain⟨m1,a1,a2,a3,a4,a5,a6⟩:=rK ih fs hC us.toList (by simpa using h1) (fun i h h'=>by simpa using ew i h (by simpa using h')) aa.1
   obtain⟨m2,b1,b2,b3,b4,b5,b6⟩:=rK ih cs a2 vs.toList (by simpa using h2) (fun i h h'=>by simpa using(gh i h (by simpa using h')).ext a1 a3) aa.2
   exact⟨m2,Mem.le_trans a1 b1,b2,a3.trans b3,.clo fn _ _ us vs (by rw[a4];exact h1) (by simpa using b4.trans h2) (fun i h h'=>by have h9:=(a5 i h (by simpa using h')).mono b1;rw[Array.getElem_toList]at h9;exact h9)
    (fun i h h'=>by have h9:=b5 i h (by simpa using h');rw[Array.getElem_toList]at h9;exact h9),fun _=>rfl⟩
  |_=>exact aa.elim
def po(G:Ghost)(σ:S)(a:Act)(r:R)(v:Value)(w':World):Prop:=
 ∃ φ' m',aQ G φ' m' { σ with obj:=r.obj } a w'/\aH φ' r.obj m' r.d v
abbrev bj (t:Name):Name:=t
def D.boxable:D->Bool
 | .any=>false
 | .tup _=>false
 | .v (.tup _)=>false
 |_=>true
theorem aH.boxed{φ:Name->Loc}{obj:Name->Option O}{m:Mem}{d:D}{u:Value}(h:aH φ obj m d u)(hb:d.boxable=true):∀ c∈d.cells,c.one=true:=by
 cases h with
 |v x u h=>
  cases h with
  |agg l us hl ho hr=>intro c hc;simp only[D.cells,List.mem_map]at hc;obtain⟨y,hy,rfl⟩:=hc;exact ho y hy
  |tup=>simp[D.boxable]at hb
  |_=>intro c hc;simp only[D.cells,List.mem_singleton]at hc;subst hc;rfl
 |agg l us hl ho hr=>exact ho
 |any=>simp[D.boxable]at hb
 |tup=>simp[D.boxable]at hb
 |_=>intro c hc;simp only[D.cells,List.mem_singleton]at hc;subst hc;rfl
theorem D.boxable_any{d:D}(hb:d.boxable=true):d≠ .any:=by rintro rfl;simp[D.boxable]at hb
def ny(obj:Name->Option O)(t:Name)(x:D):R:=
 ⟨obj (bj t)=none/\x.boxable=true,.ref (bj t) 0,upd obj (bj t) (some (.box x.cells))⟩
theorem oZ{w:World}{o:Obj}{b:Nat}(h:b<w.heap.size):({ w with heap:=w.heap.push o }:World).heap[b]?=w.heap[b]?:=by
 show (w.heap.push o)[b]?=_
 rw[Array.getElem?_push,if_neg (by omega)]
theorem A4{w:World}{o:Obj}:({ w with heap:=w.heap.push o }:World).heap[w.heap.size]?=some o:=by
 show (w.heap.push o)[w.heap.size]?=_
 simp
theorem P'{G:Ghost}{φ:Name->Loc}{m:Mem}{σ:S}{a:Act}{w:World}(hC:aQ G φ m σ a w){t:Name}{x:D}{u:Value}(T:TypeId)
 (hx:aH φ σ.obj m x u) (aa:(ny σ.obj t x).ok):
 po G σ a (ny σ.obj t x) (.pointer (some ⟨w.heap.size,0,none⟩)) { w with heap:=w.heap.push (.cells u.cells T) }:=by
 obtain⟨h1,h2⟩:=aa
 have bC:=Ext.new (φ:=φ) h1 ⟨w.heap.size,0,0,false,none⟩ (.box x.cells)
 have aF:=D.boxable_any h2
 refine⟨upd φ (bj t) ⟨w.heap.size,0,0,false,none⟩,m,hC.chg (bj t) (.box x.cells) ⟨w.heap.size,0,0,false,none⟩ bC ⟨rfl,rfl,rfl,by simp⟩
  (fun b hb _=>oZ hb) (fun _=>.inl (Nat.le_refl _)) ?_,?_⟩
 ·exact⟨rfl,rfl,hx.boxed h2,u.cells,T,(0,0),A4,rfl,(hx.cells aF).symm,fun i h h'=>(hx.cell aF i h h').ext (Mem.le_refl m) bC⟩
 ·have:=aH.ref (φ:=upd φ (bj t) ⟨w.heap.size,0,0,false,none⟩) (obj:=upd σ.obj (bj t) (some (.box x.cells))) (m:=m) (bj t) 0 ⟨_,aS _ _ _,rfl⟩
  rwa [aS]at this
theorem SQ{P:Program}{G:Ghost}{φ:Name->Loc}{m:Mem}{σ:S}{a:Act}{w:World}(hC:aQ G φ m σ a w){t:Name}{T:TypeId}{x:D}{u:Value}
 (hx:aH φ σ.obj m x u) (aa:(ny σ.obj t x).ok):
 ∃ v w',(Instr.box T u).run P w=.ok v w'/\po G σ a (ny σ.obj t x) v w':=
 ⟨_,_,rfl,P' hC T hx aa⟩
def oE(P:Program)(obj:Name->Option O)(t:Name)(T:TypeId):R:=
 match bh P T with
 |some z=>ny obj t (jI z)
 |none=>.bad obj
theorem wP{P:Program}{T:TypeId}{z:Value}(h:bh P T=some z)(w:World):(zeroValue T).run P w=.ok z w:=by
 unfold bh at h
 cases hi:P.info? T with
 |none=>simp[hi]at h
 |some i=>simp only[hi,Option.bind_some]at h;simp[zeroValue,typeInfo,hi,h]
theorem SW{P:Program}{G:Ghost}{φ:Name->Loc}{m:Mem}{σ:S}{a:Act}{w:World}(hC:aQ G φ m σ a w){t:Name}{T:TypeId}
 (aa:(oE P σ.obj t T).ok):
 ∃ v w',(Instr.alloc T true (.tuple #[])).run P w=.ok v w'/\po G σ a (oE P σ.obj t T) v w':=by
 unfold oE at aa |-
 cases hz:bh P T with
 |none=>rw[hz]at aa;exact aa.elim
 |some z=>
  rw[hz]at aa
  refine⟨_,_,?_,P' hC T (u2 z) aa⟩
  simp only[Instr.alloc,Sem.run_bind,wP hz,Result.andThen_ok]
  rfl
def j8{α:Type}(cs:List α)(off:Nat)(ds:List α):List α:=cs.take off++ds++cs.drop (off+ds.length)
theorem CQ{α:Type}{cs ds:List α}{off:Nat}(h:off+ds.length<=cs.length):(j8 cs off ds).length=cs.length:=by
 simp[j8];omega
theorem uS{α:Type}{cs ds:List α}{off:Nat}(h:off+ds.length<=cs.length)(k:Nat):
 (j8 cs off ds)[k]?=if off<=k/\k<off+ds.length then ds[k-off]? else cs[k]?:=by
 unfold j8
 by_cases h1:k<off
 ·rw[if_neg (by omega),List.append_assoc,List.getElem?_append_left (by simp;omega)]
  simp[List.getElem?_take,h1]
 ·by_cases h2:k<off+ds.length
  ·rw[if_pos (by omega),List.append_assoc,List.getElem?_append_right (by simp;omega),List.getElem?_append_left (by simp;omega)]
   congr 1;simp;omega
  ·rw[if_neg (by omega),List.getElem?_append_right (by simp;omega),List.getElem?_drop]
   congr 1;simp;omega
def tL(place:Nat->Option (Nat×Nat)):List D->List (Nat×D)->Option (List D)
 |cs,[]=>some cs
 |cs,(i,d)::r=>
  match place i with
  |none=>none
  |some (off,size)=>if d.boxable=true/\d.cells.length=size/\off+size<=cs.length then tL place (j8 cs off d.cells) r else none
theorem Gs(off:Nat):∀ (vs:List Value) (s:Nat) (cs:Array Value),off+s+vs.length<=cs.size->
 ((vs.zipIdx s).foldl (fun cs (c,j)=>cs.setIfInBounds (off+j) c) cs).size=cs.size/\
 ∀ k,((vs.zipIdx s).foldl (fun cs (c,j)=>cs.setIfInBounds (off+j) c) cs)[k]?=if off+s<=k/\k<off+s+vs.length then vs[k-(off+s)]? else cs[k]?
 |[],s,cs,_=>⟨rfl,fun k=>by rw[if_neg (by simp only[List.length_nil];omega)];rfl⟩
 |v::vs,s,cs,h=>by
  simp only[List.length_cons]at h
  obtain⟨h1,h2⟩:=Gs off vs (s+1) (cs.setIfInBounds (off+s) v) (by simp;omega)
  simp only[List.zipIdx_cons,List.foldl_cons]
  refine⟨by rw[h1];simp,fun k=>?_⟩
  rw[h2 k]
  by_cases hk:k=off+s
  ·subst hk
   rw[if_neg (by omega),if_pos (by simp)]
   simp[show off+s<cs.size by omega]
  ·rw[Array.getElem?_setIfInBounds_ne (fun e=>hk e.symm)]
   by_cases jN:off+(s+1)<=k/\k<off+(s+1)+vs.length
   ·rw[if_pos jN,if_pos (by simp;omega)]
    have :k-(off+s)=(k-(off+(s+1)))+1:=by omega
    rw[this,List.getElem?_cons_succ]
   ·rw[if_neg jN,if_neg (by simp;omega)]
def Rd(φ:Name->Loc)(obj:Name->Option O)(m:Mem)(ds:List D)(us:Array Value):Prop:=
 ds.length=us.size/\∀ (k:Nat) (d:D) (u:Value),ds[k]?=some d->us[k]?=some u->aH φ obj m d u
theorem OS{φ:Name->Loc}{obj:Name->Option O}{m:Mem}(place:Nat->Option (Nat×Nat)):∀ (parts:List (Nat×D)) (vals:List (Nat×Value)) (cs:List D) (us:Array Value) (o8:List D),
 parts.map (·.1)=vals.map (·.1)->(∀ (k:Nat) (p:Nat×D) (q:Nat×Value),parts[k]?=some p->vals[k]?=some q->aH φ obj m p.2 q.2)->Rd φ obj m cs us->(∀ d∈cs,d.one=true)->tL place cs parts=some o8->
 ∃ b9,Instr.fill place us vals=some b9/\Rd φ obj m o8 b9/\(∀ d∈o8,d.one=true)
 |[],vals,cs,us,o8,he,hr,hl,ho,hf=>by
  cases vals with
  |nil=>simp only[tL,Option.some.injEq]at hf;subst hf;exact⟨us,rfl,hl,ho⟩
  |cons=>simp at he
 |(i,d)::parts,vals,cs,us,o8,he,hr,hl,ho,hf=>by
  cases vals with
  |nil=>simp at he
  |cons q vals=>
   obtain⟨i',u⟩:=q
   simp only[List.map_cons,List.cons.injEq]at he
   obtain⟨rfl,he⟩:=he
   simp only[tL]at hf
   cases hp:place i with
   |none=>simp[hp]at hf
   |some p=>
    obtain⟨off,size⟩:=p
    simp only[hp]at hf
    split at hf
    ·rename_i hc
     obtain⟨hb,hs,hle⟩:=hc
     have hd:aH φ obj m d u:=hr 0 (i,d) (i,u) rfl rfl
     have aF:=D.boxable_any hb
     have tv:=hd.cells aF
     have dS:us.size=cs.length:=hl.1.symm
     have vy:u.cells.toList.length=d.cells.length:=by simp[tv]
     obtain⟨g1,g2⟩:=Gs off u.cells.toList 0 us (by rw[vy];omega)
     have Fw:off+d.cells.length<=cs.length:=by omega
     obtain⟨b9,k1,k2,k3⟩:=OS place parts vals (j8 cs off d.cells) (((u.cells.toList.zipIdx 0).foldl (fun cs (c,j)=>cs.setIfInBounds (off+j) c) us)) o8 he
      (fun k p q hp hq=>hr (k+1) p q (by simpa using hp) (by simpa using hq))
      (by
        refine⟨by rw[CQ Fw,g1,dS],fun k d' u' hk jO=>?_⟩
        rw[uS Fw]at hk
        rw[g2]at jO
        simp only[Nat.add_zero,vy]at jO
        by_cases jN:off<=k/\k<off+d.cells.length
        ·rw[if_pos jN]at hk jO
         obtain⟨a1,a2⟩:=List.getElem?_eq_some_iff.1 hk
         obtain⟨b1,b2⟩:=List.getElem?_eq_some_iff.1 jO
         rw[Array.getElem_toList]at b2
         rw[<-a2,<-b2]
         exact hd.cell aF _ a1 (by simpa using b1)
        ·rw[if_neg jN]at hk jO
         exact hl.2 k d' u' hk jO)
      (by
        intro c hc
        obtain⟨k,hk⟩:=List.mem_iff_getElem?.1 hc
        rw[uS Fw]at hk
        split at hk
        ·exact hd.boxed hb c (List.mem_of_getElem? hk)
        ·exact ho c (List.mem_of_getElem? hk)) hf
     refine⟨b9,?_,k2,k3⟩
     simp only[Instr.fill,hp]
     rw[if_neg (by simp;omega)]
     have hz:u.cells.toList.zipIdx 0=(u.cells.zipIdx).toList:=by simp
     rw[<-Array.foldl_toList,<-hz]
     exact k1
    ·cases hf
def iq(P:Program)(t:TypeId):Option (List (Nat×Nat)):=
 match P.underlying t with
 |some (.struct fs)=>fs.toList.mapM fun f=>(P.info? f.type).map fun i=>(f.offset,i.size)
 |some (.array n e)=>(P.info? e).map fun i=>(List.range n).map fun j=>(j*i.size,i.size)
 |_=>none
def nx(P:Program)(obj:Name->Option O)(T:TypeId)(parts:List (Nat×D)):R:=
 match iq P T,bh P T with
 |some ps,some z=>match jI z with
  | .agg cs=>match tL (fun i=>ps[i]?) cs parts with
    |some o8=>⟨True,.agg o8,obj⟩
    |none=>.bad obj
  |_=>.bad obj
 |_,_=>.bad obj
theorem OU{n sz:Nat}:∀ (vals:List (Nat×Value)) (us b9:Array Value),
 Instr.fill (fun i=>((List.range n).map fun j=>(j*sz,sz))[i]?) us vals=some b9->Instr.fill (fun i=>some (i*sz,sz)) us vals=some b9
 |[],us,b9,h=>h
 |(i,v)::r,us,b9,h=>by
  simp only[Instr.fill]at h |-
  split at h
  ·cases h
  ·rename_i off size hp
   simp only[List.getElem?_map,Option.map_eq_some_iff]at hp
   obtain⟨j,hj,hp⟩:=hp
   have :j=i:=by
    obtain⟨a1,a2⟩:=List.getElem?_eq_some_iff.1 hj
    simpa using a2.symm
   subst this
   simp only[Prod.mk.injEq]at hp
   obtain⟨rfl,rfl⟩:=hp
   split at h
   ·cases h
   ·rename_i hc
    rw[if_neg hc]
    exact OU r _ b9 h
theorem SP{P:Program}{φ:Name->Loc}{obj:Name->Option O}{m:Mem}{T:TypeId}{parts:List (Nat×D)}{vals:Array (Nat×Value)}(w:World)
 (he:parts.map (·.1)=vals.toList.map (·.1)) (hr:∀ (k:Nat) (p:Nat×D) (q:Nat×Value),parts[k]?=some p->vals.toList[k]?=some q->aH φ obj m p.2 q.2) (aa:(nx P obj T parts).ok):
 ∃ v,(Instr.build T vals).run P w=.ok v w/\aH φ obj m (nx P obj T parts).d v/\(nx P obj T parts).obj=obj:=by
 unfold nx at aa |-
 split at aa
 ·rename_i ps z fR hz
  split at aa
  ·rename_i cs jP
   split at aa
   ·rename_i o8 hf
    have gK:aH φ obj m (jI z) z:=u2 z
    rw[jP]at gK
    cases gK with
    |agg _ us hl ho xN=>
    obtain⟨b9,h1,h2,h3⟩:=OS (fun i=>ps[i]?) parts vals.toList cs us o8 he hr
     ⟨hl,fun k d u hd hu=>by
       obtain⟨a1,a2⟩:=List.getElem?_eq_some_iff.1 hd
       obtain⟨b1,b2⟩:=Array.getElem?_eq_some_iff.1 hu
       rw[<-a2,<-b2];exact xN k a1 b1⟩ ho hf
    refine⟨.agg b9,?_,?_,by simp[fR,hz,jP,hf]⟩
    ·refine run_build w T vals b9 ?_
     unfold iq at fR
     unfold bh at hz
     unfold Program.built
     cases gy:P.info? T with
     |none=>simp[gy]at hz
     |some it=>
      simp only[gy,Option.bind_some]at hz
      split at fR
      ·rename_i fs hu
       simp only[hu,hz,fR,Value.cells]
       simpa using h1
      ·rename_i n e hu
       simp only[Option.map_eq_some_iff]at fR
       obtain⟨i,hi,fR⟩:=fR
       subst fR
       simp only[hu,hz,hi,Value.cells]
       exact OU _ _ _ h1
      ·cases fR
    ·simp only[fR,hz,jP,hf]
     refine .agg _ _ h2.1 h3 fun i a b=>h2.2 i _ _ (List.getElem?_eq_getElem a) (Array.getElem?_eq_getElem b)
   ·exact aa.elim
  ·exact aa.elim
 ·exact aa.elim
def V.okc:V->Bool
 | .tup _=>false
 |_=>true
theorem aO.ones{m:Mem}{x:V}{u:Value}(h:aO m x u)(hb:x.okc=true):∀ c∈x.cells,c.one=true:=by
 cases h with
 |agg l us hl ho hr=>exact ho
 |tup=>simp[V.okc]at hb
 |_=>intro c hc;simp only[V.cells,List.mem_singleton]at hc;subst hc;rfl
theorem aQ.immNew{G:Ghost}{φ:Name->Loc}{m:Mem}{σ:S}{a:Act}{w:World}(hC:aQ G φ m σ a w)(us:Array Value)(T:TypeId):
 ∃ m',Mem.le m m'/\aQ G φ m' σ a { w with heap:=w.heap.push (.cells us T) }/\∀ (off:Nat) (c:Value),us[off]?=some c->m' w.heap.size off=some c:=by
 let m':Mem:=fun b off=>if b=w.heap.size then us[off]? else m b off
 have hle:Mem.le m m':=by
  intro b off v h
  show (if b=w.heap.size then us[off]? else m b off)=some v
  rw[if_neg (by have:=o9 (hC.mem _ _ _ h);omega)];exact h
 refine⟨m',hle,?_,fun off c h=>by show (if w.heap.size=w.heap.size then us[off]? else m _ off)=some c;rw[if_pos rfl];exact h⟩
 refine hC.imm hle ⟨rfl,rfl,rfl,by simp⟩ (fun b hb=>oZ hb) fun b off v h=>?_
 have h':(if b=w.heap.size then us[off]? else m b off)=some v:=h
 by_cases hb:b=w.heap.size
 ·subst hb
  rw[if_pos rfl]at h'
  refine .inr ⟨Nat.le_refl _,?_⟩
  rw[rU (T:=T) (f:=(0,0)) A4];exact h'
 ·rw[if_neg hb]at h';exact .inl h'
theorem OT(sz:Nat):∀ (vals:List (Nat×Value)) (s:Nat) (us:Array Value),vals.map (·.1)=(List.range vals.length).map (s+ ·)->
 (∀ q∈vals,q.2.cells.size=sz)->(s+vals.length)*sz<=us.size->
 ∃ b9,Instr.fill (fun i=>some (i*sz,sz)) us vals=some b9/\b9.size=us.size/\(∀ k,k<s*sz->b9[k]?=us[k]?)/\
   ∀ (i j:Nat) (h:i<vals.length),j<sz->b9[(s+i)*sz+j]?=vals[i].2.cells[j]?
 |[],s,us,_,_,_=>⟨us,rfl,rfl,fun _ _=>rfl,fun i j h=>by simp at h⟩
 |(i0,v)::r,s,us,he,hs,hl=>by
  have he0:i0=s:=by
   have :=congrArg (·[0]?) he
   simpa using this
  subst he0
  have hv:v.cells.size=sz:=hs (i0,v) (by simp)
  have hmul:(i0+1+r.length)*sz=i0*sz+sz+r.length*sz:=by rw[Nat.add_mul,Nat.add_mul,Nat.one_mul]
  simp only[List.length_cons]at hl
  have Zy:i0*sz+sz+r.length*sz<=us.size:=by rw[<-hmul];rw[show i0+1+r.length=i0+(r.length+1)by omega];exact hl
  obtain⟨g1,g2⟩:=Gs (i0*sz) v.cells.toList 0 us (by simp[hv];omega)
  obtain⟨b9,k1,k2,k3,k4⟩:=OT sz r (i0+1) ((v.cells.toList.zipIdx 0).foldl (fun cs (c,j)=>cs.setIfInBounds (i0*sz+j) c) us)
   (by
     have h1:(List.range (r.length+1))=0::(List.range r.length).map (· +1):=by rw[List.range_succ_eq_map]
     simp only[List.map_cons,List.length_cons,h1,List.map_map,List.cons.injEq]at he
     rw[he.2]
     apply List.map_congr_left
     intro x _
     simp;omega)
   (fun q hq=>hs q (by simp[hq])) (by rw[g1,hmul];exact Zy)
  refine⟨b9,?_,by rw[k2,g1],fun k hk=>?_,fun i j hi hj=>?_⟩
  ·simp only[Instr.fill]
   rw[if_neg (by simp[hv];omega)]
   have hz:v.cells.toList.zipIdx 0=(v.cells.zipIdx).toList:=by simp
   rw[<-Array.foldl_toList,<-hz]
   exact k1
  ·rw[k3 k (by rw[Nat.add_mul,Nat.one_mul];omega),g2,if_neg (by simp only[Nat.add_zero];omega)]
  ·cases i with
   |zero=>
    simp only[Nat.add_zero,List.getElem_cons_zero]
    rw[k3 _ (by rw[Nat.add_mul,Nat.one_mul];omega),g2]
    rw[if_pos (by simp only[Nat.add_zero,Array.length_toList,hv];omega)]
    simp only[Nat.add_zero,Nat.add_sub_cancel_left,Array.getElem?_toList]
   |succ i=>
    simp only[List.length_cons]at hi
    have :=k4 i j (by omega) hj
    rw[show i0+(i+1)=i0+1+i by omega]
    simpa using this
def pg(P:Program)(obj:Name->Option O)(T:TypeId)(n:Nat)(parts:List (Nat×D)):R:=
 match cr P T with
 |some (e,sz,_)=>
  if n=0/\parts=[]then⟨(bh P e).isSome=true,.nilsl,obj⟩
  else⟨parts.map (·.1)=List.range n/\(bz (aK 4) obj (parts.map (·.2))).ok/\(∀ x∈(bz (aK 4) obj (parts.map (·.2))).xs,x.cells.length=sz/\x.okc=true)/\
   n *sz<=16777216/\sz≠0/\(bh P e).isSome=true/\0<n,.v (.sl (bz (aK 4) obj (parts.map (·.2))).xs),(bz (aK 4) obj (parts.map (·.2))).obj⟩
 |none=>.bad obj
theorem SO{P:Program}{G:Ghost}{φ:Name->Loc}{m:Mem}{σ:S}{a:Act}{w:World}(hC:aQ G φ m σ a w){T:TypeId}{n:Nat}{parts:List (Nat×D)}{vals:Array (Nat×Value)}
 (he:parts.map (·.1)=vals.toList.map (·.1)) (hr:∀ (k:Nat) (p:Nat×D) (q:Nat×Value),parts[k]?=some p->vals.toList[k]?=some q->aH φ σ.obj m p.2 q.2)
 (aa:(pg P σ.obj T n parts).ok):
 ∃ v w',(Instr.buildSlice T n vals).run P w=.ok v w'/\po G σ a (pg P σ.obj T n parts) v w':=by
 unfold pg at aa |-
 split at aa
 ·rename_i e sz by_ hT
  obtain⟨hu,i,hi,hs,_⟩:=j6 hT
  have Nh:(sizeOf e).run P w=.ok sz w:=by simp[sizeOf,typeInfo,hi,hs]
  split at aa
  ·rename_i hc
   obtain⟨rfl,rfl⟩:=hc
   have hv:vals= #[]:=by
    have :vals.toList=[]:=by simpa using he.symm
    simpa using this
   subst hv
   obtain⟨m',h1,h2,h3⟩:=hC.immNew #[] e
   refine⟨.slice (some ⟨w.heap.size,0,none⟩) 0 0,{ w with heap:=w.heap.push (.cells #[] e) },?_,?_⟩
   ·simp only[Instr.buildSlice,Sem.run_bind,run_underlying hu,Result.andThen_ok,Nh]
    simp[Instr.fill,newRow,Array.range_zero']
   ·simp only[hT]
    rw[if_pos (by simp)]
    exact⟨φ,m',h2,.nilsl _⟩
  ·rename_i hc
   obtain⟨h1,h2,h3,h4,h5,h6,h7⟩:=aa
   obtain⟨z,hz⟩:=Option.isSome_iff_exists.1 h6
   have hlen:vals.toList.length=n:=by
    have :=congrArg List.length (he.symm.trans h1)
    simpa using this
   have Nt:parts.length=n:=by
    have :=congrArg List.length h1
    simpa using this
   obtain⟨m1,a1,a2,a3,a4,a5,_⟩:=rK (qm 4) (parts.map (·.2)) hC (vals.toList.map (·.2)) (by simp[Nt];simpa using hlen.symm)
    (fun k h h'=>by
      simp only[List.length_map]at h h'
      simp only[List.getElem_map]
      exact hr k _ _ (List.getElem?_eq_getElem h) (List.getElem?_eq_getElem h')) h2
   have um:(bz (aK 4) σ.obj (parts.map (·.2))).xs.length=n:=by rw[a4];simpa using Nt
   obtain⟨b9,b1,b2,b3,b4⟩:=OT sz vals.toList 0 ((Array.range (n*sz)).map (z.cells[· % z.cells.size]!))
    (by rw[<-he,h1,hlen];simp)
    (fun q hq=>by
      obtain⟨k,hk,rfl⟩:=List.mem_iff_getElem.1 hq
      have h8:=a5 k (by rw[um];omega) (by simpa using hk)
      have h9:=(h3 _ (List.getElem_mem (show k<_ by rw[um];omega))).1
      rw[<-h9]
      simpa using h8.cells.symm) (by simp[hlen])
   obtain⟨m2,c1,c2,c3⟩:=a2.immNew b9 e
   refine⟨.slice (some ⟨w.heap.size,0,none⟩) n n,{ w with heap:=w.heap.push (.cells b9 e) },?_,?_⟩
   ·simp only[Instr.buildSlice,Sem.run_bind,run_underlying hu,Result.andThen_ok,Nh]
    have aF:¬ n*sz=0:=by have:=Nat.mul_pos h7 (Nat.pos_of_ne_zero h5);omega
    simp only[Sem.run_ite,Sem.run_bind,if_neg aF,wP hz,Result.andThen_ok,Sem.run_pure,b1,if_neg (show ¬ n*sz>2 ^ 24 by omega)]
    rfl
   ·rw[if_neg hc]
    refine⟨φ,m2,c2,.v _ _ ?_⟩
    have iU:=aO.sl (m:=m2) (bz (aK 4) σ.obj (parts.map (·.2))).xs w.heap.size 0 n sz (fun i j=>(b9[i*sz+j]?).getD undef)
     (fun e0=>by rw[e0]at um;simp at um;omega) (by rw[um];unfold maxLen;have:=Nat.le_mul_of_pos_right n (Nat.pos_of_ne_zero h5);omega) (by rw[um];exact Nat.le_refl _)
     (fun i hi=>(h3 _ (List.getElem_mem hi)).1)
     (fun i j hi hj=>by
       have bK:i<vals.toList.length:=by omega
       have :=b4 i j bK hj
       simp only[Nat.zero_add]at this
       have jP:j<vals.toList[i].2.cells.size:=by
        have h8:=a5 i hi (by simpa using bK)
        have h9:=(h3 _ (List.getElem_mem hi)).1
        have :=h8.cells
        simp only[List.getElem_map]at this
        omega
       rw[Array.getElem?_eq_getElem jP]at this
       rw[this]
       simp only[Option.getD_some]
       rw[Nat.zero_add]
       exact c3 _ _ this)
     (fun i j hi hj=>by
       have bK:i<vals.toList.length:=by omega
       have h9:=(h3 _ (List.getElem_mem hi)).1
       have :=b4 i j bK (by omega)
       simp only[Nat.zero_add]at this
       have h8:=a5 i hi (by simpa using bK)
       have jP:j<vals.toList[i].2.cells.size:=by
        have :=h8.cells
        simp only[List.getElem_map]at this
        omega
       rw[Array.getElem?_eq_getElem jP]at this
       rw[this]
       simp only[Option.getD_some]
       have tH:=(h8.mono c1).cell j hj (by simpa using jP)
       simpa using tH)
     (fun i hi x hx=>by
       have bK:i<vals.toList.length:=by omega
       exact(a5 i hi (by simpa using bK)).ones (h3 _ (List.getElem_mem hi)).2 x hx)
    rw[um]at iU
    exact iU
 ·exact aa.elim
def lu(P:Program)(obj:Name->Option O)(T:TypeId)(x d:D):R:=
 match bc P T,x with
 |some (_,n),.ref nm off=>match obj nm with
  |some (.box cs)=>⟨d.boxable=true/\d.cells.length=n/\off+n<=cs.length,.any,upd obj nm (some (.box (j8 cs off d.cells)))⟩
  |_=>.bad obj
 |some (_,n),.aref nm k i off=>match obj nm,eH d with
  |some (.arr sz l),some y=>⟨k=l.length/\i<l.length/\y.cells.length=n/\y.okc=true/\off+n<=sz/\sz≠0,.any,
     upd obj nm (some (.arr sz (l.set i (if off=0/\n=sz then y else .agg (j8 (l.getD i default).cells off y.cells)))))⟩
  |_,_=>.bad obj
 |_,_=>.bad obj
theorem J'{u:Value}:(∀ c∈u.cells.toList,gX c=true)↔∀ (k:Nat) (h:k<u.cells.size),gX u.cells[k]=true:=by
 constructor
 ·intro h k hk;exact h _ (by simp)
 ·intro h c hc
  obtain⟨k,hk,rfl⟩:=List.mem_iff_getElem.1 hc
  simpa using h k (by simpa using hk)
theorem Sz{P:Program}{G:Ghost}{φ:Name->Loc}{m:Mem}{σ:S}{a:Act}{w:World}(hC:aQ G φ m σ a w){T:TypeId}{x d:D}{u v:Value}
 (hx:aH φ σ.obj m x u) (hd:aH φ σ.obj m d v) (aa:(lu P σ.obj T x d).ok):
 ∃ w',(Instr.storeAt T u v).run P w=.ok () w'/\∃ φ' m',aQ G φ' m' { σ with obj:=(lu P σ.obj T x d).obj } a w':=by
 unfold lu at aa |-
 split at aa
 ·rename_i ag n nm off hT
  cases hx with
  |ref _ _ hx=>
  split at aa
  ·rename_i cs aB
   obtain⟨h1,h2,h3⟩:=aa
   simp only[hT,aB]
   have aF:=D.boxable_any h1
   have tv:=hd.cells aF
   obtain⟨g0,g1,rJ,us,T',f,g2,g3,g4,g5⟩:=hC.objs nm _ aB
   have ot:(φ nm).blk<w.heap.size:=(Array.getElem?_eq_some_iff.1 g2).1
   have oa:∀ c∈v.cells.toList,gX c=true:=by
    rw[J']
    intro k hk
    exact(hd.cell aF k (by omega) hk).one (hd.boxed h1 _ (List.getElem_mem _))
   obtain⟨b9,k1,k2,k3⟩:=I8 hT g3 g2 v (by omega) (o:=off) (by omega) oa
   have hle:off+d.cells.length<=cs.length:=by omega
   have bC:=Ext.same (φ:=φ) (o':=.box (j8 cs off d.cells)) aB rfl rfl
   refine⟨_,by simpa[Instr.storeAt,Instr.sureAddr,g0]using k3,φ,m,?_⟩
   have :=hC.chg (w':=cV w (φ nm).blk (.cells b9 T' f)) nm (.box (j8 cs off d.cells)) (φ nm) bC ⟨rfl,rfl,rfl,by simp[cV]⟩
    (fun b hb hn=>qy (by rcases hn with h | h; · rw[g1]at h;cases h
                         ·exact h))
    (fun _=>.inr ⟨⟨_,aB,rfl,g1⟩,rfl⟩)
    ⟨g0,g1,fun c hc=>by
       obtain⟨k,hk⟩:=List.mem_iff_getElem?.1 hc
       rw[uS hle]at hk
       split at hk
       ·exact hd.boxed h1 c (List.mem_of_getElem? hk)
       ·exact rJ c (List.mem_of_getElem? hk),b9,T',f,sg ot,g3,by rw[k1,CQ hle,g4],
      fun i h h'=>by
       have e1:=List.getElem?_eq_getElem h
       have e2:=Array.getElem?_eq_getElem h'
       rw[uS hle]at e1
       rw[k2]at e2
       by_cases jN:off<=i/\i<off+d.cells.length
       ·rw[if_pos jN]at e1
        rw[if_pos (by omega)]at e2
        obtain⟨a1,a2⟩:=List.getElem?_eq_some_iff.1 e1
        obtain⟨b1,b2⟩:=List.getElem?_eq_some_iff.1 e2
        rw[Array.getElem_toList]at b2
        rw[<-a2,<-b2]
        exact(hd.cell aF _ a1 (by simpa using b1)).ext (Mem.le_refl m) bC
       ·rw[if_neg jN]at e1
        rw[if_neg (by omega)]at e2
        obtain⟨a1,a2⟩:=List.getElem?_eq_some_iff.1 e1
        obtain⟨b1,b2⟩:=Array.getElem?_eq_some_iff.1 e2
        rw[<-a2,<-b2]
        exact(g5 _ a1 b1).ext (Mem.le_refl m) bC⟩
   rwa [gR]at this
  ·exact aa.elim
 ·rename_i ag n nm k i off hT
  cases hx with
  |aref _ _ _ _ _ hx hu=>
  obtain⟨o,k',dF,hlen,hk,dt⟩:=hx
  split at aa
  ·rename_i sz l y aB hy
   rw[dF]at aB;cases aB
   obtain⟨h1,h2,h3,h4,h5,h6⟩:=aa
   simp only[hT,dF,hy]
   simp only[O.len?,Option.some.injEq]at hlen
   have e:=dt (by omega)
   subst e
   have Au:=pb hd hy
   have Nx:=Au.ones h4
   have tv:=Au.cells
   rcases hC.objs nm _ dF with⟨_,hl⟩ | ⟨g0,g1,g2,g3,g4,us,T',f,g5,g6,g7,g8⟩
   ·subst hl;simp at h2
   have ot:(φ nm).blk<w.heap.size:=(Array.getElem?_eq_some_iff.1 g5).1
   have hmul:i*sz+sz<=(φ nm).cap*sz:=by
    have :(i+1)*sz<=(φ nm).cap*sz:=Nat.mul_le_mul_right _ (by omega)
    rwa [Nat.add_mul,Nat.one_mul]at this
   have oa:∀ c∈v.cells.toList,gX c=true:=by
    rw[J']
    intro q hq
    exact(Au.cell q (by omega) hq).one (Nx _ (List.getElem_mem _))
   obtain⟨b9,k1,k2,k3⟩:=I8 hT g6 g5 v (by omega) (o:=(φ nm).off+i*sz+off) (by omega) oa
   refine⟨_,by simpa[Instr.storeAt,Instr.sureAddr,O.sz]using k3,φ,m,?_⟩
   generalize hz:(if off=0/\n=sz then y else V.agg (j8 (l.getD i default).cells off y.cells))=z
   have Zu:(l.getD i default).cells.length=sz:=by rw[jr h2];exact g3 i h2
   have sR:z.cells=j8 (l.getD i default).cells off y.cells:=by
    subst hz
    split
    ·rename_i hc
     have e1:(l.getD i default).cells.drop (0+y.cells.length)=[]:=List.drop_eq_nil_of_le (by omega)
     rw[hc.1]
     unfold j8
     rw[e1]
     simp
    ·rfl
   have hle:off+y.cells.length<=(l.getD i default).cells.length:=by omega
   have Yz:z.cells.length=sz:=by rw[sR,CQ hle,Zu]
   have Yy:∀ c∈z.cells,c.one=true:=by
    intro c hc
    rw[sR]at hc
    obtain⟨q,hq⟩:=List.mem_iff_getElem?.1 hc
    rw[uS hle]at hq
    split at hq
    ·exact Nx c (List.mem_of_getElem? hq)
    ·rw[jr h2]at hq;exact g4 i h2 c (List.mem_of_getElem? hq)
   have bC:=Ext.same (φ:=φ) (o':=.arr sz (l.set i z)) dF (by simp[O.len?]) rfl
   have :=hC.chg (w':=cV w (φ nm).blk (.cells b9 T' f)) nm (.arr sz (l.set i z)) (φ nm) bC ⟨rfl,rfl,rfl,by simp[cV]⟩
    (fun b hb hn=>qy (by rcases hn with h | h; · rw[g0]at h;cases h
                         ·exact h))
    (fun _=>.inr ⟨⟨_,dF,rfl,g0⟩,rfl⟩)
    (.inr ⟨g0,by simpa using g1,g2,fun q hq=>by
        rw[List.getElem_set]
        split
        ·exact Yz
        ·exact g3 q (by simpa using hq),
      fun q hq=>by
       rw[List.getElem_set]
       split
       ·exact Yy
       ·exact g4 q (by simpa using hq),b9,T',f,sg ot,g6,by rw[k1];exact g7,
      fun q j hq hj=>by
       have bL:q<l.length:=by simpa using hq
       by_cases jM:i=q
       ·subst jM
        simp only[List.getElem_set,if_true]at hj |-
        have e1:=List.getElem?_eq_getElem hj
        have e2:z.cells[j]?=(j8 (l.getD i default).cells off y.cells)[j]?:=by rw[sR]
        rw[e2,uS hle]at e1
        rw[k2]
        by_cases jN:off<=j/\j<off+y.cells.length
        ·rw[if_pos jN]at e1
         rw[if_pos (by omega)]
         obtain⟨a1,a2⟩:=List.getElem?_eq_some_iff.1 e1
         have M':j-off<v.cells.size:=by omega
         refine⟨v.cells[j-off],?_,?_⟩
         ·have:(φ nm).off+i*sz+j-((φ nm).off+i*sz+off)=j-off:=by omega
          rw[this,Array.getElem?_toList];exact Array.getElem?_eq_getElem M'
         ·rw[<-a2];exact Au.cell _ a1 M'
        ·rw[if_neg jN]at e1
         rw[if_neg (by omega)]
         obtain⟨a1,a2⟩:=List.getElem?_eq_some_iff.1 e1
         rw[<-a2]
         have a1':j<(l[i]).cells.length:=by rw[jr h2]at a1;exact a1
         obtain⟨c,x1,x2⟩:=g8 i j h2 a1'
         refine⟨c,x1,?_⟩
         have e3:(l.getD i default).cells[j]=(l[i]).cells[j]:=by simp only[jr h2]
         rw[e3];exact x2
       ·simp only[List.getElem_set,jM,if_false]at hj |-
        obtain⟨c,x1,x2⟩:=g8 q j bL hj
        refine⟨c,?_,x2⟩
        rw[k2,if_neg ?_]
        ·exact x1
        ·have gO:j<sz:=by rw[<-g3 q bL];exact hj
         rintro⟨b1,b2⟩
         rcases Nat.lt_or_gt_of_ne jM with ab | NZ
         ·have:(i+1)*sz<=q*sz:=Nat.mul_le_mul_right _ (by omega)
          rw[Nat.add_mul,Nat.one_mul]at this
          omega
         ·have:(q+1)*sz<=i*sz:=Nat.mul_le_mul_right _ (by omega)
          rw[Nat.add_mul,Nat.one_mul]at this
          omega⟩)
   rwa [gR]at this
  ·exact aa.elim
 ·exact aa.elim
def sB(P:Program)(k:TypeId):Bool:=
 match P.underlying k with
 |some (.struct fs)=>match fs.toList with
  |[f,g]=>!P.stoodInHeld k&&!(f.name== "_")&&!(g.name== "_")&&Nat.beq f.offset 0&&Nat.beq g.offset 1&&
     decide (nG P f.type=some .i64)&&decide (nG P g.type=some .i64)&&decide (bc P f.type=some (false,1))&&decide (bc P g.type=some (false,1))
  |_=>false
 |_=>false
def kL(P:Program)(T:TypeId):Option (Nat×TypeId):=
 match P.underlying T with
 |some (.map k e)=>match P.underlying k with
  |some (.int .i64)=>some (0,e)
  |some .string=>some (1,e)
  |some (.struct _)=>if sB P k=true then some (2,e)else none
  |_=>none
 |_=>none
def oC(P:Program)(obj:Name->Option O)(t:Name)(T:TypeId)(Ug:Option D):R:=
 match kL P T,Ug with
 |some (kd,_),none=>⟨obj (bj t)=none,.map (bj t),upd obj (bj t) (some (.map kd []))⟩
 |_,_=>.bad obj
theorem SE{P:Program}{G:Ghost}{φ:Name->Loc}{m:Mem}{σ:S}{a:Act}{w:World}(hC:aQ G φ m σ a w){t:Name}{T:TypeId}{r:Option D}{ur:Option Value}
 (hr:r.isSome=ur.isSome) (aa:(oC P σ.obj t T r).ok):
 ∃ v w',(Instr.makeMap T ur).run P w=.ok v w'/\po G σ a (oC P σ.obj t T r) v w':=by
 unfold oC at aa |-
 split at aa
 ·rename_i kd e hT
  cases ur with
  |some=>simp at hr
  |none=>
  refine⟨.map (some w.heap.size),{ w with heap:=w.heap.push (.map #[] 0) },rfl,?_⟩
  have bC:=Ext.new (φ:=φ) aa ⟨w.heap.size,0,0,false,none⟩ (.map kd [])
  try simp only[hT]
  refine⟨upd φ (bj t) ⟨w.heap.size,0,0,false,none⟩,m,hC.chg (bj t) (.map kd []) ⟨w.heap.size,0,0,false,none⟩ bC ⟨rfl,rfl,rfl,by simp⟩
   (fun b hb _=>oZ hb) (fun _=>.inl (Nat.le_refl _)) ?_,?_⟩
  ·exact⟨rfl,rfl,fun q hq=>by simp at hq,#[],0,A4,rfl,fun i h=>by simp at h⟩
  ·have:=aH.map (φ:=upd φ (bj t) ⟨w.heap.size,0,0,false,none⟩) (obj:=upd σ.obj (bj t) (some (.map kd []))) (m:=m) (bj t) ⟨_,aS _ _ _,rfl⟩
   rwa [aS]at this
 ·exact aa.elim
def oB(P:Program)(obj:Name->Option O)(t:Name)(T:TypeId)(l c:D):R:=
 match cr P T,l,c with
 |some (e,sz,by_),.v (.int _ n),.v (.int _ n')=>match (bh P e).bind fun z=>eH (jI z)with
  |some zv=>⟨n'=n/\0<=n/\(by_:Int)*n<=281474976710656/\n<=9223372036854775807/\zv.cells.length=sz/\zv.okc=true/\sz≠0/\obj (bj t)=none,
     .msl (bj t) n.toNat,upd obj (bj t) (some (.arr sz (List.replicate n.toNat zv)))⟩
  |none=>.bad obj
 |_,_,_=>.bad obj
theorem SD{P:Program}{G:Ghost}{φ:Name->Loc}{m:Mem}{σ:S}{a:Act}{w:World}(hC:aQ G φ m σ a w){t:Name}{T:TypeId}{l c:D}{ul uc:Value}
 (hl:aH φ σ.obj m l ul) (hc:aH φ σ.obj m c uc) (aa:(oB P σ.obj t T l c).ok):
 ∃ v w',(Instr.makeSlice T ul uc).run P w=.ok v w'/\po G σ a (oB P σ.obj t T l c) v w':=by
 unfold oB at aa |-
 split at aa
 ·rename_i e sz by_ kl n kc n' hT
  split at aa
  ·rename_i zv sP
   obtain⟨h1,h2,h3,h4,h5,h6,h7,h8⟩:=aa
   subst h1
   simp only[hT,sP]
   cases hl with
   |v _ _ hl=>
   cases hl
   cases hc with
   |v _ _ hc=>
   cases hc
   obtain⟨hu,i,hi,hs,hb⟩:=j6 hT
   cases hz:bh P e with
   |none=>simp[hz]at sP
   |some z=>
   simp only[hz,Option.bind_some]at sP
   have xB:i.zero=some z:=by unfold bh at hz;simpa[hi]using hz
   have gK:aO m zv z:=pb (u2 (φ:=φ) (obj:=σ.obj) (m:=m) z) sP
   have EF:z.cells.size=sz:=by rw[<-gK.cells];exact h5
   have cZ:=run_make (P:=P) w T e i z hu hi xB kl kc n' n' h2 (Int.le_refl _) (by rw[hb];exact h3) h4
   refine⟨_,_,cZ,?_⟩
   have bC:=Ext.new (φ:=φ) h8 ⟨w.heap.size,0,n'.toNat,false,none⟩ (.arr sz (List.replicate n'.toNat zv))
   refine⟨upd φ (bj t) ⟨w.heap.size,0,n'.toNat,false,none⟩,m,hC.chg (bj t) _ ⟨w.heap.size,0,n'.toNat,false,none⟩ bC ⟨rfl,rfl,rfl,by show w.heap.size<=(w.heap.push _).size;simp⟩
    (fun b hb _=>oZ hb) (fun _=>.inl (Nat.le_refl _)) ?_,?_⟩
   ·refine .inr ⟨rfl,by simp,by show n'.toNat<=maxLen;unfold maxLen;omega,fun q hq=>by rw[List.getElem_replicate];exact h5,fun q hq=>by rw[List.getElem_replicate];exact gK.ones h6,
      madeCells z.cells (n'.toNat*i.size),e,(0,0),A4,rfl,by rw[size_madeCells,hs];simp,fun q j hq hj=>?_⟩
    simp only[List.length_replicate]at hq
    simp only[List.getElem_replicate]at hj |-
    have gO:j<z.cells.size:=by omega
    refine⟨z.cells[j],?_,gK.cell j hj gO⟩
    have ab:q*sz+j<n'.toNat*sz:=by
     have :(q+1)*sz<=n'.toNat*sz:=Nat.mul_le_mul_right _ (by omega)
     rw[Nat.add_mul,Nat.one_mul]at this;omega
    have Zq:(q*sz+j) % z.cells.size=j:=by
     rw[EF,Nat.mul_comm,Nat.mul_add_mod]
     exact Nat.mod_eq_of_lt (by omega)
    unfold madeCells
    rw[Nat.zero_add,hs]
    simp[ab,Zq,gO]
   ·refine .msl _ _ _ ⟨_,_,aS _ _ _,rfl,by simp,fun _=>?_⟩ rfl
    rw[aS];rfl
  ·exact aa.elim
 ·exact aa.elim
def dB(P:Program)(t:TypeId):Option Nat:=
 match P.underlying t with
 |some (.slice _)=>some 0
 |some .string=>some 1
 |some (.map _ _)=>some 2
 |_=>none
def ly(P:Program)(obj:Name->Option O)(T:TypeId)(x:D):R:=
 match dB P T,x with
 |some 0,.v (.sl l)=>⟨True,.v (.int .i64 l.length),obj⟩
 |some 0,.nilsl=>⟨True,.v (.int .i64 0),obj⟩
 |some 0,.msl nm k=>⟨(obj nm).bind O.len?=some k,.v (.int .i64 k),obj⟩
 |some 1,.v (.str s)=>⟨True,.v (.int .i64 s.size),obj⟩
 |some 2,.nilmap=>⟨True,.v (.int .i64 0),obj⟩
 |some 2,.map nm=>match obj nm with
  |some (.map _ es)=>⟨True,.v (.int .i64 es.length),obj⟩
  |_=>.bad obj
 |_,_=>.bad obj
theorem CN{P:Program}{G:Ghost}{φ:Name->Loc}{m:Mem}{σ:S}{a:Act}{w:World}(hC:aQ G φ m σ a w){nm:Name}{o:O}{n:Nat}
 (aB:σ.obj nm=some o) (hlen:o.len?=some n):∃ b c,(φ nm).slice n=.slice b n c/\n<=c:=by
 have :=hC.objs nm o aB
 unfold Loc.slice
 cases o with
 |arr sz l=>
  simp only[O.len?,Option.some.injEq]at hlen
  subst hlen
  rcases this with⟨h,h'⟩ | ⟨h,h',_⟩
  ·subst h';simp[h]
  ·simp only[h,Bool.false_eq_true,if_false];exact⟨_,_,rfl,h'⟩
 |farr sz l=>
  simp only[O.len?,Option.some.injEq]at hlen
  subst hlen
  rcases this with⟨h,h'⟩ | ⟨h,h',_⟩
  ·subst h';simp[h]
  ·simp only[h,Bool.false_eq_true,if_false];exact⟨_,_,rfl,h'.1⟩
 |dead sz k=>
  simp only[O.len?,Option.some.injEq]at hlen
  subst hlen
  rcases this with⟨h,h'⟩ | ⟨h,h'⟩
  ·subst h';simp[h]
  ·simp only[h,Bool.false_eq_true,if_false];exact⟨_,_,rfl,h'⟩
 |_=>simp[O.len?]at hlen
theorem SG{P:Program}{G:Ghost}{φ:Name->Loc}{m:Mem}{σ:S}{a:Act}{w:World}(hC:aQ G φ m σ a w){T ty:TypeId}{x:D}{u:Value}
 (hx:aH φ σ.obj m x u) (aa:(ly P σ.obj T x).ok):
 ∃ v,(Builtin.len_ #[T] ty #[u]).run P w=.ok v w/\aH φ σ.obj m (ly P σ.obj T x).d v/\(ly P σ.obj T x).obj=σ.obj:=by
 have iU:dB P T=some 0->∃ e,P.underlying T=some (.slice e):=by
  intro h;unfold dB at h;split at h<;>simp_all
 have cK:dB P T=some 1->P.underlying T=some .string:=by
  intro h;unfold dB at h;split at h<;>simp_all
 have NF:dB P T=some 2->∃ k e,P.underlying T=some (.map k e):=by
  intro h;unfold dB at h;split at h<;>simp_all
 unfold ly at aa |-
 split at aa
 ·rename_i l hT
  obtain⟨e,hu⟩:=iU hT
  cases hx with
  |v _ _ hx=>
  refine⟨.int .i64 l.length,?_,by simpa[hT]using .v _ _ (.int _ _),by simp[hT]⟩
  cases hx<;>simp[Builtin.len_,run_underlying hu,goInt]
 ·rename_i hT
  obtain⟨e,hu⟩:=iU hT
  cases hx
  exact⟨.int .i64 0,by simp[Builtin.len_,run_underlying hu,goInt],by simpa[hT]using .v _ _ (.int _ _),by simp[hT]⟩
 ·rename_i nm k hT
  obtain⟨e,hu⟩:=iU hT
  cases hx with
  |msl _ _ _ hx EL=>
  obtain⟨o,n,aB,hlen,hk,dt⟩:=hx
  simp only[aB,Option.bind_some,hlen,Option.some.injEq]at aa
  have e:=dt aa.symm
  subst e
  subst aa
  obtain⟨b,c,h1,_⟩:=CN (P:=P) hC aB hlen
  rw[h1]
  exact⟨.int .i64 n,by simp[Builtin.len_,run_underlying hu,goInt],by simpa[hT]using .v _ _ (.int _ _),by simp[hT]⟩
 ·rename_i s hT
  have hu:=cK hT
  cases hx with
  |v _ _ hx=>
  cases hx
  exact⟨.int .i64 s.size,by simp[Builtin.len_,run_underlying hu,goInt],by simpa[hT]using .v _ _ (.int _ _),by simp[hT]⟩
 ·rename_i hT
  obtain⟨k,e,hu⟩:=NF hT
  cases hx
  exact⟨.int .i64 0,by simp[Builtin.len_,run_underlying hu,goInt],by simpa[hT]using .v _ _ (.int _ _),by simp[hT]⟩
 ·rename_i nm hT
  obtain⟨k,e,hu⟩:=NF hT
  cases hx with
  |map _ hx=>
  split at aa
  ·rename_i kd es aB
   obtain⟨g0,g1,_,ents,clock,g2,g3,g4⟩:=hC.objs nm _ aB
   refine⟨.int .i64 es.length,?_,by simpa[hT,aB]using .v _ _ (.int _ _),by simp[hT,aB]⟩
   simp[Builtin.len_,run_underlying hu,MapKept.run_getObj_map g2,goInt,g3]
  ·exact aa.elim
 ·exact aa.elim
def gY:Option D->Option Int
 |none=>some 0
 |some (.v (.int _ n))=>some n
 |_=>none
def k9(n:Nat):Option D->Option Int
 |none=>some n
 |some (.v (.int _ k))=>some k
 |_=>none
def kI(P:Program)(obj:Name->Option O)(T:TypeId)(x:D)(lo hi mx:Option D):R:=
 match mx,x with
 |none,.v (.sl l)=>match cr P T,gY lo,k9 l.length hi with
  |some (_,sz,_),some i,some j=>⟨0<=i/\i<=j/\j<=l.length/\(∀ x∈l,x.cells.length=sz),.v (.sl ((l.drop i.toNat).take (j.toNat-i.toNat))),obj⟩
  |_,_,_=>.bad obj
 |none,.nilsl=>match cr P T,gY lo,k9 0 hi with
  |some (_,_,_),some i,some j=>⟨i=0/\j=0,.nilsl,obj⟩
  |_,_,_=>.bad obj
 |none,.msl nm k=>match obj nm,cr P T,gY lo,k9 k hi with
  |some (.arr s l),some (_,sz,_),some i,some j=>⟨k=l.length/\0<=i/\i<=j/\j<=l.length/\(∀ x∈l,x.cells.length=sz),.v (.sl ((l.drop i.toNat).take (j.toNat-i.toNat))),upd obj nm (some (.farr s l))⟩
  |some (.farr s l),some (_,sz,_),some i,some j=>⟨k=l.length/\0<=i/\i<=j/\j<=l.length/\(∀ x∈l,x.cells.length=sz),.v (.sl ((l.drop i.toNat).take (j.toNat-i.toNat))),obj⟩
  |_,_,_,_=>.bad obj
 |some (.v (.int _ 0)),.v (.sl _)=>match cr P T,gY lo,hi with
  |some _,some 0,some (.v (.int _ 0))=>⟨True,.nilsl,obj⟩
  |_,_,_=>.bad obj
 |some (.v (.int _ 0)),.nilsl=>match cr P T,gY lo,hi with
  |some _,some 0,some (.v (.int _ 0))=>⟨True,.nilsl,obj⟩
  |_,_,_=>.bad obj
 |some (.v (.int _ 0)),.msl nm k=>match cr P T,gY lo,hi with
  |some _,some 0,some (.v (.int _ 0))=>⟨(obj nm).bind O.len?=some k,.nilsl,obj⟩
  |_,_,_=>.bad obj
 |none,.v (.str s)=>match dB P T,gY lo,k9 s.size hi with
  |some 1,some i,some j=>⟨0<=i/\i<=j/\j<=s.size,.v (.str (s.extract i.toNat j.toNat)),obj⟩
  |_,_,_=>.bad obj
 |_,_=>.bad obj
theorem run_sliceBound{P:Program}{k:IntKind}{n:Int}{y:Nat}{c:BoundsCode}(h0:0<=n)(h1:n<=y)(w:World):
 (Instr.sliceBound (.int k n) y c).run P w=.ok n.toNat w:=by
 simp[Instr.sliceBound,asIntOf,h0,h1]
def pj(φ:Name->Loc)(obj:Name->Option O)(m:Mem)(d:Option D)(u:Option Value):Prop:=
 match d,u with
 |none,none=>True
 |some d,some u=>aH φ obj m d u
 |_,_=>False
theorem zB{P:Program}{φ:Name->Loc}{obj:Name->Option O}{m:Mem}{lo hi:Option D}{ulo uhi:Option Value}{len cap n:Nat}{i j:Int}(b:Bool)
 (fc:pj φ obj m lo ulo) (hS:pj φ obj m hi uhi) (e1:gY lo=some i) (e2:k9 len hi=some j) (h0:0<=i) (h1:i<=j) (h2:j<=len) (h3:len<=cap) (w:World):
 (Instr.sliceBounds b len cap ulo uhi none).run P w=.ok (i.toNat,j.toNat,cap) w:=by
 have hh:(uhi=none/\j=len)\/∃ k,uhi=some (.int k j):=by
  cases hi with
  |none=>
   cases uhi with
   |none=>simp only[k9,Option.some.injEq]at e2;exact .inl ⟨rfl,e2.symm⟩
   |some=>exact hS.elim
  |some d=>
   cases uhi with
   |none=>exact hS.elim
   |some u=>
    have hd:aH φ obj m d u:=hS
    unfold k9 at e2
    split at e2
    ·cases ‹some d=none›
    ·rename_i hq
     cases hq
     simp only[Option.some.injEq]at e2
     subst e2
     cases hd with
     |v _ _ hd=>cases hd;exact .inr ⟨_,rfl⟩
    ·cases e2
 have hl:(ulo=none/\i=0)\/∃ k,ulo=some (.int k i):=by
  cases lo with
  |none=>
   cases ulo with
   |none=>simp only[gY,Option.some.injEq]at e1;exact .inl ⟨rfl,e1.symm⟩
   |some=>exact fc.elim
  |some d=>
   cases ulo with
   |none=>exact fc.elim
   |some u=>
    have hd:aH φ obj m d u:=fc
    unfold gY at e1
    split at e1
    ·cases ‹some d=none›
    ·rename_i hq
     cases hq
     simp only[Option.some.injEq]at e1
     subst e1
     cases hd with
     |v _ _ hd=>cases hd;exact .inr ⟨_,rfl⟩
    ·cases e1
 rcases hh with⟨rfl,rfl⟩ | ⟨k1,rfl⟩
 ·rcases hl with⟨rfl,rfl⟩ | ⟨k2,rfl⟩
  ·simp[Instr.sliceBounds]
  ·simp[Instr.sliceBounds,run_sliceBound (P:=P) (k:=k2) (y:=len) (c:=.sliceB) h0 (by omega)]
 ·have hb:=run_sliceBound (P:=P) (k:=k1) (y:=cap) (c:=if b=true then .sliceAcap else .sliceAlen) (n:=j) (by omega) (by omega) w
  rcases hl with⟨rfl,rfl⟩ | ⟨k2,rfl⟩
  ·simp[Instr.sliceBounds,hb]
  ·simp[Instr.sliceBounds,hb,run_sliceBound (P:=P) (k:=k2) (y:=j.toNat) (c:=.sliceB) h0 (by omega)]
theorem aO.cut{P:Program}{m:Mem}{T:TypeId}{l:List V}{u:Value}(h:aO m (.sl l) u){sz:Nat}(i j:Nat)(bF:i<=j)(hj:j<=l.length)(dS:∀ x∈l,x.cells.length=sz):
 ∃ b len cap,u=.slice b len cap/\len=l.length/\len<=cap/\aO m (.sl ((l.drop i).take (j-i))) (.slice (if cap=i then b else b.map (·.add (i*sz))) (j-i) (cap-i)):=by
 cases h with
 |slnil b cap=>exact⟨b,0,cap,rfl,rfl,Nat.zero_le _,by simp only[List.drop_nil,List.take_nil];simp at hj;rw[hj];simp;exact .slnil _ _⟩
 |sl _ b o cap mv c hn hl jR hs hc hr ho=>
  refine⟨some ⟨b,o,none⟩,l.length,cap,rfl,rfl,jR,?_⟩
  by_cases ab:i<j
  ·have YW:mv=sz:=by
     have h0:0<l.length:=by omega
     rw[<-hs 0 h0];exact dS _ (List.getElem_mem h0)
   subst YW
   rw[if_neg (by omega)]
   simp only[Option.map_some,pc]
   have hlen:((l.drop i).take (j-i)).length=j-i:=by simp;omega
   have :=aO.sl (m:=m) ((l.drop i).take (j-i)) b (o+i*mv) (cap-i) mv (fun p q=>c (i+p) q) (fun e=>by rw[e]at hlen;simp at hlen;omega) (by rw[hlen];omega) (by rw[hlen];omega)
    (fun p hp=>by simp only[List.getElem_take,List.getElem_drop];exact hs _ (by simp at hp;omega))
    (fun p q hp hq=>by
      have :=hc (i+p) q (by simp at hp;omega) hq
      rw[Nat.add_mul]at this
      rw[show o+i*mv+p*mv+q=o+(i*mv+p*mv)+q by omega];exact this)
    (fun p q hp hq=>by
      simp only[List.getElem_take,List.getElem_drop]at hq |-
      exact hr _ _ (by simp at hp;omega) hq)
    (fun p hp=>by simp only[List.getElem_take,List.getElem_drop];exact ho _ (by simp at hp;omega))
   rw[hlen]at this
   exact this
  ·have:j-i=0:=by omega
   rw[this,List.take_zero]
   exact .slnil _ _
theorem R9{P:Program}{T:TypeId}(h:dB P T=some 0):∃ e,P.underlying T=some (.slice e):=by
 unfold dB at h;split at h<;>simp_all
theorem Iu{P:Program}{T:TypeId}(h:dB P T=some 1):P.underlying T=some .string:=by
 unfold dB at h;split at h<;>simp_all
theorem zx{P:Program}{T e:TypeId}(hu:P.underlying T=some (.slice e))(x:Value)(lo hi mx:Option Value)(w:World):
 (Instr.sliceAt T x lo hi mx).run P w=(Instr.slice T x lo hi mx).run P w:=by
 simp[Instr.sliceAt,run_underlying hu]
theorem C2{P:Program}{T e:TypeId}(hu:P.underlying T=some (.slice e)){it:TypeInfo}(gy:P.info? e=some it)(b:Option Addr)(len cap:Nat){k1 k2 k3:IntKind}{ulo:Option Value}
 (hl:ulo=none\/ulo=some (.int k1 0)) (w:World):
 (Instr.sliceAt T (.slice b len cap) ulo (some (.int k2 0)) (some (.int k3 0))).run P w=.ok (.slice b 0 0) w:=by
 have hb:=fun (k:IntKind) (y:Nat) (c:BoundsCode)=>run_sliceBound (P:=P) (k:=k) (y:=y) (c:=c) (n:=0) (Int.le_refl 0) (by omega) w
 rw[zx hu]
 rcases hl with rfl | rfl<;>simp[Instr.slice,run_underlying hu,Instr.sliceBounds,hb,sizeOf,typeInfo,gy]
theorem C1{P:Program}{φ:Name->Loc}{obj:Name->Option O}{m m':Mem}{T e:TypeId}{sz by_:Nat}(hT:cr P T=some (e,sz,by_)){l:List V}{u:Value}(h:aO m' (.sl l) u){lo hi:Option D}{ulo uhi:Option Value}{i j:Int}
 (fc:pj φ obj m lo ulo) (hS:pj φ obj m hi uhi) (e1:gY lo=some i) (e2:k9 l.length hi=some j) (h0:0<=i) (h1:i<=j) (h2:j<=l.length) (dS:∀ x∈l,x.cells.length=sz) (w:World):
 ∃ v,(Instr.sliceAt T u ulo uhi none).run P w=.ok v w/\aO m' (.sl ((l.drop i.toNat).take (j.toNat-i.toNat))) v:=by
 obtain⟨hu,it,gy,hs,_⟩:=j6 hT
 obtain⟨b,len,cap,rfl,rfl,hc,hr⟩:=aO.cut (P:=P) (T:=T) h (sz:=sz) i.toNat j.toNat (by omega) (by omega) dS
 refine⟨_,?_,hr⟩
 rw[zx hu]
 have hb:=zB (P:=P) (cap:=cap) (n:=0) true fc hS e1 e2 h0 h1 h2 hc w
 simp only[Instr.slice,Sem.run_bind,run_underlying hu,Result.andThen_ok,hb]
 simp[sizeOf,typeInfo,gy,hs]
theorem SA{P:Program}{G:Ghost}{φ:Name->Loc}{m:Mem}{σ:S}{a:Act}{w:World}(hC:aQ G φ m σ a w){T:TypeId}{x:D}{u:Value}{lo hi mx:Option D}{ulo uhi wB:Option Value}
 (hx:aH φ σ.obj m x u) (fc:pj φ σ.obj m lo ulo) (hS:pj φ σ.obj m hi uhi) (fB:pj φ σ.obj m mx wB) (aa:(kI P σ.obj T x lo hi mx).ok):
 ∃ v w',(Instr.sliceAt T u ulo uhi wB).run P w=.ok v w'/\po G σ a (kI P σ.obj T x lo hi mx) v w':=by
 have Fk:∀ {k:IntKind},pj φ σ.obj m (some (.v (.int k 0))) wB->wB=some (.int k 0):=by
  intro k h
  cases wB with
  |none=>exact h.elim
  |some v=>have h':aH φ σ.obj m (.v (.int k 0)) v:=h;cases h' with | v _ _ h'=>cases h';rfl
 have FK:∀ {k:IntKind},hi=some (.v (.int k 0))->uhi=some (.int k 0):=by
  intro k he
  subst he
  cases uhi with
  |none=>exact hS.elim
  |some v=>have h':aH φ σ.obj m (.v (.int k 0)) v:=hS;cases h' with | v _ _ h'=>cases h';rfl
 have Fv:gY lo=some 0->∃ k,ulo=none\/ulo=some (.int k 0):=by
  intro he
  cases lo with
  |none=>
   cases ulo with
   |none=>exact⟨.i64,.inl rfl⟩
   |some=>exact fc.elim
  |some d=>
   cases ulo with
   |none=>exact fc.elim
   |some v=>
    have hd:aH φ σ.obj m d v:=fc
    unfold gY at he
    split at he
    ·cases ‹some d=none›
    ·rename_i hq
     cases hq
     simp only[Option.some.injEq]at he
     subst he
     cases hd with
     |v _ _ hd=>cases hd;exact⟨_,.inr rfl⟩
    ·cases he
 have AO:∀ {y:Option Value},pj φ σ.obj m none y->y=none:=by
  intro y h;cases y with | none=>rfl | some=>exact h.elim
 unfold kI at aa |-
 split at aa
 ·rename_i l
  cases AO fB
  split at aa
  ·rename_i e sz by_ i j hT e1 e2
   obtain⟨h0,h1,h2,h3⟩:=aa
   cases hx with
   |v _ _ hx=>
   obtain⟨v,r1,r2⟩:=C1 hT hx fc hS e1 e2 h0 h1 h2 h3 w
   exact⟨v,w,r1,φ,m,by simpa[hT,e1,e2]using hC,by simpa[hT,e1,e2]using .v _ _ r2⟩
  ·exact aa.elim
 ·cases AO fB
  split at aa
  ·rename_i e sz by_ i j hT e1 e2
   obtain⟨rfl,rfl⟩:=aa
   cases hx with
   |nilsl b=>
   obtain⟨hu,it,gy,hs,_⟩:=j6 hT
   have hb:=zB (P:=P) (cap:=0) (n:=0) (len:=0) true fc hS e1 e2 (by omega) (by omega) (by omega) (by omega) w
   refine⟨.slice b 0 0,w,?_,φ,m,by simpa[hT,e1,e2]using hC,by simpa[hT,e1,e2]using .nilsl _⟩
   rw[zx hu]
   simp only[Instr.slice,Sem.run_bind,run_underlying hu,Result.andThen_ok,hb]
   simp[sizeOf,typeInfo,gy]
  ·exact aa.elim
 ·rename_i nm k
  cases AO fB
  split at aa
  ·rename_i s l e sz by_ i j aB hT e1 e2
   obtain⟨hk,h0,h1,h2,h3⟩:=aa
   have hf:(aK 1 σ.obj (.msl nm k))=⟨k=l.length,.sl l,upd σ.obj nm (some (.farr s l))⟩:=by simp[aK,aB]
   obtain⟨m',a1,a2,a3,a4,_⟩:=qm 1 _ _ _ _ _ _ hC _ _ hx (by rw[hf];exact hk)
   rw[hf]at a2 a4
   subst hk
   obtain⟨v,r1,r2⟩:=C1 hT a4 fc hS e1 e2 h0 h1 h2 h3 w
   exact⟨v,w,r1,φ,m',by simpa[aB,hT,e1,e2]using a2,by simpa[aB,hT,e1,e2]using .v _ _ r2⟩
  ·rename_i s l e sz by_ i j aB hT e1 e2
   obtain⟨hk,h0,h1,h2,h3⟩:=aa
   have hf:(aK 1 σ.obj (.msl nm k))=⟨k=l.length,.sl l,σ.obj⟩:=by simp[aK,aB]
   obtain⟨m',a1,a2,a3,a4,_⟩:=qm 1 _ _ _ _ _ _ hC _ _ hx (by rw[hf];exact hk)
   rw[hf]at a2 a4
   subst hk
   obtain⟨v,r1,r2⟩:=C1 hT a4 fc hS e1 e2 h0 h1 h2 h3 w
   exact⟨v,w,r1,φ,m',by simpa[aB,hT,e1,e2]using a2,by simpa[aB,hT,e1,e2]using .v _ _ r2⟩
  ·exact aa.elim
 ·rename_i k l
  cases Fk fB
  split at aa
  ·rename_i p k2 hT e1
   obtain⟨e,sz,by_⟩:=p
   obtain⟨hu,it,gy,hs,_⟩:=j6 hT
   cases FK rfl
   obtain⟨k1,hl⟩:=Fv e1
   cases hx with
   |v _ _ hx=>
   have iU:∃ b len cap,u=.slice b len cap:=by cases hx;exact⟨_,_,_,rfl⟩;exact⟨_,_,_,rfl⟩
   obtain⟨b,len,cap,rfl⟩:=iU
   exact⟨_,w,C2 hu gy b len cap hl w,φ,m,by simpa[hT,e1]using hC,by simpa[hT,e1]using .nilsl _⟩
  ·exact aa.elim
 ·rename_i k
  cases Fk fB
  split at aa
  ·rename_i p k2 hT e1
   obtain⟨e,sz,by_⟩:=p
   obtain⟨hu,it,gy,hs,_⟩:=j6 hT
   cases FK rfl
   obtain⟨k1,hl⟩:=Fv e1
   cases hx with
   |nilsl b=>
   exact⟨_,w,C2 hu gy b 0 0 hl w,φ,m,by simpa[hT,e1]using hC,by simpa[hT,e1]using .nilsl _⟩
  ·exact aa.elim
 ·rename_i k0 nm k
  cases Fk fB
  split at aa
  ·rename_i p k2 hT e1
   obtain⟨e,sz,by_⟩:=p
   obtain⟨hu,it,gy,hs,_⟩:=j6 hT
   cases FK rfl
   obtain⟨k1,hl⟩:=Fv e1
   cases hx with
   |msl _ _ _ hx EL=>
   obtain⟨o,n,aB,hlen,hk,dt⟩:=hx
   simp only[aB,Option.bind_some,hlen,Option.some.injEq]at aa
   have e:=dt aa.symm
   subst e
   subst aa
   obtain⟨b,c,h1,_⟩:=CN (P:=P) hC aB hlen
   rw[h1]
   exact⟨_,w,C2 hu gy b _ c hl w,φ,m,by simpa[hT,e1]using hC,by simpa[hT,e1]using .nilsl _⟩
  ·exact aa.elim
 ·rename_i s
  cases AO fB
  split at aa
  ·rename_i i j hT e1 e2
   obtain⟨h0,h1,h2⟩:=aa
   have hu:=Iu hT
   cases hx with
   |v _ _ hx=>
   cases hx with
   |str _ hs=>
   have hb:=zB (P:=P) (cap:=s.size) (n:=0) (len:=s.size) false fc hS e1 e2 h0 h1 h2 (Nat.le_refl _) w
   refine⟨.string (s.extract i.toNat j.toNat),w,?_,φ,m,by simpa[hT,e1,e2]using hC,?_⟩
   ·simp only[Instr.sliceAt,Instr.slice,Sem.run_bind,run_underlying hu,Result.andThen_ok]
    simp[hb]
   ·simp only[hT,e1,e2]
    refine .v _ _ (.str _ ?_)
    rw[ByteArray.size_extract];omega
  ·exact aa.elim
 ·exact aa.elim
def aJ(obj:Name->Option O)(x:D):Prop×List V:=
 match x with
 | .v (.sl l)=>(True,l)
 | .nilsl=>(True,[])
 | .msl nm k=>match obj nm with
   |some (.arr _ l)=>(k=l.length,l)
   |some (.farr _ l)=>(k=l.length,l)
   |_=>(False,[])
 |_=>(False,[])
theorem J9{v:Value}(h:gX v=true):v.oneCell'=true:=by cases v<;>simp_all[gX,Value.oneCell']
structure Reads (m:Mem) (w:World) (l:List V) (sz:Nat) (b:Option Addr) (cap:Nat) (c:Nat->Nat->Value):Prop where
 ahW:l.length<=cap
 cell:l≠[]->∃ blk o,b=some ⟨blk,o,none⟩/\∀ i j,i<l.length->j<sz->w.cell? ⟨blk,o+i*sz+j,none⟩=some (c i j)
 rep:∀ i j (h:i<l.length) (h':j<l[i].cells.length),aO m l[i].cells[j] (c i j)
 one:∀ i j (_:i<l.length),j<sz->gX (c i j)=true
 oneV:∀ i (h:i<l.length),∀ y∈l[i].cells,y.one=true
theorem pP{α:Type}{l:List α}(h:l≠[]):0<l.length:=by cases l<;>simp_all
theorem qF{G:Ghost}{φ:Name->Loc}{m:Mem}{σ:S}{a:Act}{w:World}(hC:aQ G φ m σ a w){x:D}{u:Value}(hx:aH φ σ.obj m x u){sz:Nat}
 (aa:(aJ σ.obj x).1) (dS:∀ y∈(aJ σ.obj x).2,y.cells.length=sz):
 ∃ b cap c,u=.slice b (aJ σ.obj x).2.length cap/\Reads m w (aJ σ.obj x).2 sz b cap c:=by
 unfold aJ at aa dS |-
 split at aa
 ·rename_i l
  cases hx with
  |v _ _ hx=>
  cases hx with
  |slnil b cap=>exact⟨b,cap,fun _ _=>undef,rfl,Nat.zero_le _,fun h=>(h rfl).elim,fun i j h=>by simp at h,fun i j h=>by simp at h,fun i h=>by simp at h⟩
  |sl _ b o cap mv c hn hl jR hs hc hr ho=>
   have h0:0<l.length:=pP hn
   have :mv=sz:=by rw[<-hs 0 h0];exact dS _ (List.getElem_mem h0)
   subst this
   exact⟨some ⟨b,o,none⟩,cap,c,rfl,jR,fun _=>⟨b,o,rfl,fun i j hi hj=>hC.mem _ _ _ (hc i j hi hj)⟩,hr,
    fun i j hi hj=>(hr i j hi (by rw[hs];exact hj)).one (ho i hi _ (List.getElem_mem _)),ho⟩
 ·cases hx with
  |nilsl b=>exact⟨b,0,fun _ _=>undef,rfl,Nat.zero_le _,fun h=>(h rfl).elim,fun i j h=>by simp at h,fun i j h=>by simp at h,fun i h=>by simp at h⟩
 ·rename_i nm k
  cases hx with
  |msl _ _ _ hx hu=>
  obtain⟨o,n,aB,hlen,hk,dt⟩:=hx
  split at aa
  ·rename_i s l dF
   rw[aB]at dF;cases dF
   simp only[aB]at dS |-
   simp only[O.len?,Option.some.injEq]at hlen
   subst hlen
   have e:=dt aa
   subst e
   rcases hC.objs nm _ aB with⟨h,h'⟩ | ⟨g0,g1,g2,g3,g4,us,T,f,g5,g6,g7,g8⟩
   ·subst h'
    simp only[Loc.slice,h,if_true]
    exact⟨_,0,fun _ _=>undef,rfl,Nat.zero_le _,fun h=>(h rfl).elim,fun i j h=>by simp at h,fun i j h=>by simp at h,fun i h=>by simp at h⟩
   ·simp only[Loc.slice,g0,Bool.false_eq_true,if_false]
    rw[aa]
    have sW:l≠[]->s=sz:=fun aF=>by
     have h0:0<l.length:=pP aF
     rw[<-g3 0 h0];exact dS _ (List.getElem_mem h0)
    refine⟨_,_,fun i j=>(us[(φ nm).off+i*s+j]?).getD undef,rfl,g1,fun aF=>⟨_,_,rfl,fun i j hi hj=>?_⟩,fun i j hi hj=>?_,fun i j hi hj=>?_,g4⟩
    ·have hs:=sW aF
     obtain⟨c,x1,x2⟩:=g8 i j hi (by rw[g3,hs];exact hj)
     rw[rU g5,<-hs,x1];rfl
    ·obtain⟨c,x1,x2⟩:=g8 i j hi hj
     rw[x1];exact x2
    ·have hs:=sW (by intro e;rw[e]at hi;simp at hi)
     obtain⟨c,x1,x2⟩:=g8 i j hi (by rw[g3,hs];exact hj)
     rw[x1];exact x2.one (g4 i hi _ (List.getElem_mem _))
  ·rename_i s l dF
   rw[aB]at dF;cases dF
   simp only[aB]at dS |-
   simp only[O.len?,Option.some.injEq]at hlen
   subst hlen
   have e:=dt aa
   subst e
   rcases hC.objs nm _ aB with⟨h,h'⟩ | ⟨g0,⟨g1,rJ⟩,g2,g3,g4⟩
   ·subst h'
    simp only[Loc.slice,h,if_true]
    exact⟨_,0,fun _ _=>undef,rfl,Nat.zero_le _,fun h=>(h rfl).elim,fun i j h=>by simp at h,fun i j h=>by simp at h,fun i h=>by simp at h⟩
   ·simp only[Loc.slice,g0,Bool.false_eq_true,if_false]
    rw[aa]
    have sW:l≠[]->s=sz:=fun aF=>by
     have h0:0<l.length:=pP aF
     rw[<-g2 0 h0];exact dS _ (List.getElem_mem h0)
    refine⟨_,_,fun i j=>(m (φ nm).blk ((φ nm).off+i*s+j)).getD undef,rfl,g1,fun aF=>⟨_,_,rfl,fun i j hi hj=>?_⟩,fun i j hi hj=>?_,fun i j hi hj=>?_,g3⟩
    ·have hs:=sW aF
     obtain⟨c,x1,x2⟩:=g4 i j hi (by rw[g2,hs];exact hj)
     rw[<-hs,hC.mem _ _ _ x1,x1];rfl
    ·obtain⟨c,x1,x2⟩:=g4 i j hi hj
     rw[x1];exact x2
    ·have hs:=sW (by intro e;rw[e]at hi;simp at hi)
     obtain⟨c,x1,x2⟩:=g4 i j hi (by rw[g2,hs];exact hj)
     rw[x1];exact x2.one (g3 i hi _ (List.getElem_mem _))
  ·exact aa.elim
 ·exact aa.elim
def rowOf(c:Nat->Nat->Value)(n sz:Nat):List Value:=(List.range (n*sz)).map fun k=>c (k / sz) (k % sz)
theorem gU(c:Nat->Nat->Value)(n sz:Nat):(rowOf c n sz).length=n*sz:=by simp[rowOf]
theorem Pj{k n sz:Nat}(h:k<n*sz):k / sz<n/\k % sz<sz:=by
 have h0:0<sz:=by
  rcases Nat.eq_zero_or_pos sz with h' | h'
  ·subst h';simp at h
  ·exact h'
 exact⟨Nat.div_lt_of_lt_mul (by rwa [Nat.mul_comm]),Nat.mod_lt _ h0⟩
theorem sm(c:Nat->Nat->Value){n sz i j:Nat}(hi:i<n)(hj:j<sz):(rowOf c n sz)[i*sz+j]?=some (c i j):=by
 have h1:i*sz+j<n*sz:=by
  have :(i+1)*sz<=n*sz:=Nat.mul_le_mul_right _ (by omega)
  rw[Nat.add_mul,Nat.one_mul]at this;omega
 have h2:(i*sz+j) / sz=i:=by
  rw[Nat.mul_comm,Nat.mul_add_div (by omega),Nat.div_eq_of_lt hj,Nat.add_zero]
 have h3:(i*sz+j) % sz=j:=by
  rw[Nat.mul_comm,Nat.mul_add_mod,Nat.mod_eq_of_lt hj]
 simp[rowOf,h1,h2,h3]
theorem C6{w:World}{c:Nat->Nat->Value}{n sz blk o:Nat}(h:∀ i j,i<n->j<sz->w.cell? ⟨blk,o+i*sz+j,none⟩=some (c i j)):
 ∀ j v,(rowOf c n sz)[j]?=some v->w.cell? ((⟨blk,o,none⟩:Addr).add j)=some v:=by
 intro j v hv
 have hj:j<n*sz:=by
  have :=(List.getElem?_eq_some_iff.1 hv).1
  rwa [gU]at this
 obtain⟨h1,h2⟩:=Pj hj
 have e:j=j / sz*sz+j % sz:=by rw[Nat.mul_comm];exact(Nat.div_add_mod j sz).symm
 rw[e,sm c h1 h2]at hv
 cases hv
 rw[pc]
 have :=h _ _ h1 h2
 rw[Nat.add_assoc,<-e]at this
 exact this
theorem Reads.src{P:Program}{m:Mem}{w:World}{l:List V}{sz:Nat}{b:Option Addr}{cap:Nat}{c:Nat->Nat->Value}(r:Reads m w l sz b cap c){tx e':TypeId}(hk:P.underlying tx=some (.slice e')):
 Src P sz tx (.slice b l.length cap) l.length (rowOf c l.length sz) w:=by
 have oa:∀ v∈rowOf c l.length sz,v.oneCell'=true:=by
  intro v hv
  simp only[rowOf,List.mem_map,List.mem_range]at hv
  obtain⟨k,hk,rfl⟩:=hv
  obtain⟨h1,h2⟩:=Pj hk
  exact J9 (r.one _ _ h1 h2)
 by_cases hl:l=[]
 ·subst hl
  simp only[List.length_nil]
  have e0:rowOf c 0 sz=[]:=by simp[rowOf]
  rw[e0]
  cases b with
  |none=>exact Src.ofNil (w:=w) hk cap
  |some ad=>exact Src.ofSlice (w:=w) hk ad 0 cap [] (by simp) (by simp) (by simp)
 ·obtain⟨blk,o,hb,hc⟩:=r.cell hl
  rw[hb]
  exact Src.ofSlice (w:=w) hk ⟨blk,o,none⟩ l.length cap _ (gU _ _ _) (C6 hc) oa
def ey(P:Program)(obj:Name->Option O)(t:Name)(T1 T2:TypeId)(s x:D):R:=
 match cr P T1,cr P T2 with
 |some (e,sz,by_),some _=>match bh P e with
  |some z=>match s with
   | .nilsl=>⟨(aJ obj x).1/\(∀ y∈(aJ obj x).2,y.cells.length=sz/\y.okc=true)/\z.cells.size=sz/\(aJ obj x).2.length*by_<=140737488355328/\(aJ obj x).2.length<=maxLen/\obj (bj t)=none,
       .msl (bj t) (aJ obj x).2.length,upd obj (bj t) (some (.arr sz (aJ obj x).2))⟩
   | .msl nm k=>match obj nm with
     |some (.arr s' l)=>⟨(aJ obj x).1/\(∀ y∈(aJ obj x).2,y.cells.length=sz/\y.okc=true)/\z.cells.size=sz/\(l.length+(aJ obj x).2.length)*by_<=140737488355328/\
        l.length+(aJ obj x).2.length<=maxLen/\k=l.length/\s'=sz,
        .msl nm (l.length+(aJ obj x).2.length),upd obj nm (some (.arr sz (l++(aJ obj x).2)))⟩
     |_=>.bad obj
   |_=>.bad obj
  |none=>.bad obj
 |_,_=>.bad obj
theorem IV{φ:Name->Loc}{obj:Name->Option O}{m:Mem}{w':World}{B cap sz:Nat}{T:TypeId}{l1 l2:List V}{us:Array Value}
 (hB:w'.heap[B]?=some (.cells us T (0,0))) (jR:l1.length+l2.length<=cap) (aag:cap<=maxLen) (Az:cap*sz<=us.size)
 (h1:∀ i (h:i<l1.length),l1[i].cells.length=sz) (fU:∀ i (h:i<l1.length),∀ x∈l1[i].cells,x.one=true)
 (h2:∀ i (h:i<l2.length),l2[i].cells.length=sz) (ql:∀ i (h:i<l2.length),∀ x∈l2[i].cells,x.one=true)
 (r1:∀ i j (h:i<l1.length) (h':j<l1[i].cells.length),∃ c,us[i*sz+j]?=some c/\aO m l1[i].cells[j] c)
 (r2:∀ i j (h:i<l2.length) (h':j<l2[i].cells.length),∃ c,us[(l1.length+i)*sz+j]?=some c/\aO m l2[i].cells[j] c):
 ig φ obj m (.arr sz (l1++l2)) ⟨B,0,cap,false,none⟩ w':=by
 refine .inr ⟨rfl,by simpa using jR,aag,fun i hi=>?_,fun i hi=>?_,us,T,(0,0),hB,rfl,by simpa using Az,fun i j hi hj=>?_⟩
 ·by_cases h:i<l1.length
  ·rw[List.getElem_append_left h];exact h1 i h
  ·rw[List.getElem_append_right (by omega)];exact h2 _ (by simp at hi;omega)
 ·by_cases h:i<l1.length
  ·rw[List.getElem_append_left h];exact fU i h
  ·rw[List.getElem_append_right (by omega)];exact ql _ (by simp at hi;omega)
 ·simp only[Nat.zero_add]
  by_cases h:i<l1.length
  ·simp only[List.getElem_append_left h]at hj |-;exact r1 i j h hj
  ·simp only[List.getElem_append_right (show l1.length<=i by omega)]at hj |-
   have :=r2 (i-l1.length) j (by simp at hi;omega) hj
   rwa [show l1.length+(i-l1.length)=i by omega]at this
set_option maxHeartbeats 4000000 in
theorem SV{P:Program}{G:Ghost}{φ:Name->Loc}{m:Mem}{σ:S}{a:Act}{w:World}(hC:aQ G φ m σ a w){t:Name}{T1 T2 ty:TypeId}{s x:D}{us ux:Value}
 (hs:aH φ σ.obj m s us) (hx:aH φ σ.obj m x ux) (aa:(ey P σ.obj t T1 T2 s x).ok):
 ∃ v w',(Builtin.append_ #[T1,T2] ty #[us,ux]).run P w=.ok v w'/\po G σ a (ey P σ.obj t T1 T2 s x) v w':=by
 unfold ey at aa |-
 split at aa
 ·rename_i e sz by_ p tD ov
  obtain⟨e2,Iw,P3⟩:=p
  obtain⟨jL,i,hi,oe,FI⟩:=j6 tD
  obtain⟨fQ,_⟩:=j6 ov
  split at aa
  ·rename_i z hz
   have xB:i.zero=some z:=by unfold bh at hz;simpa[hi]using hz
   have grown:∀ (base:Option Addr) (l1:List V) (cap:Nat) (lF:Nat->Nat->Value),us=.slice base l1.length cap->
       cap <l1.length+(aJ σ.obj x).2.length->
       (aJ σ.obj x).1->(∀ y∈(aJ σ.obj x).2,y.cells.length=sz/\y.okc=true)->z.cells.size=sz->(l1.length+(aJ σ.obj x).2.length)*by_<=140737488355328->
       l1.length+(aJ σ.obj x).2.length<=maxLen->
       (∀ i (h:i<l1.length),l1[i].cells.length=sz)->(∀ i (h:i<l1.length),∀ x∈l1[i].cells,x.one=true)->
       (Builtin.firstCells i.size l1.length us).run P w.drew=.ok (rowOf lF l1.length sz).toArray w.drew->
       (∀ i j (h:i<l1.length) (h':j<l1[i].cells.length),aO m l1[i].cells[j] (lF i j))->
       ∃ w' eQ arr,(Builtin.append_ #[T1,T2] ty #[us,ux]).run P w=.ok (.slice (some ⟨w.heap.size,0,none⟩) (l1.length+(aJ σ.obj x).2.length) eQ) w'/\
         w'={ w with heap:=w.heap.push (.cells arr e),drawn:=w.drawn+1 }/\
         ∀ φ' obj',ig φ' obj' m (.arr sz (l1++(aJ σ.obj x).2)) ⟨w.heap.size,0,eQ,false,none⟩ w':=by
    intro base l1 cap lF dt ab h1 h2 h3 h4 h5 h6 Gk FQ ES
    obtain⟨b2,ua,c2,km,r⟩:=qF hC hx h1 (fun y hy=>(h2 y hy).1)
    have cA:=r.src (P:=P) fQ
    rw[<-km]at cA
    have E5:=r.oneV
    have hn:0<l1.length+(aJ σ.obj x).2.length:=by omega
    have FX:=nextslicecap_le (old:=cap) (need:=l1.length+(aJ σ.obj x).2.length) ab
    subst dt
    have cZ:=run_append_grow_src (P:=P) w T1 T2 ty e i z jL hi xB base l1.length cap (rowOf lF l1.length sz) FQ ux (aJ σ.obj x).2.length
     (rowOf c2 (aJ σ.obj x).2.length sz) (by rw[oe];exact cA) ab (by unfold maxLen at h5;omega)
     (by rw[FI];calc _<=2*(l1.length+(aJ σ.obj x).2.length)*by_:=Nat.mul_le_mul_right _ FX
         _=2*((l1.length+(aJ σ.obj x).2.length)*by_):=by rw[Nat.mul_assoc]
         _<=_:=by omega)
    refine⟨_,_,_,cZ,rfl,fun φ' obj'=>?_⟩
    have bB:=grownCap_ge w (l1.length+(aJ σ.obj x).2.length) cap e
    have hle:=grownCap_le_maxLen w (l1.length+(aJ σ.obj x).2.length) cap e h5
    generalize grownCap w (l1.length+(aJ σ.obj x).2.length) cap e=gc at *
    refine IV (w':={ w with heap:=w.heap.push _,drawn:=w.drawn+1 }) (T:=e) (us:=_) (by show (w.heap.push _)[w.heap.size]?=_;simp;rfl) bB hle ?_ h6 Gk (fun k hk=>(h2 _ (List.getElem_mem hk)).1) E5 ?_ ?_
    ·simp only[Array.size_append,List.size_toArray,List.length_append,gU,Builtin.zeroCells,Array.size_map,Array.size_range,h3]
     have :l1.length*sz+(aJ σ.obj x).2.length*sz+(gc-(l1.length+(aJ σ.obj x).2.length))*sz=gc*sz:=by
      rw[<-Nat.add_mul,<-Nat.add_mul];congr 1;omega
     omega
    ·intro q j hq hj
     have gO:j<sz:=by rw[<-h6 q hq];exact hj
     refine⟨lF q j,?_,ES q j hq hj⟩
     have au:q*sz+j<l1.length*sz:=by
      have :(q+1)*sz<=l1.length*sz:=Nat.mul_le_mul_right _ (by omega)
      rw[Nat.add_mul,Nat.one_mul]at this;omega
     rw[Array.getElem?_append_left (by simp[gU];omega)]
     rw[List.getElem?_toArray,List.getElem?_append_left (by rw[gU];omega)]
     exact sm lF hq gO
    ·intro q j hq hj
     have gO:j<sz:=by rw[<-(h2 _ (List.getElem_mem hq)).1];exact hj
     refine⟨c2 q j,?_,r.rep q j hq hj⟩
     have au:q*sz+j<(aJ σ.obj x).2.length*sz:=by
      have :(q+1)*sz<=(aJ σ.obj x).2.length*sz:=Nat.mul_le_mul_right _ (by omega)
      rw[Nat.add_mul,Nat.one_mul]at this;omega
     have e9:(l1.length+q)*sz+j=l1.length*sz+(q*sz+j):=by rw[Nat.add_mul];omega
     rw[e9,Array.getElem?_append_left (by simp[gU];omega)]
     rw[List.getElem?_toArray,List.getElem?_append_right (by rw[gU];omega),gU,Nat.add_sub_cancel_left]
     exact sm c2 hq gO
   split at aa
   ·
    obtain⟨h1,h2,h3,h4,h5,h6⟩:=aa
    try simp only[tD,ov,hz]
    cases hs with
    |nilsl base=>
    by_cases hl:(aJ σ.obj x).2=[]
    ·obtain⟨b2,ua,c2,km,r⟩:=qF hC hx h1 (fun y hy=>(h2 y hy).1)
     have cA:=r.src (P:=P) fQ
     rw[<-km]at cA
     rw[hl]at cA |-
     refine⟨.slice base 0 0,w,?_,?_⟩
     ·simp only[List.length_nil]at cA
      have e0:rowOf c2 0 sz=[]:=by simp[rowOf]
      rw[e0]at cA
      have hc:=cA.cells
      rw[<-oe]at hc
      cases base with
      |none=>simp[Builtin.append_,run_underlying jL,run_underlying fQ,sizeOf,typeInfo,hi,cA.len,hc]
      |some ad=>simp[Builtin.append_,run_underlying jL,run_underlying fQ,sizeOf,typeInfo,hi,cA.len,hc,storeCells]
     ·have bC:=Ext.new (φ:=φ) h6 ⟨0,0,0,true,base⟩ (.arr sz [])
      refine⟨upd φ (bj t) ⟨0,0,0,true,base⟩,m,hC.chg (w':=w) (bj t) (.arr sz []) ⟨0,0,0,true,base⟩ bC ⟨rfl,rfl,rfl,Nat.le_refl _⟩ (fun _ _ _=>rfl)
       (fun h=>by cases h) (.inl ⟨rfl,rfl⟩),?_⟩
      refine .msl _ _ _ ⟨_,_,aS _ _ _,rfl,by simp,fun _=>?_⟩ rfl
      rw[aS];rfl
    ·have cT:=pP hl
     obtain⟨w',eQ,arr,cZ,nY,ko⟩:=grown base [] 0 (fun _ _=>undef) rfl (by simpa using cT) h1 h2 h3 (by simpa using h4) (by simpa using h5) (fun i h=>by simp at h) (fun i h=>by simp at h)
      (by
        have e0:rowOf (fun _ _=>undef) ([]:List V).length sz=[]:=by simp[rowOf]
        rw[e0]
        cases base with
        |none=>simp[Builtin.firstCells]
        |some ad=>simp[Builtin.firstCells,loadCells,loadCellsFrom]) (fun i j h=>by simp at h)
     refine⟨_,_,cZ,?_⟩
     subst nY
     have bC:=Ext.new (φ:=φ) h6 ⟨w.heap.size,0,eQ,false,none⟩ (.arr sz (aJ σ.obj x).2)
     refine⟨upd φ (bj t) ⟨w.heap.size,0,eQ,false,none⟩,m,hC.chg (bj t) _ ⟨w.heap.size,0,eQ,false,none⟩ bC ⟨rfl,rfl,rfl,by show w.heap.size<=(w.heap.push _).size;simp⟩
      (fun b hb _=>oZ hb) (fun _=>.inl (Nat.le_refl _)) (ko _ _),?_⟩
     refine .msl _ _ _ ⟨_,_,aS _ _ _,rfl,by simp,fun _=>?_⟩ rfl
     rw[aS]
     simp[Loc.slice]
   ·rename_i nm k
    split at aa
    ·rename_i s' l aB
     obtain⟨h1,h2,h3,h4,h5,h6,h7⟩:=aa
     subst h7
     simp only[tD,ov,hz,aB]
     cases hs with
     |msl _ _ _ hs EL=>
     obtain⟨o,n,dF,hlen,hk,dt⟩:=hs
     rw[aB]at dF;cases dF
     simp only[O.len?,Option.some.injEq]at hlen
     subst hlen
     have e9:=dt h6
     subst e9
     subst h6
     by_cases hl:(aJ σ.obj x).2=[]/\(φ nm).nul=true
     ·obtain⟨hl,dN⟩:=hl
      have p7:l=[]:=by
       rcases hC.objs nm _ aB with⟨_,h⟩ | ⟨h,_⟩
       ·exact h
       ·rw[dN]at h;cases h
      subst p7
      obtain⟨b2,ua,c2,km,r⟩:=qF hC hx h1 (fun y hy=>(h2 y hy).1)
      have cA:=r.src (P:=P) fQ
      rw[<-km]at cA
      rw[hl]at cA |-
      simp only[Loc.slice,dN,if_true]
      refine⟨.slice (φ nm).nb 0 0,w,?_,?_⟩
      ·simp only[List.length_nil]at cA
       have e0:rowOf c2 0 s'=[]:=by simp[rowOf]
       rw[e0]at cA
       have hc:=cA.cells
       rw[<-oe]at hc
       cases (φ nm).nb with
       |none=>simp[Builtin.append_,run_underlying jL,run_underlying fQ,sizeOf,typeInfo,hi,cA.len,hc]
       |some ad=>simp[Builtin.append_,run_underlying jL,run_underlying fQ,sizeOf,typeInfo,hi,cA.len,hc,storeCells]
      ·refine⟨φ,m,?_,?_⟩
       ·have:upd σ.obj nm (some (.arr s' ([]++[])))=σ.obj:=by
          have :=gR σ.obj nm
          rw[aB]at this
          simpa using this
        simp only[this]
        exact hC
       ·refine .msl _ _ _ ⟨_,_,aS _ _ _,rfl,by simp,fun _=>?_⟩ rfl
        simp[Loc.slice,dN]
     ·obtain⟨b2,ua,c2,km,r⟩:=qF hC hx h1 (fun y hy=>(h2 y hy).1)
      have cA:=r.src (P:=P) fQ
      rw[<-km]at cA
      rcases hC.objs nm _ aB with⟨dN,p7⟩ | ⟨g0,g1,g2,g3,g4,b9,T',f,g5,g6,g7,g8⟩
      ·subst p7
       have aF:(aJ σ.obj x).2≠[]:=fun e=>hl ⟨e,dN⟩
       have cT:=pP aF
       simp only[Loc.slice,dN,if_true]at grown |-
       obtain⟨w',eQ,arr,cZ,nY,ko⟩:=grown (φ nm).nb [] 0 (fun _ _=>undef) rfl (by simpa using cT) h1 h2 h3 h4 h5 (fun i h=>by simp at h) (fun i h=>by simp at h)
        (by
          have e0:rowOf (fun _ _=>undef) ([]:List V).length s'=[]:=by simp[rowOf]
          rw[e0]
          cases (φ nm).nb with
          |none=>simp[Builtin.firstCells]
          |some ad=>simp[Builtin.firstCells,loadCells,loadCellsFrom]) (fun i j h=>by simp at h)
       refine⟨_,_,cZ,?_⟩
       subst nY
       have bC:=Ext.grow (φ:=φ) (o':=.arr s' ([]++(aJ σ.obj x).2)) aB rfl rfl (by simpa using cT) ⟨w.heap.size,0,eQ,false,none⟩
       refine⟨upd φ nm ⟨w.heap.size,0,eQ,false,none⟩,m,hC.chg nm _ ⟨w.heap.size,0,eQ,false,none⟩ bC ⟨rfl,rfl,rfl,by show w.heap.size<=(w.heap.push _).size;simp⟩
        (fun b hb _=>oZ hb) (fun _=>.inl (Nat.le_refl _)) (ko _ _),?_⟩
       refine .msl _ _ _ ⟨_,_,aS _ _ _,rfl,by simp,fun _=>?_⟩ rfl
       rw[aS]
       simp[Loc.slice]
      ·have ot:(φ nm).blk<w.heap.size:=(Array.getElem?_eq_some_iff.1 g5).1
       simp only[Loc.slice,g0,Bool.false_eq_true,if_false]at grown |-
       by_cases sZ:l.length+(aJ σ.obj x).2.length<=(φ nm).cap
       ·
        have Fl:(l.length+(aJ σ.obj x).2.length)*s'<=(φ nm).cap*s':=Nat.mul_le_mul_right _ sZ
        rw[Nat.add_mul]at Fl
        obtain⟨jA,k1,k2,k3⟩:=wQ P (φ nm).blk ((φ nm).off+l.length*s') T' f g6 (rowOf c2 (aJ σ.obj x).2.length s') 0 b9 w g5 (by rw[gU];omega)
         (fun v hv=>by
           have :=cA.one v hv
           cases v<;>simp_all[gX,Value.oneCell'])
        refine⟨.slice (some ⟨(φ nm).blk,(φ nm).off,none⟩) (l.length+(aJ σ.obj x).2.length) (φ nm).cap,cV w (φ nm).blk (.cells jA T' f),?_,?_⟩
        ·have hc:=cA.cells
         rw[<-oe]at hc k3
         simp[Builtin.append_,run_underlying jL,run_underlying fQ,sizeOf,typeInfo,hi,cA.len,hc,sZ,pc,k3]
        ·have xM:ig (upd φ nm (φ nm)) (upd σ.obj nm (some (.arr s' (l++(aJ σ.obj x).2)))) m (.arr s' (l++(aJ σ.obj x).2)) (φ nm) (cV w (φ nm).blk (.cells jA T' f)):=by
           refine .inr ⟨g0,by simpa using sZ,g2,fun q hq=>?_,fun q hq=>?_,jA,T',f,sg ot,g6,by rw[k1];exact g7,fun q j hq hj=>?_⟩
           ·by_cases h:q<l.length
            ·rw[List.getElem_append_left h];exact g3 q h
            ·rw[List.getElem_append_right (by omega)];exact(h2 _ (List.getElem_mem _)).1
           ·by_cases h:q<l.length
            ·rw[List.getElem_append_left h];exact g4 q h
            ·rw[List.getElem_append_right (by omega)]
             exact r.oneV _ _
           ·rw[k2]
            simp only[Nat.add_zero,gU]
            by_cases h:q<l.length
            ·simp only[List.getElem_append_left h]at hj |-
             have gO:j<s':=by rw[<-g3 q h];exact hj
             have au:q*s'+j<l.length*s':=by
              have :(q+1)*s'<=l.length*s':=Nat.mul_le_mul_right _ (by omega)
              rw[Nat.add_mul,Nat.one_mul]at this;omega
             rw[if_neg (by omega)]
             exact g8 q j h hj
            ·simp only[List.getElem_append_right (show l.length<=q by omega)]at hj |-
             have kV:q-l.length<(aJ σ.obj x).2.length:=by simp at hq;omega
             have gO:j<s':=by rw[<-(h2 _ (List.getElem_mem kV)).1];exact hj
             have au:(q-l.length)*s'+j<(aJ σ.obj x).2.length*s':=by
              have :(q-l.length+1)*s'<=(aJ σ.obj x).2.length*s':=Nat.mul_le_mul_right _ (by omega)
              rw[Nat.add_mul,Nat.one_mul]at this;omega
             have e10:q*s'=l.length*s'+(q-l.length)*s':=by rw[<-Nat.add_mul];congr 1;omega
             rw[if_pos (by omega)]
             refine⟨c2 (q-l.length) j,?_,r.rep _ _ kV hj⟩
             rw[show (φ nm).off+q*s'+j-((φ nm).off+l.length*s')=(q-l.length)*s'+j by omega]
             exact sm c2 kV gO
         by_cases hM:(aJ σ.obj x).2=[]
         ·have bC:=Ext.same (φ:=φ) (o':=.arr s' (l++(aJ σ.obj x).2)) aB (by simp[O.len?,hM]) rfl
          have :=hC.chg (w':=cV w (φ nm).blk (.cells jA T' f)) nm (.arr s' (l++(aJ σ.obj x).2)) (φ nm) bC ⟨rfl,rfl,rfl,by simp[cV]⟩
           (fun b hb hn=>qy (by rcases hn with h | h; · rw[g0]at h;cases h
                                ·exact h))
           (fun _=>.inr ⟨⟨_,aB,rfl,g0⟩,rfl⟩) xM
          refine⟨_,m,this,?_⟩
          refine .msl _ _ _ ⟨_,_,aS _ _ _,rfl,by simp,fun _=>?_⟩ rfl
          rw[aS]
          simp[Loc.slice,g0]
         ·have cT:=pP hM
          have bC:=Ext.grow (φ:=φ) (o':=.arr s' (l++(aJ σ.obj x).2)) aB rfl rfl (by simp;omega) (φ nm)
          have :=hC.chg (w':=cV w (φ nm).blk (.cells jA T' f)) nm (.arr s' (l++(aJ σ.obj x).2)) (φ nm) bC ⟨rfl,rfl,rfl,by simp[cV]⟩
           (fun b hb hn=>qy (by rcases hn with h | h; · rw[g0]at h;cases h
                                ·exact h))
           (fun _=>.inr ⟨⟨_,aB,rfl,g0⟩,rfl⟩) xM
          refine⟨_,m,this,?_⟩
          refine .msl _ _ _ ⟨_,_,aS _ _ _,rfl,by simp,fun _=>?_⟩ rfl
          rw[aS]
          simp[Loc.slice,g0]
       ·
        have cT:0<(aJ σ.obj x).2.length:=by omega
        have cl:∀ i j,i<l.length->j<s'->w.cell? ⟨(φ nm).blk,(φ nm).off+i*s'+j,none⟩=some ((b9[(φ nm).off+i*s'+j]?).getD undef):=by
         intro i j hi hj
         obtain⟨c,x1,x2⟩:=g8 i j hi (by rw[g3];exact hj)
         rw[rU g5,x1];rfl
        obtain⟨w',eQ,arr,cZ,nY,ko⟩:=grown (some ⟨(φ nm).blk,(φ nm).off,none⟩) l (φ nm).cap (fun i j=>(b9[(φ nm).off+i*s'+j]?).getD undef) rfl (by omega) h1 h2 h3 h4 h5 g3 g4
         (by
           have :=run_firstCells_some (P:=P) w.drew i.size l.length ⟨(φ nm).blk,(φ nm).off,none⟩ l.length (φ nm).cap (rowOf (fun i j=>(b9[(φ nm).off+i*s'+j]?).getD undef) l.length s')
            (by rw[gU,oe]) (by intro j v hv;simpa using C6 cl j v hv)
           exact this)
         (fun i j hi hj=>by
           obtain⟨c,x1,x2⟩:=g8 i j hi hj
           rw[x1];exact x2)
        refine⟨_,_,cZ,?_⟩
        subst nY
        have bC:=Ext.grow (φ:=φ) (o':=.arr s' (l++(aJ σ.obj x).2)) aB rfl rfl (by simp;omega) ⟨w.heap.size,0,eQ,false,none⟩
        refine⟨upd φ nm ⟨w.heap.size,0,eQ,false,none⟩,m,hC.chg nm _ ⟨w.heap.size,0,eQ,false,none⟩ bC ⟨rfl,rfl,rfl,by show w.heap.size<=(w.heap.push _).size;simp⟩
         (fun b hb _=>oZ hb) (fun _=>.inl (Nat.le_refl _)) (ko _ _),?_⟩
        refine .msl _ _ _ ⟨_,_,aS _ _ _,rfl,by simp,fun _=>?_⟩ rfl
        rw[aS]
        simp[Loc.slice]
    ·exact aa.elim
   ·exact aa.elim
  ·exact aa.elim
 ·exact aa.elim
end Go.Eng
