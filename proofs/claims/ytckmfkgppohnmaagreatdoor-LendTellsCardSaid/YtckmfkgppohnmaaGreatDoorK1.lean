import Derived.Orders
import Derived.Below
import Derived.Lib.ItoaNum
import Derived.Laws.Cells
import Derived.Laws.Tables
import Derived.Laws.MakeOwn
/- Texts Eng1 to Eng8. -/
set_option linter.all false
/- The engine's first text: abstract data, abstract objects, and how they stand to the model's values and worlds. Nothing is claimed of a program. -/
namespace Go.Eng
open Go

def oneC : Value → Bool
  | .agg _ => false
  | .tuple _ => false
  | _ => true

/-- Objects are named by the call that made them: what a frame makes for its slot t is t before the frame's own name. -/
abbrev Name := List Nat
abbrev Mem := Nat → Nat → Option Value

structure Loc where
  blk : Nat
  off : Nat
  cap : Nat
  nul : Bool
  nb : Option Addr

def Loc.slice (p : Loc) (k : Nat) : Value := if p.nul then .slice p.nb 0 0 else .slice (some ⟨p.blk, p.off, none⟩) k p.cap

inductive V where
  | int (k : IntKind) (n : Int)
  | bool (b : Bool)
  | str (s : ByteArray)
  | sl (l : List V)
  | agg (l : List V)
  | tup (l : List V)
  | ptr (cs : List V)
  | nilp
  | clo (fn : Fn) (first caps : List V)
  | nilfn
  deriving Inhabited

def V.cells : V → List V
  | .agg l => l
  | x => [x]
def V.one : V → Bool
  | .agg _ => false
  | .tup _ => false
  | _ => true

inductive D where
  | v (x : V)
  | nilsl
  | nilmap
  | ref (nm : Name) (off : Nat)
  | msl (nm : Name) (k : Nat)
  | aref (nm : Name) (k i off : Nat)
  | map (nm : Name)
  | yld (nm : Name)
  | clo (fn : Fn) (first caps : List D)
  | agg (l : List D)
  | tup (l : List D)
  | any
  deriving Inhabited

def D.one : D → Bool
  | .v x => x.one
  | .agg _ => false
  | .tup _ => false
  | .any => false
  | _ => true
def D.cells : D → List D
  | .agg l => l
  | .v (.agg l) => l.map .v
  | x => [x]

structure E where
  c : Bool
  d : D

inductive O where
  | box (cs : List D)
  | arr (sz : Nat) (l : List V)
  | map (kd : Nat) (es : List (V × V))
  | fbox (cs : List V)
  | farr (sz : Nat) (l : List V)
  | dead (sz n : Nat)
  | loop (env : List E) (ps : List Nat) (asg body : Code) (st : LoopState) (pend : Option Code)

/-- The kinds of keys that maps are served at. -/
def keyIs : Nat → V → Bool
  | 0, .int .i64 _ => true
  | 1, .str _ => true
  | 2, .agg [.int .i64 _, .int .i64 _] => true
  | _, _ => false
def keq : V → V → Bool
  | .int _ a, .int _ b => a == b
  | .str a, .str b => a == b
  | .agg [.int _ a, .int _ b], .agg [.int _ c, .int _ d] => a == c && b == d
  | _, _ => false

def O.len? : O → Option Nat
  | .arr _ l => some l.length
  | .farr _ l => some l.length
  | .dead _ n => some n
  | _ => none
def O.sz : O → Nat
  | .arr s _ => s
  | .farr s _ => s
  | .dead s _ => s
  | _ => 0
def O.mut : O → Bool
  | .fbox _ => false
  | .farr _ _ => false
  | .dead _ _ => false
  | _ => true

structure S where
  nt : Nat
  env : Nat → E
  obj : Name → Option O
  pre : Name
  base : Nat

def upd {α β : Type} [DecidableEq α] (f : α → β) (a : α) (b : β) : α → β := fun x => if x = a then b else f x
theorem upd_app {α β : Type} [DecidableEq α] (f : α → β) (a : α) (b : β) (x : α) : upd f a b x = if x = a then b else f x := rfl
theorem upd_same {α β : Type} [DecidableEq α] (f : α → β) (a : α) (b : β) : upd f a b a = b := if_pos rfl
theorem upd_ne {α β : Type} [DecidableEq α] (f : α → β) (a : α) (b : β) {x : α} (h : x ≠ a) : upd f a b x = f x := if_neg h
def ofL {α β : Type} [DecidableEq α] (z : β) : List (α × β) → α → β
  | [], _ => z
  | (a, b) :: r, x => if x = a then b else ofL z r x

/-! how a value reads as data -/

inductive RepV (m : Mem) : V → Value → Prop
  | int (k : IntKind) (n : Int) : RepV m (.int k n) (.int k n)
  | bool (b : Bool) : RepV m (.bool b) (.bool b)
  | str (s : ByteArray) (h : s.size ≤ maxLen) : RepV m (.str s) (.string s)
  | slnil (a : Option Addr) (cap : Nat) : RepV m (.sl []) (.slice a 0 cap)
  | sl (l : List V) (b o cap sz : Nat) (c : Nat → Nat → Value) (hn : l ≠ []) (hl : l.length ≤ maxLen) (hcap : l.length ≤ cap)
      (hs : ∀ i (h : i < l.length), (l[i].cells).length = sz)
      (hc : ∀ i j, i < l.length → j < sz → m b (o + i * sz + j) = some (c i j))
      (hr : ∀ i j (h : i < l.length) (h' : j < (l[i].cells).length), RepV m (l[i].cells)[j] (c i j))
      (ho : ∀ i (h : i < l.length), ∀ x ∈ l[i].cells, x.one = true) :
      RepV m (.sl l) (.slice (some ⟨b, o, none⟩) l.length cap)
  | agg (l : List V) (us : Array Value) (h : l.length = us.size) (ho : ∀ x ∈ l, x.one = true)
      (hr : ∀ i (h : i < l.length) (h' : i < us.size), RepV m l[i] us[i]) : RepV m (.agg l) (.agg us)
  | tup (l : List V) (us : Array Value) (h : l.length = us.size)
      (hr : ∀ i (h : i < l.length) (h' : i < us.size), RepV m l[i] us[i]) : RepV m (.tup l) (.tuple us)
  | ptr (cs : List V) (b o : Nat) (c : Nat → Value) (ho : ∀ y ∈ cs, y.one = true) (hc : ∀ j, j < cs.length → m b (o + j) = some (c j))
      (hr : ∀ j (h : j < cs.length), RepV m cs[j] (c j)) : RepV m (.ptr cs) (.pointer (some ⟨b, o, none⟩))
  | nilp : RepV m .nilp (.pointer none)
  | clo (fn : Fn) (fs cs : List V) (us vs : Array Value) (h1 : fs.length = us.size) (h2 : cs.length = vs.size)
      (hr1 : ∀ i (h : i < fs.length) (h' : i < us.size), RepV m fs[i] us[i])
      (hr2 : ∀ i (h : i < cs.length) (h' : i < vs.size), RepV m cs[i] vs[i]) : RepV m (.clo fn fs cs) (.func fn us vs)
  | nilfn : RepV m .nilfn .nilFunc

def Mem.le (m m' : Mem) : Prop := ∀ b o v, m b o = some v → m' b o = some v
theorem Mem.le_refl (m : Mem) : Mem.le m m := fun _ _ _ h => h
theorem Mem.le_trans {a b c : Mem} (h : Mem.le a b) (k : Mem.le b c) : Mem.le a c := fun _ _ _ x => k _ _ _ (h _ _ _ x)

theorem RepV.mono {m m' : Mem} (hm : Mem.le m m') {x : V} {u : Value} (h : RepV m x u) : RepV m' x u := by
  induction h with
  | int k n => exact .int k n
  | bool b => exact .bool b
  | str s h => exact .str s h
  | slnil a cap => exact .slnil a cap
  | sl l b o cap sz c hn hl hcap hs hc hr ho ih => exact .sl l b o cap sz c hn hl hcap hs (fun i j hi hj => hm _ _ _ (hc i j hi hj)) ih ho
  | agg l us h ho hr ih => exact .agg l us h ho ih
  | tup l us h hr ih => exact .tup l us h ih
  | ptr x b o c ho hc hr ih => exact .ptr x b o c ho (fun j hj => hm _ _ _ (hc j hj)) ih
  | nilp => exact .nilp
  | clo fn fs cs us vs h1 h2 hr1 hr2 ih1 ih2 => exact .clo fn fs cs us vs h1 h2 ih1 ih2
  | nilfn => exact .nilfn

/-- The same datum's value has one cell exactly if the datum is 'one'. -/
theorem RepV.one {m : Mem} {x : V} {u : Value} (h : RepV m x u) (hx : x.one = true) : oneC u = true := by
  cases h <;> first | rfl | simp [V.one] at hx

theorem RepV.cells {m : Mem} {x : V} {u : Value} (h : RepV m x u) : x.cells.length = u.cells.size := by
  cases h <;> simp_all [V.cells, Value.cells]

theorem RepV.cell {m : Mem} {x : V} {u : Value} (h : RepV m x u) (i : Nat) (h1 : i < x.cells.length) (h2 : i < u.cells.size) : RepV m x.cells[i] u.cells[i] := by
  cases h with
  | agg l us h ho hr => exact hr i h1 h2
  | int k n => simp only [V.cells, List.length_singleton, Nat.lt_one_iff] at h1; subst h1; exact .int k n
  | bool b => simp only [V.cells, List.length_singleton, Nat.lt_one_iff] at h1; subst h1; exact .bool b
  | str s h => simp only [V.cells, List.length_singleton, Nat.lt_one_iff] at h1; subst h1; exact .str s h
  | slnil a cap => simp only [V.cells, List.length_singleton, Nat.lt_one_iff] at h1; subst h1; exact .slnil a cap
  | sl l b o cap sz c hn hl hcap hs hc hr ho => simp only [V.cells, List.length_singleton, Nat.lt_one_iff] at h1; subst h1; exact .sl l b o cap sz c hn hl hcap hs hc hr ho
  | tup l us h hr => simp only [V.cells, List.length_singleton, Nat.lt_one_iff] at h1; subst h1; exact .tup l us h hr
  | ptr x b o c ho hc hr => simp only [V.cells, List.length_singleton, Nat.lt_one_iff] at h1; subst h1; exact .ptr x b o c ho hc hr
  | nilp => simp only [V.cells, List.length_singleton, Nat.lt_one_iff] at h1; subst h1; exact .nilp
  | clo fn fs cs us vs a b c d => simp only [V.cells, List.length_singleton, Nat.lt_one_iff] at h1; subst h1; exact .clo fn fs cs us vs a b c d
  | nilfn => simp only [V.cells, List.length_singleton, Nat.lt_one_iff] at h1; subst h1; exact .nilfn

def isBox (obj : Name → Option O) (nm : Name) : Prop := ∃ o, obj nm = some o ∧ o.len? = none

inductive RepD (φ : Name → Loc) (obj : Name → Option O) (m : Mem) : D → Value → Prop
  | any (u : Value) : RepD φ obj m .any u
  | v (x : V) (u : Value) (h : RepV m x u) : RepD φ obj m (.v x) u
  | nilsl (a : Option Addr) : RepD φ obj m .nilsl (.slice a 0 0)
  | nilmap : RepD φ obj m .nilmap (.map none)
  | ref (nm : Name) (off : Nat) (h : isBox obj nm) : RepD φ obj m (.ref nm off) (.pointer (some ⟨(φ nm).blk, (φ nm).off + off, none⟩))
  | map (nm : Name) (h : isBox obj nm) : RepD φ obj m (.map nm) (.map (some (φ nm).blk))
  | yld (nm : Name) (h : isBox obj nm) : RepD φ obj m (.yld nm) (.func (.yield (φ nm).blk) #[] #[])
  | msl (nm : Name) (k : Nat) (u : Value) (h : ∃ o n, obj nm = some o ∧ o.len? = some n ∧ k ≤ n ∧ (k = n → u = (φ nm).slice k)) (hu : oneC u = true) : RepD φ obj m (.msl nm k) u
  | aref (nm : Name) (k i off : Nat) (u : Value)
      (h : ∃ o n, obj nm = some o ∧ o.len? = some n ∧ k ≤ n ∧ (k = n → u = .pointer (some ⟨(φ nm).blk, (φ nm).off + i * o.sz + off, none⟩))) (hu : oneC u = true) :
      RepD φ obj m (.aref nm k i off) u
  | clo (fn : Fn) (fs cs : List D) (us vs : Array Value) (h1 : fs.length = us.size) (h2 : cs.length = vs.size)
      (hr1 : ∀ i (h : i < fs.length) (h' : i < us.size), RepD φ obj m fs[i] us[i])
      (hr2 : ∀ i (h : i < cs.length) (h' : i < vs.size), RepD φ obj m cs[i] vs[i]) : RepD φ obj m (.clo fn fs cs) (.func fn us vs)
  | agg (l : List D) (us : Array Value) (h : l.length = us.size) (ho : ∀ d ∈ l, d.one = true)
      (hr : ∀ i (h : i < l.length) (h' : i < us.size), RepD φ obj m l[i] us[i]) : RepD φ obj m (.agg l) (.agg us)
  | tup (l : List D) (us : Array Value) (h : l.length = us.size)
      (hr : ∀ i (h : i < l.length) (h' : i < us.size), RepD φ obj m l[i] us[i]) : RepD φ obj m (.tup l) (.tuple us)

/-- What a reading hangs on: whatever is there stays, as long as it was and in its place; or it has grown. -/
def Ext (φ φ' : Name → Loc) (obj obj' : Name → Option O) : Prop :=
  ∀ nm o, obj nm = some o → ∃ o', obj' nm = some o' ∧
    ((o'.len? = o.len? ∧ φ' nm = φ nm ∧ o'.sz = o.sz) ∨ (∃ n n', o.len? = some n ∧ o'.len? = some n' ∧ n < n'))

theorem Ext.trans {φ φ' φ'' : Name → Loc} {obj obj' obj'' : Name → Option O} (h : Ext φ φ' obj obj') (k : Ext φ' φ'' obj' obj'') : Ext φ φ'' obj obj'' := by
  intro nm o ho
  obtain ⟨o', ho', h1⟩ := h nm o ho
  obtain ⟨o'', ho'', h2⟩ := k nm o' ho'
  refine ⟨o'', ho'', ?_⟩
  rcases h1 with ⟨a1, a2, a3⟩ | ⟨n, n', a1, a2, a3⟩ <;> rcases h2 with ⟨b1, b2, b3⟩ | ⟨k, k', b1, b2, b3⟩
  · exact .inl ⟨b1.trans a1, b2.trans a2, b3.trans a3⟩
  · exact .inr ⟨k, k', a1 ▸ b1, b2, b3⟩
  · exact .inr ⟨n, n', a1, b1.trans a2, a3⟩
  · rw [a2] at b1; cases b1
    exact .inr ⟨n, k', a1, b2, by omega⟩
theorem Ext.refl (φ : Name → Loc) (obj : Name → Option O) : Ext φ φ obj obj := fun _ o h => ⟨o, h, .inl ⟨rfl, rfl, rfl⟩⟩

theorem RepD.ext {φ φ' : Name → Loc} {obj obj' : Name → Option O} {m m' : Mem} (hm : Mem.le m m') (hx : Ext φ φ' obj obj') {d : D} {u : Value}
    (h : RepD φ obj m d u) : RepD φ' obj' m' d u := by
  induction h with
  | any u => exact .any u
  | v x u h => exact .v x u (h.mono hm)
  | nilsl a => exact .nilsl a
  | nilmap => exact .nilmap
  | ref nm off h =>
    obtain ⟨o, ho, hl⟩ := h
    obtain ⟨o', ho', h⟩ := hx nm o ho
    rcases h with ⟨h1, h2, h3⟩ | ⟨n, n', h1, h2, h3⟩
    · rw [← h2]; exact .ref nm off ⟨o', ho', h1.trans hl⟩
    · rw [hl] at h1; cases h1
  | map nm h =>
    obtain ⟨o, ho, hl⟩ := h
    obtain ⟨o', ho', h⟩ := hx nm o ho
    rcases h with ⟨h1, h2, h3⟩ | ⟨n, n', h1, h2, h3⟩
    · rw [← h2]; exact .map nm ⟨o', ho', h1.trans hl⟩
    · rw [hl] at h1; cases h1
  | yld nm h =>
    obtain ⟨o, ho, hl⟩ := h
    obtain ⟨o', ho', h⟩ := hx nm o ho
    rcases h with ⟨h1, h2, h3⟩ | ⟨n, n', h1, h2, h3⟩
    · rw [← h2]; exact .yld nm ⟨o', ho', h1.trans hl⟩
    · rw [hl] at h1; cases h1
  | msl nm k u h hu =>
    obtain ⟨o, n, ho, hl, hk, he⟩ := h
    obtain ⟨o', ho', h⟩ := hx nm o ho
    rcases h with ⟨h1, h2, h3⟩ | ⟨n1, n', h1, h2, h3⟩
    · exact .msl nm k u ⟨o', n, ho', h1.trans hl, hk, fun e => by rw [h2]; exact he e⟩ hu
    · rw [hl] at h1; cases h1
      exact .msl nm k u ⟨o', n', ho', h2, by omega, fun e => by omega⟩ hu
  | aref nm k i off u h hu =>
    obtain ⟨o, n, ho, hl, hk, he⟩ := h
    obtain ⟨o', ho', h⟩ := hx nm o ho
    rcases h with ⟨h1, h2, h3⟩ | ⟨n1, n', h1, h2, h3⟩
    · exact .aref nm k i off u ⟨o', n, ho', h1.trans hl, hk, fun e => by rw [h2, h3]; exact he e⟩ hu
    · rw [hl] at h1; cases h1
      exact .aref nm k i off u ⟨o', n', ho', h2, by omega, fun e => by omega⟩ hu
  | clo fn fs cs us vs h1 h2 hr1 hr2 ih1 ih2 => exact .clo fn fs cs us vs h1 h2 ih1 ih2
  | agg l us h ho hr ih => exact .agg l us h ho ih
  | tup l us h hr ih => exact .tup l us h ih

theorem RepD.one {φ : Name → Loc} {obj : Name → Option O} {m : Mem} {d : D} {u : Value} (h : RepD φ obj m d u) (hx : d.one = true) : oneC u = true := by
  cases h with
  | v x u h => exact h.one hx
  | msl => assumption
  | aref => assumption
  | any => simp [D.one] at hx
  | agg => simp [D.one] at hx
  | tup => simp [D.one] at hx
  | _ => rfl

theorem RepD.cells {φ : Name → Loc} {obj : Name → Option O} {m : Mem} {d : D} {u : Value} (h : RepD φ obj m d u) (hd : d ≠ .any) : d.cells.length = u.cells.size := by
  have hone : ∀ u : Value, oneC u = true → u.cells.size = 1 := by intro u hu; cases u <;> simp_all [Value.cells, oneC]
  cases h with
  | v x u h =>
    have := h.cells
    cases x <;> simp_all [D.cells, V.cells]
  | any => exact (hd rfl).elim
  | msl nm k u h hu => simp [D.cells, hone u hu]
  | aref nm k i off u h hu => simp [D.cells, hone u hu]
  | agg l us h ho hr => exact h
  | _ => rfl

theorem RepD.cell {φ : Name → Loc} {obj : Name → Option O} {m : Mem} {d : D} {u : Value} (h : RepD φ obj m d u) (hd : d ≠ .any) (i : Nat) (h1 : i < d.cells.length) (h2 : i < u.cells.size) :
    RepD φ obj m d.cells[i] u.cells[i] := by
  have one : ∀ (h0 : d.cells = [d]) (h0' : u.cells = #[u]), RepD φ obj m d.cells[i] u.cells[i] := by
    intro h0 h0'
    have h1' := h1
    rw [h0] at h1'
    simp only [List.length_singleton, Nat.lt_one_iff] at h1'
    subst h1'
    simp only [h0, h0', List.getElem_cons_zero, List.getElem_toArray]
    exact h
  have hone : ∀ u : Value, oneC u = true → u.cells = #[u] := by intro u hu; cases u <;> simp_all [Value.cells, oneC]
  cases h with
  | v x u h =>
    cases h with
    | agg l us hl ho hr =>
      simp only [D.cells, List.length_map] at h1
      simp only [D.cells, List.getElem_map, Value.cells]
      exact .v _ _ (hr i h1 h2)
    | _ => exact one rfl rfl
  | any => exact (hd rfl).elim
  | msl nm k u h hu => exact one rfl (hone u hu)
  | aref nm k i off u h hu => exact one rfl (hone u hu)
  | agg l us h ho hr => exact hr i h1 h2
  | _ => exact one rfl rfl

/-- An entry of the frame: it reads so where its condition holds, and else nothing was done. -/
def RepE (φ : Name → Loc) (obj : Name → Option O) (m : Mem) (e : E) (u : Value) : Prop :=
  if e.c = true then RepD φ obj m e.d u else u = undef

theorem RepE.ext {φ φ' : Name → Loc} {obj obj' : Name → Option O} {m m' : Mem} (hm : Mem.le m m') (hx : Ext φ φ' obj obj') {e : E} {u : Value}
    (h : RepE φ obj m e u) : RepE φ' obj' m' e u := by
  unfold RepE at *
  split <;> simp_all
  exact h.ext hm hx

end Go.Eng
/- The engine's text of the tables that a program's library reads: block and cells. -/
namespace Go.Eng
open Go
def tabL : List (Nat × Array Value) := [(2, (Lib.pow10Tab.map fun z => Value.int .u64 z).toArray)]
end Go.Eng
/- The engine's second text: when a frame and a world stand as an abstract state says, and how that is kept. -/
namespace Go.Eng
open Go

/-- The tables stand. -/
def Tabs (w : World) : Prop := ∀ q ∈ tabL, ∃ T f, w.heap[q.1]? = some (.cells q.2 T f)

structure Ghost where
  w0 : World
  m0 : Mem
  ob : Nat → Prop
  rd : Option Nat
  φ0 : Name → Loc
  obj0 : Name → Option O
  rdok : ∀ l, rd = some l → ¬ ob l ∧ ∃ r, w0.heap[l]? = some (.loop r)
  tab : Tabs w0 ∧ ∀ q ∈ tabL, ¬ ob q.1

/-- The names that a frame, and what it calls, makes. -/
def own (p : Name) : Name → Bool
  | [] => false
  | _ :: r => r == p || own p r
def SatO (φ : Name → Loc) (obj : Name → Option O) (m : Mem) (o : O) (p : Loc) (w : World) : Prop :=
  match o with
  | .box cs => p.off = 0 ∧ p.nul = false ∧ (∀ d ∈ cs, d.one = true) ∧ ∃ us T f, w.heap[p.blk]? = some (.cells us T f) ∧ f.1 = f.2 ∧ us.size = cs.length ∧
      ∀ i (h : i < cs.length) (h' : i < us.size), RepD φ obj m cs[i] us[i]
  | .arr sz l => (p.nul = true ∧ l = []) ∨ (p.nul = false ∧ l.length ≤ p.cap ∧ p.cap ≤ maxLen ∧ (∀ i (h : i < l.length), (l[i].cells).length = sz) ∧
      (∀ i (h : i < l.length), ∀ x ∈ l[i].cells, x.one = true) ∧ ∃ us T f, w.heap[p.blk]? = some (.cells us T f) ∧ f.1 = f.2 ∧ p.off + p.cap * sz ≤ us.size ∧
      ∀ i j (h : i < l.length) (h' : j < (l[i].cells).length), ∃ c, us[p.off + i * sz + j]? = some c ∧ RepV m (l[i].cells)[j] c)
  | .map kd es => p.off = 0 ∧ p.nul = false ∧ (∀ q ∈ es, keyIs kd q.1 = true) ∧ ∃ ents clock, w.heap[p.blk]? = some (.map ents clock) ∧ ents.size = es.length ∧
      ∀ i (h : i < es.length) (h' : i < ents.size), RepV m es[i].1 ents[i].key ∧ RepV m es[i].2 ents[i].val
  | .fbox cs => (∀ x ∈ cs, x.one = true) ∧ ∀ i (h : i < cs.length), ∃ c, m p.blk (p.off + i) = some c ∧ RepV m cs[i] c
  | .farr sz l => (p.nul = true ∧ l = []) ∨ (p.nul = false ∧ (l.length ≤ p.cap ∧ l.length ≤ maxLen) ∧ (∀ i (h : i < l.length), (l[i].cells).length = sz) ∧
      (∀ i (h : i < l.length), ∀ x ∈ l[i].cells, x.one = true) ∧
      ∀ i j (h : i < l.length) (h' : j < (l[i].cells).length), ∃ c, m p.blk (p.off + i * sz + j) = some c ∧ RepV m (l[i].cells)[j] c)
  | .dead _ n => (p.nul = true ∧ n = 0) ∨ (p.nul = false ∧ n ≤ p.cap)
  | .loop env ps asg body st pend => p.off = 0 ∧ p.nul = false ∧ ∃ r : Loop, w.heap[p.blk]? = some (.loop r) ∧ r.state = st ∧ r.pending = pend ∧ r.params.toList = ps ∧ r.assign = asg ∧ r.body = body ∧
      r.tmps.size = env.length ∧ ∀ i (h : i < env.length), RepE φ obj m env[i] (r.tmps.getD i undef)

/-- A block of its own: the object may change, and has a block. -/
def holds (φ : Name → Loc) (obj : Name → Option O) (nm : Name) : Prop := ∃ o, obj nm = some o ∧ o.mut = true ∧ (φ nm).nul = false

structure Fr (G : Ghost) (w : World) : Prop where
  os : w.os = G.w0.os
  tape : w.tape = G.w0.tape
  output : w.output = G.w0.output
  size : G.w0.heap.size ≤ w.heap.size
  block : ∀ b, b < G.w0.heap.size → ¬ G.ob b → w.heap[b]? = G.w0.heap[b]?

theorem Fr.tab {G : Ghost} {w : World} (h : Fr G w) : Tabs w := fun q hq => by
  obtain ⟨T, f, e⟩ := G.tab.1 q hq
  rw [h.block q.1 (Array.getElem?_eq_some_iff.1 e).1 (G.tab.2 q hq)]
  exact ⟨T, f, e⟩

structure Conc (G : Ghost) (φ : Name → Loc) (m : Mem) (σ : S) (a : Act) (w : World) : Prop where
  tmps : ∀ t, RepE φ σ.obj m (σ.env t) (a.tmps.getD t undef)
  size : a.tmps.size = σ.nt
  defers : ∃ ds : List Nat, a.defers = ds.map (fun D => { target := .collected D, args := #[] }) ∧ ds.Nodup ∧ ∀ D ∈ ds, G.w0.heap.size ≤ D ∧ w.heap[D]? = some (.deferred (some []))
  objs : ∀ nm o, σ.obj nm = some o → SatO φ σ.obj m o (φ nm) w
  mem : ∀ b off v, m b off = some v → w.cell? ⟨b, off, none⟩ = some v
  apart : ∀ nm, holds φ σ.obj nm → ∀ off, m (φ nm).blk off = none
  inj : ∀ nm nm', holds φ σ.obj nm → holds φ σ.obj nm' → (φ nm).blk = (φ nm').blk → nm = nm'
  own : ∀ nm, holds φ σ.obj nm → G.w0.heap.size ≤ (φ nm).blk ∨ G.ob (φ nm).blk
  fr : Fr G w
  fresh : ∀ b off v, m b off = some v → G.m0 b off = some v ∨ G.w0.heap.size ≤ b ∨ G.ob b
  kept : (∀ nm o, G.obj0 nm = some o → Go.Eng.own σ.pre nm = false) ∧ Ext G.φ0 φ G.obj0 σ.obj

theorem cell?_lt {w : World} {b off : Nat} {s : Option Nat} {v : Value} (h : w.cell? ⟨b, off, s⟩ = some v) : b < w.heap.size := by
  unfold World.cell? at h
  simp only at h
  cases hh : w.heap[b]? with
  | none => simp [hh] at h
  | some o => exact (Array.getElem?_eq_some_iff.1 hh).1

theorem cell?_block {w w' : World} {b off : Nat} {s : Option Nat} (h : w'.heap[b]? = w.heap[b]?) : w'.cell? ⟨b, off, s⟩ = w.cell? ⟨b, off, s⟩ := by
  unfold World.cell?
  simp only [h]

theorem cell?_none {w : World} {b off : Nat} {s : Option Nat} (h : w.heap.size ≤ b) : w.cell? ⟨b, off, s⟩ = none := by
  cases hc : w.cell? ⟨b, off, s⟩ with
  | none => rfl
  | some v => have := cell?_lt hc; omega

theorem SatO.lt {φ : Name → Loc} {obj : Name → Option O} {m : Mem} {o : O} {p : Loc} {w : World} (h : SatO φ obj m o p w) (hm : o.mut = true) (hn : p.nul = false) : p.blk < w.heap.size := by
  cases o with
  | box cs => obtain ⟨_, _, _, us, T, f, h, _⟩ := h; exact (Array.getElem?_eq_some_iff.1 h).1
  | arr sz l =>
    rcases h with ⟨h, _⟩ | ⟨_, _, _, _, _, us, T, f, h, _⟩
    · rw [h] at hn; cases hn
    · exact (Array.getElem?_eq_some_iff.1 h).1
  | map kd es => obtain ⟨_, _, _, us, T, h, _⟩ := h; exact (Array.getElem?_eq_some_iff.1 h).1
  | loop => obtain ⟨_, _, r, h, _⟩ := h; exact (Array.getElem?_eq_some_iff.1 h).1
  | fbox => cases hm
  | farr => cases hm
  | dead => cases hm

theorem SatO.notDef {φ : Name → Loc} {obj : Name → Option O} {m : Mem} {o : O} {p : Loc} {w : World} (h : SatO φ obj m o p w) (hm : o.mut = true) (hn : p.nul = false) (x : Option (List Deferred)) :
    w.heap[p.blk]? ≠ some (.deferred x) := by
  intro hx
  cases o with
  | box cs => obtain ⟨_, _, _, us, T, f, h, _⟩ := h; rw [h] at hx; cases hx
  | arr sz l =>
    rcases h with ⟨h, _⟩ | ⟨_, _, _, _, _, us, T, f, h, _⟩
    · rw [h] at hn; cases hn
    · rw [h] at hx; cases hx
  | map kd es => obtain ⟨_, _, _, us, T, h, _⟩ := h; rw [h] at hx; cases hx
  | loop => obtain ⟨_, _, r, h, _⟩ := h; rw [h] at hx; cases hx
  | fbox => cases hm
  | farr => cases hm
  | dead => cases hm

theorem SatO.ext {φ φ' : Name → Loc} {obj obj' : Name → Option O} {m m' : Mem} {o : O} {p : Loc} {w w' : World} (hm : Mem.le m m') (hx : Ext φ φ' obj obj')
    (hw : o.mut = true → p.nul = false → w'.heap[p.blk]? = w.heap[p.blk]?) (h : SatO φ obj m o p w) : SatO φ' obj' m' o p w' := by
  cases o with
  | box cs =>
    obtain ⟨h0, h1, h1', us, T, f, h2, h3, h4, h5⟩ := h
    exact ⟨h0, h1, h1', us, T, f, by rw [hw rfl h1]; exact h2, h3, h4, fun i a b => (h5 i a b).ext hm hx⟩
  | arr sz l =>
    rcases h with ⟨h, h'⟩ | ⟨h0, h1, h2, h3, h4, us, T, f, h5, h6, h7, h8⟩
    · exact .inl ⟨h, h'⟩
    · exact .inr ⟨h0, h1, h2, h3, h4, us, T, f, by rw [hw rfl h0]; exact h5, h6, h7, fun i j a b => let ⟨c, x, y⟩ := h8 i j a b; ⟨c, x, y.mono hm⟩⟩
  | map kd es =>
    obtain ⟨h0, h1, h1', us, T, h2, h3, h4⟩ := h
    exact ⟨h0, h1, h1', us, T, by rw [hw rfl h1]; exact h2, h3, fun i a b => ⟨(h4 i a b).1.mono hm, (h4 i a b).2.mono hm⟩⟩
  | fbox cs => exact ⟨h.1, fun i a => let ⟨c, x, y⟩ := h.2 i a; ⟨c, hm _ _ _ x, y.mono hm⟩⟩
  | farr sz l =>
    rcases h with ⟨h, h'⟩ | ⟨h0, h1, h2, h3, h4⟩
    · exact .inl ⟨h, h'⟩
    · exact .inr ⟨h0, h1, h2, h3, fun i j a b => let ⟨c, x, y⟩ := h4 i j a b; ⟨c, hm _ _ _ x, y.mono hm⟩⟩
  | dead => exact h
  | loop env ps asg body st pend =>
    obtain ⟨h0, h1, r, h2, h3, h4, h5, h6, h7, h8, h9⟩ := h
    exact ⟨h0, h1, r, by rw [hw rfl h1]; exact h2, h3, h4, h5, h6, h7, h8, fun i a => (h9 i a).ext hm hx⟩

/-- One name comes, or changes: in its own block, or to a new one. -/
theorem Conc.chg {G : Ghost} {φ : Name → Loc} {m : Mem} {σ : S} {a : Act} {w w' : World} (hC : Conc G φ m σ a w) (nm : Name) (o' : O) (p' : Loc)
    (hx : Ext φ (upd φ nm p') σ.obj (upd σ.obj nm (some o')))
    (hw : w'.os = w.os ∧ w'.tape = w.tape ∧ w'.output = w.output ∧ w.heap.size ≤ w'.heap.size)
    (hb : ∀ b, b < w.heap.size → (p'.nul = true ∨ b ≠ p'.blk) → w'.heap[b]? = w.heap[b]?)
    (hp : p'.nul = false → w.heap.size ≤ p'.blk ∨ (holds φ σ.obj nm ∧ (φ nm).blk = p'.blk))
    (hs : SatO (upd φ nm p') (upd σ.obj nm (some o')) m o' p' w') :
    Conc G (upd φ nm p') m { σ with obj := upd σ.obj nm (some o') } a w' := by
  have hlt : ∀ x, holds φ σ.obj x → (φ x).blk < w.heap.size := fun x ⟨o, h1, h2, h3⟩ => (hC.objs x o h1).lt h2 h3
  have hold : ∀ x, x ≠ nm → holds (upd φ nm p') (upd σ.obj nm (some o')) x → holds φ σ.obj x := by
    rintro x hne ⟨o, h1, h2, h3⟩
    rw [upd_ne _ _ _ hne] at h1
    rw [upd_ne _ _ _ hne] at h3
    exact ⟨o, h1, h2, h3⟩
  have hnul : holds (upd φ nm p') (upd σ.obj nm (some o')) nm → p'.nul = false := by
    rintro ⟨o, h1, h2, h3⟩; rwa [upd_same] at h3
  have hapart : ∀ x, x ≠ nm → holds φ σ.obj x → p'.nul = false → (φ x).blk ≠ p'.blk := by
    intro x hne hx' hn e
    rcases hp hn with h | ⟨h, h'⟩
    · have := hlt x hx'; omega
    · exact hne (hC.inj _ _ hx' h (e.trans h'.symm))
  have hmem : ∀ b off v, m b off = some v → b < w.heap.size ∧ (p'.nul = true ∨ b ≠ p'.blk) := by
    intro b off v h
    have h1 := hC.mem b off v h
    refine ⟨cell?_lt h1, ?_⟩
    cases hn : p'.nul with
    | true => exact .inl rfl
    | false =>
      refine .inr fun e => ?_
      subst e
      rcases hp hn with h' | ⟨h', h''⟩
      · have := cell?_lt h1; omega
      · have := hC.apart nm h' off; rw [h'', h] at this; cases this
  constructor
  · exact fun t => (hC.tmps t).ext (Mem.le_refl m) hx
  · exact hC.size
  · obtain ⟨ds, h1, h2, h3⟩ := hC.defers
    refine ⟨ds, h1, h2, fun D hD => ⟨(h3 D hD).1, ?_⟩⟩
    have hk := (h3 D hD).2
    rw [hb D (Array.getElem?_eq_some_iff.1 hk).1 ?_]
    · exact hk
    · cases hn : p'.nul with
      | true => exact .inl rfl
      | false =>
        refine .inr fun e => ?_
        rcases hp hn with h' | ⟨⟨o, h4, h5, h6⟩, h''⟩
        · have := (Array.getElem?_eq_some_iff.1 hk).1; omega
        · exact (hC.objs nm o h4).notDef h5 h6 _ (by rw [h'', ← e]; exact hk)
  · intro x o hxo
    simp only at hxo
    by_cases hne : x = nm
    · subst hne
      rw [upd_same] at hxo
      cases hxo
      rw [upd_same]
      exact hs
    · rw [upd_ne _ _ _ hne] at hxo
      rw [upd_ne _ _ _ hne]
      refine (hC.objs x o hxo).ext (Mem.le_refl m) hx fun h1 h2 => ?_
      refine hb _ (hlt x ⟨o, hxo, h1, h2⟩) ?_
      cases hn : p'.nul with
      | true => exact .inl rfl
      | false => exact .inr (hapart x hne ⟨o, hxo, h1, h2⟩ hn)
  · intro b off v h
    obtain ⟨h1, h2⟩ := hmem b off v h
    rw [cell?_block (hb b h1 h2)]
    exact hC.mem b off v h
  · intro x hx' off
    by_cases hne : x = nm
    · subst hne
      rw [upd_same]
      cases hc : m p'.blk off with
      | none => rfl
      | some v =>
        rcases (hmem _ _ _ hc).2 with h | h
        · rw [hnul hx'] at h; cases h
        · exact (h rfl).elim
    · rw [upd_ne _ _ _ hne]
      exact hC.apart x (hold x hne hx') off
  · intro x y hx' hy e
    by_cases hne : x = nm
    · by_cases hne' : y = nm
      · rw [hne, hne']
      · subst hne
        rw [upd_same, upd_ne _ _ _ hne'] at e
        exact (hapart y hne' (hold y hne' hy) (hnul hx') e.symm).elim
    · by_cases hne' : y = nm
      · subst hne'
        rw [upd_same, upd_ne _ _ _ hne] at e
        exact (hapart x hne (hold x hne hx') (hnul hy) e).elim
      · rw [upd_ne _ _ _ hne, upd_ne _ _ _ hne'] at e
        exact hC.inj _ _ (hold x hne hx') (hold y hne' hy) e
  · intro x hx'
    by_cases hne : x = nm
    · subst hne
      rw [upd_same]
      rcases hp (hnul hx') with h | ⟨h, h'⟩
      · exact .inl (Nat.le_trans hC.fr.size h)
      · rw [← h']; exact hC.own _ h
    · rw [upd_ne _ _ _ hne]
      exact hC.own x (hold x hne hx')
  · obtain ⟨h1, h2, h3, h4⟩ := hw
    refine ⟨h1.trans hC.fr.os, h2.trans hC.fr.tape, h3.trans hC.fr.output, Nat.le_trans hC.fr.size h4, fun b hb' ho => ?_⟩
    rw [hb b (Nat.lt_of_lt_of_le hb' hC.fr.size) ?_]
    · exact hC.fr.block b hb' ho
    · cases hn : p'.nul with
      | true => exact .inl rfl
      | false =>
        refine .inr fun e => ?_
        subst e
        rcases hp hn with h | ⟨h, h'⟩
        · have := hC.fr.size; omega
        · rcases hC.own _ h with h'' | h'' <;> rw [h'] at h''
          · omega
          · exact ho h''
  · exact hC.fresh
  · exact ⟨hC.kept.1, hC.kept.2.trans hx⟩

/-- New memory that will not change; old blocks as they were. -/
theorem Conc.imm {G : Ghost} {φ : Name → Loc} {m m' : Mem} {σ : S} {a : Act} {w w' : World} (hC : Conc G φ m σ a w) (hm : Mem.le m m')
    (hw : w'.os = w.os ∧ w'.tape = w.tape ∧ w'.output = w.output ∧ w.heap.size ≤ w'.heap.size)
    (hb : ∀ b, b < w.heap.size → w'.heap[b]? = w.heap[b]?)
    (hn : ∀ b off v, m' b off = some v → m b off = some v ∨ (w.heap.size ≤ b ∧ w'.cell? ⟨b, off, none⟩ = some v)) :
    Conc G φ m' σ a w' := by
  have hlt : ∀ x, holds φ σ.obj x → (φ x).blk < w.heap.size := fun x ⟨o, h1, h2, h3⟩ => (hC.objs x o h1).lt h2 h3
  constructor
  · exact fun t => (hC.tmps t).ext hm (Ext.refl _ _)
  · exact hC.size
  · obtain ⟨ds, h1, h2, h3⟩ := hC.defers
    exact ⟨ds, h1, h2, fun D hD => ⟨(h3 D hD).1, (hb D (Array.getElem?_eq_some_iff.1 (h3 D hD).2).1).trans (h3 D hD).2⟩⟩
  · exact fun x o hxo => (hC.objs x o hxo).ext hm (Ext.refl _ _) fun h1 h2 => hb _ (hlt x ⟨o, hxo, h1, h2⟩)
  · intro b off v h
    rcases hn b off v h with h' | h'
    · have h1 := hC.mem b off v h'
      rw [cell?_block (hb b (cell?_lt h1))]; exact h1
    · exact h'.2
  · intro x hx off
    cases hc : m' (φ x).blk off with
    | none => rfl
    | some v =>
      rcases hn _ _ _ hc with h | h
      · have := hC.apart x hx off; rw [h] at this; cases this
      · have := hlt x hx; omega
  · exact hC.inj
  · exact hC.own
  · obtain ⟨h1, h2, h3, h4⟩ := hw
    exact ⟨h1.trans hC.fr.os, h2.trans hC.fr.tape, h3.trans hC.fr.output, Nat.le_trans hC.fr.size h4, fun b hb' ho =>
      (hb b (Nat.lt_of_lt_of_le hb' hC.fr.size)).trans (hC.fr.block b hb' ho)⟩
  · intro b off v h
    rcases hn b off v h with h' | h'
    · exact hC.fresh b off v h'
    · exact .inr (.inl (Nat.le_trans hC.fr.size h'.1))
  · exact hC.kept

/-- An operation's result goes into its temporary. -/
theorem Conc.put {G : Ghost} {φ : Name → Loc} {m : Mem} {σ : S} {a : Act} {w : World} (hC : Conc G φ m σ a w) {t : Nat} {e : E} {v : Value} (ht : t < σ.nt)
    (he : RepE φ σ.obj m e v) : Conc G φ m { σ with env := upd σ.env t e } (a.put (some t) v) w := by
  refine ⟨fun x => ?_, ?_, hC.defers, hC.objs, hC.mem, hC.apart, hC.inj, hC.own, hC.fr, hC.fresh, hC.kept⟩
  · have hs : t < a.tmps.size := by rw [hC.size]; exact ht
    simp only [Act.put]
    by_cases hx : x = t
    · subst hx
      rw [upd_same]
      simp [Array.getD, hs]
      exact he
    · rw [upd_ne _ _ _ hx]
      have := hC.tmps x
      simp only [Array.getD_eq_getD_getElem?] at this ⊢
      rw [Array.getElem?_setIfInBounds_ne (fun h => hx h.symm)]
      exact this
  · simp [Act.put, hC.size]

theorem Conc.drawn {G : Ghost} {φ : Name → Loc} {m : Mem} {σ : S} {a : Act} {w : World} (hC : Conc G φ m σ a w) (n : Nat) :
    Conc G φ m σ a { w with drawn := n } :=
  hC.imm (Mem.le_refl m) ⟨rfl, rfl, rfl, Nat.le_refl _⟩ (fun _ _ => rfl) (fun _ _ _ h => .inl h)

end Go.Eng
/- The engine's third text: loads, stores and types, as the model runs them. -/
namespace Go.Eng
open Go

def wset (w : World) (g : Nat) (o : Obj) : World := { w with heap := w.heap.setIfInBounds g o }

theorem wset_same {w : World} {g : Nat} {o : Obj} (h : g < w.heap.size) : (wset w g o).heap[g]? = some o := by
  simp [wset, h]
theorem wset_ne {w : World} {g b : Nat} {o : Obj} (h : b ≠ g) : (wset w g o).heap[b]? = w.heap[b]? := by
  simp only [wset]
  exact Array.getElem?_setIfInBounds_ne (fun e => h e.symm)
theorem wset_size {w : World} {g : Nat} {o : Obj} : (wset w g o).heap.size = w.heap.size := by simp [wset]
theorem wset_wset {w : World} {g : Nat} {o o' : Obj} : wset (wset w g o) g o' = wset w g o' := by
  simp [wset, Array.setIfInBounds_setIfInBounds]

theorem setCell_wset {w : World} {g off : Nat} {us : Array Value} {T : TypeId} {f : Nat × Nat} (h : w.heap[g]? = some (.cells us T f)) (v : Value) :
    w.setCell ⟨g, off, none⟩ v = wset w g (.cells (us.setIfInBounds off v) T f) := by
  have hg : g < w.heap.size := (Array.getElem?_eq_some_iff.1 h).1
  have he : w.heap[g] = .cells us T f := by rw [Array.getElem?_eq_getElem hg] at h; simpa using h
  simp only [World.setCell, wset]
  congr 1
  apply Array.ext_getElem?
  intro i
  rw [Array.getElem?_modify]
  by_cases hi : g = i
  · subst hi
    rw [if_pos rfl, h]
    simp [hg]
  · rw [if_neg hi, Array.getElem?_setIfInBounds_ne hi]

theorem addr_add (b o j : Nat) : (⟨b, o, none⟩ : Addr).add j = ⟨b, o + j, none⟩ := by
  unfold Addr.add; split <;> simp_all

theorem frozen?_no {w : World} {g off : Nat} {us : Array Value} {T : TypeId} {f : Nat × Nat} (h : w.heap[g]? = some (.cells us T f)) (hf : f.1 = f.2) :
    w.frozen? ⟨g, off, none⟩ = false := by
  obtain ⟨lo, hi⟩ := f
  simp only at hf
  subst hf
  simp [World.frozen?, h]

theorem cell?_of {w : World} {g off : Nat} {us : Array Value} {T : TypeId} {f : Nat × Nat} (h : w.heap[g]? = some (.cells us T f)) :
    w.cell? ⟨g, off, none⟩ = us[off]? := by
  simp [World.cell?, h]

/-- Storing cells one behind the other. -/
theorem run_storeCells_run (P : Program) (g o : Nat) (T : TypeId) (f : Nat × Nat) (hf : f.1 = f.2) : ∀ (vs : List Value) (i : Nat) (us : Array Value) (w : World),
    w.heap[g]? = some (.cells us T f) → o + i + vs.length ≤ us.size → (∀ v ∈ vs, oneC v = true) →
    ∃ us' : Array Value, us'.size = us.size ∧ (∀ k, us'[k]? = if o + i ≤ k ∧ k < o + i + vs.length then vs[k - (o + i)]? else us[k]?) ∧
      (storeCells ⟨g, o, none⟩ vs i).run P w = .ok () (wset w g (.cells us' T f))
  | [], i, us, w, hg, _, _ => by
    refine ⟨us, rfl, fun k => ?_, ?_⟩
    · rw [if_neg]; simp only [List.length_nil]; omega
    · have : wset w g (.cells us T f) = w := by
        simp only [wset]
        congr 1
        apply Array.ext_getElem?
        intro j
        by_cases hj : g = j
        · subst hj; rw [hg]; simp [(Array.getElem?_eq_some_iff.1 hg).1]
        · rw [Array.getElem?_setIfInBounds_ne hj]
      simp [storeCells, this]
  | v :: rest, i, us, w, hg, hl, ho => by
    have hg' : g < w.heap.size := (Array.getElem?_eq_some_iff.1 hg).1
    have hi : o + i < us.size := by simp at hl; omega
    have h1 : (store (Addr.add ⟨g, o, none⟩ i) v).run P w = .ok () (wset w g (.cells (us.setIfInBounds (o + i) v) T f)) := by
      rw [addr_add, run_store P w _ v .plain (by have := ho v (by simp); cases v <;> simp_all [oneC, Value.oneCell'])]
      rw [cell?_of hg, Array.getElem?_eq_getElem hi, frozen?_no hg hf, setCell_wset hg]
      rfl
    obtain ⟨us', hs, hk, hr⟩ := run_storeCells_run P g o T f hf rest (i + 1) (us.setIfInBounds (o + i) v) (wset w g (.cells (us.setIfInBounds (o + i) v) T f))
      (wset_same hg') (by simp at hl ⊢; omega) (fun x hx => ho x (by simp [hx]))
    refine ⟨us', by simpa using hs, fun k => ?_, ?_⟩
    · rw [hk k]
      by_cases hk1 : o + i = k
      · subst hk1
        rw [if_neg (by omega), if_pos (by simp)]
        simp [hi]
      · rw [Array.getElem?_setIfInBounds_ne hk1]
        by_cases hk2 : o + (i + 1) ≤ k ∧ k < o + (i + 1) + rest.length
        · rw [if_pos hk2, if_pos (by simp; omega)]
          have : k - (o + i) = (k - (o + (i + 1))) + 1 := by omega
          rw [this, List.getElem?_cons_succ]
        · rw [if_neg hk2, if_neg (by simp; omega)]
    · simp only [storeCells, Sem.run_bind, h1, Result.andThen_ok, hr, wset_wset]

theorem run_loadCells_run (P : Program) (w : World) (b o n : Nat) (f : Nat → Value) (h : ∀ j, j < n → w.cell? ⟨b, o + j, none⟩ = some (f j)) :
    (loadCells ⟨b, o, none⟩ n).run P w = .ok ((List.range n).map f).toArray w :=
  run_loadCells w ⟨b, o, none⟩ n f fun j hj => by rw [addr_add]; exact h j hj

/-! what the ops ask of types -/

def isAggD : TypeDesc → Bool
  | .struct _ | .array _ _ => true
  | _ => false

/-- Loads and stores: is it a struct or an array, and how many cells has it. -/
def tAgg (P : Program) (t : TypeId) : Option (Bool × Nat) :=
  match P.underlying t, P.info? t with
  | some d, some i => some (isAggD d, i.size)
  | _, _ => none
def tZero (P : Program) (t : TypeId) : Option Value := (P.info? t).bind (·.zero)
/-- A slice's element: type, cells, bytes. -/
def tElem (P : Program) (t : TypeId) : Option (TypeId × Nat × Nat) :=
  match P.underlying t with
  | some (.slice e) => (P.info? e).map fun i => (e, i.size, i.bytes)
  | _ => none
/-- A struct's field: offset, cells, is it a struct or an array. -/
def tField (P : Program) (t : TypeId) (f : Nat) : Option (Nat × Nat × Bool) :=
  match P.underlying t with
  | some (.struct fs) => (fs[f]?).bind fun x => (tAgg P x.type).map fun y => (x.offset, y.2, y.1)
  | _ => none
/-- An array: length, element's cells, is the element a struct or an array. -/
def tArr (P : Program) (t : TypeId) : Option (Nat × Nat × Bool) :=
  match P.underlying t with
  | some (.array n e) => (tAgg P e).map fun y => (n, y.2, y.1)
  | _ => none
def tInt (P : Program) (t : TypeId) : Option IntKind :=
  match P.underlying t with
  | some (.int k) => some k
  | _ => none

theorem run_isAgg {P : Program} {t : TypeId} {b : Bool} {n : Nat} (h : tAgg P t = some (b, n)) (w : World) : (isAgg t).run P w = .ok b w := by
  unfold tAgg at h
  split at h
  · rename_i d i h1 h2
    simp only [Option.some.injEq, Prod.mk.injEq] at h
    unfold isAgg
    rw [Sem.run_bind, run_underlying h1 w]
    simp only [Result.andThen_ok]
    cases d <;> (rw [← h.1]; rfl)
  · cases h
theorem run_sizeOf' {P : Program} {t : TypeId} {b : Bool} {n : Nat} (h : tAgg P t = some (b, n)) (w : World) : (sizeOf t).run P w = .ok n w := by
  unfold tAgg at h
  split at h
  · rename_i d i h1 h2
    simp only [Option.some.injEq, Prod.mk.injEq] at h
    simp [sizeOf, typeInfo, h2, h.2]
  · cases h

theorem run_loadVar_run {P : Program} {t : TypeId} {b : Bool} {n : Nat} (h : tAgg P t = some (b, n)) {w : World} {blk off : Nat} (f : Nat → Value)
    (hn : b = false → 0 < n) (hc : ∀ j, j < n → w.cell? ⟨blk, off + j, none⟩ = some (f j)) :
    (loadVar t ⟨blk, off, none⟩).run P w = .ok (if b then .agg ((List.range n).map f).toArray else f 0) w := by
  simp only [loadVar, Sem.run_bind, run_isAgg h, Result.andThen_ok, Sem.run_ite, run_sizeOf' h, run_loadCells_run P w blk off n f hc, Sem.run_pure, run_load]
  cases b
  · have := hc 0 (hn rfl)
    simp at this
    simp [this]
  · simp

theorem run_storeVar_run {P : Program} {t : TypeId} {b : Bool} {n : Nat} (h : tAgg P t = some (b, n)) {w : World} {g o : Nat} {us : Array Value} {T : TypeId} {f : Nat × Nat}
    (hf : f.1 = f.2) (hg : w.heap[g]? = some (.cells us T f)) (v : Value) (hv : v.cells.size = n) (hl : o + n ≤ us.size) (ho : ∀ c ∈ v.cells.toList, oneC c = true) :
    ∃ us' : Array Value, us'.size = us.size ∧ (∀ k, us'[k]? = if o ≤ k ∧ k < o + n then v.cells.toList[k - o]? else us[k]?) ∧
      (storeVar t ⟨g, o, none⟩ v).run P w = .ok () (wset w g (.cells us' T f)) := by
  obtain ⟨us', h1, h2, h3⟩ := run_storeCells_run P g o T f hf v.cells.toList 0 us w hg (by simp [hv]; omega) ho
  refine ⟨us', h1, fun k => ?_, ?_⟩
  · have := h2 k
    simp only [Nat.add_zero, Array.length_toList, hv] at this
    exact this
  · simp only [storeVar, Sem.run_bind, run_sizeOf' h, Result.andThen_ok, Sem.run_ite, hv, h3]
    simp

end Go.Eng
/- The engine's fourth text: the operations that look and reckon, abstractly, and that the model runs them so. -/
namespace Go.Eng
open Go

theorem getD_lt {α : Type} {l : List α} {i : Nat} (h : i < l.length) (z : α) : l.getD i z = l[i] := by
  simp [List.getD, List.getElem?_eq_getElem h]

structure R where
  ok : Prop
  d : D
  obj : Name → Option O

def R.bad (obj : Name → Option O) : R := ⟨False, .any, obj⟩

def ofCell : Value → D
  | .int k n => .v (.int k n)
  | .bool b => .v (.bool b)
  | .pointer none => .v .nilp
  | .slice none 0 0 => .nilsl
  | .map none => .nilmap
  | .nilFunc => .v .nilfn
  | .string s => if s.size ≤ maxLen then .v (.str s) else .any
  | _ => .any
def ofVal : Value → D
  | .agg cs => if (cs.toList.map ofCell).all D.one = true then .agg (cs.toList.map ofCell) else .any
  | v => ofCell v

theorem ofCell_rep {φ : Name → Loc} {obj : Name → Option O} {m : Mem} (u : Value) : RepD φ obj m (ofCell u) u := by
  unfold ofCell
  split
  · exact .v _ _ (.int _ _)
  · exact .v _ _ (.bool _)
  · exact .v _ _ .nilp
  · exact .nilsl none
  · exact .nilmap
  · exact .v _ _ .nilfn
  · split
    · exact .v _ _ (.str _ (by assumption))
    · exact .any _
  · exact .any _

theorem ofVal_rep {φ : Name → Loc} {obj : Name → Option O} {m : Mem} (u : Value) : RepD φ obj m (ofVal u) u := by
  unfold ofVal
  split
  · split
    · rename_i cs h
      refine .agg _ _ (by simp) (fun d hd => List.all_eq_true.1 h d hd) fun i h1 h2 => ?_
      simp only [List.getElem_map, Array.getElem_toList]
      exact ofCell_rep _
    · exact .any _
  · exact ofCell_rep _

def asV1 : D → Option V
  | .v x => some x
  | .nilsl => some (.sl [])
  | _ => none
def asV1s : List D → Option (List V)
  | [] => some []
  | d :: r => match asV1 d, asV1s r with
    | some x, some xs => some (x :: xs)
    | _, _ => none
def asV : D → Option V
  | .v x => some x
  | .nilsl => some (.sl [])
  | .agg l => (asV1s l).map .agg
  | _ => none

theorem asV1_rep {φ : Name → Loc} {obj : Name → Option O} {m : Mem} {d : D} {u : Value} {x : V} (h : RepD φ obj m d u) (hx : asV1 d = some x) : RepV m x u := by
  cases h <;> simp [asV1] at hx
  · subst hx; assumption
  · subst hx; exact .slnil _ _

theorem asV1_one {d : D} {x : V} (hx : asV1 d = some x) (hd : d.one = true) : x.one = true := by
  cases d <;> simp [asV1] at hx
  · subst hx; exact hd
  · subst hx; rfl

theorem asV1s_spec : ∀ {l : List D} {xs : List V}, asV1s l = some xs → xs.length = l.length ∧ ∀ i (h : i < l.length) (h' : i < xs.length), asV1 l[i] = some xs[i]
  | [], xs, h => by simp [asV1s] at h; subst h; simp
  | d :: r, xs, h => by
    simp only [asV1s] at h
    split at h
    · rename_i x ys h1 h2
      simp only [Option.some.injEq] at h
      subst h
      obtain ⟨h3, h4⟩ := asV1s_spec h2
      refine ⟨by simp [h3], fun i hi hi' => ?_⟩
      cases i with
      | zero => simpa using h1
      | succ i => simpa using h4 i (by simpa using hi) (by simpa using hi')
    · cases h

theorem asV_rep {φ : Name → Loc} {obj : Name → Option O} {m : Mem} {d : D} {u : Value} {x : V} (h : RepD φ obj m d u) (hx : asV d = some x) : RepV m x u := by
  cases h with
  | agg l us hl ho hr =>
    simp only [asV, Option.map_eq_some_iff] at hx
    obtain ⟨xs, h1, h2⟩ := hx
    subst h2
    obtain ⟨h3, h4⟩ := asV1s_spec h1
    refine .agg xs us (h3.trans hl) (fun y hy => ?_) fun i h5 h6 => asV1_rep (hr i (by omega) h6) (h4 i (by omega) h5)
    obtain ⟨i, hi, rfl⟩ := List.mem_iff_getElem.1 hy
    exact asV1_one (h4 i (by omega) hi) (ho _ (List.getElem_mem _))
  | v y u h => simp [asV] at hx; subst hx; exact h
  | nilsl a => simp [asV] at hx; subst hx; exact .slnil _ _
  | _ => simp [asV] at hx

/-! loads -/

def aLoad (P : Program) (obj : Name → Option O) (T : TypeId) (x : D) : R :=
  match tAgg P T, x with
  | some (true, n), .v (.ptr cs) => ⟨n ≤ cs.length, .v (.agg (cs.take n)), obj⟩
  | some (false, 1), .v (.ptr cs) => ⟨0 < cs.length, .v (cs.getD 0 default), obj⟩
  | some (true, n), .ref nm off => match obj nm with
    | some (.box cs) => ⟨off + n ≤ cs.length, .agg ((cs.drop off).take n), obj⟩
    | some (.fbox cs) => ⟨off + n ≤ cs.length, .v (.agg ((cs.drop off).take n)), obj⟩
    | _ => .bad obj
  | some (false, 1), .ref nm off => match obj nm with
    | some (.box cs) => ⟨off < cs.length, cs.getD off .any, obj⟩
    | some (.fbox cs) => ⟨off < cs.length, .v (cs.getD off default), obj⟩
    | _ => .bad obj
  | some (true, n), .aref nm k i off => match obj nm with
    | some (.arr _ l) | some (.farr _ l) => ⟨k = l.length ∧ i < l.length ∧ off + n ≤ (l.getD i default).cells.length, .v (.agg (((l.getD i default).cells.drop off).take n)), obj⟩
    | _ => .bad obj
  | some (false, 1), .aref nm k i off => match obj nm with
    | some (.arr _ l) | some (.farr _ l) => ⟨k = l.length ∧ i < l.length ∧ off < (l.getD i default).cells.length, .v ((l.getD i default).cells.getD off default), obj⟩
    | _ => .bad obj
  | _, _ => .bad obj

/-- What lies at an address: cells that read as these. -/
theorem load_cells {P : Program} {φ : Name → Loc} {obj : Name → Option O} {m : Mem} {T : TypeId} {ag : Bool} {n : Nat} (hT : tAgg P T = some (ag, n)) (hn : ag = false → n = 1)
    {w : World} {b o : Nat} (ds : List D) (hds : n ≤ ds.length) (ho : ∀ d ∈ ds, d.one = true)
    (hc : ∀ j (h : j < ds.length), ∃ c, w.cell? ⟨b, o + j, none⟩ = some c ∧ RepD φ obj m ds[j] c) :
    ∃ v, (loadVar T ⟨b, o, none⟩).run P w = .ok v w ∧ RepD φ obj m (if ag then .agg (ds.take n) else ds.getD 0 .any) v := by
  refine ⟨_, run_loadVar_run hT (fun j => (w.cell? ⟨b, o + j, none⟩).getD undef) (fun h => by rw [hn h]; omega) (fun j hj => ?_), ?_⟩
  · obtain ⟨c, h1, h2⟩ := hc j (by omega); simp [h1]
  · cases ag with
    | true =>
      simp only [if_true]
      refine .agg _ _ (by simp; omega) (fun d hd => ho d (List.mem_of_mem_take hd)) fun i h1 h2 => ?_
      simp only [List.length_take] at h1
      obtain ⟨c, h3, h4⟩ := hc i (by omega)
      simp only [List.getElem_take, List.getElem_toArray, List.getElem_map, List.getElem_range, h3, Option.getD_some]
      exact h4
    | false =>
      have := hn rfl
      obtain ⟨c, h3, h4⟩ := hc 0 (by omega)
      simp only [Nat.add_zero] at h3
      simp only [Bool.false_eq_true, if_false, Nat.add_zero, h3, Option.getD_some]
      rw [getD_lt (by omega)]
      exact h4

/-- The same of plain data. -/
theorem load_cellsV {P : Program} {φ : Name → Loc} {obj : Name → Option O} {m : Mem} {T : TypeId} {ag : Bool} {n : Nat} (hT : tAgg P T = some (ag, n)) (hn : ag = false → n = 1)
    {w : World} {b o : Nat} (xs : List V) (hds : n ≤ xs.length) (ho : ∀ d ∈ xs, d.one = true)
    (hc : ∀ j (h : j < xs.length), ∃ c, w.cell? ⟨b, o + j, none⟩ = some c ∧ RepV m xs[j] c) :
    ∃ v, (loadVar T ⟨b, o, none⟩).run P w = .ok v w ∧ RepD φ obj m (.v (if ag then .agg (xs.take n) else xs.getD 0 default)) v := by
  obtain ⟨v, h1, h2⟩ := load_cells (φ := φ) (obj := obj) (m := m) hT hn (w := w) (b := b) (o := o) (xs.map .v) (by simpa using hds) (by intro d hd; obtain ⟨x, hx, rfl⟩ := List.mem_map.1 hd; exact ho x hx)
    (fun j h => by
      obtain ⟨c, h1, h2⟩ := hc j (by simpa using h)
      exact ⟨c, h1, by simpa using .v _ _ h2⟩)
  refine ⟨v, h1, ?_⟩
  cases ag with
  | true =>
    simp only [if_true] at h2 ⊢
    cases h2 with
    | agg l us hl ho' hr =>
      refine .v _ _ (.agg _ _ (by simpa using hl) (fun x hx => ho x (List.mem_of_mem_take hx)) fun i h3 h4 => ?_)
      have := hr i (by simpa using h3) h4
      simp only [List.getElem_take, List.getElem_map] at this
      cases this with
      | v _ _ h => simpa using h
  | false =>
    have := hn rfl
    simp only [Bool.false_eq_true, if_false] at h2 ⊢
    rw [getD_lt (by simp; omega)] at h2
    simp only [List.getElem_map] at h2
    rw [getD_lt (by omega)]
    exact h2

theorem drop_getD {α : Type} (l : List α) (n : Nat) (z : α) : (l.drop n).getD 0 z = l.getD n z := by
  simp [List.getD, List.getElem?_drop]
theorem head_getD {α : Type} (l : List α) (z : α) : l.headD z = l.getD 0 z := by cases l <;> rfl

theorem s_load {P : Program} {G : Ghost} {φ : Name → Loc} {m : Mem} {σ : S} {a : Act} {w : World} (hC : Conc G φ m σ a w) {T : TypeId} {x : D} {u : Value}
    (hx : RepD φ σ.obj m x u) (hok : (aLoad P σ.obj T x).ok) :
    ∃ v, (Instr.loadAt T u).run P w = .ok v w ∧ RepD φ σ.obj m (aLoad P σ.obj T x).d v ∧ (aLoad P σ.obj T x).obj = σ.obj := by
  have hmem : ∀ {b off : Nat} {c : Value}, m b off = some c → w.cell? ⟨b, off, none⟩ = some c := fun h => hC.mem _ _ _ h
  have harr : ∀ (nm : Name) (o : O) (s : Nat) (l : List V), (o = .arr s l ∨ o = .farr s l) → σ.obj nm = some o → ∀ i, (hi : i < l.length) →
      (∀ y ∈ l[i].cells, y.one = true) ∧ ∀ j (h : j < l[i].cells.length), ∃ c, w.cell? ⟨(φ nm).blk, (φ nm).off + i * s + j, none⟩ = some c ∧ RepV m l[i].cells[j] c := by
    intro nm o s l ho hnm i hi
    have h := hC.objs nm o hnm
    rcases ho with rfl | rfl
    · rcases h with ⟨_, h⟩ | ⟨h0, h1, h2, h3, h4, us, T, f, h5, h6, h7, h8⟩
      · subst h; simp at hi
      · exact ⟨h4 i hi, fun j hj => let ⟨c, h9, h10⟩ := h8 i j hi hj; ⟨c, by rw [cell?_of h5]; exact h9, h10⟩⟩
    · rcases h with ⟨_, h⟩ | ⟨h0, h1, h2, h3, h4⟩
      · subst h; simp at hi
      · exact ⟨h3 i hi, fun j hj => let ⟨c, h9, h10⟩ := h4 i j hi hj; ⟨c, hmem h9, h10⟩⟩
  have hbox : ∀ (nm : Name) (cs : List D), σ.obj nm = some (.box cs) → (∀ d ∈ cs, d.one = true) ∧
      ∀ j (h : j < cs.length), ∃ c, w.cell? ⟨(φ nm).blk, (φ nm).off + j, none⟩ = some c ∧ RepD φ σ.obj m cs[j] c := by
    intro nm cs hnm
    obtain ⟨h0, h1, h1', us, T, f, h2, h3, h4, h5⟩ := hC.objs nm _ hnm
    refine ⟨h1', fun j hj => ⟨us[j], ?_, h5 j hj (by omega)⟩⟩
    rw [cell?_of h2, h0, Nat.zero_add]
    exact Array.getElem?_eq_getElem (by omega)
  have hfbox : ∀ (nm : Name) (cs : List V), σ.obj nm = some (.fbox cs) → (∀ d ∈ cs, d.one = true) ∧
      ∀ j (h : j < cs.length), ∃ c, w.cell? ⟨(φ nm).blk, (φ nm).off + j, none⟩ = some c ∧ RepV m cs[j] c := by
    intro nm cs hnm
    obtain ⟨h0, h1⟩ := hC.objs nm _ hnm
    exact ⟨h0, fun j hj => let ⟨c, h2, h3⟩ := h1 j hj; ⟨c, hmem h2, h3⟩⟩
  unfold aLoad at hok ⊢
  split at hok
  · rename_i n cs hT
    cases hx with
    | v _ _ hx =>
    cases hx with
    | ptr _ b o c ho hc hr =>
    obtain ⟨v, h1, h2⟩ := load_cellsV (φ := φ) (obj := σ.obj) (m := m) hT (by simp) (w := w) (b := b) (o := o) cs hok ho (fun j h => ⟨c j, hmem (hc j h), hr j h⟩)
    refine ⟨v, ?_, by simpa [hT] using h2, by simp [hT]⟩
    simpa [Instr.loadAt, Instr.sureAddr] using h1
  · rename_i cs hT
    cases hx with
    | v _ _ hx =>
    cases hx with
    | ptr _ b o c ho hc hr =>
    obtain ⟨v, h1, h2⟩ := load_cellsV (φ := φ) (obj := σ.obj) (m := m) hT (by simp) (w := w) (b := b) (o := o) cs hok ho (fun j h => ⟨c j, hmem (hc j h), hr j h⟩)
    refine ⟨v, ?_, by simpa [hT, head_getD] using h2, by simp [hT]⟩
    simpa [Instr.loadAt, Instr.sureAddr] using h1
  · rename_i n nm off hT
    cases hx with
    | ref _ _ hx =>
    split at hok
    · rename_i cs hnm
      obtain ⟨hb1, hb2⟩ := hbox nm cs hnm
      obtain ⟨v, h1, h2⟩ := load_cells (φ := φ) (obj := σ.obj) (m := m) hT (by simp) (w := w) (b := (φ nm).blk) (o := (φ nm).off + off) (cs.drop off)
        (by simp only [List.length_drop]; have : off + n ≤ cs.length := hok; omega) (fun d hd => hb1 d (List.mem_of_mem_drop hd))
        (fun j h => by
          simp only [List.length_drop] at h
          obtain ⟨c, h3, h4⟩ := hb2 (off + j) (by omega)
          refine ⟨c, by rw [Nat.add_assoc]; exact h3, by simpa using h4⟩)
      refine ⟨v, ?_, by simpa [hT, hnm] using h2, by simp [hT, hnm]⟩
      simpa [Instr.loadAt, Instr.sureAddr] using h1
    · rename_i cs hnm
      obtain ⟨hb1, hb2⟩ := hfbox nm cs hnm
      obtain ⟨v, h1, h2⟩ := load_cellsV (φ := φ) (obj := σ.obj) (m := m) hT (by simp) (w := w) (b := (φ nm).blk) (o := (φ nm).off + off) (cs.drop off)
        (by simp only [List.length_drop]; have : off + n ≤ cs.length := hok; omega) (fun d hd => hb1 d (List.mem_of_mem_drop hd))
        (fun j h => by
          simp only [List.length_drop] at h
          obtain ⟨c, h3, h4⟩ := hb2 (off + j) (by omega)
          refine ⟨c, by rw [Nat.add_assoc]; exact h3, by simpa using h4⟩)
      refine ⟨v, ?_, by simpa [hT, hnm] using h2, by simp [hT, hnm]⟩
      simpa [Instr.loadAt, Instr.sureAddr] using h1
    · exact hok.elim
  · rename_i nm off hT
    cases hx with
    | ref _ _ hx =>
    split at hok
    · rename_i cs hnm
      obtain ⟨hb1, hb2⟩ := hbox nm cs hnm
      obtain ⟨v, h1, h2⟩ := load_cells (φ := φ) (obj := σ.obj) (m := m) hT (by simp) (w := w) (b := (φ nm).blk) (o := (φ nm).off + off) (cs.drop off)
        (by simp only [List.length_drop]; have : off < cs.length := hok; omega) (fun d hd => hb1 d (List.mem_of_mem_drop hd))
        (fun j h => by
          simp only [List.length_drop] at h
          obtain ⟨c, h3, h4⟩ := hb2 (off + j) (by omega)
          refine ⟨c, by rw [Nat.add_assoc]; exact h3, by simpa using h4⟩)
      rw [if_neg (by simp), drop_getD] at h2
      refine ⟨v, ?_, by simpa [hT, hnm] using h2, by simp [hT, hnm]⟩
      simpa [Instr.loadAt, Instr.sureAddr] using h1
    · rename_i cs hnm
      obtain ⟨hb1, hb2⟩ := hfbox nm cs hnm
      obtain ⟨v, h1, h2⟩ := load_cellsV (φ := φ) (obj := σ.obj) (m := m) hT (by simp) (w := w) (b := (φ nm).blk) (o := (φ nm).off + off) (cs.drop off)
        (by simp only [List.length_drop]; have : off < cs.length := hok; omega) (fun d hd => hb1 d (List.mem_of_mem_drop hd))
        (fun j h => by
          simp only [List.length_drop] at h
          obtain ⟨c, h3, h4⟩ := hb2 (off + j) (by omega)
          refine ⟨c, by rw [Nat.add_assoc]; exact h3, by simpa using h4⟩)
      rw [if_neg (by simp), drop_getD] at h2
      refine ⟨v, ?_, by simpa [hT, hnm] using h2, by simp [hT, hnm]⟩
      simpa [Instr.loadAt, Instr.sureAddr] using h1
    · exact hok.elim
  · rename_i n nm k i off hT
    cases hx with
    | aref _ _ _ _ _ hx hu =>
    obtain ⟨o, k', hnm, hlen, hk, hval⟩ := hx
    have main : ∀ s l, (o = .arr s l ∨ o = .farr s l) → (k = l.length ∧ i < l.length ∧ off + n ≤ (l.getD i default).cells.length) →
        ∃ v, (Instr.loadAt T u).run P w = .ok v w ∧ RepD φ σ.obj m (.v (.agg (((l.getD i default).cells.drop off).take n))) v := by
      rintro s l ho ⟨hk1, hi, hoff⟩
      have hkk : k' = l.length := by rcases ho with rfl | rfl <;> simpa [O.len?] using hlen.symm
      have hsz : o.sz = s := by rcases ho with rfl | rfl <;> rfl
      obtain ⟨ha1, ha2⟩ := harr nm o s l ho hnm i hi
      have e := hval (by omega)
      subst e
      rw [hsz]
      rw [getD_lt hi] at hoff ⊢
      obtain ⟨v, h1, h2⟩ := load_cellsV (φ := φ) (obj := σ.obj) (m := m) hT (by simp) (w := w) (b := (φ nm).blk) (o := (φ nm).off + i * s + off) (l[i].cells.drop off)
        (by simp only [List.length_drop]; omega) (fun d hd => ha1 d (List.mem_of_mem_drop hd))
        (fun j h => by
          simp only [List.length_drop] at h
          obtain ⟨c, h3, h4⟩ := ha2 (off + j) (by omega)
          refine ⟨c, by rw [Nat.add_assoc]; exact h3, by simpa using h4⟩)
      exact ⟨v, by simpa [Instr.loadAt, Instr.sureAddr] using h1, by simpa using h2⟩
    split at hok
    · rename_i s l hnm'
      rw [hnm] at hnm'; cases hnm'
      obtain ⟨v, h1, h2⟩ := main s l (.inl rfl) hok
      exact ⟨v, h1, by simpa [hT, hnm] using h2, by simp [hT, hnm]⟩
    · rename_i s l hnm'
      rw [hnm] at hnm'; cases hnm'
      obtain ⟨v, h1, h2⟩ := main s l (.inr rfl) hok
      exact ⟨v, h1, by simpa [hT, hnm] using h2, by simp [hT, hnm]⟩
    · exact hok.elim
  · rename_i nm k i off hT
    cases hx with
    | aref _ _ _ _ _ hx hu =>
    obtain ⟨o, k', hnm, hlen, hk, hval⟩ := hx
    have main : ∀ s l, (o = .arr s l ∨ o = .farr s l) → (k = l.length ∧ i < l.length ∧ off < (l.getD i default).cells.length) →
        ∃ v, (Instr.loadAt T u).run P w = .ok v w ∧ RepD φ σ.obj m (.v ((l.getD i default).cells.getD off default)) v := by
      rintro s l ho ⟨hk1, hi, hoff⟩
      have hkk : k' = l.length := by rcases ho with rfl | rfl <;> simpa [O.len?] using hlen.symm
      have hsz : o.sz = s := by rcases ho with rfl | rfl <;> rfl
      obtain ⟨ha1, ha2⟩ := harr nm o s l ho hnm i hi
      have e := hval (by omega)
      subst e
      rw [hsz]
      rw [getD_lt hi] at hoff ⊢
      obtain ⟨v, h1, h2⟩ := load_cellsV (φ := φ) (obj := σ.obj) (m := m) hT (by simp) (w := w) (b := (φ nm).blk) (o := (φ nm).off + i * s + off) (l[i].cells.drop off)
        (by simp only [List.length_drop]; omega) (fun d hd => ha1 d (List.mem_of_mem_drop hd))
        (fun j h => by
          simp only [List.length_drop] at h
          obtain ⟨c, h3, h4⟩ := ha2 (off + j) (by omega)
          refine ⟨c, by rw [Nat.add_assoc]; exact h3, by simpa using h4⟩)
      rw [if_neg (by simp), drop_getD] at h2
      exact ⟨v, by simpa [Instr.loadAt, Instr.sureAddr] using h1, h2⟩
    split at hok
    · rename_i s l hnm'
      rw [hnm] at hnm'; cases hnm'
      obtain ⟨v, h1, h2⟩ := main s l (.inl rfl) hok
      exact ⟨v, h1, by simpa [hT, hnm] using h2, by simp [hT, hnm]⟩
    · rename_i s l hnm'
      rw [hnm] at hnm'; cases hnm'
      obtain ⟨v, h1, h2⟩ := main s l (.inr rfl) hok
      exact ⟨v, h1, by simpa [hT, hnm] using h2, by simp [hT, hnm]⟩
    · exact hok.elim
  · exact hok.elim

end Go.Eng
/- The engine's fifth text: more operations that look and reckon. -/
namespace Go.Eng
open Go

/-! addresses of fields and elements -/

def aFieldAddr (P : Program) (obj : Name → Option O) (T : TypeId) (f : Nat) (x : D) : R :=
  match tField P T f, x with
  | some (off, n, _), .v (.ptr cs) => ⟨n ≠ 0 ∧ off + n ≤ cs.length, .v (.ptr ((cs.drop off).take n)), obj⟩
  | some (off, n, _), .ref nm o => ⟨n ≠ 0, .ref nm (o + off), obj⟩
  | some (off, n, _), .aref nm k i o => ⟨n ≠ 0 ∧ (obj nm).bind O.len? = some k, .aref nm k i (o + off), obj⟩
  | _, _ => .bad obj

theorem fieldPlace_run {P : Program} {T : TypeId} {f : Nat} {off n : Nat} {ag : Bool} (h : tField P T f = some (off, n, ag)) (hn : n ≠ 0) (w : World) (b o : Nat) :
    (Instr.fieldAt T (.pointer (some ⟨b, o, none⟩)) f).run P w = .ok (.pointer (some ⟨b, o + off, none⟩)) w := by
  unfold tField at h
  split at h
  · rename_i fs hu
    cases hf : fs[f]? with
    | none => simp [hf] at h
    | some x =>
      simp only [hf, Option.bind_some, Option.map_eq_some_iff, Prod.mk.injEq] at h
      obtain ⟨y, h1, h2, h3, h4⟩ := h
      have hs := run_sizeOf' (P := P) (t := x.type) (b := y.1) (n := y.2) h1 w
      have hne : y.2 ≠ 0 := by rw [h3]; exact hn
      simp only [Instr.fieldAt, Sem.run_bind, run_underlying hu w, Result.andThen_ok, hf, Sem.run_pure, Instr.sureAddr, fieldPlace, hs, Sem.run_ite, hne, if_false, addr_add, h2]
  · cases h

theorem s_fieldAddr {P : Program} {φ : Name → Loc} {obj : Name → Option O} {m : Mem} {T : TypeId} {f : Nat} {x : D} {u : Value} (w : World)
    (hx : RepD φ obj m x u) (hok : (aFieldAddr P obj T f x).ok) :
    ∃ v, (Instr.fieldAt T u f).run P w = .ok v w ∧ RepD φ obj m (aFieldAddr P obj T f x).d v ∧ (aFieldAddr P obj T f x).obj = obj := by
  unfold aFieldAddr at hok ⊢
  split at hok
  · rename_i off n ag cs hT
    cases hx with
    | v _ _ hx =>
    cases hx with
    | ptr _ b o c ho hc hr =>
    obtain ⟨h1, h2⟩ := hok
    refine ⟨_, fieldPlace_run hT h1 w b o, ?_, rfl⟩
    refine .v _ _ (.ptr _ b (o + off) (fun j => c (off + j)) (fun y hy => ho y (List.mem_of_mem_drop (List.mem_of_mem_take hy))) (fun j hj => ?_) fun j hj => ?_)
    · simp only [List.length_take, List.length_drop] at hj
      rw [Nat.add_assoc]; exact hc _ (by omega)
    · simp only [List.length_take, List.length_drop] at hj
      simp only [List.getElem_take, List.getElem_drop]
      exact hr _ (by omega)
  · rename_i off n ag nm o hT
    cases hx with
    | ref _ _ hx =>
    refine ⟨_, fieldPlace_run hT hok w _ _, ?_, rfl⟩
    have := RepD.ref (φ := φ) (m := m) nm (o + off) hx
    rwa [← Nat.add_assoc] at this
  · rename_i off n ag nm k i o hT
    cases hx with
    | aref _ _ _ _ _ hx hu =>
    obtain ⟨o', k', hnm, hlen, hk, hval⟩ := hx
    obtain ⟨h1, h2⟩ := hok
    simp only [hnm, Option.bind_some, hlen, Option.some.injEq] at h2
    have e := hval h2.symm
    subst e
    refine ⟨_, fieldPlace_run hT h1 w _ _, .aref _ _ _ _ _ ⟨o', k', hnm, hlen, hk, fun _ => by rw [Nat.add_assoc]⟩ rfl, rfl⟩
  · exact hok.elim

def aIndexAddr (P : Program) (obj : Name → Option O) (T : TypeId) (x i : D) : R :=
  match x, i with
  | .v (.sl l), .v (.int _ n) => match tElem P T with
    | some (_, sz, _) => ⟨0 ≤ n ∧ n < l.length ∧ (l.getD n.toNat default).cells.length = sz, .v (.ptr (l.getD n.toNat default).cells), obj⟩
    | _ => .bad obj
  | .msl nm k, .v (.int _ n) => match tElem P T, obj nm with
    | some (_, sz, _), some (.arr s l) => ⟨0 ≤ n ∧ n < l.length ∧ k = l.length ∧ s = sz, .aref nm k n.toNat 0, obj⟩
    | some (_, sz, _), some (.farr s l) => ⟨0 ≤ n ∧ n < l.length ∧ k = l.length ∧ s = sz, .aref nm k n.toNat 0, obj⟩
    | _, _ => .bad obj
  | .ref nm off, .v (.int _ n) => match tArr P T with
    | some (len, sz, _) => ⟨0 ≤ n ∧ n < len, .ref nm (off + n.toNat * sz), obj⟩
    | _ => .bad obj
  | .v (.ptr cs), .v (.int _ n) => match tArr P T with
    | some (len, sz, _) => ⟨0 ≤ n ∧ n < len ∧ n.toNat * sz + sz ≤ cs.length, .v (.ptr ((cs.drop (n.toNat * sz)).take sz)), obj⟩
    | _ => .bad obj
  | _, _ => .bad obj

theorem tElem_spec {P : Program} {T e : TypeId} {sz by_ : Nat} (h : tElem P T = some (e, sz, by_)) :
    P.underlying T = some (.slice e) ∧ ∃ i, P.info? e = some i ∧ i.size = sz ∧ i.bytes = by_ := by
  unfold tElem at h
  split at h
  · rename_i e' hu
    simp only [Option.map_eq_some_iff, Prod.mk.injEq] at h
    obtain ⟨i, h1, h2, h3, h4⟩ := h
    subst h2
    exact ⟨hu, i, h1, h3, h4⟩
  · cases h

theorem indexAt_slice {P : Program} {T e : TypeId} {sz by_ : Nat} (h : tElem P T = some (e, sz, by_)) (w : World) (b o len cap : Nat) (k : IntKind) (n : Int) (h0 : 0 ≤ n) (h1 : n < len) :
    (Instr.indexAt T (.slice (some ⟨b, o, none⟩) len cap) (.int k n)).run P w = .ok (.pointer (some ⟨b, o + n.toNat * sz, none⟩)) w := by
  obtain ⟨hu, i, hi, hs, _⟩ := tElem_spec h
  simp [Instr.indexAt, asIntOf, run_underlying hu w, h0, h1, sizeOf, typeInfo, hi, hs, addr_add]

theorem indexAt_arr {P : Program} {T : TypeId} {len sz : Nat} {ag : Bool} (h : tArr P T = some (len, sz, ag)) (w : World) (b o : Nat) (k : IntKind) (n : Int) (h0 : 0 ≤ n) (h1 : n < len) :
    (Instr.indexAt T (.pointer (some ⟨b, o, none⟩)) (.int k n)).run P w = .ok (.pointer (some ⟨b, o + n.toNat * sz, none⟩)) w := by
  unfold tArr at h
  split at h
  · rename_i n' e hu
    simp only [Option.map_eq_some_iff, Prod.mk.injEq] at h
    obtain ⟨y, h2, h3, h4, h5⟩ := h
    subst h3
    have hs := fun w => run_sizeOf' (P := P) (t := e) (b := y.1) (n := y.2) h2 w
    simp [Instr.indexAt, asIntOf, run_underlying hu w, h0, h1, hs, addr_add, Instr.sureAddr, h4]
  · cases h

theorem s_indexAddr {P : Program} {G : Ghost} {φ : Name → Loc} {m : Mem} {σ : S} {a : Act} {w : World} (hC : Conc G φ m σ a w) {T : TypeId} {x i : D} {u ui : Value}
    (hx : RepD φ σ.obj m x u) (hi : RepD φ σ.obj m i ui) (hok : (aIndexAddr P σ.obj T x i).ok) :
    ∃ v, (Instr.indexAt T u ui).run P w = .ok v w ∧ RepD φ σ.obj m (aIndexAddr P σ.obj T x i).d v ∧ (aIndexAddr P σ.obj T x i).obj = σ.obj := by
  unfold aIndexAddr at hok ⊢
  split at hok
  · rename_i l k n
    split at hok
    · rename_i e sz by_ hT
      cases hi with
      | v _ _ hi =>
      cases hi
      obtain ⟨h0, h1, h2⟩ := hok
      cases hx with
      | v _ _ hx =>
      cases hx with
      | slnil => simp at h1; omega
      | sl _ b o cap sz' c hn hl hcap hs hc hr ho =>
      have hlt : n.toNat < l.length := by omega
      refine ⟨_, indexAt_slice hT w b o _ cap k n h0 h1, ?_, by simp [hT]⟩
      simp only [hT]
      rw [getD_lt hlt] at h2 ⊢
      have hsz : sz' = sz := (hs _ hlt).symm.trans h2
      subst hsz
      exact .v _ _ (.ptr _ b (o + n.toNat * sz') (fun j => c n.toNat j) (ho _ hlt) (fun j hj => hc _ _ hlt (by rw [← h2]; exact hj)) fun j hj => hr _ _ hlt hj)
    · exact hok.elim
  · rename_i nm k ik n
    cases hi with
    | v _ _ hi =>
    cases hi
    have main : ∀ e sz by_ s l o, tElem P T = some (e, sz, by_) → σ.obj nm = some o → (o = .arr s l ∨ o = .farr s l) → (0 ≤ n ∧ n < l.length ∧ k = l.length ∧ s = sz) →
        ∃ v, (Instr.indexAt T u (.int ik n)).run P w = .ok v w ∧ RepD φ σ.obj m (.aref nm k n.toNat 0) v := by
      rintro e sz by_ s l o hT hnm hor ⟨h0, h1, h2, h3⟩
      cases hx with
      | msl _ _ _ hx hu =>
      obtain ⟨o', k', hnm', hlen, hk, hval⟩ := hx
      rw [hnm] at hnm'; cases hnm'
      have hl : k' = l.length := by rcases hor with rfl | rfl <;> simpa [O.len?] using hlen.symm
      have hsz : o.sz = s := by rcases hor with rfl | rfl <;> rfl
      have e := hval (by omega)
      subst e
      have hnul : (φ nm).nul = false := by
        have := hC.objs nm o hnm
        rcases hor with rfl | rfl
        · rcases this with ⟨_, h⟩ | ⟨h, _⟩
          · subst h; simp at h1; omega
          · exact h
        · rcases this with ⟨_, h⟩ | ⟨h, _⟩
          · subst h; simp at h1; omega
          · exact h
      simp only [Loc.slice, hnul, Bool.false_eq_true, if_false]
      refine ⟨_, indexAt_slice hT w _ _ _ _ ik n h0 (by omega), .aref _ _ _ _ _ ⟨o, k', hnm, hlen, hk, fun _ => ?_⟩ rfl⟩
      rw [hsz, h3, Nat.add_zero]
    split at hok
    · rename_i e sz by_ s l hT hnm
      obtain ⟨v, h1, h2⟩ := main e sz by_ s l _ hT hnm (.inl rfl) hok
      exact ⟨v, h1, by simpa [hT, hnm] using h2, by simp [hT, hnm]⟩
    · rename_i e sz by_ s l hT hnm
      obtain ⟨v, h1, h2⟩ := main e sz by_ s l _ hT hnm (.inr rfl) hok
      exact ⟨v, h1, by simpa [hT, hnm] using h2, by simp [hT, hnm]⟩
    · exact hok.elim
  · rename_i nm off k n
    split at hok
    · rename_i len sz ag hT
      cases hi with
      | v _ _ hi =>
      cases hi
      cases hx with
      | ref _ _ hx =>
      obtain ⟨h0, h1⟩ := hok
      refine ⟨_, indexAt_arr hT w _ _ k n h0 h1, ?_, by simp [hT]⟩
      simp only [hT]
      have := RepD.ref (φ := φ) (m := m) nm (off + n.toNat * sz) hx
      rwa [← Nat.add_assoc] at this
    · exact hok.elim
  · rename_i cs k n
    split at hok
    · rename_i len sz ag hT
      cases hi with
      | v _ _ hi =>
      cases hi
      cases hx with
      | v _ _ hx =>
      cases hx with
      | ptr _ b o c ho hc hr =>
      obtain ⟨h0, h1, h2⟩ := hok
      refine ⟨_, indexAt_arr hT w _ _ k n h0 h1, ?_, by simp [hT]⟩
      simp only [hT]
      refine .v _ _ (.ptr _ b (o + n.toNat * sz) (fun j => c (n.toNat * sz + j)) (fun y hy => ho y (List.mem_of_mem_drop (List.mem_of_mem_take hy))) (fun j hj => ?_) fun j hj => ?_)
      · simp only [List.length_take, List.length_drop] at hj
        rw [Nat.add_assoc]; exact hc _ (by omega)
      · simp only [List.length_take, List.length_drop] at hj
        simp only [List.getElem_take, List.getElem_drop]
        exact hr _ (by omega)
    · exact hok.elim
  · exact hok.elim

/-! arithmetic and comparisons -/

def bInt (op : BinOp) (k : IntKind) (a b : Int) : V :=
  match op with
  | .add => .int k (k.wrap (a + b))
  | .sub => .int k (k.wrap (a - b))
  | .mul => .int k (k.wrap (a * b))
  | .quo => .int k (k.wrap (a.tdiv b))
  | .rem => .int k (a.tmod b)
  | .and => .int k (k.wrap (BitVec.ofInt k.bits a &&& BitVec.ofInt k.bits b).toNat)
  | .or => .int k (k.wrap (BitVec.ofInt k.bits a ||| BitVec.ofInt k.bits b).toNat)
  | .xor => .int k (k.wrap (BitVec.ofInt k.bits a ^^^ BitVec.ofInt k.bits b).toNat)
  | .andNot => .int k (k.wrap (BitVec.ofInt k.bits a &&& ~~~(BitVec.ofInt k.bits b)).toNat)
  | .shl => .int k (k.wrap (a * 2 ^ (min b.toNat k.bits)))
  | .shr => .int k (a.fdiv (2 ^ (min b.toNat k.bits)))
  | .eql => .bool (a == b)
  | .neq => .bool (a != b)
  | .lss => .bool (decide (a < b))
  | .leq => .bool (decide (a ≤ b))
  | .gtr => .bool (decide (a > b))
  | .geq => .bool (decide (a ≥ b))
def bIntOk (op : BinOp) (k k' : IntKind) (b : Int) : Prop :=
  match op with
  | .quo => k = k' ∧ b ≠ 0
  | .rem => k = k' ∧ b ≠ 0
  | .shl => 0 ≤ b
  | .shr => 0 ≤ b
  | _ => k = k'
def bStr (op : BinOp) (a b : ByteArray) : V :=
  match op with
  | .add => .str (a ++ b)
  | .eql => .bool (a.toList == b.toList)
  | .neq => .bool (!(a.toList == b.toList))
  | .lss => .bool (Op.bytesLess a.toList b.toList)
  | .leq => .bool (Op.bytesLess a.toList b.toList || a.toList == b.toList)
  | .gtr => .bool (!(Op.bytesLess a.toList b.toList || a.toList == b.toList))
  | .geq => .bool (!(Op.bytesLess a.toList b.toList))
  | _ => .nilp
def bStrOk (op : BinOp) (a b : ByteArray) : Prop :=
  match op with
  | .add => a.size + b.size ≤ maxLen
  | .eql | .neq | .lss | .leq | .gtr | .geq => True
  | _ => False

def aBin (P : Program) (obj : Name → Option O) (op : BinOp) (T : TypeId) (x y : D) : R :=
  match x, y with
  | .v (.int k a), .v (.int k' b) => ⟨bIntOk op k k' b, .v (bInt op k a b), obj⟩
  | .v (.str a), .v (.str b) => ⟨bStrOk op a b, .v (bStr op a b), obj⟩
  | .v (.bool a), .v (.bool b) => ⟨P.underlying T = some .bool ∧ (op = .eql ∨ op = .neq), .v (.bool (if op = .eql then a == b else !(a == b))), obj⟩
  | _, _ => .bad obj

theorem run_equalIn_bool {P : Program} {T : TypeId} (hT : P.underlying T = some .bool) (d : Nat) (a b : Bool) (w : World) :
    (Op.equalIn (d + 1) T (.bool a) (.bool b)).run P w = .ok (a == b) w := by
  simp [Op.equalIn, run_underlying hT w]
theorem run_equal_bool {P : Program} {T : TypeId} (hT : P.underlying T = some .bool) (a b : Bool) (w : World) :
    (Op.equal T (.bool a) (.bool b)).run P w = .ok (a == b) w := run_equalIn_bool hT 9999 a b w

theorem s_bin {P : Program} {φ : Name → Loc} {obj : Name → Option O} {m : Mem} {T : TypeId} {op : BinOp} {x y : D} {u v : Value} {cx cy : Operand} (w : World)
    (hx : RepD φ obj m x u) (hy : RepD φ obj m y v) (hok : (aBin P obj op T x y).ok) :
    ∃ r, (do eqGuard op T cx cy u v; binOp op T u v : Sem Value).run P w = .ok r w ∧ RepD φ obj m (aBin P obj op T x y).d r ∧ (aBin P obj op T x y).obj = obj := by
  unfold aBin at hok ⊢
  split at hok
  · rename_i k a k' b
    cases hx with
    | v _ _ hx =>
    cases hy with
    | v _ _ hy =>
    cases hx; cases hy
    refine ⟨match bInt op k a b with | .int k n => .int k n | .bool b => .bool b | _ => undef, ?_, ?_, rfl⟩
    · cases op <;> simp only [bIntOk] at hok <;>
        (first | (obtain ⟨rfl, hb⟩ := hok) | (subst hok) | skip) <;>
        simp [eqGuard, binOp, Op.intArith, Op.intDiv, Op.intBits, Op.intCmp, Op.shift, bInt, *] <;> (try omega)
    · simp only
      cases op <;> simp only [bInt] <;> first | exact .v _ _ (.int _ _) | exact .v _ _ (.bool _)
  · rename_i a b
    cases hx with
    | v _ _ hx =>
    cases hy with
    | v _ _ hy =>
    cases hx with
    | str _ ha =>
    cases hy with
    | str _ hb =>
    refine ⟨match bStr op a b with | .str s => .string s | .bool b => .bool b | _ => undef, ?_, ?_, rfl⟩
    · cases op <;> simp only [bStrOk] at hok <;> first
        | exact hok.elim
        | (simp [eqGuard, binOp, Op.stringOp, bStr]; done)
        | (have : ¬ ((a.size + b.size : Nat) : Int) > IntKind.i64.max := by
            have h9 : IntKind.i64.max = 9223372036854775807 := by decide
            unfold maxLen at hok
            rw [h9]; omega
           simp only [eqGuard, binOp, Op.stringOp, bStr, Sem.run_bind, Sem.run_ite, if_neg this]
           rfl)
    · simp only
      cases op <;> simp only [bStrOk] at hok <;> simp only [bStr] <;> first
        | exact hok.elim
        | exact .v _ _ (.bool _)
        | (refine .v _ _ (.str _ ?_); simpa [ByteArray.size_append] using hok)
  · rename_i a b
    cases hx with
    | v _ _ hx =>
    cases hy with
    | v _ _ hy =>
    cases hx; cases hy
    obtain ⟨hT, ho⟩ := hok
    refine ⟨.bool (if op = .eql then a == b else !(a == b)), ?_, .v _ _ (.bool _), rfl⟩
    have e := run_equal_bool (P := P) hT a b w
    rcases ho with rfl | rfl
    · have h1 : binOp .eql T (.bool a) (.bool b) = (do pure (.bool (← Op.equal T (.bool a) (.bool b)))) := rfl
      rw [h1]
      simp only [Sem.run_bind, eqGuard, Result.andThen_ok, Sem.run_pure]
      simp
      rw [e]
      simp
    · have h1 : binOp .neq T (.bool a) (.bool b) = (do pure (.bool (!(← Op.equal T (.bool a) (.bool b))))) := rfl
      rw [h1]
      simp only [Sem.run_bind, eqGuard, Result.andThen_ok, Sem.run_pure]
      simp
      rw [e]
      simp
  · exact hok.elim

def aUn (obj : Name → Option O) (op : UnOp) (x : D) : R :=
  match op, x with
  | .not, .v (.bool b) => ⟨True, .v (.bool (!b)), obj⟩
  | .neg, .v (.int k n) => ⟨True, .v (.int k (k.wrap (0 - n))), obj⟩
  | _, _ => .bad obj

theorem s_un {P : Program} {φ : Name → Loc} {obj : Name → Option O} {m : Mem} {op : UnOp} {x : D} {u : Value} (w : World)
    (hx : RepD φ obj m x u) (hok : (aUn obj op x).ok) :
    ∃ r, (Op.unary op u).run P w = .ok r w ∧ RepD φ obj m (aUn obj op x).d r ∧ (aUn obj op x).obj = obj := by
  unfold aUn at hok ⊢
  split at hok
  · cases hx with
    | v _ _ hx => cases hx; exact ⟨_, rfl, .v _ _ (.bool _), rfl⟩
  · cases hx with
    | v _ _ hx => cases hx; exact ⟨_, rfl, .v _ _ (.int _ _), rfl⟩
  · exact hok.elim

def aConvN (P : Program) (obj : Name → Option O) (_src dst : TypeId) (x : D) : R :=
  match tInt P dst, x with
  | some k, .v (.int _ n) => ⟨(P.underlying _src).isSome = true, .v (.int k (k.wrap n)), obj⟩
  | _, _ => .bad obj
def byteV (b : UInt8) : V := .int .u8 b.toNat
def bytesV (s : ByteArray) : List V := s.data.toList.map byteV
def unbyte : V → UInt8
  | .int _ n => UInt8.ofNat n.toNat
  | _ => 0
def isByteV : V → Bool
  | .int .u8 n => decide (0 ≤ n) && decide (n < 256)
  | _ => false
/-- What a conversion is: 1 of a string to its bytes, 2 of bytes to a string, else one of numbers. -/
def tConv (P : Program) (src dst : TypeId) : Nat :=
  match P.underlying src, P.underlying dst with
  | some .string, some (.slice e) => match P.underlying e with
    | some (.int .u8) => 1
    | _ => 0
  | some (.slice e), some .string => match P.underlying e with
    | some (.int .u8) => 2
    | _ => 0
  | _, _ => 0
def aConv (P : Program) (obj : Name → Option O) (src dst : TypeId) (x : D) : R :=
  match tConv P src dst with
  | 1 => match x with
    | .v (.str s) => ⟨True, .v (.sl (bytesV s)), obj⟩
    | _ => .bad obj
  | 2 => match x with
    | .v (.sl l) => ⟨l.all isByteV = true, .v (.str ⟨(l.map unbyte).toArray⟩), obj⟩
    | _ => .bad obj
  | _ => aConvN P obj src dst x

theorem s_conv {P : Program} {φ : Name → Loc} {obj : Name → Option O} {m : Mem} {src dst : TypeId} {x : D} {u : Value} (w : World)
    (hx : RepD φ obj m x u) (hok : (aConvN P obj src dst x).ok) :
    ∃ r, (convert src dst u).run P w = .ok r w ∧ RepD φ obj m (aConvN P obj src dst x).d r ∧ (aConvN P obj src dst x).obj = obj := by
  unfold aConvN at hok ⊢
  split at hok
  · rename_i k ik n hT
    cases hx with
    | v _ _ hx =>
    cases hx
    have hd : P.underlying dst = some (.int k) := by
      unfold tInt at hT
      split at hT
      · simp only [Option.some.injEq] at hT; subst hT; assumption
      · cases hT
    obtain ⟨d, hs⟩ := Option.isSome_iff_exists.1 hok
    refine ⟨.int k (k.wrap n), ?_, by simpa [hT] using .v _ _ (.int _ _), by simp [hT]⟩
    simp [convert, run_underlying hd w, run_underlying hs w, Conv.intToInt]
  · exact hok.elim

/-- Components of a tuple. -/
def aExtract (obj : Name → Option O) (x : D) (i : Nat) : R :=
  match x with
  | .tup l => ⟨i < l.length, l.getD i .any, obj⟩
  | .v (.tup l) => ⟨i < l.length, .v (l.getD i default), obj⟩
  | _ => .bad obj

theorem s_extract {P : Program} {φ : Name → Loc} {obj : Name → Option O} {m : Mem} {x : D} {i : Nat} {u : Value} (w : World)
    (hx : RepD φ obj m x u) (hok : (aExtract obj x i).ok) :
    ∃ r, (Instr.extract u i).run P w = .ok r w ∧ RepD φ obj m (aExtract obj x i).d r ∧ (aExtract obj x i).obj = obj := by
  unfold aExtract at hok ⊢
  split at hok
  · rename_i l
    cases hx with
    | tup _ us hl hr =>
    have hi : i < l.length := hok
    refine ⟨us[i], ?_, by rw [getD_lt hi]; exact hr i hi (by omega), rfl⟩
    simp [Instr.extract, Array.getElem?_eq_getElem (show i < us.size by omega)]
  · rename_i l
    cases hx with
    | v _ _ hx =>
    cases hx with
    | tup _ us hl hr =>
    have hi : i < l.length := hok
    refine ⟨us[i], ?_, by rw [getD_lt hi]; exact .v _ _ (hr i hi (by omega)), rfl⟩
    simp [Instr.extract, Array.getElem?_eq_getElem (show i < us.size by omega)]
  · exact hok.elim

def aNilCheck (obj : Name → Option O) (x : D) : R :=
  match x with
  | .ref _ _ => ⟨True, x, obj⟩
  | .v (.ptr _) => ⟨True, x, obj⟩
  | .aref nm k _ _ => ⟨(obj nm).bind O.len? = some k, x, obj⟩
  | _ => .bad obj

theorem s_nilCheck {P : Program} {φ : Name → Loc} {obj : Name → Option O} {m : Mem} {x : D} {u : Value} {ρ : Operand → Value} {c : Operand} {o : Oper} (w : World)
    (hx : RepD φ obj m x u) (hok : (aNilCheck obj x).ok) (ho : o.op = .nilCheck c) (hc : ρ c = u) :
    (execOp ρ o).run P w = .ok (.value u) w ∧ RepD φ obj m (aNilCheck obj x).d u ∧ (aNilCheck obj x).obj = obj := by
  have hp : ∃ q, u = .pointer (some q) := by
    unfold aNilCheck at hok
    split at hok
    · cases hx; exact ⟨_, rfl⟩
    · cases hx with | v _ _ hx => cases hx; exact ⟨_, rfl⟩
    · cases hx with
      | aref _ _ _ _ _ hx hu =>
      obtain ⟨o', k', hnm, hlen, hk, hval⟩ := hx
      simp only [hnm, Option.bind_some, hlen, Option.some.injEq] at hok
      exact ⟨_, hval hok.symm⟩
    · exact hok.elim
  obtain ⟨q, hq⟩ := hp
  refine ⟨by subst hq; simp [execOp, ho, hc], ?_⟩
  unfold aNilCheck at hok ⊢
  split at hok
  · exact ⟨hx, rfl⟩
  · exact ⟨hx, rfl⟩
  · exact ⟨hx, rfl⟩
  · exact hok.elim

end Go.Eng
/- The engine's sixth text: what changes memory: freezing, new variables, structs and slices built, stores. -/
namespace Go.Eng
open Go

theorem Ext.new {φ : Name → Loc} {obj : Name → Option O} {nm : Name} (h : obj nm = none) (p : Loc) (o : O) : Ext φ (upd φ nm p) obj (upd obj nm (some o)) := by
  intro x o' hx
  have hne : x ≠ nm := fun e => by subst e; rw [h] at hx; cases hx
  exact ⟨o', by rw [upd_ne _ _ _ hne]; exact hx, .inl ⟨rfl, by rw [upd_ne _ _ _ hne], rfl⟩⟩
theorem Ext.same {φ : Name → Loc} {obj : Name → Option O} {nm : Name} {o o' : O} (h : obj nm = some o) (hl : o'.len? = o.len?) (hs : o'.sz = o.sz) :
    Ext φ (upd φ nm (φ nm)) obj (upd obj nm (some o')) := by
  intro x o1 hx
  by_cases hne : x = nm
  · subst hne
    rw [h] at hx; cases hx
    exact ⟨o', upd_same _ _ _, .inl ⟨hl, upd_same _ _ _, hs⟩⟩
  · exact ⟨o1, by rw [upd_ne _ _ _ hne]; exact hx, .inl ⟨rfl, by rw [upd_ne _ _ _ hne], rfl⟩⟩
theorem Ext.grow {φ : Name → Loc} {obj : Name → Option O} {nm : Name} {o o' : O} {n n' : Nat} (h : obj nm = some o) (hn : o.len? = some n) (hn' : o'.len? = some n') (hlt : n < n') (p : Loc) :
    Ext φ (upd φ nm p) obj (upd obj nm (some o')) := by
  intro x o1 hx
  by_cases hne : x = nm
  · subst hne
    rw [h] at hx; cases hx
    exact ⟨o', upd_same _ _ _, .inr ⟨n, n', hn, hn', hlt⟩⟩
  · exact ⟨o1, by rw [upd_ne _ _ _ hne]; exact hx, .inl ⟨rfl, by rw [upd_ne _ _ _ hne], rfl⟩⟩
theorem upd_id {α β : Type} [DecidableEq α] (f : α → β) (a : α) : upd f a (f a) = f := by
  funext x; unfold upd; split <;> simp_all

/-! freezing -/

structure FR where
  ok : Prop
  x : V
  obj : Name → Option O
structure FRL where
  ok : Prop
  xs : List V
  obj : Name → Option O

def frzL (f : (Name → Option O) → D → FR) (obj : Name → Option O) : List D → FRL
  | [] => ⟨True, [], obj⟩
  | d :: r => ⟨(f obj d).ok ∧ (frzL f (f obj d).obj r).ok, (f obj d).x :: (frzL f (f obj d).obj r).xs, (frzL f (f obj d).obj r).obj⟩

def frz : Nat → (Name → Option O) → D → FR
  | 0, obj, d => match d with
    | .v x => ⟨True, x, obj⟩
    | .nilsl => ⟨True, .sl [], obj⟩
    | _ => ⟨False, default, obj⟩
  | n + 1, obj, d => match d with
    | .v x => ⟨True, x, obj⟩
    | .nilsl => ⟨True, .sl [], obj⟩
    | .msl nm k => match obj nm with
      | some (.arr sz l) => ⟨k = l.length, .sl l, upd obj nm (some (.farr sz l))⟩
      | some (.farr _ l) => ⟨k = l.length, .sl l, obj⟩
      | _ => ⟨False, default, obj⟩
    | .ref nm off => match obj nm with
      | some (.box cs) => ⟨(frzL (frz n) obj cs).ok ∧ (frzL (frz n) obj cs).obj nm = some (.box cs), .ptr ((frzL (frz n) obj cs).xs.drop off),
          upd (frzL (frz n) obj cs).obj nm (some (.fbox (frzL (frz n) obj cs).xs))⟩
      | some (.fbox cs) => ⟨True, .ptr (cs.drop off), obj⟩
      | _ => ⟨False, default, obj⟩
    | .agg l => ⟨(frzL (frz n) obj l).ok, .agg (frzL (frz n) obj l).xs, (frzL (frz n) obj l).obj⟩
    | .tup l => ⟨(frzL (frz n) obj l).ok, .tup (frzL (frz n) obj l).xs, (frzL (frz n) obj l).obj⟩
    | .clo fn f c => ⟨(frzL (frz n) obj f).ok ∧ (frzL (frz n) (frzL (frz n) obj f).obj c).ok, .clo fn (frzL (frz n) obj f).xs (frzL (frz n) (frzL (frz n) obj f).obj c).xs,
        (frzL (frz n) (frzL (frz n) obj f).obj c).obj⟩
    | _ => ⟨False, default, obj⟩

/-- One object's block becomes memory that will not change. -/
theorem Conc.frz1 {G : Ghost} {φ : Name → Loc} {m : Mem} {σ : S} {a : Act} {w : World} (hC : Conc G φ m σ a w) (nm : Name) (o o' : O) (ho : σ.obj nm = some o) (hm : o.mut = true)
    (hnul : (φ nm).nul = false) (us : Array Value) (T : TypeId) (f : Nat × Nat) (hb : w.heap[(φ nm).blk]? = some (.cells us T f))
    (hl : o'.len? = o.len?) (hs : o'.sz = o.sz) (hm' : o'.mut = false)
    (hsat : ∀ m', Mem.le m m' → (∀ off c, us[off]? = some c → m' (φ nm).blk off = some c) → SatO φ (upd σ.obj nm (some o')) m' o' (φ nm) w) :
    ∃ m', Mem.le m m' ∧ Conc G φ m' { σ with obj := upd σ.obj nm (some o') } a w ∧ (∀ off c, us[off]? = some c → m' (φ nm).blk off = some c) := by
  have hh : holds φ σ.obj nm := ⟨o, ho, hm, hnul⟩
  let m' : Mem := fun b off => if b = (φ nm).blk then us[off]? else m b off
  have hle : Mem.le m m' := by
    intro b off v h
    show (if b = (φ nm).blk then us[off]? else m b off) = some v
    by_cases hb' : b = (φ nm).blk
    · subst hb'; rw [hC.apart nm hh off] at h; cases h
    · rw [if_neg hb']; exact h
  have hm1 : ∀ off c, us[off]? = some c → m' (φ nm).blk off = some c := fun off c h => by
    show (if (φ nm).blk = (φ nm).blk then us[off]? else m _ off) = some c
    rw [if_pos rfl]; exact h
  have hx : Ext φ φ σ.obj (upd σ.obj nm (some o')) := by
    have := Ext.same (φ := φ) (o' := o') ho hl hs
    rwa [upd_id] at this
  have hold : ∀ x, holds φ (upd σ.obj nm (some o')) x → x ≠ nm ∧ holds φ σ.obj x := by
    rintro x ⟨o1, h1, h2, h3⟩
    by_cases hne : x = nm
    · subst hne; rw [upd_same] at h1; cases h1; rw [hm'] at h2; cases h2
    · rw [upd_ne _ _ _ hne] at h1; exact ⟨hne, o1, h1, h2, h3⟩
  refine ⟨m', hle, ?_, hm1⟩
  constructor
  · exact fun t => (hC.tmps t).ext hle hx
  · exact hC.size
  · exact hC.defers
  · intro x o1 hx1
    simp only at hx1
    by_cases hne : x = nm
    · subst hne
      rw [upd_same] at hx1
      cases hx1
      exact hsat m' hle hm1
    · rw [upd_ne _ _ _ hne] at hx1
      exact (hC.objs x o1 hx1).ext hle hx fun _ _ => rfl
  · intro b off v h
    have h' : (if b = (φ nm).blk then us[off]? else m b off) = some v := h
    by_cases hb' : b = (φ nm).blk
    · subst hb'; rw [if_pos rfl] at h'; rw [cell?_of hb]; exact h'
    · rw [if_neg hb'] at h'; exact hC.mem _ _ _ h'
  · intro x hx' off
    obtain ⟨hne, h⟩ := hold x hx'
    show (if (φ x).blk = (φ nm).blk then us[off]? else m _ off) = none
    rw [if_neg fun e => hne (hC.inj _ _ h hh e)]
    exact hC.apart x h off
  · exact fun x y hx' hy e => hC.inj _ _ (hold x hx').2 (hold y hy).2 e
  · exact fun x hx' => hC.own x (hold x hx').2
  · exact hC.fr
  · intro b off v h
    have h' : (if b = (φ nm).blk then us[off]? else m b off) = some v := h
    by_cases hb' : b = (φ nm).blk
    · subst hb'; exact .inr (hC.own nm hh)
    · rw [if_neg hb'] at h'; exact hC.fresh _ _ _ h'
  · exact ⟨hC.kept.1, hC.kept.2.trans hx⟩

/-- A nil slice of its own is frozen for nothing. -/
theorem Conc.frzNil {G : Ghost} {φ : Name → Loc} {m : Mem} {σ : S} {a : Act} {w : World} (hC : Conc G φ m σ a w) (nm : Name) (sz : Nat) (ho : σ.obj nm = some (.arr sz []))
    (hnul : (φ nm).nul = true) : Conc G φ m { σ with obj := upd σ.obj nm (some (.farr sz [])) } a w := by
  have := hC.chg (w' := w) nm (.farr sz []) (φ nm) (Ext.same ho rfl rfl) ⟨rfl, rfl, rfl, Nat.le_refl _⟩ (fun _ _ _ => rfl) (fun h => by rw [hnul] at h; cases h) (.inl ⟨hnul, rfl⟩)
  rwa [upd_id] at this

def FrzOk (f : (Name → Option O) → D → FR) : Prop :=
  ∀ (G : Ghost) (φ : Name → Loc) (m : Mem) (σ : S) (a : Act) (w : World) (_ : Conc G φ m σ a w) (d : D) (u : Value) (_ : RepD φ σ.obj m d u) (_ : (f σ.obj d).ok),
    ∃ m', Mem.le m m' ∧ Conc G φ m' { σ with obj := (f σ.obj d).obj } a w ∧ Ext φ φ σ.obj (f σ.obj d).obj ∧ RepV m' (f σ.obj d).x u ∧ (d.one = true → (f σ.obj d).x.one = true)

theorem frzL_ok {f : (Name → Option O) → D → FR} (hf : FrzOk f) : ∀ (l : List D) {G : Ghost} {φ : Name → Loc} {m : Mem} {σ : S} {a : Act} {w : World} (_ : Conc G φ m σ a w) (us : List Value)
    (_ : l.length = us.length) (_ : ∀ i (h : i < l.length) (h' : i < us.length), RepD φ σ.obj m l[i] us[i]) (_ : (frzL f σ.obj l).ok),
    ∃ m', Mem.le m m' ∧ Conc G φ m' { σ with obj := (frzL f σ.obj l).obj } a w ∧ Ext φ φ σ.obj (frzL f σ.obj l).obj ∧ (frzL f σ.obj l).xs.length = l.length ∧
      (∀ i (h : i < (frzL f σ.obj l).xs.length) (h' : i < us.length), RepV m' (frzL f σ.obj l).xs[i] us[i]) ∧
      ((∀ d ∈ l, d.one = true) → ∀ x ∈ (frzL f σ.obj l).xs, x.one = true)
  | [], G, φ, m, σ, a, w, hC, us, hl, hr, hok => ⟨m, Mem.le_refl m, hC, Ext.refl _ _, rfl, fun i h => by simp [frzL] at h, fun _ x hx => by simp [frzL] at hx⟩
  | d :: r, G, φ, m, σ, a, w, hC, [], hl, hr, hok => by simp at hl
  | d :: r, G, φ, m, σ, a, w, hC, u :: us, hl, hr, hok => by
    obtain ⟨h1, h2⟩ := hok
    obtain ⟨m1, a1, a2, a3, a4, a5⟩ := hf _ _ _ _ _ _ hC _ _ (hr 0 (by simp) (by simp)) h1
    obtain ⟨m2, b1, b2, b3, b4, b5, b6⟩ := frzL_ok hf r (σ := { σ with obj := (f σ.obj d).obj }) a2 us (by simpa using hl)
      (fun i h h' => (hr (i + 1) (by simpa using h) (by simpa using h')).ext a1 a3) h2
    refine ⟨m2, Mem.le_trans a1 b1, b2, a3.trans b3, by simpa [frzL] using b4, fun i h h' => ?_, fun ho x hx => ?_⟩
    · cases i with
      | zero => exact a4.mono b1
      | succ i => simpa [frzL] using b5 i (by simpa [frzL] using h) (by simpa using h')
    · simp only [frzL, List.mem_cons] at hx
      rcases hx with rfl | hx
      · exact a5 (ho d (by simp))
      · exact b6 (fun d hd => ho d (by simp [hd])) x hx

theorem frz_ok : ∀ n, FrzOk (frz n)
  | 0 => by
    intro G φ m σ a w hC d u hd hok
    cases d with
    | v x => cases hd with | v _ _ h => exact ⟨m, Mem.le_refl m, hC, Ext.refl _ _, h, id⟩
    | nilsl => cases hd; exact ⟨m, Mem.le_refl m, hC, Ext.refl _ _, .slnil _ _, fun _ => rfl⟩
    | _ => exact hok.elim
  | n + 1 => by
    intro G φ m σ a w hC d u hd hok
    have ih := frz_ok n
    cases d with
    | v x => cases hd with | v _ _ h => exact ⟨m, Mem.le_refl m, hC, Ext.refl _ _, h, id⟩
    | nilsl => cases hd; exact ⟨m, Mem.le_refl m, hC, Ext.refl _ _, .slnil _ _, fun _ => rfl⟩
    | msl nm k =>
      cases hd with
      | msl _ _ _ hx hu =>
      obtain ⟨o, k', hnm, hlen, hk, hval⟩ := hx
      cases o with
      | arr sz l =>
        simp only [frz, hnm] at hok ⊢
        simp only [O.len?, Option.some.injEq] at hlen
        subst hlen
        have e := hval hok
        subst e
        have hx : Ext φ φ σ.obj (upd σ.obj nm (some (.farr sz l))) := by
          have := Ext.same (φ := φ) (o' := .farr sz l) hnm rfl rfl
          rwa [upd_id] at this
        rcases hC.objs nm _ hnm with ⟨h, h'⟩ | ⟨h0, h1, h2, h3, h4, us, T, f, h5, h6, h7, h8⟩
        · subst h'
          refine ⟨m, Mem.le_refl m, hC.frzNil nm sz hnm h, hx, ?_, fun _ => rfl⟩
          simp only [Loc.slice, h, if_true]
          exact .slnil _ _
        · have hsat : ∀ m', Mem.le m m' → (∀ off c, us[off]? = some c → m' (φ nm).blk off = some c) →
              ∀ i j (h : i < l.length) (h' : j < (l[i].cells).length), ∃ c, m' (φ nm).blk ((φ nm).off + i * sz + j) = some c ∧ RepV m' (l[i].cells)[j] c :=
            fun m' hle hm' i j a b => let ⟨c, x, y⟩ := h8 i j a b; ⟨c, hm' _ _ x, y.mono hle⟩
          obtain ⟨m', hle, hC', hm'⟩ := hC.frz1 nm (.arr sz l) (.farr sz l) hnm rfl h0 us T f h5 rfl rfl rfl
            (fun m' hle hm' => .inr ⟨h0, ⟨h1, by omega⟩, h3, h4, hsat m' hle hm'⟩)
          refine ⟨m', hle, hC', hx, ?_, fun _ => rfl⟩
          simp only [Loc.slice, h0, Bool.false_eq_true, if_false]
          rw [hok]
          by_cases hl : l = []
          · subst hl; exact .slnil _ _
          · refine .sl l _ _ _ sz (fun i j => (us[(φ nm).off + i * sz + j]?).getD undef) hl (by omega) h1 h3 (fun i j hi hj => ?_) (fun i j hi hj => ?_) h4
            · obtain ⟨c, x, y⟩ := h8 i j hi (by rw [h3]; exact hj)
              rw [x]; exact hm' _ _ x
            · obtain ⟨c, x, y⟩ := h8 i j hi hj
              rw [x]; exact y.mono hle
      | farr sz l =>
        simp only [frz, hnm] at hok ⊢
        simp only [O.len?, Option.some.injEq] at hlen
        subst hlen
        have e := hval hok
        subst e
        refine ⟨m, Mem.le_refl m, hC, Ext.refl _ _, ?_, fun _ => rfl⟩
        rcases hC.objs nm _ hnm with ⟨h, h'⟩ | ⟨h0, h1, h2, h3, h4⟩
        · subst h'
          simp only [Loc.slice, h, if_true]
          exact .slnil _ _
        · simp only [Loc.slice, h0, Bool.false_eq_true, if_false]
          rw [hok]
          by_cases hl : l = []
          · subst hl; exact .slnil _ _
          · refine .sl l _ _ _ sz (fun i j => (m (φ nm).blk ((φ nm).off + i * sz + j)).getD undef) hl h1.2 h1.1 h2 (fun i j hi hj => ?_) (fun i j hi hj => ?_) h3
            · obtain ⟨c, x, y⟩ := h4 i j hi (by rw [h2]; exact hj)
              rw [x]; rfl
            · obtain ⟨c, x, y⟩ := h4 i j hi hj
              rw [x]; exact y
      | box => simp [frz, hnm] at hok
      | map => simp [frz, hnm] at hok
      | fbox => simp [frz, hnm] at hok
      | loop => simp [frz, hnm] at hok
      | dead => first | (simp [frz, hnm] at hok; done) | (simp [O.len?] at hlen; done)
    | ref nm off =>
      cases hd with
      | ref _ _ hx =>
      obtain ⟨o, hnm, hlen⟩ := hx
      cases o with
      | box cs =>
        simp only [frz, hnm] at hok ⊢
        obtain ⟨hok1, hok2⟩ := hok
        obtain ⟨h0, h1, h1', us, T, f, h2, h3, h4, h5⟩ := hC.objs nm _ hnm
        obtain ⟨m1, a1, a2, a3, a4, a5, a6⟩ := frzL_ok ih cs hC us.toList (by simp [h4]) (fun i h h' => by simpa using h5 i h (by simpa using h')) hok1
        obtain ⟨m2, b1, b2, b3⟩ := a2.frz1 nm (.box cs) (.fbox (frzL (frz n) σ.obj cs).xs) hok2 rfl h1 us T f h2 rfl rfl rfl
          (fun m' hle hm' => ⟨a6 h1', fun i hi => by
            have hiu : i < us.size := by omega
            refine ⟨us[i], ?_, (a5 i hi (by simpa using hiu)).mono hle⟩
            rw [h0, Nat.zero_add]; exact hm' _ _ (Array.getElem?_eq_getElem hiu)⟩)
        refine ⟨m2, Mem.le_trans a1 b1, b2, a3.trans (by have := Ext.same (φ := φ) (o' := .fbox (frzL (frz n) σ.obj cs).xs) hok2 rfl rfl; rwa [upd_id] at this), ?_, fun _ => rfl⟩
        refine .ptr _ _ _ (fun j => (us[off + j]?).getD undef) (fun y hy => a6 h1' y (List.mem_of_mem_drop hy)) (fun j hj => ?_) fun j hj => ?_
        · simp only [List.length_drop] at hj
          have hju : off + j < us.size := by omega
          rw [h0, Nat.zero_add, Array.getElem?_eq_getElem hju]
          exact b3 _ _ (Array.getElem?_eq_getElem hju)
        · simp only [List.length_drop] at hj
          have hju : off + j < us.size := by omega
          simp only [List.getElem_drop, Array.getElem?_eq_getElem hju, Option.getD_some]
          have h9 := (a5 (off + j) (by omega) (by simpa using hju)).mono b1
          rw [Array.getElem_toList] at h9
          exact h9
      | fbox cs =>
        simp only [frz, hnm] at hok ⊢
        obtain ⟨h0, h1⟩ := hC.objs nm _ hnm
        refine ⟨m, Mem.le_refl m, hC, Ext.refl _ _, ?_, fun _ => rfl⟩
        refine .ptr _ _ _ (fun j => (m (φ nm).blk ((φ nm).off + off + j)).getD undef) (fun y hy => h0 y (List.mem_of_mem_drop hy)) (fun j hj => ?_) fun j hj => ?_
        · simp only [List.length_drop] at hj
          obtain ⟨c, h2, h3⟩ := h1 (off + j) (by omega)
          rw [Nat.add_assoc, h2]; rfl
        · simp only [List.length_drop] at hj
          obtain ⟨c, h2, h3⟩ := h1 (off + j) (by omega)
          rw [Nat.add_assoc, h2]
          simpa using h3
      | arr => simp [O.len?] at hlen
      | farr => simp [O.len?] at hlen
      | map => simp [frz, hnm] at hok
      | loop => simp [frz, hnm] at hok
      | dead => first | (simp [frz, hnm] at hok; done) | (simp [O.len?] at hlen; done)
    | agg l =>
      cases hd with
      | agg _ us hl ho hr =>
      simp only [frz] at hok ⊢
      obtain ⟨m1, a1, a2, a3, a4, a5, a6⟩ := frzL_ok ih l hC us.toList (by simpa using hl) (fun i h h' => by simpa using hr i h (by simpa using h')) hok
      exact ⟨m1, a1, a2, a3, .agg _ us (by rw [a4]; exact hl) (a6 ho) (fun i h h' => by have h9 := a5 i h (by simpa using h'); rw [Array.getElem_toList] at h9; exact h9), fun h => by simp [D.one] at h⟩
    | tup l =>
      cases hd with
      | tup _ us hl hr =>
      simp only [frz] at hok ⊢
      obtain ⟨m1, a1, a2, a3, a4, a5, a6⟩ := frzL_ok ih l hC us.toList (by simpa using hl) (fun i h h' => by simpa using hr i h (by simpa using h')) hok
      exact ⟨m1, a1, a2, a3, .tup _ us (by rw [a4]; exact hl) (fun i h h' => by have h9 := a5 i h (by simpa using h'); rw [Array.getElem_toList] at h9; exact h9), fun h => by simp [D.one] at h⟩
    | clo fn fs cs =>
      cases hd with
      | clo _ _ _ us vs h1 h2 hr1 hr2 =>
      simp only [frz] at hok ⊢
      obtain ⟨m1, a1, a2, a3, a4, a5, a6⟩ := frzL_ok ih fs hC us.toList (by simpa using h1) (fun i h h' => by simpa using hr1 i h (by simpa using h')) hok.1
      obtain ⟨m2, b1, b2, b3, b4, b5, b6⟩ := frzL_ok ih cs a2 vs.toList (by simpa using h2) (fun i h h' => by simpa using (hr2 i h (by simpa using h')).ext a1 a3) hok.2
      exact ⟨m2, Mem.le_trans a1 b1, b2, a3.trans b3, .clo fn _ _ us vs (by rw [a4]; exact h1) (by simpa using b4.trans h2) (fun i h h' => by have h9 := (a5 i h (by simpa using h')).mono b1; rw [Array.getElem_toList] at h9; exact h9)
        (fun i h h' => by have h9 := b5 i h (by simpa using h'); rw [Array.getElem_toList] at h9; exact h9), fun _ => rfl⟩
    | _ => exact hok.elim

end Go.Eng
/- The engine's seventh text: new variables, structs and slices built, stores. -/
namespace Go.Eng
open Go

/-- How an operation may leave things. -/
def Done (G : Ghost) (σ : S) (a : Act) (r : R) (v : Value) (w' : World) : Prop :=
  ∃ φ' m', Conc G φ' m' { σ with obj := r.obj } a w' ∧ RepD φ' r.obj m' r.d v

abbrev nmO (t : Name) : Name := t

def D.boxable : D → Bool
  | .any => false
  | .tup _ => false
  | .v (.tup _) => false
  | _ => true

theorem RepD.boxed {φ : Name → Loc} {obj : Name → Option O} {m : Mem} {d : D} {u : Value} (h : RepD φ obj m d u) (hb : d.boxable = true) : ∀ c ∈ d.cells, c.one = true := by
  cases h with
  | v x u h =>
    cases h with
    | agg l us hl ho hr => intro c hc; simp only [D.cells, List.mem_map] at hc; obtain ⟨y, hy, rfl⟩ := hc; exact ho y hy
    | tup => simp [D.boxable] at hb
    | _ => intro c hc; simp only [D.cells, List.mem_singleton] at hc; subst hc; rfl
  | agg l us hl ho hr => exact ho
  | any => simp [D.boxable] at hb
  | tup => simp [D.boxable] at hb
  | _ => intro c hc; simp only [D.cells, List.mem_singleton] at hc; subst hc; rfl
theorem D.boxable_any {d : D} (hb : d.boxable = true) : d ≠ .any := by rintro rfl; simp [D.boxable] at hb

def aBox (obj : Name → Option O) (t : Name) (x : D) : R :=
  ⟨obj (nmO t) = none ∧ x.boxable = true, .ref (nmO t) 0, upd obj (nmO t) (some (.box x.cells))⟩

theorem heap_push_lt {w : World} {o : Obj} {b : Nat} (h : b < w.heap.size) : ({ w with heap := w.heap.push o } : World).heap[b]? = w.heap[b]? := by
  show (w.heap.push o)[b]? = _
  rw [Array.getElem?_push, if_neg (by omega)]
theorem heap_push_new {w : World} {o : Obj} : ({ w with heap := w.heap.push o } : World).heap[w.heap.size]? = some o := by
  show (w.heap.push o)[w.heap.size]? = _
  simp

theorem box_done {G : Ghost} {φ : Name → Loc} {m : Mem} {σ : S} {a : Act} {w : World} (hC : Conc G φ m σ a w) {t : Name} {x : D} {u : Value} (T : TypeId)
    (hx : RepD φ σ.obj m x u) (hok : (aBox σ.obj t x).ok) :
    Done G σ a (aBox σ.obj t x) (.pointer (some ⟨w.heap.size, 0, none⟩)) { w with heap := w.heap.push (.cells u.cells T) } := by
  obtain ⟨h1, h2⟩ := hok
  have hx' := Ext.new (φ := φ) h1 ⟨w.heap.size, 0, 0, false, none⟩ (.box x.cells)
  have hne := D.boxable_any h2
  refine ⟨upd φ (nmO t) ⟨w.heap.size, 0, 0, false, none⟩, m, hC.chg (nmO t) (.box x.cells) ⟨w.heap.size, 0, 0, false, none⟩ hx' ⟨rfl, rfl, rfl, by simp⟩
    (fun b hb _ => heap_push_lt hb) (fun _ => .inl (Nat.le_refl _)) ?_, ?_⟩
  · exact ⟨rfl, rfl, hx.boxed h2, u.cells, T, (0, 0), heap_push_new, rfl, (hx.cells hne).symm, fun i h h' => (hx.cell hne i h h').ext (Mem.le_refl m) hx'⟩
  · have := RepD.ref (φ := upd φ (nmO t) ⟨w.heap.size, 0, 0, false, none⟩) (obj := upd σ.obj (nmO t) (some (.box x.cells))) (m := m) (nmO t) 0 ⟨_, upd_same _ _ _, rfl⟩
    rwa [upd_same] at this

theorem s_box {P : Program} {G : Ghost} {φ : Name → Loc} {m : Mem} {σ : S} {a : Act} {w : World} (hC : Conc G φ m σ a w) {t : Name} {T : TypeId} {x : D} {u : Value}
    (hx : RepD φ σ.obj m x u) (hok : (aBox σ.obj t x).ok) :
    ∃ v w', (Instr.box T u).run P w = .ok v w' ∧ Done G σ a (aBox σ.obj t x) v w' :=
  ⟨_, _, rfl, box_done hC T hx hok⟩

def aAlloc (P : Program) (obj : Name → Option O) (t : Name) (T : TypeId) : R :=
  match tZero P T with
  | some z => aBox obj t (ofVal z)
  | none => .bad obj

theorem run_zero {P : Program} {T : TypeId} {z : Value} (h : tZero P T = some z) (w : World) : (zeroValue T).run P w = .ok z w := by
  unfold tZero at h
  cases hi : P.info? T with
  | none => simp [hi] at h
  | some i => simp only [hi, Option.bind_some] at h; simp [zeroValue, typeInfo, hi, h]

theorem s_alloc {P : Program} {G : Ghost} {φ : Name → Loc} {m : Mem} {σ : S} {a : Act} {w : World} (hC : Conc G φ m σ a w) {t : Name} {T : TypeId}
    (hok : (aAlloc P σ.obj t T).ok) :
    ∃ v w', (Instr.alloc T true (.tuple #[])).run P w = .ok v w' ∧ Done G σ a (aAlloc P σ.obj t T) v w' := by
  unfold aAlloc at hok ⊢
  cases hz : tZero P T with
  | none => rw [hz] at hok; exact hok.elim
  | some z =>
    rw [hz] at hok
    refine ⟨_, _, ?_, box_done hC T (ofVal_rep z) hok⟩
    simp only [Instr.alloc, Sem.run_bind, run_zero hz, Result.andThen_ok]
    rfl

/-! structs -/

def setL {α : Type} (cs : List α) (off : Nat) (ds : List α) : List α := cs.take off ++ ds ++ cs.drop (off + ds.length)

theorem setL_len {α : Type} {cs ds : List α} {off : Nat} (h : off + ds.length ≤ cs.length) : (setL cs off ds).length = cs.length := by
  simp [setL]; omega
theorem setL_get {α : Type} {cs ds : List α} {off : Nat} (h : off + ds.length ≤ cs.length) (k : Nat) :
    (setL cs off ds)[k]? = if off ≤ k ∧ k < off + ds.length then ds[k - off]? else cs[k]? := by
  unfold setL
  by_cases h1 : k < off
  · rw [if_neg (by omega), List.append_assoc, List.getElem?_append_left (by simp; omega)]
    simp [List.getElem?_take, h1]
  · by_cases h2 : k < off + ds.length
    · rw [if_pos (by omega), List.append_assoc, List.getElem?_append_right (by simp; omega), List.getElem?_append_left (by simp; omega)]
      congr 1; simp; omega
    · rw [if_neg (by omega), List.getElem?_append_right (by simp; omega), List.getElem?_drop]
      congr 1; simp; omega

def fillD (place : Nat → Option (Nat × Nat)) : List D → List (Nat × D) → Option (List D)
  | cs, [] => some cs
  | cs, (i, d) :: r =>
    match place i with
    | none => none
    | some (off, size) => if d.boxable = true ∧ d.cells.length = size ∧ off + size ≤ cs.length then fillD place (setL cs off d.cells) r else none

theorem foldl_set (off : Nat) : ∀ (vs : List Value) (s : Nat) (cs : Array Value), off + s + vs.length ≤ cs.size →
    ((vs.zipIdx s).foldl (fun cs (c, j) => cs.setIfInBounds (off + j) c) cs).size = cs.size ∧
    ∀ k, ((vs.zipIdx s).foldl (fun cs (c, j) => cs.setIfInBounds (off + j) c) cs)[k]? = if off + s ≤ k ∧ k < off + s + vs.length then vs[k - (off + s)]? else cs[k]?
  | [], s, cs, _ => ⟨rfl, fun k => by rw [if_neg (by simp only [List.length_nil]; omega)]; rfl⟩
  | v :: vs, s, cs, h => by
    simp only [List.length_cons] at h
    obtain ⟨h1, h2⟩ := foldl_set off vs (s + 1) (cs.setIfInBounds (off + s) v) (by simp; omega)
    simp only [List.zipIdx_cons, List.foldl_cons]
    refine ⟨by rw [h1]; simp, fun k => ?_⟩
    rw [h2 k]
    by_cases hk : k = off + s
    · subst hk
      rw [if_neg (by omega), if_pos (by simp)]
      simp [show off + s < cs.size by omega]
    · rw [Array.getElem?_setIfInBounds_ne (fun e => hk e.symm)]
      by_cases hk2 : off + (s + 1) ≤ k ∧ k < off + (s + 1) + vs.length
      · rw [if_pos hk2, if_pos (by simp; omega)]
        have : k - (off + s) = (k - (off + (s + 1))) + 1 := by omega
        rw [this, List.getElem?_cons_succ]
      · rw [if_neg hk2, if_neg (by simp; omega)]

/-- A row of values reads as a row of data. -/
def RepL (φ : Name → Loc) (obj : Name → Option O) (m : Mem) (ds : List D) (us : Array Value) : Prop :=
  ds.length = us.size ∧ ∀ (k : Nat) (d : D) (u : Value), ds[k]? = some d → us[k]? = some u → RepD φ obj m d u

theorem fill_run {φ : Name → Loc} {obj : Name → Option O} {m : Mem} (place : Nat → Option (Nat × Nat)) : ∀ (parts : List (Nat × D)) (vals : List (Nat × Value)) (cs : List D) (us : Array Value) (cs' : List D),
    parts.map (·.1) = vals.map (·.1) → (∀ (k : Nat) (p : Nat × D) (q : Nat × Value), parts[k]? = some p → vals[k]? = some q → RepD φ obj m p.2 q.2) → RepL φ obj m cs us → (∀ d ∈ cs, d.one = true) → fillD place cs parts = some cs' →
    ∃ us', Instr.fill place us vals = some us' ∧ RepL φ obj m cs' us' ∧ (∀ d ∈ cs', d.one = true)
  | [], vals, cs, us, cs', he, hr, hl, ho, hf => by
    cases vals with
    | nil => simp only [fillD, Option.some.injEq] at hf; subst hf; exact ⟨us, rfl, hl, ho⟩
    | cons => simp at he
  | (i, d) :: parts, vals, cs, us, cs', he, hr, hl, ho, hf => by
    cases vals with
    | nil => simp at he
    | cons q vals =>
      obtain ⟨i', u⟩ := q
      simp only [List.map_cons, List.cons.injEq] at he
      obtain ⟨rfl, he⟩ := he
      simp only [fillD] at hf
      cases hp : place i with
      | none => simp [hp] at hf
      | some p =>
        obtain ⟨off, size⟩ := p
        simp only [hp] at hf
        split at hf
        · rename_i hc
          obtain ⟨hb, hs, hle⟩ := hc
          have hd : RepD φ obj m d u := hr 0 (i, d) (i, u) rfl rfl
          have hne := D.boxable_any hb
          have hcells := hd.cells hne
          have hsz : us.size = cs.length := hl.1.symm
          have hul : u.cells.toList.length = d.cells.length := by simp [hcells]
          obtain ⟨g1, g2⟩ := foldl_set off u.cells.toList 0 us (by rw [hul]; omega)
          have hle' : off + d.cells.length ≤ cs.length := by omega
          obtain ⟨us', k1, k2, k3⟩ := fill_run place parts vals (setL cs off d.cells) (((u.cells.toList.zipIdx 0).foldl (fun cs (c, j) => cs.setIfInBounds (off + j) c) us)) cs' he
            (fun k p q hp hq => hr (k + 1) p q (by simpa using hp) (by simpa using hq))
            (by
              refine ⟨by rw [setL_len hle', g1, hsz], fun k d' u' hk hk' => ?_⟩
              rw [setL_get hle'] at hk
              rw [g2] at hk'
              simp only [Nat.add_zero, hul] at hk'
              by_cases hk2 : off ≤ k ∧ k < off + d.cells.length
              · rw [if_pos hk2] at hk hk'
                obtain ⟨a1, a2⟩ := List.getElem?_eq_some_iff.1 hk
                obtain ⟨b1, b2⟩ := List.getElem?_eq_some_iff.1 hk'
                rw [Array.getElem_toList] at b2
                rw [← a2, ← b2]
                exact hd.cell hne _ a1 (by simpa using b1)
              · rw [if_neg hk2] at hk hk'
                exact hl.2 k d' u' hk hk')
            (by
              intro c hc
              obtain ⟨k, hk⟩ := List.mem_iff_getElem?.1 hc
              rw [setL_get hle'] at hk
              split at hk
              · exact hd.boxed hb c (List.mem_of_getElem? hk)
              · exact ho c (List.mem_of_getElem? hk)) hf
          refine ⟨us', ?_, k2, k3⟩
          simp only [Instr.fill, hp]
          rw [if_neg (by simp; omega)]
          have hz : u.cells.toList.zipIdx 0 = (u.cells.zipIdx).toList := by simp
          rw [← Array.foldl_toList, ← hz]
          exact k1
        · cases hf

/-- Where a struct's, or an array's, parts lie. -/
def tPlaces (P : Program) (t : TypeId) : Option (List (Nat × Nat)) :=
  match P.underlying t with
  | some (.struct fs) => fs.toList.mapM fun f => (P.info? f.type).map fun i => (f.offset, i.size)
  | some (.array n e) => (P.info? e).map fun i => (List.range n).map fun j => (j * i.size, i.size)
  | _ => none

def aBuild (P : Program) (obj : Name → Option O) (T : TypeId) (parts : List (Nat × D)) : R :=
  match tPlaces P T, tZero P T with
  | some ps, some z => match ofVal z with
    | .agg cs => match fillD (fun i => ps[i]?) cs parts with
      | some cs' => ⟨True, .agg cs', obj⟩
      | none => .bad obj
    | _ => .bad obj
  | _, _ => .bad obj

theorem fill_arr_places {n sz : Nat} : ∀ (vals : List (Nat × Value)) (us us' : Array Value),
    Instr.fill (fun i => ((List.range n).map fun j => (j * sz, sz))[i]?) us vals = some us' → Instr.fill (fun i => some (i * sz, sz)) us vals = some us'
  | [], us, us', h => h
  | (i, v) :: r, us, us', h => by
    simp only [Instr.fill] at h ⊢
    split at h
    · cases h
    · rename_i off size hp
      simp only [List.getElem?_map, Option.map_eq_some_iff] at hp
      obtain ⟨j, hj, hp⟩ := hp
      have : j = i := by
        obtain ⟨a1, a2⟩ := List.getElem?_eq_some_iff.1 hj
        simpa using a2.symm
      subst this
      simp only [Prod.mk.injEq] at hp
      obtain ⟨rfl, rfl⟩ := hp
      split at h
      · cases h
      · rename_i hc
        rw [if_neg hc]
        exact fill_arr_places r _ us' h

theorem s_build {P : Program} {φ : Name → Loc} {obj : Name → Option O} {m : Mem} {T : TypeId} {parts : List (Nat × D)} {vals : Array (Nat × Value)} (w : World)
    (he : parts.map (·.1) = vals.toList.map (·.1)) (hr : ∀ (k : Nat) (p : Nat × D) (q : Nat × Value), parts[k]? = some p → vals.toList[k]? = some q → RepD φ obj m p.2 q.2) (hok : (aBuild P obj T parts).ok) :
    ∃ v, (Instr.build T vals).run P w = .ok v w ∧ RepD φ obj m (aBuild P obj T parts).d v ∧ (aBuild P obj T parts).obj = obj := by
  unfold aBuild at hok ⊢
  split at hok
  · rename_i ps z hps hz
    split at hok
    · rename_i cs hcs
      split at hok
      · rename_i cs' hf
        have hzr : RepD φ obj m (ofVal z) z := ofVal_rep z
        rw [hcs] at hzr
        cases hzr with
        | agg _ us hl ho hrz =>
        obtain ⟨us', h1, h2, h3⟩ := fill_run (fun i => ps[i]?) parts vals.toList cs us cs' he hr
          ⟨hl, fun k d u hd hu => by
            obtain ⟨a1, a2⟩ := List.getElem?_eq_some_iff.1 hd
            obtain ⟨b1, b2⟩ := Array.getElem?_eq_some_iff.1 hu
            rw [← a2, ← b2]; exact hrz k a1 b1⟩ ho hf
        refine ⟨.agg us', ?_, ?_, by simp [hps, hz, hcs, hf]⟩
        · refine run_build w T vals us' ?_
          unfold tPlaces at hps
          unfold tZero at hz
          unfold Program.built
          cases hit : P.info? T with
          | none => simp [hit] at hz
          | some it =>
            simp only [hit, Option.bind_some] at hz
            split at hps
            · rename_i fs hu
              simp only [hu, hz, hps, Value.cells]
              simpa using h1
            · rename_i n e hu
              simp only [Option.map_eq_some_iff] at hps
              obtain ⟨i, hi, hps⟩ := hps
              subst hps
              simp only [hu, hz, hi, Value.cells]
              exact fill_arr_places _ _ _ h1
            · cases hps
        · simp only [hps, hz, hcs, hf]
          refine .agg _ _ h2.1 h3 fun i a b => h2.2 i _ _ (List.getElem?_eq_getElem a) (Array.getElem?_eq_getElem b)
      · exact hok.elim
    · exact hok.elim
  · exact hok.elim

end Go.Eng
/- The engine's eighth text: slices built, stores, makes. -/
namespace Go.Eng
open Go

def V.okc : V → Bool
  | .tup _ => false
  | _ => true
theorem RepV.ones {m : Mem} {x : V} {u : Value} (h : RepV m x u) (hb : x.okc = true) : ∀ c ∈ x.cells, c.one = true := by
  cases h with
  | agg l us hl ho hr => exact ho
  | tup => simp [V.okc] at hb
  | _ => intro c hc; simp only [V.cells, List.mem_singleton] at hc; subst hc; rfl

/-- A new block that will not change. -/
theorem Conc.immNew {G : Ghost} {φ : Name → Loc} {m : Mem} {σ : S} {a : Act} {w : World} (hC : Conc G φ m σ a w) (us : Array Value) (T : TypeId) :
    ∃ m', Mem.le m m' ∧ Conc G φ m' σ a { w with heap := w.heap.push (.cells us T) } ∧ ∀ (off : Nat) (c : Value), us[off]? = some c → m' w.heap.size off = some c := by
  let m' : Mem := fun b off => if b = w.heap.size then us[off]? else m b off
  have hle : Mem.le m m' := by
    intro b off v h
    show (if b = w.heap.size then us[off]? else m b off) = some v
    rw [if_neg (by have := cell?_lt (hC.mem _ _ _ h); omega)]; exact h
  refine ⟨m', hle, ?_, fun off c h => by show (if w.heap.size = w.heap.size then us[off]? else m _ off) = some c; rw [if_pos rfl]; exact h⟩
  refine hC.imm hle ⟨rfl, rfl, rfl, by simp⟩ (fun b hb => heap_push_lt hb) fun b off v h => ?_
  have h' : (if b = w.heap.size then us[off]? else m b off) = some v := h
  by_cases hb : b = w.heap.size
  · subst hb
    rw [if_pos rfl] at h'
    refine .inr ⟨Nat.le_refl _, ?_⟩
    rw [cell?_of (T := T) (f := (0, 0)) heap_push_new]; exact h'
  · rw [if_neg hb] at h'; exact .inl h'

theorem fill_consec (sz : Nat) : ∀ (vals : List (Nat × Value)) (s : Nat) (us : Array Value), vals.map (·.1) = (List.range vals.length).map (s + ·) →
    (∀ q ∈ vals, q.2.cells.size = sz) → (s + vals.length) * sz ≤ us.size →
    ∃ us', Instr.fill (fun i => some (i * sz, sz)) us vals = some us' ∧ us'.size = us.size ∧ (∀ k, k < s * sz → us'[k]? = us[k]?) ∧
      ∀ (i j : Nat) (h : i < vals.length), j < sz → us'[(s + i) * sz + j]? = vals[i].2.cells[j]?
  | [], s, us, _, _, _ => ⟨us, rfl, rfl, fun _ _ => rfl, fun i j h => by simp at h⟩
  | (i0, v) :: r, s, us, he, hs, hl => by
    have he0 : i0 = s := by
      have := congrArg (·[0]?) he
      simpa using this
    subst he0
    have hv : v.cells.size = sz := hs (i0, v) (by simp)
    have hmul : (i0 + 1 + r.length) * sz = i0 * sz + sz + r.length * sz := by rw [Nat.add_mul, Nat.add_mul, Nat.one_mul]
    simp only [List.length_cons] at hl
    have hl' : i0 * sz + sz + r.length * sz ≤ us.size := by rw [← hmul]; rw [show i0 + 1 + r.length = i0 + (r.length + 1) by omega]; exact hl
    obtain ⟨g1, g2⟩ := foldl_set (i0 * sz) v.cells.toList 0 us (by simp [hv]; omega)
    obtain ⟨us', k1, k2, k3, k4⟩ := fill_consec sz r (i0 + 1) ((v.cells.toList.zipIdx 0).foldl (fun cs (c, j) => cs.setIfInBounds (i0 * sz + j) c) us)
      (by
        have h1 : (List.range (r.length + 1)) = 0 :: (List.range r.length).map (· + 1) := by rw [List.range_succ_eq_map]
        simp only [List.map_cons, List.length_cons, h1, List.map_map, List.cons.injEq] at he
        rw [he.2]
        apply List.map_congr_left
        intro x _
        simp; omega)
      (fun q hq => hs q (by simp [hq])) (by rw [g1, hmul]; exact hl')
    refine ⟨us', ?_, by rw [k2, g1], fun k hk => ?_, fun i j hi hj => ?_⟩
    · simp only [Instr.fill]
      rw [if_neg (by simp [hv]; omega)]
      have hz : v.cells.toList.zipIdx 0 = (v.cells.zipIdx).toList := by simp
      rw [← Array.foldl_toList, ← hz]
      exact k1
    · rw [k3 k (by rw [Nat.add_mul, Nat.one_mul]; omega), g2, if_neg (by simp only [Nat.add_zero]; omega)]
    · cases i with
      | zero =>
        simp only [Nat.add_zero, List.getElem_cons_zero]
        rw [k3 _ (by rw [Nat.add_mul, Nat.one_mul]; omega), g2]
        rw [if_pos (by simp only [Nat.add_zero, Array.length_toList, hv]; omega)]
        simp only [Nat.add_zero, Nat.add_sub_cancel_left, Array.getElem?_toList]
      | succ i =>
        simp only [List.length_cons] at hi
        have := k4 i j (by omega) hj
        rw [show i0 + (i + 1) = i0 + 1 + i by omega]
        simpa using this

def aBuildSlice (P : Program) (obj : Name → Option O) (T : TypeId) (n : Nat) (parts : List (Nat × D)) : R :=
  match tElem P T with
  | some (e, sz, _) =>
    if n = 0 ∧ parts = [] then ⟨(tZero P e).isSome = true, .nilsl, obj⟩
    else ⟨parts.map (·.1) = List.range n ∧ (frzL (frz 4) obj (parts.map (·.2))).ok ∧ (∀ x ∈ (frzL (frz 4) obj (parts.map (·.2))).xs, x.cells.length = sz ∧ x.okc = true) ∧
        n * sz ≤ 16777216 ∧ sz ≠ 0 ∧ (tZero P e).isSome = true ∧ 0 < n, .v (.sl (frzL (frz 4) obj (parts.map (·.2))).xs), (frzL (frz 4) obj (parts.map (·.2))).obj⟩
  | none => .bad obj

theorem s_buildSlice {P : Program} {G : Ghost} {φ : Name → Loc} {m : Mem} {σ : S} {a : Act} {w : World} (hC : Conc G φ m σ a w) {T : TypeId} {n : Nat} {parts : List (Nat × D)} {vals : Array (Nat × Value)}
    (he : parts.map (·.1) = vals.toList.map (·.1)) (hr : ∀ (k : Nat) (p : Nat × D) (q : Nat × Value), parts[k]? = some p → vals.toList[k]? = some q → RepD φ σ.obj m p.2 q.2)
    (hok : (aBuildSlice P σ.obj T n parts).ok) :
    ∃ v w', (Instr.buildSlice T n vals).run P w = .ok v w' ∧ Done G σ a (aBuildSlice P σ.obj T n parts) v w' := by
  unfold aBuildSlice at hok ⊢
  split at hok
  · rename_i e sz by_ hT
    obtain ⟨hu, i, hi, hs, _⟩ := tElem_spec hT
    have hsize : (sizeOf e).run P w = .ok sz w := by simp [sizeOf, typeInfo, hi, hs]
    split at hok
    · rename_i hc
      obtain ⟨rfl, rfl⟩ := hc
      have hv : vals = #[] := by
        have : vals.toList = [] := by simpa using he.symm
        simpa using this
      subst hv
      obtain ⟨m', h1, h2, h3⟩ := hC.immNew #[] e
      refine ⟨.slice (some ⟨w.heap.size, 0, none⟩) 0 0, { w with heap := w.heap.push (.cells #[] e) }, ?_, ?_⟩
      · simp only [Instr.buildSlice, Sem.run_bind, run_underlying hu, Result.andThen_ok, hsize]
        simp [Instr.fill, newRow, Array.range_zero']
      · simp only [hT]
        rw [if_pos (by simp)]
        exact ⟨φ, m', h2, .nilsl _⟩
    · rename_i hc
      obtain ⟨h1, h2, h3, h4, h5, h6, h7⟩ := hok
      obtain ⟨z, hz⟩ := Option.isSome_iff_exists.1 h6
      have hlen : vals.toList.length = n := by
        have := congrArg List.length (he.symm.trans h1)
        simpa using this
      have hplen : parts.length = n := by
        have := congrArg List.length h1
        simpa using this
      obtain ⟨m1, a1, a2, a3, a4, a5, _⟩ := frzL_ok (frz_ok 4) (parts.map (·.2)) hC (vals.toList.map (·.2)) (by simp [hplen]; simpa using hlen.symm)
        (fun k h h' => by
          simp only [List.length_map] at h h'
          simp only [List.getElem_map]
          exact hr k _ _ (List.getElem?_eq_getElem h) (List.getElem?_eq_getElem h')) h2
      have a4' : (frzL (frz 4) σ.obj (parts.map (·.2))).xs.length = n := by rw [a4]; simpa using hplen
      obtain ⟨us', b1, b2, b3, b4⟩ := fill_consec sz vals.toList 0 ((Array.range (n * sz)).map (z.cells[· % z.cells.size]!))
        (by rw [← he, h1, hlen]; simp)
        (fun q hq => by
          obtain ⟨k, hk, rfl⟩ := List.mem_iff_getElem.1 hq
          have h8 := a5 k (by rw [a4']; omega) (by simpa using hk)
          have h9 := (h3 _ (List.getElem_mem (show k < _ by rw [a4']; omega))).1
          rw [← h9]
          simpa using h8.cells.symm) (by simp [hlen])
      obtain ⟨m2, c1, c2, c3⟩ := a2.immNew us' e
      refine ⟨.slice (some ⟨w.heap.size, 0, none⟩) n n, { w with heap := w.heap.push (.cells us' e) }, ?_, ?_⟩
      · simp only [Instr.buildSlice, Sem.run_bind, run_underlying hu, Result.andThen_ok, hsize]
        have hne : ¬ n * sz = 0 := by have := Nat.mul_pos h7 (Nat.pos_of_ne_zero h5); omega
        simp only [Sem.run_ite, Sem.run_bind, if_neg hne, run_zero hz, Result.andThen_ok, Sem.run_pure, b1, if_neg (show ¬ n * sz > 2 ^ 24 by omega)]
        rfl
      · rw [if_neg hc]
        refine ⟨φ, m2, c2, .v _ _ ?_⟩
        have hsl := RepV.sl (m := m2) (frzL (frz 4) σ.obj (parts.map (·.2))).xs w.heap.size 0 n sz (fun i j => (us'[i * sz + j]?).getD undef)
          (fun e0 => by rw [e0] at a4'; simp at a4'; omega) (by rw [a4']; unfold maxLen; have := Nat.le_mul_of_pos_right n (Nat.pos_of_ne_zero h5); omega) (by rw [a4']; exact Nat.le_refl _)
          (fun i hi => (h3 _ (List.getElem_mem hi)).1)
          (fun i j hi hj => by
            have hi' : i < vals.toList.length := by omega
            have := b4 i j hi' hj
            simp only [Nat.zero_add] at this
            have hcs : j < vals.toList[i].2.cells.size := by
              have h8 := a5 i hi (by simpa using hi')
              have h9 := (h3 _ (List.getElem_mem hi)).1
              have := h8.cells
              simp only [List.getElem_map] at this
              omega
            rw [Array.getElem?_eq_getElem hcs] at this
            rw [this]
            simp only [Option.getD_some]
            rw [Nat.zero_add]
            exact c3 _ _ this)
          (fun i j hi hj => by
            have hi' : i < vals.toList.length := by omega
            have h9 := (h3 _ (List.getElem_mem hi)).1
            have := b4 i j hi' (by omega)
            simp only [Nat.zero_add] at this
            have h8 := a5 i hi (by simpa using hi')
            have hcs : j < vals.toList[i].2.cells.size := by
              have := h8.cells
              simp only [List.getElem_map] at this
              omega
            rw [Array.getElem?_eq_getElem hcs] at this
            rw [this]
            simp only [Option.getD_some]
            have h10 := (h8.mono c1).cell j hj (by simpa using hcs)
            simpa using h10)
          (fun i hi x hx => by
            have hi' : i < vals.toList.length := by omega
            exact (a5 i hi (by simpa using hi')).ones (h3 _ (List.getElem_mem hi)).2 x hx)
        rw [a4'] at hsl
        exact hsl
  · exact hok.elim

/-! stores -/

def aStore (P : Program) (obj : Name → Option O) (T : TypeId) (x d : D) : R :=
  match tAgg P T, x with
  | some (_, n), .ref nm off => match obj nm with
    | some (.box cs) => ⟨d.boxable = true ∧ d.cells.length = n ∧ off + n ≤ cs.length, .any, upd obj nm (some (.box (setL cs off d.cells)))⟩
    | _ => .bad obj
  | some (_, n), .aref nm k i off => match obj nm, asV d with
    | some (.arr sz l), some y => ⟨k = l.length ∧ i < l.length ∧ y.cells.length = n ∧ y.okc = true ∧ off + n ≤ sz ∧ sz ≠ 0, .any,
        upd obj nm (some (.arr sz (l.set i (if off = 0 ∧ n = sz then y else .agg (setL (l.getD i default).cells off y.cells)))))⟩
    | _, _ => .bad obj
  | _, _ => .bad obj

theorem tAgg_size {P : Program} {T : TypeId} {b : Bool} {n : Nat} (h : tAgg P T = some (b, n)) : ∃ i, P.info? T = some i ∧ i.size = n := by
  unfold tAgg at h
  split at h
  · rename_i d i h1 h2
    simp only [Option.some.injEq, Prod.mk.injEq] at h
    exact ⟨i, h2, h.2⟩
  · cases h

theorem oneC_of {u : Value} : (∀ c ∈ u.cells.toList, oneC c = true) ↔ ∀ (k : Nat) (h : k < u.cells.size), oneC u.cells[k] = true := by
  constructor
  · intro h k hk; exact h _ (by simp)
  · intro h c hc
    obtain ⟨k, hk, rfl⟩ := List.mem_iff_getElem.1 hc
    simpa using h k (by simpa using hk)

theorem s_store {P : Program} {G : Ghost} {φ : Name → Loc} {m : Mem} {σ : S} {a : Act} {w : World} (hC : Conc G φ m σ a w) {T : TypeId} {x d : D} {u v : Value}
    (hx : RepD φ σ.obj m x u) (hd : RepD φ σ.obj m d v) (hok : (aStore P σ.obj T x d).ok) :
    ∃ w', (Instr.storeAt T u v).run P w = .ok () w' ∧ ∃ φ' m', Conc G φ' m' { σ with obj := (aStore P σ.obj T x d).obj } a w' := by
  unfold aStore at hok ⊢
  split at hok
  · rename_i ag n nm off hT
    cases hx with
    | ref _ _ hx =>
    split at hok
    · rename_i cs hnm
      obtain ⟨h1, h2, h3⟩ := hok
      simp only [hT, hnm]
      have hne := D.boxable_any h1
      have hcells := hd.cells hne
      obtain ⟨g0, g1, g1', us, T', f, g2, g3, g4, g5⟩ := hC.objs nm _ hnm
      have hblk : (φ nm).blk < w.heap.size := (Array.getElem?_eq_some_iff.1 g2).1
      have hone : ∀ c ∈ v.cells.toList, oneC c = true := by
        rw [oneC_of]
        intro k hk
        exact (hd.cell hne k (by omega) hk).one (hd.boxed h1 _ (List.getElem_mem _))
      obtain ⟨us', k1, k2, k3⟩ := run_storeVar_run hT g3 g2 v (by omega) (o := off) (by omega) hone
      have hle : off + d.cells.length ≤ cs.length := by omega
      have hx' := Ext.same (φ := φ) (o' := .box (setL cs off d.cells)) hnm rfl rfl
      refine ⟨_, by simpa [Instr.storeAt, Instr.sureAddr, g0] using k3, φ, m, ?_⟩
      have := hC.chg (w' := wset w (φ nm).blk (.cells us' T' f)) nm (.box (setL cs off d.cells)) (φ nm) hx' ⟨rfl, rfl, rfl, by simp [wset]⟩
        (fun b hb hn => wset_ne (by rcases hn with h | h; · rw [g1] at h; cases h
                                    · exact h))
        (fun _ => .inr ⟨⟨_, hnm, rfl, g1⟩, rfl⟩)
        ⟨g0, g1, fun c hc => by
            obtain ⟨k, hk⟩ := List.mem_iff_getElem?.1 hc
            rw [setL_get hle] at hk
            split at hk
            · exact hd.boxed h1 c (List.mem_of_getElem? hk)
            · exact g1' c (List.mem_of_getElem? hk), us', T', f, wset_same hblk, g3, by rw [k1, setL_len hle, g4],
          fun i h h' => by
            have e1 := List.getElem?_eq_getElem h
            have e2 := Array.getElem?_eq_getElem h'
            rw [setL_get hle] at e1
            rw [k2] at e2
            by_cases hk2 : off ≤ i ∧ i < off + d.cells.length
            · rw [if_pos hk2] at e1
              rw [if_pos (by omega)] at e2
              obtain ⟨a1, a2⟩ := List.getElem?_eq_some_iff.1 e1
              obtain ⟨b1, b2⟩ := List.getElem?_eq_some_iff.1 e2
              rw [Array.getElem_toList] at b2
              rw [← a2, ← b2]
              exact (hd.cell hne _ a1 (by simpa using b1)).ext (Mem.le_refl m) hx'
            · rw [if_neg hk2] at e1
              rw [if_neg (by omega)] at e2
              obtain ⟨a1, a2⟩ := List.getElem?_eq_some_iff.1 e1
              obtain ⟨b1, b2⟩ := Array.getElem?_eq_some_iff.1 e2
              rw [← a2, ← b2]
              exact (g5 _ a1 b1).ext (Mem.le_refl m) hx'⟩
      rwa [upd_id] at this
    · exact hok.elim
  · rename_i ag n nm k i off hT
    cases hx with
    | aref _ _ _ _ _ hx hu =>
    obtain ⟨o, k', hnm', hlen, hk, hval⟩ := hx
    split at hok
    · rename_i sz l y hnm hy
      rw [hnm'] at hnm; cases hnm
      obtain ⟨h1, h2, h3, h4, h5, h6⟩ := hok
      simp only [hT, hnm', hy]
      simp only [O.len?, Option.some.injEq] at hlen
      have e := hval (by omega)
      subst e
      have hyv := asV_rep hd hy
      have hones := hyv.ones h4
      have hcells := hyv.cells
      rcases hC.objs nm _ hnm' with ⟨_, hl⟩ | ⟨g0, g1, g2, g3, g4, us, T', f, g5, g6, g7, g8⟩
      · subst hl; simp at h2
      have hblk : (φ nm).blk < w.heap.size := (Array.getElem?_eq_some_iff.1 g5).1
      have hmul : i * sz + sz ≤ (φ nm).cap * sz := by
        have : (i + 1) * sz ≤ (φ nm).cap * sz := Nat.mul_le_mul_right _ (by omega)
        rwa [Nat.add_mul, Nat.one_mul] at this
      have hone : ∀ c ∈ v.cells.toList, oneC c = true := by
        rw [oneC_of]
        intro q hq
        exact (hyv.cell q (by omega) hq).one (hones _ (List.getElem_mem _))
      obtain ⟨us', k1, k2, k3⟩ := run_storeVar_run hT g6 g5 v (by omega) (o := (φ nm).off + i * sz + off) (by omega) hone
      refine ⟨_, by simpa [Instr.storeAt, Instr.sureAddr, O.sz] using k3, φ, m, ?_⟩
      generalize hz : (if off = 0 ∧ n = sz then y else V.agg (setL (l.getD i default).cells off y.cells)) = z
      have hli : (l.getD i default).cells.length = sz := by rw [getD_lt h2]; exact g3 i h2
      have hzc : z.cells = setL (l.getD i default).cells off y.cells := by
        subst hz
        split
        · rename_i hc
          have e1 : (l.getD i default).cells.drop (0 + y.cells.length) = [] := List.drop_eq_nil_of_le (by omega)
          rw [hc.1]
          unfold setL
          rw [e1]
          simp
        · rfl
      have hle : off + y.cells.length ≤ (l.getD i default).cells.length := by omega
      have hzlen : z.cells.length = sz := by rw [hzc, setL_len hle, hli]
      have hzone : ∀ c ∈ z.cells, c.one = true := by
        intro c hc
        rw [hzc] at hc
        obtain ⟨q, hq⟩ := List.mem_iff_getElem?.1 hc
        rw [setL_get hle] at hq
        split at hq
        · exact hones c (List.mem_of_getElem? hq)
        · rw [getD_lt h2] at hq; exact g4 i h2 c (List.mem_of_getElem? hq)
      have hx' := Ext.same (φ := φ) (o' := .arr sz (l.set i z)) hnm' (by simp [O.len?]) rfl
      have := hC.chg (w' := wset w (φ nm).blk (.cells us' T' f)) nm (.arr sz (l.set i z)) (φ nm) hx' ⟨rfl, rfl, rfl, by simp [wset]⟩
        (fun b hb hn => wset_ne (by rcases hn with h | h; · rw [g0] at h; cases h
                                    · exact h))
        (fun _ => .inr ⟨⟨_, hnm', rfl, g0⟩, rfl⟩)
        (.inr ⟨g0, by simpa using g1, g2, fun q hq => by
            rw [List.getElem_set]
            split
            · exact hzlen
            · exact g3 q (by simpa using hq),
          fun q hq => by
            rw [List.getElem_set]
            split
            · exact hzone
            · exact g4 q (by simpa using hq), us', T', f, wset_same hblk, g6, by rw [k1]; exact g7,
          fun q j hq hj => by
            have hq' : q < l.length := by simpa using hq
            by_cases hqi : i = q
            · subst hqi
              simp only [List.getElem_set, if_true] at hj ⊢
              have e1 := List.getElem?_eq_getElem hj
              have e2 : z.cells[j]? = (setL (l.getD i default).cells off y.cells)[j]? := by rw [hzc]
              rw [e2, setL_get hle] at e1
              rw [k2]
              by_cases hk2 : off ≤ j ∧ j < off + y.cells.length
              · rw [if_pos hk2] at e1
                rw [if_pos (by omega)]
                obtain ⟨a1, a2⟩ := List.getElem?_eq_some_iff.1 e1
                have hvs : j - off < v.cells.size := by omega
                refine ⟨v.cells[j - off], ?_, ?_⟩
                · have : (φ nm).off + i * sz + j - ((φ nm).off + i * sz + off) = j - off := by omega
                  rw [this, Array.getElem?_toList]; exact Array.getElem?_eq_getElem hvs
                · rw [← a2]; exact hyv.cell _ a1 hvs
              · rw [if_neg hk2] at e1
                rw [if_neg (by omega)]
                obtain ⟨a1, a2⟩ := List.getElem?_eq_some_iff.1 e1
                rw [← a2]
                have a1' : j < (l[i]).cells.length := by rw [getD_lt h2] at a1; exact a1
                obtain ⟨c, x1, x2⟩ := g8 i j h2 a1'
                refine ⟨c, x1, ?_⟩
                have e3 : (l.getD i default).cells[j] = (l[i]).cells[j] := by simp only [getD_lt h2]
                rw [e3]; exact x2
            · simp only [List.getElem_set, hqi, if_false] at hj ⊢
              obtain ⟨c, x1, x2⟩ := g8 q j hq' hj
              refine ⟨c, ?_, x2⟩
              rw [k2, if_neg ?_]
              · exact x1
              · have hjs : j < sz := by rw [← g3 q hq']; exact hj
                rintro ⟨b1, b2⟩
                rcases Nat.lt_or_gt_of_ne hqi with hlt | hgt
                · have : (i + 1) * sz ≤ q * sz := Nat.mul_le_mul_right _ (by omega)
                  rw [Nat.add_mul, Nat.one_mul] at this
                  omega
                · have : (q + 1) * sz ≤ i * sz := Nat.mul_le_mul_right _ (by omega)
                  rw [Nat.add_mul, Nat.one_mul] at this
                  omega⟩)
      rwa [upd_id] at this
    · exact hok.elim
  · exact hok.elim

/-! function values; makes -/

/-- A struct of two numbers, as a key. -/
def pairTy (P : Program) (k : TypeId) : Bool :=
  match P.underlying k with
  | some (.struct fs) => match fs.toList with
    | [f, g] => !P.stoodInHeld k && !(f.name == "_") && !(g.name == "_") && Nat.beq f.offset 0 && Nat.beq g.offset 1 &&
        decide (tInt P f.type = some .i64) && decide (tInt P g.type = some .i64) && decide (tAgg P f.type = some (false, 1)) && decide (tAgg P g.type = some (false, 1))
    | _ => false
  | _ => false
/-- A map. -/
def tMap (P : Program) (T : TypeId) : Option (Nat × TypeId) :=
  match P.underlying T with
  | some (.map k e) => match P.underlying k with
    | some (.int .i64) => some (0, e)
    | some .string => some (1, e)
    | some (.struct _) => if pairTy P k = true then some (2, e) else none
    | _ => none
  | _ => none

def aMakeMap (P : Program) (obj : Name → Option O) (t : Name) (T : TypeId) (reserve : Option D) : R :=
  match tMap P T, reserve with
  | some (kd, _), none => ⟨obj (nmO t) = none, .map (nmO t), upd obj (nmO t) (some (.map kd []))⟩
  | _, _ => .bad obj

theorem s_makeMap {P : Program} {G : Ghost} {φ : Name → Loc} {m : Mem} {σ : S} {a : Act} {w : World} (hC : Conc G φ m σ a w) {t : Name} {T : TypeId} {r : Option D} {ur : Option Value}
    (hr : r.isSome = ur.isSome) (hok : (aMakeMap P σ.obj t T r).ok) :
    ∃ v w', (Instr.makeMap T ur).run P w = .ok v w' ∧ Done G σ a (aMakeMap P σ.obj t T r) v w' := by
  unfold aMakeMap at hok ⊢
  split at hok
  · rename_i kd e hT
    cases ur with
    | some => simp at hr
    | none =>
    refine ⟨.map (some w.heap.size), { w with heap := w.heap.push (.map #[] 0) }, rfl, ?_⟩
    have hx' := Ext.new (φ := φ) hok ⟨w.heap.size, 0, 0, false, none⟩ (.map kd [])
    try simp only [hT]
    refine ⟨upd φ (nmO t) ⟨w.heap.size, 0, 0, false, none⟩, m, hC.chg (nmO t) (.map kd []) ⟨w.heap.size, 0, 0, false, none⟩ hx' ⟨rfl, rfl, rfl, by simp⟩
      (fun b hb _ => heap_push_lt hb) (fun _ => .inl (Nat.le_refl _)) ?_, ?_⟩
    · exact ⟨rfl, rfl, fun q hq => by simp at hq, #[], 0, heap_push_new, rfl, fun i h => by simp at h⟩
    · have := RepD.map (φ := upd φ (nmO t) ⟨w.heap.size, 0, 0, false, none⟩) (obj := upd σ.obj (nmO t) (some (.map kd []))) (m := m) (nmO t) ⟨_, upd_same _ _ _, rfl⟩
      rwa [upd_same] at this
  · exact hok.elim

def aMakeSlice (P : Program) (obj : Name → Option O) (t : Name) (T : TypeId) (l c : D) : R :=
  match tElem P T, l, c with
  | some (e, sz, by_), .v (.int _ n), .v (.int _ n') => match (tZero P e).bind fun z => asV (ofVal z) with
    | some zv => ⟨n' = n ∧ 0 ≤ n ∧ (by_ : Int) * n ≤ 281474976710656 ∧ n ≤ 9223372036854775807 ∧ zv.cells.length = sz ∧ zv.okc = true ∧ sz ≠ 0 ∧ obj (nmO t) = none,
        .msl (nmO t) n.toNat, upd obj (nmO t) (some (.arr sz (List.replicate n.toNat zv)))⟩
    | none => .bad obj
  | _, _, _ => .bad obj

theorem s_makeSlice {P : Program} {G : Ghost} {φ : Name → Loc} {m : Mem} {σ : S} {a : Act} {w : World} (hC : Conc G φ m σ a w) {t : Name} {T : TypeId} {l c : D} {ul uc : Value}
    (hl : RepD φ σ.obj m l ul) (hc : RepD φ σ.obj m c uc) (hok : (aMakeSlice P σ.obj t T l c).ok) :
    ∃ v w', (Instr.makeSlice T ul uc).run P w = .ok v w' ∧ Done G σ a (aMakeSlice P σ.obj t T l c) v w' := by
  unfold aMakeSlice at hok ⊢
  split at hok
  · rename_i e sz by_ kl n kc n' hT
    split at hok
    · rename_i zv hzv
      obtain ⟨h1, h2, h3, h4, h5, h6, h7, h8⟩ := hok
      subst h1
      simp only [hT, hzv]
      cases hl with
      | v _ _ hl =>
      cases hl
      cases hc with
      | v _ _ hc =>
      cases hc
      obtain ⟨hu, i, hi, hs, hb⟩ := tElem_spec hT
      cases hz : tZero P e with
      | none => simp [hz] at hzv
      | some z =>
      simp only [hz, Option.bind_some] at hzv
      have hzi : i.zero = some z := by unfold tZero at hz; simpa [hi] using hz
      have hzr : RepV m zv z := asV_rep (ofVal_rep (φ := φ) (obj := σ.obj) (m := m) z) hzv
      have hzs : z.cells.size = sz := by rw [← hzr.cells]; exact h5
      have hrun := run_make (P := P) w T e i z hu hi hzi kl kc n' n' h2 (Int.le_refl _) (by rw [hb]; exact h3) h4
      refine ⟨_, _, hrun, ?_⟩
      have hx' := Ext.new (φ := φ) h8 ⟨w.heap.size, 0, n'.toNat, false, none⟩ (.arr sz (List.replicate n'.toNat zv))
      refine ⟨upd φ (nmO t) ⟨w.heap.size, 0, n'.toNat, false, none⟩, m, hC.chg (nmO t) _ ⟨w.heap.size, 0, n'.toNat, false, none⟩ hx' ⟨rfl, rfl, rfl, by show w.heap.size ≤ (w.heap.push _).size; simp⟩
        (fun b hb _ => heap_push_lt hb) (fun _ => .inl (Nat.le_refl _)) ?_, ?_⟩
      · refine .inr ⟨rfl, by simp, by show n'.toNat ≤ maxLen; unfold maxLen; omega, fun q hq => by rw [List.getElem_replicate]; exact h5, fun q hq => by rw [List.getElem_replicate]; exact hzr.ones h6,
          madeCells z.cells (n'.toNat * i.size), e, (0, 0), heap_push_new, rfl, by rw [size_madeCells, hs]; simp, fun q j hq hj => ?_⟩
        simp only [List.length_replicate] at hq
        simp only [List.getElem_replicate] at hj ⊢
        have hjs : j < z.cells.size := by omega
        refine ⟨z.cells[j], ?_, hzr.cell j hj hjs⟩
        have hlt : q * sz + j < n'.toNat * sz := by
          have : (q + 1) * sz ≤ n'.toNat * sz := Nat.mul_le_mul_right _ (by omega)
          rw [Nat.add_mul, Nat.one_mul] at this; omega
        have hmod : (q * sz + j) % z.cells.size = j := by
          rw [hzs, Nat.mul_comm, Nat.mul_add_mod]
          exact Nat.mod_eq_of_lt (by omega)
        unfold madeCells
        rw [Nat.zero_add, hs]
        simp [hlt, hmod, hjs]
      · refine .msl _ _ _ ⟨_, _, upd_same _ _ _, rfl, by simp, fun _ => ?_⟩ rfl
        rw [upd_same]; rfl
    · exact hok.elim
  · exact hok.elim

end Go.Eng
