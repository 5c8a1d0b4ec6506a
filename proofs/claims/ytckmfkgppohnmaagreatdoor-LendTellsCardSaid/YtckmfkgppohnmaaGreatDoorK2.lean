import Derived.Test.YtckmfkgppohnmaaGreatDoorK1
import Derived.Deep.AppendSrc
import Derived.MapKept
import Derived.Laws.AppendOwn
import Derived.Lib.ConvBytes
import Derived.Laws.IdiomStrings
import Derived.OrdersIn
import Derived.RangeFuncLeaves
import Derived.RangeFuncRecord
import Derived.RangeFuncNested
/- Texts Eng9 to Eng12. -/
set_option linter.all false
/- The engine's ninth text: lengths, slices cut, appends, maps. -/
namespace Go.Eng
open Go

/-! lengths -/

def tLen (P : Program) (t : TypeId) : Option Nat :=
  match P.underlying t with
  | some (.slice _) => some 0
  | some .string => some 1
  | some (.map _ _) => some 2
  | _ => none

def aLen (P : Program) (obj : Name → Option O) (T : TypeId) (x : D) : R :=
  match tLen P T, x with
  | some 0, .v (.sl l) => ⟨True, .v (.int .i64 l.length), obj⟩
  | some 0, .nilsl => ⟨True, .v (.int .i64 0), obj⟩
  | some 0, .msl nm k => ⟨(obj nm).bind O.len? = some k, .v (.int .i64 k), obj⟩
  | some 1, .v (.str s) => ⟨True, .v (.int .i64 s.size), obj⟩
  | some 2, .nilmap => ⟨True, .v (.int .i64 0), obj⟩
  | some 2, .map nm => match obj nm with
    | some (.map _ es) => ⟨True, .v (.int .i64 es.length), obj⟩
    | _ => .bad obj
  | _, _ => .bad obj

theorem slice_of {P : Program} {G : Ghost} {φ : Name → Loc} {m : Mem} {σ : S} {a : Act} {w : World} (hC : Conc G φ m σ a w) {nm : Name} {o : O} {n : Nat}
    (hnm : σ.obj nm = some o) (hlen : o.len? = some n) : ∃ b c, (φ nm).slice n = .slice b n c ∧ n ≤ c := by
  have := hC.objs nm o hnm
  unfold Loc.slice
  cases o with
  | arr sz l =>
    simp only [O.len?, Option.some.injEq] at hlen
    subst hlen
    rcases this with ⟨h, h'⟩ | ⟨h, h', _⟩
    · subst h'; simp [h]
    · simp only [h, Bool.false_eq_true, if_false]; exact ⟨_, _, rfl, h'⟩
  | farr sz l =>
    simp only [O.len?, Option.some.injEq] at hlen
    subst hlen
    rcases this with ⟨h, h'⟩ | ⟨h, h', _⟩
    · subst h'; simp [h]
    · simp only [h, Bool.false_eq_true, if_false]; exact ⟨_, _, rfl, h'.1⟩
  | dead sz k =>
    simp only [O.len?, Option.some.injEq] at hlen
    subst hlen
    rcases this with ⟨h, h'⟩ | ⟨h, h'⟩
    · subst h'; simp [h]
    · simp only [h, Bool.false_eq_true, if_false]; exact ⟨_, _, rfl, h'⟩
  | _ => simp [O.len?] at hlen

theorem s_len {P : Program} {G : Ghost} {φ : Name → Loc} {m : Mem} {σ : S} {a : Act} {w : World} (hC : Conc G φ m σ a w) {T ty : TypeId} {x : D} {u : Value}
    (hx : RepD φ σ.obj m x u) (hok : (aLen P σ.obj T x).ok) :
    ∃ v, (Builtin.len_ #[T] ty #[u]).run P w = .ok v w ∧ RepD φ σ.obj m (aLen P σ.obj T x).d v ∧ (aLen P σ.obj T x).obj = σ.obj := by
  have hsl : tLen P T = some 0 → ∃ e, P.underlying T = some (.slice e) := by
    intro h; unfold tLen at h; split at h <;> simp_all
  have hst : tLen P T = some 1 → P.underlying T = some .string := by
    intro h; unfold tLen at h; split at h <;> simp_all
  have hmp : tLen P T = some 2 → ∃ k e, P.underlying T = some (.map k e) := by
    intro h; unfold tLen at h; split at h <;> simp_all
  unfold aLen at hok ⊢
  split at hok
  · rename_i l hT
    obtain ⟨e, hu⟩ := hsl hT
    cases hx with
    | v _ _ hx =>
    refine ⟨.int .i64 l.length, ?_, by simpa [hT] using .v _ _ (.int _ _), by simp [hT]⟩
    cases hx <;> simp [Builtin.len_, run_underlying hu, goInt]
  · rename_i hT
    obtain ⟨e, hu⟩ := hsl hT
    cases hx
    exact ⟨.int .i64 0, by simp [Builtin.len_, run_underlying hu, goInt], by simpa [hT] using .v _ _ (.int _ _), by simp [hT]⟩
  · rename_i nm k hT
    obtain ⟨e, hu⟩ := hsl hT
    cases hx with
    | msl _ _ _ hx hu' =>
    obtain ⟨o, n, hnm, hlen, hk, hval⟩ := hx
    simp only [hnm, Option.bind_some, hlen, Option.some.injEq] at hok
    have e := hval hok.symm
    subst e
    subst hok
    obtain ⟨b, c, h1, _⟩ := slice_of (P := P) hC hnm hlen
    rw [h1]
    exact ⟨.int .i64 n, by simp [Builtin.len_, run_underlying hu, goInt], by simpa [hT] using .v _ _ (.int _ _), by simp [hT]⟩
  · rename_i s hT
    have hu := hst hT
    cases hx with
    | v _ _ hx =>
    cases hx
    exact ⟨.int .i64 s.size, by simp [Builtin.len_, run_underlying hu, goInt], by simpa [hT] using .v _ _ (.int _ _), by simp [hT]⟩
  · rename_i hT
    obtain ⟨k, e, hu⟩ := hmp hT
    cases hx
    exact ⟨.int .i64 0, by simp [Builtin.len_, run_underlying hu, goInt], by simpa [hT] using .v _ _ (.int _ _), by simp [hT]⟩
  · rename_i nm hT
    obtain ⟨k, e, hu⟩ := hmp hT
    cases hx with
    | map _ hx =>
    split at hok
    · rename_i kd es hnm
      obtain ⟨g0, g1, _, ents, clock, g2, g3, g4⟩ := hC.objs nm _ hnm
      refine ⟨.int .i64 es.length, ?_, by simpa [hT, hnm] using .v _ _ (.int _ _), by simp [hT, hnm]⟩
      simp [Builtin.len_, run_underlying hu, MapKept.run_getObj_map g2, goInt, g3]
    · exact hok.elim
  · exact hok.elim

/-! slices cut -/

def loOf : Option D → Option Int
  | none => some 0
  | some (.v (.int _ n)) => some n
  | _ => none
def hiOf (n : Nat) : Option D → Option Int
  | none => some n
  | some (.v (.int _ k)) => some k
  | _ => none

def aSlice (P : Program) (obj : Name → Option O) (T : TypeId) (x : D) (lo hi mx : Option D) : R :=
  match mx, x with
  | none, .v (.sl l) => match tElem P T, loOf lo, hiOf l.length hi with
    | some (_, sz, _), some i, some j => ⟨0 ≤ i ∧ i ≤ j ∧ j ≤ l.length ∧ (∀ x ∈ l, x.cells.length = sz), .v (.sl ((l.drop i.toNat).take (j.toNat - i.toNat))), obj⟩
    | _, _, _ => .bad obj
  | none, .nilsl => match tElem P T, loOf lo, hiOf 0 hi with
    | some (_, _, _), some i, some j => ⟨i = 0 ∧ j = 0, .nilsl, obj⟩
    | _, _, _ => .bad obj
  | none, .msl nm k => match obj nm, tElem P T, loOf lo, hiOf k hi with
    | some (.arr s l), some (_, sz, _), some i, some j => ⟨k = l.length ∧ 0 ≤ i ∧ i ≤ j ∧ j ≤ l.length ∧ (∀ x ∈ l, x.cells.length = sz), .v (.sl ((l.drop i.toNat).take (j.toNat - i.toNat))), upd obj nm (some (.farr s l))⟩
    | some (.farr s l), some (_, sz, _), some i, some j => ⟨k = l.length ∧ 0 ≤ i ∧ i ≤ j ∧ j ≤ l.length ∧ (∀ x ∈ l, x.cells.length = sz), .v (.sl ((l.drop i.toNat).take (j.toNat - i.toNat))), obj⟩
    | _, _, _, _ => .bad obj
  | some (.v (.int _ 0)), .v (.sl _) => match tElem P T, loOf lo, hi with
    | some _, some 0, some (.v (.int _ 0)) => ⟨True, .nilsl, obj⟩
    | _, _, _ => .bad obj
  | some (.v (.int _ 0)), .nilsl => match tElem P T, loOf lo, hi with
    | some _, some 0, some (.v (.int _ 0)) => ⟨True, .nilsl, obj⟩
    | _, _, _ => .bad obj
  | some (.v (.int _ 0)), .msl nm k => match tElem P T, loOf lo, hi with
    | some _, some 0, some (.v (.int _ 0)) => ⟨(obj nm).bind O.len? = some k, .nilsl, obj⟩
    | _, _, _ => .bad obj
  | none, .v (.str s) => match tLen P T, loOf lo, hiOf s.size hi with
    | some 1, some i, some j => ⟨0 ≤ i ∧ i ≤ j ∧ j ≤ s.size, .v (.str (s.extract i.toNat j.toNat)), obj⟩
    | _, _, _ => .bad obj
  | none, .ref nm off => match lo, hi, tArr P T, obj nm with
    | none, none, some (n, sz, _), some (.fbox cs) => ⟨sz = 1 ∧ 0 < n ∧ n ≤ 1000 ∧ off + n ≤ cs.length, .v (.sl ((cs.drop off).take n)), obj⟩
    | _, _, _, _ => .bad obj
  | _, _ => .bad obj

theorem run_sliceBound {P : Program} {k : IntKind} {n : Int} {y : Nat} {c : BoundsCode} (h0 : 0 ≤ n) (h1 : n ≤ y) (w : World) :
    (Instr.sliceBound (.int k n) y c).run P w = .ok n.toNat w := by
  simp [Instr.sliceBound, asIntOf, h0, h1]

def RepDs (φ : Name → Loc) (obj : Name → Option O) (m : Mem) (d : Option D) (u : Option Value) : Prop :=
  match d, u with
  | none, none => True
  | some d, some u => RepD φ obj m d u
  | _, _ => False

theorem run_bounds {P : Program} {φ : Name → Loc} {obj : Name → Option O} {m : Mem} {lo hi : Option D} {ulo uhi : Option Value} {len cap n : Nat} {i j : Int} (b : Bool)
    (hlo : RepDs φ obj m lo ulo) (hhi : RepDs φ obj m hi uhi) (e1 : loOf lo = some i) (e2 : hiOf len hi = some j) (h0 : 0 ≤ i) (h1 : i ≤ j) (h2 : j ≤ len) (h3 : len ≤ cap) (w : World) :
    (Instr.sliceBounds b len cap ulo uhi none).run P w = .ok (i.toNat, j.toNat, cap) w := by
  have hh : (uhi = none ∧ j = len) ∨ ∃ k, uhi = some (.int k j) := by
    cases hi with
    | none =>
      cases uhi with
      | none => simp only [hiOf, Option.some.injEq] at e2; exact .inl ⟨rfl, e2.symm⟩
      | some => exact hhi.elim
    | some d =>
      cases uhi with
      | none => exact hhi.elim
      | some u =>
        have hd : RepD φ obj m d u := hhi
        unfold hiOf at e2
        split at e2
        · cases ‹some d = none›
        · rename_i hq
          cases hq
          simp only [Option.some.injEq] at e2
          subst e2
          cases hd with
          | v _ _ hd => cases hd; exact .inr ⟨_, rfl⟩
        · cases e2
  have hl : (ulo = none ∧ i = 0) ∨ ∃ k, ulo = some (.int k i) := by
    cases lo with
    | none =>
      cases ulo with
      | none => simp only [loOf, Option.some.injEq] at e1; exact .inl ⟨rfl, e1.symm⟩
      | some => exact hlo.elim
    | some d =>
      cases ulo with
      | none => exact hlo.elim
      | some u =>
        have hd : RepD φ obj m d u := hlo
        unfold loOf at e1
        split at e1
        · cases ‹some d = none›
        · rename_i hq
          cases hq
          simp only [Option.some.injEq] at e1
          subst e1
          cases hd with
          | v _ _ hd => cases hd; exact .inr ⟨_, rfl⟩
        · cases e1
  rcases hh with ⟨rfl, rfl⟩ | ⟨k1, rfl⟩
  · rcases hl with ⟨rfl, rfl⟩ | ⟨k2, rfl⟩
    · simp [Instr.sliceBounds]
    · simp [Instr.sliceBounds, run_sliceBound (P := P) (k := k2) (y := len) (c := .sliceB) h0 (by omega)]
  · have hb := run_sliceBound (P := P) (k := k1) (y := cap) (c := if b = true then .sliceAcap else .sliceAlen) (n := j) (by omega) (by omega) w
    rcases hl with ⟨rfl, rfl⟩ | ⟨k2, rfl⟩
    · simp [Instr.sliceBounds, hb]
    · simp [Instr.sliceBounds, hb, run_sliceBound (P := P) (k := k2) (y := j.toNat) (c := .sliceB) h0 (by omega)]

/-- A cut of a slice that reads as a list. -/
theorem RepV.cut {P : Program} {m : Mem} {T : TypeId} {l : List V} {u : Value} (h : RepV m (.sl l) u) {sz : Nat} (i j : Nat) (hij : i ≤ j) (hj : j ≤ l.length) (hsz : ∀ x ∈ l, x.cells.length = sz) :
    ∃ b len cap, u = .slice b len cap ∧ len = l.length ∧ len ≤ cap ∧ RepV m (.sl ((l.drop i).take (j - i))) (.slice (if cap = i then b else b.map (·.add (i * sz))) (j - i) (cap - i)) := by
  cases h with
  | slnil b cap => exact ⟨b, 0, cap, rfl, rfl, Nat.zero_le _, by simp only [List.drop_nil, List.take_nil]; simp at hj; rw [hj]; simp; exact .slnil _ _⟩
  | sl _ b o cap sz' c hn hl hcap hs hc hr ho =>
    refine ⟨some ⟨b, o, none⟩, l.length, cap, rfl, rfl, hcap, ?_⟩
    by_cases hlt : i < j
    · have hsz' : sz' = sz := by
        have h0 : 0 < l.length := by omega
        rw [← hs 0 h0]; exact hsz _ (List.getElem_mem h0)
      subst hsz'
      rw [if_neg (by omega)]
      simp only [Option.map_some, addr_add]
      have hlen : ((l.drop i).take (j - i)).length = j - i := by simp; omega
      have := RepV.sl (m := m) ((l.drop i).take (j - i)) b (o + i * sz') (cap - i) sz' (fun p q => c (i + p) q) (fun e => by rw [e] at hlen; simp at hlen; omega) (by rw [hlen]; omega) (by rw [hlen]; omega)
        (fun p hp => by simp only [List.getElem_take, List.getElem_drop]; exact hs _ (by simp at hp; omega))
        (fun p q hp hq => by
          have := hc (i + p) q (by simp at hp; omega) hq
          rw [Nat.add_mul] at this
          rw [show o + i * sz' + p * sz' + q = o + (i * sz' + p * sz') + q by omega]; exact this)
        (fun p q hp hq => by
          simp only [List.getElem_take, List.getElem_drop] at hq ⊢
          exact hr _ _ (by simp at hp; omega) hq)
        (fun p hp => by simp only [List.getElem_take, List.getElem_drop]; exact ho _ (by simp at hp; omega))
      rw [hlen] at this
      exact this
    · have : j - i = 0 := by omega
      rw [this, List.take_zero]
      exact .slnil _ _

theorem tLen_slice {P : Program} {T : TypeId} (h : tLen P T = some 0) : ∃ e, P.underlying T = some (.slice e) := by
  unfold tLen at h; split at h <;> simp_all
theorem tLen_string {P : Program} {T : TypeId} (h : tLen P T = some 1) : P.underlying T = some .string := by
  unfold tLen at h; split at h <;> simp_all

theorem sliceAt_slice {P : Program} {T e : TypeId} (hu : P.underlying T = some (.slice e)) (x : Value) (lo hi mx : Option Value) (w : World) :
    (Instr.sliceAt T x lo hi mx).run P w = (Instr.slice T x lo hi mx).run P w := by
  simp [Instr.sliceAt, run_underlying hu]

theorem run_slice0 {P : Program} {T e : TypeId} (hu : P.underlying T = some (.slice e)) {it : TypeInfo} (hit : P.info? e = some it) (b : Option Addr) (len cap : Nat) {k1 k2 k3 : IntKind} {ulo : Option Value}
    (hl : ulo = none ∨ ulo = some (.int k1 0)) (w : World) :
    (Instr.sliceAt T (.slice b len cap) ulo (some (.int k2 0)) (some (.int k3 0))).run P w = .ok (.slice b 0 0) w := by
  have hb := fun (k : IntKind) (y : Nat) (c : BoundsCode) => run_sliceBound (P := P) (k := k) (y := y) (c := c) (n := 0) (Int.le_refl 0) (by omega) w
  rw [sliceAt_slice hu]
  rcases hl with rfl | rfl <;> simp [Instr.slice, run_underlying hu, Instr.sliceBounds, hb, sizeOf, typeInfo, hit]

theorem run_sliceV {P : Program} {φ : Name → Loc} {obj : Name → Option O} {m m' : Mem} {T e : TypeId} {sz by_ : Nat} (hT : tElem P T = some (e, sz, by_)) {l : List V} {u : Value} (h : RepV m' (.sl l) u) {lo hi : Option D} {ulo uhi : Option Value} {i j : Int}
    (hlo : RepDs φ obj m lo ulo) (hhi : RepDs φ obj m hi uhi) (e1 : loOf lo = some i) (e2 : hiOf l.length hi = some j) (h0 : 0 ≤ i) (h1 : i ≤ j) (h2 : j ≤ l.length) (hsz : ∀ x ∈ l, x.cells.length = sz) (w : World) :
    ∃ v, (Instr.sliceAt T u ulo uhi none).run P w = .ok v w ∧ RepV m' (.sl ((l.drop i.toNat).take (j.toNat - i.toNat))) v := by
  obtain ⟨hu, it, hit, hs, _⟩ := tElem_spec hT
  obtain ⟨b, len, cap, rfl, rfl, hc, hr⟩ := RepV.cut (P := P) (T := T) h (sz := sz) i.toNat j.toNat (by omega) (by omega) hsz
  refine ⟨_, ?_, hr⟩
  rw [sliceAt_slice hu]
  have hb := run_bounds (P := P) (cap := cap) (n := 0) true hlo hhi e1 e2 h0 h1 h2 hc w
  simp only [Instr.slice, Sem.run_bind, run_underlying hu, Result.andThen_ok, hb]
  simp [sizeOf, typeInfo, hit, hs]

theorem tArr_spec {P : Program} {T : TypeId} {n sz : Nat} {ag : Bool} (h : tArr P T = some (n, sz, ag)) : ∃ e, P.underlying T = some (.array n e) ∧ ∀ w, (sizeOf e).run P w = .ok sz w := by
  unfold tArr at h
  split at h
  · rename_i n' e hu
    simp only [Option.map_eq_some_iff, Prod.mk.injEq] at h
    obtain ⟨y, h2, h3, h4, h5⟩ := h
    subst h3
    subst h4
    exact ⟨e, hu, fun w => run_sizeOf' (P := P) (t := e) (b := y.1) (n := y.2) h2 w⟩
  · cases h

theorem s_slice {P : Program} {G : Ghost} {φ : Name → Loc} {m : Mem} {σ : S} {a : Act} {w : World} (hC : Conc G φ m σ a w) {T : TypeId} {x : D} {u : Value} {lo hi mx : Option D} {ulo uhi umx : Option Value}
    (hx : RepD φ σ.obj m x u) (hlo : RepDs φ σ.obj m lo ulo) (hhi : RepDs φ σ.obj m hi uhi) (hmx : RepDs φ σ.obj m mx umx) (hok : (aSlice P σ.obj T x lo hi mx).ok) :
    ∃ v w', (Instr.sliceAt T u ulo uhi umx).run P w = .ok v w' ∧ Done G σ a (aSlice P σ.obj T x lo hi mx) v w' := by
  have hmx0 : ∀ {k : IntKind}, RepDs φ σ.obj m (some (.v (.int k 0))) umx → umx = some (.int k 0) := by
    intro k h
    cases umx with
    | none => exact h.elim
    | some v => have h' : RepD φ σ.obj m (.v (.int k 0)) v := h; cases h' with | v _ _ h' => cases h'; rfl
  have hhi0 : ∀ {k : IntKind}, hi = some (.v (.int k 0)) → uhi = some (.int k 0) := by
    intro k he
    subst he
    cases uhi with
    | none => exact hhi.elim
    | some v => have h' : RepD φ σ.obj m (.v (.int k 0)) v := hhi; cases h' with | v _ _ h' => cases h'; rfl
  have hlo0 : loOf lo = some 0 → ∃ k, ulo = none ∨ ulo = some (.int k 0) := by
    intro he
    cases lo with
    | none =>
      cases ulo with
      | none => exact ⟨.i64, .inl rfl⟩
      | some => exact hlo.elim
    | some d =>
      cases ulo with
      | none => exact hlo.elim
      | some v =>
        have hd : RepD φ σ.obj m d v := hlo
        unfold loOf at he
        split at he
        · cases ‹some d = none›
        · rename_i hq
          cases hq
          simp only [Option.some.injEq] at he
          subst he
          cases hd with
          | v _ _ hd => cases hd; exact ⟨_, .inr rfl⟩
        · cases he
  have hnone : ∀ {y : Option Value}, RepDs φ σ.obj m none y → y = none := by
    intro y h; cases y with | none => rfl | some => exact h.elim
  unfold aSlice at hok ⊢
  split at hok
  · rename_i l
    cases hnone hmx
    split at hok
    · rename_i e sz by_ i j hT e1 e2
      obtain ⟨h0, h1, h2, h3⟩ := hok
      cases hx with
      | v _ _ hx =>
      obtain ⟨v, r1, r2⟩ := run_sliceV hT hx hlo hhi e1 e2 h0 h1 h2 h3 w
      exact ⟨v, w, r1, φ, m, by simpa [hT, e1, e2] using hC, by simpa [hT, e1, e2] using .v _ _ r2⟩
    · exact hok.elim
  · cases hnone hmx
    split at hok
    · rename_i e sz by_ i j hT e1 e2
      obtain ⟨rfl, rfl⟩ := hok
      cases hx with
      | nilsl b =>
      obtain ⟨hu, it, hit, hs, _⟩ := tElem_spec hT
      have hb := run_bounds (P := P) (cap := 0) (n := 0) (len := 0) true hlo hhi e1 e2 (by omega) (by omega) (by omega) (by omega) w
      refine ⟨.slice b 0 0, w, ?_, φ, m, by simpa [hT, e1, e2] using hC, by simpa [hT, e1, e2] using .nilsl _⟩
      rw [sliceAt_slice hu]
      simp only [Instr.slice, Sem.run_bind, run_underlying hu, Result.andThen_ok, hb]
      simp [sizeOf, typeInfo, hit]
    · exact hok.elim
  · rename_i nm k
    cases hnone hmx
    split at hok
    · rename_i s l e sz by_ i j hnm hT e1 e2
      obtain ⟨hk, h0, h1, h2, h3⟩ := hok
      have hf : (frz 1 σ.obj (.msl nm k)) = ⟨k = l.length, .sl l, upd σ.obj nm (some (.farr s l))⟩ := by simp [frz, hnm]
      obtain ⟨m', a1, a2, a3, a4, _⟩ := frz_ok 1 _ _ _ _ _ _ hC _ _ hx (by rw [hf]; exact hk)
      rw [hf] at a2 a4
      subst hk
      obtain ⟨v, r1, r2⟩ := run_sliceV hT a4 hlo hhi e1 e2 h0 h1 h2 h3 w
      exact ⟨v, w, r1, φ, m', by simpa [hnm, hT, e1, e2] using a2, by simpa [hnm, hT, e1, e2] using .v _ _ r2⟩
    · rename_i s l e sz by_ i j hnm hT e1 e2
      obtain ⟨hk, h0, h1, h2, h3⟩ := hok
      have hf : (frz 1 σ.obj (.msl nm k)) = ⟨k = l.length, .sl l, σ.obj⟩ := by simp [frz, hnm]
      obtain ⟨m', a1, a2, a3, a4, _⟩ := frz_ok 1 _ _ _ _ _ _ hC _ _ hx (by rw [hf]; exact hk)
      rw [hf] at a2 a4
      subst hk
      obtain ⟨v, r1, r2⟩ := run_sliceV hT a4 hlo hhi e1 e2 h0 h1 h2 h3 w
      exact ⟨v, w, r1, φ, m', by simpa [hnm, hT, e1, e2] using a2, by simpa [hnm, hT, e1, e2] using .v _ _ r2⟩
    · exact hok.elim
  · rename_i k l
    cases hmx0 hmx
    split at hok
    · rename_i p k2 hT e1
      obtain ⟨e, sz, by_⟩ := p
      obtain ⟨hu, it, hit, hs, _⟩ := tElem_spec hT
      cases hhi0 rfl
      obtain ⟨k1, hl⟩ := hlo0 e1
      cases hx with
      | v _ _ hx =>
      have hsl : ∃ b len cap, u = .slice b len cap := by cases hx; exact ⟨_, _, _, rfl⟩; exact ⟨_, _, _, rfl⟩
      obtain ⟨b, len, cap, rfl⟩ := hsl
      exact ⟨_, w, run_slice0 hu hit b len cap hl w, φ, m, by simpa [hT, e1] using hC, by simpa [hT, e1] using .nilsl _⟩
    · exact hok.elim
  · rename_i k
    cases hmx0 hmx
    split at hok
    · rename_i p k2 hT e1
      obtain ⟨e, sz, by_⟩ := p
      obtain ⟨hu, it, hit, hs, _⟩ := tElem_spec hT
      cases hhi0 rfl
      obtain ⟨k1, hl⟩ := hlo0 e1
      cases hx with
      | nilsl b =>
      exact ⟨_, w, run_slice0 hu hit b 0 0 hl w, φ, m, by simpa [hT, e1] using hC, by simpa [hT, e1] using .nilsl _⟩
    · exact hok.elim
  · rename_i k0 nm k
    cases hmx0 hmx
    split at hok
    · rename_i p k2 hT e1
      obtain ⟨e, sz, by_⟩ := p
      obtain ⟨hu, it, hit, hs, _⟩ := tElem_spec hT
      cases hhi0 rfl
      obtain ⟨k1, hl⟩ := hlo0 e1
      cases hx with
      | msl _ _ _ hx hu' =>
      obtain ⟨o, n, hnm, hlen, hk, hval⟩ := hx
      simp only [hnm, Option.bind_some, hlen, Option.some.injEq] at hok
      have e := hval hok.symm
      subst e
      subst hok
      obtain ⟨b, c, h1, _⟩ := slice_of (P := P) hC hnm hlen
      rw [h1]
      exact ⟨_, w, run_slice0 hu hit b _ c hl w, φ, m, by simpa [hT, e1] using hC, by simpa [hT, e1] using .nilsl _⟩
    · exact hok.elim
  · rename_i s
    cases hnone hmx
    split at hok
    · rename_i i j hT e1 e2
      obtain ⟨h0, h1, h2⟩ := hok
      have hu := tLen_string hT
      cases hx with
      | v _ _ hx =>
      cases hx with
      | str _ hs =>
      have hb := run_bounds (P := P) (cap := s.size) (n := 0) (len := s.size) false hlo hhi e1 e2 h0 h1 h2 (Nat.le_refl _) w
      refine ⟨.string (s.extract i.toNat j.toNat), w, ?_, φ, m, by simpa [hT, e1, e2] using hC, ?_⟩
      · simp only [Instr.sliceAt, Instr.slice, Sem.run_bind, run_underlying hu, Result.andThen_ok]
        simp [hb]
      · simp only [hT, e1, e2]
        refine .v _ _ (.str _ ?_)
        rw [ByteArray.size_extract]; omega
    · exact hok.elim
  · rename_i nm off
    cases hnone hmx
    split at hok
    · rename_i n sz ag cs hT hnm
      obtain ⟨rfl, h0, h1, h2⟩ := hok
      cases hnone hlo
      cases hnone hhi
      obtain ⟨e, hu, hs⟩ := tArr_spec hT
      cases hx with
      | ref _ _ hb =>
      obtain ⟨ho, hc⟩ := hC.objs nm _ hnm
      refine ⟨.slice (some ⟨(φ nm).blk, (φ nm).off + off, none⟩) n n, w, ?_, φ, m, by simpa [hT, hnm] using hC, ?_⟩
      · simp [Instr.sliceAt, run_underlying hu, Instr.sliceBounds, Instr.sureAddr, hs, addr_add]
      · simp only [hT, hnm]
        have hlen : ((cs.drop off).take n).length = n := by rw [List.length_take, List.length_drop]; omega
        have hget : ∀ i (h : i < ((cs.drop off).take n).length), ∃ hi : off + i < cs.length, ((cs.drop off).take n)[i] = cs[off + i] := fun i h => by
          rw [hlen] at h
          exact ⟨by omega, by simp [List.getElem_take, List.getElem_drop]⟩
        have hone : ∀ i (h : i < ((cs.drop off).take n).length), (((cs.drop off).take n)[i]).cells = [((cs.drop off).take n)[i]] ∧ (((cs.drop off).take n)[i]).one = true := fun i h => by
          obtain ⟨hi, e⟩ := hget i h
          have hx := ho _ (List.getElem_mem hi)
          rw [e]
          generalize cs[off + i] = x at hx
          refine ⟨?_, hx⟩
          cases x with
          | agg => cases hx
          | _ => rfl
        refine .v _ _ ?_
        have := RepV.sl (m := m) ((cs.drop off).take n) (φ nm).blk ((φ nm).off + off) n 1 (fun i _ => (m (φ nm).blk ((φ nm).off + (off + i))).getD undef) (by intro h; rw [h] at hlen; simp at hlen; omega) (by rw [hlen]; unfold maxLen; omega) (by omega)
          (fun i h => by rw [(hone i h).1]; rfl)
          (fun i j hi hj => by
            obtain rfl : j = 0 := by omega
            obtain ⟨h3, _⟩ := hget i hi
            obtain ⟨c, h4, _⟩ := hc (off + i) h3
            rw [show (φ nm).off + off + i * 1 + 0 = (φ nm).off + (off + i) by omega, h4]; rfl)
          (fun i j hi hj => by
            obtain ⟨h5, h6⟩ := hone i hi
            have hj0 : j = 0 := by rw [h5] at hj; simpa using hj
            subst hj0
            obtain ⟨h3, e⟩ := hget i hi
            obtain ⟨c, h4, h7⟩ := hc (off + i) h3
            rw [h4]
            have e2 : ∀ (x y : V) (hxy : x = y) (hcl : x.cells = [x]) (h0 : 0 < x.cells.length), x.cells[0] = y := by
              intro x y hxy hcl h0
              subst hxy
              simp [hcl]
            rw [e2 _ _ e h5]; exact h7)
          (fun i hi x hx => by
            obtain ⟨h5, h6⟩ := hone i hi
            rw [h5] at hx; simp only [List.mem_singleton] at hx; rw [hx]; exact h6)
        rw [hlen] at this
        exact this
    · exact hok.elim
  · exact hok.elim

/-! strings and bytes -/
theorem tConv1 {P : Program} {src dst : TypeId} (h : tConv P src dst = 1) : ∃ e, P.underlying src = some .string ∧ P.underlying dst = some (.slice e) ∧ P.underlying e = some (.int .u8) := by
  unfold tConv at h
  split at h
  · rename_i e h1 h2
    split at h
    · exact ⟨e, h1, h2, by assumption⟩
    · cases h
  · split at h <;> cases h
  · cases h
theorem tConv2 {P : Program} {src dst : TypeId} (h : tConv P src dst = 2) : ∃ e, P.underlying src = some (.slice e) ∧ P.underlying dst = some .string ∧ P.underlying e = some (.int .u8) := by
  unfold tConv at h
  split at h
  · split at h <;> cases h
  · rename_i e h1 h2
    split at h
    · exact ⟨e, h1, h2, by assumption⟩
    · cases h
  · cases h
theorem byte_cells (b : UInt8) : (byteV b).cells = [byteV b] := rfl
theorem isByte_rep {m : Mem} {x : V} {u : Value} (hx : isByteV x = true) (h : RepV m x u) : u = .int .u8 ((unbyte x).toNat : Int) := by
  unfold isByteV at hx
  split at hx
  · rename_i n
    simp only [Bool.and_eq_true, decide_eq_true_eq] at hx
    cases h
    have : ((UInt8.ofNat n.toNat).toNat : Int) = n := by
      rw [UInt8.toNat_ofNat']
      omega
    show Value.int .u8 n = .int .u8 ((UInt8.ofNat n.toNat).toNat : Int)
    rw [this]
  · cases hx
theorem isByte_cells {x : V} (hx : isByteV x = true) : x.cells = [x] := by
  cases x with
  | agg => cases hx
  | _ => rfl
theorem bytes_cells (s : ByteArray) {i : Nat} (hi : i < (bytesV s).length) : ((bytesV s)[i]).cells = [(bytesV s)[i]] := by
  unfold bytesV at hi ⊢
  rw [List.getElem_map]; rfl
theorem bytes_one (s : ByteArray) {i : Nat} (hi : i < (bytesV s).length) : ((bytesV s)[i]).one = true := by
  unfold bytesV at hi ⊢
  rw [List.getElem_map]; rfl
theorem bytes_len (s : ByteArray) : (bytesV s).length = s.size := by
  unfold bytesV
  rw [List.length_map, Array.length_toList]; rfl
theorem byte_rep {m : Mem} {x : V} {b : UInt8} {j : Nat} (he : x = byteV b) (hj : j < x.cells.length) : RepV m x.cells[j] (.int .u8 (b.toNat : Int)) := by
  subst he
  have hj0 : j = 0 := by
    rw [byte_cells] at hj
    simpa using hj
  subst hj0
  exact .int _ _
theorem s_convA {P : Program} {G : Ghost} {φ : Name → Loc} {m : Mem} {σ : S} {a : Act} {w : World} (hC : Conc G φ m σ a w) {src dst : TypeId} {x : D} {u : Value}
    (hx : RepD φ σ.obj m x u) (hok : (aConv P σ.obj src dst x).ok) :
    ∃ v w', (convert src dst u).run P w = .ok v w' ∧ Done G σ a (aConv P σ.obj src dst x) v w' := by
  unfold aConv at hok ⊢
  split at hok
  · rename_i ht
    obtain ⟨e, h1, h2, h3⟩ := tConv1 ht
    split at hok
    · rename_i s
      cases hx with
      | v _ _ hx =>
      cases hx with
      | str _ hs =>
      refine ⟨_, _, Lib.run_convert_string_bytes w src dst e s h1 h2 h3, φ, fun b off => if b = w.heap.size ∧ off < s.size then some (.int .u8 ((s.data.toList.getD off 0).toNat : Int)) else m b off, ?_, ?_⟩
      · have hle : Mem.le m (fun b off => if b = w.heap.size ∧ off < s.size then some (.int .u8 ((s.data.toList.getD off 0).toNat : Int)) else m b off) := by
          intro b off v hv
          have hlt := cell?_lt (hC.mem b off v hv)
          show (if _ then _ else _) = _
          rw [if_neg (by omega)]; exact hv
        have := hC.imm (w' := Lib.bytesWorld w e s) hle ⟨rfl, rfl, rfl, by rw [Lib.bytesWorld_size]; omega⟩ (fun b hb => Lib.bytesWorld_at_old w e s b hb) (fun b off v hv => by
          have hv : (if b = w.heap.size ∧ off < s.size then some (Value.int .u8 ((s.data.toList.getD off 0).toNat : Int)) else m b off) = some v := hv
          by_cases hb : b = w.heap.size ∧ off < s.size
          · rw [if_pos hb] at hv
            rw [hb.1]
            exact .inr ⟨Nat.le_refl _, (Lib.bytesWorld_cell w e s off hb.2).trans hv⟩
          · rw [if_neg hb] at hv
            exact .inl hv)
        simpa [ht] using this
      · try simp only [ht]
        refine .v _ _ ?_
        have hlen : (bytesV s).length = s.size := bytes_len s
        by_cases h0 : s.size = 0
        · have : bytesV s = [] := List.eq_nil_of_length_eq_zero (by omega)
          rw [this, h0]
          exact .slnil _ _
        · have := RepV.sl (m := fun b off => if b = w.heap.size ∧ off < s.size then some (.int .u8 ((s.data.toList.getD off 0).toNat : Int)) else m b off) (bytesV s) w.heap.size 0 (grownCap w s.size 0 e) 1 (fun i _ => .int .u8 ((s.data.toList.getD i 0).toNat : Int))
            (by intro h; rw [h] at hlen; exact h0 hlen.symm) (by omega) (by rw [hlen]; exact grownCap_ge _ _ _ _)
            (fun i hi => by rw [bytes_cells s hi]; rfl)
            (fun i j hi hj => by
              obtain rfl : j = 0 := by omega
              show (if _ then _ else _) = _
              rw [if_pos ⟨rfl, by omega⟩, show 0 + i * 1 + 0 = i by omega])
            (fun i j hi hj => by
              refine byte_rep ?_ hj
              have hi' : i < s.data.toList.length := by rw [hlen] at hi; rw [Array.length_toList]; exact hi
              rw [getD_lt hi']
              exact List.getElem_map _)
            (fun i hi x hx => by
              rw [bytes_cells s hi] at hx
              rw [List.mem_singleton.1 hx]
              exact bytes_one s hi)
          rw [hlen] at this
          exact this
    · exact hok.elim
  · rename_i ht
    obtain ⟨e, h1, h2, h3⟩ := tConv2 ht
    split at hok
    · rename_i l
      cases hx with
      | v _ _ hx =>
      rw [List.all_eq_true] at hok
      have hb := fun i (h : i < l.length) => hok _ (List.getElem_mem h)
      have hsz : (⟨(l.map unbyte).toArray⟩ : ByteArray).size = l.length := by simp [ByteArray.size]
      cases hx with
      | slnil a cap =>
        refine ⟨.string ⟨#[]⟩, w, ?_, φ, m, by simpa [ht] using hC, ?_⟩
        · rw [run_convert_bytes_string w src dst e a 0 cap h1 h3 h2]
          cases a with
          | none => rfl
          | some a => simp [Conv.bytesToString, loadCells, loadCellsFrom]; rfl
        · simp only [ht]
          exact .v _ _ (.str _ (by simp [ByteArray.size]))
      | sl _ b o cap sz c hn hl hcap hs hc hr ho =>
        refine ⟨.string ⟨(l.map unbyte).toArray⟩, w, ?_, φ, m, by simpa [ht] using hC, ?_⟩
        · have := run_convert_bytes_back (P := P) w src dst e ⟨b, o, none⟩ cap (l.map unbyte) h1 h3 h2 (fun j hj => by
            have hj' : j < l.length := by simpa using hj
            have hsz1 : sz = 1 := by rw [← hs j hj', isByte_cells (hb j hj')]; rfl
            subst hsz1
            have h4 := hC.mem _ _ _ (hc j 0 hj' (by omega))
            have h5 := hr j 0 hj' (by rw [isByte_cells (hb j hj')]; simp)
            have h6 : ∀ (x : V) (hx : isByteV x = true) (h : 0 < x.cells.length) (u : Value), RepV m x.cells[0] u → u = .int .u8 ((unbyte x).toNat : Int) := by
              intro x hx h u hu
              have e0 := isByte_cells hx
              have : x.cells[0] = x := by simp [e0]
              rw [this] at hu
              exact isByte_rep hx hu
            have h7 := h6 _ (hb j hj') _ _ h5
            rw [h7] at h4
            rw [addr_add]
            simpa using h4)
          simpa using this
        · simp only [ht]
          exact .v _ _ (.str _ (by rw [hsz]; exact hl))
    · exact hok.elim
  · rename_i ht1 ht2
    obtain ⟨r, k1, k2, k3⟩ := s_conv (P := P) w hx hok
    refine ⟨r, w, k1, φ, m, ?_, ?_⟩
    · rw [k3]; exact hC
    · rw [k3]; exact k2

end Go.Eng
/- The engine's tenth text: appends. -/
namespace Go.Eng
open Go

/-- What an append's second argument yields. -/
def srcL (obj : Name → Option O) (x : D) : Prop × List V :=
  match x with
  | .v (.sl l) => (True, l)
  | .nilsl => (True, [])
  | .msl nm k => match obj nm with
    | some (.arr _ l) => (k = l.length, l)
    | some (.farr _ l) => (k = l.length, l)
    | _ => (False, [])
  | _ => (False, [])

theorem oneC_oneCell' {v : Value} (h : oneC v = true) : v.oneCell' = true := by cases v <;> simp_all [oneC, Value.oneCell']

/-- The cells of a slice that is read, by element and place. -/
structure Reads (m : Mem) (w : World) (l : List V) (sz : Nat) (b : Option Addr) (cap : Nat) (c : Nat → Nat → Value) : Prop where
  lecap : l.length ≤ cap
  cell : l ≠ [] → ∃ blk o, b = some ⟨blk, o, none⟩ ∧ ∀ i j, i < l.length → j < sz → w.cell? ⟨blk, o + i * sz + j, none⟩ = some (c i j)
  rep : ∀ i j (h : i < l.length) (h' : j < l[i].cells.length), RepV m l[i].cells[j] (c i j)
  one : ∀ i j (_ : i < l.length), j < sz → oneC (c i j) = true
  oneV : ∀ i (h : i < l.length), ∀ y ∈ l[i].cells, y.one = true

theorem len_pos {α : Type} {l : List α} (h : l ≠ []) : 0 < l.length := by cases l <;> simp_all

theorem reads_src {G : Ghost} {φ : Name → Loc} {m : Mem} {σ : S} {a : Act} {w : World} (hC : Conc G φ m σ a w) {x : D} {u : Value} (hx : RepD φ σ.obj m x u) {sz : Nat}
    (hok : (srcL σ.obj x).1) (hsz : ∀ y ∈ (srcL σ.obj x).2, y.cells.length = sz) :
    ∃ b cap c, u = .slice b (srcL σ.obj x).2.length cap ∧ Reads m w (srcL σ.obj x).2 sz b cap c := by
  unfold srcL at hok hsz ⊢
  split at hok
  · rename_i l
    cases hx with
    | v _ _ hx =>
    cases hx with
    | slnil b cap => exact ⟨b, cap, fun _ _ => undef, rfl, Nat.zero_le _, fun h => (h rfl).elim, fun i j h => by simp at h, fun i j h => by simp at h, fun i h => by simp at h⟩
    | sl _ b o cap sz' c hn hl hcap hs hc hr ho =>
      have h0 : 0 < l.length := len_pos hn
      have : sz' = sz := by rw [← hs 0 h0]; exact hsz _ (List.getElem_mem h0)
      subst this
      exact ⟨some ⟨b, o, none⟩, cap, c, rfl, hcap, fun _ => ⟨b, o, rfl, fun i j hi hj => hC.mem _ _ _ (hc i j hi hj)⟩, hr,
        fun i j hi hj => (hr i j hi (by rw [hs]; exact hj)).one (ho i hi _ (List.getElem_mem _)), ho⟩
  · cases hx with
    | nilsl b => exact ⟨b, 0, fun _ _ => undef, rfl, Nat.zero_le _, fun h => (h rfl).elim, fun i j h => by simp at h, fun i j h => by simp at h, fun i h => by simp at h⟩
  · rename_i nm k
    cases hx with
    | msl _ _ _ hx hu =>
    obtain ⟨o, n, hnm, hlen, hk, hval⟩ := hx
    split at hok
    · rename_i s l hnm'
      rw [hnm] at hnm'; cases hnm'
      simp only [hnm] at hsz ⊢
      simp only [O.len?, Option.some.injEq] at hlen
      subst hlen
      have e := hval hok
      subst e
      rcases hC.objs nm _ hnm with ⟨h, h'⟩ | ⟨g0, g1, g2, g3, g4, us, T, f, g5, g6, g7, g8⟩
      · subst h'
        simp only [Loc.slice, h, if_true]
        exact ⟨_, 0, fun _ _ => undef, rfl, Nat.zero_le _, fun h => (h rfl).elim, fun i j h => by simp at h, fun i j h => by simp at h, fun i h => by simp at h⟩
      · simp only [Loc.slice, g0, Bool.false_eq_true, if_false]
        rw [hok]
        have hss : l ≠ [] → s = sz := fun hne => by
          have h0 : 0 < l.length := len_pos hne
          rw [← g3 0 h0]; exact hsz _ (List.getElem_mem h0)
        refine ⟨_, _, fun i j => (us[(φ nm).off + i * s + j]?).getD undef, rfl, g1, fun hne => ⟨_, _, rfl, fun i j hi hj => ?_⟩, fun i j hi hj => ?_, fun i j hi hj => ?_, g4⟩
        · have hs := hss hne
          obtain ⟨c, x1, x2⟩ := g8 i j hi (by rw [g3, hs]; exact hj)
          rw [cell?_of g5, ← hs, x1]; rfl
        · obtain ⟨c, x1, x2⟩ := g8 i j hi hj
          rw [x1]; exact x2
        · have hs := hss (by intro e; rw [e] at hi; simp at hi)
          obtain ⟨c, x1, x2⟩ := g8 i j hi (by rw [g3, hs]; exact hj)
          rw [x1]; exact x2.one (g4 i hi _ (List.getElem_mem _))
    · rename_i s l hnm'
      rw [hnm] at hnm'; cases hnm'
      simp only [hnm] at hsz ⊢
      simp only [O.len?, Option.some.injEq] at hlen
      subst hlen
      have e := hval hok
      subst e
      rcases hC.objs nm _ hnm with ⟨h, h'⟩ | ⟨g0, ⟨g1, g1'⟩, g2, g3, g4⟩
      · subst h'
        simp only [Loc.slice, h, if_true]
        exact ⟨_, 0, fun _ _ => undef, rfl, Nat.zero_le _, fun h => (h rfl).elim, fun i j h => by simp at h, fun i j h => by simp at h, fun i h => by simp at h⟩
      · simp only [Loc.slice, g0, Bool.false_eq_true, if_false]
        rw [hok]
        have hss : l ≠ [] → s = sz := fun hne => by
          have h0 : 0 < l.length := len_pos hne
          rw [← g2 0 h0]; exact hsz _ (List.getElem_mem h0)
        refine ⟨_, _, fun i j => (m (φ nm).blk ((φ nm).off + i * s + j)).getD undef, rfl, g1, fun hne => ⟨_, _, rfl, fun i j hi hj => ?_⟩, fun i j hi hj => ?_, fun i j hi hj => ?_, g3⟩
        · have hs := hss hne
          obtain ⟨c, x1, x2⟩ := g4 i j hi (by rw [g2, hs]; exact hj)
          rw [← hs, hC.mem _ _ _ x1, x1]; rfl
        · obtain ⟨c, x1, x2⟩ := g4 i j hi hj
          rw [x1]; exact x2
        · have hs := hss (by intro e; rw [e] at hi; simp at hi)
          obtain ⟨c, x1, x2⟩ := g4 i j hi (by rw [g2, hs]; exact hj)
          rw [x1]; exact x2.one (g3 i hi _ (List.getElem_mem _))
    · exact hok.elim
  · exact hok.elim

def rowOf (c : Nat → Nat → Value) (n sz : Nat) : List Value := (List.range (n * sz)).map fun k => c (k / sz) (k % sz)

theorem rowOf_len (c : Nat → Nat → Value) (n sz : Nat) : (rowOf c n sz).length = n * sz := by simp [rowOf]
theorem div_lt_of {k n sz : Nat} (h : k < n * sz) : k / sz < n ∧ k % sz < sz := by
  have h0 : 0 < sz := by
    rcases Nat.eq_zero_or_pos sz with h' | h'
    · subst h'; simp at h
    · exact h'
  exact ⟨Nat.div_lt_of_lt_mul (by rwa [Nat.mul_comm]), Nat.mod_lt _ h0⟩
theorem rowOf_get (c : Nat → Nat → Value) {n sz i j : Nat} (hi : i < n) (hj : j < sz) : (rowOf c n sz)[i * sz + j]? = some (c i j) := by
  have h1 : i * sz + j < n * sz := by
    have : (i + 1) * sz ≤ n * sz := Nat.mul_le_mul_right _ (by omega)
    rw [Nat.add_mul, Nat.one_mul] at this; omega
  have h2 : (i * sz + j) / sz = i := by
    rw [Nat.mul_comm, Nat.mul_add_div (by omega), Nat.div_eq_of_lt hj, Nat.add_zero]
  have h3 : (i * sz + j) % sz = j := by
    rw [Nat.mul_comm, Nat.mul_add_mod, Nat.mod_eq_of_lt hj]
  simp [rowOf, h1, h2, h3]
theorem rowOf_cell {w : World} {c : Nat → Nat → Value} {n sz blk o : Nat} (h : ∀ i j, i < n → j < sz → w.cell? ⟨blk, o + i * sz + j, none⟩ = some (c i j)) :
    ∀ j v, (rowOf c n sz)[j]? = some v → w.cell? ((⟨blk, o, none⟩ : Addr).add j) = some v := by
  intro j v hv
  have hj : j < n * sz := by
    have := (List.getElem?_eq_some_iff.1 hv).1
    rwa [rowOf_len] at this
  obtain ⟨h1, h2⟩ := div_lt_of hj
  have e : j = j / sz * sz + j % sz := by rw [Nat.mul_comm]; exact (Nat.div_add_mod j sz).symm
  rw [e, rowOf_get c h1 h2] at hv
  cases hv
  rw [addr_add]
  have := h _ _ h1 h2
  rw [Nat.add_assoc, ← e] at this
  exact this

theorem Reads.src {P : Program} {m : Mem} {w : World} {l : List V} {sz : Nat} {b : Option Addr} {cap : Nat} {c : Nat → Nat → Value} (r : Reads m w l sz b cap c) {tx e' : TypeId} (hk : P.underlying tx = some (.slice e')) :
    Src P sz tx (.slice b l.length cap) l.length (rowOf c l.length sz) w := by
  have hone : ∀ v ∈ rowOf c l.length sz, v.oneCell' = true := by
    intro v hv
    simp only [rowOf, List.mem_map, List.mem_range] at hv
    obtain ⟨k, hk, rfl⟩ := hv
    obtain ⟨h1, h2⟩ := div_lt_of hk
    exact oneC_oneCell' (r.one _ _ h1 h2)
  by_cases hl : l = []
  · subst hl
    simp only [List.length_nil]
    have e0 : rowOf c 0 sz = [] := by simp [rowOf]
    rw [e0]
    cases b with
    | none => exact Src.ofNil (w := w) hk cap
    | some ad => exact Src.ofSlice (w := w) hk ad 0 cap [] (by simp) (by simp) (by simp)
  · obtain ⟨blk, o, hb, hc⟩ := r.cell hl
    rw [hb]
    exact Src.ofSlice (w := w) hk ⟨blk, o, none⟩ l.length cap _ (rowOf_len _ _ _) (rowOf_cell hc) hone

def aAppend (P : Program) (obj : Name → Option O) (t : Name) (T1 T2 : TypeId) (s x : D) : R :=
  match tElem P T1, tElem P T2 with
  | some (e, sz, by_), some _ => match tZero P e with
    | some z => match s with
      | .nilsl => ⟨(srcL obj x).1 ∧ (∀ y ∈ (srcL obj x).2, y.cells.length = sz ∧ y.okc = true) ∧ z.cells.size = sz ∧ (srcL obj x).2.length * by_ ≤ 140737488355328 ∧ (srcL obj x).2.length ≤ maxLen ∧ obj (nmO t) = none,
          .msl (nmO t) (srcL obj x).2.length, upd obj (nmO t) (some (.arr sz (srcL obj x).2))⟩
      | .msl nm k => match obj nm with
        | some (.arr s' l) => ⟨(srcL obj x).1 ∧ (∀ y ∈ (srcL obj x).2, y.cells.length = sz ∧ y.okc = true) ∧ z.cells.size = sz ∧ (l.length + (srcL obj x).2.length) * by_ ≤ 140737488355328 ∧
            l.length + (srcL obj x).2.length ≤ maxLen ∧ k = l.length ∧ s' = sz,
            .msl nm (l.length + (srcL obj x).2.length), upd obj nm (some (.arr sz (l ++ (srcL obj x).2)))⟩
        | _ => .bad obj
      | _ => .bad obj
    | none => .bad obj
  | _, _ => .bad obj

/-- A grown row: what was there, what comes, and room. -/
theorem satO_grown {φ : Name → Loc} {obj : Name → Option O} {m : Mem} {w' : World} {B cap sz : Nat} {T : TypeId} {l1 l2 : List V} {us : Array Value}
    (hB : w'.heap[B]? = some (.cells us T (0, 0))) (hcap : l1.length + l2.length ≤ cap) (hcapm : cap ≤ maxLen) (hus : cap * sz ≤ us.size)
    (h1 : ∀ i (h : i < l1.length), l1[i].cells.length = sz) (h1' : ∀ i (h : i < l1.length), ∀ x ∈ l1[i].cells, x.one = true)
    (h2 : ∀ i (h : i < l2.length), l2[i].cells.length = sz) (h2' : ∀ i (h : i < l2.length), ∀ x ∈ l2[i].cells, x.one = true)
    (r1 : ∀ i j (h : i < l1.length) (h' : j < l1[i].cells.length), ∃ c, us[i * sz + j]? = some c ∧ RepV m l1[i].cells[j] c)
    (r2 : ∀ i j (h : i < l2.length) (h' : j < l2[i].cells.length), ∃ c, us[(l1.length + i) * sz + j]? = some c ∧ RepV m l2[i].cells[j] c) :
    SatO φ obj m (.arr sz (l1 ++ l2)) ⟨B, 0, cap, false, none⟩ w' := by
  refine .inr ⟨rfl, by simpa using hcap, hcapm, fun i hi => ?_, fun i hi => ?_, us, T, (0, 0), hB, rfl, by simpa using hus, fun i j hi hj => ?_⟩
  · by_cases h : i < l1.length
    · rw [List.getElem_append_left h]; exact h1 i h
    · rw [List.getElem_append_right (by omega)]; exact h2 _ (by simp at hi; omega)
  · by_cases h : i < l1.length
    · rw [List.getElem_append_left h]; exact h1' i h
    · rw [List.getElem_append_right (by omega)]; exact h2' _ (by simp at hi; omega)
  · simp only [Nat.zero_add]
    by_cases h : i < l1.length
    · simp only [List.getElem_append_left h] at hj ⊢; exact r1 i j h hj
    · simp only [List.getElem_append_right (show l1.length ≤ i by omega)] at hj ⊢
      have := r2 (i - l1.length) j (by simp at hi; omega) hj
      rwa [show l1.length + (i - l1.length) = i by omega] at this

set_option maxHeartbeats 4000000 in
theorem s_append {P : Program} {G : Ghost} {φ : Name → Loc} {m : Mem} {σ : S} {a : Act} {w : World} (hC : Conc G φ m σ a w) {t : Name} {T1 T2 ty : TypeId} {s x : D} {us ux : Value}
    (hs : RepD φ σ.obj m s us) (hx : RepD φ σ.obj m x ux) (hok : (aAppend P σ.obj t T1 T2 s x).ok) :
    ∃ v w', (Builtin.append_ #[T1, T2] ty #[us, ux]).run P w = .ok v w' ∧ Done G σ a (aAppend P σ.obj t T1 T2 s x) v w' := by
  unfold aAppend at hok ⊢
  split at hok
  · rename_i e sz by_ p hT1 hT2
    obtain ⟨e2, sz2, by2⟩ := p
    obtain ⟨hu1, i, hi, hisz, hiby⟩ := tElem_spec hT1
    obtain ⟨hu2, _⟩ := tElem_spec hT2
    split at hok
    · rename_i z hz
      have hzi : i.zero = some z := by unfold tZero at hz; simpa [hi] using hz
      have grown : ∀ (base : Option Addr) (l1 : List V) (cap : Nat) (row1 : Nat → Nat → Value), us = .slice base l1.length cap →
          cap < l1.length + (srcL σ.obj x).2.length →
          (srcL σ.obj x).1 → (∀ y ∈ (srcL σ.obj x).2, y.cells.length = sz ∧ y.okc = true) → z.cells.size = sz → (l1.length + (srcL σ.obj x).2.length) * by_ ≤ 140737488355328 →
          l1.length + (srcL σ.obj x).2.length ≤ maxLen →
          (∀ i (h : i < l1.length), l1[i].cells.length = sz) → (∀ i (h : i < l1.length), ∀ x ∈ l1[i].cells, x.one = true) →
          (Builtin.firstCells i.size l1.length us).run P w.drew = .ok (rowOf row1 l1.length sz).toArray w.drew →
          (∀ i j (h : i < l1.length) (h' : j < l1[i].cells.length), RepV m l1[i].cells[j] (row1 i j)) →
          ∃ w' cap' arr, (Builtin.append_ #[T1, T2] ty #[us, ux]).run P w = .ok (.slice (some ⟨w.heap.size, 0, none⟩) (l1.length + (srcL σ.obj x).2.length) cap') w' ∧
            w' = { w with heap := w.heap.push (.cells arr e), drawn := w.drawn + 1 } ∧
            ∀ φ' obj', SatO φ' obj' m (.arr sz (l1 ++ (srcL σ.obj x).2)) ⟨w.heap.size, 0, cap', false, none⟩ w' := by
        intro base l1 cap row1 hval hlt h1 h2 h3 h4 h5 h6 h6' hfirst hrow1
        obtain ⟨b2, cap2, c2, hux, r⟩ := reads_src hC hx h1 (fun y hy => (h2 y hy).1)
        have hsrc := r.src (P := P) hu2
        rw [← hux] at hsrc
        have hones2 := r.oneV
        have hn : 0 < l1.length + (srcL σ.obj x).2.length := by omega
        have hcapS := nextslicecap_le (old := cap) (need := l1.length + (srcL σ.obj x).2.length) hlt
        subst hval
        have hrun := run_append_grow_src (P := P) w T1 T2 ty e i z hu1 hi hzi base l1.length cap (rowOf row1 l1.length sz) hfirst ux (srcL σ.obj x).2.length
          (rowOf c2 (srcL σ.obj x).2.length sz) (by rw [hisz]; exact hsrc) hlt (by unfold maxLen at h5; omega)
          (by rw [hiby]; calc _ ≤ 2 * (l1.length + (srcL σ.obj x).2.length) * by_ := Nat.mul_le_mul_right _ hcapS
              _ = 2 * ((l1.length + (srcL σ.obj x).2.length) * by_) := by rw [Nat.mul_assoc]
              _ ≤ _ := by omega)
        refine ⟨_, _, _, hrun, rfl, fun φ' obj' => ?_⟩
        have hge := grownCap_ge w (l1.length + (srcL σ.obj x).2.length) cap e
        have hle := grownCap_le_maxLen w (l1.length + (srcL σ.obj x).2.length) cap e h5
        generalize grownCap w (l1.length + (srcL σ.obj x).2.length) cap e = gc at *
        refine satO_grown (w' := { w with heap := w.heap.push _, drawn := w.drawn + 1 }) (T := e) (us := _) (by show (w.heap.push _)[w.heap.size]? = _; simp; rfl) hge hle ?_ h6 h6' (fun k hk => (h2 _ (List.getElem_mem hk)).1) hones2 ?_ ?_
        · simp only [Array.size_append, List.size_toArray, List.length_append, rowOf_len, Builtin.zeroCells, Array.size_map, Array.size_range, h3]
          have : l1.length * sz + (srcL σ.obj x).2.length * sz + (gc - (l1.length + (srcL σ.obj x).2.length)) * sz = gc * sz := by
            rw [← Nat.add_mul, ← Nat.add_mul]; congr 1; omega
          omega
        · intro q j hq hj
          have hjs : j < sz := by rw [← h6 q hq]; exact hj
          refine ⟨row1 q j, ?_, hrow1 q j hq hj⟩
          have hlt' : q * sz + j < l1.length * sz := by
            have : (q + 1) * sz ≤ l1.length * sz := Nat.mul_le_mul_right _ (by omega)
            rw [Nat.add_mul, Nat.one_mul] at this; omega
          rw [Array.getElem?_append_left (by simp [rowOf_len]; omega)]
          rw [List.getElem?_toArray, List.getElem?_append_left (by rw [rowOf_len]; omega)]
          exact rowOf_get row1 hq hjs
        · intro q j hq hj
          have hjs : j < sz := by rw [← (h2 _ (List.getElem_mem hq)).1]; exact hj
          refine ⟨c2 q j, ?_, r.rep q j hq hj⟩
          have hlt' : q * sz + j < (srcL σ.obj x).2.length * sz := by
            have : (q + 1) * sz ≤ (srcL σ.obj x).2.length * sz := Nat.mul_le_mul_right _ (by omega)
            rw [Nat.add_mul, Nat.one_mul] at this; omega
          have e9 : (l1.length + q) * sz + j = l1.length * sz + (q * sz + j) := by rw [Nat.add_mul]; omega
          rw [e9, Array.getElem?_append_left (by simp [rowOf_len]; omega)]
          rw [List.getElem?_toArray, List.getElem?_append_right (by rw [rowOf_len]; omega), rowOf_len, Nat.add_sub_cancel_left]
          exact rowOf_get c2 hq hjs
      split at hok
      · -- from nothing
        obtain ⟨h1, h2, h3, h4, h5, h6⟩ := hok
        try simp only [hT1, hT2, hz]
        cases hs with
        | nilsl base =>
        by_cases hl : (srcL σ.obj x).2 = []
        · obtain ⟨b2, cap2, c2, hux, r⟩ := reads_src hC hx h1 (fun y hy => (h2 y hy).1)
          have hsrc := r.src (P := P) hu2
          rw [← hux] at hsrc
          rw [hl] at hsrc ⊢
          refine ⟨.slice base 0 0, w, ?_, ?_⟩
          · simp only [List.length_nil] at hsrc
            have e0 : rowOf c2 0 sz = [] := by simp [rowOf]
            rw [e0] at hsrc
            have hc := hsrc.cells
            rw [← hisz] at hc
            cases base with
            | none => simp [Builtin.append_, run_underlying hu1, run_underlying hu2, sizeOf, typeInfo, hi, hsrc.len, hc]
            | some ad => simp [Builtin.append_, run_underlying hu1, run_underlying hu2, sizeOf, typeInfo, hi, hsrc.len, hc, storeCells]
          · have hx' := Ext.new (φ := φ) h6 ⟨0, 0, 0, true, base⟩ (.arr sz [])
            refine ⟨upd φ (nmO t) ⟨0, 0, 0, true, base⟩, m, hC.chg (w' := w) (nmO t) (.arr sz []) ⟨0, 0, 0, true, base⟩ hx' ⟨rfl, rfl, rfl, Nat.le_refl _⟩ (fun _ _ _ => rfl)
              (fun h => by cases h) (.inl ⟨rfl, rfl⟩), ?_⟩
            refine .msl _ _ _ ⟨_, _, upd_same _ _ _, rfl, by simp, fun _ => ?_⟩ rfl
            rw [upd_same]; rfl
        · have hpos := len_pos hl
          obtain ⟨w', cap', arr, hrun, hw', hsat⟩ := grown base [] 0 (fun _ _ => undef) rfl (by simpa using hpos) h1 h2 h3 (by simpa using h4) (by simpa using h5) (fun i h => by simp at h) (fun i h => by simp at h)
            (by
              have e0 : rowOf (fun _ _ => undef) ([] : List V).length sz = [] := by simp [rowOf]
              rw [e0]
              cases base with
              | none => simp [Builtin.firstCells]
              | some ad => simp [Builtin.firstCells, loadCells, loadCellsFrom]) (fun i j h => by simp at h)
          refine ⟨_, _, hrun, ?_⟩
          subst hw'
          have hx' := Ext.new (φ := φ) h6 ⟨w.heap.size, 0, cap', false, none⟩ (.arr sz (srcL σ.obj x).2)
          refine ⟨upd φ (nmO t) ⟨w.heap.size, 0, cap', false, none⟩, m, hC.chg (nmO t) _ ⟨w.heap.size, 0, cap', false, none⟩ hx' ⟨rfl, rfl, rfl, by show w.heap.size ≤ (w.heap.push _).size; simp⟩
            (fun b hb _ => heap_push_lt hb) (fun _ => .inl (Nat.le_refl _)) (hsat _ _), ?_⟩
          refine .msl _ _ _ ⟨_, _, upd_same _ _ _, rfl, by simp, fun _ => ?_⟩ rfl
          rw [upd_same]
          simp [Loc.slice]
      · rename_i nm k
        split at hok
        · rename_i s' l hnm
          obtain ⟨h1, h2, h3, h4, h5, h6, h7⟩ := hok
          subst h7
          simp only [hT1, hT2, hz, hnm]
          cases hs with
          | msl _ _ _ hs hu' =>
          obtain ⟨o, n, hnm', hlen, hk, hval⟩ := hs
          rw [hnm] at hnm'; cases hnm'
          simp only [O.len?, Option.some.injEq] at hlen
          subst hlen
          have e9 := hval h6
          subst e9
          subst h6
          by_cases hl : (srcL σ.obj x).2 = [] ∧ (φ nm).nul = true
          · obtain ⟨hl, hnul⟩ := hl
            have hlnil : l = [] := by
              rcases hC.objs nm _ hnm with ⟨_, h⟩ | ⟨h, _⟩
              · exact h
              · rw [hnul] at h; cases h
            subst hlnil
            obtain ⟨b2, cap2, c2, hux, r⟩ := reads_src hC hx h1 (fun y hy => (h2 y hy).1)
            have hsrc := r.src (P := P) hu2
            rw [← hux] at hsrc
            rw [hl] at hsrc ⊢
            simp only [Loc.slice, hnul, if_true]
            refine ⟨.slice (φ nm).nb 0 0, w, ?_, ?_⟩
            · simp only [List.length_nil] at hsrc
              have e0 : rowOf c2 0 s' = [] := by simp [rowOf]
              rw [e0] at hsrc
              have hc := hsrc.cells
              rw [← hisz] at hc
              cases (φ nm).nb with
              | none => simp [Builtin.append_, run_underlying hu1, run_underlying hu2, sizeOf, typeInfo, hi, hsrc.len, hc]
              | some ad => simp [Builtin.append_, run_underlying hu1, run_underlying hu2, sizeOf, typeInfo, hi, hsrc.len, hc, storeCells]
            · refine ⟨φ, m, ?_, ?_⟩
              · have : upd σ.obj nm (some (.arr s' ([] ++ []))) = σ.obj := by
                  have := upd_id σ.obj nm
                  rw [hnm] at this
                  simpa using this
                simp only [this]
                exact hC
              · refine .msl _ _ _ ⟨_, _, upd_same _ _ _, rfl, by simp, fun _ => ?_⟩ rfl
                simp [Loc.slice, hnul]
          · obtain ⟨b2, cap2, c2, hux, r⟩ := reads_src hC hx h1 (fun y hy => (h2 y hy).1)
            have hsrc := r.src (P := P) hu2
            rw [← hux] at hsrc
            rcases hC.objs nm _ hnm with ⟨hnul, hlnil⟩ | ⟨g0, g1, g2, g3, g4, us', T', f, g5, g6, g7, g8⟩
            · subst hlnil
              have hne : (srcL σ.obj x).2 ≠ [] := fun e => hl ⟨e, hnul⟩
              have hpos := len_pos hne
              simp only [Loc.slice, hnul, if_true] at grown ⊢
              obtain ⟨w', cap', arr, hrun, hw', hsat⟩ := grown (φ nm).nb [] 0 (fun _ _ => undef) rfl (by simpa using hpos) h1 h2 h3 h4 h5 (fun i h => by simp at h) (fun i h => by simp at h)
                (by
                  have e0 : rowOf (fun _ _ => undef) ([] : List V).length s' = [] := by simp [rowOf]
                  rw [e0]
                  cases (φ nm).nb with
                  | none => simp [Builtin.firstCells]
                  | some ad => simp [Builtin.firstCells, loadCells, loadCellsFrom]) (fun i j h => by simp at h)
              refine ⟨_, _, hrun, ?_⟩
              subst hw'
              have hx' := Ext.grow (φ := φ) (o' := .arr s' ([] ++ (srcL σ.obj x).2)) hnm rfl rfl (by simpa using hpos) ⟨w.heap.size, 0, cap', false, none⟩
              refine ⟨upd φ nm ⟨w.heap.size, 0, cap', false, none⟩, m, hC.chg nm _ ⟨w.heap.size, 0, cap', false, none⟩ hx' ⟨rfl, rfl, rfl, by show w.heap.size ≤ (w.heap.push _).size; simp⟩
                (fun b hb _ => heap_push_lt hb) (fun _ => .inl (Nat.le_refl _)) (hsat _ _), ?_⟩
              refine .msl _ _ _ ⟨_, _, upd_same _ _ _, rfl, by simp, fun _ => ?_⟩ rfl
              rw [upd_same]
              simp [Loc.slice]
            · have hblk : (φ nm).blk < w.heap.size := (Array.getElem?_eq_some_iff.1 g5).1
              simp only [Loc.slice, g0, Bool.false_eq_true, if_false] at grown ⊢
              by_cases hroom : l.length + (srcL σ.obj x).2.length ≤ (φ nm).cap
              · -- room
                have hmulr : (l.length + (srcL σ.obj x).2.length) * s' ≤ (φ nm).cap * s' := Nat.mul_le_mul_right _ hroom
                rw [Nat.add_mul] at hmulr
                obtain ⟨us2, k1, k2, k3⟩ := run_storeCells_run P (φ nm).blk ((φ nm).off + l.length * s') T' f g6 (rowOf c2 (srcL σ.obj x).2.length s') 0 us' w g5 (by rw [rowOf_len]; omega)
                  (fun v hv => by
                    have := hsrc.one v hv
                    cases v <;> simp_all [oneC, Value.oneCell'])
                refine ⟨.slice (some ⟨(φ nm).blk, (φ nm).off, none⟩) (l.length + (srcL σ.obj x).2.length) (φ nm).cap, wset w (φ nm).blk (.cells us2 T' f), ?_, ?_⟩
                · have hc := hsrc.cells
                  rw [← hisz] at hc k3
                  simp [Builtin.append_, run_underlying hu1, run_underlying hu2, sizeOf, typeInfo, hi, hsrc.len, hc, hroom, addr_add, k3]
                · have hspec : SatO (upd φ nm (φ nm)) (upd σ.obj nm (some (.arr s' (l ++ (srcL σ.obj x).2)))) m (.arr s' (l ++ (srcL σ.obj x).2)) (φ nm) (wset w (φ nm).blk (.cells us2 T' f)) := by
                    refine .inr ⟨g0, by simpa using hroom, g2, fun q hq => ?_, fun q hq => ?_, us2, T', f, wset_same hblk, g6, by rw [k1]; exact g7, fun q j hq hj => ?_⟩
                    · by_cases h : q < l.length
                      · rw [List.getElem_append_left h]; exact g3 q h
                      · rw [List.getElem_append_right (by omega)]; exact (h2 _ (List.getElem_mem _)).1
                    · by_cases h : q < l.length
                      · rw [List.getElem_append_left h]; exact g4 q h
                      · rw [List.getElem_append_right (by omega)]
                        exact r.oneV _ _
                    · rw [k2]
                      simp only [Nat.add_zero, rowOf_len]
                      by_cases h : q < l.length
                      · simp only [List.getElem_append_left h] at hj ⊢
                        have hjs : j < s' := by rw [← g3 q h]; exact hj
                        have hlt' : q * s' + j < l.length * s' := by
                          have : (q + 1) * s' ≤ l.length * s' := Nat.mul_le_mul_right _ (by omega)
                          rw [Nat.add_mul, Nat.one_mul] at this; omega
                        rw [if_neg (by omega)]
                        exact g8 q j h hj
                      · simp only [List.getElem_append_right (show l.length ≤ q by omega)] at hj ⊢
                        have hql : q - l.length < (srcL σ.obj x).2.length := by simp at hq; omega
                        have hjs : j < s' := by rw [← (h2 _ (List.getElem_mem hql)).1]; exact hj
                        have hlt' : (q - l.length) * s' + j < (srcL σ.obj x).2.length * s' := by
                          have : (q - l.length + 1) * s' ≤ (srcL σ.obj x).2.length * s' := Nat.mul_le_mul_right _ (by omega)
                          rw [Nat.add_mul, Nat.one_mul] at this; omega
                        have e10 : q * s' = l.length * s' + (q - l.length) * s' := by rw [← Nat.add_mul]; congr 1; omega
                        rw [if_pos (by omega)]
                        refine ⟨c2 (q - l.length) j, ?_, r.rep _ _ hql hj⟩
                        rw [show (φ nm).off + q * s' + j - ((φ nm).off + l.length * s') = (q - l.length) * s' + j by omega]
                        exact rowOf_get c2 hql hjs
                  by_cases hl2 : (srcL σ.obj x).2 = []
                  · have hx' := Ext.same (φ := φ) (o' := .arr s' (l ++ (srcL σ.obj x).2)) hnm (by simp [O.len?, hl2]) rfl
                    have := hC.chg (w' := wset w (φ nm).blk (.cells us2 T' f)) nm (.arr s' (l ++ (srcL σ.obj x).2)) (φ nm) hx' ⟨rfl, rfl, rfl, by simp [wset]⟩
                      (fun b hb hn => wset_ne (by rcases hn with h | h; · rw [g0] at h; cases h
                                                  · exact h))
                      (fun _ => .inr ⟨⟨_, hnm, rfl, g0⟩, rfl⟩) hspec
                    refine ⟨_, m, this, ?_⟩
                    refine .msl _ _ _ ⟨_, _, upd_same _ _ _, rfl, by simp, fun _ => ?_⟩ rfl
                    rw [upd_same]
                    simp [Loc.slice, g0]
                  · have hpos := len_pos hl2
                    have hx' := Ext.grow (φ := φ) (o' := .arr s' (l ++ (srcL σ.obj x).2)) hnm rfl rfl (by simp; omega) (φ nm)
                    have := hC.chg (w' := wset w (φ nm).blk (.cells us2 T' f)) nm (.arr s' (l ++ (srcL σ.obj x).2)) (φ nm) hx' ⟨rfl, rfl, rfl, by simp [wset]⟩
                      (fun b hb hn => wset_ne (by rcases hn with h | h; · rw [g0] at h; cases h
                                                  · exact h))
                      (fun _ => .inr ⟨⟨_, hnm, rfl, g0⟩, rfl⟩) hspec
                    refine ⟨_, m, this, ?_⟩
                    refine .msl _ _ _ ⟨_, _, upd_same _ _ _, rfl, by simp, fun _ => ?_⟩ rfl
                    rw [upd_same]
                    simp [Loc.slice, g0]
              · -- a new row
                have hpos : 0 < (srcL σ.obj x).2.length := by omega
                have hcl : ∀ i j, i < l.length → j < s' → w.cell? ⟨(φ nm).blk, (φ nm).off + i * s' + j, none⟩ = some ((us'[(φ nm).off + i * s' + j]?).getD undef) := by
                  intro i j hi hj
                  obtain ⟨c, x1, x2⟩ := g8 i j hi (by rw [g3]; exact hj)
                  rw [cell?_of g5, x1]; rfl
                obtain ⟨w', cap', arr, hrun, hw', hsat⟩ := grown (some ⟨(φ nm).blk, (φ nm).off, none⟩) l (φ nm).cap (fun i j => (us'[(φ nm).off + i * s' + j]?).getD undef) rfl (by omega) h1 h2 h3 h4 h5 g3 g4
                  (by
                    have := run_firstCells_some (P := P) w.drew i.size l.length ⟨(φ nm).blk, (φ nm).off, none⟩ l.length (φ nm).cap (rowOf (fun i j => (us'[(φ nm).off + i * s' + j]?).getD undef) l.length s')
                      (by rw [rowOf_len, hisz]) (by intro j v hv; simpa using rowOf_cell hcl j v hv)
                    exact this)
                  (fun i j hi hj => by
                    obtain ⟨c, x1, x2⟩ := g8 i j hi hj
                    rw [x1]; exact x2)
                refine ⟨_, _, hrun, ?_⟩
                subst hw'
                have hx' := Ext.grow (φ := φ) (o' := .arr s' (l ++ (srcL σ.obj x).2)) hnm rfl rfl (by simp; omega) ⟨w.heap.size, 0, cap', false, none⟩
                refine ⟨upd φ nm ⟨w.heap.size, 0, cap', false, none⟩, m, hC.chg nm _ ⟨w.heap.size, 0, cap', false, none⟩ hx' ⟨rfl, rfl, rfl, by show w.heap.size ≤ (w.heap.push _).size; simp⟩
                  (fun b hb _ => heap_push_lt hb) (fun _ => .inl (Nat.le_refl _)) (hsat _ _), ?_⟩
                refine .msl _ _ _ ⟨_, _, upd_same _ _ _, rfl, by simp, fun _ => ?_⟩ rfl
                rw [upd_same]
                simp [Loc.slice]
        · exact hok.elim
      · exact hok.elim
    · exact hok.elim
  · exact hok.elim

end Go.Eng
/- The engine's eleventh text: maps, choices, function values, parts of structs and strings. -/
namespace Go.Eng
open Go

/-! choices -/

def aPick (obj : Name → Option O) (c x y : D) : R :=
  match c with
  | .v (.bool b) => ⟨True, match x, y with
    | .v (.bool p), .v (.bool q) => .v (.bool (if b then p else q))
    | x, y => if b then x else y, obj⟩
  | _ => .bad obj

theorem aPick_rep {φ : Name → Loc} {obj : Name → Option O} {m : Mem} {b : Bool} {x y : D} {u : Value} (h : RepD φ obj m (if b then x else y) u) : RepD φ obj m (aPick obj (.v (.bool b)) x y).d u := by
  unfold aPick
  simp only
  split
  · rename_i p q
    cases b with
    | true => simpa using h
    | false => simpa using h
  · exact h

/-! function values -/

def aFunc (obj : Name → Option O) (fn : Fn) (f c : List D) : R := ⟨True, .clo fn f c, obj⟩

/-! parts of structs and of strings -/

def aField (P : Program) (obj : Name → Option O) (T : TypeId) (x : D) (f : Nat) : R :=
  match tField P T f, x with
  | some (off, n, true), .agg l => ⟨off + n ≤ l.length, .agg ((l.drop off).take n), obj⟩
  | some (off, _, false), .agg l => ⟨off < l.length, l.getD off .any, obj⟩
  | some (off, n, true), .v (.agg l) => ⟨off + n ≤ l.length, .v (.agg ((l.drop off).take n)), obj⟩
  | some (off, _, false), .v (.agg l) => ⟨off < l.length, .v (l.getD off default), obj⟩
  | _, _ => .bad obj

theorem run_part {P : Program} {t : TypeId} {b : Bool} {n : Nat} (h : tAgg P t = some (b, n)) (cs : Array Value) (off : Nat) (hb : b = false → off < cs.size) (w : World) :
    (part t cs off).run P w = .ok (if b then .agg (cs.extract off (off + n)) else cs.getD off undef) w := by
  simp only [part, Sem.run_bind, run_isAgg h, Result.andThen_ok, Sem.run_ite, run_sizeOf' h, Sem.run_pure]
  cases b with
  | true => simp
  | false =>
    have := hb rfl
    simp [Array.getElem?_eq_getElem this, Array.getD, this]

theorem RepD.aggPart {φ : Name → Loc} {obj : Name → Option O} {m : Mem} {l : List D} {us : Array Value} (hl : l.length = us.size) (ho : ∀ d ∈ l, d.one = true)
    (hr : ∀ i (h : i < l.length) (h' : i < us.size), RepD φ obj m l[i] us[i]) {off n : Nat} (h : off + n ≤ l.length) :
    RepD φ obj m (.agg ((l.drop off).take n)) (.agg (us.extract off (off + n))) := by
  refine .agg _ _ (by simp; omega) (fun d hd => ho d (List.mem_of_mem_drop (List.mem_of_mem_take hd))) fun i h1 h2 => ?_
  simp only [List.length_take, List.length_drop] at h1
  simp only [List.getElem_take, List.getElem_drop, Array.getElem_extract]
  exact hr _ (by omega) (by omega)
theorem RepV.aggPart {m : Mem} {l : List V} {us : Array Value} (hl : l.length = us.size) (ho : ∀ d ∈ l, d.one = true)
    (hr : ∀ i (h : i < l.length) (h' : i < us.size), RepV m l[i] us[i]) {off n : Nat} (h : off + n ≤ l.length) :
    RepV m (.agg ((l.drop off).take n)) (.agg (us.extract off (off + n))) := by
  refine .agg _ _ (by simp; omega) (fun d hd => ho d (List.mem_of_mem_drop (List.mem_of_mem_take hd))) fun i h1 h2 => ?_
  simp only [List.length_take, List.length_drop] at h1
  simp only [List.getElem_take, List.getElem_drop, Array.getElem_extract]
  exact hr _ (by omega) (by omega)

theorem s_field {P : Program} {φ : Name → Loc} {obj : Name → Option O} {m : Mem} {T : TypeId} {f : Nat} {x : D} {u : Value} (w : World)
    (hx : RepD φ obj m x u) (hok : (aField P obj T x f).ok) :
    ∃ v, (Instr.field T u f).run P w = .ok v w ∧ RepD φ obj m (aField P obj T x f).d v ∧ (aField P obj T x f).obj = obj := by
  have hrun : ∀ {off n : Nat} {ag : Bool} {us : Array Value}, tField P T f = some (off, n, ag) → (ag = false → off < us.size) →
      (Instr.field T (.agg us) f).run P w = .ok (if ag then .agg (us.extract off (off + n)) else us.getD off undef) w := by
    intro off n ag us h hb
    unfold tField at h
    split at h
    · rename_i fs hu
      cases hf : fs[f]? with
      | none => simp [hf] at h
      | some x =>
        simp only [hf, Option.bind_some, Option.map_eq_some_iff, Prod.mk.injEq] at h
        obtain ⟨y, h1, h2, h3, h4⟩ := h
        obtain ⟨y1, y2⟩ := y
        simp only at h3 h4
        subst h3 h4 h2
        simp only [Instr.field, Sem.run_bind, run_underlying hu, Result.andThen_ok, hf, asAgg, Sem.run_pure]
        exact run_part h1 us _ hb w
    · cases h
  unfold aField at hok ⊢
  split at hok
  · rename_i off n l hT
    cases hx with
    | agg _ us hl ho hr =>
    exact ⟨_, hrun hT (by simp), by simpa [hT] using RepD.aggPart hl ho hr hok, by simp [hT]⟩
  · rename_i off n l hT
    cases hx with
    | agg _ us hl ho hr =>
    have hok' : off < l.length := hok
    refine ⟨_, hrun hT (fun _ => by omega), ?_, by simp [hT]⟩
    simp only [hT, Bool.false_eq_true, if_false]
    rw [getD_lt hok']
    have : off < us.size := by omega
    simp only [Array.getD, this, dite_true]
    exact hr off hok' this
  · rename_i off n l hT
    cases hx with
    | v _ _ hx =>
    cases hx with
    | agg _ us hl ho hr =>
    exact ⟨_, hrun hT (by simp), by simpa [hT] using .v _ _ (RepV.aggPart hl ho hr hok), by simp [hT]⟩
  · rename_i off n l hT
    cases hx with
    | v _ _ hx =>
    cases hx with
    | agg _ us hl ho hr =>
    have hok' : off < l.length := hok
    refine ⟨_, hrun hT (fun _ => by omega), ?_, by simp [hT]⟩
    simp only [hT, Bool.false_eq_true, if_false]
    rw [getD_lt hok']
    have : off < us.size := by omega
    simp only [Array.getD, this, dite_true]
    exact .v _ _ (hr off hok' this)
  · exact hok.elim

def aIndex (P : Program) (obj : Name → Option O) (T : TypeId) (x i : D) : R :=
  match x, i with
  | .v (.str s), .v (.int _ n) => ⟨tLen P T = some 1 ∧ 0 ≤ n ∧ n < s.size, .v (.int .u8 (s.data.getD n.toNat 0).toNat), obj⟩
  | .agg l, .v (.int _ n) => match tArr P T with
    | some (len, sz, true) => ⟨0 ≤ n ∧ n < len ∧ n.toNat * sz + sz ≤ l.length, .agg ((l.drop (n.toNat * sz)).take sz), obj⟩
    | some (len, sz, false) => ⟨0 ≤ n ∧ n < len ∧ n.toNat * sz < l.length, l.getD (n.toNat * sz) .any, obj⟩
    | _ => .bad obj
  | .v (.agg l), .v (.int _ n) => match tArr P T with
    | some (len, sz, true) => ⟨0 ≤ n ∧ n < len ∧ n.toNat * sz + sz ≤ l.length, .v (.agg ((l.drop (n.toNat * sz)).take sz)), obj⟩
    | some (len, sz, false) => ⟨0 ≤ n ∧ n < len ∧ n.toNat * sz < l.length, .v (l.getD (n.toNat * sz) default), obj⟩
    | _ => .bad obj
  | _, _ => .bad obj

theorem s_index {P : Program} {φ : Name → Loc} {obj : Name → Option O} {m : Mem} {T : TypeId} {x i : D} {u ui : Value} (w : World)
    (hx : RepD φ obj m x u) (hi : RepD φ obj m i ui) (hok : (aIndex P obj T x i).ok) :
    ∃ v, (Instr.index T u ui).run P w = .ok v w ∧ RepD φ obj m (aIndex P obj T x i).d v ∧ (aIndex P obj T x i).obj = obj := by
  have hrun : ∀ {len sz : Nat} {ag : Bool} {us : Array Value} {k : IntKind} {n : Int}, tArr P T = some (len, sz, ag) → 0 ≤ n → n < len → (ag = false → n.toNat * sz < us.size) →
      (Instr.index T (.agg us) (.int k n)).run P w = .ok (if ag then .agg (us.extract (n.toNat * sz) (n.toNat * sz + sz)) else us.getD (n.toNat * sz) undef) w := by
    intro len sz ag us k n h h0 h1 hb
    unfold tArr at h
    split at h
    · rename_i n' e hu
      simp only [Option.map_eq_some_iff, Prod.mk.injEq] at h
      obtain ⟨y, h2, h3, h4, h5⟩ := h
      obtain ⟨y1, y2⟩ := y
      simp only at h4 h5
      subst h3 h4 h5
      have hs := fun w => run_sizeOf' (P := P) (t := e) h2 w
      have hp := fun w => run_part h2 us (n.toNat * y2) hb w
      simp [Instr.index, asIntOf, run_underlying hu, h0, h1, hs, hp]
    · cases h
  unfold aIndex at hok ⊢
  split at hok
  · rename_i s k n
    obtain ⟨hT, h0, h1⟩ := hok
    have hu := tLen_string hT
    cases hx with
    | v _ _ hx =>
    cases hi with
    | v _ _ hi =>
    cases hx; cases hi
    have hlt : n.toNat < s.size := by omega
    refine ⟨.int .u8 (s.data.getD n.toNat 0).toNat, ?_, .v _ _ (.int _ _), rfl⟩
    have e : s[n.toNat]? = some (s.data.getD n.toNat 0) := by
      have hlt' : n.toNat < s.data.size := hlt
      rw [getElem?_pos s n.toNat hlt]
      simp only [Array.getD, hlt', dite_true]
      rfl
    simp [Instr.index, asIntOf, run_underlying hu, h0, e]
  · rename_i l k n
    cases hi with
    | v _ _ hi =>
    cases hi
    cases hx with
    | agg _ us hl ho hr =>
    split at hok
    · rename_i len sz hT
      obtain ⟨h0, h1, h2⟩ := hok
      exact ⟨_, hrun hT h0 h1 (by simp), by simpa [hT] using RepD.aggPart hl ho hr h2, by simp [hT]⟩
    · rename_i len sz hT
      obtain ⟨h0, h1, h2⟩ := hok
      refine ⟨_, hrun hT h0 h1 (fun _ => by omega), ?_, by simp [hT]⟩
      simp only [hT, Bool.false_eq_true, if_false]
      rw [getD_lt h2]
      have : n.toNat * sz < us.size := by omega
      simp only [Array.getD, this, dite_true]
      exact hr _ h2 this
    · exact hok.elim
  · rename_i l k n
    cases hi with
    | v _ _ hi =>
    cases hi
    cases hx with
    | v _ _ hx =>
    cases hx with
    | agg _ us hl ho hr =>
    split at hok
    · rename_i len sz hT
      obtain ⟨h0, h1, h2⟩ := hok
      exact ⟨_, hrun hT h0 h1 (by simp), by simpa [hT] using .v _ _ (RepV.aggPart hl ho hr h2), by simp [hT]⟩
    · rename_i len sz hT
      obtain ⟨h0, h1, h2⟩ := hok
      refine ⟨_, hrun hT h0 h1 (fun _ => by omega), ?_, by simp [hT]⟩
      simp only [hT, Bool.false_eq_true, if_false]
      rw [getD_lt h2]
      have : n.toNat * sz < us.size := by omega
      simp only [Array.getD, this, dite_true]
      exact .v _ _ (hr _ h2 this)
    · exact hok.elim
  · exact hok.elim

/-! maps -/

def mget : List (V × V) → V → Option V
  | [], _ => none
  | (k', x) :: r, k => if keq k' k = true then some x else mget r k
def mset : List (V × V) → V → V → List (V × V)
  | [], k, x => [(k, x)]
  | (k', y) :: r, k, x => if keq k' k = true then (k, x) :: r else (k', y) :: mset r k x

def keyD (P : Program) (T : TypeId) (kd : Nat) (d : TypeDesc) : Prop :=
  ∃ k e, P.underlying T = some (.map k e) ∧ P.underlying k = some d ∧ ((kd = 0 ∧ d = .int .i64) ∨ (kd = 1 ∧ d = .string))

theorem keyIs0 {x : V} (h : keyIs 0 x = true) : ∃ n, x = .int .i64 n := by
  cases x with
  | int k n => cases k <;> simp_all [keyIs]
  | _ => simp [keyIs] at h
theorem keyIs1 {x : V} (h : keyIs 1 x = true) : ∃ s, x = .str s := by
  cases x with
  | str s => exact ⟨s, rfl⟩
  | _ => simp [keyIs] at h

theorem isKey_of {m : Mem} {kd : Nat} {d : TypeDesc} (hd : (kd = 0 ∧ d = .int .i64) ∨ (kd = 1 ∧ d = .string)) {x : V} {u : Value} (hx : RepV m x u) (hk : keyIs kd x = true) : MapKept.IsKey d u := by
  rcases hd with ⟨rfl, rfl⟩ | ⟨rfl, rfl⟩
  · obtain ⟨n, rfl⟩ := keyIs0 hk
    cases hx
    simp [MapKept.IsKey]
  · obtain ⟨n, rfl⟩ := keyIs1 hk
    cases hx
    simp [MapKept.IsKey]

theorem keq_sameNow {m : Mem} {kd : Nat} {d : TypeDesc} (hd : (kd = 0 ∧ d = .int .i64) ∨ (kd = 1 ∧ d = .string)) {x y : V} {u v : Value} (hx : RepV m x u) (hy : RepV m y v)
    (hk : keyIs kd x = true) (hk' : keyIs kd y = true) : Instr.sameNow d u v = some (keq y x) := by
  rcases hd with ⟨rfl, rfl⟩ | ⟨rfl, rfl⟩
  · obtain ⟨n, rfl⟩ := keyIs0 hk
    obtain ⟨n', rfl⟩ := keyIs0 hk'
    cases hx; cases hy
    simp only [Instr.sameNow, keq, if_true]
    congr 1
    rw [Bool.eq_iff_iff]
    simp only [beq_iff_eq]
    exact eq_comm
  · obtain ⟨n, rfl⟩ := keyIs1 hk
    obtain ⟨n', rfl⟩ := keyIs1 hk'
    cases hx; cases hy
    simp only [Instr.sameNow, keq]
    congr 1
    rw [Bool.eq_iff_iff, MapKept.bytes_beq, MapKept.bytes_beq, eq_comm]

theorem findNow_abs {m : Mem} {kd : Nat} {d : TypeDesc} (hd : (kd = 0 ∧ d = .int .i64) ∨ (kd = 1 ∧ d = .string)) {x : V} {u : Value} (hx : RepV m x u) (hk : keyIs kd x = true) (z : V) :
    ∀ (es : List (V × V)) (ents : List MapEntry) (i : Nat), es.length = ents.length → (∀ p ∈ es, keyIs kd p.1 = true) →
      (∀ j (h : j < es.length) (h' : j < ents.length), RepV m es[j].1 ents[j].key ∧ RepV m es[j].2 ents[j].val) →
      (mget es x = none ∧ Instr.findNow d u ents i = some none ∧ mset es x z = es ++ [(x, z)]) ∨
      ∃ (j : Nat) (h : j < es.length) (h' : j < ents.length), mget es x = some es[j].2 ∧ Instr.findNow d u ents i = some (some (i + j, ents[j].val)) ∧ ents[j].key = u ∧ mset es x z = es.set j (x, z)
  | [], ents, i, hl, _, _ => by
    have : ents = [] := by cases ents <;> simp_all
    subst this
    exact .inl ⟨rfl, rfl, rfl⟩
  | (k', y) :: r, [], i, hl, _, _ => by simp at hl
  | (k', y) :: r, e :: ents, i, hl, hks, hr => by
    have h0 := hr 0 (by simp) (by simp)
    simp only [List.getElem_cons_zero] at h0
    have hk' : keyIs kd k' = true := hks (k', y) (by simp)
    have hs := keq_sameNow hd hx h0.1 hk hk'
    by_cases hq : keq k' x = true
    · refine .inr ⟨0, by simp, by simp, by simp [mget, hq], by simp [Instr.findNow, hs, hq], ?_, by simp [mset, hq]⟩
      obtain ⟨b, hb, hiff⟩ := MapKept.sameNow_of_keys (isKey_of hd hx hk) (isKey_of hd h0.1 hk')
      rw [hs] at hb
      simp only [Option.some.injEq] at hb
      exact (hiff.1 (by rw [← hb]; exact hq)).symm
    · have hq' : keq k' x = false := by simpa using hq
      rcases findNow_abs hd hx hk z r ents (i + 1) (by simpa using hl) (fun p hp => hks p (by simp [hp])) (fun j h h' => hr (j + 1) (by simpa using h) (by simpa using h')) with ⟨h1, h2, h3⟩ | ⟨j, h, h', h1, h2, h3, h4⟩
      · exact .inl ⟨by simp [mget, hq', h1], by simp [Instr.findNow, hs, hq', h2], by simp [mset, hq', h3]⟩
      · refine .inr ⟨j + 1, by simpa using h, by simpa using h', by simp [mget, hq', h1], ?_, by simpa using h3, by simp [mset, hq', h4]⟩
        simp only [Instr.findNow, hs, hq', h2, List.getElem_cons_succ]
        rw [show i + 1 + j = i + (j + 1) by omega]

/-- The types of keys that are served. -/
def KeyTy (P : Program) (kt : TypeId) (kd : Nat) : Prop :=
  (kd = 0 ∧ P.underlying kt = some (.int .i64)) ∨ (kd = 1 ∧ P.underlying kt = some .string) ∨ (kd = 2 ∧ pairTy P kt = true)

theorem tMap_spec {P : Program} {T e : TypeId} {kd : Nat} (h : tMap P T = some (kd, e)) :
    ∃ k, P.underlying T = some (.map k e) ∧ KeyTy P k kd := by
  unfold tMap at h
  split at h
  · rename_i k e' hu
    split at h
    · rename_i hk
      simp only [Option.some.injEq, Prod.mk.injEq] at h
      obtain ⟨rfl, rfl⟩ := h
      exact ⟨k, hu, .inl ⟨rfl, hk⟩⟩
    · rename_i hk
      simp only [Option.some.injEq, Prod.mk.injEq] at h
      obtain ⟨rfl, rfl⟩ := h
      exact ⟨k, hu, .inr (.inl ⟨rfl, hk⟩)⟩
    · split at h
      · rename_i hk
        simp only [Option.some.injEq, Prod.mk.injEq] at h
        obtain ⟨rfl, rfl⟩ := h
        exact ⟨k, hu, .inr (.inr ⟨rfl, hk⟩)⟩
      · cases h
    · cases h
  · cases h

theorem keyIs2 {x : V} (h : keyIs 2 x = true) : ∃ a b, x = .agg [.int .i64 a, .int .i64 b] := by
  unfold keyIs at h
  split at h
  · rename_i h0; omega
  · rename_i h0; omega
  · exact ⟨_, _, rfl⟩
  · cases h
theorem keyIs2_val {m : Mem} {x : V} {u : Value} (hx : RepV m x u) (h : keyIs 2 x = true) : ∃ a b, x = .agg [.int .i64 a, .int .i64 b] ∧ u = .agg #[.int .i64 a, .int .i64 b] := by
  obtain ⟨a, b, rfl⟩ := keyIs2 h
  refine ⟨a, b, rfl, ?_⟩
  cases hx with
  | agg _ us hl ho hr =>
    have hs : us.size = 2 := by simpa using hl.symm
    have h0 := hr 0 (by simp) (by omega)
    have h1 := hr 1 (by simp) (by omega)
    simp only [List.getElem_cons_zero, List.getElem_cons_succ] at h0 h1
    have e : us = #[us[0], us[1]] := by
      apply Array.ext
      · simp [hs]
      · intro i h2 h3
        have : i = 0 ∨ i = 1 := by omega
        rcases this with rfl | rfl <;> rfl
    rw [e]
    generalize hq0 : us[0] = q0 at *
    generalize hq1 : us[1] = q1 at *
    cases h0
    cases h1
    rfl

structure PairF (P : Program) (kt : TypeId) (f g : Field) : Prop where
  st : ∃ fs, P.underlying kt = some (.struct fs) ∧ fs.toList = [f, g]
  held : P.stoodInHeld kt = false
  nf : f.name ≠ "_"
  ng : g.name ≠ "_"
  of : f.offset = 0
  og : g.offset = 1
  tf : P.underlying f.type = some (.int .i64)
  tg : P.underlying g.type = some (.int .i64)
  af : tAgg P f.type = some (false, 1)
  ag : tAgg P g.type = some (false, 1)
theorem tInt_und {P : Program} {T : TypeId} {k : IntKind} (h : tInt P T = some k) : P.underlying T = some (.int k) := by
  unfold tInt at h
  split at h
  · rename_i h1; cases h; exact h1
  · cases h
theorem pairTy_spec {P : Program} {kt : TypeId} (h : pairTy P kt = true) : ∃ f g, PairF P kt f g := by
  unfold pairTy at h
  split at h
  · rename_i fs hu
    split at h
    · rename_i f g hl
      simp only [Bool.and_eq_true, decide_eq_true_eq, Bool.not_eq_true', beq_eq_false_iff_ne] at h
      obtain ⟨⟨⟨⟨⟨⟨⟨⟨h1, h2⟩, h3⟩, h4⟩, h5⟩, h6⟩, h7⟩, h8⟩, h9⟩ := h
      exact ⟨f, g, ⟨fs, hu, hl⟩, h1, h2, h3, Nat.eq_of_beq_eq_true h4, Nat.eq_of_beq_eq_true h5, tInt_und h6, tInt_und h7, h8, h9⟩
    · cases h
  · cases h

theorem run_equal_pair {P : Program} {kt : TypeId} (h : pairTy P kt = true) (a b c d : Int) (w : World) :
    (Op.equal kt (.agg #[.int .i64 a, .int .i64 b]) (.agg #[.int .i64 c, .int .i64 d])).run P w = .ok (a == c && b == d) w := by
  obtain ⟨f, g, ⟨fs, hu, hfs⟩, h1, h2, h3, h4, h5, h6, h7, h8, h9⟩ := pairTy_spec h
  have hp : (Sem.run P program w) = .ok P w := rfl
  have e0 : ∀ x y : Value, (part f.type #[x, y] 0).run P w = .ok x w := fun x y => (run_part h8 #[x, y] 0 (fun _ => by simp) w).trans (by simp [Array.getD])
  have e1 : ∀ x y : Value, (part g.type #[x, y] 1).run P w = .ok y w := fun x y => (run_part h9 #[x, y] 1 (fun _ => by simp) w).trans (by simp [Array.getD])
  suffices key : ∀ n, (Op.equalIn (n + 1 + 1) kt (.agg #[.int .i64 a, .int .i64 b]) (.agg #[.int .i64 c, .int .i64 d])).run P w = .ok (a == c && b == d) w from key 9998
  intro n
  have i0 : ∀ a b : Int, (Op.equalIn (n + 1) f.type (.int .i64 a) (.int .i64 b)).run P w = .ok (a == b) w := fun a b => by simp [Op.equalIn, run_underlying h6 w]
  have i1 : ∀ a b : Int, (Op.equalIn (n + 1) g.type (.int .i64 a) (.int .i64 b)).run P w = .ok (a == b) w := fun a b => by simp [Op.equalIn, run_underlying h7 w]
  unfold Op.equalIn
  simp only [Sem.run_bind, run_underlying hu w, Result.andThen_ok, hp, h1, Bool.false_eq_true, if_false, Sem.run_ite]
  rw [← Array.forIn_toList, hfs]
  simp only [List.forIn_cons, List.forIn_nil, h2, h3, h4, h5, ne_eq, not_false_eq_true, if_true, Sem.run_bind, e0, e1, i0, i1, Result.andThen_ok]
  by_cases q : a = c <;> by_cases q2 : b = d <;> simp [q, q2, e0, e1, i0, i1]

theorem run_checkKey_pair {P : Program} {kt : TypeId} (h : pairTy P kt = true) (a b : Int) (e : Bool) (n : Nat) (w : World) :
    (Instr.checkKey e (n + 2) kt (.agg #[.int .i64 a, .int .i64 b])).run P w = .ok () w := by
  obtain ⟨f, g, ⟨fs, hu, hfs⟩, h1, h2, h3, h4, h5, h6, h7, h8, h9⟩ := pairTy_spec h
  have e0 : ∀ x y : Value, (part f.type #[x, y] 0).run P w = .ok x w := fun x y => (run_part h8 #[x, y] 0 (fun _ => by simp) w).trans (by simp [Array.getD])
  have e1 : ∀ x y : Value, (part g.type #[x, y] 1).run P w = .ok y w := fun x y => (run_part h9 #[x, y] 1 (fun _ => by simp) w).trans (by simp [Array.getD])
  have i0 : ∀ v : Int, (Instr.checkKey e (n + 1) f.type (.int .i64 v)).run P w = .ok () w := fun v => MapKept.run_checkKey h6 (by simp [MapKept.IsKey]) e n
  have i1 : ∀ v : Int, (Instr.checkKey e (n + 1) g.type (.int .i64 v)).run P w = .ok () w := fun v => MapKept.run_checkKey h7 (by simp [MapKept.IsKey]) e n
  unfold Instr.checkKey
  simp only [Sem.run_bind, run_underlying hu w, Result.andThen_ok]
  rw [← Array.forIn_toList, hfs]
  simp [h2, h3, h4, h5, e0, e1, i0, i1, Array.getD]

theorem run_checkKey' {P : Program} {kt : TypeId} {kd : Nat} (hk : KeyTy P kt kd) {m : Mem} {x : V} {u : Value} (hx : RepV m x u) (h : keyIs kd x = true) (e : Bool) (w : World) :
    (Instr.checkKey e 10000 kt u).run P w = .ok () w := by
  rcases hk with ⟨rfl, hd⟩ | ⟨rfl, hd⟩ | ⟨rfl, hd⟩
  · exact MapKept.run_checkKey hd (isKey_of (.inl ⟨rfl, rfl⟩) hx h) e 9999
  · exact MapKept.run_checkKey hd (isKey_of (.inr ⟨rfl, rfl⟩) hx h) e 9999
  · obtain ⟨a, b, rfl, rfl⟩ := keyIs2_val hx h
    exact run_checkKey_pair hd a b e 9998 w
theorem run_keyThatStays' {P : Program} {kd : Nat} {m : Mem} {x : V} {u : Value} (hkd : kd ≤ 2) (hx : RepV m x u) (h : keyIs kd x = true) (w : World) : (Instr.keyThatStays u u).run P w = .ok u w := by
  have : kd = 0 ∨ kd = 1 ∨ kd = 2 := by omega
  rcases this with rfl | rfl | rfl
  · exact MapKept.run_keyThatStays (isKey_of (d := .int .i64) (.inl ⟨rfl, rfl⟩) hx h)
  · exact MapKept.run_keyThatStays (isKey_of (d := .string) (.inr ⟨rfl, rfl⟩) hx h)
  · obtain ⟨a, b, rfl, rfl⟩ := keyIs2_val hx h
    have : Instr.sameBits 10000 (.agg #[.int .i64 a, .int .i64 b]) (.agg #[.int .i64 a, .int .i64 b]) = true := by
      simp [Instr.sameBits]
    simp [Instr.keyThatStays, this]
theorem keyTy_le {P : Program} {kt : TypeId} {kd : Nat} (hk : KeyTy P kt kd) : kd ≤ 2 := by
  rcases hk with ⟨rfl, _⟩ | ⟨rfl, _⟩ | ⟨rfl, _⟩ <;> omega

theorem findAsk_pair {P : Program} {kt : TypeId} (hp : pairTy P kt = true) {m : Mem} {x : V} {u : Value} (hx : RepV m x u) (hk : keyIs 2 x = true) (z : V) (w : World) :
    ∀ (es : List (V × V)) (ents : List MapEntry) (i : Nat), es.length = ents.length → (∀ p ∈ es, keyIs 2 p.1 = true) →
      (∀ j (h : j < es.length) (h' : j < ents.length), RepV m es[j].1 ents[j].key ∧ RepV m es[j].2 ents[j].val) →
      (mget es x = none ∧ (Instr.findAsking kt u ents i).run P w = .ok none w ∧ mset es x z = es ++ [(x, z)]) ∨
      ∃ (j : Nat) (h : j < es.length) (h' : j < ents.length), mget es x = some es[j].2 ∧ (Instr.findAsking kt u ents i).run P w = .ok (some (i + j, ents[j].val)) w ∧ ents[j].key = u ∧ mset es x z = es.set j (x, z)
  | [], ents, i, hl, _, _ => by
    have : ents = [] := by cases ents <;> simp_all
    subst this
    exact .inl ⟨rfl, rfl, rfl⟩
  | (k', y) :: r, [], i, hl, _, _ => by simp at hl
  | (k', y) :: r, e :: ents, i, hl, hks, hr => by
    have h0 := hr 0 (by simp) (by simp)
    simp only [List.getElem_cons_zero] at h0
    have hk' : keyIs 2 k' = true := hks (k', y) (by simp)
    obtain ⟨a, b, hxa, hua⟩ := keyIs2_val hx hk
    obtain ⟨c, d, hkc, huc⟩ := keyIs2_val h0.1 hk'
    have hs : (Op.equal kt u e.key).run P w = .ok (a == c && b == d) w := by rw [hua, huc]; exact run_equal_pair hp a b c d w
    have hq : keq k' x = (a == c && b == d) := by
      rw [hxa, hkc]
      show (c == a && d == b) = _
      rw [Bool.eq_iff_iff]
      simp only [Bool.and_eq_true, beq_iff_eq]
      exact ⟨fun h => ⟨h.1.symm, h.2.symm⟩, fun h => ⟨h.1.symm, h.2.symm⟩⟩
    cases hb : (a == c && b == d) with
    | true =>
      rw [hb] at hs hq
      refine .inr ⟨0, by simp, by simp, by simp [mget, hq], by simp [Instr.findAsking, hs], ?_, by simp [mset, hq]⟩
      simp only [Bool.and_eq_true, beq_iff_eq] at hb
      simp only [List.getElem_cons_zero]
      rw [hua, huc, hb.1, hb.2]
    | false =>
      rw [hb] at hs hq
      rcases findAsk_pair hp hx hk z w r ents (i + 1) (by simpa using hl) (fun p hp => hks p (by simp [hp])) (fun j h h' => hr (j + 1) (by simpa using h) (by simpa using h')) with ⟨h1, h2, h3⟩ | ⟨j, h, h', h1, h2, h3, h4⟩
      · exact .inl ⟨by simp [mget, hq, h1], by simp [Instr.findAsking, hs, h2], by simp [mset, hq, h3]⟩
      · refine .inr ⟨j + 1, by simpa using h, by simpa using h', by simp [mget, hq, h1], ?_, by simpa using h3, by simp [mset, hq, h4]⟩
        simp only [Instr.findAsking, Sem.run_bind, hs, Result.andThen_ok, Bool.false_eq_true, if_false, h2, List.getElem_cons_succ]
        rw [show i + 1 + j = i + (j + 1) by omega]

theorem findKey_abs {P : Program} {kt : TypeId} {kd : Nat} (hT : KeyTy P kt kd) {m : Mem} {x : V} {u : Value} (hx : RepV m x u) (hk : keyIs kd x = true) (z : V) (w : World)
    (es : List (V × V)) (ents : List MapEntry) (hl : es.length = ents.length) (hks : ∀ p ∈ es, keyIs kd p.1 = true)
    (hr : ∀ j (h : j < es.length) (h' : j < ents.length), RepV m es[j].1 ents[j].key ∧ RepV m es[j].2 ents[j].val) :
      (mget es x = none ∧ (Instr.findKey kt u ents).run P w = .ok none w ∧ mset es x z = es ++ [(x, z)]) ∨
      ∃ (j : Nat) (h : j < es.length) (h' : j < ents.length), mget es x = some es[j].2 ∧ (Instr.findKey kt u ents).run P w = .ok (some (j, ents[j].val)) w ∧ ents[j].key = u ∧ mset es x z = es.set j (x, z) := by
  have plain : ∀ d, P.underlying kt = some d → ((kd = 0 ∧ d = .int .i64) ∨ (kd = 1 ∧ d = .string)) → (mget es x = none ∧ (Instr.findKey kt u ents).run P w = .ok none w ∧ mset es x z = es ++ [(x, z)]) ∨
      ∃ (j : Nat) (h : j < es.length) (h' : j < ents.length), mget es x = some es[j].2 ∧ (Instr.findKey kt u ents).run P w = .ok (some (j, ents[j].val)) w ∧ ents[j].key = u ∧ mset es x z = es.set j (x, z) := by
    intro d hd hkd
    rcases findNow_abs hkd hx hk z es ents 0 hl hks hr with ⟨h1, h2, h3⟩ | ⟨j, h, h', h1, h2, h3, h4⟩
    · exact .inl ⟨h1, MapKept.run_findKey hd h2, h3⟩
    · exact .inr ⟨j, h, h', h1, by rw [Nat.zero_add] at h2; exact MapKept.run_findKey hd h2, h3, h4⟩
  rcases hT with ⟨rfl, hd⟩ | ⟨rfl, hd⟩ | ⟨rfl, hp⟩
  · exact plain _ hd (.inl ⟨rfl, rfl⟩)
  · exact plain _ hd (.inr ⟨rfl, rfl⟩)
  · have key : (Instr.findKey kt u ents).run P w = (Instr.findAsking kt u ents).run P w := by
      obtain ⟨f, g, ⟨fs, hu, _⟩, _⟩ := pairTy_spec hp
      cases ents with
      | nil => simp [Instr.findKey, run_underlying hu w, Instr.findNow, Instr.findAsking]
      | cons e r =>
        have : Instr.sameNow (.struct fs) u e.key = none := by
          cases u <;> rfl
        simp [Instr.findKey, run_underlying hu w, Instr.findNow, this]
    rw [key]
    rcases findAsk_pair hp hx hk z w es ents 0 hl hks hr with ⟨h1, h2, h3⟩ | ⟨j, h, h', h1, h2, h3, h4⟩
    · exact .inl ⟨h1, h2, h3⟩
    · exact .inr ⟨j, h, h', h1, by rw [Nat.zero_add] at h2; exact h2, h3, h4⟩

def aLookup (P : Program) (obj : Name → Option O) (T : TypeId) (x k : D) (commaOk : Bool) : R :=
  match tMap P T with
  | some (kd, e) => match (tZero P e).bind fun z => asV (ofVal z), asV k with
    | some z, some kv => match x with
      | .nilmap => ⟨kd ≤ 2 ∧ keyIs kd kv = true, if commaOk then .tup [.v z, .v (.bool false)] else .v z, obj⟩
      | .map nm => match obj nm with
        | some (.map kd' es) => ⟨kd ≤ 2 ∧ keyIs kd kv = true ∧ kd' = kd, if commaOk then .tup [.v ((mget es kv).getD z), .v (.bool (mget es kv).isSome)] else .v ((mget es kv).getD z), obj⟩
        | _ => .bad obj
      | _ => .bad obj
    | _, _ => .bad obj
  | none => .bad obj

theorem rep_pair {φ : Name → Loc} {obj : Name → Option O} {m : Mem} {z : V} {u : Value} {b : Bool} (h : RepV m z u) : RepD φ obj m (.tup [.v z, .v (.bool b)]) (.tuple #[u, .bool b]) := by
  refine .tup _ _ rfl fun i h1 h2 => ?_
  match i, h1 with
  | 0, _ => exact .v _ _ h
  | 1, _ => exact .v _ _ (.bool b)

theorem s_lookup {P : Program} {G : Ghost} {φ : Name → Loc} {m : Mem} {σ : S} {a : Act} {w : World} (hC : Conc G φ m σ a w) {T : TypeId} {x k : D} {u uk : Value} {co : Bool}
    (hx : RepD φ σ.obj m x u) (hk : RepD φ σ.obj m k uk) (hok : (aLookup P σ.obj T x k co).ok) :
    ∃ v, (Instr.lookup T u uk co).run P w = .ok v w ∧ RepD φ σ.obj m (aLookup P σ.obj T x k co).d v ∧ (aLookup P σ.obj T x k co).obj = σ.obj := by
  unfold aLookup at hok ⊢
  cases hT : tMap P T with
  | none => simp only [hT] at hok; exact hok.elim
  | some p =>
  obtain ⟨kd, e⟩ := p
  simp only [hT] at hok ⊢
  split at hok
  · rename_i z kv hz hkv
    have hk := asV_rep hk hkv
    cases hz' : tZero P e with
    | none => simp [hz'] at hz
    | some zv =>
    simp only [hz', Option.bind_some] at hz
    have hzr : RepV m z zv := asV_rep (ofVal_rep (φ := φ) (obj := σ.obj) (m := m) zv) hz
    try simp only [hz', Option.bind_some, hz, hkv]
    split at hok
    · obtain ⟨h1, h2⟩ := hok
      obtain ⟨kt, hu, hkd⟩ := tMap_spec hT
      cases hx
      refine ⟨if co then .tuple #[zv, .bool false] else zv, ?_, ?_, rfl⟩
      · have hck := run_checkKey' hkd hk h2 true w
        have hfk : (Instr.findKey kt uk []).run P w = .ok none w := by
          rcases findKey_abs hkd hk h2 z w [] [] rfl (fun _ h => by cases h) (fun _ h => by cases h) with ⟨_, h, _⟩ | ⟨_, h, _⟩
          · exact h
          · cases h
        simp [Instr.lookup, run_underlying hu, hck, hfk, run_zero hz']
        try (split <;> rfl)
      · cases co with
        | true => exact rep_pair hzr
        | false => exact .v _ _ hzr
    · rename_i nm
      split at hok
      · rename_i kd' es hnm
        obtain ⟨h1, h2, h3⟩ := hok
        subst h3
        obtain ⟨kt, hu, hkd⟩ := tMap_spec hT
        simp only [hnm]
        cases hx with
        | map _ hx =>
        obtain ⟨g0, g1, g1', ents, clock, g2, g3, g4⟩ := hC.objs nm _ hnm
        have hck := run_checkKey' hkd hk h2 ents.isEmpty w
        have hgo := MapKept.run_getObj_map (P := P) g2
        rcases findKey_abs hkd hk h2 z w es ents.toList (by simp [g3]) g1' (fun j a b => by simpa using g4 j a (by simpa using b)) with ⟨a1, a2, _⟩ | ⟨j, h, h', a1, a2, a3, _⟩
        · refine ⟨if co then .tuple #[zv, .bool false] else zv, ?_, ?_, trivial⟩
          · have hfk := a2
            simp [Instr.lookup, run_underlying hu, hgo, hck, hfk, run_zero hz']
            try (split <;> rfl)
          · rw [a1]
            simp only [Option.getD_none, Option.isSome_none]
            cases co with
            | true => exact rep_pair hzr
            | false => exact .v _ _ hzr
        · have h'' : j < ents.size := by simpa using h'
          refine ⟨if co then .tuple #[ents[j].val, .bool true] else ents[j].val, ?_, ?_, trivial⟩
          · have hfk := a2
            simp [Instr.lookup, run_underlying hu, hgo, hck, hfk]
            try (split <;> rfl)
          · simp only [a1, Option.getD_some, Option.isSome_some]
            have := (g4 j h h'').2
            cases co with
            | true => exact rep_pair this
            | false => exact .v _ _ this
      · exact hok.elim
    · exact hok.elim
  · exact hok.elim

def aMapUpdate (P : Program) (obj : Name → Option O) (T : TypeId) (x k d : D) : R :=
  match tMap P T, x, asV k, asV d with
  | some (kd, _), .map nm, some kv, some y => match obj nm with
    | some (.map kd' es) => ⟨kd ≤ 2 ∧ keyIs kd kv = true ∧ kd' = kd, .any, upd obj nm (some (.map kd' (mset es kv y)))⟩
    | _ => .bad obj
  | _, _, _, _ => .bad obj

theorem s_mapUpdate {P : Program} {G : Ghost} {φ : Name → Loc} {m : Mem} {σ : S} {a : Act} {w : World} (hC : Conc G φ m σ a w) {T : TypeId} {x k d : D} {u uk ud : Value}
    (hx : RepD φ σ.obj m x u) (hk : RepD φ σ.obj m k uk) (hd' : RepD φ σ.obj m d ud) (hok : (aMapUpdate P σ.obj T x k d).ok) :
    ∃ w', (Instr.mapUpdate T u uk ud).run P w = .ok () w' ∧ ∃ φ' m', Conc G φ' m' { σ with obj := (aMapUpdate P σ.obj T x k d).obj } a w' := by
  unfold aMapUpdate at hok ⊢
  split at hok
  · rename_i kd e nm kv y hT hkv hy
    split at hok
    · rename_i kd' es hnm
      obtain ⟨h1, h2, h3⟩ := hok
      subst h3
      obtain ⟨kt, hu, hkd⟩ := tMap_spec hT
      simp only [hT, hkv, hy, hnm]
      cases hx with
      | map _ hx =>
      have hk := asV_rep hk hkv
      have hyr := asV_rep hd' hy
      obtain ⟨g0, g1, g1', ents, clock, g2, g3, g4⟩ := hC.objs nm _ hnm
      have hblk : (φ nm).blk < w.heap.size := (Array.getElem?_eq_some_iff.1 g2).1
      have hck := run_checkKey' hkd hk h2 false w
      have hgo := MapKept.run_getObj_map (P := P) g2
      have hx' := Ext.same (φ := φ) (o' := .map kd' (mset es kv y)) hnm rfl rfl
      have fin : ∀ ents' clock', ents'.size = (mset es kv y).length → (∀ j (h : j < (mset es kv y).length) (h' : j < ents'.size), RepV m (mset es kv y)[j].1 ents'[j].key ∧ RepV m (mset es kv y)[j].2 ents'[j].val) →
          (∀ q ∈ mset es kv y, keyIs kd' q.1 = true) →
          Conc G φ m { σ with obj := upd σ.obj nm (some (.map kd' (mset es kv y))) } a (wset w (φ nm).blk (.map ents' clock')) := by
        intro ents' clock' e1 e2 e3
        have := hC.chg (w' := wset w (φ nm).blk (.map ents' clock')) nm (.map kd' (mset es kv y)) (φ nm) hx' ⟨rfl, rfl, rfl, by simp [wset]⟩
          (fun b hb hn => wset_ne (by rcases hn with h | h; · rw [g1] at h; cases h
                                      · exact h))
          (fun _ => .inr ⟨⟨_, hnm, rfl, g1⟩, rfl⟩) ⟨g0, g1, e3, ents', clock', wset_same hblk, e1, e2⟩
        rwa [upd_id] at this
      rcases findKey_abs hkd hk h2 y w es ents.toList (by simp [g3]) g1' (fun j a b => by simpa using g4 j a (by simpa using b)) with ⟨a1, a2, a3⟩ | ⟨j, h, h', a1, a2, a3, a4⟩
      · have hfk := a2
        refine ⟨wset w (φ nm).blk (.map (ents.push { key := uk, val := ud, born := clock }) (clock + 1)), ?_, φ, m, ?_⟩
        · simp [Instr.mapUpdate, run_underlying hu, hgo, hck, hfk, MapKept.run_setObj_map _ g2]
          rfl
        · rw [a3] at fin ⊢
          refine fin _ _ (by simp [g3]) (fun j h h' => ?_) (fun q hq => ?_)
          · by_cases hj : j < es.length
            · rw [List.getElem_append_left hj, Array.getElem_push_lt (by omega)]
              exact g4 j hj (by omega)
            · have hje : j = es.length := by simp at h; omega
              subst hje
              simp only [List.getElem_append_right (Nat.le_refl _), Nat.sub_self, List.getElem_cons_zero]
              have : (ents.push { key := uk, val := ud, born := clock })[es.length] = { key := uk, val := ud, born := clock } := by
                simp [← g3]
              rw [this]
              exact ⟨hk, hyr⟩
          · rcases List.mem_append.1 hq with hq | hq
            · exact g1' q hq
            · simp only [List.mem_singleton] at hq; subst hq; exact h2
      · have hfk := a2
        have h'' : j < ents.size := by simpa using h'
        have a3' : ents[j].key = uk := by simpa using a3
        refine ⟨wset w (φ nm).blk (.map (ents.modify j fun e => { e with key := uk, val := ud }) clock), ?_, φ, m, ?_⟩
        · simp [Instr.mapUpdate, run_underlying hu, hgo, hck, hfk, Array.getElem?_eq_getElem h'', a3', run_keyThatStays' (P := P) (keyTy_le hkd) hk h2 w, MapKept.run_setObj_map _ g2]
          rfl
        · rw [a4] at fin ⊢
          refine fin _ _ (by simp [g3]) (fun q hq hq' => ?_) (fun q hq => ?_)
          · simp only [List.getElem_set, Array.getElem_modify]
            by_cases hj : j = q
            · subst hj; simp only [if_true]; exact ⟨hk, hyr⟩
            · simp only [hj, if_false]; exact g4 q (by simpa using hq) (by simpa using hq')
          · rcases List.mem_or_eq_of_mem_set hq with hq | hq
            · exact g1' q hq
            · subst hq; exact h2
    · exact hok.elim
  · exact hok.elim

end Go.Eng
/- The engine's text of equality: structs, and slices held against nil. -/
namespace Go.Eng
open Go

/-- A part of a struct's cells. -/
def partV (P : Program) (T : TypeId) (l : List V) (off : Nat) : Option V :=
  match tAgg P T with
  | some (true, n) => if off + n ≤ l.length then some (.agg ((l.drop off).take n)) else none
  | some (false, _) => l[off]?
  | none => none

def eqFs (P : Program) (g : TypeId → V → V → Option Bool) : List Field → List V → List V → Option Bool
  | [], _, _ => some true
  | f :: r, xs, ys => if f.name = "_" then eqFs P g r xs ys else
    match partV P f.type xs f.offset, partV P f.type ys f.offset with
    | some a, some b => match g f.type a b with
      | some true => eqFs P g r xs ys
      | some false => some false
      | none => none
    | _, _ => none
def eqAs (P : Program) (g : TypeId → V → V → Option Bool) (e : TypeId) (n : Nat) : List Nat → List V → List V → Option Bool
  | [], _, _ => some true
  | i :: r, xs, ys => match partV P e xs (i * n), partV P e ys (i * n) with
    | some a, some b => match g e a b with
      | some true => eqAs P g e n r xs ys
      | some false => some false
      | none => none
    | _, _ => none
/-- Are they equal? None: it is not served. -/
def eqV (P : Program) : Nat → TypeId → V → V → Option Bool
  | 0, _, _, _ => none
  | d + 1, T, x, y => match P.underlying T with
    | some .bool => match x, y with | .bool a, .bool b => some (a == b) | _, _ => none
    | some (.int _) => match x, y with | .int k a, .int k' b => if k = k' then some (a == b) else none | _, _ => none
    | some .string => match x, y with | .str a, .str b => some (a == b) | _, _ => none
    | some (.struct fs) => match x, y with | .agg xs, .agg ys => if P.stoodInHeld T = true then none else eqFs P (eqV P d) fs.toList xs ys | _, _ => none
    | some (.array len e) => match x, y with | .agg xs, .agg ys => (match tAgg P e with | some (_, n) => eqAs P (eqV P d) e n (List.range' 0 len) xs ys | none => none) | _, _ => none
    | _ => none

theorem run_partV {P : Program} {m : Mem} {T : TypeId} {xs : List V} {us : Array Value} {off : Nat} {a : V} (h : partV P T xs off = some a) (hl : xs.length = us.size) (ho : ∀ x ∈ xs, x.one = true)
    (hr : ∀ i (h : i < xs.length) (h' : i < us.size), RepV m xs[i] us[i]) (w : World) : ∃ u, (part T us off).run P w = .ok u w ∧ RepV m a u := by
  unfold partV at h
  split at h
  · rename_i n hT
    split at h
    · rename_i hle
      cases h
      refine ⟨_, run_part hT us off (fun h => by cases h) w, ?_⟩
      simp only [if_true]
      refine .agg _ _ (by simp; omega) (fun x hx => ho x (List.mem_of_mem_drop (List.mem_of_mem_take hx))) fun i h1 h2 => ?_
      simp only [List.length_take, List.length_drop] at h1
      simp only [List.getElem_take, List.getElem_drop, Array.getElem_extract]
      exact hr (off + i) (by omega) (by omega)
    · cases h
  · rename_i n hT
    obtain ⟨hlt, rfl⟩ := List.getElem?_eq_some_iff.1 h
    refine ⟨_, run_part hT us off (fun _ => by omega) w, ?_⟩
    have hlt' : off < us.size := by omega
    simp only [Bool.false_eq_true, if_false]
    have : us.getD off undef = us[off] := by simp [Array.getD, hlt']
    rw [this]
    exact hr off hlt hlt'
  · cases h

theorem eqV_run {P : Program} {m : Mem} (w : World) : ∀ (d : Nat) (T : TypeId) (x y : V) (u v : Value) (b : Bool), eqV P d T x y = some b → RepV m x u → RepV m y v → (Op.equalIn d T u v).run P w = .ok b w
  | 0, T, x, y, u, v, b, h, _, _ => by simp [eqV] at h
  | d + 1, T, x, y, u, v, b, h, hx, hy => by
    have ih := eqV_run (P := P) (m := m) w d
    have fields : ∀ (fs : List Field) (xs ys : List V) (us vs : Array Value) (b : Bool), eqFs P (eqV P d) fs xs ys = some b → RepV m (.agg xs) (.agg us) → RepV m (.agg ys) (.agg vs) →
        (forIn (m := Sem) fs ((none, ()) : Option Bool × Unit) (fun f _ => do
          if f.name ≠ "_" then
            if !(← Op.equalIn d f.type (← part f.type us f.offset) (← part f.type vs f.offset)) then pure (ForInStep.done (some false, ()))
            else pure (ForInStep.yield (none, ()))
          else pure (ForInStep.yield (none, ())))).run P w = .ok (if b then (none, ()) else (some false, ())) w := by
      intro fs
      induction fs with
      | nil =>
        intro xs ys us vs b h _ _
        simp only [eqFs, Option.some.injEq] at h
        subst h
        rfl
      | cons f r ihf =>
        intro xs ys us vs b h hx hy
        simp only [eqFs] at h
        rw [List.forIn_cons]
        by_cases hn : f.name = "_"
        · rw [if_pos hn] at h
          simp only [hn, ne_eq, not_true_eq_false, if_false, Sem.run_bind, Sem.run_pure, Result.andThen_ok]
          exact ihf xs ys us vs b h hx hy
        · rw [if_neg hn] at h
          simp only [hn, ne_eq, not_false_eq_true, if_true]
          split at h
          · rename_i a1 b1 ha hb
            cases hx with
            | agg _ _ hl1 ho1 hr1 =>
            cases hy with
            | agg _ _ hl2 ho2 hr2 =>
            obtain ⟨u1, hu1, hu2⟩ := run_partV ha hl1 ho1 hr1 w
            obtain ⟨v1, hv1, hv2⟩ := run_partV hb hl2 ho2 hr2 w
            split at h
            · rename_i he
              have := ih f.type a1 b1 u1 v1 true he hu2 hv2
              simp only [Sem.run_bind, hu1, Result.andThen_ok, hv1, this, Bool.not_true, Bool.false_eq_true, if_false, Sem.run_pure, Sem.run_ite]
              exact ihf xs ys us vs b h (.agg _ _ hl1 ho1 hr1) (.agg _ _ hl2 ho2 hr2)
            · rename_i he
              cases h
              have := ih f.type a1 b1 u1 v1 false he hu2 hv2
              simp only [Sem.run_bind, hu1, Result.andThen_ok, hv1, this, Bool.not_false, if_true, Sem.run_pure, Sem.run_ite]
              rfl
            · cases h
          · cases h
    have items : ∀ (e n : Nat) (il : List Nat) (xs ys : List V) (us vs : Array Value) (b : Bool), eqAs P (eqV P d) e n il xs ys = some b → RepV m (.agg xs) (.agg us) → RepV m (.agg ys) (.agg vs) →
        (forIn (m := Sem) il ((none, ()) : Option Bool × Unit) (fun i _ => do
            if !(← Op.equalIn d e (← part e us (i * n)) (← part e vs (i * n))) then pure (ForInStep.done (some false, ()))
            else pure (ForInStep.yield (none, ())))).run P w = .ok (if b then (none, ()) else (some false, ())) w := by
      intro e n il
      induction il with
      | nil =>
        intro xs ys us vs b h _ _
        simp only [eqAs, Option.some.injEq] at h
        subst h
        rfl
      | cons i r ihf =>
        intro xs ys us vs b h hx hy
        simp only [eqAs] at h
        rw [List.forIn_cons]
        split at h
        · rename_i a1 b1 ha hb
          cases hx with
          | agg _ _ hl1 ho1 hr1 =>
          cases hy with
          | agg _ _ hl2 ho2 hr2 =>
          obtain ⟨u1, hu1, hu2⟩ := run_partV ha hl1 ho1 hr1 w
          obtain ⟨v1, hv1, hv2⟩ := run_partV hb hl2 ho2 hr2 w
          split at h
          · rename_i he
            have := ih e a1 b1 u1 v1 true he hu2 hv2
            simp only [Sem.run_bind, hu1, Result.andThen_ok, hv1, this, Bool.not_true, Bool.false_eq_true, if_false, Sem.run_pure, Sem.run_ite]
            exact ihf xs ys us vs b h (.agg _ _ hl1 ho1 hr1) (.agg _ _ hl2 ho2 hr2)
          · rename_i he
            cases h
            have := ih e a1 b1 u1 v1 false he hu2 hv2
            simp only [Sem.run_bind, hu1, Result.andThen_ok, hv1, this, Bool.not_false, if_true, Sem.run_pure, Sem.run_ite]
            rfl
          · cases h
        · cases h
    simp only [eqV] at h
    split at h
    · rename_i hT
      split at h
      · cases hx; cases hy
        cases h
        simp [Op.equalIn, run_underlying hT w]
      · cases h
    · rename_i k hT
      split at h
      · cases hx; cases hy
        split at h
        · rename_i hk
          cases h
          simp [Op.equalIn, run_underlying hT w, hk]
        · cases h
      · cases h
    · rename_i hT
      split at h
      · cases hx; cases hy
        cases h
        simp [Op.equalIn, run_underlying hT w]
      · cases h
    · rename_i fs hT
      split at h
      · rename_i xs ys
        split at h
        · cases h
        · rename_i hs
          cases hx with
          | agg _ us hl1 ho1 hr1 =>
          cases hy with
          | agg _ vs hl2 ho2 hr2 =>
          have hf := fields fs.toList xs ys us vs b h (.agg _ _ hl1 ho1 hr1) (.agg _ _ hl2 ho2 hr2)
          have hp : (Sem.run P program w) = .ok P w := rfl
          unfold Op.equalIn
          simp only [Sem.run_bind, run_underlying hT w, Result.andThen_ok, hp, hs, Bool.false_eq_true, if_false, Sem.run_ite]
          rw [← Array.forIn_toList]
          rw [hf]
          cases b <;> rfl
      · cases h
    · rename_i len e hT
      split at h
      · rename_i xs ys
        split at h
        · rename_i g n hn
          cases hx with
          | agg _ us hl1 ho1 hr1 =>
          cases hy with
          | agg _ vs hl2 ho2 hr2 =>
          have hf := items e n (List.range' 0 len) xs ys us vs b h (.agg _ _ hl1 ho1 hr1) (.agg _ _ hl2 ho2 hr2)
          unfold Op.equalIn
          simp only [Sem.run_bind, run_underlying hT w, Result.andThen_ok, run_sizeOf' hn w, Std.Legacy.Range.forIn_eq_forIn_range', Std.Legacy.Range.size, Nat.sub_zero, Nat.add_sub_cancel, Nat.div_one]
          rw [hf]
          cases b <;> rfl
        · cases h
      · cases h
    · cases h

/-- Two structs held against each other. -/
def aEqS (P : Program) (obj : Name → Option O) (op : BinOp) (T : TypeId) (x y : V) : R :=
  match eqV P Op.maxDepth T x y with
  | some b => ⟨P.eqGuardType P.depth T = false ∧ (op = .eql ∨ op = .neq), .v (.bool (if op = .eql then b else !b)), obj⟩
  | none => .bad obj
/-- A slice held against nil. -/
def aNilCmp (P : Program) (obj : Name → Option O) (op : BinOp) (T : TypeId) (x : D) : R :=
  match x with
  | .v (.sl (_ :: _)) => ⟨tLen P T = some 0 ∧ (op = .eql ∨ op = .neq), .v (.bool (if op = .eql then false else true)), obj⟩
  | .msl nm (k + 1) => ⟨(obj nm).bind O.len? = some (k + 1) ∧ tLen P T = some 0 ∧ (op = .eql ∨ op = .neq), .v (.bool (if op = .eql then false else true)), obj⟩
  | _ => .bad obj
def isNilC : Operand → Bool
  | .const (.slice none _ _) => true
  | _ => false
/-- Any two things. -/
def aBin' (P : Program) (obj : Name → Option O) (op : BinOp) (T : TypeId) (x y : D) (nilc : Bool) : R :=
  match nilc with
  | true => aNilCmp P obj op T x
  | false => match asV x, asV y with
    | some (.agg a), some (.agg b) => aEqS P obj op T (.agg a) (.agg b)
    | _, _ => aBin P obj op T x y

theorem run_eqNil {P : Program} {T e : TypeId} (hu : P.underlying T = some (.slice e)) (d : Nat) (p : Addr) (k c' n c : Nat) (w : World) : (Op.equalIn (d + 1) T (.slice (some p) k c') (.slice none n c)).run P w = .ok false w := by
  simp [Op.equalIn, run_underlying hu w]
theorem s_nilCmp {P : Program} {G : Ghost} {φ : Name → Loc} {m : Mem} {σ : S} {a : Act} {w : World} (hC : Conc G φ m σ a w) {T : TypeId} {op : BinOp} {x : D} {u : Value} {cx cy : Operand} {n c : Nat} (hx : RepD φ σ.obj m x u)
    (hok : (aNilCmp P σ.obj op T x).ok) :
    ∃ r, (do eqGuard op T cx cy u (.slice none n c); binOp op T u (.slice none n c) : Sem Value).run P w = .ok r w ∧ RepD φ σ.obj m (aNilCmp P σ.obj op T x).d r ∧ (aNilCmp P σ.obj op T x).obj = σ.obj := by
  have key : ∀ (p : Addr) (k c' : Nat), u = .slice (some p) k c' → tLen P T = some 0 → (op = .eql ∨ op = .neq) →
      (do eqGuard op T cx cy u (.slice none n c); binOp op T u (.slice none n c) : Sem Value).run P w = .ok (.bool (if op = .eql then false else true)) w := by
    rintro p k c' rfl hT ho
    obtain ⟨e, hu⟩ := tLen_slice hT
    have he : (Op.equal T (.slice (some p) k c') (.slice none n c)).run P w = .ok false w := by
      exact run_eqNil hu 9999 p k c' n c w
    rcases ho with rfl | rfl
    · have h1 : binOp .eql T (.slice (some p) k c') (.slice none n c) = (do pure (.bool (← Op.equal T (.slice (some p) k c') (.slice none n c)))) := rfl
      rw [h1]
      simp [eqGuard, he]
    · have h1 : binOp .neq T (.slice (some p) k c') (.slice none n c) = (do pure (.bool (!(← Op.equal T (.slice (some p) k c') (.slice none n c))))) := rfl
      rw [h1]
      simp [eqGuard, he]
  unfold aNilCmp at hok ⊢
  split at hok
  · rename_i y r
    cases hx with
    | v _ _ hx =>
    cases hx with
    | sl _ b o cap sz c' hn hl hcap hs hc hr ho => exact ⟨_, key _ _ _ rfl hok.1 hok.2, .v _ _ (.bool _), rfl⟩
  · rename_i nm k
    obtain ⟨h1, h2, h3⟩ := hok
    cases hx with
    | msl _ _ _ hq hu =>
    obtain ⟨o, n', ho, hlen, hk, hv⟩ := hq
    simp only [ho, Option.bind_some] at h1
    rw [hlen] at h1
    cases h1
    have hv := hv rfl
    obtain ⟨b, c', h4, _⟩ := slice_of (P := P) hC ho hlen
    have hnul : (φ nm).nul = false := by
      have := hC.objs nm o ho
      cases o with
      | arr sz l =>
        simp only [O.len?, Option.some.injEq] at hlen
        rcases this with ⟨_, h⟩ | ⟨h, _⟩
        · subst h; simp at hlen
        · exact h
      | farr sz l =>
        simp only [O.len?, Option.some.injEq] at hlen
        rcases this with ⟨_, h⟩ | ⟨h, _⟩
        · subst h; simp at hlen
        · exact h
      | dead sz q =>
        simp only [O.len?, Option.some.injEq] at hlen
        rcases this with ⟨_, h⟩ | ⟨h, _⟩
        · omega
        · exact h
      | _ => cases hlen
    have hs : (φ nm).slice (k + 1) = .slice (some ⟨(φ nm).blk, (φ nm).off, none⟩) (k + 1) (φ nm).cap := by unfold Loc.slice; rw [hnul]; rfl
    exact ⟨_, key _ _ _ (hv.trans hs) h2 h3, .v _ _ (.bool _), rfl⟩
  · exact hok.elim

theorem s_eqS {P : Program} {φ : Name → Loc} {obj : Name → Option O} {m : Mem} {T : TypeId} {op : BinOp} {x y : List V} {u v : Value} {cx cy : Operand} (w : World) (hx : RepV m (.agg x) u) (hy : RepV m (.agg y) v)
    (hok : (aEqS P obj op T (.agg x) (.agg y)).ok) :
    ∃ r, (do eqGuard op T cx cy u v; binOp op T u v : Sem Value).run P w = .ok r w ∧ RepD φ obj m (aEqS P obj op T (.agg x) (.agg y)).d r ∧ (aEqS P obj op T (.agg x) (.agg y)).obj = obj := by
  unfold aEqS at hok ⊢
  split at hok
  · rename_i b hb
    obtain ⟨h1, h2⟩ := hok
    have he : (Op.equal T u v).run P w = .ok b w := eqV_run w _ T _ _ u v b hb hx hy
    have hp : (Sem.run P program w) = .ok P w := rfl
    cases hx with
    | agg _ us _ _ _ =>
    cases hy with
    | agg _ vs _ _ _ =>
    refine ⟨.bool (if op = .eql then b else !b), ?_, ?_, ?_⟩
    · rcases h2 with rfl | rfl
      · have h3 : binOp .eql T (.agg us) (.agg vs) = (do pure (.bool (← Op.equal T (.agg us) (.agg vs)))) := rfl
        rw [h3]
        simp [eqGuard, he, hp, h1]
      · have h3 : binOp .neq T (.agg us) (.agg vs) = (do pure (.bool (!(← Op.equal T (.agg us) (.agg vs))))) := rfl
        rw [h3]
        simp [eqGuard, he, hp, h1]
    · first | exact .v _ _ (.bool _) | (rw [hb]; exact .v _ _ (.bool _))
    · first | rfl | (rw [hb])
  · exact hok.elim

theorem s_bin' {P : Program} {G : Ghost} {φ : Name → Loc} {m : Mem} {σ : S} {a : Act} {w : World} (hC : Conc G φ m σ a w) {T : TypeId} {op : BinOp} {x y : D} {u v : Value} {cx cy : Operand} {nilc : Bool}
    (hx : RepD φ σ.obj m x u) (hy : RepD φ σ.obj m y v) (hn : nilc = true → ∃ n c, v = .slice none n c) (hok : (aBin' P σ.obj op T x y nilc).ok) :
    ∃ r, (do eqGuard op T cx cy u v; binOp op T u v : Sem Value).run P w = .ok r w ∧ RepD φ σ.obj m (aBin' P σ.obj op T x y nilc).d r ∧ (aBin' P σ.obj op T x y nilc).obj = σ.obj := by
  unfold aBin' at hok ⊢
  cases nilc with
  | true =>
    obtain ⟨n, c, rfl⟩ := hn rfl
    exact s_nilCmp hC hx hok
  | false =>
    simp only at hok ⊢
    split at hok
    · rename_i l1 l2 h1 h2
      exact s_eqS w (asV_rep hx h1) (asV_rep hy h2) hok
    · exact s_bin w hx hy hok
end Go.Eng
/- The engine's text of places: what an operation looks at and what it changes. -/
namespace Go.Eng
open Go

def tops : D → List Name
  | .ref nm _ => [nm]
  | .msl nm _ => [nm]
  | .aref nm _ _ _ => [nm]
  | .map nm => [nm]
  | _ => []

def fpL (f : D → List Name) : List D → List Name
  | [] => []
  | d :: r => f d ++ fpL f r
/-- The names that freezing comes to. -/
def fp : Nat → (Name → Option O) → D → List Name
  | 0, _, _ => []
  | n + 1, obj, d => match d with
    | .msl nm _ => [nm]
    | .ref nm _ => nm :: (match obj nm with
      | some (.box cs) => fpL (fp n obj) cs
      | _ => [])
    | .agg l => fpL (fp n obj) l
    | .tup l => fpL (fp n obj) l
    | .clo _ f c => fpL (fp n obj) f ++ fpL (fp n obj) c
    | _ => []

def Agr (ns : List Name) (o o2 : Name → Option O) : Prop := ∀ nm ∈ ns, o2 nm = o nm

/-- The same step from two tables of objects: what is changed is changed alike, and nothing else is. -/
structure Like (r r2 : R) (obj obj2 : Name → Option O) (wr : List Name) : Prop where
  ok : r2.ok = r.ok
  d : r2.d = r.d
  eff : ∀ nm, r2.obj nm = if nm ∈ wr then r.obj nm else obj2 nm
  frame : ∀ nm, nm ∉ wr → r.obj nm = obj nm

theorem Like.same {r r2 : R} {obj obj2 : Name → Option O} (h1 : r2.ok = r.ok) (h2 : r2.d = r.d) (h3 : r.obj = obj) (h4 : r2.obj = obj2) : Like r r2 obj obj2 [] :=
  ⟨h1, h2, fun nm => by rw [h4]; simp, fun nm _ => by rw [h3]⟩

theorem Like.one {ok : Prop} {d : D} {obj obj2 : Name → Option O} {nm : Name} {o : Option O} {wr : List Name} (h : nm ∈ wr) (ha : Agr wr obj obj2) : Like ⟨ok, d, upd obj nm o⟩ ⟨ok, d, upd obj2 nm o⟩ obj obj2 wr := by
  refine ⟨rfl, rfl, fun x => ?_, fun x hx => ?_⟩
  · show upd obj2 nm o x = if x ∈ wr then upd obj nm o x else obj2 x
    by_cases hx : x = nm
    · subst hx; rw [upd_same, upd_same, if_pos h]
    · rw [upd_ne _ _ _ hx, upd_ne _ _ _ hx]
      split
      · exact ha x (by assumption)
      · rfl
  · show upd obj nm o x = obj x
    rw [upd_ne]; rintro rfl; exact hx h

theorem Like.none {ok : Prop} {d : D} {obj obj2 : Name → Option O} (wr : List Name) (ha : Agr wr obj obj2) : Like ⟨ok, d, obj⟩ ⟨ok, d, obj2⟩ obj obj2 wr := by
  refine ⟨rfl, rfl, fun x => ?_, fun x _ => rfl⟩
  show obj2 x = if x ∈ wr then obj x else obj2 x
  split
  · exact ha x (by assumption)
  · rfl

section
variable {P : Program} {obj obj2 : Name → Option O}
theorem like_load {T : TypeId} {x : D} (h : Agr (tops x) obj obj2) : Like (aLoad P obj T x) (aLoad P obj2 T x) obj obj2 [] := by
  cases x with
  | ref nm off =>
    have h' : obj2 nm = obj nm := h nm (by simp [tops])
    rcases hT : tAgg P T with _ | ⟨_ | _, _ | _ | n⟩ <;> rcases ho : obj nm with _ | o <;> (try cases o) <;> simp only [aLoad, h', ho, hT, Option.bind_none, Option.bind_some] <;> first
      | exact .same rfl rfl rfl rfl
      | ((repeat' split) <;> exact .same rfl rfl rfl rfl)
  | aref nm k i off =>
    have h' : obj2 nm = obj nm := h nm (by simp [tops])
    rcases hT : tAgg P T with _ | ⟨_ | _, _ | _ | n⟩ <;> rcases ho : obj nm with _ | o <;> (try cases o) <;> simp only [aLoad, h', ho, hT, Option.bind_none, Option.bind_some] <;> first
      | exact .same rfl rfl rfl rfl
      | ((repeat' split) <;> exact .same rfl rfl rfl rfl)
  | _ => unfold aLoad; (repeat' split) <;> first | exact .same rfl rfl rfl rfl | (exfalso; simp_all; done)
theorem like_fieldAddr {T : TypeId} {f : Nat} {x : D} (h : Agr (tops x) obj obj2) : Like (aFieldAddr P obj T f x) (aFieldAddr P obj2 T f x) obj obj2 [] := by
  cases x with
  | aref nm k i off =>
    have h' : obj2 nm = obj nm := h nm (by simp [tops])
    rcases hT : tField P T f with _ | ⟨_, _, _⟩ <;> rcases ho : obj nm with _ | o <;> (try cases o) <;> simp only [aFieldAddr, h', ho, hT, Option.bind_none, Option.bind_some] <;> first
      | exact .same rfl rfl rfl rfl
      | ((repeat' split) <;> exact .same rfl rfl rfl rfl)
  | _ => unfold aFieldAddr; (repeat' split) <;> first | exact .same rfl rfl rfl rfl | (exfalso; simp_all; done)
theorem like_nilCheck {x : D} (h : Agr (tops x) obj obj2) : Like (aNilCheck obj x) (aNilCheck obj2 x) obj obj2 [] := by
  cases x with
  | aref nm k i off =>
    have h' : obj2 nm = obj nm := h nm (by simp [tops])
    rcases ho : obj nm with _ | o <;> (try cases o) <;> simp only [aNilCheck, h', ho, Option.bind_none, Option.bind_some] <;> first
      | exact .same rfl rfl rfl rfl
      | ((repeat' split) <;> exact .same rfl rfl rfl rfl)
  | _ => unfold aNilCheck; (repeat' split) <;> first | exact .same rfl rfl rfl rfl | (exfalso; simp_all; done)
theorem like_len {T : TypeId} {x : D} (h : Agr (tops x) obj obj2) : Like (aLen P obj T x) (aLen P obj2 T x) obj obj2 [] := by
  cases x with
  | msl nm k =>
    have h' : obj2 nm = obj nm := h nm (by simp [tops])
    rcases hT : tLen P T with _ | _ | _ | _ | n <;> rcases ho : obj nm with _ | o <;> (try cases o) <;> simp only [aLen, h', ho, hT, Option.bind_none, Option.bind_some] <;> first
      | exact .same rfl rfl rfl rfl
      | ((repeat' split) <;> exact .same rfl rfl rfl rfl)
  | map nm =>
    have h' : obj2 nm = obj nm := h nm (by simp [tops])
    rcases hT : tLen P T with _ | _ | _ | _ | n <;> rcases ho : obj nm with _ | o <;> (try cases o) <;> simp only [aLen, h', ho, hT, Option.bind_none, Option.bind_some] <;> first
      | exact .same rfl rfl rfl rfl
      | ((repeat' split) <;> exact .same rfl rfl rfl rfl)
  | _ => unfold aLen; (repeat' split) <;> first | exact .same rfl rfl rfl rfl | (exfalso; simp_all; done)
theorem like_indexAddr {T : TypeId} {x i : D} (h : Agr (tops x) obj obj2) : Like (aIndexAddr P obj T x i) (aIndexAddr P obj2 T x i) obj obj2 [] := by
  cases x with
  | msl nm k =>
    have h' : obj2 nm = obj nm := h nm (by simp [tops])
    cases i <;> (try (rename_i y; cases y)) <;> rcases hT : tElem P T with _ | ⟨_, _, _⟩ <;> rcases ho : obj nm with _ | o <;> (try cases o) <;> simp only [aIndexAddr, h', ho, hT, Option.bind_none, Option.bind_some] <;> first
      | exact .same rfl rfl rfl rfl
      | ((repeat' split) <;> exact .same rfl rfl rfl rfl)
  | _ => unfold aIndexAddr; (repeat' split) <;> first | exact .same rfl rfl rfl rfl | (exfalso; simp_all; done)
theorem like_lookup {T : TypeId} {x k : D} {co : Bool} (h : Agr (tops x) obj obj2) : Like (aLookup P obj T x k co) (aLookup P obj2 T x k co) obj obj2 [] := by
  unfold aLookup
  split
  · split
    · cases x with
      | map nm =>
        have h' : obj2 nm = obj nm := h nm (by simp [tops])
        simp only [h']
        rcases ho : obj nm with _ | o <;> (try cases o) <;> exact .same rfl rfl rfl rfl
      | _ => exact .same rfl rfl rfl rfl
    · exact .same rfl rfl rfl rfl
  · exact .same rfl rfl rfl rfl
theorem like_slice {T : TypeId} {x : D} {lo hi mx : Option D} (h : Agr (tops x) obj obj2) : Like (aSlice P obj T x lo hi mx) (aSlice P obj2 T x lo hi mx) obj obj2 (tops x) := by
  cases x with
  | msl nm k =>
    have h' : obj2 nm = obj nm := h nm (by simp [tops])
    rcases mx with _ | y
    · unfold aSlice
      simp only [h']
      rcases obj nm with _ | o <;> (try cases o) <;> rcases tElem P T with _ | ⟨_, _, _⟩ <;> rcases loOf lo with _ | _ <;> rcases hiOf k hi with _ | _ <;> first
        | exact .none _ h
        | exact .one (by simp [tops]) h
    · cases y with
      | v z =>
        cases z with
        | int kk n =>
          rcases n with n | n
          · rcases n with _ | n
            · simp only [aSlice, Int.ofNat_eq_natCast, Int.cast_ofNat_Int, h']
              rcases hT : tElem P T with _ | ⟨_, _, _⟩ <;> (repeat' split) <;> first
                | exact .none _ h
                | (exfalso; simp_all; done)
            · exact .none _ h
          · exact .none _ h
        | _ => exact .none _ h
      | _ => exact .none _ h
  | ref nm off =>
    have h' : obj2 nm = obj nm := h nm (by simp [tops])
    rcases mx with _ | y
    · unfold aSlice
      simp only [h']
      rcases lo with _ | _ <;> rcases hi with _ | _ <;> rcases tArr P T with _ | ⟨_, _, _⟩ <;> rcases obj nm with _ | o <;> (try cases o) <;> exact .none _ h
    · unfold aSlice; (repeat' split) <;> first | exact .none _ h | (exfalso; simp_all; done)
  | _ => unfold aSlice; (repeat' split) <;> first | exact .none _ h | (exfalso; simp_all; done)
theorem like_store {T : TypeId} {x d : D} (h : Agr (tops x) obj obj2) : Like (aStore P obj T x d) (aStore P obj2 T x d) obj obj2 (tops x) := by
  cases x with
  | ref nm off =>
    have h' : obj2 nm = obj nm := h nm (by simp [tops])
    unfold aStore
    rcases tAgg P T with _ | ⟨b, n⟩
    · exact .none _ h
    simp only [h']
    rcases obj nm with _ | o <;> (try cases o) <;> first
      | exact .none _ h
      | exact .one (by simp [tops]) h
  | aref nm k i off =>
    have h' : obj2 nm = obj nm := h nm (by simp [tops])
    unfold aStore
    rcases tAgg P T with _ | ⟨b, n⟩
    · exact .none _ h
    simp only [h']
    rcases obj nm with _ | o <;> (try cases o) <;> rcases asV d with _ | y <;> first
      | exact .none _ h
      | exact .one (by simp [tops]) h
  | _ => unfold aStore; (repeat' split) <;> first | exact .none _ h | (exfalso; simp_all; done)
theorem like_mapUpdate {T : TypeId} {x k d : D} (h : Agr (tops x) obj obj2) : Like (aMapUpdate P obj T x k d) (aMapUpdate P obj2 T x k d) obj obj2 (tops x) := by
  cases x with
  | map nm =>
    have h' : obj2 nm = obj nm := h nm (by simp [tops])
    unfold aMapUpdate
    rcases tMap P T with _ | ⟨kd, e⟩
    · exact .none _ h
    rcases asV k with _ | kv <;> rcases asV d with _ | y <;> first
      | exact .none _ h
      | (simp only [h']
         rcases obj nm with _ | o <;> (try cases o) <;> first
          | exact .none _ h
          | exact .one (by simp [tops]) h)
  | _ => unfold aMapUpdate; (repeat' split) <;> first | exact .none _ h | (exfalso; simp_all; done)
theorem like_box {t : Name} {x : D} (h : Agr [nmO t] obj obj2) : Like (aBox obj t x) (aBox obj2 t x) obj obj2 [nmO t] := by
  have h1 := h (nmO t) (by simp)
  unfold aBox
  simp only [h1]
  exact .one (by simp) h
theorem like_alloc {t : Name} {T : TypeId} (h : Agr [nmO t] obj obj2) : Like (aAlloc P obj t T) (aAlloc P obj2 t T) obj obj2 [nmO t] := by
  unfold aAlloc
  split
  · exact like_box h
  · exact .none _ h
theorem like_makeMap {t : Name} {T : TypeId} {r : Option D} (h : Agr [nmO t] obj obj2) : Like (aMakeMap P obj t T r) (aMakeMap P obj2 t T r) obj obj2 [nmO t] := by
  have h1 := h (nmO t) (by simp)
  unfold aMakeMap
  rcases tMap P T with _ | ⟨kd, e⟩
  · exact .none _ h
  cases r
  · simp only [h1]
    exact .one (by simp) h
  · exact .none _ h
theorem like_makeSlice {t : Name} {T : TypeId} {l c : D} (h : Agr [nmO t] obj obj2) : Like (aMakeSlice P obj t T l c) (aMakeSlice P obj2 t T l c) obj obj2 [nmO t] := by
  have h1 := h (nmO t) (by simp)
  unfold aMakeSlice
  split
  · split
    · simp only [h1]
      exact .one (by simp) h
    · exact .none _ h
  · exact .none _ h
theorem srcL_like {x : D} (h : Agr (tops x) obj obj2) : srcL obj2 x = srcL obj x := by
  cases x with
  | msl nm k =>
    have h' : obj2 nm = obj nm := h nm (by simp [tops])
    unfold srcL
    simp only [h']
  | v y => cases y <;> rfl
  | _ => rfl
theorem like_append {t : Name} {T1 T2 : TypeId} {s x : D} (h : Agr (tops s ++ tops x ++ [nmO t]) obj obj2) :
    Like (aAppend P obj t T1 T2 s x) (aAppend P obj2 t T1 T2 s x) obj obj2 (tops s ++ tops x ++ [nmO t]) := by
  have h1 := h (nmO t) (by simp)
  have h2 : srcL obj2 x = srcL obj x := srcL_like fun nm hn => h nm (by simp [hn])
  unfold aAppend
  rcases tElem P T1 with _ | ⟨e, sz, b⟩
  · exact .none _ h
  rcases tElem P T2 with _ | _
  · exact .none _ h
  simp only [h1, h2]
  rcases tZero P e with _ | z
  · exact .none _ h
  cases s with
  | nilsl => exact .one (by simp) h
  | msl nm k =>
    have h' : obj2 nm = obj nm := h nm (by simp [tops])
    simp only [h']
    rcases obj nm with _ | o <;> (try cases o) <;> first
      | exact .none _ h
      | exact .one (by simp [tops]) h
  | _ => exact .none _ h
end

/-! freezing -/

def Fz (obj obj' : Name → Option O) : Prop := ∀ nm, obj' nm = obj nm ∨ ∃ o o', obj nm = some o ∧ o.mut = true ∧ obj' nm = some o' ∧ o'.mut = false
theorem Fz.refl (obj : Name → Option O) : Fz obj obj := fun _ => .inl rfl
theorem Fz.trans {a b c : Name → Option O} (h : Fz a b) (k : Fz b c) : Fz a c := by
  intro nm
  rcases k nm with e | ⟨o, o', h1, h2, h3, h4⟩
  · rw [e]; exact h nm
  · rcases h nm with e | ⟨q, q', g1, g2, g3, g4⟩
    · exact .inr ⟨o, o', e ▸ h1, h2, h3, h4⟩
    · rw [h1] at g3; cases g3; rw [h2] at g4; cases g4
theorem Fz.one {obj obj' : Name → Option O} {nm : Name} {o o' : O} (h : Fz obj obj') (h1 : obj nm = some o) (h2 : o.mut = true) (h3 : o'.mut = false) : Fz obj (upd obj' nm (some o')) := by
  intro x
  by_cases hx : x = nm
  · subst hx; exact .inr ⟨o, o', h1, h2, upd_same _ _ _, h3⟩
  · rw [upd_ne _ _ _ hx]; exact h x

theorem frzL_fz {f : (Name → Option O) → D → FR} (hf : ∀ obj d, Fz obj (f obj d).obj) : ∀ (l : List D) (obj : Name → Option O), Fz obj (frzL f obj l).obj
  | [], obj => .refl obj
  | d :: r, obj => (hf obj d).trans (frzL_fz hf r _)
theorem frz_fz : ∀ (n : Nat) (obj : Name → Option O) (d : D), Fz obj (frz n obj d).obj
  | 0, obj, d => by cases d <;> exact .refl obj
  | n + 1, obj, d => by
    have ih : ∀ (l : List D) (obj : Name → Option O), Fz obj (frzL (frz n) obj l).obj := frzL_fz (frz_fz n)
    cases d with
    | msl nm k =>
      unfold frz
      simp only
      rcases ho : obj nm with _ | o
      · exact .refl obj
      · cases o <;> first
          | exact .refl obj
          | exact Fz.one (.refl obj) ho rfl rfl
    | ref nm off =>
      unfold frz
      simp only
      rcases ho : obj nm with _ | o
      · exact .refl obj
      · cases o <;> first
          | exact .refl obj
          | exact Fz.one (ih _ obj) ho rfl rfl
    | agg l => exact ih l obj
    | tup l => exact ih l obj
    | clo fn f c => exact (ih f obj).trans (ih c _)
    | _ => exact .refl obj

theorem fpL_sub {f g : D → List Name} (h : ∀ d, ∀ nm ∈ f d, nm ∈ g d) : ∀ (l : List D), ∀ nm ∈ fpL f l, nm ∈ fpL g l
  | [], nm, hn => hn
  | d :: r, nm, hn => by
    rcases List.mem_append.1 hn with hn | hn
    · exact List.mem_append_left _ (h d nm hn)
    · exact List.mem_append_right _ (fpL_sub h r nm hn)
theorem fp_fz {obj obj' : Name → Option O} (h : Fz obj obj') : ∀ (n : Nat) (d : D), ∀ nm ∈ fp n obj' d, nm ∈ fp n obj d
  | 0, d, nm, hn => by cases d <;> exact hn
  | n + 1, d, nm, hn => by
    have ih : ∀ (l : List D), ∀ nm ∈ fpL (fp n obj') l, nm ∈ fpL (fp n obj) l := fpL_sub (fp_fz h n)
    cases d with
    | ref x off =>
      simp only [fp] at hn ⊢
      rcases List.mem_cons.1 hn with hn | hn
      · exact hn ▸ List.mem_cons_self
      · refine List.mem_cons_of_mem _ ?_
        rcases h x with e | ⟨o, o', h1, h2, h3, h4⟩
        · rw [e] at hn
          rcases ho : obj x with _ | o
          · rw [ho] at hn; simp at hn
          · rw [ho] at hn
            cases o <;> first
              | exact ih _ nm hn
              | (simp at hn; done)
        · rw [h3] at hn
          cases o' <;> simp [O.mut] at h4 <;> simp at hn
    | agg l => exact ih l nm hn
    | tup l => exact ih l nm hn
    | clo fn f c =>
      rcases List.mem_append.1 hn with hn | hn
      · exact List.mem_append_left _ (ih f nm hn)
      · exact List.mem_append_right _ (ih c nm hn)
    | _ => exact hn

structure FLike (ok ok2 : Prop) (o o2 obj obj2 : Name → Option O) (W : List Name) : Prop where
  ok : ok2 = ok
  agr : Agr W o o2
  frame : ∀ nm, nm ∉ W → o nm = obj nm
  frame2 : ∀ nm, nm ∉ W → o2 nm = obj2 nm

theorem FLike.refl {ok : Prop} {obj obj2 : Name → Option O} {W : List Name} (h : Agr W obj obj2) : FLike ok ok obj obj2 obj obj2 W := ⟨rfl, h, fun _ _ => rfl, fun _ _ => rfl⟩
theorem FLike.upd {ok ok2 : Prop} {o o2 obj obj2 : Name → Option O} {W : List Name} (h : FLike ok ok2 o o2 obj obj2 W) {nm : Name} (hn : nm ∈ W) (q : Option O) (ok' ok2' : Prop) (hk : ok2' = ok') :
    FLike ok' ok2' (Go.Eng.upd o nm q) (Go.Eng.upd o2 nm q) obj obj2 W := by
  refine ⟨hk, fun x hx => ?_, fun x hx => ?_, fun x hx => ?_⟩
  · by_cases e : x = nm
    · subst e; rw [upd_same, upd_same]
    · rw [upd_ne _ _ _ e, upd_ne _ _ _ e]; exact h.agr x hx
  · rw [upd_ne _ _ _ (by rintro rfl; exact hx hn)]; exact h.frame x hx
  · rw [upd_ne _ _ _ (by rintro rfl; exact hx hn)]; exact h.frame2 x hx

def FrzLk (n : Nat) : Prop := ∀ (d : D) (obj obj2 : Name → Option O) (W : List Name), (∀ nm ∈ fp n obj d, nm ∈ W) → Agr W obj obj2 →
  (frz n obj2 d).x = (frz n obj d).x ∧ FLike (frz n obj d).ok (frz n obj2 d).ok (frz n obj d).obj (frz n obj2 d).obj obj obj2 W

theorem frzL_like {n : Nat} (hf : FrzLk n) : ∀ (l : List D) (obj obj2 : Name → Option O) (W : List Name), (∀ nm ∈ fpL (fp n obj) l, nm ∈ W) → Agr W obj obj2 →
    (frzL (frz n) obj2 l).xs = (frzL (frz n) obj l).xs ∧ FLike (frzL (frz n) obj l).ok (frzL (frz n) obj2 l).ok (frzL (frz n) obj l).obj (frzL (frz n) obj2 l).obj obj obj2 W
  | [], obj, obj2, W, _, h => ⟨rfl, .refl h⟩
  | d :: r, obj, obj2, W, hw, h => by
    obtain ⟨h1, h2⟩ := hf d obj obj2 W (fun nm hn => hw nm (List.mem_append_left _ hn)) h
    obtain ⟨h3, h4⟩ := frzL_like hf r (frz n obj d).obj (frz n obj2 d).obj W (fun nm hn => hw nm (List.mem_append_right _ (fpL_sub (fp_fz (frz_fz n obj d) n) r nm hn))) h2.agr
    refine ⟨?_, ?_⟩
    · simp only [frzL, h1, h3]
    · refine ⟨?_, h4.agr, fun nm hn => (h4.frame nm hn).trans (h2.frame nm hn), fun nm hn => (h4.frame2 nm hn).trans (h2.frame2 nm hn)⟩
      simp only [frzL, h2.ok, h4.ok]

theorem frz_like : ∀ n, FrzLk n
  | 0 => fun d obj obj2 W hw h => by cases d <;> exact ⟨rfl, .refl h⟩
  | n + 1 => fun d obj obj2 W hw h => by
    have ih := frzL_like (frz_like n)
    cases d with
    | msl nm k =>
      have hn : nm ∈ W := hw nm (by simp [fp])
      have h' := h nm hn
      unfold frz
      simp only [h']
      rcases ho : obj nm with _ | o
      · exact ⟨rfl, .refl h⟩
      · cases o <;> first
          | exact ⟨rfl, .refl h⟩
          | exact ⟨rfl, (FLike.refl (ok := True) h).upd hn _ _ _ rfl⟩
    | ref nm off =>
      have hn : nm ∈ W := hw nm (by simp [fp])
      have h' := h nm hn
      unfold frz
      simp only [h']
      rcases ho : obj nm with _ | o
      · exact ⟨rfl, .refl h⟩
      · cases o <;> first
          | exact ⟨rfl, .refl h⟩
          | (obtain ⟨h1, h2⟩ := ih _ obj obj2 W (fun x hx => hw x (by simp only [fp, ho]; exact List.mem_cons_of_mem _ hx)) h
             simp only [h1]
             exact ⟨trivial, h2.upd hn _ _ _ (by rw [h2.ok, h2.agr nm hn])⟩)
    | agg l =>
      obtain ⟨h1, h2⟩ := ih l obj obj2 W hw h
      refine ⟨?_, h2⟩
      simp only [frz, h1]
    | tup l =>
      obtain ⟨h1, h2⟩ := ih l obj obj2 W hw h
      refine ⟨?_, h2⟩
      simp only [frz, h1]
    | clo fn f c =>
      obtain ⟨h1, h2⟩ := ih f obj obj2 W (fun nm hn => hw nm (List.mem_append_left _ hn)) h
      obtain ⟨h3, h4⟩ := ih c (frzL (frz n) obj f).obj (frzL (frz n) obj2 f).obj W (fun nm hn => hw nm (List.mem_append_right _ (fpL_sub (fp_fz (frzL_fz (frz_fz n) f obj) n) c nm hn))) h2.agr
      refine ⟨?_, ?_, h4.agr, fun nm hn => (h4.frame nm hn).trans (h2.frame nm hn), fun nm hn => (h4.frame2 nm hn).trans (h2.frame2 nm hn)⟩
      · simp only [frz, h1, h3]
      · simp only [frz, h2.ok, h4.ok]
    | _ => exact ⟨rfl, .refl h⟩

/-- What the names among these are that may change. -/
def muts (obj : Name → Option O) (l : List Name) : List Name := l.filter fun nm => match obj nm with | some o => o.mut | none => false
theorem FLike.like {ok ok2 : Prop} {d d2 : D} {o o2 obj obj2 : Name → Option O} {W : List Name} (h : FLike ok ok2 o o2 obj obj2 W) (hd : d2 = d) (hz : Fz obj o) (ha : Agr W obj obj2) :
    Like ⟨ok, d, o⟩ ⟨ok2, d2, o2⟩ obj obj2 (muts obj W) := by
  have key : ∀ nm, nm ∉ muts obj W → o nm = obj nm := by
    intro nm hn
    rcases hz nm with e | ⟨q, q', h1, h2, h3, h4⟩
    · exact e
    · by_cases hw : nm ∈ W
      · exact (hn (List.mem_filter.2 ⟨hw, by simp [h1, h2]⟩)).elim
      · exact h.frame nm hw
  refine ⟨h.ok, hd, fun nm => ?_, key⟩
  show o2 nm = if nm ∈ muts obj W then o nm else obj2 nm
  split
  · rename_i hn
    exact h.agr nm (List.mem_filter.1 hn).1
  · rename_i hn
    by_cases hw : nm ∈ W
    · rw [h.agr nm hw, key nm hn]; exact (ha nm hw).symm
    · exact h.frame2 nm hw
end Go.Eng
/- The engine's twelfth text: one operation, calls of functions that have a contract among them. -/
namespace Go.Eng
open Go

def V.flat0 : V → Bool
  | .int _ _ | .bool _ | .str _ | .nilp | .nilfn => true
  | _ => false
def V.flat1 : V → Bool
  | .agg l => l.all V.flat0
  | x => x.flat0
def V.flat : V → Bool
  | .tup l => l.all V.flat1
  | x => x.flat1

theorem RepV.flat0 {m m' : Mem} {x : V} {u : Value} (h : RepV m x u) (hf : x.flat0 = true) : RepV m' x u := by
  cases h <;> simp [V.flat0] at hf
  · exact .int _ _
  · exact .bool _
  · exact .str _ (by assumption)
  · exact .nilp
  · exact .nilfn
theorem RepV.flat1 {m m' : Mem} {x : V} {u : Value} (h : RepV m x u) (hf : x.flat1 = true) : RepV m' x u := by
  cases x with
  | agg l =>
    cases h with
    | agg _ us hl ho hr =>
    simp only [V.flat1, List.all_eq_true] at hf
    exact .agg l us hl ho fun i a b => (hr i a b).flat0 (hf _ (List.getElem_mem a))
  | _ => exact h.flat0 hf
theorem RepV.flat {m m' : Mem} {x : V} {u : Value} (h : RepV m x u) (hf : x.flat = true) : RepV m' x u := by
  cases x with
  | tup l =>
    cases h with
    | tup _ us hl hr =>
    simp only [V.flat, List.all_eq_true] at hf
    exact .tup l us hl fun i a b => (hr i a b).flat1 (hf _ (List.getElem_mem a))
  | _ => exact h.flat1 hf

/-- A contract of a function that only looks at plain data and hands back plain data. -/
structure PSpec where
  pre : List V → Prop
  fn : List V → V
  flat : Bool

def RepVs (m : Mem) (xs : List V) (us : List Value) : Prop :=
  xs.length = us.length ∧ ∀ i (h : i < xs.length) (h' : i < us.length), RepV m xs[i] us[i]

def yid : FuncId := 1000000000

structure PSound (P : Program) (f : FuncId) (s : PSpec) : Prop where
  ne : f ≠ yid
  enter : ∀ args w, (callFunc f args).run P w = .ok (.enter f args) w
  flat : s.flat = true → ∀ xs, s.pre xs → (s.fn xs).flat = true
  calls : ∀ (m : Mem) (w : World) (xs : List V) (args : Array Value), Tabs w → (∀ b off v, m b off = some v → w.cell? ⟨b, off, none⟩ = some v) → RepVs m xs args.toList → s.pre xs →
    Calls P f args w fun e w' => ∃ v m', e = .returned v ∧ RowKit.Below w.heap.size w w' ∧ Mem.le m m' ∧
      (∀ b off c, m' b off = some c → m b off = some c ∨ (w.heap.size ≤ b ∧ w'.cell? ⟨b, off, none⟩ = some c)) ∧ RepV m' (s.fn xs) v

def opD (σ : S) : Operand → D
  | .tmp t => (σ.env t).d
  | .const v => ofVal v
  | .func f => .v (.clo (.func f) [] [])
  | .global _ => .any
def opC (σ : S) : Operand → Bool
  | .tmp t => (σ.env t).c
  | _ => true

/-- What a call does, abstractly: of any kind of contract. -/
structure Spec where
  app : (Name → Option O) → Name → List D → R
  foot : (Name → Option O) → Name → List D → List Name
  wrt : (Name → Option O) → Name → List D → List Name

structure Spec.Near (s : Spec) : Prop where
  like : ∀ obj obj2 t ds, Agr (s.foot obj t ds) obj obj2 → Like (s.app obj t ds) (s.app obj2 t ds) obj obj2 (s.wrt obj t ds)
  foot : ∀ obj obj2 t ds, Agr (s.foot obj t ds) obj obj2 → s.foot obj2 t ds = s.foot obj t ds
  sub : ∀ obj t ds, ∀ nm ∈ s.wrt obj t ds, nm ∈ s.foot obj t ds
  wrt : ∀ obj obj2 t ds, Agr (s.foot obj t ds) obj obj2 → s.wrt obj2 t ds = s.wrt obj t ds

/-- No fence but for the round that a frame is in. -/
def fen (rd : Option Nat) : Fence := { Fence.wide with round := rd }
theorem fen_calls {rd : Option Nat} {n : Nat} {P : Program} {f : FuncId} {args : Array Value} {w : World} {R : Ending → World → Prop} (h : Calls P f args w R) : CallsIn (fen rd) n P f args w R :=
  (callsIn_wide (n := n)).2 h

/-- What an operation leaves to prove. -/
def OpGoal (P : Program) (G : Ghost) (σ : S) (a : Act) (w : World) (o : Oper) (r : R) : Prop :=
  ∀ (next : Act → World → Prop) (Q : Exit → Act → World → Prop),
    (∀ v φ' m' w', Conc G φ' m' { σ with obj := r.obj } a w' → RepD φ' r.obj m' r.d v → next (a.put o.dst v) w') → o.uponIn (fen G.rd) 0 P a next Q ((execOp a.eval o).run P w)

structure SSound (P : Program) (f : FuncId) (s : Spec) : Prop where
  near : s.Near
  enter : f ≠ yid → ∀ args w, (callFunc f args).run P w = .ok (.enter f args) w
  calls : f ≠ yid → ∀ (G : Ghost) (φ : Name → Loc) (m : Mem) (σ : S) (a : Act) (w : World), Conc G φ m σ a w → ∀ (t : Name) (ds : List D) (us : Array Value), (∃ k, t = k :: σ.pre) → ds.length = us.size →
    (∀ i (h : i < ds.length) (h' : i < us.size), RepD φ σ.obj m ds[i] us[i]) → (s.app σ.obj t ds).ok →
    Calls P f us w fun e w' => ∃ v φ' m', e = .returned v ∧ Conc G φ' m' { σ with obj := (s.app σ.obj t ds).obj } a w' ∧ RepD φ' (s.app σ.obj t ds).obj m' (s.app σ.obj t ds).d v ∧ Ext φ φ' σ.obj (s.app σ.obj t ds).obj
  yields : f = yid → ∀ (G : Ghost) (φ : Name → Loc) (m : Mem) (σ : S) (a : Act) (w : World), Conc G φ m σ a w → ∀ (t nm : Name) (ds : List D) (us : Array Value), (∃ k, t = k :: σ.pre) → ds.length = us.size →
    (∀ i (h : i < ds.length) (h' : i < us.size), RepD φ σ.obj m ds[i] us[i]) → isBox σ.obj nm → (s.app σ.obj t (.yld nm :: ds)).ok →
    ∀ o : Oper, execOp a.eval o = Instr.yield (φ nm).blk us → OpGoal P G σ a w o (s.app σ.obj t (.yld nm :: ds))

def PSpec.toSpec (s : PSpec) : Spec :=
  ⟨fun obj _ ds => ⟨(frzL (frz 6) obj ds).ok ∧ s.pre (frzL (frz 6) obj ds).xs, .v (s.fn (frzL (frz 6) obj ds).xs), if s.flat then obj else (frzL (frz 6) obj ds).obj⟩,
   fun obj _ ds => fpL (fp 6 obj) ds, fun obj _ ds => if s.flat then [] else muts obj (fpL (fp 6 obj) ds)⟩

def clArgs (f : D) (args : List D) : List D :=
  match f with
  | .v (.clo _ fs cs) => fs.map .v ++ args ++ cs.map .v
  | .clo _ fs cs => fs ++ args ++ cs
  | .yld nm => .yld nm :: args
  | _ => []
def clFn : D → Option FuncId
  | .v (.clo (.func f) _ _) => if f = yid then none else some f
  | .clo (.func f) _ _ => if f = yid then none else some f
  | .yld _ => some yid
  | _ => none

def aCall (Γ : FuncId → Option Spec) (σ : S) (t : Name) (f : D) (args : List D) : R :=
  match (clFn f).bind Γ with
  | some s => s.app σ.obj t (clArgs f args)
  | none => .bad σ.obj

def aBuiltin (P : Program) (σ : S) (t : Name) (b : Builtin) (ts : List TypeId) (args : List D) : R :=
  match b, ts, args with
  | .len, [T], [x] => aLen P σ.obj T x
  | .append, [T1, T2], [s, x] => aAppend P σ.obj t T1 T2 s x
  | .min, _, [.v (.int k a), .v (.int _ b)] => ⟨True, .v (.int k (if b < a then b else a)), σ.obj⟩
  | .max, _, [.v (.int k a), .v (.int _ b)] => ⟨True, .v (.int k (if b > a then b else a)), σ.obj⟩
  | _, _, _ => .bad σ.obj

def aop (P : Program) (Γ : FuncId → Option Spec) (σ : S) (t : Name) : Op → R
  | .move x => ⟨True, opD σ x, σ.obj⟩
  | .assign x => ⟨True, opD σ x, σ.obj⟩
  | .pick c x y => aPick σ.obj (opD σ c) (opD σ x) (opD σ y)
  | .alloc T => aAlloc P σ.obj t T
  | .box _ x => aBox σ.obj t (opD σ x)
  | .build T ps => aBuild P σ.obj T (ps.toList.map fun p => (p.1, opD σ p.2))
  | .buildSlice T n ps => aBuildSlice P σ.obj T n (ps.toList.map fun p => (p.1, opD σ p.2))
  | .load T x => aLoad P σ.obj T (opD σ x)
  | .store T x d => aStore P σ.obj T (opD σ x) (opD σ d)
  | .nilCheck x => aNilCheck σ.obj (opD σ x)
  | .binOp op T x y _ => aBin' P σ.obj op T (opD σ x) (opD σ y) (isNilC y)
  | .unOp op _ x => aUn σ.obj op (opD σ x)
  | .convert s d x => aConv P σ.obj s d (opD σ x)
  | .makeFunc fn f c => aFunc σ.obj fn (f.toList.map (opD σ)) (c.toList.map (opD σ))
  | .makeMap T r => aMakeMap P σ.obj t T (r.map (opD σ))
  | .makeSlice T l c => aMakeSlice P σ.obj t T (opD σ l) (opD σ c)
  | .slice T x lo hi mx => aSlice P σ.obj T (opD σ x) (lo.map (opD σ)) (hi.map (opD σ)) (mx.map (opD σ))
  | .fieldAddr T x f => aFieldAddr P σ.obj T f (opD σ x)
  | .field T x f => aField P σ.obj T (opD σ x) f
  | .indexAddr T x i => aIndexAddr P σ.obj T (opD σ x) (opD σ i)
  | .index T x i => aIndex P σ.obj T (opD σ x) (opD σ i)
  | .lookup T x i co => aLookup P σ.obj T (opD σ x) (opD σ i) co
  | .mapUpdate T x k d => aMapUpdate P σ.obj T (opD σ x) (opD σ k) (opD σ d)
  | .insert T x k d => aMapUpdate P σ.obj T (opD σ x) (opD σ k) (opD σ d)
  | .extract x i => aExtract σ.obj (opD σ x) i
  | .call ⟨.value f, args, _⟩ => aCall Γ σ t (opD σ f) (args.toList.map (opD σ))
  | .call ⟨.builtin b, args, ts⟩ => aBuiltin P σ t b ts.toList (args.toList.map (opD σ))
  | _ => .bad σ.obj

theorem opD_rep {G : Ghost} {φ : Name → Loc} {m : Mem} {σ : S} {a : Act} {w : World} (hC : Conc G φ m σ a w) {x : Operand} (h : opC σ x = true) : RepD φ σ.obj m (opD σ x) (a.eval x) := by
  cases x with
  | tmp t =>
    have := hC.tmps t
    unfold RepE at this
    simp only [opC] at h
    rw [if_pos h] at this
    exact this
  | const v => exact ofVal_rep v
  | func f => exact .v _ _ (.clo _ _ _ _ _ rfl rfl (fun i h => by simp at h) (fun i h => by simp at h))
  | global g => exact .any _

theorem goal_value {P : Program} {G : Ghost} {φ : Name → Loc} {m : Mem} {σ : S} {a : Act} {w : World} {o : Oper} {r : R} {v : Value} {w' : World}
    (hrun : (execOp a.eval o).run P w = .ok (.value v) w') (hd : Done G σ a r v w') : OpGoal P G σ a w o r := by
  intro next Q hnext
  obtain ⟨φ', m', h1, h2⟩ := hd
  rw [hrun]
  exact hnext v φ' m' w' h1 h2

theorem goal_quiet {P : Program} {G : Ghost} {φ : Name → Loc} {m : Mem} {σ : S} {a : Act} {w : World} (hC : Conc G φ m σ a w) {o : Oper} {r : R} {s : Sem Value}
    (he : execOp a.eval o = (do pure (.value (← s)))) (h : ∃ v, s.run P w = .ok v w ∧ RepD φ σ.obj m r.d v ∧ r.obj = σ.obj) : OpGoal P G σ a w o r := by
  obtain ⟨v, h1, h2, h3⟩ := h
  refine goal_value (φ := φ) (m := m) (v := v) (w' := w) (by rw [he]; simp [h1]) ⟨φ, m, ?_, ?_⟩
  · rw [h3]; exact hC
  · rw [h3]; exact h2

theorem goal_done {P : Program} {G : Ghost} {σ : S} {a : Act} {w : World} {o : Oper} {r : R} {s : Sem Value}
    (he : execOp a.eval o = (do pure (.value (← s)))) (h : ∃ v w', s.run P w = .ok v w' ∧ Done G σ a r v w') : OpGoal P G σ a w o r := by
  obtain ⟨v, w', h1, h2⟩ := h
  obtain ⟨φ', m', h3, h4⟩ := h2
  exact goal_value (φ := φ') (m := m') (v := v) (w' := w') (by rw [he]; simp [h1]) ⟨φ', m', h3, h4⟩

theorem goal_unit {P : Program} {G : Ghost} {σ : S} {a : Act} {w : World} {o : Oper} {r : R} {s : Sem Unit} (hd : r.d = .any)
    (he : execOp a.eval o = (do s; pure .skip)) (h : ∃ w', s.run P w = .ok () w' ∧ ∃ φ' m', Conc G φ' m' { σ with obj := r.obj } a w') : OpGoal P G σ a w o r := by
  obtain ⟨w', h1, φ', m', h2⟩ := h
  intro next Q hnext
  rw [he]
  simp only [Sem.run_bind, h1, Result.andThen_ok, Sem.run_pure]
  exact hnext undef φ' m' w' h2 (by rw [hd]; exact .any _)

theorem repDs_map {G : Ghost} {φ : Name → Loc} {m : Mem} {σ : S} {a : Act} {w : World} (hC : Conc G φ m σ a w) {x : Option Operand} (h : ∀ y ∈ x.toList, opC σ y = true) :
    RepDs φ σ.obj m (x.map (opD σ)) (x.map a.eval) := by
  cases x with
  | none => trivial
  | some y => exact opD_rep hC (h y (by simp))

theorem call_goal {P : Program} {Γ : FuncId → Option Spec} (hΓ : ∀ f s, Γ f = some s → SSound P f s) {G : Ghost} {φ : Name → Loc} {m : Mem} {σ : S} {a : Act} {w : World} (hC : Conc G φ m σ a w)
    {o : Oper} {f : FuncId} {s : Spec} {t : Name} (ht : ∃ k, t = k :: σ.pre) (hf : f ≠ yid) (hs : Γ f = some s) {ds : List D} {us : Array Value}
    (he : (execOp a.eval o) = callFunc f us) (hl : ds.length = us.size) (hr : ∀ i (h : i < ds.length) (h' : i < us.size), RepD φ σ.obj m ds[i] us[i])
    (hok : (s.app σ.obj t ds).ok) : OpGoal P G σ a w o (s.app σ.obj t ds) := by
  obtain ⟨_, hen, hcalls, _⟩ := hΓ f s hs
  intro next Q hnext
  rw [he, hen hf, Oper.uponIn_enter]
  refine ⟨fun h => (by simp [fen, Fence.wide] at h), fen_calls ?_⟩
  refine (hcalls hf G φ m σ a w hC t ds us ht hl hr hok).mono ?_
  rintro e w' ⟨v, φ', m', rfl, h1, h2, _⟩
  exact hnext v φ' m' w' h1 h2

theorem fp_same {obj obj2 : Name → Option O} : ∀ (n : Nat) (d : D), Agr (fp n obj d) obj obj2 → fp n obj2 d = fp n obj d
  | 0, d, h => by cases d <;> rfl
  | n + 1, d, h => by
    have ih : ∀ (l : List D), Agr (fpL (fp n obj) l) obj obj2 → fpL (fp n obj2) l = fpL (fp n obj) l := by
      intro l
      induction l with
      | nil => intro _; rfl
      | cons d r ihr => intro h; simp only [fpL]; rw [fp_same n d fun nm hn => h nm (List.mem_append_left _ hn), ihr fun nm hn => h nm (List.mem_append_right _ hn)]
    cases d with
    | ref nm off =>
      have h' := h nm (by simp [fp])
      simp only [fp, h']
      rcases ho : obj nm with _ | o
      · rfl
      · cases o <;> first
          | rfl
          | (simp only; rw [ih _ fun x hx => h x (by simp only [fp, ho]; exact List.mem_cons_of_mem _ hx)])
    | agg l => exact ih l h
    | tup l => exact ih l h
    | clo fn f c => simp only [fp]; rw [ih f fun nm hn => h nm (List.mem_append_left _ hn), ih c fun nm hn => h nm (List.mem_append_right _ hn)]
    | _ => rfl
theorem fpL_same {obj obj2 : Name → Option O} {n : Nat} : ∀ (l : List D), Agr (fpL (fp n obj) l) obj obj2 → fpL (fp n obj2) l = fpL (fp n obj) l
  | [], _ => rfl
  | d :: r, h => by simp only [fpL]; rw [fp_same n d fun nm hn => h nm (List.mem_append_left _ hn), fpL_same r fun nm hn => h nm (List.mem_append_right _ hn)]

theorem muts_same {obj obj2 : Name → Option O} {l : List Name} (h : Agr l obj obj2) : muts obj2 l = muts obj l :=
  List.filter_congr fun nm hn => by rw [h nm hn]

theorem PSpec.near (s : PSpec) : s.toSpec.Near := by
  refine ⟨fun obj obj2 t ds h => ?_, fun obj obj2 t ds h => fpL_same ds h, fun obj t ds nm hn => ?_, fun obj obj2 t ds h => ?_⟩
  · obtain ⟨h1, h2⟩ := frzL_like (frz_like 6) ds obj obj2 _ (fun _ hn => hn) h
    have hok : ((frzL (frz 6) obj2 ds).ok ∧ s.pre (frzL (frz 6) obj2 ds).xs) = ((frzL (frz 6) obj ds).ok ∧ s.pre (frzL (frz 6) obj ds).xs) := by rw [h1, h2.ok]
    simp only [PSpec.toSpec]
    cases hf : s.flat with
    | true => exact .same hok (by rw [h1]) rfl rfl
    | false =>
      simp only [Bool.false_eq_true, if_false]
      exact FLike.like ⟨hok, h2.agr, h2.frame, h2.frame2⟩ (by rw [h1]) (frzL_fz (frz_fz 6) ds obj) h
  · simp only [PSpec.toSpec] at hn ⊢
    split at hn
    · simp at hn
    · exact (List.mem_filter.1 hn).1
  · simp only [PSpec.toSpec]
    split
    · rfl
    · rw [fpL_same ds h]; exact muts_same h

theorem PSound.sound {P : Program} {f : FuncId} {s : PSpec} (h : PSound P f s) : SSound P f s.toSpec := by
  obtain ⟨hy, hen, hfl, hcalls⟩ := h
  refine ⟨s.near, fun _ => hen, fun _ G φ m σ a w hC t ds us _ hl hr hok => ?_, fun e => (hy e).elim⟩
  obtain ⟨hok1, hok2⟩ := hok
  obtain ⟨m1, a1, a2, a3, a4, a5, a6⟩ := frzL_ok (frz_ok 6) ds hC us.toList (by simpa using hl) (fun i h h' => by
    have := hr i h (by simpa using h')
    rw [Array.getElem_toList]; exact this) hok1
  refine (hcalls m1 w (frzL (frz 6) σ.obj ds).xs us a2.fr.tab a2.mem ⟨by rw [a4]; simpa using hl, a5⟩ hok2).mono ?_
  rintro e w' ⟨v, m', rfl, hb, hm, hn, hv⟩
  simp only [PSpec.toSpec]
  by_cases hflat : s.flat = true
  · have hv' : RepV m (s.fn (frzL (frz 6) σ.obj ds).xs) v := hv.flat (hfl hflat _ hok2)
    refine ⟨v, φ, m, rfl, ?_, ?_, ?_⟩
    · simp only [hflat, if_true]
      exact hC.imm (Mem.le_refl m) ⟨hb.os, hb.tape, hb.output, hb.size⟩ hb.block (fun _ _ _ h => .inl h)
    · simp only [hflat, if_true]
      exact .v _ _ hv'
    · simp only [hflat, if_true]
      exact .refl _ _
  · refine ⟨v, φ, m', rfl, ?_, ?_, ?_⟩
    · simp only [hflat, Bool.false_eq_true, if_false]
      exact a2.imm hm ⟨hb.os, hb.tape, hb.output, hb.size⟩ hb.block hn
    · simp only [hflat, Bool.false_eq_true, if_false]
      exact .v _ _ hv
    · simp only [hflat, Bool.false_eq_true, if_false]
      exact a3

theorem aop_noDefer {P : Program} {Γ : FuncId → Option Spec} {σ : S} {t : Name} {op : Op} (h : (aop P Γ σ t op).ok) : ∀ c, op ≠ .defer c := by
  rintro c rfl
  exact h
end Go.Eng
