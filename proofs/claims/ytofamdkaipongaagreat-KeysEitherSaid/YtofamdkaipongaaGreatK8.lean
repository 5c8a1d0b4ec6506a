import Derived.Test.YtofamdkaipongaaGreatK7
/- A part of the proof engine and of the walks (texts InsC to KW23). -/
set_option linter.all false
set_option linter.unnecessarySimpa false
set_option linter.unusedSimpArgs false
set_option linter.unusedVariables false
set_option linter.constructorNameAsVariable false
/- The engine's contract of slices.Insert: from its walks at values. -/
namespace Go.Eng
open Go Go.RowKit

structure InsLaw (P : Program) (F T E K BY : Nat) (Z : Value) : Prop where
  tE : tElem P T = some (E, K, BY)
  tZ : tZero P E = some Z
  zK : Z.cells.size = K
  pos : 0 < K
  ne : F ≠ yid
  enter : ∀ args w, (callFunc F args).run P w = .ok (.enter F args) w
  shift : ∀ (b off n c i vb voff m vc : Nat) (cs vs : List Value) (w : World), i < n → 0 < m → n + m ≤ c → c ≤ 9223372036854775807 → vb ≠ b → cs.length = n * K → vs.length = m * K →
    (∀ j v, cs[j]? = some v → w.cell? ⟨b, off + j, none⟩ = some v) → (∀ j, j < (n + m) * K → (w.cell? ⟨b, off + j, none⟩).isSome = true) → (∀ j, w.frozen? ⟨b, j, none⟩ = false) →
    (∀ j v, vs[j]? = some v → w.cell? ⟨vb, voff + j, none⟩ = some v) → (∀ v ∈ cs, v.oneCell' = true) → (∀ v ∈ vs, v.oneCell' = true) →
    ∀ (tA tB : TypeId) (kA kB : Nat), w.shape? vb = some (tA, kA) → w.shape? b = some (tB, kB) → kA ≠ 0 →
    Calls P F #[.slice (some ⟨b, off, none⟩) n c, .int .i64 i, .slice (some ⟨vb, voff, none⟩) m vc] w fun e w' =>
      e = .returned (.slice (some ⟨b, off, none⟩) (n + m) c) ∧ w' = (w.drew.setCells b (off + (i + m) * K) (cs.drop (i * K))).setCells b (off + i * K) vs
  grow : ∀ (b off n c i vb voff m vc : Nat) (cs vs : List Value) (w : World), i < n → 0 < m → n ≤ c → c < n + m → (n + m) * BY ≤ 140737488355328 → cs.length = n * K → vs.length = m * K →
    (∀ j v, cs[j]? = some v → w.cell? ⟨b, off + j, none⟩ = some v) → (∀ j v, vs[j]? = some v → w.cell? ⟨vb, voff + j, none⟩ = some v) → (∀ v ∈ cs, v.oneCell' = true) → (∀ v ∈ vs, v.oneCell' = true) →
    Calls P F #[.slice (some ⟨b, off, none⟩) n c, .int .i64 i, .slice (some ⟨vb, voff, none⟩) m vc] w fun e w' =>
      e = .returned (.slice (some ⟨w.heap.size, 0, none⟩) (n + m) (grownCap w (n + m) c E)) ∧
      w' = (((w.alloc (.cells ((cs.take (i * K)).toArray ++ Builtin.zeroCells Z.cells (n + m - i) ++ Builtin.zeroCells Z.cells (grownCap w (n + m) c E - (n + m))) E)).drew.setCells w.heap.size (i * K) vs).drew).setCells w.heap.size ((i + m) * K) (cs.drop (i * K))
  last : ∀ (base : Option Addr) (n c vb voff m vc : Nat) (w : World) (v' : Value) (w' : World), 0 < m → n ≤ c → c ≤ 9223372036854775807 →
    (∀ ty, (Builtin.append_ #[T, T] ty #[.slice base n c, .slice (some ⟨vb, voff, none⟩) m vc]).run P w = .ok v' w') →
    Calls P F #[.slice base n c, .int .i64 n, .slice (some ⟨vb, voff, none⟩) m vc] w fun e w1 => e = .returned v' ∧ w1 = w'

theorem wset_id {w : World} {b : Nat} {o : Obj} (h : w.heap[b]? = some o) : wset w b o = w := by
  unfold wset
  have : w.heap.setIfInBounds b o = w.heap := by
    apply Array.ext_getElem?
    intro i
    by_cases e : i = b
    · subst e
      have hb := (Array.getElem?_eq_some_iff.1 h).1
      simp [hb, h]
      rw [Array.getElem?_eq_getElem hb] at h
      exact (Option.some.inj h).symm
    · rw [Array.getElem?_setIfInBounds_ne (fun h => e h.symm)]
  rw [this]

theorem setCells_heap (b : Nat) (T : TypeId) (f : Nat × Nat) : ∀ (vs : List Value) (o : Nat) (w : World) (us : Array Value), w.heap[b]? = some (.cells us T f) →
    ∃ us', w.setCells b o vs = wset w b (.cells us' T f) ∧ us'.size = us.size ∧ ∀ k, k < us.size → us'[k]? = if o ≤ k ∧ k < o + vs.length then vs[k - o]? else us[k]?
  | [], o, w, us, h => ⟨us, (wset_id h).symm, rfl, fun k _ => by simp; intro h1 h2; omega⟩
  | v :: r, o, w, us, h => by
    have hb := (Array.getElem?_eq_some_iff.1 h).1
    have e1 : w.setCell ⟨b, o, none⟩ v = wset w b (.cells (us.setIfInBounds o v) T f) := setCell_wset h v
    obtain ⟨us', k1, k2, k3⟩ := setCells_heap b T f r (o + 1) (wset w b (.cells (us.setIfInBounds o v) T f)) (us.setIfInBounds o v) (wset_same hb)
    refine ⟨us', ?_, by rw [k2]; simp, fun k hk => ?_⟩
    · show (w.setCell ⟨b, o, none⟩ v).setCells b (o + 1) r = _
      rw [e1, k1, wset_wset]
    · rw [k3 k (by simpa using hk)]
      by_cases e : k = o
      · subst e
        rw [if_neg (by omega), if_pos (by simp)]
        simp [hk]
      · rw [Array.getElem?_setIfInBounds_ne (fun h => e h.symm)]
        simp only [List.length_cons]
        by_cases h1 : o + 1 ≤ k ∧ k < o + 1 + r.length
        · rw [if_pos h1, if_pos (by omega), show k - o = (k - (o + 1)) + 1 by omega]; simp
        · rw [if_neg h1, if_neg (by omega)]

/-- What an insertion holds, cell by cell. -/
def insC (c1 c2 : Nat → Nat → Value) (i m : Nat) : Nat → Nat → Value := fun q j => if q < i then c1 q j else if q < i + m then c2 (q - i) j else c1 (q - m) j

theorem ins_get {l vs : List V} {i q : Nat} (hi : i ≤ l.length) (hq : q < (l.take i ++ vs ++ l.drop i).length) :
    (q < i ∧ ∃ h : q < l.length, (l.take i ++ vs ++ l.drop i)[q] = l[q]) ∨ (i ≤ q ∧ q < i + vs.length ∧ ∃ h : q - i < vs.length, (l.take i ++ vs ++ l.drop i)[q] = vs[q - i]) ∨
      (i + vs.length ≤ q ∧ ∃ h : q - vs.length < l.length, (l.take i ++ vs ++ l.drop i)[q] = l[q - vs.length]) := by
  have hlen : (l.take i).length = i := by simp; omega
  by_cases h1 : q < i
  · refine .inl ⟨h1, by omega, ?_⟩
    rw [List.getElem_append_left (by simp; omega), List.getElem_append_left (by omega), List.getElem_take]
  · by_cases h2 : q < i + vs.length
    · refine .inr (.inl ⟨by omega, h2, by omega, ?_⟩)
      rw [List.getElem_append_left (by simp; omega), List.getElem_append_right (by omega)]
      congr 1
      omega
    · have hq' := hq
      simp only [List.length_append, List.length_take, List.length_drop] at hq'
      refine .inr (.inr ⟨by omega, by omega, ?_⟩)
      rw [List.getElem_append_right (by simp; omega), List.getElem_drop]
      congr 1
      simp
      omega

def aInsert (P : Program) (obj : Name → Option O) (t : Name) (T : TypeId) (s i x : D) : R :=
  match i with
  | .v (.int .i64 n) => match x with
    | .v (.sl vs) => match s with
      | .nilsl => ⟨(aAppend P obj t T T .nilsl (.v (.sl vs))).ok ∧ n = 0 ∧ vs ≠ [], (aAppend P obj t T T .nilsl (.v (.sl vs))).d, (aAppend P obj t T T .nilsl (.v (.sl vs))).obj⟩
      | .msl nm k => match obj nm with
        | some (.arr sz l) => match Nat.beq n.toNat l.length with
          | true => ⟨(aAppend P obj t T T (.msl nm k) (.v (.sl vs))).ok ∧ 0 ≤ n ∧ vs ≠ [], (aAppend P obj t T T (.msl nm k) (.v (.sl vs))).d, (aAppend P obj t T T (.msl nm k) (.v (.sl vs))).obj⟩
          | false => ⟨(aAppend P obj t T T (.msl nm k) (.v (.sl vs))).ok ∧ 0 ≤ n ∧ n.toNat < l.length ∧ vs ≠ [], .msl nm (l.length + vs.length), upd obj nm (some (.arr sz (l.take n.toNat ++ vs ++ l.drop n.toNat)))⟩
        | _ => .bad obj
      | _ => .bad obj
    | _ => .bad obj
  | _ => .bad obj

def insSpec (P : Program) (T : TypeId) : Spec where
  app obj t ds := match ds with | [s, i, x] => aInsert P obj t T s i x | _ => .bad obj
  foot obj t ds := match ds with | [s, i, x] => tops s ++ tops x ++ [nmO t] | _ => []
  wrt obj t ds := match ds with | [s, i, x] => tops s ++ tops x ++ [nmO t] | _ => []

theorem like_insert {P : Program} {obj obj2 : Name → Option O} {t : Name} {T : TypeId} {s i x : D} (h : Agr (tops s ++ tops x ++ [nmO t]) obj obj2) :
    Like (aInsert P obj t T s i x) (aInsert P obj2 t T s i x) obj obj2 (tops s ++ tops x ++ [nmO t]) := by
  unfold aInsert
  split
  · rename_i n
    split
    · rename_i vs
      have L := fun s h => like_append (P := P) (obj := obj) (obj2 := obj2) (t := t) (T1 := T) (T2 := T) (s := s) (x := .v (.sl vs)) h
      split
      · have l := L .nilsl h
        exact ⟨by rw [l.ok], l.d, l.eff, l.frame⟩
      · rename_i nm k
        have l := L (.msl nm k) h
        have h' : obj2 nm = obj nm := h nm (by simp [tops])
        simp only [h']
        split
        · rename_i sz l' hl'
          split
          · exact ⟨by rw [l.ok], l.d, l.eff, l.frame⟩
          · have l2 : Like ⟨True, D.msl nm (l'.length + vs.length), upd obj nm (some (.arr sz (l'.take n.toNat ++ vs ++ l'.drop n.toNat)))⟩ ⟨True, D.msl nm (l'.length + vs.length), upd obj2 nm (some (.arr sz (l'.take n.toNat ++ vs ++ l'.drop n.toNat)))⟩ obj obj2 (tops (.msl nm k) ++ tops (.v (.sl vs)) ++ [nmO t]) := .one (by simp [tops]) h
            exact ⟨by rw [l.ok], l2.d, l2.eff, l2.frame⟩
        · exact .none _ h
      · exact .none _ h
    · exact .none _ h
  · exact .none _ h

theorem insSpec_near (P : Program) (T : TypeId) : (insSpec P T).Near := by
  refine ⟨fun obj obj2 t ds h => ?_, fun obj obj2 t ds h => rfl, fun obj t ds nm hn => hn, fun obj obj2 t ds h => rfl⟩
  simp only [insSpec] at h ⊢
  split
  · exact like_insert h
  · exact .same rfl rfl rfl rfl

theorem mul_le_of {K a b : Nat} (h : a < b) : a * K + K ≤ b * K := by
  have := Nat.mul_le_mul_right K (show a + 1 ≤ b by omega)
  rwa [Nat.add_mul, Nat.one_mul] at this

/-- Cells laid so hold the list with the others between. -/
theorem ins_cells {m : Mem} {l vs : List V} {i K o : Nat} {c1 c2 : Nat → Nat → Value} {us : Array Value} (hi : i ≤ l.length)
    (h1 : ∀ q j (h : q < l.length) (h' : j < l[q].cells.length), RepV m l[q].cells[j] (c1 q j)) (h2 : ∀ q j (h : q < vs.length) (h' : j < vs[q].cells.length), RepV m vs[q].cells[j] (c2 q j))
    (s1 : ∀ q (h : q < l.length), l[q].cells.length = K) (s2 : ∀ q (h : q < vs.length), vs[q].cells.length = K)
    (ha : ∀ q j, q < i → j < K → us[o + q * K + j]? = some (c1 q j))
    (hb : ∀ q j, q < vs.length → j < K → us[o + (i + q) * K + j]? = some (c2 q j))
    (hc : ∀ q j, i ≤ q → q < l.length → j < K → us[o + (vs.length + q) * K + j]? = some (c1 q j)) :
    ∀ q j (h : q < (l.take i ++ vs ++ l.drop i).length) (h' : j < (l.take i ++ vs ++ l.drop i)[q].cells.length), ∃ c, us[o + q * K + j]? = some c ∧ RepV m (l.take i ++ vs ++ l.drop i)[q].cells[j] c := by
  intro q j h h'
  rcases ins_get hi h with ⟨e1, e2, e3⟩ | ⟨e1, e1', e2, e3⟩ | ⟨e1, e2, e3⟩
  · simp only [e3] at h' ⊢
    exact ⟨_, ha q j e1 (by rw [← s1 q e2]; exact h'), h1 q j e2 h'⟩
  · simp only [e3] at h' ⊢
    refine ⟨_, ?_, h2 _ j e2 h'⟩
    have := hb (q - i) j e2 (by rw [← s2 _ e2]; exact h')
    rwa [show i + (q - i) = q by omega] at this
  · simp only [e3] at h' ⊢
    refine ⟨_, ?_, h1 _ j e2 h'⟩
    have := hc (q - vs.length) j (by omega) e2 (by rw [← s1 _ e2]; exact h')
    rwa [show vs.length + (q - vs.length) = q by omega] at this
theorem ins_size {l vs : List V} {i K : Nat} (hi : i ≤ l.length) (s1 : ∀ q (h : q < l.length), l[q].cells.length = K) (s2 : ∀ q (h : q < vs.length), vs[q].cells.length = K) :
    ∀ q (h : q < (l.take i ++ vs ++ l.drop i).length), (l.take i ++ vs ++ l.drop i)[q].cells.length = K := by
  intro q h
  rcases ins_get hi h with ⟨_, e2, e3⟩ | ⟨_, _, e2, e3⟩ | ⟨_, e2, e3⟩ <;> rw [e3]
  · exact s1 _ _
  · exact s2 _ _
  · exact s1 _ _
theorem ins_one {l vs : List V} {i : Nat} (hi : i ≤ l.length) (s1 : ∀ q (h : q < l.length), ∀ x ∈ l[q].cells, x.one = true) (s2 : ∀ q (h : q < vs.length), ∀ x ∈ vs[q].cells, x.one = true) :
    ∀ q (h : q < (l.take i ++ vs ++ l.drop i).length), ∀ x ∈ (l.take i ++ vs ++ l.drop i)[q].cells, x.one = true := by
  intro q h
  rcases ins_get hi h with ⟨_, e2, e3⟩ | ⟨_, _, e2, e3⟩ | ⟨_, e2, e3⟩ <;> rw [e3]
  · exact s1 _ _
  · exact s2 _ _
  · exact s1 _ _

set_option maxHeartbeats 1000000 in
/-- The values of an appended slice of data: it lies in memory that does not change. -/
theorem ins_sound {P : Program} {F T E K BY : Nat} {Z : Value} (L : InsLaw P F T E K BY Z) : SSound P F (insSpec P T) := by
  refine ⟨insSpec_near P T, fun _ => L.enter, fun _ G φ m σ a w hC t ds us _ hl hr hok => ?_, fun e => (L.ne e).elim⟩
  simp only [insSpec] at hok ⊢
  split at hok
  case h_2 => exact hok.elim
  rename_i s i x
  simp only [List.length_cons, List.length_nil] at hl
  have r0 := hr 0 (by simp) (by omega)
  have r1 := hr 1 (by simp) (by omega)
  have r2 := hr 2 (by simp) (by omega)
  simp only [List.getElem_cons_zero, List.getElem_cons_succ] at r0 r1 r2
  have hus : us = #[us[0], us[1], us[2]] := by
    apply Array.ext
    · simp; omega
    · intro j h1 h2
      have : j = 0 ∨ j = 1 ∨ j = 2 := by omega
      rcases this with rfl | rfl | rfl <;> rfl
  rw [hus]
  generalize us[0] = u0 at r0
  generalize us[1] = u1 at r1
  generalize us[2] = u2 at r2
  clear hus hr hl us
  simp only [aInsert] at hok ⊢
  split at hok
  case h_2 => exact hok.elim
  rename_i n
  cases r1 with
  | v _ _ r1 =>
  cases r1 with
  | int _ _ =>
  split at hok
  case h_2 => exact hok.elim
  rename_i vs
  have hx := r2
  cases r2 with
  | v _ _ r2 =>
  have fin : ∀ (u : Value) (base : Option Addr) (k c : Nat) (s : D), u = .slice base k c → k ≤ c → c ≤ 9223372036854775807 → n = (k : Int) → RepD φ σ.obj m s u → vs ≠ [] → (aAppend P σ.obj t T T s (.v (.sl vs))).ok →
      Calls P F #[u, .int .i64 n, u2] w fun e w' => ∃ v φ' m', e = .returned v ∧ Conc G φ' m' { σ with obj := (aAppend P σ.obj t T T s (.v (.sl vs))).obj } a w' ∧
        RepD φ' (aAppend P σ.obj t T T s (.v (.sl vs))).obj m' (aAppend P σ.obj t T T s (.v (.sl vs))).d v ∧ Ext φ φ' σ.obj (aAppend P σ.obj t T T s (.v (.sl vs))).obj := by
    intro u base k c s hu hkc hc hn hs hne hap
    obtain ⟨v, w', h1, φ', m', h2, h3, h4⟩ := s_appendX (ty := 0) hC hs hx hap
    subst hu
    subst hn
    cases r2 with
    | slnil => exact (hne rfl).elim
    | sl _ vb vo vc sz c2 hn2 hl2 hcap2 hs2 hc2 hr2 ho2 =>
    refine (L.last base k c vb vo vs.length vc w v w' (List.length_pos_iff.2 hne) hkc hc fun ty => ?_).mono ?_
    · rw [← h1]; rfl
    · rintro e w1 ⟨rfl, rfl⟩
      exact ⟨v, φ', m', rfl, h2, h3, h4⟩
  split at hok
  · -- nothing yet
    obtain ⟨h1, h2, h3⟩ := hok
    have r0' := r0
    cases r0 with
    | nilsl base => exact fin _ base 0 0 .nilsl rfl (Nat.le_refl _) (by omega) h2 r0' h3 h1
  · rename_i nm k
    split at hok
    case h_2 => exact hok.elim
    rename_i sz l hnm
    have r0' := r0
    cases r0 with
    | msl _ _ _ hh hu' =>
    obtain ⟨o, nn, hnm', hlen, hk, hval⟩ := hh
    rw [hnm] at hnm'; cases hnm'
    simp only [O.len?, Option.some.injEq] at hlen
    subst hlen
    split at hok
    · -- at the end
      rename_i hb
      obtain ⟨h1, h2, h3⟩ := hok
      have hb' := Nat.eq_of_beq_eq_true hb
      have hkl : k = l.length := by
        simp only [aAppend, L.tE, L.tZ, hnm] at h1
        exact h1.2.2.2.2.2.1
      have hv := hval hkl
      simp only [hb]
      subst hkl
      rcases hC.objs nm _ hnm with ⟨hnul, hlnil⟩ | ⟨g0, g1, g2, _⟩
      · subst hlnil
        refine fin u0 (φ nm).nb 0 0 _ ?_ (Nat.le_refl _) (by omega) (by simp at hb'; omega) r0' h3 h1
        rw [hv]; simp [Loc.slice, hnul]
      · refine fin u0 _ l.length (φ nm).cap _ (by rw [hv]; simp only [Loc.slice, g0]; rfl) g1 (by unfold maxLen at g2; omega) (by omega) r0' h3 h1
    · -- within
      rename_i hb
      obtain ⟨h1, h2, h3, h4⟩ := hok
      simp only [hb]
      simp only [aAppend, L.tE, L.tZ, hnm, srcL] at h1
      obtain ⟨_, q1, _, q3, q4, hkl, hszK⟩ := h1
      subst hkl
      subst hszK
      have hv := hval rfl
      obtain ⟨i, rfl⟩ : ∃ i : Nat, n = (i : Int) := ⟨n.toNat, by omega⟩
      simp only [Int.toNat_natCast] at h3 ⊢
      have hmpos : 0 < vs.length := List.length_pos_iff.2 h4
      cases r2 with
      | slnil => exact (h4 rfl).elim
      | sl _ vb vo vc sz2 c2 hn2 hl2 hcap2 hs2 hc2 hr2 ho2 =>
      have hsz2 : sz2 = sz := by rw [← hs2 0 hmpos]; exact (q1 _ (List.getElem_mem _)).1
      subst hsz2
      rcases hC.objs nm _ hnm with ⟨hnul, hlnil⟩ | ⟨g0, g1, g2, g3, g4, us', T', f, g5, g6, g7, g8⟩
      · subst hlnil; simp at h3
      have hblk : (φ nm).blk < w.heap.size := (Array.getElem?_eq_some_iff.1 g5).1
      have hu0 : u0 = .slice (some ⟨(φ nm).blk, (φ nm).off, none⟩) l.length (φ nm).cap := by rw [hv]; simp only [Loc.slice, g0]; rfl
      subst hu0
      have hholds : holds φ σ.obj nm := ⟨_, hnm, rfl, g0⟩
      generalize hb0 : (φ nm).blk = b at *
      generalize ho0 : (φ nm).off = off at *
      generalize hc0 : (φ nm).cap = cap at *
      have hin : i ≤ l.length := by omega
      obtain ⟨c1, hc1⟩ : ∃ c1 : Nat → Nat → Value, ∀ q j, q < l.length → j < sz2 → us'[off + q * sz2 + j]? = some (c1 q j) := ⟨fun q j => (us'[off + q * sz2 + j]?).getD undef, fun q j hq hj => by
        obtain ⟨c, x1, _⟩ := g8 q j hq (by rw [g3]; exact hj)
        simp only [x1, Option.getD_some]⟩
      have hr1 : ∀ q j (h : q < l.length) (h' : j < l[q].cells.length), RepV m l[q].cells[j] (c1 q j) := fun q j h h' => by
        obtain ⟨c, x1, x2⟩ := g8 q j h h'
        have := hc1 q j h (by rw [← g3 q h]; exact h')
        rw [x1] at this; cases this; exact x2
      have hcell1 : ∀ j v, (rowOf c1 l.length sz2)[j]? = some v → w.cell? ⟨b, off + j, none⟩ = some v := fun j v hjv => by
        have := rowOf_cell (w := w) (c := c1) (n := l.length) (sz := sz2) (blk := b) (o := off) (fun q j hq hj => by rw [cell?_of g5]; exact hc1 q j hq hj) j v hjv
        rwa [addr_add] at this
      have hcell2 : ∀ j v, (rowOf c2 vs.length sz2)[j]? = some v → w.cell? ⟨vb, vo + j, none⟩ = some v := fun j v hjv => by
        have := rowOf_cell (w := w) (c := c2) (n := vs.length) (sz := sz2) (blk := vb) (o := vo) (fun q j hq hj => hC.mem _ _ _ (hc2 q j hq hj)) j v hjv
        rwa [addr_add] at this
      have hone1 : ∀ v ∈ rowOf c1 l.length sz2, v.oneCell' = true := by
        intro v hv
        simp only [rowOf, List.mem_map, List.mem_range] at hv
        obtain ⟨k, hk, rfl⟩ := hv
        obtain ⟨d1, d2⟩ := div_lt_of hk
        exact oneC_oneCell' ((hr1 _ _ d1 (by rw [g3]; exact d2)).one (g4 _ d1 _ (List.getElem_mem _)))
      have hone2 : ∀ v ∈ rowOf c2 vs.length sz2, v.oneCell' = true := by
        intro v hv
        simp only [rowOf, List.mem_map, List.mem_range] at hv
        obtain ⟨k, hk, rfl⟩ := hv
        obtain ⟨d1, d2⟩ := div_lt_of hk
        exact oneC_oneCell' ((hr2 _ _ d1 (by rw [hs2]; exact d2)).one (ho2 _ d1 _ (List.getElem_mem _)))
      have hpos := L.pos
      have hvb0 : m vb (vo + 0 * sz2 + 0) = some (c2 0 0) := hc2 0 0 hmpos hpos
      have hvb : vb ≠ b := by
        rintro rfl
        have := hC.apart nm hholds (vo + 0 * sz2 + 0)
        rw [hb0, hvb0] at this; cases this
      have hwv := hC.mem _ _ _ hvb0
      have hx' : ∀ p, Ext φ (upd φ nm p) σ.obj (upd σ.obj nm (some (.arr sz2 (l.take i ++ vs ++ l.drop i)))) := fun p => Ext.grow hnm rfl rfl (by simp; omega) p
      have hlen' : (l.take i ++ vs ++ l.drop i).length = l.length + vs.length := by simp; omega
      have hd : ∀ (p : Loc) (v : Value), p.slice (l.length + vs.length) = v → oneC v = true → RepD (upd φ nm p) (upd σ.obj nm (some (.arr sz2 (l.take i ++ vs ++ l.drop i)))) m (.msl nm (l.length + vs.length)) v := by
        intro p v hv hone
        refine .msl _ _ _ ⟨_, _, upd_same _ _ _, rfl, by rw [hlen']; exact Nat.le_refl _, fun _ => ?_⟩ hone
        rw [upd_same]; exact hv.symm
      have hs2' : ∀ q (h : q < vs.length), vs[q].cells.length = sz2 := hs2
      by_cases hroom : l.length + vs.length ≤ cap
      · -- in place
        obtain ⟨T2, us2, f2, hv2⟩ : ∃ T2 us2 f2, w.heap[vb]? = some (.cells us2 T2 f2) ∧ 0 < us2.size := by
          unfold World.cell? at hwv
          simp only at hwv
          cases hh : w.heap[vb]? with
          | none => simp [hh] at hwv
          | some o =>
            cases o with
            | cells us2 T2 f2 =>
              refine ⟨T2, us2, f2, rfl, ?_⟩
              simp [hh] at hwv
              have := (Array.getElem?_eq_some_iff.1 hwv).1
              omega
            | _ => simp [hh] at hwv
        have hmulr : (l.length + vs.length) * sz2 ≤ cap * sz2 := Nat.mul_le_mul_right _ hroom
        refine (L.shift b off l.length cap i vb vo vs.length vc (rowOf c1 l.length sz2) (rowOf c2 vs.length sz2) w h3 hmpos hroom (by unfold maxLen at g2; omega) hvb (rowOf_len _ _ _) (rowOf_len _ _ _)
          hcell1 (fun j hj => by rw [cell?_of g5, Array.getElem?_eq_getElem (by omega)]; rfl) (fun j => by
            unfold World.frozen?
            simp only [g5]
            obtain ⟨f1, f2⟩ := f
            simp only at g6
            subst g6
            simp
            try omega) hcell2 hone1 hone2 T2 T' us2.size us'.size (by unfold World.shape?; rw [hv2.1]) (by unfold World.shape?; rw [g5]) (by have := hv2.2; omega)).mono ?_
        rintro e w' ⟨rfl, rfl⟩
        obtain ⟨us3, k1, k2, k3⟩ := setCells_heap b T' f ((rowOf c1 l.length sz2).drop (i * sz2)) (off + (i + vs.length) * sz2) w.drew us' g5
        obtain ⟨us4, k4, k5, k6⟩ := setCells_heap b T' f (rowOf c2 vs.length sz2) (off + i * sz2) (wset w.drew b (.cells us3 T' f)) us3 (wset_same hblk)
        rw [k1, k4, wset_wset]
        have hil : i * sz2 ≤ l.length * sz2 := Nat.mul_le_mul_right _ hin
        simp only [Nat.add_mul] at k3 hmulr
        have hget : ∀ k, k < us'.size → us4[k]? = if off + i * sz2 ≤ k ∧ k < off + i * sz2 + vs.length * sz2 then (rowOf c2 vs.length sz2)[k - (off + i * sz2)]? else
            if off + (i * sz2 + vs.length * sz2) ≤ k ∧ k < off + (i * sz2 + vs.length * sz2) + (l.length * sz2 - i * sz2) then (rowOf c1 l.length sz2)[i * sz2 + (k - (off + (i * sz2 + vs.length * sz2)))]? else us'[k]? := by
          intro k hk
          rw [k6 k (by rw [k2]; exact hk), k3 k hk]
          simp only [rowOf_len, List.length_drop, List.getElem?_drop]
        refine ⟨_, upd φ nm (φ nm), m, rfl, hC.chg (w' := wset w.drew b (.cells us4 T' f)) nm _ (φ nm) (hx' _) ⟨rfl, rfl, rfl, by rw [wset_size]; exact Nat.le_refl _⟩
          (fun b' hb' hn => by
            rw [wset_ne (by rcases hn with h | h; · rw [g0] at h; cases h
                            · rw [← hb0]; exact h)]
            rfl) (fun _ => .inr ⟨hholds, rfl⟩) ?_, hd _ _ (by simp [Loc.slice, g0, hb0, ho0, hc0]) rfl, hx' _⟩
        refine .inr ⟨g0, by rw [hlen', hc0]; exact hroom, by rw [hc0]; exact g2, ins_size hin g3 hs2', ins_one hin g4 ho2, us4, T', f, by rw [hb0]; exact wset_same hblk, g6, by rw [k5, k2, ho0, hc0]; exact g7, ?_⟩
        rw [ho0]
        refine ins_cells hin hr1 hr2 g3 hs2' (fun q j hq hj => ?_) (fun q j hq hj => ?_) (fun q j hq hq' hj => ?_)
        · have hm1 := mul_le_of (K := sz2) hq
          rw [hget _ (by omega), if_neg (by omega), if_neg (by omega)]
          exact hc1 q j (by omega) hj
        · have hm1 := mul_le_of (K := sz2) hq
          have e1 : (i + q) * sz2 = i * sz2 + q * sz2 := Nat.add_mul _ _ _
          rw [hget _ (by omega), if_pos (by omega), show off + (i + q) * sz2 + j - (off + i * sz2) = q * sz2 + j by omega]
          exact rowOf_get c2 hq hj
        · have hm1 := mul_le_of (K := sz2) hq'
          have hm2 : i * sz2 ≤ q * sz2 := Nat.mul_le_mul_right _ hq
          have e1 : (vs.length + q) * sz2 = vs.length * sz2 + q * sz2 := Nat.add_mul _ _ _
          rw [hget _ (by omega), if_neg (by omega), if_pos (by omega), show i * sz2 + (off + (vs.length + q) * sz2 + j - (off + (i * sz2 + vs.length * sz2))) = q * sz2 + j by omega]
          exact rowOf_get c1 hq' hj
      · -- a new row
        refine (L.grow b off l.length cap i vb vo vs.length vc (rowOf c1 l.length sz2) (rowOf c2 vs.length sz2) w h3 hmpos g1 (by omega) q3 (rowOf_len _ _ _) (rowOf_len _ _ _) hcell1 hcell2 hone1 hone2).mono ?_
        rintro e w' ⟨rfl, rfl⟩
        have hG := grownCap_ge w (l.length + vs.length) cap E
        have hG2 := grownCap_le_maxLen w (l.length + vs.length) cap E q4
        generalize grownCap w (l.length + vs.length) cap E = G at *
        obtain ⟨ROW, hROW⟩ : ∃ ROW, ROW = ((rowOf c1 l.length sz2).take (i * sz2)).toArray ++ Builtin.zeroCells Z.cells (l.length + vs.length - i) ++ Builtin.zeroCells Z.cells (G - (l.length + vs.length)) := ⟨_, rfl⟩
        rw [← hROW]
        have hil : i * sz2 ≤ l.length * sz2 := Nat.mul_le_mul_right _ hin
        have hRs : ROW.size = G * sz2 := by
          rw [hROW]
          simp only [Array.size_append, List.size_toArray, List.length_take, rowOf_len, Builtin.zeroCells, Array.size_map, Array.size_range, L.zK, Nat.min_eq_left hil, ← Nat.add_mul]
          congr 1
          omega
        have hRg : ∀ k, k < i * sz2 → ROW[k]? = (rowOf c1 l.length sz2)[k]? := by
          intro k hk
          have h1 : (List.take (i * sz2) (rowOf c1 l.length sz2)).toArray.size = i * sz2 := by simp [rowOf_len, Nat.min_eq_left hil]
          rw [hROW, Array.getElem?_append_left (by rw [Array.size_append, h1]; omega), Array.getElem?_append_left (by rw [h1]; exact hk)]
          simp [List.getElem?_take, hk]
        have hp0 : ((w.alloc (.cells ROW E)).drew).heap[w.heap.size]? = some (.cells ROW E (0, 0)) := heap_push_new
        obtain ⟨us3, k1, k2, k3⟩ := setCells_heap w.heap.size E (0, 0) (rowOf c2 vs.length sz2) (i * sz2) ((w.alloc (.cells ROW E)).drew) ROW hp0
        have hlt : w.heap.size < ((w.alloc (.cells ROW E)).drew).heap.size := by show w.heap.size < (w.heap.push _).size; simp
        rw [k1]
        obtain ⟨us4, k4, k5, k6⟩ := setCells_heap w.heap.size E (0, 0) ((rowOf c1 l.length sz2).drop (i * sz2)) ((i + vs.length) * sz2) (wset ((w.alloc (.cells ROW E)).drew) w.heap.size (.cells us3 E (0, 0))).drew us3 (wset_same hlt)
        rw [k4]
        have hGm : (l.length + vs.length) * sz2 ≤ G * sz2 := Nat.mul_le_mul_right _ hG
        simp only [Nat.add_mul] at k6 hGm
        have hget : ∀ k, k < G * sz2 → us4[k]? = if i * sz2 + vs.length * sz2 ≤ k ∧ k < i * sz2 + vs.length * sz2 + (l.length * sz2 - i * sz2) then (rowOf c1 l.length sz2)[i * sz2 + (k - (i * sz2 + vs.length * sz2))]? else
            if i * sz2 ≤ k ∧ k < i * sz2 + vs.length * sz2 then (rowOf c2 vs.length sz2)[k - i * sz2]? else ROW[k]? := by
          intro k hk
          rw [k6 k (by rw [k2, hRs]; exact hk), k3 k (by rw [hRs]; exact hk)]
          simp only [rowOf_len, List.length_drop, List.getElem?_drop]
        have hsz4 : us4.size = G * sz2 := by rw [k5, k2, hRs]
        refine ⟨_, upd φ nm ⟨w.heap.size, 0, G, false, none⟩, m, rfl, hC.chg (w' := wset (wset ((w.alloc (.cells ROW E)).drew) w.heap.size (.cells us3 E (0, 0))).drew w.heap.size (.cells us4 E (0, 0))) nm _ ⟨w.heap.size, 0, G, false, none⟩ (hx' _) ⟨rfl, rfl, rfl, ?_⟩
          (fun b' hb' _ => ?_) (fun _ => .inl (Nat.le_refl _)) ?_, hd _ _ (by simp [Loc.slice]) rfl, hx' _⟩
        · have : w.heap.size ≤ ((w.alloc (.cells ROW E)).drew).heap.size := by omega
          simpa [wset, World.drew] using this
        · rw [wset_ne (by omega)]
          show (wset ((w.alloc (.cells ROW E)).drew) w.heap.size (.cells us3 E (0, 0))).heap[b']? = _
          rw [wset_ne (by omega)]
          exact heap_push_lt hb'
        · refine .inr ⟨rfl, by rw [hlen']; exact hG, hG2, ins_size hin g3 hs2', ins_one hin g4 ho2, us4, E, (0, 0), wset_same (by show w.heap.size < (wset ((w.alloc (.cells ROW E)).drew) w.heap.size (.cells us3 E (0, 0))).heap.size; rw [wset_size]; exact hlt), rfl, by rw [hsz4]; simp, ?_⟩
          refine ins_cells (o := 0) hin hr1 hr2 g3 hs2' (fun q j hq hj => ?_) (fun q j hq hj => ?_) (fun q j hq hq' hj => ?_)
          · have hm1 := mul_le_of (K := sz2) hq
            rw [hget _ (by omega), if_neg (by omega), if_neg (by omega), hRg _ (by omega)]
            simp only [Nat.zero_add]
            exact rowOf_get c1 (by omega) hj
          · have hm1 := mul_le_of (K := sz2) hq
            have e1 : (i + q) * sz2 = i * sz2 + q * sz2 := Nat.add_mul _ _ _
            rw [hget _ (by omega), if_neg (by omega), if_pos (by omega), show 0 + (i + q) * sz2 + j - i * sz2 = q * sz2 + j by omega]
            exact rowOf_get c2 hq hj
          · have hm1 := mul_le_of (K := sz2) hq'
            have hm2 : i * sz2 ≤ q * sz2 := Nat.mul_le_mul_right _ hq
            have e1 : (vs.length + q) * sz2 = vs.length * sz2 + q * sz2 := Nat.add_mul _ _ _
            rw [hget _ (by omega), if_pos (by omega), show i * sz2 + (0 + (vs.length + q) * sz2 + j - (i * sz2 + vs.length * sz2)) = q * sz2 + j by omega]
            exact rowOf_get c1 hq' hj
  · exact hok.elim
end Go.Eng
/- The engine's contract of slices.Clone; both contracts, to be run. -/
namespace Go.Eng
open Go Go.RowKit

structure CloneLaw (P : Program) (F T E K BY : Nat) (Z : Value) : Prop where
  tE : tElem P T = some (E, K, BY)
  tZ : tZero P E = some Z
  ne : F ≠ yid
  enter : ∀ args w, (callFunc F args).run P w = .ok (.enter F args) w
  nil : ∀ (n c : Nat) (w : World), Calls P F #[.slice none n c] w fun e w' => e = .returned (.slice none 0 0) ∧ w' = w
  some : ∀ (a : Addr) (n c : Nat) (w : World) (v' : Value) (w' : World),
    (∀ ty, (Builtin.append_ #[T, T] ty #[.slice (some ⟨w.heap.size, 0, none⟩) 0 0, .slice (some a) n c]).run P (w.alloc (.cells #[] E)) = .ok v' w') →
    Calls P F #[.slice (some a) n c] w fun e w1 => e = .returned v' ∧ w1 = w'

def aClone (P : Program) (obj : Name → Option O) (t : Name) (T : TypeId) (x : D) : R :=
  match (srcL obj x).2 with
  | [] => ⟨(srcL obj x).1, .nilsl, obj⟩
  | _ :: _ => aAppend P obj t T T .nilsl x
def cloneSpec (P : Program) (T : TypeId) : Spec where
  app obj t ds := match ds with | [x] => aClone P obj t T x | _ => .bad obj
  foot obj t ds := match ds with | [x] => tops .nilsl ++ tops x ++ [nmO t] | _ => []
  wrt obj t ds := match ds with | [x] => tops .nilsl ++ tops x ++ [nmO t] | _ => []

theorem like_clone {P : Program} {obj obj2 : Name → Option O} {t : Name} {T : TypeId} {x : D} (h : Agr (tops .nilsl ++ tops x ++ [nmO t]) obj obj2) :
    Like (aClone P obj t T x) (aClone P obj2 t T x) obj obj2 (tops .nilsl ++ tops x ++ [nmO t]) := by
  have h2 : srcL obj2 x = srcL obj x := srcL_like fun nm hn => h nm (by simp [hn])
  have l := like_append (P := P) (obj := obj) (obj2 := obj2) (t := t) (T1 := T) (T2 := T) (s := .nilsl) (x := x) h
  unfold aClone
  rw [h2]
  split
  · have l0 : Like ⟨True, D.nilsl, obj⟩ ⟨True, D.nilsl, obj2⟩ obj obj2 (tops .nilsl ++ tops x ++ [nmO t]) := ⟨rfl, rfl, fun nm => by
      show obj2 nm = if _ then obj nm else obj2 nm
      split
      · exact h nm (by assumption)
      · rfl, fun _ _ => rfl⟩
    exact ⟨rfl, l0.d, l0.eff, l0.frame⟩
  · exact l
theorem cloneSpec_near (P : Program) (T : TypeId) : (cloneSpec P T).Near := by
  refine ⟨fun obj obj2 t ds h => ?_, fun obj obj2 t ds h => rfl, fun obj t ds nm hn => hn, fun obj obj2 t ds h => rfl⟩
  simp only [cloneSpec] at h ⊢
  split
  · exact like_clone h
  · exact .same rfl rfl rfl rfl

theorem clone_sound {P : Program} {F T E K BY : Nat} {Z : Value} (L : CloneLaw P F T E K BY Z) : SSound P F (cloneSpec P T) := by
  refine ⟨cloneSpec_near P T, fun _ => L.enter, fun _ G φ m σ a w hC t ds us _ hl hr hok => ?_, fun e => (L.ne e).elim⟩
  simp only [cloneSpec] at hok ⊢
  split at hok
  case h_2 => exact hok.elim
  rename_i x
  simp only [List.length_cons, List.length_nil] at hl
  have r0 := hr 0 (by simp) (by omega)
  simp only [List.getElem_cons_zero] at r0
  have hus : us = #[us[0]] := by
    apply Array.ext
    · simp; omega
    · intro j h1 h2
      have : j = 0 := by omega
      subst this; rfl
  rw [hus]
  generalize us[0] = u0 at r0
  clear hus hr hl us
  obtain ⟨hu, i, hi, his, _⟩ := tElem_spec L.tE
  have hsrc1 : (srcL σ.obj x).1 := by
    unfold aClone at hok
    split at hok
    · exact hok
    · simp only [aAppend, L.tE, L.tZ] at hok
      exact hok.1
  have hval : ∃ base n c, u0 = .slice base n c ∧ ((srcL σ.obj x).2 = [] → n = 0) ∧ (base = none → (srcL σ.obj x).2 = []) := by
    unfold srcL at hsrc1 ⊢
    split at hsrc1
    · rename_i l
      cases r0 with
      | v _ _ r0 =>
      cases r0 with
      | slnil a cap => exact ⟨a, 0, cap, rfl, fun _ => rfl, fun _ => rfl⟩
      | sl _ b o cap sz c hn _ _ _ _ _ _ => exact ⟨_, _, _, rfl, fun h => (hn h).elim, fun h => by cases h⟩
    · cases r0 with
      | nilsl a => exact ⟨a, 0, 0, rfl, fun _ => rfl, fun _ => rfl⟩
    · rename_i nm k
      have lenk : ∀ (l : List V) (o : O), σ.obj nm = some o → o.len? = some l.length → k = l.length → (∀ (h : (φ nm).nul = true), l = []) →
          ∃ base n c, u0 = .slice base n c ∧ (l = [] → n = 0) ∧ (base = none → l = []) := by
        intro l o ho hlen hk hnul
        cases r0 with
        | msl _ _ _ hh _ =>
        obtain ⟨o', n, ho', hlen', _, hv⟩ := hh
        rw [ho] at ho'; cases ho'
        rw [hlen] at hlen'; cases hlen'
        rw [hv hk]
        unfold Loc.slice
        cases hn : (φ nm).nul with
        | true => exact ⟨_, _, _, rfl, fun _ => rfl, fun _ => hnul hn⟩
        | false => exact ⟨_, _, _, rfl, fun h => by rw [hk, h]; rfl, fun h => by cases h⟩
      split at hsrc1
      · rename_i s l ho
        refine lenk l _ ho rfl hsrc1 fun hn => ?_
        rcases hC.objs nm _ ho with ⟨_, h⟩ | ⟨h, _⟩
        · exact h
        · rw [hn] at h; cases h
      · rename_i s l ho
        refine lenk l _ ho rfl hsrc1 fun hn => ?_
        rcases hC.objs nm _ ho with ⟨_, h⟩ | ⟨h, _⟩
        · exact h
        · rw [hn] at h; cases h
      · exact hsrc1.elim
    · exact hsrc1.elim
  obtain ⟨base, n, c, rfl, hn0, hbn⟩ := hval
  cases base with
  | none =>
    have he := hbn rfl
    refine (L.nil n c w).mono ?_
    rintro e w' ⟨rfl, rfl⟩
    unfold aClone
    rw [he]
    exact ⟨_, φ, m, rfl, hC, .nilsl _, .refl _ _⟩
  | some ad =>
    obtain ⟨m1, hm1, hC1, _⟩ := hC.immNew #[] E
    have hx1 : RepD φ σ.obj m1 x (.slice (some ad) n c) := r0.ext hm1 (Ext.refl _ _)
    cases hl : (srcL σ.obj x).2 with
    | nil =>
      have hn := hn0 hl
      subst hn
      refine (L.some ad 0 c w (.slice (some ⟨w.heap.size, 0, none⟩) 0 0) (w.alloc (.cells #[] E)) fun ty => ?_).mono ?_
      · simp [Builtin.append_, run_underlying hu, sizeOf, typeInfo, hi, Builtin.lenOf, Builtin.firstCells, loadCells, loadCellsFrom, storeCells]
      · rintro e w' ⟨rfl, rfl⟩
        unfold aClone
        rw [hl]
        exact ⟨_, φ, m1, rfl, hC1, .nilsl _, .refl _ _⟩
    | cons y r =>
      have hap : (aAppend P σ.obj t T T .nilsl x).ok := by
        unfold aClone at hok
        rw [hl] at hok
        exact hok
      obtain ⟨v, w', h1, φ', m', h2, h3, h4⟩ := s_appendX (ty := 0) hC1 (.nilsl (some ⟨w.heap.size, 0, none⟩)) hx1 hap
      refine (L.some ad n c w v w' fun ty => ?_).mono ?_
      · rw [← h1]; rfl
      · rintro e w1 ⟨rfl, rfl⟩
        unfold aClone
        rw [hl]
        exact ⟨v, φ', m', rfl, h2, h3, h4⟩

/-! to be run -/
def bClone (P : Program) (obj : Name → Option O) (t : Name) (T : TypeId) (x : D) : Bool :=
  match (srcL obj x).2 with
  | [] => bSrc obj x
  | _ :: _ => bAppend P obj t T T .nilsl x
theorem bClone_ok {P : Program} {obj : Name → Option O} {t : Name} {T : TypeId} {x : D} (h : bClone P obj t T x = true) : (aClone P obj t T x).ok := by
  unfold bClone at h
  unfold aClone
  split at h
  · exact bSrc_ok h
  · exact bAppend_ok h
def bInsert (P : Program) (obj : Name → Option O) (t : Name) (T : TypeId) (s i x : D) : Bool :=
  match i with
  | .v (.int .i64 n) => match x with
    | .v (.sl vs) => match s with
      | .nilsl => bAppend P obj t T T .nilsl (.v (.sl vs)) && iLe n 0 && iLe 0 n && !vs.isEmpty
      | .msl nm k => match obj nm with
        | some (.arr sz l) => match Nat.beq n.toNat l.length with
          | true => bAppend P obj t T T (.msl nm k) (.v (.sl vs)) && iLe 0 n && !vs.isEmpty
          | false => bAppend P obj t T T (.msl nm k) (.v (.sl vs)) && iLe 0 n && nLt n.toNat l.length && !vs.isEmpty
        | _ => false
      | _ => false
    | _ => false
  | _ => false
theorem bInsert_ok {P : Program} {obj : Name → Option O} {t : Name} {T : TypeId} {s i x : D} (h : bInsert P obj t T s i x = true) : (aInsert P obj t T s i x).ok := by
  have hne : ∀ {vs : List V}, (!vs.isEmpty) = true → vs ≠ [] := by intro vs h e; subst e; simp at h
  unfold bInsert at h
  unfold aInsert
  split at h
  · split at h
    · split at h
      · simp only [Bool.and_eq_true] at h
        exact ⟨bAppend_ok h.1.1.1, by have := iLe_ok h.1.1.2; have := iLe_ok h.1.2; omega, hne h.2⟩
      · split at h
        · split at h
          · rename_i hb
            simp only [Bool.and_eq_true] at h
            simp only [*]
            exact ⟨bAppend_ok h.1.1, iLe_ok h.1.2, hne h.2⟩
          · simp only [Bool.and_eq_true] at h
            simp only [*]
            exact ⟨bAppend_ok h.1.1.1, iLe_ok h.1.1.2, nLt_ok h.1.2, hne h.2⟩
        · cases h
      · cases h
    · cases h
  · cases h

theorem run_rW {s : Spec} {obj : Name → Option O} {t : Name} {ds : List D} {b : Bool} {r : R} {W : List Name} {x : RunR} (h : rW b r W W = some x) (hs : s.app obj t ds = r) (hF : s.foot obj t ds = W) (hW : s.wrt obj t ds = W)
    (hb : b = true → r.ok) (hfr : ∀ nm, nm ∉ W → r.obj nm = obj nm) :
    (s.app obj t ds).ok ∧ (s.app obj t ds).d = x.d ∧ s.foot obj t ds = x.foot ∧ s.wrt obj t ds = x.wrt ∧ ∀ tbl, lookT tbl = obj → lookT (x.tf tbl) = (s.app obj t ds).obj := by
  cases b with
  | false => cases h
  | true =>
    simp only [rW, cond_true, Option.some.injEq] at h
    subst h
    rw [hs, hF, hW]
    refine ⟨hb rfl, rfl, rfl, rfl, fun tbl htbl => ?_⟩
    funext nm
    show lookT (applyW tbl W r.obj) nm = _
    rw [lookT_applyW]
    split
    · rfl
    · rename_i hn
      rw [htbl, hfr nm hn]

noncomputable def insB (P : Program) (T : TypeId) : SpecB where
  spec := insSpec P T
  run obj t ds := match ds with
    | [s, i, x] => rW (bInsert P obj t T s i x) (aInsert P obj t T s i x) (tops s ++ tops x ++ [nmO t]) (tops s ++ tops x ++ [nmO t])
    | _ => none
  ok := by
    intro obj t ds r hr
    split at hr
    · exact run_rW (s := insSpec P T) hr rfl rfl rfl bInsert_ok (like_insert fun _ _ => rfl).frame
    · cases hr
noncomputable def cloneB (P : Program) (T : TypeId) : SpecB where
  spec := cloneSpec P T
  run obj t ds := match ds with
    | [x] => rW (bClone P obj t T x) (aClone P obj t T x) (tops .nilsl ++ tops x ++ [nmO t]) (tops .nilsl ++ tops x ++ [nmO t])
    | _ => none
  ok := by
    intro obj t ds r hr
    split at hr
    · exact run_rW (s := cloneSpec P T) hr rfl rfl rfl bClone_ok (like_clone fun _ _ => rfl).frame
    · cases hr
end Go.Eng
set_option linter.unusedVariables false
namespace Go.Eng
open Go Go.Proofs Go.RowKit Go.Lib Go.Shelf

set_option maxHeartbeats 2000000 in
set_option maxRecDepth 100000 in
theorem clone76_nil (n c : Nat) (w : World) : Calls Tryz.prog 76 #[.slice none n c] w fun e w' => e = .returned (.slice none 0 0) ∧ w' = w := by
  have mixed : Tryz.prog.follows Departure.mixedOrders = true := by kernel_rfl
  have qT : ∀ (w : World) (a : Option Addr) (n c n' c' : Nat), (binOp .eql 22 (.slice a n c) (.slice none n' c')).run Tryz.prog w = .ok (.bool a.isNone) w := fun w a n c n' c' => Lib.run_eql_slice_nil w _ _ a n c n' c' Tryz.underlying22
  go_enter Tryz.func76, Tryz.ntmps76
  go_wp2
  go_ret
  exact ⟨rfl, rfl⟩

set_option maxHeartbeats 2000000 in
set_option maxRecDepth 100000 in
theorem clone76_some (a : Addr) (n c : Nat) (w : World) (v' : Value) (w' : World)
    (hrun : ∀ ty, (Builtin.append_ #[22, 22] ty #[.slice (some ⟨w.heap.size, 0, none⟩) 0 0, .slice (some a) n c]).run Tryz.prog (w.alloc (.cells #[] 35)) = .ok v' w') :
    Calls Tryz.prog 76 #[.slice (some a) n c] w fun e w1 => e = .returned v' ∧ w1 = w' := by
  have mixed : Tryz.prog.follows Departure.mixedOrders = true := by kernel_rfl
  have qT : ∀ (w : World) (a : Option Addr) (n c n' c' : Nat), (binOp .eql 22 (.slice a n c) (.slice none n' c')).run Tryz.prog w = .ok (.bool a.isNone) w := fun w a n c n' c' => Lib.run_eql_slice_nil w _ _ a n c n' c' Tryz.underlying22
  go_enter Tryz.func76, Tryz.ntmps76
  go_wp2_with (at_builtin; refine Lib.wpList_append_run _ rfl _ _ _ _ rfl _ _ rfl rfl _ _ (hrun _) ?_)
  go_ret
  exact ⟨rfl, rfl⟩

def Z9 : Value := .agg #[.int .i64 0, .int .i64 0, .int .i64 0, .int .i64 0, .int .i64 0, .int .i64 0, .int .i64 0, .int .i64 0, .int .i64 0]
theorem notYid (n : Nat) (h : n < 1000000000) : n ≠ yid := by unfold yid; omega
theorem ins162 : InsLaw Tryz.prog 162 22 35 9 72 Z9 :=
  ⟨by kernel_rfl, by kernel_rfl, by kernel_rfl, by decide, notYid _ (by decide), enter_of Tryz.func162 (by rfl) (by kernel_rfl),
    ins162_shift, ins162_grow, ins162_last⟩
theorem ins149 : InsLaw Tryz.prog 149 39 3 1 8 (.int .i64 0) :=
  ⟨by kernel_rfl, by kernel_rfl, by kernel_rfl, by decide, notYid _ (by decide), enter_of Tryz.func149 (by rfl) (by kernel_rfl),
    by simpa only [Nat.mul_one] using @ins149_shift, by simpa only [Nat.mul_one] using @ins149_grow, ins149_last⟩
theorem clone76 : CloneLaw Tryz.prog 76 22 35 9 72 Z9 :=
  ⟨by kernel_rfl, by kernel_rfl, notYid _ (by decide), enter_of Tryz.func76 (by rfl) (by kernel_rfl), clone76_nil, clone76_some⟩
end Go.Eng
/- The engine's text of weakenings that may freeze what is kept; loops with these. -/
namespace Go.Eng
open Go

/-- Something is forgotten, or will not change any more. -/
def WeakM (σ σ' : S) : Prop :=
  ∀ (G : Ghost) (φ : Name → Loc) (m : Mem) (a : Act) (w : World), Conc G φ m σ a w → ∃ φ' m', Conc G φ' m' σ' a w
theorem Weak.toM {σ σ' : S} (h : Weak σ σ') : WeakM σ σ' := fun G φ m a w hC => by
  obtain ⟨φ', h'⟩ := h G φ m a w hC
  exact ⟨φ', m, h'⟩
theorem WeakM.refl (σ : S) : WeakM σ σ := (Weak.refl σ).toM
theorem WeakM.trans {a b c : S} (h : WeakM a b) (k : WeakM b c) : WeakM a c := fun G φ m x w hC => by
  obtain ⟨φ', m', h'⟩ := h G φ m x w hC
  exact k G φ' m' x w h'
/-! what is outside of a frame -/
theorem own_out01 (i : Nat) : own [0] [i, 1] = false := by simp [own]
theorem mkS_ifu (n : Nat) (p : Name) (F H : Name → Option O) (x : Name) (o : Option O) (l : List (Nat × E)) (h : List (Name × O)) :
    mkS n p (upd (fun nm => if own p nm = true then F nm else H nm) x o) l h = mkS n p (upd H x o) l h :=
  mkS_same fun nm hn => by
    by_cases e : nm = x
    · subst e; rw [upd_same, upd_same]
    · rw [upd_ne _ _ _ e, upd_ne _ _ _ e]; simp [hn]
theorem OutC_ifu (p : Name) (dom : Name → Bool) (F H : Name → Option O) (x : Name) (o : Option O) :
    OutC p dom (upd (fun nm => if own p nm = true then F nm else H nm) x o) = OutC p dom (upd H x o) := by
  have e : ∀ nm, own p nm = false → upd (fun nm => if own p nm = true then F nm else H nm) x o nm = upd H x o nm := fun nm hn => by
    by_cases e : nm = x
    · subst e; rw [upd_same, upd_same]
    · rw [upd_ne _ _ _ e, upd_ne _ _ _ e]; simp [hn]
  exact propext ⟨fun k nm q hn h => k nm q hn (by rw [e nm hn]; exact h), fun k nm q hn h => k nm q hn (by rw [← e nm hn]; exact h)⟩
theorem upd_upd {α β : Type} [DecidableEq α] (f : α → β) (a : α) (b c : β) : upd (upd f a b) a c = upd f a c := by
  funext x
  by_cases e : x = a
  · subst e; rw [upd_same, upd_same]
  · rw [upd_ne _ _ _ e, upd_ne _ _ _ e, upd_ne _ _ _ e]
theorem beq10 : (([1] : List Nat) == [0]) = false := rfl
theorem beqn0 : (([] : List Nat) == [0]) = false := rfl
theorem toArr_none {α : Type} : (none : Option α).toArray.toList = [] := rfl
theorem toArr_some {α : Type} (a : α) : (some a).toArray.toList = [a] := rfl
theorem toNat0 : Int.toNat 0 = 0 := rfl
theorem take_drop_all {α : Type} (L : List α) (i : Nat) : List.take (L.length - i) (L.drop i) = L.drop i := List.take_of_length_le (by simp)
theorem take_drop_map {α β : Type} (f : α → β) (L : List α) (i : Nat) : List.take (L.length - i) ((L.map f).drop i) = (L.map f).drop i := List.take_of_length_le (by simp)
attribute [go_sem] toArr_none toArr_some toNat0 take_drop_all take_drop_map Nat.sub_zero beq10 beqn0 own_out01 mkS_ifu OutC_ifu upd_upd

end Go.Eng
namespace Go.Eng
open Go Go.Proofs

/-! contracts with one row that may change -/
/-- Data that names nothing. -/
structure Plain {α : Type} (rd : α → D) : Prop where
  names : ∀ x c k nm, namesL [.msl nm k, rd x, .v c] = [nm]
  ren : ∀ f x, (rd x).ren f = rd x
  clos : ∀ dom x, D.clos dom (rd x) = true
/-- A row, an element, and an order: the row with the element. -/
def putC {α : Type} (sz : Nat) (g : FuncId) (enc : α → V) (dec : V → α) (rd : α → D) (un : D → α) (f : List α → α → List α) (pre : List α → α → Prop) : CSpec where
  pre := fun os ds => ∃ l x, os = [.arr sz (l.map enc)] ∧ ds = [.msl [0, 1] l.length, rd x, .v (.clo (.func g) [] [])] ∧ pre l x
  out := fun os ds => match os, ds with
    | [.arr _ l], [_, x, _] => ⟨[(0, .arr sz ((f (l.map dec) (un x)).map enc))], [], .msl [0, 1] (f (l.map dec) (un x)).length⟩
    | _, _ => default
/-! put of numbers -/
def putI (l : List Int) (x : Int) : List Int := if hasI l x then l else l.take (lowI l x) ++ [x] ++ l.drop (lowI l x)
def rdI (n : Int) : D := .v (vInt n)
def unI (d : D) : Int := match d with | .v (.int _ n) => n | _ => 0
noncomputable def sPutI : Spec := (putC 1 95 vInt decI rdI unI putI fun l _ => l.Pairwise (· < ·) ∧ l.length < 1000000).toSpec
def sBsI : Spec := pBsI.toSpec
def sBsD : Spec := pBsD.toSpec
noncomputable def K7 : FuncId → Option Spec := fun f => match f with
  | 148 => some sBsI
  | 130 => some sBsD
  | 149 => some (insSpec Tryz.prog 39)
  | 162 => some (insSpec Tryz.prog 22)
  | 76 => some (cloneSpec Tryz.prog 22)
  | f => K6 f
@[go_sem] theorem K7_148 : K7 148 = some sBsI := rfl
@[go_sem] theorem K7_130 : K7 130 = some sBsD := rfl
@[go_sem] theorem K7_149 : K7 149 = some (insSpec Tryz.prog 39) := rfl
@[go_sem] theorem K7_162 : K7 162 = some (insSpec Tryz.prog 22) := rfl
@[go_sem] theorem K7_76 : K7 76 = some (cloneSpec Tryz.prog 22) := rfl
/-! put of deeds -/
def putD (l : List Deed) (x : Deed) : List Deed := if hasD l x then l else l.take (lowD l x) ++ [x] ++ l.drop (lowD l x)
def rdD (d : Deed) : D := .agg [.v (vInt d.pa), .v (vInt d.no), .v (vInt d.ki), .v (vInt d.lo), .v (vInt d.pe), .v (vInt d.dl), .v (vInt d.dh), .v (vInt d.kn), .v (vInt d.un)]
def unD (d : D) : Deed := match d with
  | .agg [.v (.int _ a), .v (.int _ b), .v (.int _ c), .v (.int _ d), .v (.int _ e), .v (.int _ f), .v (.int _ g), .v (.int _ h), .v (.int _ i)] => ⟨a, b, c, d, e, f, g, h, i⟩
  | _ => ⟨0, 0, 0, 0, 0, 0, 0, 0, 0⟩
noncomputable def sPutD : Spec := (putC 9 101 encD decD rdD unD putD fun l _ => l.Pairwise ltD ∧ l.length < 1000000).toSpec
end Go.Eng
namespace Go.Eng
open Go Go.Proofs

/-! a deed put into a row, said plainly -/
def insD : List Deed → Deed → List Deed
  | [], x => [x]
  | a :: r, x => if ltD a x then a :: insD r x else if cmpD a x = 0 then a :: r else x :: a :: r
def atD : List Deed → Deed → Option Deed
  | [], _ => none
  | a :: r, x => if ltD a x then atD r x else if cmpD a x = 0 then some a else none
theorem lowD_cons (a : Deed) (r : List Deed) (x : Deed) : lowD (a :: r) x = if ltD a x then lowD r x + 1 else 0 := by
  unfold lowD
  by_cases h : ltD a x <;> simp [h]
theorem hasD_cons (a : Deed) (r : List Deed) (x : Deed) : hasD (a :: r) x = if ltD a x then hasD r x else cmpD a x == 0 := by
  unfold hasD
  rw [lowD_cons]
  by_cases h : ltD a x <;> simp [h]
theorem hasD_some : ∀ (l : List Deed) (x : Deed), hasD l x = (atD l x).isSome
  | [], x => rfl
  | a :: r, x => by
    rw [hasD_cons]
    unfold atD
    by_cases h : ltD a x
    · simp only [h, if_true]; exact hasD_some r x
    · by_cases k : cmpD a x = 0 <;> simp [h, k]
theorem atD_low : ∀ (l : List Deed) (x : Deed), hasD l x = true → l[lowD l x]? = atD l x
  | [], x, h => by cases h
  | a :: r, x, h => by
    rw [hasD_cons] at h
    rw [lowD_cons]
    unfold atD
    by_cases k : ltD a x
    · simp only [k, if_true] at h ⊢
      rw [List.getElem?_cons_succ]
      exact atD_low r x h
    · simp only [k, if_false, beq_iff_eq] at h ⊢
      simp [h]
/-! Join, said plainly -/
def clashD (l : List Deed) (x : Deed) : Bool := match atD l x with | some y => decide (y ≠ x) | none => false
def joinL (ok : Deed → Bool) : List Deed → List Deed → List Deed × Int
  | out, [] => if 60 < out.length then ([], 2) else (out, 0)
  | out, d :: r => if ok d = false then ([], 10) else if clashD out d = true then ([], 12) else joinL ok (insD out d) r
def joinV (r : List Deed × Int) : V := .tup [.sl (r.1.map encD), vInt r.2]
def pJoin (P : List Deed → Prop) (f : List Deed → List Deed → List Deed × Int) : PSpec :=
  ⟨fun xs => ∃ l m : List Deed, xs = [.sl (l.map encD), .sl (m.map encD)] ∧ P l, fun xs => match xs with | [.sl l, .sl m] => joinV (f (l.map decD) (m.map decD)) | _ => .bool false, false⟩
noncomputable def K8 : FuncId → Option Spec := fun f => match f with
  | 94 => some sPutI
  | 131 => some sPutD
  | f => K7 f
@[go_sem] theorem K8_94 : K8 94 = some sPutI := rfl
@[go_sem] theorem K8_131 : K8 131 = some sPutD := rfl
@[go_sem] theorem K8_130 : K8 130 = some sBsD := rfl
@[go_sem] theorem K8_76 : K8 76 = some (cloneSpec Tryz.prog 22) := rfl
@[go_sem] theorem K8_97 : K8 97 = some (pD fun d => .bool (isDeedB d)).toSpec := rfl
end Go.Eng
namespace Go.Eng
open Go Go.Proofs

/-! program and document say the same of deeds -/
theorem inI_iff {n lo hi : Int} : inI n lo hi = true ↔ lo ≤ n ∧ n ≤ hi := by unfold inI; simp
theorem rDeed_eq (d : Deed) : rDeedB d = isDeedB d := by
  obtain ⟨pa, no, ki, lo, pe, dl, dh, kn, un⟩ := d
  unfold rDeedB isDeedB lastsB
  simp only
  generalize (if ki = 1 ∨ ki = 2 then lo == 0 && inI pe 1 99 else if ki = 3 ∨ ki = 4 then inI lo 1 3 && inI pe 1 99 else if ki = 5 ∨ ki = 6 then inI lo 1 3 && pe == 0 else false) = K
  by_cases hk : inI kn 0 100000 = true
  · have hk' := inI_iff.1 hk
    rw [wrap_i64 (x := kn + 1) (by omega) (by omega), Bool.eq_iff_iff]
    simp only [Bool.and_eq_true, Bool.or_eq_true, decide_eq_true_eq, inI_iff, beq_iff_eq]
    constructor
    · rintro ⟨⟨⟨h1, h2⟩, h3⟩, h4⟩
      refine ⟨?_, h1⟩
      grind
    · rintro ⟨h, h1⟩
      refine ⟨⟨⟨h1, ?_⟩, ?_⟩, ?_⟩ <;> grind
  · rw [Bool.eq_iff_iff]
    simp only [Bool.and_eq_true, Bool.or_eq_true, decide_eq_true_eq, beq_iff_eq]
    constructor
    · rintro ⟨⟨⟨h1, h2⟩, h3⟩, h4⟩
      exact (hk (by grind)).elim
    · rintro ⟨h, h1⟩
      exact (hk (by grind)).elim
theorem before_iff {a b : Deed} : beforeB a.pa a.no b.pa b.no = true ↔ ltD a b := by
  unfold beforeB ltD
  simp
theorem okR_iff (l : List Deed) (i : Nat) : okR l i ↔ okD l i := by
  unfold okR okD
  simp only [rDeed_eq, before_iff, cmpD_lt]
theorem check_eq (l : List Deed) : rcheckI l = checkI l := by
  have e : okR l l.length = okD l l.length := propext (okR_iff l l.length)
  unfold rcheckI checkI
  rw [e]
def okL (l : List Deed) : Prop := l.Pairwise ltD ∧ (∀ d ∈ l, isDeedB d = true) ∧ l.length ≤ 60
theorem pairwise_next {α : Type} {r : α → α → Prop} (ht : ∀ a b c, r a b → r b c → r a c) : ∀ {l : List α}, (∀ j (h : j < l.length), 0 < j → r l[j - 1] l[j]) → l.Pairwise r
  | [], _ => .nil
  | [a], _ => by simp
  | a :: b :: s, h => by
    have hb : (b :: s).Pairwise r := pairwise_next ht fun j hj h0 => by
      have := h (j + 1) (by simpa using hj) (by omega)
      obtain ⟨k, rfl⟩ : ∃ k, j = k + 1 := ⟨j - 1, by omega⟩
      simpa using this
    rw [List.pairwise_cons]
    refine ⟨fun y hy => ?_, hb⟩
    have hab : r a b := by have := h 1 (by simp) (by omega); simpa using this
    rcases List.mem_cons.1 hy with rfl | hy
    · exact hab
    · exact ht _ _ _ hab ((List.pairwise_cons.1 hb).1 y hy)
theorem check_ok {l : List Deed} (h : okD l l.length ∧ l.length ≤ 60) : okL l := by
  obtain ⟨h, hl⟩ := h
  have h1 : l.Pairwise ltD := by
    refine pairwise_next (r := ltD) (fun a b c h k => ltD_trans h k) fun j hj h0 => ?_
    have h2 := (h j hj hj).2 h0
    exact cmpD_lt.1 h2
  refine ⟨h1, fun d hd => ?_, hl⟩
  obtain ⟨j, hj, rfl⟩ := List.getElem_of_mem hd
  exact (h j hj hj).1
theorem check_or (l : List Deed) : checkI l = 0 ∧ okL l ∨ checkI l = 11 := by
  unfold checkI
  split
  · rename_i h
    exact .inl ⟨rfl, check_ok h⟩
  · exact .inr rfl
theorem okD_of {l : List Deed} (h : okL l) : okD l l.length ∧ l.length ≤ 60 := by
  refine ⟨fun j hj _ => ⟨h.2.1 _ (List.getElem_mem hj), fun h0 => cmpD_lt.2 (List.pairwise_iff_getElem.1 h.1 (j - 1) j (by omega) hj (by omega))⟩, h.2.2⟩
theorem check_zero {l : List Deed} : checkI l = 0 ↔ okL l := by
  constructor
  · intro h
    rcases check_or l with h' | h'
    · exact h'.2
    · rw [h'] at h; cases h
  · intro h
    unfold checkI
    rw [if_pos (okD_of h)]

/-! Dates, said plainly -/
def insI : List Int → Int → List Int
  | [], x => [x]
  | a :: r, x => if a < x then a :: insI r x else if a = x then a :: r else x :: a :: r
def dateS (out : List Int) (d : Deed) : List Int := if d.un = 0 then insI out d.kn else insI (insI out d.kn) d.un
def datesL (l : List Deed) : List Int := l.foldl dateS []
noncomputable def datesR (l : List Deed) : List Int × Int := if checkI l = 0 then (datesL l, 0) else ([], checkI l)
noncomputable def joinR (l more : List Deed) : List Deed × Int := if checkI l = 0 then joinL isDeedB l more else ([], checkI l)
def datesV (r : List Int × Int) : V := .tup [.sl (r.1.map vInt), vInt r.2]
end Go.Eng
namespace Go.Eng
open Go Go.Proofs

theorem enc_ok (l : List Deed) : ∀ x ∈ l.map encD, (match x with | V.agg l => l | x => [x]).length = 9 ∧ (match x with | V.tup _ => false | _ => true) = true := by
  intro x hx
  obtain ⟨y, _, rfl⟩ := List.mem_map.1 hx
  exact ⟨rfl, rfl⟩
theorem lowD_lt {l : List Deed} {x : Deed} (h : hasD l x = true) : ∃ hl : lowD l x < l.length, atD l x = some l[lowD l x] := by
  have h1 := atD_low l x h
  have h2 := hasD_some l x
  rw [h] at h2
  cases hg : l[lowD l x]? with
  | none => rw [← h1, hg] at h2; cases h2
  | some y =>
    obtain ⟨hl, e⟩ := List.getElem?_eq_some_iff.1 hg
    exact ⟨hl, by rw [← h1, hg, e]⟩
end Go.Eng
namespace Go.Eng
open Go Go.Proofs

def pLen (P : List Deed → Prop) (f : List Deed → V) : PSpec := ⟨fun xs => ∃ l : List Deed, xs = [.sl (l.map encD)] ∧ P l, fun xs => match xs with | [.sl l] => f (l.map decD) | _ => .bool false, false⟩
theorem pLen_fn (P : List Deed → Prop) (f : List Deed → V) (l : List Deed) : (pLen P f).fn [.sl (l.map encD)] = f l := by
  simp only [pLen, decD_map]
noncomputable def sJoin0 : Spec := (pJoin okL (joinL isDeedB)).toSpec
noncomputable def sChk : Spec := (pLD (fun l => vInt (checkI l)) true).toSpec
theorem s39' : SSound Tryz.prog 39 sChk := s39.sound
theorem sChk_app {obj : Name → Option O} {t : Name} {l : List Deed} : sChk.app obj t [.v (.sl (l.map encD))] = ⟨True, .v (vInt (checkI l)), obj⟩ := by
  simp only [sChk, PSpec.toSpec, frzL, frz, pLD_fn]
  congr 1
  simp only [eq_iff_iff, iff_true]
  exact ⟨⟨trivial, trivial⟩, l, rfl⟩
noncomputable def K9 : FuncId → Option Spec := fun f => match f with
  | 39 => some sChk
  | 67 => some sJoin0
  | f => K8 f
@[go_sem] theorem K9_39 : K9 39 = some sChk := rfl
@[go_sem] theorem K9_67 : K9 67 = some sJoin0 := rfl
@[go_sem] theorem K9_94 : K9 94 = some sPutI := rfl
@[go_sem] theorem K9_95 : K9 95 = some (pII fun a b => vInt (cmpI a b)).toSpec := rfl

noncomputable def sJoin : Spec := (pJoin (fun _ => True) joinR).toSpec
noncomputable def K10 : FuncId → Option Spec := fun f => match f with
  | 13 => some sJoin
  | f => K9 f
@[go_sem] theorem K10_13 : K10 13 = some sJoin := rfl
def pAdd (f : List Deed → Deed → V) : PSpec := ⟨fun xs => ∃ (l : List Deed) (d : Deed), xs = [.sl (l.map encD), encD d], fun xs => match xs with | [.sl l, d] => f (l.map decD) (decD d) | _ => .bool false, false⟩
end Go.Eng
namespace Go.Eng
open Go Go.Proofs

theorem enc_okI (l : List Int) : ∀ x ∈ l.map vInt, (match x with | V.agg l => l | x => [x]).length = 1 ∧ (match x with | V.tup _ => false | _ => true) = true := by
  intro x hx
  obtain ⟨y, _, rfl⟩ := List.mem_map.1 hx
  exact ⟨rfl, rfl⟩
def pPut : PSpec := ⟨fun xs => ∃ (l : List Int) (n : Int), xs = [.sl (l.map vInt), vInt n] ∧ l.length < 1000000, fun xs => match xs with | [.sl l, .int _ n] => .sl ((insI (l.map decI) n).map vInt) | _ => .bool false, false⟩
def pLenI (P : List Deed → Prop) (f : List Deed → V) : PSpec := pLen P f
noncomputable def sPut : Spec := pPut.toSpec
noncomputable def sRChk : Spec := (pLD (fun l => vInt (checkI l)) true).toSpec
theorem s16' : SSound Tryz.prog 16 sRChk := by
  have e : (fun l => vInt (rcheckI l)) = (fun l => vInt (checkI l)) := funext fun l => by rw [check_eq]
  have := s16.sound
  rw [e] at this
  exact this
theorem sRChk_app {obj : Name → Option O} {t : Name} {l : List Deed} : sRChk.app obj t [.v (.sl (l.map encD))] = ⟨True, .v (vInt (checkI l)), obj⟩ := sChk_app
noncomputable def K11 : FuncId → Option Spec := fun f => match f with
  | 16 => some sRChk
  | 96 => some sPut
  | f => K10 f
@[go_sem] theorem K11_16 : K11 16 = some sRChk := rfl
@[go_sem] theorem K11_96 : K11 96 = some sPut := rfl
@[go_sem] theorem K11_38 : K11 38 = some (pD fun d => vInt (if rDeedB d then 0 else 10)).toSpec := rfl
@[go_sem] theorem K11_68 : K11 68 = some (pItems fun a b c d => .bool (beforeB a b c d)).toSpec := rfl
end Go.Eng
namespace Go.Eng
open Go Go.Proofs

noncomputable def K12 : FuncId → Option Spec := fun f => match f with
  | 14 => some sJoin
  | f => K11 f
@[go_sem] theorem K12_14 : K12 14 = some sJoin := rfl
end Go.Eng
/- The engine's text of rows built in place that are the frame's own (and may grow). -/
namespace Go.Eng
open Go

def aBuildM (P : Program) (obj : Name → Option O) (t : Name) (T : TypeId) (n : Nat) (parts : List (Nat × D)) : R :=
  match tElem P T with
  | some (e, sz, _) =>
    ⟨parts.map (·.1) = List.range n ∧ (frzL (frz 4) obj (parts.map (·.2))).ok ∧ (∀ x ∈ (frzL (frz 4) obj (parts.map (·.2))).xs, x.cells.length = sz ∧ x.okc = true) ∧
        n * sz ≤ 16777216 ∧ sz ≠ 0 ∧ (tZero P e).isSome = true ∧ 0 < n ∧ (frzL (frz 4) obj (parts.map (·.2))).obj (nmO t) = none,
      .msl (nmO t) n, upd (frzL (frz 4) obj (parts.map (·.2))).obj (nmO t) (some (.arr sz (frzL (frz 4) obj (parts.map (·.2))).xs))⟩
  | none => .bad obj

/-- The operations, with rows of the frame's own. -/
def aopM (P : Program) (Γ : FuncId → Option Spec) (σ : S) (t : Name) : Op → R
  | .buildSlice T n ps => aBuildM P σ.obj t T n (ps.toList.map fun p => (p.1, opD σ p.2))
  | o => aop P Γ σ t o
def stepM (P : Program) (Γ : FuncId → Option Spec) (ops : Array Oper) (σ : S) (o : Oper) : S :=
  ⟨σ.nt, match o.dst with
    | some t => upd σ.env t ⟨gOf ops σ o, (aopM P Γ σ ((σ.base + t) :: σ.pre) o.op).d⟩
    | none => σ.env, if gOf ops σ o = true then (aopM P Γ σ ((σ.base + o.dst.getD 0) :: σ.pre) o.op).obj else σ.obj, σ.pre, σ.base⟩
def oblM (P : Program) (Γ : FuncId → Option Spec) (ops : Array Oper) (σ : S) (o : Oper) : Prop :=
  gOk ops σ o ∧ (match o.dst with | some t => t < σ.nt | none => True) ∧ (gOf ops σ o = true → opConds σ o.op = true ∧ (aopM P Γ σ ((σ.base + o.dst.getD 0) :: σ.pre) o.op).ok)
def RegM (P : Program) (Γ : FuncId → Option Spec) (ops : Array Oper) : List Oper → S → (S → Prop) → Prop
  | [], σ, K => K σ
  | o :: r, σ, K => oblM P Γ ops σ o ∧ RegM P Γ ops r (stepM P Γ ops σ o) K

attribute [go_sem] RegM oblM stepM aopM aBuildM List.cons_beq_cons

end Go.Eng
namespace Go.Eng
open Go Go.Proofs

/-! what counts, and what is of one thread -/
def countsB (kn un k : Int) : Bool := decide (kn ≤ k) && (un == 0 || decide (k < un))
def isOfB (d : Deed) (lo pe : Int) : Bool := if 0 < lo then d.lo == lo else d.lo == 0 && d.pe == pe
def contraB (a b : Deed) : Bool := isOfB b a.lo a.pe && decide (b.dh < a.dl)
def offB (k : Int) : Bool := k == 1 || k == 2
def sameThB (a b : Deed) : Bool := if offB a.ki then offB b.ki && a.pe == b.pe else a.lo == b.lo
def pDI (g : Deed → Int → V) : PSpec := ⟨fun xs => ∃ d k, xs = [encD d, vInt k], fun xs => match xs with | [x, .int _ k] => g (decD x) k | _ => .bool false, true⟩
def pDII (g : Deed → Int → Int → V) : PSpec := ⟨fun xs => ∃ d k j, xs = [encD d, vInt k, vInt j], fun xs => match xs with | [x, .int _ k, .int _ j] => g (decD x) k j | _ => .bool false, true⟩
def pDp (g : Deed → Int → V) : PSpec := ⟨fun xs => ∃ d k, xs = [encD d, .ptr [vInt k]], fun xs => match xs with | [x, .ptr [.int _ k]] => g (decD x) k | _ => .bool false, true⟩
def pDpp (g : Deed → Int → Int → V) : PSpec := ⟨fun xs => ∃ d k j, xs = [encD d, .ptr [vInt k], .ptr [vInt j]], fun xs => match xs with | [x, .ptr [.int _ k], .ptr [.int _ j]] => g (decD x) k j | _ => .bool false, true⟩
def pDp2 (g : Deed → Int → Int → V) : PSpec := ⟨fun xs => ∃ d k j, xs = [encD d, .ptr [vInt k, vInt j]], fun xs => match xs with | [x, .ptr [.int _ k, .int _ j]] => g (decD x) k j | _ => .bool false, true⟩
def pIII (g : Int → Int → Int → V) : PSpec := ⟨fun xs => ∃ a b c, xs = [vInt a, vInt b, vInt c], fun xs => match xs with | [.int _ a, .int _ b, .int _ c] => g a b c | _ => .bool false, true⟩
theorem frzD {obj : Name → Option O} {d : Deed} : frz 6 obj (rdD d) = ⟨True, encD d, obj⟩ := by
  simp only [frz, rdD, frzL, D.one, V.one, List.map_cons, List.map_nil]
  simp [encD, D.one, V.one]
def sDI (g : Deed → Int → V) : Spec := (pDI g).toSpec
theorem sDI_app {g : Deed → Int → V} {obj : Name → Option O} {t : Name} {d : Deed} {k : Int} {dx : D} (h : dx = rdD d) : (sDI g).app obj t [dx, .v (vInt k)] = ⟨True, .v (g d k), obj⟩ := by
  subst h
  simp only [sDI, PSpec.toSpec, frzL, frzD, pDI, decD_enc, if_true]
  simp only [frz]
  congr 1
  simp only [eq_iff_iff, iff_true]
  exact ⟨⟨trivial, trivial, trivial⟩, d, k, rfl⟩
def sDII (g : Deed → Int → Int → V) : Spec := (pDII g).toSpec
theorem sDII_app {g : Deed → Int → Int → V} {obj : Name → Option O} {t : Name} {d : Deed} {k j : Int} {dx : D} (h : dx = rdD d) : (sDII g).app obj t [dx, .v (vInt k), .v (vInt j)] = ⟨True, .v (g d k j), obj⟩ := by
  subst h
  simp only [sDII, PSpec.toSpec, frzL, frzD, pDII, decD_enc, if_true]
  simp only [frz]
  congr 1
  simp only [eq_iff_iff, iff_true]
  exact ⟨⟨trivial, trivial, trivial, trivial⟩, d, k, j, rfl⟩
set_option maxRecDepth 10000
theorem s142 : PSound Tryz.prog 142 (pDI fun d k => .bool (countsB d.kn d.un k)) := by
  refine psoundB (rs := [.tmp 4]) Tryz.func142 Tryz.ntmps142 (by rfl) (by kernel_rfl) (by decide) (by rintro _ xs ⟨d, k, rfl⟩; rfl) ⟨_, rfl, ?_⟩
  rintro xs ⟨⟨pa, no, ki, lo, pe, dl, dh, kn, un⟩, k, rfl⟩ _
  refine ⟨Nat.le_of_ble_eq_true rfl, ?_⟩
  have hΓ := @no_sound Tryz.prog
  have hP := mixedK
  repeat refine cl_seq ?_
  refine cl_rs hΓ [1,2] [[2, 0]] fun K' hK => ?_
  simp only [go_sem, Nat.reduceLT, Nat.reduceAdd, Nat.reduceEqDiff, Nat.reduceSub, Nat.reduceMul, Nat.reduceBEq, reduceIte, reduceCtorEq]
  repeat (refine ⟨by first | exact Bool.or_not_self _ | exact Bool.not_or_self _ | exact fun _ => by decide | exact fun h => ⟨h, by decide⟩ | omega | (simp only [decide_eq_true_eq]; omega) | exact xD | exact fun h => ⟨h, xD⟩ | exact xDD | exact fun h => ⟨h, xDD⟩ | exact ⟨_, rfl⟩ | exact fun h => ⟨h, _, rfl⟩ | exact ⟨_, _, rfl⟩ | exact fun h => ⟨h, _, _, rfl⟩ | exact fun h => ⟨h, _, _, _, rfl⟩ | exact ⟨_, _, _, _, rfl⟩ | exact fun h => ⟨h, _, _, _, _, rfl⟩ | exact ⟨[_, _], rfl⟩ | (simp; done) | (simp_all; done) | (simp_all; omega), ?_⟩)
  refine hK _ ?_ ?_
  · simp only [go_sem, Nat.reduceLT, Nat.reduceAdd, Nat.reduceEqDiff, Nat.reduceSub, Nat.reduceMul, Nat.reduceBEq, reduceIte, reduceCtorEq]
  clear K' hK
  simp only [go_sem, Nat.reduceLT, Nat.reduceAdd, Nat.reduceEqDiff, Nat.reduceSub, Nat.reduceMul, Nat.reduceBEq, reduceIte, reduceCtorEq]
  repeat refine cl_seq ?_
  refine cl_rs hΓ [4] [] fun K' hK => ?_
  simp only [go_sem, Nat.reduceLT, Nat.reduceAdd, Nat.reduceEqDiff, Nat.reduceSub, Nat.reduceMul, Nat.reduceBEq, reduceIte, reduceCtorEq]
  repeat (refine ⟨by first | exact Bool.or_not_self _ | exact Bool.not_or_self _ | exact fun _ => by decide | exact fun h => ⟨h, by decide⟩ | omega | (simp only [decide_eq_true_eq]; omega) | exact xD | exact fun h => ⟨h, xD⟩ | exact xDD | exact fun h => ⟨h, xDD⟩ | exact ⟨_, rfl⟩ | exact fun h => ⟨h, _, rfl⟩ | exact ⟨_, _, rfl⟩ | exact fun h => ⟨h, _, _, rfl⟩ | exact fun h => ⟨h, _, _, _, rfl⟩ | exact ⟨_, _, _, _, rfl⟩ | exact fun h => ⟨h, _, _, _, _, rfl⟩ | exact ⟨[_, _], rfl⟩ | (simp; done) | (simp_all; done) | (simp_all; omega), ?_⟩)
  refine hK _ ?_ ?_
  · simp only [go_sem, Nat.reduceLT, Nat.reduceAdd, Nat.reduceEqDiff, Nat.reduceSub, Nat.reduceMul, Nat.reduceBEq, reduceIte, reduceCtorEq]
  clear K' hK
  simp only [go_sem, Nat.reduceLT, Nat.reduceAdd, Nat.reduceEqDiff, Nat.reduceSub, Nat.reduceMul, Nat.reduceBEq, reduceIte, reduceCtorEq]
  refine cl_ret ?_
  simp only [go_sem, Nat.reduceLT, Nat.reduceAdd, Nat.reduceEqDiff, Nat.reduceSub, Nat.reduceMul, Nat.reduceBEq, reduceIte, reduceCtorEq]
  all_goals first | rfl | (simp; done) | (grind [countsB, pDI, decD, encD]; done)
theorem s144 : PSound Tryz.prog 144 (pDII fun d k j => .bool (isOfB d k j)) := by
  refine psoundB (rs := [.tmp 6]) Tryz.func144 Tryz.ntmps144 (by rfl) (by kernel_rfl) (by decide) (by rintro _ xs ⟨d, k, j, rfl⟩; rfl) ⟨_, rfl, ?_⟩
  rintro xs ⟨⟨pa, no, ki, lo, pe, dl, dh, kn, un⟩, k, j, rfl⟩ _
  refine ⟨Nat.le_of_ble_eq_true rfl, ?_⟩
  have hΓ := @no_sound Tryz.prog
  have hP := mixedK
  repeat refine cl_seq ?_
  refine cl_rs hΓ [1,2,3] [[3, 0]] fun K' hK => ?_
  simp only [go_sem, Nat.reduceLT, Nat.reduceAdd, Nat.reduceEqDiff, Nat.reduceSub, Nat.reduceMul, Nat.reduceBEq, reduceIte, reduceCtorEq]
  repeat (refine ⟨by first | exact Bool.or_not_self _ | exact Bool.not_or_self _ | exact fun _ => by decide | exact fun h => ⟨h, by decide⟩ | omega | (simp only [decide_eq_true_eq]; omega) | exact xD | exact fun h => ⟨h, xD⟩ | exact xDD | exact fun h => ⟨h, xDD⟩ | exact ⟨_, rfl⟩ | exact fun h => ⟨h, _, rfl⟩ | exact ⟨_, _, rfl⟩ | exact fun h => ⟨h, _, _, rfl⟩ | exact fun h => ⟨h, _, _, _, rfl⟩ | exact ⟨_, _, _, _, rfl⟩ | exact fun h => ⟨h, _, _, _, _, rfl⟩ | exact ⟨[_, _], rfl⟩ | (simp; done) | (simp_all; done) | (simp_all; omega), ?_⟩)
  refine hK _ ?_ ?_
  · simp only [go_sem, Nat.reduceLT, Nat.reduceAdd, Nat.reduceEqDiff, Nat.reduceSub, Nat.reduceMul, Nat.reduceBEq, reduceIte, reduceCtorEq]
  clear K' hK
  simp only [go_sem, Nat.reduceLT, Nat.reduceAdd, Nat.reduceEqDiff, Nat.reduceSub, Nat.reduceMul, Nat.reduceBEq, reduceIte, reduceCtorEq]
  repeat refine cl_seq ?_
  refine cl_rs hΓ [1,2,3,8] [[3, 0]] fun K' hK => ?_
  simp only [go_sem, Nat.reduceLT, Nat.reduceAdd, Nat.reduceEqDiff, Nat.reduceSub, Nat.reduceMul, Nat.reduceBEq, reduceIte, reduceCtorEq]
  repeat (refine ⟨by first | exact Bool.or_not_self _ | exact Bool.not_or_self _ | exact fun _ => by decide | exact fun h => ⟨h, by decide⟩ | omega | (simp only [decide_eq_true_eq]; omega) | exact xD | exact fun h => ⟨h, xD⟩ | exact xDD | exact fun h => ⟨h, xDD⟩ | exact ⟨_, rfl⟩ | exact fun h => ⟨h, _, rfl⟩ | exact ⟨_, _, rfl⟩ | exact fun h => ⟨h, _, _, rfl⟩ | exact fun h => ⟨h, _, _, _, rfl⟩ | exact ⟨_, _, _, _, rfl⟩ | exact fun h => ⟨h, _, _, _, _, rfl⟩ | exact ⟨[_, _], rfl⟩ | (simp; done) | (simp_all; done) | (simp_all; omega), ?_⟩)
  refine hK _ ?_ ?_
  · simp only [go_sem, Nat.reduceLT, Nat.reduceAdd, Nat.reduceEqDiff, Nat.reduceSub, Nat.reduceMul, Nat.reduceBEq, reduceIte, reduceCtorEq]
  clear K' hK
  simp only [go_sem, Nat.reduceLT, Nat.reduceAdd, Nat.reduceEqDiff, Nat.reduceSub, Nat.reduceMul, Nat.reduceBEq, reduceIte, reduceCtorEq]
  repeat refine cl_seq ?_
  refine cl_cond rfl rfl (fun hb => ?_) (fun hb => ?_)
  · skip
    repeat refine cl_seq ?_
    repeat refine cl_seq ?_
    refine cl_rs hΓ [6] [] fun K' hK => ?_
    simp only [go_sem, Nat.reduceLT, Nat.reduceAdd, Nat.reduceEqDiff, Nat.reduceSub, Nat.reduceMul, Nat.reduceBEq, reduceIte, reduceCtorEq]
    repeat (refine ⟨by first | exact Bool.or_not_self _ | exact Bool.not_or_self _ | exact fun _ => by decide | exact fun h => ⟨h, by decide⟩ | omega | (simp only [decide_eq_true_eq]; omega) | exact xD | exact fun h => ⟨h, xD⟩ | exact xDD | exact fun h => ⟨h, xDD⟩ | exact ⟨_, rfl⟩ | exact fun h => ⟨h, _, rfl⟩ | exact ⟨_, _, rfl⟩ | exact fun h => ⟨h, _, _, rfl⟩ | exact fun h => ⟨h, _, _, _, rfl⟩ | exact ⟨_, _, _, _, rfl⟩ | exact fun h => ⟨h, _, _, _, _, rfl⟩ | exact ⟨[_, _], rfl⟩ | (simp; done) | (simp_all; done) | (simp_all; omega), ?_⟩)
    refine hK _ ?_ ?_
    · simp only [go_sem, Nat.reduceLT, Nat.reduceAdd, Nat.reduceEqDiff, Nat.reduceSub, Nat.reduceMul, Nat.reduceBEq, reduceIte, reduceCtorEq]
    clear K' hK
    simp only [go_sem, Nat.reduceLT, Nat.reduceAdd, Nat.reduceEqDiff, Nat.reduceSub, Nat.reduceMul, Nat.reduceBEq, reduceIte, reduceCtorEq]
    refine cl_ret ?_
    simp only [go_sem, Nat.reduceLT, Nat.reduceAdd, Nat.reduceEqDiff, Nat.reduceSub, Nat.reduceMul, Nat.reduceBEq, reduceIte, reduceCtorEq]
    all_goals first | rfl | (simp; done) | (grind [isOfB, pDII, decD, encD]; done)
  · skip
    repeat refine cl_seq ?_
    refine cl_skip ?_
    repeat refine cl_seq ?_
    refine cl_rs hΓ [6] [] fun K' hK => ?_
    simp only [go_sem, Nat.reduceLT, Nat.reduceAdd, Nat.reduceEqDiff, Nat.reduceSub, Nat.reduceMul, Nat.reduceBEq, reduceIte, reduceCtorEq]
    repeat (refine ⟨by first | exact Bool.or_not_self _ | exact Bool.not_or_self _ | exact fun _ => by decide | exact fun h => ⟨h, by decide⟩ | omega | (simp only [decide_eq_true_eq]; omega) | exact xD | exact fun h => ⟨h, xD⟩ | exact xDD | exact fun h => ⟨h, xDD⟩ | exact ⟨_, rfl⟩ | exact fun h => ⟨h, _, rfl⟩ | exact ⟨_, _, rfl⟩ | exact fun h => ⟨h, _, _, rfl⟩ | exact fun h => ⟨h, _, _, _, rfl⟩ | exact ⟨_, _, _, _, rfl⟩ | exact fun h => ⟨h, _, _, _, _, rfl⟩ | exact ⟨[_, _], rfl⟩ | (simp; done) | (simp_all; done) | (simp_all; omega), ?_⟩)
    refine hK _ ?_ ?_
    · simp only [go_sem, Nat.reduceLT, Nat.reduceAdd, Nat.reduceEqDiff, Nat.reduceSub, Nat.reduceMul, Nat.reduceBEq, reduceIte, reduceCtorEq]
    clear K' hK
    simp only [go_sem, Nat.reduceLT, Nat.reduceAdd, Nat.reduceEqDiff, Nat.reduceSub, Nat.reduceMul, Nat.reduceBEq, reduceIte, reduceCtorEq]
    refine cl_ret ?_
    simp only [go_sem, Nat.reduceLT, Nat.reduceAdd, Nat.reduceEqDiff, Nat.reduceSub, Nat.reduceMul, Nat.reduceBEq, reduceIte, reduceCtorEq]
    all_goals first | rfl | (simp; done) | (grind [isOfB, pDII, decD, encD]; done)
theorem s155 : PSound Tryz.prog 155 (pIB offB) := by
  refine psoundB (rs := [.tmp 2]) Tryz.func155 Tryz.ntmps155 (by rfl) (by kernel_rfl) (by decide) (pIB_flat _) ⟨_, rfl, ?_⟩
  rintro xs ⟨a, rfl⟩ _
  refine ⟨Nat.le_of_ble_eq_true rfl, ?_⟩
  have hΓ := @no_sound Tryz.prog
  have hP := mixedK
  repeat refine cl_seq ?_
  refine cl_rs hΓ [0] [] fun K' hK => ?_
  simp only [go_sem, Nat.reduceLT, Nat.reduceAdd, Nat.reduceEqDiff, Nat.reduceSub, Nat.reduceMul, Nat.reduceBEq, reduceIte, reduceCtorEq]
  repeat (refine ⟨by first | exact Bool.or_not_self _ | exact Bool.not_or_self _ | exact fun _ => by decide | exact fun h => ⟨h, by decide⟩ | omega | (simp only [decide_eq_true_eq]; omega) | exact xD | exact fun h => ⟨h, xD⟩ | exact xDD | exact fun h => ⟨h, xDD⟩ | exact ⟨_, rfl⟩ | exact fun h => ⟨h, _, rfl⟩ | exact ⟨_, _, rfl⟩ | exact fun h => ⟨h, _, _, rfl⟩ | exact fun h => ⟨h, _, _, _, rfl⟩ | exact ⟨_, _, _, _, rfl⟩ | exact fun h => ⟨h, _, _, _, _, rfl⟩ | exact ⟨[_, _], rfl⟩ | (simp; done) | (simp_all; done) | (simp_all; omega), ?_⟩)
  refine hK _ ?_ ?_
  · simp only [go_sem, Nat.reduceLT, Nat.reduceAdd, Nat.reduceEqDiff, Nat.reduceSub, Nat.reduceMul, Nat.reduceBEq, reduceIte, reduceCtorEq]
  clear K' hK
  simp only [go_sem, Nat.reduceLT, Nat.reduceAdd, Nat.reduceEqDiff, Nat.reduceSub, Nat.reduceMul, Nat.reduceBEq, reduceIte, reduceCtorEq]
  repeat refine cl_seq ?_
  refine cl_rs hΓ [2] [] fun K' hK => ?_
  simp only [go_sem, Nat.reduceLT, Nat.reduceAdd, Nat.reduceEqDiff, Nat.reduceSub, Nat.reduceMul, Nat.reduceBEq, reduceIte, reduceCtorEq]
  repeat (refine ⟨by first | exact Bool.or_not_self _ | exact Bool.not_or_self _ | exact fun _ => by decide | exact fun h => ⟨h, by decide⟩ | omega | (simp only [decide_eq_true_eq]; omega) | exact xD | exact fun h => ⟨h, xD⟩ | exact xDD | exact fun h => ⟨h, xDD⟩ | exact ⟨_, rfl⟩ | exact fun h => ⟨h, _, rfl⟩ | exact ⟨_, _, rfl⟩ | exact fun h => ⟨h, _, _, rfl⟩ | exact fun h => ⟨h, _, _, _, rfl⟩ | exact ⟨_, _, _, _, rfl⟩ | exact fun h => ⟨h, _, _, _, _, rfl⟩ | exact ⟨[_, _], rfl⟩ | (simp; done) | (simp_all; done) | (simp_all; omega), ?_⟩)
  refine hK _ ?_ ?_
  · simp only [go_sem, Nat.reduceLT, Nat.reduceAdd, Nat.reduceEqDiff, Nat.reduceSub, Nat.reduceMul, Nat.reduceBEq, reduceIte, reduceCtorEq]
  clear K' hK
  simp only [go_sem, Nat.reduceLT, Nat.reduceAdd, Nat.reduceEqDiff, Nat.reduceSub, Nat.reduceMul, Nat.reduceBEq, reduceIte, reduceCtorEq]
  refine cl_ret ?_
  simp only [go_sem, Nat.reduceLT, Nat.reduceAdd, Nat.reduceEqDiff, Nat.reduceSub, Nat.reduceMul, Nat.reduceBEq, reduceIte, reduceCtorEq]
  all_goals first | rfl | (simp; done) | (grind [offB]; done)
def K20 : FuncId → Option Spec := fun f => match f with
  | 142 => some (sDI fun d k => .bool (countsB d.kn d.un k))
  | 144 => some (sDII fun d k j => .bool (isOfB d k j))
  | 155 => some (pIB offB).toSpec
  | _ => none
theorem K20_sound : ∀ f s, K20 f = some s → SSound Tryz.prog f s := by
  intro f s h
  unfold K20 at h
  split at h
  · cases h; exact s142.sound
  · cases h; exact s144.sound
  · cases h; exact s155.sound
  · cases h
@[go_sem] theorem K20_142 : K20 142 = some (sDI fun d k => .bool (countsB d.kn d.un k)) := rfl
@[go_sem] theorem K20_144 : K20 144 = some (sDII fun d k j => .bool (isOfB d k j)) := rfl
@[go_sem] theorem K20_155 : K20 155 = some (pIB offB).toSpec := rfl
theorem s141 : PSound Tryz.prog 141 (pDp fun d k => .bool (!countsB d.kn d.un k)) := by
  refine psoundB (rs := [.tmp 3]) Tryz.func141 Tryz.ntmps141 (by rfl) (by kernel_rfl) (by decide) (by rintro _ xs ⟨d, k, rfl⟩; rfl) ⟨_, rfl, ?_⟩
  rintro xs ⟨⟨pa, no, ki, lo, pe, dl, dh, kn, un⟩, k, rfl⟩ _
  refine ⟨Nat.le_of_ble_eq_true rfl, ?_⟩
  have hΓ := K20_sound
  have hP := mixedK
  have hc := fun (g : Deed → Int → V) (obj : Name → Option O) (t : Name) (n : Int) => sDI_app (g := g) (obj := obj) (t := t) (k := n) (d := (⟨pa, no, ki, lo, pe, dl, dh, kn, un⟩ : Deed)) (dx := rdD (⟨pa, no, ki, lo, pe, dl, dh, kn, un⟩ : Deed)) rfl
  unfold rdD at hc
  repeat refine cl_seq ?_
  refine cl_rs hΓ [1,2] [[2, 0]] fun K' hK => ?_
  simp only [go_sem, Nat.reduceLT, Nat.reduceAdd, Nat.reduceEqDiff, Nat.reduceSub, Nat.reduceMul, Nat.reduceBEq, reduceIte, reduceCtorEq]
  repeat (refine ⟨by first | exact Bool.or_not_self _ | exact Bool.not_or_self _ | exact fun _ => by decide | exact fun h => ⟨h, by decide⟩ | omega | (simp only [decide_eq_true_eq]; omega) | exact xD | exact fun h => ⟨h, xD⟩ | exact xDD | exact fun h => ⟨h, xDD⟩ | exact ⟨_, rfl⟩ | exact fun h => ⟨h, _, rfl⟩ | exact ⟨_, _, rfl⟩ | exact fun h => ⟨h, _, _, rfl⟩ | exact fun h => ⟨h, _, _, _, rfl⟩ | exact ⟨_, _, _, _, rfl⟩ | exact fun h => ⟨h, _, _, _, _, rfl⟩ | exact ⟨[_, _], rfl⟩ | (simp; done) | (simp_all; done) | (simp_all; omega), ?_⟩)
  refine hK _ ?_ ?_
  · simp only [go_sem, Nat.reduceLT, Nat.reduceAdd, Nat.reduceEqDiff, Nat.reduceSub, Nat.reduceMul, Nat.reduceBEq, reduceIte, reduceCtorEq]
  clear K' hK
  simp only [go_sem, Nat.reduceLT, Nat.reduceAdd, Nat.reduceEqDiff, Nat.reduceSub, Nat.reduceMul, Nat.reduceBEq, reduceIte, reduceCtorEq]
  repeat refine cl_seq ?_
  refine cl_rs hΓ [3] [] fun K' hK => ?_
  simp only [go_sem, Nat.reduceLT, Nat.reduceAdd, Nat.reduceEqDiff, Nat.reduceSub, Nat.reduceMul, Nat.reduceBEq, reduceIte, reduceCtorEq, hc]
  repeat (refine ⟨by first | exact Bool.or_not_self _ | exact Bool.not_or_self _ | exact fun _ => by decide | exact fun h => ⟨h, by decide⟩ | omega | (simp only [decide_eq_true_eq]; omega) | exact xD | exact fun h => ⟨h, xD⟩ | exact xDD | exact fun h => ⟨h, xDD⟩ | exact ⟨_, rfl⟩ | exact fun h => ⟨h, _, rfl⟩ | exact ⟨_, _, rfl⟩ | exact fun h => ⟨h, _, _, rfl⟩ | exact fun h => ⟨h, _, _, _, rfl⟩ | exact ⟨_, _, _, _, rfl⟩ | exact fun h => ⟨h, _, _, _, _, rfl⟩ | exact ⟨[_, _], rfl⟩ | (simp; done) | (simp_all; done) | (simp_all; omega), ?_⟩)
  refine hK _ ?_ ?_
  · simp only [go_sem, Nat.reduceLT, Nat.reduceAdd, Nat.reduceEqDiff, Nat.reduceSub, Nat.reduceMul, Nat.reduceBEq, reduceIte, reduceCtorEq, hc]
  clear K' hK
  simp only [go_sem, Nat.reduceLT, Nat.reduceAdd, Nat.reduceEqDiff, Nat.reduceSub, Nat.reduceMul, Nat.reduceBEq, reduceIte, reduceCtorEq, hc]
  refine cl_ret ?_
  simp only [go_sem, Nat.reduceLT, Nat.reduceAdd, Nat.reduceEqDiff, Nat.reduceSub, Nat.reduceMul, Nat.reduceBEq, reduceIte, reduceCtorEq]
  rfl
theorem s143 : PSound Tryz.prog 143 (pDpp fun d k j => .bool (!isOfB d k j)) := by
  refine psoundB (rs := [.tmp 4]) Tryz.func143 Tryz.ntmps143 (by rfl) (by kernel_rfl) (by decide) (by rintro _ xs ⟨d, k, j, rfl⟩; rfl) ⟨_, rfl, ?_⟩
  rintro xs ⟨⟨pa, no, ki, lo, pe, dl, dh, kn, un⟩, k, j, rfl⟩ _
  refine ⟨Nat.le_of_ble_eq_true rfl, ?_⟩
  have hΓ := K20_sound
  have hP := mixedK
  have hc := fun (g : Deed → Int → Int → V) (obj : Name → Option O) (t : Name) (n m : Int) => sDII_app (g := g) (obj := obj) (t := t) (k := n) (j := m) (d := (⟨pa, no, ki, lo, pe, dl, dh, kn, un⟩ : Deed)) (dx := rdD (⟨pa, no, ki, lo, pe, dl, dh, kn, un⟩ : Deed)) rfl
  unfold rdD at hc
  repeat refine cl_seq ?_
  refine cl_rs hΓ [1,2,3] [[3, 0]] fun K' hK => ?_
  simp only [go_sem, Nat.reduceLT, Nat.reduceAdd, Nat.reduceEqDiff, Nat.reduceSub, Nat.reduceMul, Nat.reduceBEq, reduceIte, reduceCtorEq]
  repeat (refine ⟨by first | exact Bool.or_not_self _ | exact Bool.not_or_self _ | exact fun _ => by decide | exact fun h => ⟨h, by decide⟩ | omega | (simp only [decide_eq_true_eq]; omega) | exact xD | exact fun h => ⟨h, xD⟩ | exact xDD | exact fun h => ⟨h, xDD⟩ | exact ⟨_, rfl⟩ | exact fun h => ⟨h, _, rfl⟩ | exact ⟨_, _, rfl⟩ | exact fun h => ⟨h, _, _, rfl⟩ | exact fun h => ⟨h, _, _, _, rfl⟩ | exact ⟨_, _, _, _, rfl⟩ | exact fun h => ⟨h, _, _, _, _, rfl⟩ | exact ⟨[_, _], rfl⟩ | (simp; done) | (simp_all; done) | (simp_all; omega), ?_⟩)
  refine hK _ ?_ ?_
  · simp only [go_sem, Nat.reduceLT, Nat.reduceAdd, Nat.reduceEqDiff, Nat.reduceSub, Nat.reduceMul, Nat.reduceBEq, reduceIte, reduceCtorEq]
  clear K' hK
  simp only [go_sem, Nat.reduceLT, Nat.reduceAdd, Nat.reduceEqDiff, Nat.reduceSub, Nat.reduceMul, Nat.reduceBEq, reduceIte, reduceCtorEq]
  repeat refine cl_seq ?_
  refine cl_rs hΓ [4] [] fun K' hK => ?_
  simp only [go_sem, Nat.reduceLT, Nat.reduceAdd, Nat.reduceEqDiff, Nat.reduceSub, Nat.reduceMul, Nat.reduceBEq, reduceIte, reduceCtorEq, hc]
  repeat (refine ⟨by first | exact Bool.or_not_self _ | exact Bool.not_or_self _ | exact fun _ => by decide | exact fun h => ⟨h, by decide⟩ | omega | (simp only [decide_eq_true_eq]; omega) | exact xD | exact fun h => ⟨h, xD⟩ | exact xDD | exact fun h => ⟨h, xDD⟩ | exact ⟨_, rfl⟩ | exact fun h => ⟨h, _, rfl⟩ | exact ⟨_, _, rfl⟩ | exact fun h => ⟨h, _, _, rfl⟩ | exact fun h => ⟨h, _, _, _, rfl⟩ | exact ⟨_, _, _, _, rfl⟩ | exact fun h => ⟨h, _, _, _, _, rfl⟩ | exact ⟨[_, _], rfl⟩ | (simp; done) | (simp_all; done) | (simp_all; omega), ?_⟩)
  refine hK _ ?_ ?_
  · simp only [go_sem, Nat.reduceLT, Nat.reduceAdd, Nat.reduceEqDiff, Nat.reduceSub, Nat.reduceMul, Nat.reduceBEq, reduceIte, reduceCtorEq, hc]
  clear K' hK
  simp only [go_sem, Nat.reduceLT, Nat.reduceAdd, Nat.reduceEqDiff, Nat.reduceSub, Nat.reduceMul, Nat.reduceBEq, reduceIte, reduceCtorEq, hc]
  refine cl_ret ?_
  simp only [go_sem, Nat.reduceLT, Nat.reduceAdd, Nat.reduceEqDiff, Nat.reduceSub, Nat.reduceMul, Nat.reduceBEq, reduceIte, reduceCtorEq]
  rfl
theorem s77 : PSound Tryz.prog 77 (pDp2 fun d a b => .bool (d.pa == a && d.no == b)) := by
  refine psoundB (rs := [.tmp 3]) Tryz.func77 Tryz.ntmps77 (by rfl) (by kernel_rfl) (by decide) (by rintro _ xs ⟨d, k, j, rfl⟩; rfl) ⟨_, rfl, ?_⟩
  rintro xs ⟨⟨pa, no, ki, lo, pe, dl, dh, kn, un⟩, k, j, rfl⟩ _
  refine ⟨Nat.le_of_ble_eq_true rfl, ?_⟩
  have hΓ := K20_sound
  have hP := mixedK
  repeat refine cl_seq ?_
  refine cl_rs hΓ [1,2] [[2, 0]] fun K' hK => ?_
  simp only [go_sem, Nat.reduceLT, Nat.reduceAdd, Nat.reduceEqDiff, Nat.reduceSub, Nat.reduceMul, Nat.reduceBEq, reduceIte, reduceCtorEq]
  repeat (refine ⟨by first | exact Bool.or_not_self _ | exact Bool.not_or_self _ | exact fun _ => by decide | exact fun h => ⟨h, by decide⟩ | omega | (simp only [decide_eq_true_eq]; omega) | exact xD | exact fun h => ⟨h, xD⟩ | exact xDD | exact fun h => ⟨h, xDD⟩ | exact ⟨_, rfl⟩ | exact fun h => ⟨h, _, rfl⟩ | exact ⟨_, _, rfl⟩ | exact fun h => ⟨h, _, _, rfl⟩ | exact fun h => ⟨h, _, _, _, rfl⟩ | exact ⟨_, _, _, _, rfl⟩ | exact fun h => ⟨h, _, _, _, _, rfl⟩ | exact ⟨[_, _], rfl⟩ | (simp; done) | (simp_all; done) | (simp_all; omega), ?_⟩)
  refine hK _ ?_ ?_
  · simp only [go_sem, Nat.reduceLT, Nat.reduceAdd, Nat.reduceEqDiff, Nat.reduceSub, Nat.reduceMul, Nat.reduceBEq, reduceIte, reduceCtorEq]
  clear K' hK
  simp only [go_sem, Nat.reduceLT, Nat.reduceAdd, Nat.reduceEqDiff, Nat.reduceSub, Nat.reduceMul, Nat.reduceBEq, reduceIte, reduceCtorEq]
  repeat refine cl_seq ?_
  refine cl_rs hΓ [3] [] fun K' hK => ?_
  simp only [go_sem, Nat.reduceLT, Nat.reduceAdd, Nat.reduceEqDiff, Nat.reduceSub, Nat.reduceMul, Nat.reduceBEq, reduceIte, reduceCtorEq]
  repeat (refine ⟨by first | exact Bool.or_not_self _ | exact Bool.not_or_self _ | exact fun _ => by decide | exact fun h => ⟨h, by decide⟩ | omega | (simp only [decide_eq_true_eq]; omega) | exact xD | exact fun h => ⟨h, xD⟩ | exact xDD | exact fun h => ⟨h, xDD⟩ | exact ⟨_, rfl⟩ | exact fun h => ⟨h, _, rfl⟩ | exact ⟨_, _, rfl⟩ | exact fun h => ⟨h, _, _, rfl⟩ | exact fun h => ⟨h, _, _, _, rfl⟩ | exact ⟨_, _, _, _, rfl⟩ | exact fun h => ⟨h, _, _, _, _, rfl⟩ | exact ⟨[_, _], rfl⟩ | (simp; done) | (simp_all; done) | (simp_all; omega), ?_⟩)
  refine hK _ ?_ ?_
  · simp only [go_sem, Nat.reduceLT, Nat.reduceAdd, Nat.reduceEqDiff, Nat.reduceSub, Nat.reduceMul, Nat.reduceBEq, reduceIte, reduceCtorEq]
  clear K' hK
  simp only [go_sem, Nat.reduceLT, Nat.reduceAdd, Nat.reduceEqDiff, Nat.reduceSub, Nat.reduceMul, Nat.reduceBEq, reduceIte, reduceCtorEq]
  refine cl_ret ?_
  simp only [go_sem, Nat.reduceLT, Nat.reduceAdd, Nat.reduceEqDiff, Nat.reduceSub, Nat.reduceMul, Nat.reduceBEq, reduceIte, reduceCtorEq]
  all_goals first | rfl | (simp; done) | (simp_all; done)
end Go.Eng
namespace Go.Eng
open Go Go.Proofs

/-! a closure at deeds, and the first one that it takes -/
def firstI (p : Deed → Bool) (l : List Deed) : Int := if l.findIdx p < l.length then (l.findIdx p : Int) else -1
@[go_sem] theorem ta104 : tAgg Tryz.prog 104 = some (false, 1) := by kernel_rfl
@[go_sem] theorem tz104 : tZero Tryz.prog 104 = some .nilFunc := by kernel_rfl
@[go_sem] theorem ta116 : tAgg Tryz.prog 116 = some (false, 1) := by kernel_rfl
@[go_sem] theorem te116 : tElem Tryz.prog 116 = some (35, 9, 72) := by kernel_rfl
@[go_sem] theorem tl116 : tLen Tryz.prog 116 = some 0 := by kernel_rfl
@[go_sem] theorem tz116 : tZero Tryz.prog 116 = some (.slice none 0 0) := by kernel_rfl
set_option maxRecDepth 10000 in
set_option maxHeartbeats 4000000 in
theorem w140 {Γ : FuncId → Option Spec} (hΓ : ∀ f s, Γ f = some s → SSound Tryz.prog f s) {g : FuncId} {sG : Spec} {caps : List V} {p : Deed → Bool} (hg : ¬ g = 1000000000) (hs : Γ g = some sG)
    (hp : ∀ (obj : Name → Option O) (t : Name) (d : Deed), sG.app obj t (.v (encD d) :: caps.map .v) = ⟨True, .v (.bool (p d)), obj⟩) (l : List Deed) (hl : l.length ≤ maxLen) :
    ∃ c, Tryz.f140.body = some c ∧ CL Tryz.prog [c] (mkS 19 [0] (fun _ => none) (argsL 0 [.sl (l.map encD), .clo (.func g) [] caps]) []) (retK Tryz.prog [.tmp 4] (vInt (firstI p l))) := by
  refine ⟨_, rfl, ?_⟩
  simp only [encD] at hp
  repeat refine cl_seq ?_
  refine cl_rs hΓ [0,1] [] fun K' hK => ?_
  simp only [go_sem, Nat.reduceLT, Nat.reduceAdd, Nat.reduceEqDiff, Nat.reduceSub, Nat.reduceMul, Nat.reduceBEq, reduceIte, reduceCtorEq]
  repeat (refine ⟨by first | exact Bool.or_not_self _ | exact Bool.not_or_self _ | exact fun _ => by decide | exact fun h => ⟨h, by decide⟩ | omega | (simp only [decide_eq_true_eq]; omega) | exact xD | exact fun h => ⟨h, xD⟩ | exact xDD | exact fun h => ⟨h, xDD⟩ | exact ⟨_, rfl⟩ | exact fun h => ⟨h, _, rfl⟩ | exact ⟨_, _, rfl⟩ | exact fun h => ⟨h, _, _, rfl⟩ | exact fun h => ⟨h, _, _, _, rfl⟩ | exact ⟨_, _, _, _, rfl⟩ | exact fun h => ⟨h, _, _, _, _, rfl⟩ | exact ⟨[_, _], rfl⟩ | (simp; done) | (simp_all; done) | (simp_all; omega), ?_⟩)
  refine hK _ ?_ ?_
  · simp only [go_sem, Nat.reduceLT, Nat.reduceAdd, Nat.reduceEqDiff, Nat.reduceSub, Nat.reduceMul, Nat.reduceBEq, reduceIte, reduceCtorEq]
  clear K' hK
  simp only [go_sem, Nat.reduceLT, Nat.reduceAdd, Nat.reduceEqDiff, Nat.reduceSub, Nat.reduceMul, Nat.reduceBEq, reduceIte, reduceCtorEq]
  repeat refine cl_seq ?_
  refine cl_rs hΓ [0,1,6,7,8] [] fun K' hK => ?_
  simp only [go_sem, Nat.reduceLT, Nat.reduceAdd, Nat.reduceEqDiff, Nat.reduceSub, Nat.reduceMul, Nat.reduceBEq, reduceIte, reduceCtorEq]
  repeat (refine ⟨by first | exact Bool.or_not_self _ | exact Bool.not_or_self _ | exact fun _ => by decide | exact fun h => ⟨h, by decide⟩ | omega | (simp only [decide_eq_true_eq]; omega) | exact xD | exact fun h => ⟨h, xD⟩ | exact xDD | exact fun h => ⟨h, xDD⟩ | exact ⟨_, rfl⟩ | exact fun h => ⟨h, _, rfl⟩ | exact ⟨_, _, rfl⟩ | exact fun h => ⟨h, _, _, rfl⟩ | exact fun h => ⟨h, _, _, _, rfl⟩ | exact ⟨_, _, _, _, rfl⟩ | exact fun h => ⟨h, _, _, _, _, rfl⟩ | exact ⟨[_, _], rfl⟩ | (simp; done) | (simp_all; done) | (simp_all; omega), ?_⟩)
  refine hK _ ?_ ?_
  · simp only [go_sem, Nat.reduceLT, Nat.reduceAdd, Nat.reduceEqDiff, Nat.reduceSub, Nat.reduceMul, Nat.reduceBEq, reduceIte, reduceCtorEq]
  clear K' hK
  simp only [go_sem, Nat.reduceLT, Nat.reduceAdd, Nat.reduceEqDiff, Nat.reduceSub, Nat.reduceMul, Nat.reduceBEq, reduceIte, reduceCtorEq]
  repeat refine cl_seq ?_
  refine cl_block ?_
  repeat refine cl_seq ?_
  refine cl_loop' (fun i : Nat => [(8, ⟨true, .v (vInt i)⟩)]) (fun i => []) (fun i => i ≤ l.length ∧ ∀ j (h : j < l.length), j < i → p l[j] = false) (fun i => l.length - i) 0 ?_ ?_ ?_ ?_
  · exact ⟨Nat.zero_le _, fun j h hj => by omega⟩
  · rfl
  · rfl
  rintro i ⟨hi, hz⟩
  simp only [go_sem, Nat.reduceLT, Nat.reduceAdd, Nat.reduceEqDiff, Nat.reduceSub, Nat.reduceMul, Nat.reduceBEq, reduceIte, reduceCtorEq]
  repeat refine cl_seq ?_
  repeat refine cl_seq ?_
  refine cl_rs hΓ [0,1,6,7,8,9] [] fun K' hK => ?_
  simp only [go_sem, Nat.reduceLT, Nat.reduceAdd, Nat.reduceEqDiff, Nat.reduceSub, Nat.reduceMul, Nat.reduceBEq, reduceIte, reduceCtorEq]
  repeat (refine ⟨by first | exact Bool.or_not_self _ | exact Bool.not_or_self _ | exact fun _ => by decide | exact fun h => ⟨h, by decide⟩ | omega | (simp only [decide_eq_true_eq]; omega) | exact xD | exact fun h => ⟨h, xD⟩ | exact xDD | exact fun h => ⟨h, xDD⟩ | exact ⟨_, rfl⟩ | exact fun h => ⟨h, _, rfl⟩ | exact ⟨_, _, rfl⟩ | exact fun h => ⟨h, _, _, rfl⟩ | exact fun h => ⟨h, _, _, _, rfl⟩ | exact ⟨_, _, _, _, rfl⟩ | exact fun h => ⟨h, _, _, _, _, rfl⟩ | exact ⟨[_, _], rfl⟩ | (simp; done) | (simp_all; done) | (simp_all; omega), ?_⟩)
  refine hK _ ?_ ?_
  · simp only [go_sem, Nat.reduceLT, Nat.reduceAdd, Nat.reduceEqDiff, Nat.reduceSub, Nat.reduceMul, Nat.reduceBEq, reduceIte, reduceCtorEq]
  clear K' hK
  simp only [go_sem, Nat.reduceLT, Nat.reduceAdd, Nat.reduceEqDiff, Nat.reduceSub, Nat.reduceMul, Nat.reduceBEq, reduceIte, reduceCtorEq]
  repeat refine cl_seq ?_
  refine cl_cond rfl rfl (fun hb => ?_) (fun hb => ?_)
  · have hlt : i < l.length := by simpa using hb
    have hlt' : (i : Int) < l.length := by omega
    clear hb
    repeat refine cl_seq ?_
    refine cl_skip ?_
    repeat refine cl_seq ?_
    refine cl_block ?_
    repeat refine cl_seq ?_
    repeat refine cl_seq ?_
    refine cl_rs hΓ [0,1,5,6,7,8] [] fun K' hK => ?_
    simp only [go_sem, Nat.reduceLT, Nat.reduceAdd, Nat.reduceEqDiff, Nat.reduceSub, Nat.reduceMul, Nat.reduceBEq, reduceIte, reduceCtorEq]
    repeat (refine ⟨by first | exact Bool.or_not_self _ | exact Bool.not_or_self _ | exact fun _ => by decide | exact fun h => ⟨h, by decide⟩ | omega | (simp only [decide_eq_true_eq]; omega) | exact xD | exact fun h => ⟨h, xD⟩ | exact xDD | exact fun h => ⟨h, xDD⟩ | exact ⟨_, rfl⟩ | exact fun h => ⟨h, _, rfl⟩ | exact ⟨_, _, rfl⟩ | exact fun h => ⟨h, _, _, rfl⟩ | exact fun h => ⟨h, _, _, _, rfl⟩ | exact ⟨_, _, _, _, rfl⟩ | exact fun h => ⟨h, _, _, _, _, rfl⟩ | exact ⟨[_, _], rfl⟩ | (simp; done) | (simp_all; done) | (simp_all; omega), ?_⟩)
    refine hK _ ?_ ?_
    · simp only [go_sem, Nat.reduceLT, Nat.reduceAdd, Nat.reduceEqDiff, Nat.reduceSub, Nat.reduceMul, Nat.reduceBEq, reduceIte, reduceCtorEq]
    clear K' hK
    simp only [go_sem, Nat.reduceLT, Nat.reduceAdd, Nat.reduceEqDiff, Nat.reduceSub, Nat.reduceMul, Nat.reduceBEq, reduceIte, reduceCtorEq]
    repeat refine cl_seq ?_
    refine cl_rs hΓ [0,1,5,6,7,8,16] [] fun K' hK => ?_
    simp only [go_sem, Nat.reduceLT, Nat.reduceAdd, Nat.reduceEqDiff, Nat.reduceSub, Nat.reduceMul, Nat.reduceBEq, reduceIte, reduceCtorEq, map_getD hlt, Int.toNat_natCast, Int.natCast_nonneg, hlt', hg, hs, hp]
    repeat (refine ⟨by first | exact Bool.or_not_self _ | exact Bool.not_or_self _ | exact fun _ => by decide | exact fun h => ⟨h, by decide⟩ | omega | (simp only [decide_eq_true_eq]; omega) | exact xD | exact fun h => ⟨h, xD⟩ | exact xDD | exact fun h => ⟨h, xDD⟩ | exact ⟨_, rfl⟩ | exact fun h => ⟨h, _, rfl⟩ | exact ⟨_, _, rfl⟩ | exact fun h => ⟨h, _, _, rfl⟩ | exact fun h => ⟨h, _, _, _, rfl⟩ | exact ⟨_, _, _, _, rfl⟩ | exact fun h => ⟨h, _, _, _, _, rfl⟩ | exact ⟨[_, _], rfl⟩ | (simp; done) | (simp_all; done) | (simp_all; omega), ?_⟩)
    refine hK _ ?_ ?_
    · simp only [go_sem, Nat.reduceLT, Nat.reduceAdd, Nat.reduceEqDiff, Nat.reduceSub, Nat.reduceMul, Nat.reduceBEq, reduceIte, reduceCtorEq, map_getD hlt, Int.toNat_natCast, Int.natCast_nonneg, hlt', hg, hs, hp]
    clear K' hK
    simp only [go_sem, Nat.reduceLT, Nat.reduceAdd, Nat.reduceEqDiff, Nat.reduceSub, Nat.reduceMul, Nat.reduceBEq, reduceIte, reduceCtorEq, map_getD hlt, Int.toNat_natCast, Int.natCast_nonneg, hlt', hg, hs, hp]
    repeat refine cl_seq ?_
    refine cl_cond rfl rfl (fun hb => ?_) (fun hb => ?_)
    · repeat refine cl_seq ?_
      repeat refine cl_seq ?_
      refine cl_rs hΓ [4] [] fun K' hK => ?_
      simp only [go_sem, Nat.reduceLT, Nat.reduceAdd, Nat.reduceEqDiff, Nat.reduceSub, Nat.reduceMul, Nat.reduceBEq, reduceIte, reduceCtorEq]
      repeat (refine ⟨by first | exact Bool.or_not_self _ | exact Bool.not_or_self _ | exact fun _ => by decide | exact fun h => ⟨h, by decide⟩ | omega | (simp only [decide_eq_true_eq]; omega) | exact xD | exact fun h => ⟨h, xD⟩ | exact xDD | exact fun h => ⟨h, xDD⟩ | exact ⟨_, rfl⟩ | exact fun h => ⟨h, _, rfl⟩ | exact ⟨_, _, rfl⟩ | exact fun h => ⟨h, _, _, rfl⟩ | exact fun h => ⟨h, _, _, _, rfl⟩ | exact ⟨_, _, _, _, rfl⟩ | exact fun h => ⟨h, _, _, _, _, rfl⟩ | exact ⟨[_, _], rfl⟩ | (simp; done) | (simp_all; done) | (simp_all; omega), ?_⟩)
      refine hK _ ?_ ?_
      · simp only [go_sem, Nat.reduceLT, Nat.reduceAdd, Nat.reduceEqDiff, Nat.reduceSub, Nat.reduceMul, Nat.reduceBEq, reduceIte, reduceCtorEq]
      clear K' hK
      simp only [go_sem, Nat.reduceLT, Nat.reduceAdd, Nat.reduceEqDiff, Nat.reduceSub, Nat.reduceMul, Nat.reduceBEq, reduceIte, reduceCtorEq]
      refine cl_ret ?_
      simp only [go_sem, Nat.reduceLT, Nat.reduceAdd, Nat.reduceEqDiff, Nat.reduceSub, Nat.reduceMul, Nat.reduceBEq, reduceIte, reduceCtorEq]
      have hf : l.findIdx p = i := by
        rw [List.findIdx_eq hlt]
        exact ⟨by simpa using hb, fun j hj => hz j (by omega) hj⟩
      unfold firstI
      rw [hf, if_pos hlt]
    · have hn : p l[i] = false := by simpa using hb
      clear hb
      repeat refine cl_seq ?_
      refine cl_skip ?_
      refine cl_nil ?_
      simp only [go_sem, Nat.reduceLT, Nat.reduceAdd, Nat.reduceEqDiff, Nat.reduceSub, Nat.reduceMul, Nat.reduceBEq, reduceIte, reduceCtorEq]
      refine cl_keep [0,1,6,7,8] [] ?_ ?_
      · simp only [go_sem, Nat.reduceLT, Nat.reduceAdd, Nat.reduceEqDiff, Nat.reduceSub, Nat.reduceMul, Nat.reduceBEq, reduceIte, reduceCtorEq]
      simp only [go_sem, Nat.reduceLT, Nat.reduceAdd, Nat.reduceEqDiff, Nat.reduceSub, Nat.reduceMul, Nat.reduceBEq, reduceIte, reduceCtorEq]
      repeat refine cl_seq ?_
      refine cl_r hΓ fun K' hK => ?_
      simp only [go_sem, Nat.reduceLT, Nat.reduceAdd, Nat.reduceEqDiff, Nat.reduceSub, Nat.reduceMul, Nat.reduceBEq, reduceIte, reduceCtorEq]
      repeat (refine ⟨by first | exact Bool.or_not_self _ | exact Bool.not_or_self _ | exact fun _ => by decide | exact fun h => ⟨h, by decide⟩ | omega | (simp only [decide_eq_true_eq]; omega) | exact xD | exact fun h => ⟨h, xD⟩ | exact xDD | exact fun h => ⟨h, xDD⟩ | exact ⟨_, rfl⟩ | exact fun h => ⟨h, _, rfl⟩ | exact ⟨_, _, rfl⟩ | exact fun h => ⟨h, _, _, rfl⟩ | exact fun h => ⟨h, _, _, _, rfl⟩ | exact ⟨_, _, _, _, rfl⟩ | exact fun h => ⟨h, _, _, _, _, rfl⟩ | exact ⟨[_, _], rfl⟩ | (simp; done) | (simp_all; done) | (simp_all; omega), ?_⟩)
      refine hK _ ?_
      clear K' hK
      simp only [go_sem, Nat.reduceLT, Nat.reduceAdd, Nat.reduceEqDiff, Nat.reduceSub, Nat.reduceMul, Nat.reduceBEq, reduceIte, reduceCtorEq]
      refine ⟨i + 1, ⟨by omega, fun j h hj => ?_⟩, by omega, ?_⟩
      · rcases Nat.lt_succ_iff_lt_or_eq.1 hj with h1 | h1
        · exact hz j h h1
        · subst h1; exact hn
      refine weak_eq [0,1,6,7,8] [] ?_ ?_
      · simp only [go_sem, Nat.reduceLT, Nat.reduceAdd, Nat.reduceEqDiff, Nat.reduceSub, Nat.reduceMul, Nat.reduceBEq, reduceIte, reduceCtorEq, wrap_succ hlt hl, Int.natCast_add, Int.natCast_one]
      · simp only [go_sem, Nat.reduceLT, Nat.reduceAdd, Nat.reduceEqDiff, Nat.reduceSub, Nat.reduceMul, Nat.reduceBEq, reduceIte, reduceCtorEq, wrap_succ hlt hl, Int.natCast_add, Int.natCast_one]
  · have hge : i = l.length := by
      have : ¬ (i : Int) < l.length := by simpa using hb
      omega
    subst hge
    repeat refine cl_seq ?_
    refine cl_exit ?_
    simp only [go_sem, Nat.reduceLT, Nat.reduceAdd, Nat.reduceEqDiff, Nat.reduceSub, Nat.reduceMul, Nat.reduceBEq, reduceIte, reduceCtorEq]
    refine cl_keep [] [] ?_ ?_
    · simp only [go_sem, Nat.reduceLT, Nat.reduceAdd, Nat.reduceEqDiff, Nat.reduceSub, Nat.reduceMul, Nat.reduceBEq, reduceIte, reduceCtorEq]
    simp only [go_sem, Nat.reduceLT, Nat.reduceAdd, Nat.reduceEqDiff, Nat.reduceSub, Nat.reduceMul, Nat.reduceBEq, reduceIte, reduceCtorEq]
    repeat refine cl_seq ?_
    refine cl_rs hΓ [4] [] fun K' hK => ?_
    simp only [go_sem, Nat.reduceLT, Nat.reduceAdd, Nat.reduceEqDiff, Nat.reduceSub, Nat.reduceMul, Nat.reduceBEq, reduceIte, reduceCtorEq]
    repeat (refine ⟨by first | exact Bool.or_not_self _ | exact Bool.not_or_self _ | exact fun _ => by decide | exact fun h => ⟨h, by decide⟩ | omega | (simp only [decide_eq_true_eq]; omega) | exact xD | exact fun h => ⟨h, xD⟩ | exact xDD | exact fun h => ⟨h, xDD⟩ | exact ⟨_, rfl⟩ | exact fun h => ⟨h, _, rfl⟩ | exact ⟨_, _, rfl⟩ | exact fun h => ⟨h, _, _, rfl⟩ | exact fun h => ⟨h, _, _, _, rfl⟩ | exact ⟨_, _, _, _, rfl⟩ | exact fun h => ⟨h, _, _, _, _, rfl⟩ | exact ⟨[_, _], rfl⟩ | (simp; done) | (simp_all; done) | (simp_all; omega), ?_⟩)
    refine hK _ ?_ ?_
    · simp only [go_sem, Nat.reduceLT, Nat.reduceAdd, Nat.reduceEqDiff, Nat.reduceSub, Nat.reduceMul, Nat.reduceBEq, reduceIte, reduceCtorEq]
    clear K' hK
    simp only [go_sem, Nat.reduceLT, Nat.reduceAdd, Nat.reduceEqDiff, Nat.reduceSub, Nat.reduceMul, Nat.reduceBEq, reduceIte, reduceCtorEq]
    refine cl_ret ?_
    simp only [go_sem, Nat.reduceLT, Nat.reduceAdd, Nat.reduceEqDiff, Nat.reduceSub, Nat.reduceMul, Nat.reduceBEq, reduceIte, reduceCtorEq]
    have hf : ¬ l.findIdx p < l.length := by
      rw [List.findIdx_lt_length]
      rintro ⟨x, hx, hpx⟩
      obtain ⟨j, hj, rfl⟩ := List.getElem_of_mem hx
      rw [hz j hj hj] at hpx; cases hpx
    unfold firstI
    rw [if_neg hf]
end Go.Eng
namespace Go.Eng
open Go Go.Proofs

theorem outC_outs {os : List O} (hc : ∀ o ∈ os, ∀ dom : Name → Bool, (∀ i, dom [i, 1] = true) → O.clos dom o = true) (hs : List (Name × O)) : OutC [0] (domOf [0] hs) (outH os) := by
  intro nm o hn h
  unfold outH at h
  split at h
  · rename_i i
    refine hc o (List.mem_of_getElem? h) _ fun i => ?_
    simp only [domOf, own_out01, Bool.not_false, Bool.true_or]
  · cases h
/-- A region with a row that is cut. -/
theorem cl_rsX {P : Program} {Γ : FuncId → Option Spec} (hΓ : ∀ f s, Γ f = some s → SSound P f s) {id : Nat} {l : List Oper} {c : Code} {r : List Code} {σ : S} {K : Exit → S → Prop} (ks : List Nat) (ns : List Name)
    (h : ∀ K' : S → Prop, (∀ σ', clS ks ns σ' → CL P (c :: r) (keepS ks ns σ') K → K' σ') → RegX P Γ l.toArray l σ K') : CL P (.region id l.toArray false :: c :: r) σ K :=
  cw_regionX hΓ (h _ fun σ' hc hy => cw_keep ks ns hc hy)
theorem regX_step {P : Program} {Γ : FuncId → Option Spec} {ops : Array Oper} {o : Oper} {r : List Oper} {σ : S} {K : S → Prop} (h1 : oblS P Γ ops σ o) (h2 : RegX P Γ ops r (stepS P Γ ops σ o) K) : RegX P Γ ops (o :: r) σ K := .step h1 h2

def zeroD : Deed := ⟨0, 0, 0, 0, 0, 0, 0, 0, 0⟩
theorem zV35 : ((tZero Tryz.prog 35).bind fun z => asV (ofVal z)) = some (encD zeroD) := by rw [tz35]; rfl
theorem arr22 : (#[22] : Array Nat).getD 0 0 = 22 := rfl
theorem cut_app {obj : Name → Option O} {nm : Name} {k i : Nat} {L : List V} (h : obj nm = some (.arr 9 L)) (hk : k = L.length) (hi : i < L.length) :
    aCut Tryz.prog obj 22 22 (.msl nm k) (.v (vInt i)) = ⟨True, .any, upd obj nm (some (.arr 9 (L.take i ++ List.replicate (L.length - i) (encD zeroD))))⟩ := by
  unfold aCut
  simp only [te22, h, zV35, Int.toNat_natCast]
  congr 1
  simp only [eq_iff_iff, iff_true]
  exact ⟨hk, by omega, hi, trivial, rfl, rfl, trivial, by decide⟩
/-- What is left of a row. -/
def keepD (p : Deed → Bool) (l : List Deed) : List Deed := l.filter fun d => !p d
def delZ (p : Deed → Bool) (l : List Deed) : List V := (keepD p l).map encD ++ List.replicate (l.length - (keepD p l).length) (encD zeroD)
set_option maxRecDepth 10000 in
set_option maxHeartbeats 8000000 in
theorem w75 {Γ : FuncId → Option Spec} (hΓ : ∀ f s, Γ f = some s → SSound Tryz.prog f s) {g : FuncId} {sG sI : Spec} {refs : List D} {p : Deed → Bool} (hg : ¬ g = 1000000000) (hs : Γ g = some sG) (hI : Γ 140 = some sI)
    {H : Name → Option O} {l : List Deed} (hl : l.length < 1000000) (hH0 : H [0, 1] = some (.arr 9 (l.map encD))) (hO1 : ∀ hs, OutC [0] (domOf [0] hs) H = True) (hO2 : ∀ hs sz L, OutC [0] (domOf [0] hs) (upd H [0, 1] (some (.arr sz L))) = True) (hO3 : ∀ hs sz L, OutC [0] (domOf [0] hs) (upd H [0, 1] (some (.farr sz L))) = True)
    (hcl : ∀ hs, D.closL (domOf [0] hs) refs = true)
    (hi : ∀ (obj : Name → Option O) (t : Name), obj [0, 1] = some (.arr 9 (l.map encD)) → (∀ i, obj [i + 1, 1] = H [i + 1, 1]) → sI.app obj t [.msl [0, 1] l.length, .clo (.func g) [] refs] = ⟨True, .v (vInt (firstI p l)), obj⟩)
    (hp : ∀ (obj : Name → Option O) (t : Name) (d : Deed), (∀ i, obj [i + 1, 1] = H [i + 1, 1]) → sG.app obj t (rdD d :: refs) = ⟨True, .v (.bool (p d)), obj⟩) :
    ∃ c, Tryz.f75.body = some c ∧ CL Tryz.prog [c] (mkS 42 [0] H [(0, ⟨true, .msl [0, 1] l.length⟩), (1, ⟨true, .clo (.func g) [] refs⟩)] []) (fun e σ => (e = .normal ∨ e = .ret) ∧ (σ.env 4).c = true ∧
      ((∀ d ∈ l, p d = false) ∧ (σ.env 4).d = .msl [0, 1] l.length ∧ σ.obj [0, 1] = some (.arr 9 (l.map encD)) ∧ (∀ i, σ.obj [i + 1, 1] = H [i + 1, 1]) ∨
        (¬ ∀ d ∈ l, p d = false) ∧ (σ.env 4).d = .v (.sl ((keepD p l).map encD)) ∧ σ.obj [0, 1] = some (.farr 9 (delZ p l)) ∧ (∀ i, σ.obj [i + 1, 1] = H [i + 1, 1]))) := by
  refine ⟨_, rfl, ?_⟩
  have hm : l.length ≤ maxLen := by unfold maxLen; omega
  unfold rdD at hp
  repeat refine cl_seq ?_
  refine cl_rs hΓ [0,1] [] fun K' hK => ?_
  simp only [go_sem, Nat.reduceLT, Nat.reduceAdd, Nat.reduceEqDiff, Nat.reduceSub, Nat.reduceMul, Nat.reduceBEq, reduceIte, reduceCtorEq, hO1, hcl]
  repeat (refine ⟨by first | exact Bool.or_not_self _ | exact Bool.not_or_self _ | exact fun _ => by decide | exact fun h => ⟨h, by decide⟩ | omega | (simp only [decide_eq_true_eq]; omega) | exact xD | exact fun h => ⟨h, xD⟩ | exact xDD | exact fun h => ⟨h, xDD⟩ | exact ⟨_, rfl⟩ | exact fun h => ⟨h, _, rfl⟩ | exact ⟨_, _, rfl⟩ | exact fun h => ⟨h, _, _, rfl⟩ | exact fun h => ⟨h, _, _, _, rfl⟩ | exact ⟨_, _, _, _, rfl⟩ | exact fun h => ⟨h, _, _, _, _, rfl⟩ | exact ⟨[_, _], rfl⟩ | (simp; done) | (simp_all; done) | (simp_all; omega), ?_⟩)
  refine hK _ ?_ ?_
  · simp only [go_sem, Nat.reduceLT, Nat.reduceAdd, Nat.reduceEqDiff, Nat.reduceSub, Nat.reduceMul, Nat.reduceBEq, reduceIte, reduceCtorEq, hO1, hcl]
  clear K' hK
  simp only [go_sem, Nat.reduceLT, Nat.reduceAdd, Nat.reduceEqDiff, Nat.reduceSub, Nat.reduceMul, Nat.reduceBEq, reduceIte, reduceCtorEq, hO1, hcl]
  repeat refine cl_seq ?_
  refine cl_rs hΓ [0,1,5] [] fun K' hK => ?_
  simp only [go_sem, Nat.reduceLT, Nat.reduceAdd, Nat.reduceEqDiff, Nat.reduceSub, Nat.reduceMul, Nat.reduceBEq, reduceIte, reduceCtorEq, hO1, hcl, hI, hi, hH0, implies_true]
  repeat (refine ⟨by first | exact Bool.or_not_self _ | exact Bool.not_or_self _ | exact fun _ => by decide | exact fun h => ⟨h, by decide⟩ | omega | (simp only [decide_eq_true_eq]; omega) | exact xD | exact fun h => ⟨h, xD⟩ | exact xDD | exact fun h => ⟨h, xDD⟩ | exact ⟨_, rfl⟩ | exact fun h => ⟨h, _, rfl⟩ | exact ⟨_, _, rfl⟩ | exact fun h => ⟨h, _, _, rfl⟩ | exact fun h => ⟨h, _, _, _, rfl⟩ | exact ⟨_, _, _, _, rfl⟩ | exact fun h => ⟨h, _, _, _, _, rfl⟩ | exact ⟨[_, _], rfl⟩ | (simp; done) | (simp_all; done) | (simp_all; omega), ?_⟩)
  refine hK _ ?_ ?_
  · simp only [go_sem, Nat.reduceLT, Nat.reduceAdd, Nat.reduceEqDiff, Nat.reduceSub, Nat.reduceMul, Nat.reduceBEq, reduceIte, reduceCtorEq, hO1, hcl, hI, hi, hH0, implies_true]
  clear K' hK
  simp only [go_sem, Nat.reduceLT, Nat.reduceAdd, Nat.reduceEqDiff, Nat.reduceSub, Nat.reduceMul, Nat.reduceBEq, reduceIte, reduceCtorEq, hO1, hcl, hI, hi, hH0, implies_true]
  repeat refine cl_seq ?_
  refine cl_rs hΓ [0,1,5,12] [] fun K' hK => ?_
  simp only [go_sem, Nat.reduceLT, Nat.reduceAdd, Nat.reduceEqDiff, Nat.reduceSub, Nat.reduceMul, Nat.reduceBEq, reduceIte, reduceCtorEq, hO1, hcl]
  repeat (refine ⟨by first | exact Bool.or_not_self _ | exact Bool.not_or_self _ | exact fun _ => by decide | exact fun h => ⟨h, by decide⟩ | omega | (simp only [decide_eq_true_eq]; omega) | exact xD | exact fun h => ⟨h, xD⟩ | exact xDD | exact fun h => ⟨h, xDD⟩ | exact ⟨_, rfl⟩ | exact fun h => ⟨h, _, rfl⟩ | exact ⟨_, _, rfl⟩ | exact fun h => ⟨h, _, _, rfl⟩ | exact fun h => ⟨h, _, _, _, rfl⟩ | exact ⟨_, _, _, _, rfl⟩ | exact fun h => ⟨h, _, _, _, _, rfl⟩ | exact ⟨[_, _], rfl⟩ | (simp; done) | (simp_all; done) | (simp_all; omega), ?_⟩)
  refine hK _ ?_ ?_
  · simp only [go_sem, Nat.reduceLT, Nat.reduceAdd, Nat.reduceEqDiff, Nat.reduceSub, Nat.reduceMul, Nat.reduceBEq, reduceIte, reduceCtorEq, hO1, hcl]
  clear K' hK
  simp only [go_sem, Nat.reduceLT, Nat.reduceAdd, Nat.reduceEqDiff, Nat.reduceSub, Nat.reduceMul, Nat.reduceBEq, reduceIte, reduceCtorEq, hO1, hcl]
  repeat refine cl_seq ?_
  refine cl_cond rfl rfl (fun hb => ?_) (fun hb => ?_)
  · repeat refine cl_seq ?_
    repeat refine cl_seq ?_
    refine cl_rs hΓ [4] [] fun K' hK => ?_
    simp only [go_sem, Nat.reduceLT, Nat.reduceAdd, Nat.reduceEqDiff, Nat.reduceSub, Nat.reduceMul, Nat.reduceBEq, reduceIte, reduceCtorEq, hO1]
    repeat (refine ⟨by first | exact Bool.or_not_self _ | exact Bool.not_or_self _ | exact fun _ => by decide | exact fun h => ⟨h, by decide⟩ | omega | (simp only [decide_eq_true_eq]; omega) | exact xD | exact fun h => ⟨h, xD⟩ | exact xDD | exact fun h => ⟨h, xDD⟩ | exact ⟨_, rfl⟩ | exact fun h => ⟨h, _, rfl⟩ | exact ⟨_, _, rfl⟩ | exact fun h => ⟨h, _, _, rfl⟩ | exact fun h => ⟨h, _, _, _, rfl⟩ | exact ⟨_, _, _, _, rfl⟩ | exact fun h => ⟨h, _, _, _, _, rfl⟩ | exact ⟨[_, _], rfl⟩ | (simp; done) | (simp_all; done) | (simp_all; omega), ?_⟩)
    refine hK _ ?_ ?_
    · simp only [go_sem, Nat.reduceLT, Nat.reduceAdd, Nat.reduceEqDiff, Nat.reduceSub, Nat.reduceMul, Nat.reduceBEq, reduceIte, reduceCtorEq, hO1]
    clear K' hK
    simp only [go_sem, Nat.reduceLT, Nat.reduceAdd, Nat.reduceEqDiff, Nat.reduceSub, Nat.reduceMul, Nat.reduceBEq, reduceIte, reduceCtorEq, hO1]
    refine cl_ret ?_
    simp only [go_sem, Nat.reduceLT, Nat.reduceAdd, Nat.reduceEqDiff, Nat.reduceSub, Nat.reduceMul, Nat.reduceBEq, reduceIte, reduceCtorEq, hH0]
    have hb' : firstI p l = -1 := by simpa using hb
    refine ⟨.inr trivial, ?_⟩
    refine .inl fun d hd => ?_
    unfold firstI at hb'
    split at hb'
    · omega
    · rename_i hn
      rw [List.findIdx_lt_length] at hn
      cases hpd : p d with
      | false => rfl
      | true => exact (hn ⟨d, hd, hpd⟩).elim
  have hf : l.findIdx p < l.length := by
    have hb' : ¬ firstI p l = -1 := by simpa using hb
    unfold firstI at hb'
    split at hb'
    · assumption
    · exact (hb' rfl).elim
  have hfi : firstI p l = (l.findIdx p : Int) := by unfold firstI; rw [if_pos hf]
  rw [hfi]
  clear hb hfi hi hI
  have hpf : p (l[l.findIdx p]) = true := List.findIdx_getElem (w := hf)
  have hnf : ∀ j (h : j < l.length), j < l.findIdx p → p l[j] = false := fun j h hj => by simpa using List.not_of_lt_findIdx hj
  generalize l.findIdx p = f at *
  repeat refine cl_seq ?_
  refine cl_skip ?_
  repeat refine cl_seq ?_
  refine cl_rs hΓ [0,1,5,6] [] fun K' hK => ?_
  simp only [go_sem, Nat.reduceLT, Nat.reduceAdd, Nat.reduceEqDiff, Nat.reduceSub, Nat.reduceMul, Nat.reduceBEq, reduceIte, reduceCtorEq, hO1, hcl, wrap_succ hf hm, Int.natCast_add, Int.natCast_one]
  repeat (refine ⟨by first | exact Bool.or_not_self _ | exact Bool.not_or_self _ | exact fun _ => by decide | exact fun h => ⟨h, by decide⟩ | omega | (simp only [decide_eq_true_eq]; omega) | exact xD | exact fun h => ⟨h, xD⟩ | exact xDD | exact fun h => ⟨h, xDD⟩ | exact ⟨_, rfl⟩ | exact fun h => ⟨h, _, rfl⟩ | exact ⟨_, _, rfl⟩ | exact fun h => ⟨h, _, _, rfl⟩ | exact fun h => ⟨h, _, _, _, rfl⟩ | exact ⟨_, _, _, _, rfl⟩ | exact fun h => ⟨h, _, _, _, _, rfl⟩ | exact ⟨[_, _], rfl⟩ | (simp; done) | (simp_all; done) | (simp_all; omega), ?_⟩)
  refine hK _ ?_ ?_
  · simp only [go_sem, Nat.reduceLT, Nat.reduceAdd, Nat.reduceEqDiff, Nat.reduceSub, Nat.reduceMul, Nat.reduceBEq, reduceIte, reduceCtorEq, hO1, hcl, wrap_succ hf hm, Int.natCast_add, Int.natCast_one]
  clear K' hK
  simp only [go_sem, Nat.reduceLT, Nat.reduceAdd, Nat.reduceEqDiff, Nat.reduceSub, Nat.reduceMul, Nat.reduceBEq, reduceIte, reduceCtorEq, hO1, hcl, wrap_succ hf hm, Int.natCast_add, Int.natCast_one]
  repeat refine cl_seq ?_
  refine cl_block ?_
  repeat refine cl_seq ?_
  refine cl_loopH (fun x : Nat × Nat × List Deed => upd H [0, 1] (some (.arr 9 (x.2.2.map encD)))) (fun x => [(5, ⟨true, .v (vInt x.1)⟩), (6, ⟨true, .v (vInt x.2.1)⟩)]) (fun x => []) (fun x => x.1 < x.2.1 ∧ x.2.1 ≤ l.length ∧ x.2.2.length = l.length ∧ x.2.2.take x.1 = keepD p (l.take x.2.1) ∧ x.2.2.drop x.2.1 = l.drop x.2.1) (fun x => l.length - x.2.1) (f, f + 1, l) ?_ ?_ ?_ ?_ ?_
  · refine ⟨(show f < f + 1 by omega), hf, rfl, ?_, rfl⟩
    show l.take f = keepD p (l.take (f + 1))
    unfold keepD
    rw [List.take_add_one, List.getElem?_eq_getElem hf, List.filter_append]
    simp only [Option.toList_some, List.filter_cons, hpf, Bool.not_true, Bool.false_eq_true, if_false, List.filter_nil, List.append_nil]
    rw [List.filter_eq_self.2]
    intro d hd
    obtain ⟨j, hj, rfl⟩ := List.getElem_of_mem hd
    have hj' : j < f := by simp at hj; omega
    rw [List.getElem_take, hnf j (by omega) hj']
    rfl
  · congr 1
    rw [← hH0]
    funext x
    by_cases e : x = [0, 1]
    · subst e; rw [upd_same]
    · rw [upd_ne _ _ _ e]
  · rfl
  · rfl
  clear hnf
  rintro ⟨i, j, A⟩ ⟨hij, hj, hA, hT, hD⟩
  simp only at hij hj hA hT hD
  dsimp only
  generalize hH' : upd H [0, 1] (some (O.arr 9 (List.map encD A))) = H'
  have h0 : H' [0, 1] = some (.arr 9 (A.map encD)) := by rw [← hH', upd_same]
  have hI' : ∀ i, H' [i + 1, 1] = H [i + 1, 1] := fun i => by rw [← hH', upd_ne _ _ _ (by simp)]
  have hO' : ∀ hs, OutC [0] (domOf [0] hs) H' = True := fun hs => by rw [← hH']; exact hO2 _ _ _
  have hO2' : ∀ hs sz L, OutC [0] (domOf [0] hs) (upd H' [0, 1] (some (.arr sz L))) = True := fun hs sz L => by rw [← hH', upd_upd]; exact hO2 _ _ _
  have hO3' : ∀ hs sz L, OutC [0] (domOf [0] hs) (upd H' [0, 1] (some (.farr sz L))) = True := fun hs sz L => by rw [← hH', upd_upd]; exact hO3 _ _ _
  simp only [go_sem, Nat.reduceLT, Nat.reduceAdd, Nat.reduceEqDiff, Nat.reduceSub, Nat.reduceMul, Nat.reduceBEq, reduceIte, reduceCtorEq]
  repeat refine cl_seq ?_
  repeat refine cl_seq ?_
  refine cl_rs hΓ [0,1,5,6,19] [] fun K' hK => ?_
  simp only [go_sem, Nat.reduceLT, Nat.reduceAdd, Nat.reduceEqDiff, Nat.reduceSub, Nat.reduceMul, Nat.reduceBEq, reduceIte, reduceCtorEq, hO', hO2', hcl, h0]
  repeat (refine ⟨by first | exact Bool.or_not_self _ | exact Bool.not_or_self _ | exact fun _ => by decide | exact fun h => ⟨h, by decide⟩ | omega | (simp only [decide_eq_true_eq]; omega) | exact xD | exact fun h => ⟨h, xD⟩ | exact xDD | exact fun h => ⟨h, xDD⟩ | exact ⟨_, rfl⟩ | exact fun h => ⟨h, _, rfl⟩ | exact ⟨_, _, rfl⟩ | exact fun h => ⟨h, _, _, rfl⟩ | exact fun h => ⟨h, _, _, _, rfl⟩ | exact ⟨_, _, _, _, rfl⟩ | exact fun h => ⟨h, _, _, _, _, rfl⟩ | exact ⟨[_, _], rfl⟩ | (simp; done) | (simp_all; done) | (simp_all; omega), ?_⟩)
  refine hK _ ?_ ?_
  · simp only [go_sem, Nat.reduceLT, Nat.reduceAdd, Nat.reduceEqDiff, Nat.reduceSub, Nat.reduceMul, Nat.reduceBEq, reduceIte, reduceCtorEq, hO', hO2', hcl, h0]
  clear K' hK
  simp only [go_sem, Nat.reduceLT, Nat.reduceAdd, Nat.reduceEqDiff, Nat.reduceSub, Nat.reduceMul, Nat.reduceBEq, reduceIte, reduceCtorEq, hO', hO2', hcl, h0]
  repeat refine cl_seq ?_
  refine cl_cond rfl rfl (fun hb => ?_) (fun hb => ?_)
  · have hlt : j < l.length := by simpa using hb
    have hjA : j < A.length := by omega
    have hiA : i < A.length := by omega
    have hiA' : (i : Int) < l.length := by omega
    have hlt' : (j : Int) < l.length := by omega
    have hAj : A[j] = l[j] := by
      have h1 : A[j] = (A.drop j)[0]'(by simp; omega) := by simp
      rw [h1]
      simp only [hD]
      simp
    clear hb
    repeat refine cl_seq ?_
    refine cl_skip ?_
    repeat refine cl_seq ?_
    refine cl_block ?_
    repeat refine cl_seq ?_
    repeat refine cl_seq ?_
    refine cl_rs hΓ [0,1,5,6,7] [[7, 0]] fun K' hK => ?_
    simp only [go_sem, Nat.reduceLT, Nat.reduceAdd, Nat.reduceEqDiff, Nat.reduceSub, Nat.reduceMul, Nat.reduceBEq, reduceIte, reduceCtorEq, hO', hO2', hcl, h0, map_getD hjA, Int.toNat_natCast, Int.natCast_nonneg, hlt', hA, hAj]
    repeat (refine ⟨by first | exact Bool.or_not_self _ | exact Bool.not_or_self _ | exact fun _ => by decide | exact fun h => ⟨h, by decide⟩ | omega | (simp only [decide_eq_true_eq]; omega) | exact xD | exact fun h => ⟨h, xD⟩ | exact xDD | exact fun h => ⟨h, xDD⟩ | exact ⟨_, rfl⟩ | exact fun h => ⟨h, _, rfl⟩ | exact ⟨_, _, rfl⟩ | exact fun h => ⟨h, _, _, rfl⟩ | exact fun h => ⟨h, _, _, _, rfl⟩ | exact ⟨_, _, _, _, rfl⟩ | exact fun h => ⟨h, _, _, _, _, rfl⟩ | exact ⟨[_, _], rfl⟩ | (simp; done) | (simp_all; done) | (simp_all; omega), ?_⟩)
    refine hK _ ?_ ?_
    · simp only [go_sem, Nat.reduceLT, Nat.reduceAdd, Nat.reduceEqDiff, Nat.reduceSub, Nat.reduceMul, Nat.reduceBEq, reduceIte, reduceCtorEq, hO', hO2', hcl, h0, map_getD hjA, Int.toNat_natCast, Int.natCast_nonneg, hlt', hA, hAj]
    clear K' hK
    simp only [go_sem, Nat.reduceLT, Nat.reduceAdd, Nat.reduceEqDiff, Nat.reduceSub, Nat.reduceMul, Nat.reduceBEq, reduceIte, reduceCtorEq, hO', hO2', hcl, h0, map_getD hjA, Int.toNat_natCast, Int.natCast_nonneg, hlt', hA, hAj]
    repeat refine cl_seq ?_
    refine cl_rs hΓ [0,1,5,6,7,29] [[7, 0]] fun K' hK => ?_
    simp only [go_sem, Nat.reduceLT, Nat.reduceAdd, Nat.reduceEqDiff, Nat.reduceSub, Nat.reduceMul, Nat.reduceBEq, reduceIte, reduceCtorEq, hO', hO2', hcl, h0, hg, hs, hp, hI', implies_true]
    repeat (refine ⟨by first | exact Bool.or_not_self _ | exact Bool.not_or_self _ | exact fun _ => by decide | exact fun h => ⟨h, by decide⟩ | omega | (simp only [decide_eq_true_eq]; omega) | exact xD | exact fun h => ⟨h, xD⟩ | exact xDD | exact fun h => ⟨h, xDD⟩ | exact ⟨_, rfl⟩ | exact fun h => ⟨h, _, rfl⟩ | exact ⟨_, _, rfl⟩ | exact fun h => ⟨h, _, _, rfl⟩ | exact fun h => ⟨h, _, _, _, rfl⟩ | exact ⟨_, _, _, _, rfl⟩ | exact fun h => ⟨h, _, _, _, _, rfl⟩ | exact ⟨[_, _], rfl⟩ | (simp; done) | (simp_all; done) | (simp_all; omega), ?_⟩)
    refine hK _ ?_ ?_
    · simp only [go_sem, Nat.reduceLT, Nat.reduceAdd, Nat.reduceEqDiff, Nat.reduceSub, Nat.reduceMul, Nat.reduceBEq, reduceIte, reduceCtorEq, hO', hO2', hcl, h0, hg, hs, hp, hI', implies_true]
    clear K' hK
    simp only [go_sem, Nat.reduceLT, Nat.reduceAdd, Nat.reduceEqDiff, Nat.reduceSub, Nat.reduceMul, Nat.reduceBEq, reduceIte, reduceCtorEq, hO', hO2', hcl, h0, hg, hs, hp, hI', implies_true]
    repeat refine cl_seq ?_
    refine cl_cond rfl rfl (fun hb => ?_) (fun hb => ?_)
    · have hpn : p l[j] = false := by simpa using hb
      clear hb
      repeat refine cl_seq ?_
      refine cl_rs hΓ [0,1,5,6] [] fun K' hK => ?_
      simp only [go_sem, Nat.reduceLT, Nat.reduceAdd, Nat.reduceEqDiff, Nat.reduceSub, Nat.reduceMul, Nat.reduceBEq, reduceIte, reduceCtorEq, hO', hO2', hcl, h0, Int.toNat_natCast, Int.natCast_nonneg, hiA', hA]
      repeat' apply And.intro
      all_goals first | rfl | omega | exact Int.le_refl _ | exact Bool.or_not_self _ | exact Bool.not_or_self _ | exact enc_okI _ | exact enc_ok _ | exact fun x hx => (enc_okI _ x hx).1 | exact fun x hx => (enc_ok _ x hx).1 | (simp only [List.length_take, List.length_append, List.length_map, List.length_drop, List.length_cons, List.length_nil]; done) | (simp only [List.length_take, List.length_append, List.length_map, List.length_drop, List.length_cons, List.length_nil]; omega) | (simp only [List.length_take, List.length_append, List.length_map, List.length_drop, List.length_cons, List.length_nil, maxLen]; omega) | (exact fun _ => by decide) | (exact fun h => ⟨h, by decide⟩) | (simp only [decide_eq_true_eq]; omega) | skip
      refine hK _ ?_ ?_
      · simp only [go_sem, Nat.reduceLT, Nat.reduceAdd, Nat.reduceEqDiff, Nat.reduceSub, Nat.reduceMul, Nat.reduceBEq, reduceIte, reduceCtorEq, hO', hO2', hcl]
      clear K' hK
      simp only [go_sem, Nat.reduceLT, Nat.reduceAdd, Nat.reduceEqDiff, Nat.reduceSub, Nat.reduceMul, Nat.reduceBEq, reduceIte, reduceCtorEq]
      generalize hH2 : upd H' [0, 1] (some (O.arr 9 ((List.map encD A).set i (V.agg [vInt l[j].pa, vInt l[j].no, vInt l[j].ki, vInt l[j].lo, vInt l[j].pe, vInt l[j].dl, vInt l[j].dh, vInt l[j].kn, vInt l[j].un])))) = H2
      have hOb : ∀ hs, OutC [0] (domOf [0] hs) H2 = True := fun hs => by rw [← hH2]; exact hO2' _ _ _
      repeat refine cl_seq ?_
      refine cl_r hΓ fun K' hK => ?_
      simp only [go_sem, Nat.reduceLT, Nat.reduceAdd, Nat.reduceEqDiff, Nat.reduceSub, Nat.reduceMul, Nat.reduceBEq, reduceIte, reduceCtorEq]
      repeat (refine ⟨by first | exact Bool.or_not_self _ | exact Bool.not_or_self _ | exact fun _ => by decide | exact fun h => ⟨h, by decide⟩ | omega | (simp only [decide_eq_true_eq]; omega) | exact xD | exact fun h => ⟨h, xD⟩ | exact xDD | exact fun h => ⟨h, xDD⟩ | exact ⟨_, rfl⟩ | exact fun h => ⟨h, _, rfl⟩ | exact ⟨_, _, rfl⟩ | exact fun h => ⟨h, _, _, rfl⟩ | exact fun h => ⟨h, _, _, _, rfl⟩ | exact ⟨_, _, _, _, rfl⟩ | exact fun h => ⟨h, _, _, _, _, rfl⟩ | exact ⟨[_, _], rfl⟩ | (simp; done) | (simp_all; done) | (simp_all; omega), ?_⟩)
      refine hK _ ?_
      clear K' hK
      simp only [go_sem, Nat.reduceLT, Nat.reduceAdd, Nat.reduceEqDiff, Nat.reduceSub, Nat.reduceMul, Nat.reduceBEq, reduceIte, reduceCtorEq]
      refine cl_keep [0,1,5,6] [] ?_ ?_
      · simp only [go_sem, Nat.reduceLT, Nat.reduceAdd, Nat.reduceEqDiff, Nat.reduceSub, Nat.reduceMul, Nat.reduceBEq, reduceIte, reduceCtorEq, hOb, hcl]
      simp only [go_sem, Nat.reduceLT, Nat.reduceAdd, Nat.reduceEqDiff, Nat.reduceSub, Nat.reduceMul, Nat.reduceBEq, reduceIte, reduceCtorEq, hOb, hcl]
      repeat refine cl_seq ?_
      refine cl_r hΓ fun K' hK => ?_
      simp only [go_sem, Nat.reduceLT, Nat.reduceAdd, Nat.reduceEqDiff, Nat.reduceSub, Nat.reduceMul, Nat.reduceBEq, reduceIte, reduceCtorEq]
      repeat (refine ⟨by first | exact Bool.or_not_self _ | exact Bool.not_or_self _ | exact fun _ => by decide | exact fun h => ⟨h, by decide⟩ | omega | (simp only [decide_eq_true_eq]; omega) | exact xD | exact fun h => ⟨h, xD⟩ | exact xDD | exact fun h => ⟨h, xDD⟩ | exact ⟨_, rfl⟩ | exact fun h => ⟨h, _, rfl⟩ | exact ⟨_, _, rfl⟩ | exact fun h => ⟨h, _, _, rfl⟩ | exact fun h => ⟨h, _, _, _, rfl⟩ | exact ⟨_, _, _, _, rfl⟩ | exact fun h => ⟨h, _, _, _, _, rfl⟩ | exact ⟨[_, _], rfl⟩ | (simp; done) | (simp_all; done) | (simp_all; omega), ?_⟩)
      refine hK _ ?_
      clear K' hK
      simp only [go_sem, Nat.reduceLT, Nat.reduceAdd, Nat.reduceEqDiff, Nat.reduceSub, Nat.reduceMul, Nat.reduceBEq, reduceIte, reduceCtorEq]
      refine ⟨(i + 1, j + 1, A.set i l[j]), ⟨(show i + 1 < j + 1 by omega), hlt, by simpa using hA, ?_, ?_⟩, (show l.length - (j + 1) < l.length - j by omega), ?_⟩
      · show (A.set i l[j]).take (i + 1) = keepD p (l.take (j + 1))
        unfold keepD at hT ⊢
        rw [List.take_add_one (l := l), List.getElem?_eq_getElem hlt, List.filter_append, ← hT]
        simp only [Option.toList_some, List.filter_cons, hpn, Bool.not_false, if_true, List.filter_nil]
        rw [List.take_add_one, List.take_set_of_le (Nat.le_refl i), List.getElem?_set_self hiA]
        rfl
      · show (A.set i l[j]).drop (j + 1) = l.drop (j + 1)
        rw [List.drop_set_of_lt (show i < j + 1 by omega)]
        have := congrArg (List.drop 1) hD
        simpa [List.drop_drop] using this
      · refine weak_eq [0,1,5,6] [] ?_ ?_
        · simp only [go_sem, Nat.reduceLT, Nat.reduceAdd, Nat.reduceEqDiff, Nat.reduceSub, Nat.reduceMul, Nat.reduceBEq, reduceIte, reduceCtorEq, hOb, hcl]
        · simp only [go_sem, Nat.reduceLT, Nat.reduceAdd, Nat.reduceEqDiff, Nat.reduceSub, Nat.reduceMul, Nat.reduceBEq, reduceIte, reduceCtorEq, wrap_succ hlt hm, wrap_succ (show i < l.length by omega) hm, Int.natCast_add, Int.natCast_one]
          rw [← hH2, ← hH', upd_upd, List.map_set]
          rfl
    · have hpy : p l[j] = true := by simpa using hb
      clear hb
      repeat refine cl_seq ?_
      refine cl_skip ?_
      refine cl_nil ?_
      simp only [go_sem, Nat.reduceLT, Nat.reduceAdd, Nat.reduceEqDiff, Nat.reduceSub, Nat.reduceMul, Nat.reduceBEq, reduceIte, reduceCtorEq]
      refine cl_keep [0,1,5,6] [] ?_ ?_
      · simp only [go_sem, Nat.reduceLT, Nat.reduceAdd, Nat.reduceEqDiff, Nat.reduceSub, Nat.reduceMul, Nat.reduceBEq, reduceIte, reduceCtorEq, hO', hcl]
      simp only [go_sem, Nat.reduceLT, Nat.reduceAdd, Nat.reduceEqDiff, Nat.reduceSub, Nat.reduceMul, Nat.reduceBEq, reduceIte, reduceCtorEq, hO', hcl]
      repeat refine cl_seq ?_
      refine cl_r hΓ fun K' hK => ?_
      simp only [go_sem, Nat.reduceLT, Nat.reduceAdd, Nat.reduceEqDiff, Nat.reduceSub, Nat.reduceMul, Nat.reduceBEq, reduceIte, reduceCtorEq]
      repeat (refine ⟨by first | exact Bool.or_not_self _ | exact Bool.not_or_self _ | exact fun _ => by decide | exact fun h => ⟨h, by decide⟩ | omega | (simp only [decide_eq_true_eq]; omega) | exact xD | exact fun h => ⟨h, xD⟩ | exact xDD | exact fun h => ⟨h, xDD⟩ | exact ⟨_, rfl⟩ | exact fun h => ⟨h, _, rfl⟩ | exact ⟨_, _, rfl⟩ | exact fun h => ⟨h, _, _, rfl⟩ | exact fun h => ⟨h, _, _, _, rfl⟩ | exact ⟨_, _, _, _, rfl⟩ | exact fun h => ⟨h, _, _, _, _, rfl⟩ | exact ⟨[_, _], rfl⟩ | (simp; done) | (simp_all; done) | (simp_all; omega), ?_⟩)
      refine hK _ ?_
      clear K' hK
      simp only [go_sem, Nat.reduceLT, Nat.reduceAdd, Nat.reduceEqDiff, Nat.reduceSub, Nat.reduceMul, Nat.reduceBEq, reduceIte, reduceCtorEq]
      refine ⟨(i, j + 1, A), ⟨(show i < j + 1 by omega), hlt, hA, ?_, ?_⟩, (show l.length - (j + 1) < l.length - j by omega), ?_⟩
      · show A.take i = keepD p (l.take (j + 1))
        unfold keepD at hT ⊢
        rw [List.take_add_one (l := l), List.getElem?_eq_getElem hlt, List.filter_append, ← hT]
        simp only [Option.toList_some, List.filter_cons, hpy, Bool.not_true, Bool.false_eq_true, if_false, List.filter_nil, List.append_nil]
      · show A.drop (j + 1) = l.drop (j + 1)
        have := congrArg (List.drop 1) hD
        simpa [List.drop_drop] using this
      · refine weak_eq [0,1,5,6] [] ?_ ?_
        · simp only [go_sem, Nat.reduceLT, Nat.reduceAdd, Nat.reduceEqDiff, Nat.reduceSub, Nat.reduceMul, Nat.reduceBEq, reduceIte, reduceCtorEq, hO', hcl]
        · simp only [go_sem, Nat.reduceLT, Nat.reduceAdd, Nat.reduceEqDiff, Nat.reduceSub, Nat.reduceMul, Nat.reduceBEq, reduceIte, reduceCtorEq, wrap_succ hlt hm, Int.natCast_add, Int.natCast_one]
          rw [← hH']
  · have hge : j = l.length := by
      have : ¬ (j : Int) < l.length := by simpa using hb
      omega
    subst hge
    clear hb
    rw [List.take_length] at hT
    have hiA : i < A.length := by omega
    repeat refine cl_seq ?_
    refine cl_exit ?_
    simp only [go_sem, Nat.reduceLT, Nat.reduceAdd, Nat.reduceEqDiff, Nat.reduceSub, Nat.reduceMul, Nat.reduceBEq, reduceIte, reduceCtorEq]
    refine cl_keep [0,5] [] ?_ ?_
    · simp only [go_sem, Nat.reduceLT, Nat.reduceAdd, Nat.reduceEqDiff, Nat.reduceSub, Nat.reduceMul, Nat.reduceBEq, reduceIte, reduceCtorEq, hO', hcl]
    simp only [go_sem, Nat.reduceLT, Nat.reduceAdd, Nat.reduceEqDiff, Nat.reduceSub, Nat.reduceMul, Nat.reduceBEq, reduceIte, reduceCtorEq, hO', hcl]
    repeat refine cl_seq ?_
    refine cl_rsX hΓ [0,5] [] fun K' hK => ?_
    refine regX_step ?_ (regX_step ?_ (.cut (T := 22) (x := .tmp 36) (lo := .tmp 37) (c := 38) rfl rfl ?_ ?_ ?_ ?_ (.nil ?_)))
    · simp only [go_sem, Nat.reduceLT, Nat.reduceAdd, Nat.reduceEqDiff, Nat.reduceSub, Nat.reduceMul, Nat.reduceBEq, reduceIte, reduceCtorEq]
    · simp only [go_sem, Nat.reduceLT, Nat.reduceAdd, Nat.reduceEqDiff, Nat.reduceSub, Nat.reduceMul, Nat.reduceBEq, reduceIte, reduceCtorEq]
    · simp only [go_sem, Nat.reduceLT, Nat.reduceAdd, Nat.reduceEqDiff, Nat.reduceSub, Nat.reduceMul, Nat.reduceBEq, reduceIte, reduceCtorEq]
    · simp only [go_sem, Nat.reduceLT, Nat.reduceAdd, Nat.reduceEqDiff, Nat.reduceSub, Nat.reduceMul, Nat.reduceBEq, reduceIte, reduceCtorEq]
    · simp only [go_sem, Nat.reduceLT, Nat.reduceAdd, Nat.reduceEqDiff, Nat.reduceSub, Nat.reduceMul, Nat.reduceBEq, reduceIte, reduceCtorEq]
    · have hcut := fun (obj : Name → Option O) (h : obj [0, 1] = _) => cut_app (obj := obj) (nm := [0, 1]) (k := l.length) (i := i) (L := A.map encD) h (by simpa using hA.symm) (by simpa using hiA)
      simp only [go_sem, Nat.reduceLT, Nat.reduceAdd, Nat.reduceEqDiff, Nat.reduceSub, Nat.reduceMul, Nat.reduceBEq, reduceIte, reduceCtorEq, clearT, arr22, hcut, h0]
    · refine hK _ ?_ ?_
      · simp only [go_sem, Nat.reduceLT, Nat.reduceAdd, Nat.reduceEqDiff, Nat.reduceSub, Nat.reduceMul, Nat.reduceBEq, reduceIte, reduceCtorEq, cutS, clearT, arr22, cut_app (obj := fun nm => if own [0] nm = true then none else H' nm) (nm := [0, 1]) (k := l.length) (i := i) (L := A.map encD) h0 (by simpa using hA.symm) (by simpa using hiA), hO2']
      clear K' hK
      simp only [go_sem, Nat.reduceLT, Nat.reduceAdd, Nat.reduceEqDiff, Nat.reduceSub, Nat.reduceMul, Nat.reduceBEq, reduceIte, reduceCtorEq, cutS, clearT, arr22, cut_app (obj := fun nm => if own [0] nm = true then none else H' nm) (nm := [0, 1]) (k := l.length) (i := i) (L := A.map encD) h0 (by simpa using hA.symm) (by simpa using hiA)]
      have hki : (keepD p l).length = i := by rw [← hT, List.length_take]; omega
      have hZe : (List.take i (List.map encD A) ++ List.replicate (A.length - i) (encD zeroD)) = delZ p l := by
        unfold delZ
        rw [hki, ← hT, List.map_take, hA]
      have hZ1 : (delZ p l).length = l.length := by unfold delZ; simp; omega
      have hZ2 : (delZ p l).take i = (keepD p l).map encD := by
        unfold delZ
        rw [List.take_append_of_le_length (by simp; omega), List.take_of_length_le (by simp; omega)]
      have hZ3 : ∀ x ∈ delZ p l, x.cells.length = 9 := by
        intro x hx
        rcases List.mem_append.1 hx with h | h
        · obtain ⟨y, _, rfl⟩ := List.mem_map.1 h; rfl
        · rw [(List.mem_replicate.1 h).2]; rfl
      simp only [encD] at hZe
      rw [hZe]
      clear hZe
      generalize delZ p l = Z at *
      simp only [V.cells] at hZ3
      generalize hH3 : upd H' [0, 1] (some (O.arr 9 Z)) = H3
      have h30 : H3 [0, 1] = some (.arr 9 Z) := by rw [← hH3, upd_same]
      have hI3 : ∀ i, H3 [i + 1, 1] = H [i + 1, 1] := fun i => by rw [← hH3, upd_ne _ _ _ (by simp)]; exact hI' i
      have hO3c : ∀ hs sz L, OutC [0] (domOf [0] hs) (upd H3 [0, 1] (some (.farr sz L))) = True := fun hs sz L => by rw [← hH3, upd_upd]; exact hO3' _ _ _
      have hiZ : (i : Int) ≤ l.length := by omega
      repeat refine cl_seq ?_
      refine cl_rs hΓ [4] [] fun K' hK => ?_
      simp only [go_sem, Nat.reduceLT, Nat.reduceAdd, Nat.reduceEqDiff, Nat.reduceSub, Nat.reduceMul, Nat.reduceBEq, reduceIte, reduceCtorEq, h30, te22, Int.toNat_natCast, Int.natCast_nonneg, hiZ]
      repeat' apply And.intro
      all_goals first | rfl | omega | exact Int.le_refl _ | exact Bool.or_not_self _ | exact Bool.not_or_self _ | exact enc_okI _ | exact enc_ok _ | exact fun x hx => (enc_okI _ x hx).1 | exact fun x hx => (enc_ok _ x hx).1 | (simp only [List.length_take, List.length_append, List.length_map, List.length_drop, List.length_cons, List.length_nil]; done) | (simp only [List.length_take, List.length_append, List.length_map, List.length_drop, List.length_cons, List.length_nil]; omega) | (simp only [List.length_take, List.length_append, List.length_map, List.length_drop, List.length_cons, List.length_nil, maxLen]; omega) | (exact fun _ => by decide) | (exact fun h => ⟨h, by decide⟩) | (simp only [decide_eq_true_eq]; omega) | skip
      refine hK _ ?_ ?_
      · simp only [go_sem, Nat.reduceLT, Nat.reduceAdd, Nat.reduceEqDiff, Nat.reduceSub, Nat.reduceMul, Nat.reduceBEq, reduceIte, reduceCtorEq, hO3c]
      clear K' hK
      simp only [go_sem, Nat.reduceLT, Nat.reduceAdd, Nat.reduceEqDiff, Nat.reduceSub, Nat.reduceMul, Nat.reduceBEq, reduceIte, reduceCtorEq]
      refine cl_ret ?_
      simp only [go_sem, Nat.reduceLT, Nat.reduceAdd, Nat.reduceEqDiff, Nat.reduceSub, Nat.reduceMul, Nat.reduceBEq, reduceIte, reduceCtorEq, hZ2]
      refine ⟨.inr trivial, .inr ⟨fun h => ?_, fun i => ?_⟩⟩
      · rw [h _ (List.getElem_mem hf)] at hpf; cases hpf
      · exact hI3 i
end Go.Eng
namespace Go.Eng
open Go Go.Proofs

/-! the closures that rows of deeds are cut by -/
def pV (g : FuncId) (caps : List V) : Deed → Bool := match g, caps with
  | 141, [.ptr [.int _ k]] => fun d => !countsB d.kn d.un k
  | 143, [.ptr [.int _ lo], .ptr [.int _ pe]] => fun d => !isOfB d lo pe
  | 77, [.ptr [.int _ a, .int _ b]] => fun d => d.pa == a && d.no == b
  | _, _ => fun _ => false
def famV (g : FuncId) (caps : List V) : Prop :=
  (g = 141 ∧ ∃ k, caps = [.ptr [vInt k]]) ∨ (g = 143 ∧ ∃ k j, caps = [.ptr [vInt k], .ptr [vInt j]]) ∨ (g = 77 ∧ ∃ k j, caps = [.ptr [vInt k, vInt j]])
def pIdx : PSpec := ⟨fun xs => ∃ (l : List Deed) (g : FuncId) (caps : List V), xs = [.sl (l.map encD), .clo (.func g) [] caps] ∧ famV g caps, fun xs => match xs with | [.sl l, .clo (.func g) _ caps] => vInt (firstI (pV g caps) (l.map decD)) | _ => .bool false, true⟩
def sDp (g : Deed → Int → V) : Spec := (pDp g).toSpec
def sDpp (g : Deed → Int → Int → V) : Spec := (pDpp g).toSpec
def sDp2 (g : Deed → Int → Int → V) : Spec := (pDp2 g).toSpec
def K21 : FuncId → Option Spec := fun f => match f with
  | 141 => some (sDp fun d k => .bool (!countsB d.kn d.un k))
  | 143 => some (sDpp fun d k j => .bool (!isOfB d k j))
  | 77 => some (sDp2 fun d a b => .bool (d.pa == a && d.no == b))
  | _ => none
theorem K21_sound : ∀ f s, K21 f = some s → SSound Tryz.prog f s := by
  intro f s h
  unfold K21 at h
  split at h
  · cases h; exact s141.sound
  · cases h; exact s143.sound
  · cases h; exact s77.sound
  · cases h
theorem frzV {obj : Name → Option O} {n : Nat} {x : V} : frz (n + 1) obj (.v x) = ⟨True, x, obj⟩ := rfl
theorem s140 : PSound Tryz.prog 140 pIdx := by
  refine psoundB (rs := [.tmp 4]) Tryz.func140 Tryz.ntmps140 (by rfl) (by kernel_rfl) (by decide) (by rintro _ xs ⟨l, g, caps, rfl, _⟩; rfl) ?_
  obtain ⟨c, hc, _⟩ := w140 K21_sound (g := 141) (caps := [.ptr [vInt 0]]) (p := fun d => !countsB d.kn d.un 0) (by decide) (show K21 141 = some _ from rfl) (fun obj t d => by
    simp only [sDp, PSpec.toSpec, pDp, frzL, frzV, List.map_cons, List.map_nil, decD_enc]
    congr 1
    simp only [eq_iff_iff, iff_true]
    exact ⟨⟨trivial, trivial, trivial⟩, d, 0, rfl⟩) [] (by simp)
  refine ⟨c, hc, ?_⟩
  rintro xs ⟨l, g, caps, rfl, hf⟩ hw
  have hl : l.length ≤ maxLen := by have := hw.1.1; simpa using this
  refine ⟨Nat.le_of_ble_eq_true rfl, ?_⟩
  have key : ∃ c', Tryz.f140.body = some c' ∧ CL Tryz.prog [c'] (mkS 19 [0] (fun _ => none) (argsL 0 [.sl (l.map encD), .clo (.func g) [] caps]) []) (retK Tryz.prog [.tmp 4] (vInt (firstI (pV g caps) l))) := by
    rcases hf with ⟨rfl, k, rfl⟩ | ⟨rfl, k, j, rfl⟩ | ⟨rfl, k, j, rfl⟩
    · refine w140 K21_sound (by decide) (show K21 141 = some _ from rfl) (fun obj t d => ?_) l hl
      simp only [sDp, PSpec.toSpec, pDp, frzL, frzV, List.map_cons, List.map_nil, decD_enc, pV]
      congr 1
      simp only [eq_iff_iff, iff_true]
      exact ⟨⟨trivial, trivial, trivial⟩, d, k, rfl⟩
    · refine w140 K21_sound (by decide) (show K21 143 = some _ from rfl) (fun obj t d => ?_) l hl
      simp only [sDpp, PSpec.toSpec, pDpp, frzL, frzV, List.map_cons, List.map_nil, decD_enc, pV]
      congr 1
      simp only [eq_iff_iff, iff_true]
      exact ⟨⟨trivial, trivial, trivial, trivial⟩, d, k, j, rfl⟩
    · refine w140 K21_sound (by decide) (show K21 77 = some _ from rfl) (fun obj t d => ?_) l hl
      simp only [sDp2, PSpec.toSpec, pDp2, frzL, frzV, List.map_cons, List.map_nil, decD_enc, pV]
      congr 1
      simp only [eq_iff_iff, iff_true]
      exact ⟨⟨trivial, trivial, trivial⟩, d, k, j, rfl⟩
  obtain ⟨c', hc', h⟩ := key
  rw [hc] at hc'
  cases hc'
  simp only [pIdx, decD_map]
  exact h
def sIdx : Spec := pIdx.toSpec
def K22 : FuncId → Option Spec := fun f => match f with
  | 140 => some sIdx
  | f => K21 f
theorem K22_sound : ∀ f s, K22 f = some s → SSound Tryz.prog f s := by
  intro f s h
  unfold K22 at h
  split at h
  · cases h; exact s140.sound
  · exact K21_sound _ _ h
theorem frzB1 {obj : Name → Option O} {n : Nat} {b : Name} {k : Int} (h : obj b = some (.box [.v (vInt k)])) : frz (n + 2) obj (.ref b 0) = ⟨True, .ptr [vInt k], upd obj b (some (.fbox [vInt k]))⟩ := by
  simp only [frz, h, frzL]
  simp
theorem frzB2 {obj : Name → Option O} {n : Nat} {b : Name} {k j : Int} (h : obj b = some (.box [.v (vInt k), .v (vInt j)])) : frz (n + 2) obj (.ref b 0) = ⟨True, .ptr [vInt k, vInt j], upd obj b (some (.fbox [vInt k, vInt j]))⟩ := by
  simp only [frz, h, frzL]
  simp
theorem frzM {obj : Name → Option O} {n sz k : Nat} {nm : Name} {L : List V} (h : obj nm = some (.arr sz L)) (hk : k = L.length) : frz (n + 1) obj (.msl nm k) = ⟨True, .sl L, upd obj nm (some (.farr sz L))⟩ := by
  simp only [frz, h, hk]
theorem frzC {obj : Name → Option O} {n : Nat} {fn : Fn} {c : List D} : frz (n + 1) obj (.clo fn [] c) = ⟨True ∧ (frzL (frz n) obj c).ok, .clo fn [] (frzL (frz n) obj c).xs, (frzL (frz n) obj c).obj⟩ := rfl
/-- The first one's place, asked with a closure that has boxes. -/
theorem sIdx_1 {obj : Name → Option O} {t nm b : Name} {n : Nat} {l : List Deed} {k : Int} (hb : b ≠ nm) (ho : obj nm = some (.arr 9 (l.map encD))) (hn : n = l.length) (h : obj b = some (.box [.v (vInt k)])) :
    sIdx.app obj t [.msl nm n, .clo (.func 141) [] [.ref b 0]] = ⟨True, .v (vInt (firstI (fun d => !countsB d.kn d.un k) l)), obj⟩ := by
  have e : ∃ o', frzL (frz 6) obj [.msl nm n, .clo (.func 141) [] [.ref b 0]] = ⟨True, [.sl (l.map encD), .clo (.func 141) [] [.ptr [vInt k]]], o'⟩ := by
    have h' : (upd obj nm (some (.farr 9 (l.map encD)))) b = some (.box [.v (vInt k)]) := by rw [upd_ne _ _ _ hb]; exact h
    simp only [frzL, frzM ho (show n = (l.map encD).length by simpa using hn), frzC, frzB1 h', and_self]
    exact ⟨_, rfl⟩
  obtain ⟨o', e⟩ := e
  simp only [sIdx, PSpec.toSpec, e, pIdx, decD_map, pV, if_true]
  congr 1
  simp only [eq_iff_iff, iff_true]
  exact ⟨trivial, l, 141, _, rfl, .inl ⟨rfl, k, rfl⟩⟩
theorem sIdx_2 {obj : Name → Option O} {t nm b b' : Name} {n : Nat} {l : List Deed} {k j : Int} (hb : b ≠ nm) (hb' : b' ≠ nm) (hbb : b' ≠ b) (ho : obj nm = some (.arr 9 (l.map encD))) (hn : n = l.length) (h : obj b = some (.box [.v (vInt k)])) (h2 : obj b' = some (.box [.v (vInt j)])) :
    sIdx.app obj t [.msl nm n, .clo (.func 143) [] [.ref b 0, .ref b' 0]] = ⟨True, .v (vInt (firstI (fun d => !isOfB d k j) l)), obj⟩ := by
  have e : ∃ o', frzL (frz 6) obj [.msl nm n, .clo (.func 143) [] [.ref b 0, .ref b' 0]] = ⟨True, [.sl (l.map encD), .clo (.func 143) [] [.ptr [vInt k], .ptr [vInt j]]], o'⟩ := by
    have h' : (upd obj nm (some (.farr 9 (l.map encD)))) b = some (.box [.v (vInt k)]) := by rw [upd_ne _ _ _ hb]; exact h
    have h'' : upd (upd obj nm (some (.farr 9 (l.map encD)))) b (some (.fbox [vInt k])) b' = some (.box [.v (vInt j)]) := by rw [upd_ne _ _ _ hbb, upd_ne _ _ _ hb']; exact h2
    simp only [frzL, frzM ho (show n = (l.map encD).length by simpa using hn), frzC, frzB1 h', frzB1 h'', and_self]
    exact ⟨_, rfl⟩
  obtain ⟨o', e⟩ := e
  simp only [sIdx, PSpec.toSpec, e, pIdx, decD_map, pV, if_true]
  congr 1
  simp only [eq_iff_iff, iff_true]
  exact ⟨trivial, l, 143, _, rfl, .inr (.inl ⟨rfl, k, j, rfl⟩)⟩
theorem sIdx_3 {obj : Name → Option O} {t nm b : Name} {n : Nat} {l : List Deed} {k j : Int} (hb : b ≠ nm) (ho : obj nm = some (.arr 9 (l.map encD))) (hn : n = l.length) (h : obj b = some (.box [.v (vInt k), .v (vInt j)])) :
    sIdx.app obj t [.msl nm n, .clo (.func 77) [] [.ref b 0]] = ⟨True, .v (vInt (firstI (fun d => d.pa == k && d.no == j) l)), obj⟩ := by
  have e : ∃ o', frzL (frz 6) obj [.msl nm n, .clo (.func 77) [] [.ref b 0]] = ⟨True, [.sl (l.map encD), .clo (.func 77) [] [.ptr [vInt k, vInt j]]], o'⟩ := by
    have h' : (upd obj nm (some (.farr 9 (l.map encD)))) b = some (.box [.v (vInt k), .v (vInt j)]) := by rw [upd_ne _ _ _ hb]; exact h
    simp only [frzL, frzM ho (show n = (l.map encD).length by simpa using hn), frzC, frzB2 h', and_self]
    exact ⟨_, rfl⟩
  obtain ⟨o', e⟩ := e
  simp only [sIdx, PSpec.toSpec, e, pIdx, decD_map, pV, if_true]
  congr 1
  simp only [eq_iff_iff, iff_true]
  exact ⟨trivial, l, 77, _, rfl, .inr (.inr ⟨rfl, k, j, rfl⟩)⟩
theorem sDp_1 {g : Deed → Int → V} {obj : Name → Option O} {t b : Name} {d : Deed} {k : Int} (h : obj b = some (.box [.v (vInt k)])) : (sDp g).app obj t [rdD d, .ref b 0] = ⟨True, .v (g d k), obj⟩ := by
  simp only [sDp, PSpec.toSpec, frzL, frzD, frzB1 h, pDp, decD_enc, if_true]
  congr 1
  simp only [eq_iff_iff, iff_true]
  exact ⟨⟨trivial, trivial, trivial⟩, d, k, rfl⟩
theorem sDpp_1 {g : Deed → Int → Int → V} {obj : Name → Option O} {t b b' : Name} {d : Deed} {k j : Int} (hbb : b' ≠ b) (h : obj b = some (.box [.v (vInt k)])) (h2 : obj b' = some (.box [.v (vInt j)])) : (sDpp g).app obj t [rdD d, .ref b 0, .ref b' 0] = ⟨True, .v (g d k j), obj⟩ := by
  have h3 : upd obj b (some (.fbox [vInt k])) b' = some (.box [.v (vInt j)]) := by rw [upd_ne _ _ _ hbb]; exact h2
  simp only [sDpp, PSpec.toSpec, frzL, frzD, frzB1 h, frzB1 h3, pDpp, decD_enc, if_true]
  congr 1
  simp only [eq_iff_iff, iff_true]
  exact ⟨⟨trivial, trivial, trivial, trivial⟩, d, k, j, rfl⟩
theorem sDp2_1 {g : Deed → Int → Int → V} {obj : Name → Option O} {t b : Name} {d : Deed} {k j : Int} (h : obj b = some (.box [.v (vInt k), .v (vInt j)])) : (sDp2 g).app obj t [rdD d, .ref b 0] = ⟨True, .v (g d k j), obj⟩ := by
  simp only [sDp2, PSpec.toSpec, frzL, frzD, frzB2 h, pDp2, decD_enc, if_true]
  congr 1
  simp only [eq_iff_iff, iff_true]
  exact ⟨⟨trivial, trivial, trivial⟩, d, k, j, rfl⟩
theorem sIdx_n1 {obj : Name → Option O} {t b : Name} {k : Int} (h : obj b = some (.box [.v (vInt k)])) : sIdx.app obj t [.nilsl, .clo (.func 141) [] [.ref b 0]] = ⟨True, .v (vInt (-1)), obj⟩ := by
  have e : ∃ o', frzL (frz 6) obj [.nilsl, .clo (.func 141) [] [.ref b 0]] = ⟨True, [.sl (([] : List Deed).map encD), .clo (.func 141) [] [.ptr [vInt k]]], o'⟩ := by
    have h0 : frz 6 obj .nilsl = ⟨True, .sl [], obj⟩ := rfl
    simp only [frzL, h0, frzC, frzB1 h, and_self]
    exact ⟨_, rfl⟩
  obtain ⟨o', e⟩ := e
  simp only [sIdx, PSpec.toSpec, e, pIdx, decD_map, pV, if_true]
  congr 1
  simp only [eq_iff_iff, iff_true]
  exact ⟨trivial, [], 141, _, rfl, .inl ⟨rfl, k, rfl⟩⟩
theorem sIdx_n2 {obj : Name → Option O} {t b b' : Name} {k j : Int} (hbb : b' ≠ b) (h : obj b = some (.box [.v (vInt k)])) (h2 : obj b' = some (.box [.v (vInt j)])) : sIdx.app obj t [.nilsl, .clo (.func 143) [] [.ref b 0, .ref b' 0]] = ⟨True, .v (vInt (-1)), obj⟩ := by
  have e : ∃ o', frzL (frz 6) obj [.nilsl, .clo (.func 143) [] [.ref b 0, .ref b' 0]] = ⟨True, [.sl (([] : List Deed).map encD), .clo (.func 143) [] [.ptr [vInt k], .ptr [vInt j]]], o'⟩ := by
    have h0 : frz 6 obj .nilsl = ⟨True, .sl [], obj⟩ := rfl
    have h3 : upd obj b (some (.fbox [vInt k])) b' = some (.box [.v (vInt j)]) := by rw [upd_ne _ _ _ hbb]; exact h2
    simp only [frzL, h0, frzC, frzB1 h, frzB1 h3, and_self]
    exact ⟨_, rfl⟩
  obtain ⟨o', e⟩ := e
  simp only [sIdx, PSpec.toSpec, e, pIdx, decD_map, pV, if_true]
  congr 1
  simp only [eq_iff_iff, iff_true]
  exact ⟨trivial, [], 143, _, rfl, .inr (.inl ⟨rfl, k, j, rfl⟩)⟩
theorem sIdx_n3 {obj : Name → Option O} {t b : Name} {k j : Int} (h : obj b = some (.box [.v (vInt k), .v (vInt j)])) : sIdx.app obj t [.nilsl, .clo (.func 77) [] [.ref b 0]] = ⟨True, .v (vInt (-1)), obj⟩ := by
  have e : ∃ o', frzL (frz 6) obj [.nilsl, .clo (.func 77) [] [.ref b 0]] = ⟨True, [.sl (([] : List Deed).map encD), .clo (.func 77) [] [.ptr [vInt k, vInt j]]], o'⟩ := by
    have h0 : frz 6 obj .nilsl = ⟨True, .sl [], obj⟩ := rfl
    simp only [frzL, h0, frzC, frzB2 h, and_self]
    exact ⟨_, rfl⟩
  obtain ⟨o', e⟩ := e
  simp only [sIdx, PSpec.toSpec, e, pIdx, decD_map, pV, if_true]
  congr 1
  simp only [eq_iff_iff, iff_true]
  exact ⟨trivial, [], 77, _, rfl, .inr (.inr ⟨rfl, k, j, rfl⟩)⟩
end Go.Eng
