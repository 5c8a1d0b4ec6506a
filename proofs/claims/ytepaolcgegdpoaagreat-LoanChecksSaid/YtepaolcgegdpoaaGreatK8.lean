import Derived.Test.YtepaolcgegdpoaaGreatK7
/- Texts LW10 to LB. -/
set_option linter.all false
namespace Go.Eng
open Go Go.Proofs
/-! equal lists and ledgers -/
theorem eqV3 (d : Nat) (a b : Int) : eqV Tryz.prog (d + 1) 3 (vInt a) (vInt b) = some (a == b) := by
  simp only [eqV, Tryz.underlying3, if_true]
theorem held46 : Tryz.prog.stoodInHeld 46 = false := by kernel_rfl
theorem guard46 : Tryz.prog.eqGuardType Tryz.prog.depth 46 = false := by kernel_rfl
theorem eqV46 (d : Nat) (a b a' b' : Int) : eqV Tryz.prog (d + 2) 46 (.agg [vInt a, vInt b]) (.agg [vInt a', vInt b']) = some (a == a' && b == b') := by
  unfold eqV
  simp only [Tryz.underlying46, held46, Bool.false_eq_true, if_false, eqFs, partV, ta3, List.getElem?_cons_zero, List.getElem?_cons_succ, eqV3]
  cases a == a' <;> cases b == b' <;> rfl
@[go_sem] theorem aEqS46 (obj : Name → Option O) (op : BinOp) (a b a' b' : Int) : aEqS Tryz.prog obj op 46 (.agg [vInt a, vInt b]) (.agg [vInt a', vInt b']) =
    ⟨op = .eql ∨ op = .neq, .v (.bool (if op = .eql then (a == a' && b == b') else !(a == a' && b == b'))), obj⟩ := by
  unfold aEqS
  rw [show Op.maxDepth = 9998 + 2 from rfl, eqV46]
  simp only [guard46, true_and]

theorem held56 : Tryz.prog.stoodInHeld 56 = false := by kernel_rfl
theorem guard56 : Tryz.prog.eqGuardType Tryz.prog.depth 56 = false := by kernel_rfl
theorem eqV56 (d : Nat) (a b a' b' : Int) : eqV Tryz.prog (d + 2) 56 (.agg [vInt a, vInt b]) (.agg [vInt a', vInt b']) = some (a == a' && b == b') := by
  unfold eqV
  simp only [Tryz.underlying56, held56, Bool.false_eq_true, if_false, eqFs, partV, ta3, List.getElem?_cons_zero, List.getElem?_cons_succ, eqV3]
  cases a == a' <;> cases b == b' <;> rfl
@[go_sem] theorem aEqS56 (obj : Name → Option O) (op : BinOp) (a b a' b' : Int) : aEqS Tryz.prog obj op 56 (.agg [vInt a, vInt b]) (.agg [vInt a', vInt b']) =
    ⟨op = .eql ∨ op = .neq, .v (.bool (if op = .eql then (a == a' && b == b') else !(a == a' && b == b'))), obj⟩ := by
  unfold aEqS
  rw [show Op.maxDepth = 9998 + 2 from rfl, eqV56]
  simp only [guard56, true_and]

theorem held38 : Tryz.prog.stoodInHeld 38 = false := by kernel_rfl
theorem guard38 : Tryz.prog.eqGuardType Tryz.prog.depth 38 = false := by kernel_rfl
theorem eqV38 (d : Nat) (a b a' b' : Int) : eqV Tryz.prog (d + 2) 38 (.agg [vInt a, vInt b]) (.agg [vInt a', vInt b']) = some (a == a' && b == b') := by
  unfold eqV
  simp only [Tryz.underlying38, held38, Bool.false_eq_true, if_false, eqFs, partV, ta3, List.getElem?_cons_zero, List.getElem?_cons_succ, eqV3]
  cases a == a' <;> cases b == b' <;> rfl
@[go_sem] theorem aEqS38 (obj : Name → Option O) (op : BinOp) (a b a' b' : Int) : aEqS Tryz.prog obj op 38 (.agg [vInt a, vInt b]) (.agg [vInt a', vInt b']) =
    ⟨op = .eql ∨ op = .neq, .v (.bool (if op = .eql then (a == a' && b == b') else !(a == a' && b == b'))), obj⟩ := by
  unfold aEqS
  rw [show Op.maxDepth = 9998 + 2 from rfl, eqV38]
  simp only [guard38, true_and]

theorem held81 : Tryz.prog.stoodInHeld 81 = false := by kernel_rfl
theorem guard81 : Tryz.prog.eqGuardType Tryz.prog.depth 81 = false := by kernel_rfl
theorem eqV81 (k : Nat) (a b c d e f g a' b' c' d' e' f' g' : Int) : eqV Tryz.prog (k + 2) 81 (.agg [vInt a, vInt b, vInt c, vInt d, vInt e, vInt f, vInt g]) (.agg [vInt a', vInt b', vInt c', vInt d', vInt e', vInt f', vInt g']) =
    some (a == a' && (b == b' && (c == c' && (d == d' && (e == e' && (f == f' && g == g')))))) := by
  unfold eqV
  simp only [Tryz.underlying81, held81, Bool.false_eq_true, if_false, eqFs, partV, ta3, List.getElem?_cons_zero, List.getElem?_cons_succ, eqV3]
  cases a == a' <;> cases b == b' <;> cases c == c' <;> cases d == d' <;> cases e == e' <;> cases f == f' <;> cases g == g' <;> rfl
@[go_sem] theorem aEqS81 (obj : Name → Option O) (op : BinOp) (a b c d e f g a' b' c' d' e' f' g' : Int) : aEqS Tryz.prog obj op 81 (.agg [vInt a, vInt b, vInt c, vInt d, vInt e, vInt f, vInt g]) (.agg [vInt a', vInt b', vInt c', vInt d', vInt e', vInt f', vInt g']) =
    ⟨op = .eql ∨ op = .neq, .v (.bool (if op = .eql then (a == a' && (b == b' && (c == c' && (d == d' && (e == e' && (f == f' && g == g')))))) else !(a == a' && (b == b' && (c == c' && (d == d' && (e == e' && (f == f' && g == g')))))))), obj⟩ := by
  unfold aEqS
  rw [show Op.maxDepth = 9998 + 2 from rfl, eqV81]
  simp only [guard81, true_and]
/-- Equal as far as they were looked at. -/
def sameTo {α : Type} (a b : List α) (n : Nat) : Prop := ∀ j (h : j < a.length) (h' : j < b.length), j < n → a[j] = b[j]
theorem sameTo_succ {α : Type} {a b : List α} {i : Nat} (h : sameTo a b i) (hi : ∀ (h : i < a.length) (h' : i < b.length), a[i] = b[i]) : sameTo a b (i + 1) := by
  intro j hj hj' hji
  rcases Nat.lt_succ_iff_lt_or_eq.1 hji with h1 | rfl
  · exact h j hj hj' h1
  · exact hi hj hj'
theorem sameTo_end {α : Type} {a b : List α} (hl : a.length = b.length) (h : sameTo a b a.length) : a = b := List.ext_getElem hl fun j h1 h2 => h j h1 h2 h1
theorem has_iff {l : List Int} {n : Int} : l.contains n = true ↔ ∃ k, ∃ (h : k < l.length), l[k] = n := by
  rw [List.contains_iff_mem]
  constructor
  · intro h
    obtain ⟨k, hk, e⟩ := List.getElem_of_mem h
    exact ⟨k, hk, e⟩
  · rintro ⟨k, hk, rfl⟩
    exact List.getElem_mem hk
noncomputable def P15 : PSpec := p2 iIs iI (fun _ _ => True) (fun l n => .bool (l.contains n)) true
noncomputable def S15 : Spec := P15.toSpec
attribute [go_sem] P15 S15

set_option maxHeartbeats 4000000 in
theorem s15 : PSound Tryz.prog 15 P15 := by
  refine w2 (rs := [.tmp 4]) Tryz.func15 Tryz.ntmps15 (by rfl) (by kernel_rfl) (by decide) (fun _ _ _ => rfl) ⟨_, rfl, lb rfl, fun l n hp hw => ?_⟩
  have hP := mixedK
  simp only [iI, iIs] at hw ⊢
  have hΓ := @no_sound Tryz.prog
  have hl : l.length ≤ maxLen := by have := hw.1.1; simpa using this
  repeat refine sq ?_
  refine rs hΓ [0,1] [] ?_
  repeat refine sq ?_
  refine rs hΓ [0,1,5] [] ?_
  repeat refine sq ?_
  refine cl_block ?_
  repeat refine sq ?_
  refine cl_loop' (fun s : Nat => [(5, ⟨true, .v (vInt s)⟩)]) (fun s => []) (fun s => s ≤ l.length ∧ ∀ k (h : k < l.length), k < s → l[k] ≠ n) (fun s => l.length - s) 0 ?_ ?_ ?_ ?_
  · exact ⟨Nat.zero_le _, by simp⟩
  · rfl
  · rfl
  rintro i ⟨hi, hR⟩
  simp only [go_sem]
  repeat refine sq ?_
  refine rs hΓ [0,1,5,9] [] ?_
  repeat refine sq ?_
  refine cl_cond rfl rfl (fun hb => ?_) fun hb => ?_
  · skip
    have hlt : i < l.length := by simpa using hb
    have hlt' : (i : Int) < l.length := by omega
    clear hb
    repeat refine sq ?_
    refine cl_skip ?_
    repeat refine sq ?_
    refine cl_block ?_
    repeat refine sq ?_
    refine rx hΓ [0,1,5,17] [] (fun K' hK => by simp only [go_sem, map_getD hlt, Int.toNat_natCast, Int.natCast_nonneg, hlt']; (repeat (refine ⟨ob, ?_⟩)); exact hK _ (by simp only [go_sem]) (by simp only [go_sem] <;> rfl)) ?_
    repeat refine sq ?_
    refine cl_cond rfl rfl (fun hb => ?_) fun hb => ?_
    · skip
      repeat refine sq ?_
      refine rx hΓ [4] [] (fun K' hK => by simp only [go_sem, map_getD hlt, Int.toNat_natCast, Int.natCast_nonneg, hlt']; (repeat (refine ⟨ob, ?_⟩)); exact hK _ (by simp only [go_sem]) (by simp only [go_sem] <;> rfl)) ?_
      refine cl_ret ?_
      simp only [go_sem]
      rw [has_iff.2 ⟨i, hlt, by simpa using hb⟩]
    · skip
      repeat refine sq ?_
      refine cl_skip ?_
      refine cl_nil ?_
      simp only [go_sem]
      refine kp [0,1,5] [] ?_
      repeat refine sq ?_
      refine cl_r hΓ fun K' hK => ?_
      simp only [go_sem, map_getD hlt, Int.toNat_natCast, Int.natCast_nonneg, hlt']
      repeat refine ⟨ob, ?_⟩
      refine hK _ ?_
      clear K' hK
      simp only [go_sem]
      refine ⟨i + 1, ⟨hlt, ?_⟩, by (show l.length - (i + 1) < l.length - i; omega), ?_⟩
      · skip
        intro k hk hki
        rcases Nat.lt_succ_iff_lt_or_eq.1 hki with h5 | rfl
        · exact hR k hk h5
        · simpa using hb
      refine weak_eq [0,1,5] [] ?_ ?_
      · simp only [go_sem, wrap_succ hlt hl, Int.natCast_add, Int.natCast_one]
      · simp only [go_sem, wrap_succ hlt hl, Int.natCast_add, Int.natCast_one]
  · skip
    have hge : i = l.length := by
      have : ¬ (i : Int) < l.length := by simpa using hb
      omega
    clear hb
    subst hge
    repeat refine sq ?_
    refine cl_exit ?_
    simp only [go_sem]
    refine kp [] [] ?_
    repeat refine sq ?_
    refine rs hΓ [4] [] ?_
    refine cl_ret ?_
    simp only [go_sem]
    rw [bool_of has_iff (fun ⟨k, hk, e⟩ => hR k hk hk e)]
theorem k15 : SSound Tryz.prog 15 S15 := s15.sound
noncomputable def P24 : PSpec := p2 iIs iIs (fun _ _ => True) (fun a b => .bool (decide (a = b))) true
noncomputable def S24 : Spec := P24.toSpec
attribute [go_sem] P24 S24

set_option maxHeartbeats 4000000 in
theorem s24 : PSound Tryz.prog 24 P24 := by
  refine w2 (rs := [.tmp 4]) Tryz.func24 Tryz.ntmps24 (by rfl) (by kernel_rfl) (by decide) (fun _ _ _ => rfl) ⟨_, rfl, lb rfl, fun a b hp hw => ?_⟩
  have hP := mixedK
  simp only [iIs] at hw ⊢
  have hΓ := @no_sound Tryz.prog
  have hl : a.length ≤ maxLen := by have := hw.1.1; simpa using this
  repeat refine sq ?_
  refine rs hΓ [0,1] [] ?_
  repeat refine sq ?_
  refine rs hΓ [0,1,10] [] ?_
  repeat refine sq ?_
  refine cl_cond rfl rfl (fun hb => ?_) fun hb => ?_
  · skip
    repeat refine sq ?_
    have hbad : a ≠ b := by
      rintro rfl
      simp at hb
    repeat refine sq ?_
    refine rs hΓ [4] [] ?_
    refine cl_ret ?_
    simp only [go_sem]
    rw [decide_eq_false hbad]
  · skip
    repeat refine sq ?_
    have hab : a.length = b.length := by
      have : (a.length : Int) = b.length := by simpa using hb
      omega
    clear hb
    refine cl_skip ?_
    repeat refine sq ?_
    refine rs hΓ [0,1,5] [] ?_
    repeat refine sq ?_
    refine cl_block ?_
    repeat refine sq ?_
    refine cl_loop' (fun s : Nat => [(5, ⟨true, .v (vInt s)⟩)]) (fun s => []) (fun s => s ≤ a.length ∧ sameTo a b s) (fun s => a.length - s) 0 ?_ ?_ ?_ ?_
    · exact ⟨Nat.zero_le _, fun j _ _ h => by omega⟩
    · rfl
    · rfl
    rintro i ⟨hi, hR⟩
    simp only [go_sem]
    repeat refine sq ?_
    refine rs hΓ [0,1,5,14] [] ?_
    repeat refine sq ?_
    refine cl_cond rfl rfl (fun hb => ?_) fun hb => ?_
    · skip
      have hlt : i < a.length := by simpa using hb
      have hlt' : (i : Int) < a.length := by omega
      clear hb
      have hlb' : (i : Int) < b.length := by omega
      have hlb : i < b.length := by omega
      repeat refine sq ?_
      refine cl_skip ?_
      repeat refine sq ?_
      refine cl_block ?_
      repeat refine sq ?_
      refine dx hΓ hP [[], [], [0, 1], [0, 1, 2], [], [], [4, 5], [4, 5, 6], [0, 1, 2, 3, 4, 5, 6, 7]] [0,1,5,25] [] (by kernel_rfl) (fun K' hK => by simp only [go_sem, map_getD hlt, map_getD (show i < b.length by omega), Int.toNat_natCast, Int.natCast_nonneg, hlt', hlb']; (repeat (refine ⟨ob, ?_⟩)); (first | refine ⟨by rfl, ?_⟩ | skip); exact hK _ (by simp only [go_sem]) (by simp only [go_sem] <;> rfl)) ?_
      repeat refine sq ?_
      refine cl_cond rfl rfl (fun hb => ?_) fun hb => ?_
      · skip
        repeat refine sq ?_
        have hbad : a ≠ b := by
          rintro rfl
          simp at hb
        repeat refine sq ?_
        refine rx hΓ [4] [] (fun K' hK => by simp only [go_sem, map_getD hlt, map_getD (show i < b.length by omega), Int.toNat_natCast, Int.natCast_nonneg, hlt', hlb']; (repeat (refine ⟨ob, ?_⟩)); exact hK _ (by simp only [go_sem]) (by simp only [go_sem] <;> rfl)) ?_
        refine cl_ret ?_
        simp only [go_sem]
        rw [decide_eq_false hbad]
      · skip
        repeat refine sq ?_
        refine cl_skip ?_
        refine cl_nil ?_
        simp only [go_sem]
        refine kp [0,1,5] [] ?_
        repeat refine sq ?_
        refine cl_r hΓ fun K' hK => ?_
        simp only [go_sem, map_getD hlt, map_getD (show i < b.length by omega), Int.toNat_natCast, Int.natCast_nonneg, hlt', hlb']
        repeat refine ⟨ob, ?_⟩
        refine hK _ ?_
        clear K' hK
        simp only [go_sem]
        refine ⟨i + 1, ⟨hlt, ?_⟩, by (show a.length - (i + 1) < a.length - i; omega), ?_⟩
        · skip
          exact sameTo_succ hR fun _ _ => by simpa using hb
        refine weak_eq [0,1,5] [] ?_ ?_
        · simp only [go_sem, wrap_succ hlt hl, Int.natCast_add, Int.natCast_one]
        · simp only [go_sem, wrap_succ hlt hl, Int.natCast_add, Int.natCast_one]
    · skip
      have hge : i = a.length := by
        have : ¬ (i : Int) < a.length := by simpa using hb
        omega
      clear hb
      subst hge
      repeat refine sq ?_
      refine cl_exit ?_
      simp only [go_sem]
      refine kp [] [] ?_
      repeat refine sq ?_
      refine rs hΓ [4] [] ?_
      refine cl_ret ?_
      simp only [go_sem]
      rw [decide_eq_true (sameTo_end hab hR)]
theorem k24 : SSound Tryz.prog 24 S24 := s24.sound

noncomputable def K10a : List (Nat × Spec) := [(24, S24)]
theorem K10a_sound : ∀ f s, tbl K10a f = some s → SSound Tryz.prog f s := tc k24 <| tn
attribute [go_sem] K10a

noncomputable def P142 : PSpec := p2 iR iR (fun _ _ => True) (fun a b => .bool (decide (a = b))) true
noncomputable def S142 : Spec := P142.toSpec
attribute [go_sem] P142 S142

set_option maxHeartbeats 4000000 in
theorem s142 : PSound Tryz.prog 142 P142 := by
  refine w2 (rs := [.tmp 4]) Tryz.func142 Tryz.ntmps142 (by rfl) (by kernel_rfl) (by decide) (fun _ _ _ => rfl) ⟨_, rfl, lb rfl, fun a b hp hw => ?_⟩
  have hP := mixedK
  simp only [iR, encR] at hw ⊢
  have hΓ := K10a_sound
  repeat refine sq ?_
  refine rs hΓ [2,3] [[2, 0],[3, 0]] ?_
  repeat refine sq ?_
  refine rs hΓ [4] [] ?_
  refine cl_ret ?_
  simp only [go_sem]
  all_goals first | rfl | (simp; done) | ((cases a; cases b; rw [V.bool.injEq, Bool.eq_iff_iff]; simp [and_assoc]); done)
theorem k142 : SSound Tryz.prog 142 S142 := s142.sound

noncomputable def P143 : PSpec := p2 iT iT (fun _ _ => True) (fun a b => .bool (decide (a = b))) true
noncomputable def S143 : Spec := P143.toSpec
attribute [go_sem] P143 S143

set_option maxHeartbeats 4000000 in
theorem s143 : PSound Tryz.prog 143 P143 := by
  refine w2 (rs := [.tmp 4]) Tryz.func143 Tryz.ntmps143 (by rfl) (by kernel_rfl) (by decide) (fun _ _ _ => rfl) ⟨_, rfl, lb rfl, fun a b hp hw => ?_⟩
  have hP := mixedK
  simp only [iT, encT] at hw ⊢
  have hΓ := K10a_sound
  repeat refine sq ?_
  refine rs hΓ [2,3] [[2, 0],[3, 0]] ?_
  repeat refine sq ?_
  refine rs hΓ [4] [] ?_
  refine cl_ret ?_
  simp only [go_sem]
  all_goals first | rfl | (simp; done) | ((cases a; cases b; rw [V.bool.injEq, Bool.eq_iff_iff]; simp [and_assoc]); done)
theorem k143 : SSound Tryz.prog 143 S143 := s143.sound

noncomputable def K10 : List (Nat × Spec) := [(142, S142), (143, S143)]
theorem K10_sound : ∀ f s, tbl K10 f = some s → SSound Tryz.prog f s := tc k142 <| tc k143 <| tn
attribute [go_sem] K10

theorem led_ext {a b : Led} (h1 : a.ps = b.ps) (h2 : a.rs = b.rs) (h3 : a.ts = b.ts) (h4 : a.ss = b.ss) : a = b := by
  cases a; cases b
  simp only at h1 h2 h3 h4
  subst h1 h2 h3 h4
  rfl
theorem or_ne4 {a b c d a' b' c' d' : Nat} (h : (((a : Int) != a') || ((b : Int) != b') || ((c : Int) != c') || ((d : Int) != d')) = false) : a = a' ∧ b = b' ∧ c = c' ∧ d = d' := by
  simp at h
  omega
theorem nandP {a b : Pap} : (!(a.id == b.id && a.lv == b.lv)) = false ↔ a = b := by
  cases a; cases b; simp
theorem nandS {a b : Sig} : (!(a.so == b.so && (a.pe == b.pe && (a.pa == b.pa && (a.le == b.le && (a.da == b.da && (a.kn == b.kn && a.un == b.un))))))) = false ↔ a = b := by
  cases a; cases b; simp
theorem nn_ne {b : Bool} {p : Prop} (h : b = false ↔ p) (hb : b = true) : ¬ p := fun hp => by rw [h.2 hp] at hb; cases hb
noncomputable def P60 : PSpec := p2 iL iL (fun _ _ => True) (fun a b => .bool (decide (a = b))) true
noncomputable def S60 : Spec := P60.toSpec
attribute [go_sem] P60 S60

set_option maxHeartbeats 8000000 in
theorem s60 : PSound Tryz.prog 60 P60 := by
  refine w2 (rs := [.tmp 4]) Tryz.func60 Tryz.ntmps60 (by rfl) (by kernel_rfl) (by decide) (fun _ _ _ => rfl) ⟨_, rfl, lb rfl, fun a b hp hw => ?_⟩
  have hP := mixedK
  simp only [iL, encL] at hw ⊢
  have hΓ := K10_sound
  have hwa : a.ps.length ≤ maxLen ∧ a.rs.length ≤ maxLen ∧ a.ts.length ≤ maxLen ∧ a.ss.length ≤ maxLen := by
    have h1 := hw.1
    simp only [V.wf, V.wfL, List.length_map] at h1
    exact ⟨h1.1.1, h1.2.1.1, h1.2.2.1.1, h1.2.2.2.1.1⟩
  repeat refine sq ?_
  refine rs hΓ [2,3] [[2, 0],[3, 0]] ?_
  repeat refine sq ?_
  refine rs hΓ [2,3,42] [[2, 0],[3, 0]] ?_
  repeat refine sq ?_
  refine cl_cond rfl rfl (fun hb => ?_) fun hb => ?_
  · skip
    repeat refine sq ?_
    have hbad : a ≠ b := by
      rintro rfl
      simp at hb
    repeat refine sq ?_
    refine rs hΓ [4] [] ?_
    refine cl_ret ?_
    simp only [go_sem]
    rw [decide_eq_false hbad]
  · skip
    repeat refine sq ?_
    obtain ⟨e1, e2, e3, e4⟩ := or_ne4 hb
    clear hb
    refine cl_skip ?_
    repeat refine sq ?_
    refine rs hΓ [2,3,5] [[2, 0],[3, 0]] ?_
    repeat refine sq ?_
    refine cl_block ?_
    repeat refine sq ?_
    refine cl_loop' (fun s : Nat => [(5, ⟨true, .v (vInt s)⟩)]) (fun s => []) (fun s => s ≤ a.ps.length ∧ sameTo a.ps b.ps s) (fun s => a.ps.length - s) 0 ?_ ?_ ?_ ?_
    · exact ⟨Nat.zero_le _, fun j _ _ h => by omega⟩
    · rfl
    · rfl
    rintro i ⟨hi, hR⟩
    simp only [go_sem]
    repeat refine sq ?_
    refine rs hΓ [2,3,5,47] [[2, 0],[3, 0]] ?_
    repeat refine sq ?_
    refine cl_cond rfl rfl (fun hb => ?_) fun hb => ?_
    · skip
      have hlt : i < a.ps.length := by simpa using hb
      have hlt' : (i : Int) < a.ps.length := by omega
      clear hb
      have hlb' : (i : Int) < b.ps.length := by omega
      repeat refine sq ?_
      refine cl_skip ?_
      repeat refine sq ?_
      refine cl_block ?_
      repeat refine sq ?_
      refine dx hΓ hP [[], [0], [], [0, 1, 2], [0, 1, 2, 3], [], [5], [], [5, 6, 7], [5, 6, 7, 8], [0, 1, 2, 3, 4, 5, 6, 7, 8, 9]] [2,3,5,60] [[2, 0],[3, 0]] (by kernel_rfl) (fun K' hK => by simp only [go_sem, map_getD hlt, map_getD (show i < b.ps.length by omega), Int.toNat_natCast, Int.natCast_nonneg, hlt', hlb']; (repeat (refine ⟨ob, ?_⟩)); (first | refine ⟨by rfl, ?_⟩ | skip); exact hK _ (by simp only [go_sem]) (by simp only [go_sem] <;> rfl)) ?_
      repeat refine sq ?_
      refine cl_cond rfl rfl (fun hb => ?_) fun hb => ?_
      · skip
        repeat refine sq ?_
        have hbad : a ≠ b := by
          rintro rfl
          exact nn_ne nandP hb rfl
        repeat refine sq ?_
        refine rx hΓ [4] [] (fun K' hK => by simp only [go_sem, map_getD hlt, map_getD (show i < b.ps.length by omega), Int.toNat_natCast, Int.natCast_nonneg, hlt', hlb']; (repeat (refine ⟨ob, ?_⟩)); exact hK _ (by simp only [go_sem]) (by simp only [go_sem] <;> rfl)) ?_
        refine cl_ret ?_
        simp only [go_sem]
        rw [decide_eq_false hbad]
      · skip
        repeat refine sq ?_
        refine cl_skip ?_
        refine cl_nil ?_
        simp only [go_sem]
        refine kp [2,3,5] [[2, 0],[3, 0]] ?_
        repeat refine sq ?_
        refine cl_r hΓ fun K' hK => ?_
        simp only [go_sem, map_getD hlt, map_getD (show i < b.ps.length by omega), Int.toNat_natCast, Int.natCast_nonneg, hlt', hlb']
        repeat refine ⟨ob, ?_⟩
        refine hK _ ?_
        clear K' hK
        simp only [go_sem]
        refine ⟨i + 1, ⟨hlt, ?_⟩, by (show a.ps.length - (i + 1) < a.ps.length - i; omega), ?_⟩
        · skip
          exact sameTo_succ hR fun _ _ => nandP.1 hb
        refine weak_eq [2,3,5] [[2, 0],[3, 0]] ?_ ?_
        · simp only [go_sem, wrap_succ hlt hwa.1, Int.natCast_add, Int.natCast_one]
        · simp only [go_sem, wrap_succ hlt hwa.1, Int.natCast_add, Int.natCast_one]
    · skip
      have hge : i = a.ps.length := by
        have : ¬ (i : Int) < a.ps.length := by simpa using hb
        omega
      clear hb
      subst hge
      repeat refine sq ?_
      refine cl_exit ?_
      simp only [go_sem]
      refine kp [2,3] [[2, 0],[3, 0]] ?_
      repeat refine sq ?_
      refine rs hΓ [2,3,6] [[2, 0],[3, 0]] ?_
      repeat refine sq ?_
      refine cl_block ?_
      repeat refine sq ?_
      refine cl_loop' (fun s : Nat => [(6, ⟨true, .v (vInt s)⟩)]) (fun s => []) (fun s => s ≤ a.rs.length ∧ sameTo a.rs b.rs s) (fun s => a.rs.length - s) 0 ?_ ?_ ?_ ?_
      · exact ⟨Nat.zero_le _, fun j _ _ h => by omega⟩
      · rfl
      · rfl
      rintro i ⟨hi1, hR1⟩
      simp only [go_sem]
      repeat refine sq ?_
      refine rs hΓ [2,3,6,65] [[2, 0],[3, 0]] ?_
      repeat refine sq ?_
      refine cl_cond rfl rfl (fun hb => ?_) fun hb => ?_
      · skip
        have hlt1 : i < a.rs.length := by simpa using hb
        have hlt1' : (i : Int) < a.rs.length := by omega
        clear hb
        have hlb' : (i : Int) < b.rs.length := by omega
        repeat refine sq ?_
        refine cl_skip ?_
        repeat refine sq ?_
        refine cl_block ?_
        repeat refine sq ?_
        refine dx hΓ hP [[], [0], [], [0, 1, 2], [0, 1, 2, 3], [], [5], [], [5, 6, 7], [5, 6, 7, 8], [0, 1, 2, 3, 4, 5, 6, 7, 8, 9], [0, 1, 2, 3, 4, 5, 6, 7, 8, 9, 10]] [2,3,6,79] [[2, 0],[3, 0]] (by kernel_rfl) (fun K' hK => by simp only [go_sem, map_getD hlt1, map_getD (show i < b.rs.length by omega), Int.toNat_natCast, Int.natCast_nonneg, hlt1', hlb']; (repeat (refine ⟨ob, ?_⟩)); (first | refine ⟨by rfl, ?_⟩ | skip); exact hK _ (by simp only [go_sem]) (by simp only [go_sem] <;> rfl)) ?_
        repeat refine sq ?_
        refine cl_cond rfl rfl (fun hb => ?_) fun hb => ?_
        · skip
          repeat refine sq ?_
          have hbad : a ≠ b := by
            rintro rfl
            simp at hb
          repeat refine sq ?_
          refine rx hΓ [4] [] (fun K' hK => by simp only [go_sem, map_getD hlt1, map_getD (show i < b.rs.length by omega), Int.toNat_natCast, Int.natCast_nonneg, hlt1', hlb']; (repeat (refine ⟨ob, ?_⟩)); exact hK _ (by simp only [go_sem]) (by simp only [go_sem] <;> rfl)) ?_
          refine cl_ret ?_
          simp only [go_sem]
          rw [decide_eq_false hbad]
        · skip
          repeat refine sq ?_
          refine cl_skip ?_
          refine cl_nil ?_
          simp only [go_sem]
          refine kp [2,3,6] [[2, 0],[3, 0]] ?_
          repeat refine sq ?_
          refine cl_r hΓ fun K' hK => ?_
          simp only [go_sem, map_getD hlt1, map_getD (show i < b.rs.length by omega), Int.toNat_natCast, Int.natCast_nonneg, hlt1', hlb']
          repeat refine ⟨ob, ?_⟩
          refine hK _ ?_
          clear K' hK
          simp only [go_sem]
          refine ⟨i + 1, ⟨hlt1, ?_⟩, by (show a.rs.length - (i + 1) < a.rs.length - i; omega), ?_⟩
          · skip
            exact sameTo_succ hR1 fun _ _ => by simpa using hb
          refine weak_eq [2,3,6] [[2, 0],[3, 0]] ?_ ?_
          · simp only [go_sem, wrap_succ hlt1 hwa.2.1, Int.natCast_add, Int.natCast_one]
          · simp only [go_sem, wrap_succ hlt1 hwa.2.1, Int.natCast_add, Int.natCast_one]
      · skip
        have hge1 : i = a.rs.length := by
          have : ¬ (i : Int) < a.rs.length := by simpa using hb
          omega
        clear hb
        subst hge1
        repeat refine sq ?_
        refine cl_exit ?_
        simp only [go_sem]
        refine kp [2,3] [[2, 0],[3, 0]] ?_
        repeat refine sq ?_
        refine rs hΓ [2,3,7] [[2, 0],[3, 0]] ?_
        repeat refine sq ?_
        refine cl_block ?_
        repeat refine sq ?_
        refine cl_loop' (fun s : Nat => [(7, ⟨true, .v (vInt s)⟩)]) (fun s => []) (fun s => s ≤ a.ts.length ∧ sameTo a.ts b.ts s) (fun s => a.ts.length - s) 0 ?_ ?_ ?_ ?_
        · exact ⟨Nat.zero_le _, fun j _ _ h => by omega⟩
        · rfl
        · rfl
        rintro i ⟨hi2, hR2⟩
        simp only [go_sem]
        repeat refine sq ?_
        refine rs hΓ [2,3,7,84] [[2, 0],[3, 0]] ?_
        repeat refine sq ?_
        refine cl_cond rfl rfl (fun hb => ?_) fun hb => ?_
        · skip
          have hlt2 : i < a.ts.length := by simpa using hb
          have hlt2' : (i : Int) < a.ts.length := by omega
          clear hb
          have hlb' : (i : Int) < b.ts.length := by omega
          repeat refine sq ?_
          refine cl_skip ?_
          repeat refine sq ?_
          refine cl_block ?_
          repeat refine sq ?_
          refine dx hΓ hP [[], [0], [], [0, 1, 2], [0, 1, 2, 3], [], [5], [], [5, 6, 7], [5, 6, 7, 8], [0, 1, 2, 3, 4, 5, 6, 7, 8, 9], [0, 1, 2, 3, 4, 5, 6, 7, 8, 9, 10]] [2,3,7,98] [[2, 0],[3, 0]] (by kernel_rfl) (fun K' hK => by simp only [go_sem, map_getD hlt2, map_getD (show i < b.ts.length by omega), Int.toNat_natCast, Int.natCast_nonneg, hlt2', hlb']; (repeat (refine ⟨ob, ?_⟩)); (first | refine ⟨by rfl, ?_⟩ | skip); exact hK _ (by simp only [go_sem]) (by simp only [go_sem] <;> rfl)) ?_
          repeat refine sq ?_
          refine cl_cond rfl rfl (fun hb => ?_) fun hb => ?_
          · skip
            repeat refine sq ?_
            have hbad : a ≠ b := by
              rintro rfl
              simp at hb
            repeat refine sq ?_
            refine rx hΓ [4] [] (fun K' hK => by simp only [go_sem, map_getD hlt2, map_getD (show i < b.ts.length by omega), Int.toNat_natCast, Int.natCast_nonneg, hlt2', hlb']; (repeat (refine ⟨ob, ?_⟩)); exact hK _ (by simp only [go_sem]) (by simp only [go_sem] <;> rfl)) ?_
            refine cl_ret ?_
            simp only [go_sem]
            rw [decide_eq_false hbad]
          · skip
            repeat refine sq ?_
            refine cl_skip ?_
            refine cl_nil ?_
            simp only [go_sem]
            refine kp [2,3,7] [[2, 0],[3, 0]] ?_
            repeat refine sq ?_
            refine cl_r hΓ fun K' hK => ?_
            simp only [go_sem, map_getD hlt2, map_getD (show i < b.ts.length by omega), Int.toNat_natCast, Int.natCast_nonneg, hlt2', hlb']
            repeat refine ⟨ob, ?_⟩
            refine hK _ ?_
            clear K' hK
            simp only [go_sem]
            refine ⟨i + 1, ⟨hlt2, ?_⟩, by (show a.ts.length - (i + 1) < a.ts.length - i; omega), ?_⟩
            · skip
              exact sameTo_succ hR2 fun _ _ => by simpa using hb
            refine weak_eq [2,3,7] [[2, 0],[3, 0]] ?_ ?_
            · simp only [go_sem, wrap_succ hlt2 hwa.2.2.1, Int.natCast_add, Int.natCast_one]
            · simp only [go_sem, wrap_succ hlt2 hwa.2.2.1, Int.natCast_add, Int.natCast_one]
        · skip
          have hge2 : i = a.ts.length := by
            have : ¬ (i : Int) < a.ts.length := by simpa using hb
            omega
          clear hb
          subst hge2
          repeat refine sq ?_
          refine cl_exit ?_
          simp only [go_sem]
          refine kp [2,3] [[2, 0],[3, 0]] ?_
          repeat refine sq ?_
          refine rs hΓ [2,3,8] [[2, 0],[3, 0]] ?_
          repeat refine sq ?_
          refine cl_block ?_
          repeat refine sq ?_
          refine cl_loop' (fun s : Nat => [(8, ⟨true, .v (vInt s)⟩)]) (fun s => []) (fun s => s ≤ a.ss.length ∧ sameTo a.ss b.ss s) (fun s => a.ss.length - s) 0 ?_ ?_ ?_ ?_
          · exact ⟨Nat.zero_le _, fun j _ _ h => by omega⟩
          · rfl
          · rfl
          rintro i ⟨hi3, hR3⟩
          simp only [go_sem]
          repeat refine sq ?_
          refine rs hΓ [2,3,8,103] [[2, 0],[3, 0]] ?_
          repeat refine sq ?_
          refine cl_cond rfl rfl (fun hb => ?_) fun hb => ?_
          · skip
            have hlt3 : i < a.ss.length := by simpa using hb
            have hlt3' : (i : Int) < a.ss.length := by omega
            clear hb
            have hlb' : (i : Int) < b.ss.length := by omega
            repeat refine sq ?_
            refine cl_skip ?_
            repeat refine sq ?_
            refine cl_block ?_
            repeat refine sq ?_
            refine dx hΓ hP [[], [0], [], [0, 1, 2], [0, 1, 2, 3], [], [5], [], [5, 6, 7], [5, 6, 7, 8], [0, 1, 2, 3, 4, 5, 6, 7, 8, 9]] [2,3,8,116] [[2, 0],[3, 0]] (by kernel_rfl) (fun K' hK => by simp only [go_sem, map_getD hlt3, map_getD (show i < b.ss.length by omega), Int.toNat_natCast, Int.natCast_nonneg, hlt3', hlb']; (repeat (refine ⟨ob, ?_⟩)); (first | refine ⟨by rfl, ?_⟩ | skip); exact hK _ (by simp only [go_sem]) (by simp only [go_sem] <;> rfl)) ?_
            repeat refine sq ?_
            refine cl_cond rfl rfl (fun hb => ?_) fun hb => ?_
            · skip
              repeat refine sq ?_
              have hbad : a ≠ b := by
                rintro rfl
                exact nn_ne nandS hb rfl
              repeat refine sq ?_
              refine rx hΓ [4] [] (fun K' hK => by simp only [go_sem, map_getD hlt3, map_getD (show i < b.ss.length by omega), Int.toNat_natCast, Int.natCast_nonneg, hlt3', hlb']; (repeat (refine ⟨ob, ?_⟩)); exact hK _ (by simp only [go_sem]) (by simp only [go_sem] <;> rfl)) ?_
              refine cl_ret ?_
              simp only [go_sem]
              rw [decide_eq_false hbad]
            · skip
              repeat refine sq ?_
              refine cl_skip ?_
              refine cl_nil ?_
              simp only [go_sem]
              refine kp [2,3,8] [[2, 0],[3, 0]] ?_
              repeat refine sq ?_
              refine cl_r hΓ fun K' hK => ?_
              simp only [go_sem, map_getD hlt3, map_getD (show i < b.ss.length by omega), Int.toNat_natCast, Int.natCast_nonneg, hlt3', hlb']
              repeat refine ⟨ob, ?_⟩
              refine hK _ ?_
              clear K' hK
              simp only [go_sem]
              refine ⟨i + 1, ⟨hlt3, ?_⟩, by (show a.ss.length - (i + 1) < a.ss.length - i; omega), ?_⟩
              · skip
                exact sameTo_succ hR3 fun _ _ => nandS.1 hb
              refine weak_eq [2,3,8] [[2, 0],[3, 0]] ?_ ?_
              · simp only [go_sem, wrap_succ hlt3 hwa.2.2.2, Int.natCast_add, Int.natCast_one]
              · simp only [go_sem, wrap_succ hlt3 hwa.2.2.2, Int.natCast_add, Int.natCast_one]
          · skip
            have hge3 : i = a.ss.length := by
              have : ¬ (i : Int) < a.ss.length := by simpa using hb
              omega
            clear hb
            subst hge3
            repeat refine sq ?_
            refine cl_exit ?_
            simp only [go_sem]
            refine kp [] [] ?_
            repeat refine sq ?_
            refine rs hΓ [4] [] ?_
            refine cl_ret ?_
            simp only [go_sem]
            rw [decide_eq_true (led_ext (sameTo_end e1 hR) (sameTo_end e2 hR1) (sameTo_end e3 hR2) (sameTo_end e4 hR3))]
theorem k60 : SSound Tryz.prog 60 S60 := s60.sound
end Go.Eng
--OBX exact okP _ | exact okR _ | exact okT _ | exact okS _ | exact okI _
namespace Go.Eng
open Go Go.Proofs
/-! ledgers with memory of their own -/
theorem PSound.conv {P : Program} {f : FuncId} {s s' : PSpec} (h : PSound P f s) (hf : s'.flat = s.flat) (hp : ∀ xs, s'.pre xs → s.pre xs ∧ s'.fn xs = s.fn xs) : PSound P f s' := by
  refine ⟨h.ne, h.enter, fun hfl xs hx => ?_, fun m w xs args hm hx hpre => ?_⟩
  · rw [(hp xs hx).2]; exact h.flat (hf ▸ hfl) xs (hp xs hx).1
  · rw [(hp xs hpre).2]; exact h.calls m w xs args hm hx (hp xs hpre).1
theorem all64 (l : List Int) : (l.map vInt).all isI64 = true := by simp [isI64]
noncomputable def P179 : PSpec := p1 iIs (fun l => l.length ≤ 1000) (fun l => .sl (l.map vInt)) false
noncomputable def S179 : Spec := P179.toSpec
theorem k179 : SSound Tryz.prog 179 S179 := (PSound.conv (s' := P179) (cloneI_sound clone179 rfl) rfl (by
  intro xs hx
  obtain ⟨l, rfl, hl, e⟩ := p1_elim hx
  exact ⟨⟨_, rfl, all64 l, by simpa using hl⟩, e⟩)).sound
noncomputable def S132 : Spec := cloneG Tryz.prog 29
theorem k132 : SSound Tryz.prog 132 S132 := cloneG_sound clone132
attribute [go_sem] S132

noncomputable def S176 : Spec := cloneG Tryz.prog 26
theorem k176 : SSound Tryz.prog 176 S176 := cloneG_sound clone176
attribute [go_sem] S176

noncomputable def S177 : Spec := cloneG Tryz.prog 27
theorem k177 : SSound Tryz.prog 177 S177 := cloneG_sound clone177
attribute [go_sem] S177

noncomputable def S178 : Spec := cloneG Tryz.prog 28
theorem k178 : SSound Tryz.prog 178 S178 := cloneG_sound clone178
attribute [go_sem] S178

attribute [go_sem] S179 P179

noncomputable def K11 : List (Nat × Spec) := [(132, S132), (176, S176), (177, S177), (178, S178), (179, S179)]
theorem K11_sound : ∀ f s, tbl K11 f = some s → SSound Tryz.prog f s := tc k132 <| tc k176 <| tc k177 <| tc k178 <| tc k179 <| tn
attribute [go_sem] K11

/-- Not too long to be copied. -/
def shortC (l : Led) : Prop := l.ps.length ≤ 12 ∧ l.rs.length ≤ 60 ∧ l.ts.length ≤ 60 ∧ l.ss.length ≤ 60 ∧ (∀ r ∈ l.rs, r.lv.length ≤ 30) ∧ ∀ r ∈ l.ts, r.lv.length ≤ 30
def copNew (l : Led) : List (Name × O) := [([8, 0], .arr 2 (l.ps.map encP)), ([11, 0], .arr 7 (l.rs.map encR)), ([14, 0], .arr 8 (l.ts.map encT)), ([17, 0], .arr 7 (l.ss.map encS))]
def copD (l : Led) : D := .agg [.msl [8, 0] l.ps.length, .msl [11, 0] l.rs.length, .msl [14, 0] l.ts.length, .msl [17, 0] l.ss.length]
attribute [go_sem] copNew copD

theorem okP (l : List Pap) : ∀ y ∈ l.map encP, y.cells.length = 2 ∧ y.okc = true := by
  intro y hy; obtain ⟨x, _, rfl⟩ := List.mem_map.1 hy; exact ⟨rfl, rfl⟩
theorem okR (l : List Rec) : ∀ y ∈ l.map encR, y.cells.length = 7 ∧ y.okc = true := by
  intro y hy; obtain ⟨x, _, rfl⟩ := List.mem_map.1 hy; exact ⟨rfl, rfl⟩
theorem okT (l : List Ret) : ∀ y ∈ l.map encT, y.cells.length = 8 ∧ y.okc = true := by
  intro y hy; obtain ⟨x, _, rfl⟩ := List.mem_map.1 hy; exact ⟨rfl, rfl⟩
theorem okS (l : List Sig) : ∀ y ∈ l.map encS, y.cells.length = 7 ∧ y.okc = true := by
  intro y hy; obtain ⟨x, _, rfl⟩ := List.mem_map.1 hy; exact ⟨rfl, rfl⟩
theorem okI (l : List Int) : ∀ y ∈ l.map vInt, y.cells.length = 1 ∧ y.okc = true := by
  intro y hy; obtain ⟨x, _, rfl⟩ := List.mem_map.1 hy; exact ⟨rfl, rfl⟩
theorem setR_same {l : List Rec} {i : Nat} (h : i < l.length) : (l.map encR).set i (.agg [vInt l[i].so, vInt l[i].bo, vInt l[i].pa, .sl (l[i].lv.map vInt), vInt l[i].da, vInt l[i].kn, vInt l[i].un]) = l.map encR := by
  have e : (l.map encR).set i ((l.map encR)[i]'(by simpa using h)) = l.map encR := List.set_getElem_self _
  simpa [encR] using e
theorem setT_same {l : List Ret} {i : Nat} (h : i < l.length) : (l.map encT).set i (.agg [vInt l[i].so, vInt l[i].re, vInt l[i].pe, .sl (l[i].lv.map vInt), vInt l[i].lo, vInt l[i].hi, vInt l[i].kn, vInt l[i].un]) = l.map encT := by
  have e : (l.map encT).set i ((l.map encT)[i]'(by simpa using h)) = l.map encT := List.set_getElem_self _
  simpa [encT] using e
theorem obx {p : Prop} (h : p := by first | exact okP _ | exact okR _ | exact okT _ | exact okS _ | exact okI _ | ((repeat' apply And.intro) <;> first | rfl | omega | (unfold maxLen; omega) | trivial | decide | exact okP _ | exact okR _ | exact okT _ | exact okS _ | exact okI _) | exact ob) : p := h
noncomputable def N86 : NSpec := n1 iL (fun l => shortC l) copNew copD
noncomputable def S86 : Spec := N86.toSpec
attribute [go_sem] N86 S86

set_option maxHeartbeats 8000000 in
theorem k86 : SSound Tryz.prog 86 S86 := by
  refine nsound (nt := 58) (rs := [.cell 2 31]) Tryz.func86 rfl (by rfl) (by kernel_rfl) (by kernel_rfl) (by decide) ?_
  intro xs hp
  obtain ⟨l, rfl, hp, hg1, hg2⟩ := n1_elim hp
  replace hg1 : N86.new _ = _ := hg1
  replace hg2 : N86.d _ = _ := hg2
  rw [hg1, hg2]
  clear hg1 hg2
  refine ⟨lb rfl, ?_⟩
  have hP := mixedK
  simp only [iI, iB, iIs, iP, iR, iT, iS, iL, iLp, iSl, iC, iF, encP, encR, encT, encS, encL, encLp, List.map_cons, List.map_nil, argsD, Nat.zero_add]
  have hΓ := K11_sound
  obtain ⟨hn0, hn1, hn2, hn3, hn4, hn5⟩ := hp
  have hlr : l.rs.length ≤ maxLen := by unfold maxLen; omega
  have hlt_ : l.ts.length ≤ maxLen := by unfold maxLen; omega
  repeat refine sq ?_
  refine rx hΓ [1,2] [[1, 0],[2, 0],[8, 0],[11, 0],[14, 0],[17, 0]] (fun K' hK => by simp only [go_sem]; (repeat (refine ⟨obx, ?_⟩)); exact hK _ (by simp only [go_sem]) (by simp only [go_sem] <;> rfl)) ?_
  repeat refine sq ?_
  refine dx hΓ hP [[], [0], [0, 1], [], [3], [0, 1, 2, 3, 4], [], [6], [0, 1, 2, 3, 4, 5, 6, 7], [], [9], [0, 1, 2, 3, 4, 5, 6, 7, 8, 9, 10], [0, 1, 2, 3, 4, 5, 6, 7, 8, 9, 10, 11], [], [0, 1, 2, 3, 4, 5, 6, 7, 8, 9, 10, 11, 12, 13]] [2,3] [[2, 0],[3, 0],[8, 0],[11, 0],[14, 0],[17, 0]] (by kernel_rfl) (fun K' hK => by simp only [go_sem]; (repeat (refine ⟨obx, ?_⟩)); (first | refine ⟨by rfl, ?_⟩ | skip); exact hK _ (by simp only [go_sem]) (by simp only [go_sem] <;> rfl)) ?_
  repeat refine sq ?_
  refine rx hΓ [2,3,21,22] [[2, 0],[3, 0],[8, 0],[11, 0],[14, 0],[17, 0]] (fun K' hK => by simp only [go_sem]; (repeat (refine ⟨obx, ?_⟩)); exact hK _ (by simp only [go_sem]) (by simp only [go_sem] <;> rfl)) ?_
  repeat refine sq ?_
  refine cl_block ?_
  repeat refine sq ?_
  refine cl_loop' (fun s : Nat => [(22, ⟨true, .v (vInt s)⟩)]) (fun s => []) (fun s => s ≤ l.rs.length) (fun s => l.rs.length - s) 0 ?_ ?_ ?_ ?_
  · exact Nat.zero_le _
  · rfl
  · rfl
  rintro i hi
  simp only [go_sem]
  repeat refine sq ?_
  refine rx hΓ [2,3,21,22,23] [[2, 0],[3, 0],[8, 0],[11, 0],[14, 0],[17, 0]] (fun K' hK => by simp only [go_sem]; (repeat (refine ⟨obx, ?_⟩)); exact hK _ (by simp only [go_sem]) (by simp only [go_sem] <;> rfl)) ?_
  repeat refine sq ?_
  refine cl_cond rfl rfl (fun hb => ?_) fun hb => ?_
  · skip
    have hlt : i < l.rs.length := by simpa using hb
    have hlt' : (i : Int) < l.rs.length := by omega
    clear hb
    have hl30 := hn4 l.rs[i] (List.getElem_mem hlt)
    repeat refine sq ?_
    refine cl_skip ?_
    repeat refine sq ?_
    refine cl_block ?_
    repeat refine sq ?_
    refine rx hΓ [2,3,4,21,22] [[2, 0],[3, 0],[8, 0],[11, 0],[14, 0],[17, 0]] (fun K' hK => by simp only [go_sem, map_getD hlt, Int.toNat_natCast, Int.natCast_nonneg, hlt']; (repeat (refine ⟨obx, ?_⟩)); exact hK _ (by simp only [go_sem]) (by simp only [go_sem] <;> rfl)) ?_
    repeat refine sq ?_
    refine cl_d hΓ hP [[], [0], [], [], [3], [], [3, 4, 5], [3, 4, 5, 6], [3, 4, 5, 6, 7], [3, 4, 5, 6, 7, 8], [0, 1, 2, 3, 4, 5, 6, 7, 8, 9], [0, 1, 2, 3, 4, 5, 6, 7, 8, 9, 10], [0, 1, 2, 3, 4, 5, 6, 7, 8, 9, 10, 11]] (by kernel_rfl) fun K' hK => ?_
    simp only [go_sem, map_getD hlt, Int.toNat_natCast, Int.natCast_nonneg, hlt']
    repeat (refine ⟨obx, ?_⟩)
    first | refine ⟨by rfl, ?_⟩ | skip
    refine hK _ ?_
    clear K' hK
    simp only [go_sem]
    refine kp [2,3,21,22] [[2, 0],[3, 0],[8, 0],[11, 0],[14, 0],[17, 0]] ?_
    repeat refine sq ?_
    refine cl_r hΓ fun K' hK => ?_
    simp only [go_sem, map_getD hlt, Int.toNat_natCast, Int.natCast_nonneg, hlt']
    repeat (refine ⟨obx, ?_⟩)
    refine hK _ ?_
    clear K' hK
    simp only [go_sem]
    refine ⟨i + 1, hlt, by (show l.rs.length - (i + 1) < l.rs.length - i; omega), ?_⟩
    refine weak_eq [2,3,21,22] [[2, 0],[3, 0],[8, 0],[11, 0],[14, 0],[17, 0]] ?_ ?_
    · simp only [go_sem, wrap_succ hlt hlr, Int.natCast_add, Int.natCast_one, setR_same hlt]
    · simp only [go_sem, wrap_succ hlt hlr, Int.natCast_add, Int.natCast_one, setR_same hlt]
  · skip
    have hge : i = l.rs.length := by
      have : ¬ (i : Int) < l.rs.length := by simpa using hb
      omega
    clear hb
    subst hge
    repeat refine sq ?_
    refine cl_exit ?_
    simp only [go_sem]
    refine kp [2,3] [[2, 0],[3, 0],[8, 0],[11, 0],[14, 0],[17, 0]] ?_
    repeat refine sq ?_
    refine rx hΓ [2,3,40,41] [[2, 0],[3, 0],[8, 0],[11, 0],[14, 0],[17, 0]] (fun K' hK => by simp only [go_sem]; (repeat (refine ⟨obx, ?_⟩)); exact hK _ (by simp only [go_sem]) (by simp only [go_sem] <;> rfl)) ?_
    repeat refine sq ?_
    refine cl_block ?_
    repeat refine sq ?_
    refine cl_loop' (fun s : Nat => [(41, ⟨true, .v (vInt s)⟩)]) (fun s => []) (fun s => s ≤ l.ts.length) (fun s => l.ts.length - s) 0 ?_ ?_ ?_ ?_
    · exact Nat.zero_le _
    · rfl
    · rfl
    rintro i hi
    simp only [go_sem]
    repeat refine sq ?_
    refine rx hΓ [2,3,40,41,42] [[2, 0],[3, 0],[8, 0],[11, 0],[14, 0],[17, 0]] (fun K' hK => by simp only [go_sem]; (repeat (refine ⟨obx, ?_⟩)); exact hK _ (by simp only [go_sem]) (by simp only [go_sem] <;> rfl)) ?_
    repeat refine sq ?_
    refine cl_cond rfl rfl (fun hb => ?_) fun hb => ?_
    · skip
      have hlt1 : i < l.ts.length := by simpa using hb
      have hlt1' : (i : Int) < l.ts.length := by omega
      clear hb
      have hl30 := hn5 l.ts[i] (List.getElem_mem hlt1)
      repeat refine sq ?_
      refine cl_skip ?_
      repeat refine sq ?_
      refine cl_block ?_
      repeat refine sq ?_
      refine rx hΓ [2,3,5,40,41] [[2, 0],[3, 0],[8, 0],[11, 0],[14, 0],[17, 0]] (fun K' hK => by simp only [go_sem, map_getD hlt1, Int.toNat_natCast, Int.natCast_nonneg, hlt1']; (repeat (refine ⟨obx, ?_⟩)); exact hK _ (by simp only [go_sem]) (by simp only [go_sem] <;> rfl)) ?_
      repeat refine sq ?_
      refine cl_d hΓ hP [[], [0], [], [], [3], [], [3, 4, 5], [3, 4, 5, 6], [3, 4, 5, 6, 7], [3, 4, 5, 6, 7, 8], [0, 1, 2, 3, 4, 5, 6, 7, 8, 9], [0, 1, 2, 3, 4, 5, 6, 7, 8, 9, 10], [0, 1, 2, 3, 4, 5, 6, 7, 8, 9, 10, 11]] (by kernel_rfl) fun K' hK => ?_
      simp only [go_sem, map_getD hlt1, Int.toNat_natCast, Int.natCast_nonneg, hlt1']
      repeat (refine ⟨obx, ?_⟩)
      first | refine ⟨by rfl, ?_⟩ | skip
      refine hK _ ?_
      clear K' hK
      simp only [go_sem]
      refine kp [2,3,40,41] [[2, 0],[3, 0],[8, 0],[11, 0],[14, 0],[17, 0]] ?_
      repeat refine sq ?_
      refine cl_r hΓ fun K' hK => ?_
      simp only [go_sem, map_getD hlt1, Int.toNat_natCast, Int.natCast_nonneg, hlt1']
      repeat (refine ⟨obx, ?_⟩)
      refine hK _ ?_
      clear K' hK
      simp only [go_sem]
      refine ⟨i + 1, hlt1, by (show l.ts.length - (i + 1) < l.ts.length - i; omega), ?_⟩
      refine weak_eq [2,3,40,41] [[2, 0],[3, 0],[8, 0],[11, 0],[14, 0],[17, 0]] ?_ ?_
      · simp only [go_sem, wrap_succ hlt1 hlt_, Int.natCast_add, Int.natCast_one, setT_same hlt1]
      · simp only [go_sem, wrap_succ hlt1 hlt_, Int.natCast_add, Int.natCast_one, setT_same hlt1]
    · skip
      have hge1 : i = l.ts.length := by
        have : ¬ (i : Int) < l.ts.length := by simpa using hb
        omega
      clear hb
      subst hge1
      repeat refine sq ?_
      refine cl_exit ?_
      simp only [go_sem]
      refine kp [2,3] [[2, 0],[3, 0],[8, 0],[11, 0],[14, 0],[17, 0]] ?_
      repeat refine sq ?_
      refine rx hΓ [2] [[2, 0],[8, 0],[11, 0],[14, 0],[17, 0]] (fun K' hK => by simp only [go_sem]; (repeat (refine ⟨obx, ?_⟩)); exact hK _ (by simp only [go_sem]) (by simp only [go_sem] <;> rfl)) ?_
      refine cl_ret ?_
      simp only [go_sem]
      skip
end Go.Eng
--OBX exact okP _ | exact okR _ | exact okT _ | exact okS _ | exact okI _
namespace Go.Eng
open Go Go.Proofs
/-! copies of the reference; whether there is a source -/
theorem take_snoc {α β : Type} {f : α → β} {l : List α} {i : Nat} (h : i < l.length) : (l.take (i + 1)).map f = (l.take i).map f ++ [f l[i]] := by
  rw [List.take_add_one, List.getElem?_eq_getElem h]
  simp only [List.map_append, Option.toList_some, List.map_cons, List.map_nil]
noncomputable def P95 : PSpec := p1 iL (fun l => shortC l) (fun l => encL l) false
noncomputable def S95 : Spec := P95.toSpec
attribute [go_sem] P95 S95

set_option maxHeartbeats 8000000 in
theorem s95 : PSound Tryz.prog 95 P95 := by
  refine w1 (rs := [.cell 2 31]) Tryz.func95 Tryz.ntmps95 (by rfl) (by kernel_rfl) (by decide) (fun h => by cases h) ⟨_, rfl, lb rfl, fun l hp hw => ?_⟩
  have hP := mixedK
  simp only [iL, encL] at hw ⊢
  have hΓ := @no_sound Tryz.prog
  obtain ⟨hn0, hn1, hn2, hn3, hn4, hn5⟩ := hp
  have hlr : l.rs.length ≤ maxLen := by unfold maxLen; omega
  have hlt_ : l.ts.length ≤ maxLen := by unfold maxLen; omega
  repeat refine sq ?_
  refine rx hΓ [1,2] [[1, 0],[2, 0],[11, 0],[15, 0],[38, 0],[61, 0]] (fun K' hK => by simp only [go_sem]; (repeat (refine ⟨obx, ?_⟩)); exact hK _ (by simp only [go_sem]) (by simp only [go_sem] <;> rfl)) ?_
  repeat refine sq ?_
  refine dx hΓ hP [[], [], [1], [0, 1, 2], [], [], [5], [0, 1, 2, 3, 4, 5, 6], [0, 1, 2, 3, 4, 5, 6, 7], [], [0, 1, 2, 3, 4, 5, 6, 7, 8, 9]] [1,2,3] [[1, 0],[2, 0],[3, 0],[11, 0],[15, 0],[38, 0],[61, 0]] (by kernel_rfl) (fun K' hK => by simp only [go_sem]; (repeat (refine ⟨obx, ?_⟩)); (first | refine ⟨by rfl, ?_⟩ | skip); exact hK _ (by simp only [go_sem]) (by simp only [go_sem] <;> rfl)) ?_
  refine cl_weakM (weakM_ghostI [3, 0] [38, 0] 1 7 _ rfl rfl rfl [1,2,3] [[1, 0],[2, 0],[3, 0],[11, 0],[15, 0],[38, 0],[61, 0]] ?_ rfl) ?_
  · simp only [go_sem, List.set_cons_succ, List.set_cons_zero]
  simp only [go_sem, List.set_cons_succ, List.set_cons_zero]
  refine cl_weakM (weakM_ghostI [3, 0] [61, 0] 2 8 _ rfl rfl rfl [1,2,3] [[1, 0],[2, 0],[3, 0],[11, 0],[15, 0],[38, 0],[61, 0]] ?_ rfl) ?_
  · simp only [go_sem, List.set_cons_succ, List.set_cons_zero]
  simp only [go_sem, List.set_cons_succ, List.set_cons_zero]
  repeat refine sq ?_
  refine rx hΓ [1,2,3,4] [[1, 0],[2, 0],[3, 0],[11, 0],[15, 0],[38, 0],[61, 0]] (fun K' hK => by simp only [go_sem]; (repeat (refine ⟨obx, ?_⟩)); exact hK _ (by simp only [go_sem]) (by simp only [go_sem] <;> rfl)) ?_
  repeat refine sq ?_
  refine cl_block ?_
  repeat refine sq ?_
  refine cl_loop' (fun s : Nat => [(4, ⟨true, .v (vInt s)⟩)]) (fun s => [([3, 0], .box [.msl [11, 0] l.ps.length, .msl [38, 0] s, .msl [61, 0] 0, .msl [15, 0] l.ss.length]), ([38, 0], .arr 7 ((l.rs.take s).map encR))]) (fun s => s ≤ l.rs.length) (fun s => l.rs.length - s) 0 ?_ ?_ ?_ ?_
  · exact Nat.zero_le _
  · rfl
  · rfl
  rintro i hi
  simp only [go_sem]
  repeat refine sq ?_
  refine rx hΓ [1,2,3,4,21] [[1, 0],[2, 0],[3, 0],[11, 0],[15, 0],[38, 0],[61, 0]] (fun K' hK => by simp only [go_sem]; (repeat (refine ⟨obx, ?_⟩)); exact hK _ (by simp only [go_sem]) (by simp only [go_sem] <;> rfl)) ?_
  repeat refine sq ?_
  refine cl_cond rfl rfl (fun hb => ?_) fun hb => ?_
  · skip
    have hlt : i < l.rs.length := by simpa using hb
    have hlt' : (i : Int) < l.rs.length := by omega
    clear hb
    have hl30 := hn4 l.rs[i] (List.getElem_mem hlt)
    have hmin : min i l.rs.length = i := by omega
    repeat refine sq ?_
    refine cl_skip ?_
    repeat refine sq ?_
    refine cl_block ?_
    repeat refine sq ?_
    refine rx hΓ [1,2,3,4,5] [[1, 0],[2, 0],[3, 0],[5, 0],[11, 0],[15, 0],[32, 0],[38, 0],[61, 0]] (fun K' hK => by simp only [go_sem, map_getD hlt, Int.toNat_natCast, Int.natCast_nonneg, hlt']; (repeat (refine ⟨obx, ?_⟩)); exact hK _ (by simp only [go_sem]) (by simp only [go_sem] <;> rfl)) ?_
    repeat refine sq ?_
    refine rx hΓ [1,2,3,4,5] [[1, 0],[2, 0],[3, 0],[5, 0],[11, 0],[15, 0],[32, 0],[38, 0],[61, 0]] (fun K' hK => by simp only [go_sem, map_getD hlt, Int.toNat_natCast, Int.natCast_nonneg, hlt']; (repeat (refine ⟨obx, ?_⟩)); exact hK _ (by simp only [go_sem]) (by simp only [go_sem] <;> rfl)) ?_
    repeat refine sq ?_
    refine cl_r hΓ fun K' hK => ?_
    simp only [go_sem, map_getD hlt, Int.toNat_natCast, Int.natCast_nonneg, hlt']
    repeat (refine ⟨obx, ?_⟩)
    refine hK _ ?_
    clear K' hK
    simp only [go_sem]
    refine kp [1,2,3,4] [[1, 0],[2, 0],[3, 0],[11, 0],[15, 0],[38, 0],[61, 0]] ?_
    repeat refine sq ?_
    refine cl_r hΓ fun K' hK => ?_
    simp only [go_sem, map_getD hlt, Int.toNat_natCast, Int.natCast_nonneg, hlt']
    repeat (refine ⟨obx, ?_⟩)
    refine hK _ ?_
    clear K' hK
    simp only [go_sem]
    refine ⟨i + 1, hlt, by (show l.rs.length - (i + 1) < l.rs.length - i; omega), ?_⟩
    refine weak_eq [1,2,3,4] [[1, 0],[2, 0],[3, 0],[11, 0],[15, 0],[38, 0],[61, 0]] ?_ ?_
    · simp only [go_sem, wrap_succ hlt hlr, Int.natCast_add, Int.natCast_one, take_snoc hlt, List.length_take, hmin]
    · simp only [go_sem, wrap_succ hlt hlr, Int.natCast_add, Int.natCast_one, take_snoc hlt, List.length_take, hmin]
  · skip
    have hge : i = l.rs.length := by
      have : ¬ (i : Int) < l.rs.length := by simpa using hb
      omega
    clear hb
    subst hge
    repeat refine sq ?_
    refine cl_exit ?_
    simp only [go_sem]
    refine kp [1,2,3] [[1, 0],[2, 0],[3, 0],[11, 0],[15, 0],[38, 0],[61, 0]] ?_
    repeat refine sq ?_
    refine rx hΓ [1,2,3,6] [[1, 0],[2, 0],[3, 0],[11, 0],[15, 0],[38, 0],[61, 0]] (fun K' hK => by simp only [go_sem]; (repeat (refine ⟨obx, ?_⟩)); exact hK _ (by simp only [go_sem]) (by simp only [go_sem] <;> rfl)) ?_
    repeat refine sq ?_
    refine cl_block ?_
    repeat refine sq ?_
    refine cl_loop' (fun s : Nat => [(6, ⟨true, .v (vInt s)⟩)]) (fun s => [([3, 0], .box [.msl [11, 0] l.ps.length, .msl [38, 0] l.rs.length, .msl [61, 0] s, .msl [15, 0] l.ss.length]), ([61, 0], .arr 8 ((l.ts.take s).map encT))]) (fun s => s ≤ l.ts.length) (fun s => l.ts.length - s) 0 ?_ ?_ ?_ ?_
    · exact Nat.zero_le _
    · rfl
    · rfl
    rintro i hi
    simp only [go_sem]
    repeat refine sq ?_
    refine rx hΓ [1,2,3,6,44] [[1, 0],[2, 0],[3, 0],[11, 0],[15, 0],[38, 0],[61, 0]] (fun K' hK => by simp only [go_sem]; (repeat (refine ⟨obx, ?_⟩)); exact hK _ (by simp only [go_sem]) (by simp only [go_sem] <;> rfl)) ?_
    repeat refine sq ?_
    refine cl_cond rfl rfl (fun hb => ?_) fun hb => ?_
    · skip
      have hlt1 : i < l.ts.length := by simpa using hb
      have hlt1' : (i : Int) < l.ts.length := by omega
      clear hb
      have hl30 := hn5 l.ts[i] (List.getElem_mem hlt1)
      have hmin : min i l.ts.length = i := by omega
      repeat refine sq ?_
      refine cl_skip ?_
      repeat refine sq ?_
      refine cl_block ?_
      repeat refine sq ?_
      refine rx hΓ [1,2,3,6,7] [[1, 0],[2, 0],[3, 0],[7, 0],[11, 0],[15, 0],[38, 0],[55, 0],[61, 0]] (fun K' hK => by simp only [go_sem, map_getD hlt1, Int.toNat_natCast, Int.natCast_nonneg, hlt1']; (repeat (refine ⟨obx, ?_⟩)); exact hK _ (by simp only [go_sem]) (by simp only [go_sem] <;> rfl)) ?_
      repeat refine sq ?_
      refine rx hΓ [1,2,3,6,7] [[1, 0],[2, 0],[3, 0],[7, 0],[11, 0],[15, 0],[38, 0],[55, 0],[61, 0]] (fun K' hK => by simp only [go_sem, map_getD hlt1, Int.toNat_natCast, Int.natCast_nonneg, hlt1']; (repeat (refine ⟨obx, ?_⟩)); exact hK _ (by simp only [go_sem]) (by simp only [go_sem] <;> rfl)) ?_
      repeat refine sq ?_
      refine cl_r hΓ fun K' hK => ?_
      simp only [go_sem, map_getD hlt1, Int.toNat_natCast, Int.natCast_nonneg, hlt1']
      repeat (refine ⟨obx, ?_⟩)
      refine hK _ ?_
      clear K' hK
      simp only [go_sem]
      refine kp [1,2,3,6] [[1, 0],[2, 0],[3, 0],[11, 0],[15, 0],[38, 0],[61, 0]] ?_
      repeat refine sq ?_
      refine cl_r hΓ fun K' hK => ?_
      simp only [go_sem, map_getD hlt1, Int.toNat_natCast, Int.natCast_nonneg, hlt1']
      repeat (refine ⟨obx, ?_⟩)
      refine hK _ ?_
      clear K' hK
      simp only [go_sem]
      refine ⟨i + 1, hlt1, by (show l.ts.length - (i + 1) < l.ts.length - i; omega), ?_⟩
      refine weak_eq [1,2,3,6] [[1, 0],[2, 0],[3, 0],[11, 0],[15, 0],[38, 0],[61, 0]] ?_ ?_
      · simp only [go_sem, wrap_succ hlt1 hlt_, Int.natCast_add, Int.natCast_one, take_snoc hlt1, List.length_take, hmin]
      · simp only [go_sem, wrap_succ hlt1 hlt_, Int.natCast_add, Int.natCast_one, take_snoc hlt1, List.length_take, hmin]
    · skip
      have hge1 : i = l.ts.length := by
        have : ¬ (i : Int) < l.ts.length := by simpa using hb
        omega
      clear hb
      subst hge1
      repeat refine sq ?_
      refine cl_exit ?_
      simp only [go_sem]
      refine kp [2,3] [[2, 0],[3, 0],[11, 0],[15, 0],[38, 0],[61, 0]] ?_
      repeat refine sq ?_
      refine rx hΓ [2] [[2, 0],[11, 0],[15, 0],[38, 0],[61, 0]] (fun K' hK => by simp only [go_sem, List.take_length]; (repeat (refine ⟨obx, ?_⟩)); exact hK _ (by simp only [go_sem]) (by simp only [go_sem] <;> rfl)) ?_
      refine cl_ret ?_
      simp only [go_sem]
      all_goals first | rfl | (simp; done) | (simp_all; done)
theorem k95 : SSound Tryz.prog 95 S95 := s95.sound
/-- A closure that holds a number by its address. -/
def iClo : En (Nat × Int) := ⟨fun g => .clo (.func g.1) [] [.ptr [vInt g.2]], fun v => match v with | .clo (.func g) _ [.ptr [.int _ s]] => (g, s) | _ => default⟩
def iPi : En Int := ⟨fun s => .ptr [vInt s], fun v => match v with | .ptr [.int _ s] => s | _ => 0⟩
attribute [go_sem] iClo iPi

noncomputable def P171 : PSpec := p2 iR iPi (fun _ _ => True) (fun x s => .bool (x.so == s)) true
noncomputable def S171 : Spec := P171.toSpec
attribute [go_sem] P171 S171

theorem s171 : PSound Tryz.prog 171 P171 := by
  refine w2 (rs := [.tmp 3]) Tryz.func171 Tryz.ntmps171 (by rfl) (by kernel_rfl) (by decide) (fun _ _ _ => rfl) ⟨_, rfl, lb rfl, fun x s hp hw => ?_⟩
  have hP := mixedK
  simp only [iPi, iR, encR] at hw ⊢
  have hΓ := @no_sound Tryz.prog
  repeat refine sq ?_
  refine rx hΓ [1,2] [[2, 0]] (fun K' hK => by simp only [go_sem]; (repeat (refine ⟨obx, ?_⟩)); exact hK _ (by simp only [go_sem]) (by simp only [go_sem] <;> rfl)) ?_
  repeat refine sq ?_
  refine rx hΓ [3] [] (fun K' hK => by simp only [go_sem]; (repeat (refine ⟨obx, ?_⟩)); exact hK _ (by simp only [go_sem]) (by simp only [go_sem] <;> rfl)) ?_
  refine cl_ret ?_
  simp only [go_sem]
  all_goals first | rfl | (simp; done) | (simp_all; done)
theorem k171 : SSound Tryz.prog 171 S171 := s171.sound

noncomputable def P173 : PSpec := p2 iT iPi (fun _ _ => True) (fun x s => .bool (x.so == s)) true
noncomputable def S173 : Spec := P173.toSpec
attribute [go_sem] P173 S173

theorem s173 : PSound Tryz.prog 173 P173 := by
  refine w2 (rs := [.tmp 3]) Tryz.func173 Tryz.ntmps173 (by rfl) (by kernel_rfl) (by decide) (fun _ _ _ => rfl) ⟨_, rfl, lb rfl, fun x s hp hw => ?_⟩
  have hP := mixedK
  simp only [iPi, iT, encT] at hw ⊢
  have hΓ := @no_sound Tryz.prog
  repeat refine sq ?_
  refine rx hΓ [1,2] [[2, 0]] (fun K' hK => by simp only [go_sem]; (repeat (refine ⟨obx, ?_⟩)); exact hK _ (by simp only [go_sem]) (by simp only [go_sem] <;> rfl)) ?_
  repeat refine sq ?_
  refine rx hΓ [3] [] (fun K' hK => by simp only [go_sem]; (repeat (refine ⟨obx, ?_⟩)); exact hK _ (by simp only [go_sem]) (by simp only [go_sem] <;> rfl)) ?_
  refine cl_ret ?_
  simp only [go_sem]
  all_goals first | rfl | (simp; done) | (simp_all; done)
theorem k173 : SSound Tryz.prog 173 S173 := s173.sound

noncomputable def P175 : PSpec := p2 iS iPi (fun _ _ => True) (fun x s => .bool (x.so == s)) true
noncomputable def S175 : Spec := P175.toSpec
attribute [go_sem] P175 S175

theorem s175 : PSound Tryz.prog 175 P175 := by
  refine w2 (rs := [.tmp 3]) Tryz.func175 Tryz.ntmps175 (by rfl) (by kernel_rfl) (by decide) (fun _ _ _ => rfl) ⟨_, rfl, lb rfl, fun x s hp hw => ?_⟩
  have hP := mixedK
  simp only [iPi, iS, encS] at hw ⊢
  have hΓ := @no_sound Tryz.prog
  repeat refine sq ?_
  refine rx hΓ [1,2] [[2, 0]] (fun K' hK => by simp only [go_sem]; (repeat (refine ⟨obx, ?_⟩)); exact hK _ (by simp only [go_sem]) (by simp only [go_sem] <;> rfl)) ?_
  repeat refine sq ?_
  refine rx hΓ [3] [] (fun K' hK => by simp only [go_sem]; (repeat (refine ⟨obx, ?_⟩)); exact hK _ (by simp only [go_sem]) (by simp only [go_sem] <;> rfl)) ?_
  refine cl_ret ?_
  simp only [go_sem]
  all_goals first | rfl | (simp; done) | (simp_all; done)
theorem k175 : SSound Tryz.prog 175 S175 := s175.sound

noncomputable def P167 : PSpec := p2 iR iPi (fun _ _ => True) (fun x s => .bool (x.so == s)) true
noncomputable def S167 : Spec := P167.toSpec
attribute [go_sem] P167 S167

theorem s167 : PSound Tryz.prog 167 P167 := by
  refine w2 (rs := [.tmp 3]) Tryz.func167 Tryz.ntmps167 (by rfl) (by kernel_rfl) (by decide) (fun _ _ _ => rfl) ⟨_, rfl, lb rfl, fun x s hp hw => ?_⟩
  have hP := mixedK
  simp only [iPi, iR, encR] at hw ⊢
  have hΓ := @no_sound Tryz.prog
  repeat refine sq ?_
  refine rx hΓ [1,2] [[2, 0]] (fun K' hK => by simp only [go_sem]; (repeat (refine ⟨obx, ?_⟩)); exact hK _ (by simp only [go_sem]) (by simp only [go_sem] <;> rfl)) ?_
  repeat refine sq ?_
  refine rx hΓ [3] [] (fun K' hK => by simp only [go_sem]; (repeat (refine ⟨obx, ?_⟩)); exact hK _ (by simp only [go_sem]) (by simp only [go_sem] <;> rfl)) ?_
  refine cl_ret ?_
  simp only [go_sem]
  all_goals first | rfl | (simp; done) | (simp_all; done)
theorem k167 : SSound Tryz.prog 167 S167 := s167.sound

def idxF {α : Type} (p : α → Bool) (l : List α) : Int := if l.any p then (l.findIdx p : Int) else -1
theorem idxF_at {α : Type} {p : α → Bool} {l : List α} {i : Nat} (h : i < l.length) (hp : p l[i] = true) (hn : ∀ k (hk : k < l.length), k < i → p l[k] = false) : idxF p l = i := by
  unfold idxF
  rw [if_pos (List.any_eq_true.2 ⟨_, List.getElem_mem h, hp⟩)]
  congr 1
  rw [List.findIdx_eq h]
  exact ⟨hp, fun j hj => hn j (by omega) hj⟩
theorem idxF_none {α : Type} {p : α → Bool} {l : List α} (hn : ∀ k (hk : k < l.length), p l[k] = false) : idxF p l = -1 := by
  unfold idxF
  rw [if_neg]
  intro h
  obtain ⟨x, hx, hp⟩ := List.any_eq_true.1 h
  obtain ⟨k, hk, rfl⟩ := List.getElem_of_mem hx
  rw [hn k hk] at hp; cases hp
theorem idxF_ge {α : Type} (p : α → Bool) (l : List α) : decide (idxF p l ≥ 0) = l.any p := by
  unfold idxF
  cases l.any p with
  | true => simp
  | false => simp
noncomputable def K12a : List (Nat × Spec) := [(171, S171), (173, S173), (175, S175), (167, S167)]
theorem K12a_sound : ∀ f s, tbl K12a f = some s → SSound Tryz.prog f s := tc k171 <| tc k173 <| tc k175 <| tc k167 <| tn
attribute [go_sem] K12a

noncomputable def K12c : FuncId → Option Spec := tbl K12a
theorem K12c_sound : ∀ f s, K12c f = some s → SSound Tryz.prog f s := K12a_sound
@[go_sem] theorem S167_171 : S167 = S171 := rfl
noncomputable def P166 : PSpec := p2 (iSl iR) iClo (fun _ g => g.1 = 171 ∨ g.1 = 167) (fun l g => vInt (idxF (fun x => Rec.so x == g.2) l)) true
noncomputable def S166 : Spec := P166.toSpec
attribute [go_sem] P166 S166

set_option maxHeartbeats 4000000 in
theorem s166 : PSound Tryz.prog 166 P166 := by
  refine w2 (rs := [.tmp 4]) Tryz.func166 Tryz.ntmps166 (by rfl) (by kernel_rfl) (by decide) (fun _ _ _ => rfl) ⟨_, rfl, lb rfl, fun l g hp hw => ?_⟩
  have hP := mixedK
  simp only [iClo, iR, iSl, encR] at hw ⊢
  have hΓ := K12c_sound
  have hl : l.length ≤ maxLen := by have := hw.1.1; simpa using this
  obtain ⟨g, s_⟩ := g
  try simp only [iClo] at hw hp ⊢
  have hg : K12c g = some S171 := by rcases hp with rfl | rfl <;> rfl
  have hgy : ¬ g = 1000000000 := by omega
  repeat refine sq ?_
  refine rx hΓ [0,1] [] (fun K' hK => by simp only [go_sem]; (repeat (refine ⟨obx, ?_⟩)); exact hK _ (by simp only [go_sem]) (by simp only [go_sem] <;> rfl)) ?_
  repeat refine sq ?_
  refine rx hΓ [0,1,7,8] [] (fun K' hK => by simp only [go_sem]; (repeat (refine ⟨obx, ?_⟩)); exact hK _ (by simp only [go_sem]) (by simp only [go_sem] <;> rfl)) ?_
  repeat refine sq ?_
  refine cl_block ?_
  repeat refine sq ?_
  refine cl_loop' (fun s : Nat => [(8, ⟨true, .v (vInt s)⟩)]) (fun s => []) (fun s => s ≤ l.length ∧ ∀ k (h : k < l.length), k < s → (fun x : Rec => Rec.so x == s_) l[k] = false) (fun s => l.length - s) 0 ?_ ?_ ?_ ?_
  · exact ⟨Nat.zero_le _, by simp⟩
  · rfl
  · rfl
  rintro i ⟨hi, hR⟩
  simp only [go_sem]
  repeat refine sq ?_
  refine rx hΓ [0,1,7,8,9] [] (fun K' hK => by simp only [go_sem]; (repeat (refine ⟨obx, ?_⟩)); exact hK _ (by simp only [go_sem]) (by simp only [go_sem] <;> rfl)) ?_
  repeat refine sq ?_
  refine cl_cond rfl rfl (fun hb => ?_) fun hb => ?_
  · skip
    have hlt : i < l.length := by simpa using hb
    have hlt' : (i : Int) < l.length := by omega
    clear hb
    repeat refine sq ?_
    refine cl_skip ?_
    repeat refine sq ?_
    refine cl_block ?_
    repeat refine sq ?_
    refine rx hΓ [0,1,5,7,8] [] (fun K' hK => by simp only [go_sem, map_getD hlt, Int.toNat_natCast, Int.natCast_nonneg, hlt']; (repeat (refine ⟨obx, ?_⟩)); exact hK _ (by simp only [go_sem]) (by simp only [go_sem] <;> rfl)) ?_
    repeat refine sq ?_
    refine rx hΓ [0,1,5,7,8,16] [] (fun K' hK => by simp only [go_sem, map_getD hlt, Int.toNat_natCast, Int.natCast_nonneg, hlt', hg, hgy]; (repeat (refine ⟨obx, ?_⟩)); exact hK _ (by simp only [go_sem]) (by simp only [go_sem] <;> rfl)) ?_
    repeat refine sq ?_
    refine cl_cond rfl rfl (fun hb => ?_) fun hb => ?_
    · skip
      repeat refine sq ?_
      refine rx hΓ [4] [] (fun K' hK => by simp only [go_sem, map_getD hlt, Int.toNat_natCast, Int.natCast_nonneg, hlt']; (repeat (refine ⟨obx, ?_⟩)); exact hK _ (by simp only [go_sem]) (by simp only [go_sem] <;> rfl)) ?_
      refine cl_ret ?_
      simp only [go_sem]
      rw [idxF_at (p := fun x => Rec.so x == s_) hlt (by simpa using hb) hR]
    · skip
      repeat refine sq ?_
      refine cl_skip ?_
      refine cl_nil ?_
      simp only [go_sem]
      refine kp [0,1,7,8] [] ?_
      repeat refine sq ?_
      refine cl_r hΓ fun K' hK => ?_
      simp only [go_sem, map_getD hlt, Int.toNat_natCast, Int.natCast_nonneg, hlt']
      repeat (refine ⟨obx, ?_⟩)
      refine hK _ ?_
      clear K' hK
      simp only [go_sem]
      refine ⟨i + 1, ⟨hlt, ?_⟩, by (show l.length - (i + 1) < l.length - i; omega), ?_⟩
      · skip
        intro k hk hki
        rcases Nat.lt_succ_iff_lt_or_eq.1 hki with h5 | rfl
        · exact hR k hk h5
        · simpa using hb
      refine weak_eq [0,1,7,8] [] ?_ ?_
      · simp only [go_sem, wrap_succ hlt hl, Int.natCast_add, Int.natCast_one]
      · simp only [go_sem, wrap_succ hlt hl, Int.natCast_add, Int.natCast_one]
  · skip
    have hge : i = l.length := by
      have : ¬ (i : Int) < l.length := by simpa using hb
      omega
    clear hb
    subst hge
    repeat refine sq ?_
    refine cl_exit ?_
    simp only [go_sem]
    refine kp [] [] ?_
    repeat refine sq ?_
    refine rx hΓ [4] [] (fun K' hK => by simp only [go_sem]; (repeat (refine ⟨obx, ?_⟩)); exact hK _ (by simp only [go_sem]) (by simp only [go_sem] <;> rfl)) ?_
    refine cl_ret ?_
    simp only [go_sem]
    rw [idxF_none (p := fun x => Rec.so x == s_) fun k hk => hR k hk hk]
theorem k166 : SSound Tryz.prog 166 S166 := s166.sound

noncomputable def P180 : PSpec := p2 (iSl iT) iClo (fun _ g => g.1 = 173) (fun l g => vInt (idxF (fun x => Ret.so x == g.2) l)) true
noncomputable def S180 : Spec := P180.toSpec
attribute [go_sem] P180 S180

set_option maxHeartbeats 4000000 in
theorem s180 : PSound Tryz.prog 180 P180 := by
  refine w2 (rs := [.tmp 4]) Tryz.func180 Tryz.ntmps180 (by rfl) (by kernel_rfl) (by decide) (fun _ _ _ => rfl) ⟨_, rfl, lb rfl, fun l g hp hw => ?_⟩
  have hP := mixedK
  simp only [iClo, iSl, iT, encT] at hw ⊢
  have hΓ := K12c_sound
  have hl : l.length ≤ maxLen := by have := hw.1.1; simpa using this
  obtain ⟨g, s_⟩ := g
  try simp only [iClo] at hw hp ⊢
  have hg : K12c g = some S173 := by subst hp; rfl
  have hgy : ¬ g = 1000000000 := by omega
  repeat refine sq ?_
  refine rx hΓ [0,1] [] (fun K' hK => by simp only [go_sem]; (repeat (refine ⟨obx, ?_⟩)); exact hK _ (by simp only [go_sem]) (by simp only [go_sem] <;> rfl)) ?_
  repeat refine sq ?_
  refine rx hΓ [0,1,7,8] [] (fun K' hK => by simp only [go_sem]; (repeat (refine ⟨obx, ?_⟩)); exact hK _ (by simp only [go_sem]) (by simp only [go_sem] <;> rfl)) ?_
  repeat refine sq ?_
  refine cl_block ?_
  repeat refine sq ?_
  refine cl_loop' (fun s : Nat => [(8, ⟨true, .v (vInt s)⟩)]) (fun s => []) (fun s => s ≤ l.length ∧ ∀ k (h : k < l.length), k < s → (fun x : Ret => Ret.so x == s_) l[k] = false) (fun s => l.length - s) 0 ?_ ?_ ?_ ?_
  · exact ⟨Nat.zero_le _, by simp⟩
  · rfl
  · rfl
  rintro i ⟨hi, hR⟩
  simp only [go_sem]
  repeat refine sq ?_
  refine rx hΓ [0,1,7,8,9] [] (fun K' hK => by simp only [go_sem]; (repeat (refine ⟨obx, ?_⟩)); exact hK _ (by simp only [go_sem]) (by simp only [go_sem] <;> rfl)) ?_
  repeat refine sq ?_
  refine cl_cond rfl rfl (fun hb => ?_) fun hb => ?_
  · skip
    have hlt : i < l.length := by simpa using hb
    have hlt' : (i : Int) < l.length := by omega
    clear hb
    repeat refine sq ?_
    refine cl_skip ?_
    repeat refine sq ?_
    refine cl_block ?_
    repeat refine sq ?_
    refine rx hΓ [0,1,5,7,8] [] (fun K' hK => by simp only [go_sem, map_getD hlt, Int.toNat_natCast, Int.natCast_nonneg, hlt']; (repeat (refine ⟨obx, ?_⟩)); exact hK _ (by simp only [go_sem]) (by simp only [go_sem] <;> rfl)) ?_
    repeat refine sq ?_
    refine rx hΓ [0,1,5,7,8,16] [] (fun K' hK => by simp only [go_sem, map_getD hlt, Int.toNat_natCast, Int.natCast_nonneg, hlt', hg, hgy]; (repeat (refine ⟨obx, ?_⟩)); exact hK _ (by simp only [go_sem]) (by simp only [go_sem] <;> rfl)) ?_
    repeat refine sq ?_
    refine cl_cond rfl rfl (fun hb => ?_) fun hb => ?_
    · skip
      repeat refine sq ?_
      refine rx hΓ [4] [] (fun K' hK => by simp only [go_sem, map_getD hlt, Int.toNat_natCast, Int.natCast_nonneg, hlt']; (repeat (refine ⟨obx, ?_⟩)); exact hK _ (by simp only [go_sem]) (by simp only [go_sem] <;> rfl)) ?_
      refine cl_ret ?_
      simp only [go_sem]
      rw [idxF_at (p := fun x => Ret.so x == s_) hlt (by simpa using hb) hR]
    · skip
      repeat refine sq ?_
      refine cl_skip ?_
      refine cl_nil ?_
      simp only [go_sem]
      refine kp [0,1,7,8] [] ?_
      repeat refine sq ?_
      refine cl_r hΓ fun K' hK => ?_
      simp only [go_sem, map_getD hlt, Int.toNat_natCast, Int.natCast_nonneg, hlt']
      repeat (refine ⟨obx, ?_⟩)
      refine hK _ ?_
      clear K' hK
      simp only [go_sem]
      refine ⟨i + 1, ⟨hlt, ?_⟩, by (show l.length - (i + 1) < l.length - i; omega), ?_⟩
      · skip
        intro k hk hki
        rcases Nat.lt_succ_iff_lt_or_eq.1 hki with h5 | rfl
        · exact hR k hk h5
        · simpa using hb
      refine weak_eq [0,1,7,8] [] ?_ ?_
      · simp only [go_sem, wrap_succ hlt hl, Int.natCast_add, Int.natCast_one]
      · simp only [go_sem, wrap_succ hlt hl, Int.natCast_add, Int.natCast_one]
  · skip
    have hge : i = l.length := by
      have : ¬ (i : Int) < l.length := by simpa using hb
      omega
    clear hb
    subst hge
    repeat refine sq ?_
    refine cl_exit ?_
    simp only [go_sem]
    refine kp [] [] ?_
    repeat refine sq ?_
    refine rx hΓ [4] [] (fun K' hK => by simp only [go_sem]; (repeat (refine ⟨obx, ?_⟩)); exact hK _ (by simp only [go_sem]) (by simp only [go_sem] <;> rfl)) ?_
    refine cl_ret ?_
    simp only [go_sem]
    rw [idxF_none (p := fun x => Ret.so x == s_) fun k hk => hR k hk hk]
theorem k180 : SSound Tryz.prog 180 S180 := s180.sound

noncomputable def P181 : PSpec := p2 (iSl iS) iClo (fun _ g => g.1 = 175) (fun l g => vInt (idxF (fun x => Sig.so x == g.2) l)) true
noncomputable def S181 : Spec := P181.toSpec
attribute [go_sem] P181 S181

set_option maxHeartbeats 4000000 in
theorem s181 : PSound Tryz.prog 181 P181 := by
  refine w2 (rs := [.tmp 4]) Tryz.func181 Tryz.ntmps181 (by rfl) (by kernel_rfl) (by decide) (fun _ _ _ => rfl) ⟨_, rfl, lb rfl, fun l g hp hw => ?_⟩
  have hP := mixedK
  simp only [iClo, iS, iSl, encS] at hw ⊢
  have hΓ := K12c_sound
  have hl : l.length ≤ maxLen := by have := hw.1.1; simpa using this
  obtain ⟨g, s_⟩ := g
  try simp only [iClo] at hw hp ⊢
  have hg : K12c g = some S175 := by subst hp; rfl
  have hgy : ¬ g = 1000000000 := by omega
  repeat refine sq ?_
  refine rx hΓ [0,1] [] (fun K' hK => by simp only [go_sem]; (repeat (refine ⟨obx, ?_⟩)); exact hK _ (by simp only [go_sem]) (by simp only [go_sem] <;> rfl)) ?_
  repeat refine sq ?_
  refine rx hΓ [0,1,7,8] [] (fun K' hK => by simp only [go_sem]; (repeat (refine ⟨obx, ?_⟩)); exact hK _ (by simp only [go_sem]) (by simp only [go_sem] <;> rfl)) ?_
  repeat refine sq ?_
  refine cl_block ?_
  repeat refine sq ?_
  refine cl_loop' (fun s : Nat => [(8, ⟨true, .v (vInt s)⟩)]) (fun s => []) (fun s => s ≤ l.length ∧ ∀ k (h : k < l.length), k < s → (fun x : Sig => Sig.so x == s_) l[k] = false) (fun s => l.length - s) 0 ?_ ?_ ?_ ?_
  · exact ⟨Nat.zero_le _, by simp⟩
  · rfl
  · rfl
  rintro i ⟨hi, hR⟩
  simp only [go_sem]
  repeat refine sq ?_
  refine rx hΓ [0,1,7,8,9] [] (fun K' hK => by simp only [go_sem]; (repeat (refine ⟨obx, ?_⟩)); exact hK _ (by simp only [go_sem]) (by simp only [go_sem] <;> rfl)) ?_
  repeat refine sq ?_
  refine cl_cond rfl rfl (fun hb => ?_) fun hb => ?_
  · skip
    have hlt : i < l.length := by simpa using hb
    have hlt' : (i : Int) < l.length := by omega
    clear hb
    repeat refine sq ?_
    refine cl_skip ?_
    repeat refine sq ?_
    refine cl_block ?_
    repeat refine sq ?_
    refine rx hΓ [0,1,5,7,8] [] (fun K' hK => by simp only [go_sem, map_getD hlt, Int.toNat_natCast, Int.natCast_nonneg, hlt']; (repeat (refine ⟨obx, ?_⟩)); exact hK _ (by simp only [go_sem]) (by simp only [go_sem] <;> rfl)) ?_
    repeat refine sq ?_
    refine rx hΓ [0,1,5,7,8,16] [] (fun K' hK => by simp only [go_sem, map_getD hlt, Int.toNat_natCast, Int.natCast_nonneg, hlt', hg, hgy]; (repeat (refine ⟨obx, ?_⟩)); exact hK _ (by simp only [go_sem]) (by simp only [go_sem] <;> rfl)) ?_
    repeat refine sq ?_
    refine cl_cond rfl rfl (fun hb => ?_) fun hb => ?_
    · skip
      repeat refine sq ?_
      refine rx hΓ [4] [] (fun K' hK => by simp only [go_sem, map_getD hlt, Int.toNat_natCast, Int.natCast_nonneg, hlt']; (repeat (refine ⟨obx, ?_⟩)); exact hK _ (by simp only [go_sem]) (by simp only [go_sem] <;> rfl)) ?_
      refine cl_ret ?_
      simp only [go_sem]
      rw [idxF_at (p := fun x => Sig.so x == s_) hlt (by simpa using hb) hR]
    · skip
      repeat refine sq ?_
      refine cl_skip ?_
      refine cl_nil ?_
      simp only [go_sem]
      refine kp [0,1,7,8] [] ?_
      repeat refine sq ?_
      refine cl_r hΓ fun K' hK => ?_
      simp only [go_sem, map_getD hlt, Int.toNat_natCast, Int.natCast_nonneg, hlt']
      repeat (refine ⟨obx, ?_⟩)
      refine hK _ ?_
      clear K' hK
      simp only [go_sem]
      refine ⟨i + 1, ⟨hlt, ?_⟩, by (show l.length - (i + 1) < l.length - i; omega), ?_⟩
      · skip
        intro k hk hki
        rcases Nat.lt_succ_iff_lt_or_eq.1 hki with h5 | rfl
        · exact hR k hk h5
        · simpa using hb
      refine weak_eq [0,1,7,8] [] ?_ ?_
      · simp only [go_sem, wrap_succ hlt hl, Int.natCast_add, Int.natCast_one]
      · simp only [go_sem, wrap_succ hlt hl, Int.natCast_add, Int.natCast_one]
  · skip
    have hge : i = l.length := by
      have : ¬ (i : Int) < l.length := by simpa using hb
      omega
    clear hb
    subst hge
    repeat refine sq ?_
    refine cl_exit ?_
    simp only [go_sem]
    refine kp [] [] ?_
    repeat refine sq ?_
    refine rx hΓ [4] [] (fun K' hK => by simp only [go_sem]; (repeat (refine ⟨obx, ?_⟩)); exact hK _ (by simp only [go_sem]) (by simp only [go_sem] <;> rfl)) ?_
    refine cl_ret ?_
    simp only [go_sem]
    rw [idxF_none (p := fun x => Sig.so x == s_) fun k hk => hR k hk hk]
theorem k181 : SSound Tryz.prog 181 S181 := s181.sound

noncomputable def K12b : List (Nat × Spec) := [(166, S166), (180, S180), (181, S181)]
theorem K12b_sound : ∀ f s, tbl K12b f = some s → SSound Tryz.prog f s := tc k166 <| tc k180 <| tc k181 <| tn
attribute [go_sem] K12b

noncomputable def P170 : PSpec := p2 (iSl iR) iClo (fun _ g => g.1 = 171) (fun l g => .bool (l.any fun x => Rec.so x == g.2)) true
noncomputable def S170 : Spec := P170.toSpec
attribute [go_sem] P170 S170

theorem s170 : PSound Tryz.prog 170 P170 := by
  refine w2 (rs := [.tmp 4]) Tryz.func170 Tryz.ntmps170 (by rfl) (by kernel_rfl) (by decide) (fun _ _ _ => rfl) ⟨_, rfl, lb rfl, fun l g hp hw => ?_⟩
  have hP := mixedK
  simp only [iClo, iR, iSl, encR] at hw ⊢
  have hΓ := K12b_sound
  obtain ⟨g, s⟩ := g
  try simp only [iClo] at hw hp ⊢
  repeat refine sq ?_
  refine rx hΓ [0,1] [] (fun K' hK => by simp only [go_sem]; (repeat (refine ⟨obx, ?_⟩)); exact hK _ (by simp only [go_sem]) (by simp only [go_sem] <;> rfl)) ?_
  repeat refine sq ?_
  refine rx hΓ [4] [] (fun K' hK => by simp only [go_sem, hp, true_or, idxF_ge]; (repeat (refine ⟨obx, ?_⟩)); exact hK _ (by simp only [go_sem]) (by simp only [go_sem] <;> rfl)) ?_
  refine cl_ret ?_
  simp only [go_sem]
  all_goals first | rfl | (simp; done) | (simp_all; done)
theorem k170 : SSound Tryz.prog 170 S170 := s170.sound

noncomputable def P172 : PSpec := p2 (iSl iT) iClo (fun _ g => g.1 = 173) (fun l g => .bool (l.any fun x => Ret.so x == g.2)) true
noncomputable def S172 : Spec := P172.toSpec
attribute [go_sem] P172 S172

theorem s172 : PSound Tryz.prog 172 P172 := by
  refine w2 (rs := [.tmp 4]) Tryz.func172 Tryz.ntmps172 (by rfl) (by kernel_rfl) (by decide) (fun _ _ _ => rfl) ⟨_, rfl, lb rfl, fun l g hp hw => ?_⟩
  have hP := mixedK
  simp only [iClo, iSl, iT, encT] at hw ⊢
  have hΓ := K12b_sound
  obtain ⟨g, s⟩ := g
  try simp only [iClo] at hw hp ⊢
  repeat refine sq ?_
  refine rx hΓ [0,1] [] (fun K' hK => by simp only [go_sem]; (repeat (refine ⟨obx, ?_⟩)); exact hK _ (by simp only [go_sem]) (by simp only [go_sem] <;> rfl)) ?_
  repeat refine sq ?_
  refine rx hΓ [4] [] (fun K' hK => by simp only [go_sem, hp, true_or, idxF_ge]; (repeat (refine ⟨obx, ?_⟩)); exact hK _ (by simp only [go_sem]) (by simp only [go_sem] <;> rfl)) ?_
  refine cl_ret ?_
  simp only [go_sem]
  all_goals first | rfl | (simp; done) | (simp_all; done)
theorem k172 : SSound Tryz.prog 172 S172 := s172.sound

noncomputable def P174 : PSpec := p2 (iSl iS) iClo (fun _ g => g.1 = 175) (fun l g => .bool (l.any fun x => Sig.so x == g.2)) true
noncomputable def S174 : Spec := P174.toSpec
attribute [go_sem] P174 S174

theorem s174 : PSound Tryz.prog 174 P174 := by
  refine w2 (rs := [.tmp 4]) Tryz.func174 Tryz.ntmps174 (by rfl) (by kernel_rfl) (by decide) (fun _ _ _ => rfl) ⟨_, rfl, lb rfl, fun l g hp hw => ?_⟩
  have hP := mixedK
  simp only [iClo, iS, iSl, encS] at hw ⊢
  have hΓ := K12b_sound
  obtain ⟨g, s⟩ := g
  try simp only [iClo] at hw hp ⊢
  repeat refine sq ?_
  refine rx hΓ [0,1] [] (fun K' hK => by simp only [go_sem]; (repeat (refine ⟨obx, ?_⟩)); exact hK _ (by simp only [go_sem]) (by simp only [go_sem] <;> rfl)) ?_
  repeat refine sq ?_
  refine rx hΓ [4] [] (fun K' hK => by simp only [go_sem, hp, true_or, idxF_ge]; (repeat (refine ⟨obx, ?_⟩)); exact hK _ (by simp only [go_sem]) (by simp only [go_sem] <;> rfl)) ?_
  refine cl_ret ?_
  simp only [go_sem]
  all_goals first | rfl | (simp; done) | (simp_all; done)
theorem k174 : SSound Tryz.prog 174 S174 := s174.sound

noncomputable def K12 : List (Nat × Spec) := [(170, S170), (172, S172), (174, S174)]
theorem K12_sound : ∀ f s, tbl K12 f = some s → SSound Tryz.prog f s := tc k170 <| tc k172 <| tc k174 <| tn
attribute [go_sem] K12

def hasB (l : Led) (s : Int) : Bool := l.rs.any (fun r => r.so == s) || l.ts.any (fun r => r.so == s) || l.ss.any (fun r => r.so == s)
noncomputable def P85 : PSpec := p2 iLp iI (fun _ _ => True) (fun l s => .bool (hasB l s)) true
noncomputable def S85 : Spec := P85.toSpec
attribute [go_sem] P85 S85

theorem s85 : PSound Tryz.prog 85 P85 := by
  refine w2 (rs := [.tmp 4]) Tryz.func85 Tryz.ntmps85 (by rfl) (by kernel_rfl) (by decide) (fun _ _ _ => rfl) ⟨_, rfl, lb rfl, fun l s hp hw => ?_⟩
  have hP := mixedK
  simp only [iI, iLp, encLp] at hw ⊢
  have hΓ := K12_sound
  repeat refine sq ?_
  refine rx hΓ [0,3] [[3, 0]] (fun K' hK => by simp only [go_sem]; (repeat (refine ⟨obx, ?_⟩)); exact hK _ (by simp only [go_sem]) (by simp only [go_sem] <;> rfl)) ?_
  repeat refine sq ?_
  refine rx hΓ [4] [] (fun K' hK => by simp only [go_sem]; (repeat (refine ⟨obx, ?_⟩)); exact hK _ (by simp only [go_sem]) (by simp only [go_sem] <;> rfl)) ?_
  refine cl_ret ?_
  simp only [go_sem]
  all_goals first | rfl | (simp; done) | (grind [hasB]; done)
theorem k85 : SSound Tryz.prog 85 S85 := s85.sound
end Go.Eng
--OBX exact okP _ | exact okR _ | exact okT _ | exact okS _ | exact okI _
namespace Go.Eng
open Go Go.Proofs
/-! a sight more -/
noncomputable def S141 : Spec := insSpec Tryz.prog 29
theorem k141 : SSound Tryz.prog 141 S141 := ins_sound ins141
attribute [go_sem] S141 insSpec

noncomputable def K13 : List (Nat × Spec) := [(37, S37), (67, S67), (79, S79), (85, S85), (86, S86), (138, S138), (141, S141)]
theorem K13_sound : ∀ f s, tbl K13 f = some s → SSound Tryz.prog f s := tc k37 <| tc k67 <| tc k79 <| tc k85 <| tc k86 <| tc k138 <| tc k141 <| tn
attribute [go_sem] K13

def insAt {α : Type} (l : List α) (k : Nat) (x : α) : List α := l.take k ++ [x] ++ l.drop k
theorem insAt_len {α : Type} {l : List α} {k : Nat} {x : α} (h : k ≤ l.length) : (insAt l k x).length = l.length + 1 := by
  unfold insAt
  simp
  omega
theorem insS_app {obj : Name → Option O} {t nm : Name} {ss : List Sig} {k : Nat} {s : Sig} (ho : obj nm = some (.arr 7 (ss.map encS))) (hk : k ≤ ss.length) (hs : ss.length ≤ 60) :
    aInsert Tryz.prog obj t 29 (.msl nm ss.length) (.v (vInt k)) (.v (.sl [.agg [vInt s.so, vInt s.pe, vInt s.pa, vInt s.le, vInt s.da, vInt s.kn, vInt s.un]])) =
      ⟨True, .msl nm (ss.length + 1), upd obj nm (some (.arr 7 ((insAt ss k s).map encS)))⟩ := by
  show aInsert Tryz.prog obj t 29 (.msl nm ss.length) (.v (vInt k)) (.v (.sl [encS s])) = _
  have hap : aAppend Tryz.prog obj t 29 29 (.msl nm ss.length) (.v (.sl [encS s])) = ⟨True, .msl nm (ss.length + 1), upd obj nm (some (.arr 7 (ss.map encS ++ [encS s])))⟩ := by
    simp only [aAppend, te29, tz81, ho, srcL, List.length_map, List.length_cons, List.length_nil]
    refine congrArg (fun p => R.mk p _ _) (eq_true ⟨trivial, ?_, rfl, by omega, by unfold maxLen; omega, trivial, trivial⟩)
    intro y hy
    simp only [List.mem_singleton] at hy
    subst hy
    exact ⟨rfl, rfl⟩
  have hk0 : (0 : Int) ≤ (k : Int) := by omega
  have hne : [encS s] ≠ [] := by simp
  have hln : ([encS s] : List V).length = 1 := rfl
  cases hb : Nat.beq k ss.length with
  | true =>
    have e := Nat.eq_of_beq_eq_true hb
    have e2 : (insAt ss k s).map encS = ss.map encS ++ [encS s] := by
      unfold insAt
      rw [e, List.take_length, List.drop_length, List.append_nil, List.map_append]
      rfl
    simp only [aInsert, ho, hap, Int.toNat_natCast, List.length_map, hb, hk0, hne, e2, true_and, ne_eq, not_false_eq_true]
  | false =>
    have hlt : k < ss.length := by
      rcases Nat.lt_or_eq_of_le hk with h | h
      · exact h
      · subst h; simp at hb
    have e2 : (insAt ss k s).map encS = (ss.map encS).take k ++ [encS s] ++ (ss.map encS).drop k := by
      unfold insAt
      rw [List.map_append, List.map_append, List.map_take, List.map_drop]
      rfl
    simp only [aInsert, ho, hap, Int.toNat_natCast, List.length_map, hb, hk0, hne, hlt, e2, true_and, ne_eq, not_false_eq_true, hln]
theorem okL_short {l : Led} (h : OkL l) : shortC l := by
  refine ⟨h.psn, h.rsn, h.tsn, h.ssn, fun r hr => ?_, fun r hr => ?_⟩
  · obtain ⟨j, hj, rfl⟩ := List.getElem_of_mem hr
    exact (leavesB_iff.1 (recB_lvs (allB_at h.rs hj))).2.1
  · obtain ⟨j, hj, rfl⟩ := List.getElem_of_mem hr
    have := allB_at h.ts hj
    unfold retB at this
    simp only [Bool.and_eq_true] at this
    exact (leavesB_iff.1 this.1.1.1.2).2.1
theorem chkI_ne (l : Led) : (chkI l != 0) = !okLB l := errI_ne _ _ (by decide)
def zeroL : Led := ⟨[], [], [], []⟩
noncomputable def seenL (l : Led) (s : Sig) : Led × Int :=
  if okLB l = false then (zeroL, 24) else if (!sigB s || decide (s.le > lvOf l.ps s.pa) || hasB l s.so) = true then (zeroL, 23)
  else if l.ss.length = 60 then (zeroL, 2) else ({ l with ss := insAt l.ss (lowN Sig.so l.ss s.so) s }, 0)
theorem lowN_le {α : Type} (num : α → Int) (l : List α) (x : Int) : lowN num l x ≤ l.length := (List.takeWhile_sublist _).length_le
noncomputable def P58 : PSpec := p2 iL iS (fun _ _ => True) (fun l s => .tup [encL (seenL l s).1, vInt (seenL l s).2]) false
noncomputable def S58 : Spec := P58.toSpec
attribute [go_sem] P58 S58

set_option maxHeartbeats 8000000 in
theorem s58 : PSound Tryz.prog 58 P58 := by
  refine w2 (rs := [.cell 4 31, .tmp 5]) Tryz.func58 Tryz.ntmps58 (by rfl) (by kernel_rfl) (by decide) (fun h => by cases h) ⟨_, rfl, lb rfl, fun l s hp hw => ?_⟩
  have hP := mixedK
  simp only [iL, iS, encL, encS] at hw ⊢
  have hΓ := K13_sound
  repeat refine sq ?_
  refine rx hΓ [2,3,4] [[2, 0],[3, 0],[4, 0],[8, 0, 41, 0],[11, 0, 41, 0],[14, 0, 41, 0],[17, 0, 41, 0]] (fun K' hK => by simp only [go_sem]; (repeat (refine ⟨obx, ?_⟩)); exact hK _ (by simp only [go_sem]) (by simp only [go_sem] <;> rfl)) ?_
  repeat refine sq ?_
  refine rx hΓ [2,3,4,6] [[2, 0],[3, 0],[4, 0],[8, 0, 41, 0],[11, 0, 41, 0],[14, 0, 41, 0],[17, 0, 41, 0]] (fun K' hK => by simp only [go_sem]; (repeat (refine ⟨obx, ?_⟩)); exact hK _ (by simp only [go_sem]) (by simp only [go_sem] <;> rfl)) ?_
  repeat refine sq ?_
  refine rx hΓ [2,3,4,6,13] [[2, 0],[3, 0],[4, 0],[8, 0, 41, 0],[11, 0, 41, 0],[14, 0, 41, 0],[17, 0, 41, 0]] (fun K' hK => by simp only [go_sem, chkI_ne]; (repeat (refine ⟨obx, ?_⟩)); exact hK _ (by simp only [go_sem]) (by simp only [go_sem] <;> rfl)) ?_
  repeat refine sq ?_
  refine cl_cond rfl rfl (fun hb => ?_) fun hb => ?_
  · skip
    repeat refine sq ?_
    have ho : okLB l = false := by simpa using hb
    have e : chkI l = 24 := by unfold chkI; rw [ho]; rfl
    have e2 : seenL l s = (zeroL, 24) := by unfold seenL; rw [if_pos ho]
    repeat refine sq ?_
    refine rx hΓ [4,5] [[4, 0],[8, 0, 41, 0],[11, 0, 41, 0],[14, 0, 41, 0],[17, 0, 41, 0]] (fun K' hK => by simp only [go_sem]; (repeat (refine ⟨obx, ?_⟩)); exact hK _ (by simp only [go_sem]) (by simp only [go_sem] <;> rfl)) ?_
    refine cl_ret ?_
    simp only [go_sem]
    rw [e2, e]; rfl
  · skip
    repeat refine sq ?_
    have ho : okLB l = true := by simpa using hb
    have hO := okLB_iff.1 ho
    have hsrt : srt Pap.id l.ps := okL_srt (allB_iff.1 hO.ps)
    have hsrs : srt Sig.so l.ss := okL_srt (allB_iff.1 hO.ss)
    have hsn := hO.ssn
    have hsh := okL_short hO
    have hlow := lowN_le Sig.so l.ss s.so
    refine cl_skip ?_
    repeat refine sq ?_
    refine cl_block ?_
    repeat refine sq ?_
    refine dx hΓ hP [[], [0], [0, 1], [0, 1, 2], [0, 1, 2, 3], [0, 1, 2, 3, 4], [0, 1, 2, 3], [0, 1, 2, 3, 6], [0, 1, 2, 3, 6, 7], [0, 1, 2, 3, 4, 5, 6, 7, 8], [0, 1, 2, 3, 4, 5, 6, 7, 8, 9], [0, 1, 2, 3, 4, 5, 6, 7, 8, 9, 10], [0, 1, 2, 3, 4, 5, 6, 7, 8, 9, 10, 11], [0, 1, 2, 3, 4, 5, 6, 7, 8, 9, 10, 11, 12], [0, 1, 2, 3, 4, 5, 6, 7, 8, 9, 10, 11, 12, 13], [0, 1, 2, 3, 4, 5, 6, 7, 8, 9, 10, 11, 12, 13, 14], [0, 1, 2, 3, 4, 5, 6, 7, 8, 9, 10, 11, 12, 13, 14, 15]] [2,3,4,16] [[2, 0],[3, 0],[4, 0],[8, 0, 41, 0],[11, 0, 41, 0],[14, 0, 41, 0],[17, 0, 41, 0]] (by kernel_rfl) (fun K' hK => by simp only [go_sem, hsrt, fun b => errI_ne b 23 (by decide)]; (repeat (refine ⟨obx, ?_⟩)); (first | refine ⟨by rfl, ?_⟩ | skip); exact hK _ (by simp only [go_sem]) (by simp only [go_sem] <;> rfl)) ?_
    repeat refine sq ?_
    refine cl_cond rfl rfl (fun hb => ?_) fun hb => ?_
    · skip
      repeat refine sq ?_
      have e2 : seenL l s = (zeroL, 23) := by unfold seenL; rw [if_neg (by simp [ho]), if_pos hb]
      repeat refine sq ?_
      refine rx hΓ [4,5] [[4, 0],[8, 0, 41, 0],[11, 0, 41, 0],[14, 0, 41, 0],[17, 0, 41, 0]] (fun K' hK => by simp only [go_sem]; (repeat (refine ⟨obx, ?_⟩)); exact hK _ (by simp only [go_sem]) (by simp only [go_sem] <;> rfl)) ?_
      refine cl_ret ?_
      simp only [go_sem]
      rw [e2]; rfl
    · skip
      repeat refine sq ?_
      have hb'' := hb
      repeat refine sq ?_
      refine rx hΓ [2,3,4,34] [[2, 0],[3, 0],[4, 0],[8, 0, 41, 0],[11, 0, 41, 0],[14, 0, 41, 0],[17, 0, 41, 0]] (fun K' hK => by simp only [go_sem]; (repeat (refine ⟨obx, ?_⟩)); exact hK _ (by simp only [go_sem]) (by simp only [go_sem] <;> rfl)) ?_
      repeat refine sq ?_
      refine cl_cond rfl rfl (fun hb => ?_) fun hb => ?_
      · skip
        repeat refine sq ?_
        have h60 : l.ss.length = 60 := by simp at hb; omega
        have e2 : seenL l s = (zeroL, 2) := by
          unfold seenL
          rw [if_neg (by simp [ho]), if_neg (by simp [hb'']), if_pos h60]
        repeat refine sq ?_
        refine rx hΓ [4,5] [[4, 0],[8, 0, 41, 0],[11, 0, 41, 0],[14, 0, 41, 0],[17, 0, 41, 0]] (fun K' hK => by simp only [go_sem]; (repeat (refine ⟨obx, ?_⟩)); exact hK _ (by simp only [go_sem]) (by simp only [go_sem] <;> rfl)) ?_
        refine cl_ret ?_
        simp only [go_sem]
        rw [e2]; rfl
      · skip
        repeat refine sq ?_
        have h60 : ¬ l.ss.length = 60 := by simp at hb; omega
        have e2 : seenL l s = ({ l with ss := insAt l.ss (lowN Sig.so l.ss s.so) s }, 0) := by
          unfold seenL
          rw [if_neg (by simp [ho]), if_neg (by simp [hb'']), if_neg h60]
        refine cl_skip ?_
        refine cl_nil ?_
        simp only [go_sem]
        refine kp [2,3,4] [[2, 0],[3, 0],[4, 0],[8, 0, 41, 0],[11, 0, 41, 0],[14, 0, 41, 0],[17, 0, 41, 0]] ?_
        repeat refine sq ?_
        refine rx hΓ [3,4,7] [[3, 0],[4, 0],[7, 0],[8, 0, 41, 0],[11, 0, 41, 0],[14, 0, 41, 0],[17, 0, 41, 0]] (fun K' hK => by simp only [go_sem, hsh]; (repeat (refine ⟨obx, ?_⟩)); exact hK _ (by simp only [go_sem]) (by simp only [go_sem] <;> rfl)) ?_
        repeat refine sq ?_
        refine rx hΓ [3,4,7,8] [[3, 0],[4, 0],[7, 0],[8, 0, 41, 0],[11, 0, 41, 0],[14, 0, 41, 0],[17, 0, 41, 0]] (fun K' hK => by simp only [go_sem, hsrs]; (repeat (refine ⟨obx, ?_⟩)); exact hK _ (by simp only [go_sem]) (by simp only [go_sem] <;> rfl)) ?_
        repeat refine sq ?_
        refine rx hΓ [4,7] [[4, 0],[7, 0],[8, 0, 41, 0],[11, 0, 41, 0],[14, 0, 41, 0],[17, 0, 41, 0]] (fun K' hK => by simp only [go_sem, insS_app, hlow, hsn, insAt_len]; (repeat (refine ⟨obx, ?_⟩)); exact hK _ (by simp only [go_sem]) (by simp only [go_sem] <;> rfl)) ?_
        repeat refine sq ?_
        refine rx hΓ [4,5] [[4, 0],[8, 0, 41, 0],[11, 0, 41, 0],[14, 0, 41, 0],[17, 0, 41, 0]] (fun K' hK => by simp only [go_sem, insAt_len, hlow]; (repeat (refine ⟨obx, ?_⟩)); exact hK _ (by simp only [go_sem]) (by simp only [go_sem] <;> rfl)) ?_
        refine cl_ret ?_
        simp only [go_sem]
        rw [e2]
        exact ⟨(insAt_len hlow).symm, rfl⟩
theorem k58 : SSound Tryz.prog 58 S58 := s58.sound
end Go.Eng
--OBX exact okP _ | exact okR _ | exact okT _ | exact okS _ | exact okI _
namespace Go.Eng
open Go Go.Proofs
/-! a sight more, by the reference -/
noncomputable def K14 : List (Nat × Spec) := [(69, S69), (68, S68), (100, S100), (125, S125), (15, S15), (95, S95)]
theorem K14_sound : ∀ f s, tbl K14 f = some s → SSound Tryz.prog f s := tc k69 <| tc k68 <| tc k100 <| tc k125 <| tc k15 <| tc k95 <| tn
attribute [go_sem] K14

theorem hasB_srcs (l : Led) (s : Int) : (srcs l).contains s = hasB l s := by
  unfold srcs hasB
  have key : ∀ {α : Type} (f : α → Int) (l : List α), (l.map f).contains s = l.any fun r => f r == s := by
    intro α f l
    induction l with
    | nil => rfl
    | cons a r ih =>
      simp only [List.map_cons, List.contains_cons, List.any_cons, ih]
      congr 1
      rw [Bool.eq_iff_iff]
      simp only [beq_iff_eq]
      exact eq_comm
  rw [List.contains_append, List.contains_append, key, key, key]
theorem seen_cond (l : Led) (s : Sig) : (!sigB s || !isFol l s.pa s.le || (srcs l).contains s.so) = (!sigB s || decide (s.le > lvOf l.ps s.pa) || hasB l s.so) := by
  rw [hasB_srcs]
  cases h : sigB s with
  | false => rfl
  | true =>
    have h6 : 1 ≤ s.le := by unfold sigB inI at h; simp only [Bool.and_eq_true, decide_eq_true_eq] at h; omega
    have : (!isFol l s.pa s.le) = decide (s.le > lvOf l.ps s.pa) := by
      unfold isFol inI
      rw [Bool.eq_iff_iff]
      simp
      omega
    rw [this]
theorem lowN_lt {α : Type} {num : α → Int} {l : List α} {x : Int} {j : Nat} (hj : j < lowN num l x) (h : j < l.length) : num l[j] < x := by
  unfold lowN at hj
  induction l generalizing j with
  | nil => simp at h
  | cons a r ih =>
    by_cases hd : num a < x
    · simp only [List.takeWhile_cons, hd, decide_true, if_true, List.length_cons] at hj
      cases j with
      | zero => exact hd
      | succ j => exact ih (by omega) (by simpa using h)
    · simp [List.takeWhile_cons, hd] at hj
theorem lowN_ge0 {α : Type} {num : α → Int} {x : Int} : ∀ {l : List α} (h : lowN num l x < l.length), x ≤ num l[lowN num l x]
  | [], h => by simp at h
  | a :: r, h => by
    by_cases hd : num a < x
    · have e : lowN num (a :: r) x = lowN num r x + 1 := by unfold lowN; simp [List.takeWhile_cons, hd]
      have := lowN_ge0 (num := num) (x := x) (l := r) (by rw [e] at h; simpa using h)
      simpa [e] using this
    · have e : lowN num (a :: r) x = 0 := by unfold lowN; simp [List.takeWhile_cons, hd]
      simp only [e, List.getElem_cons_zero]
      omega
theorem lowN_ge {α : Type} {num : α → Int} {l : List α} {x : Int} (hs : srt num l) {j : Nat} (hj : lowN num l x ≤ j) (h : j < l.length) : x ≤ num l[j] := by
  have h0 : lowN num l x < l.length := by omega
  have := lowN_ge0 h0
  rcases Nat.lt_or_eq_of_le hj with h1 | h1
  · have := hs _ _ h0 h h1; omega
  · subst h1; exact this
/-- What is written when so many were read. -/
def rowS {α : Type} (l : List α) (k : Nat) (s : α) (i : Nat) : List α := if i ≤ k then l.take i else (insAt l k s).take (i + 1)
theorem rowS_hit {α : Type} {l : List α} {k : Nat} {s : α} (h : k < l.length) : rowS l k s (k + 1) = rowS l k s k ++ [s] ++ [l[k]] := by
  unfold rowS insAt
  rw [if_neg (by omega), if_pos (Nat.le_refl k)]
  have hd : l.drop k = l[k] :: l.drop (k + 1) := by rw [List.drop_eq_getElem_cons h]
  have hl : (l.take k).length = k := by simp; omega
  rw [hd, List.append_assoc, List.take_append, hl, List.take_of_length_le (by omega)]
  have : k + 1 + 1 - k = 2 := by omega
  rw [this, List.append_assoc]
  rfl
theorem rowS_step {α : Type} {l : List α} {k i : Nat} {s : α} (h : i < l.length) (hk : k ≤ l.length) (hik : i ≠ k) : rowS l k s (i + 1) = rowS l k s i ++ [l[i]] := by
  unfold rowS
  by_cases h1 : i < k
  · rw [if_pos (by omega), if_pos (by omega), List.take_add_one, List.getElem?_eq_getElem h]
    rfl
  · rw [if_neg (by omega), if_neg (by omega)]
    have hlen := insAt_len (x := s) hk
    have hv : (insAt l k s)[i + 1]? = some l[i] := by
      unfold insAt
      have hlk : (l.take k).length = k := by simp; omega
      rw [List.getElem?_append_right (by rw [List.length_append, hlk]; simp; omega), List.length_append, hlk, List.getElem?_drop]
      simp only [List.length_cons, List.length_nil]
      rw [show k + (i + 1 - (k + (0 + 1))) = i by omega, List.getElem?_eq_getElem h]
    rw [List.take_add_one, hv]
    rfl
theorem rowS_len {α : Type} {l : List α} {k i : Nat} {s : α} (h : i ≤ l.length) (hk : k ≤ l.length) : (rowS l k s i).length = if i ≤ k then i else i + 1 := by
  unfold rowS
  split
  · simp; omega
  · rw [List.length_take, insAt_len hk]; omega
theorem rowS_end {α : Type} {l : List α} {k : Nat} {s : α} (hk : k ≤ l.length) : insAt l k s = if k < l.length then rowS l k s l.length else rowS l k s l.length ++ [s] := by
  unfold rowS
  by_cases h : k < l.length
  · rw [if_pos h, if_neg (by omega), List.take_of_length_le (by rw [insAt_len hk]; omega)]
  · have : k = l.length := by omega
    rw [if_neg h, if_pos (by omega)]
    unfold insAt
    rw [this]
    simp
noncomputable def P59 : PSpec := p2 iL iS (fun _ _ => True) (fun l s => .tup [encL (seenL l s).1, vInt (seenL l s).2]) false
noncomputable def S59 : Spec := P59.toSpec
attribute [go_sem] P59 S59

set_option maxHeartbeats 8000000 in
theorem s59 : PSound Tryz.prog 59 P59 := by
  refine w2 (rs := [.cell 4 31, .tmp 5]) Tryz.func59 Tryz.ntmps59 (by rfl) (by kernel_rfl) (by decide) (fun h => by cases h) ⟨_, rfl, lb rfl, fun l s hp hw => ?_⟩
  have hP := mixedK
  simp only [iL, iS, encL, encS] at hw ⊢
  have hΓ := K14_sound
  repeat refine sq ?_
  refine rx hΓ [2,3,4] [[2, 0],[3, 0],[4, 0],[66, 0],[76, 0],[84, 0]] (fun K' hK => by simp only [go_sem]; (repeat (refine ⟨obx, ?_⟩)); exact hK _ (by simp only [go_sem]) (by simp only [go_sem] <;> rfl)) ?_
  repeat refine sq ?_
  refine rx hΓ [2,3,4,11] [[2, 0],[3, 0],[4, 0],[66, 0],[76, 0],[84, 0]] (fun K' hK => by simp only [go_sem, chkI_ne]; (repeat (refine ⟨obx, ?_⟩)); exact hK _ (by simp only [go_sem]) (by simp only [go_sem] <;> rfl)) ?_
  repeat refine sq ?_
  refine cl_cond rfl rfl (fun hb => ?_) fun hb => ?_
  · skip
    repeat refine sq ?_
    have ho : okLB l = false := by simpa using hb
    have e2 : seenL l s = (zeroL, 24) := by unfold seenL; rw [if_pos ho]
    repeat refine sq ?_
    refine rx hΓ [4,5] [[4, 0],[66, 0],[76, 0],[84, 0]] (fun K' hK => by simp only [go_sem]; (repeat (refine ⟨obx, ?_⟩)); exact hK _ (by simp only [go_sem]) (by simp only [go_sem] <;> rfl)) ?_
    refine cl_ret ?_
    simp only [go_sem]
    rw [e2]; rfl
  · skip
    repeat refine sq ?_
    have ho : okLB l = true := by simpa using hb
    have hO := okLB_iff.1 ho
    have hsrs : srt Sig.so l.ss := okL_srt (allB_iff.1 hO.ss)
    have hsn := hO.ssn
    have hshc := okL_short hO
    have hsh : shortL l := ⟨hO.rsn, hO.tsn, hO.ssn⟩
    have hls : l.ss.length ≤ maxLen := by unfold maxLen; omega
    refine cl_skip ?_
    repeat refine sq ?_
    refine dx hΓ hP [[], [0], [0, 1], [0, 1, 2], [0, 1, 2, 3], [0, 1, 2, 3], [0, 1, 2, 3, 5], [0, 1, 2, 3], [0, 1, 2, 3, 7], [0, 1, 2, 3, 5, 6, 7, 8], [0, 1, 2, 3, 4, 5, 6, 7, 8, 9], [0, 1, 2, 3, 4, 5, 6, 7, 8, 9, 10], [0, 1, 2, 3, 4, 5, 6, 7, 8, 9, 10, 11], [0, 1, 2, 3, 4, 5, 6, 7, 8, 9, 10, 11, 12], [0, 1, 2, 3, 4, 5, 6, 7, 8, 9, 10, 11, 12, 13], [0, 1, 2, 3, 4, 5, 6, 7, 8, 9, 10, 11, 12, 13, 14], [0, 1, 2, 3, 4, 5, 6, 7, 8, 9, 10, 11, 12, 13], [0, 1, 2, 3, 4, 5, 6, 7, 8, 9, 10, 11, 12, 13, 16], [0, 1, 2, 3, 4, 5, 6, 7, 8, 9, 10, 11, 12, 13, 14, 15, 16, 17], [0, 1, 2, 3, 4, 5, 6, 7, 8, 9, 10, 11, 12, 13, 14, 15, 16, 17, 18]] [2,3,4,32] [[2, 0],[3, 0],[4, 0],[66, 0],[76, 0],[84, 0]] (by kernel_rfl) (fun K' hK => by simp only [go_sem, hsh, fun b => errI_ne b 23 (by decide)]; (repeat (refine ⟨obx, ?_⟩)); (first | refine ⟨by rfl, ?_⟩ | skip); exact hK _ (by simp only [go_sem]) (by simp only [go_sem] <;> rfl)) ?_
    repeat refine sq ?_
    refine cl_cond rfl rfl (fun hb => ?_) fun hb => ?_
    · skip
      repeat refine sq ?_
      rw [seen_cond] at hb
      have e2 : seenL l s = (zeroL, 23) := by unfold seenL; rw [if_neg (by simp [ho]), if_pos hb]
      repeat refine sq ?_
      refine rx hΓ [4,5] [[4, 0],[66, 0],[76, 0],[84, 0]] (fun K' hK => by simp only [go_sem]; (repeat (refine ⟨obx, ?_⟩)); exact hK _ (by simp only [go_sem]) (by simp only [go_sem] <;> rfl)) ?_
      refine cl_ret ?_
      simp only [go_sem]
      rw [e2]; rfl
    · skip
      repeat refine sq ?_
      have hnot : hasB l s.so = false := by
        rw [hasB_srcs] at hb
        simp only [Bool.or_eq_false_iff] at hb
        exact hb.2
      rw [seen_cond] at hb
      have hb'' := hb
      refine cl_skip ?_
      repeat refine sq ?_
      refine rx hΓ [2,3,4,37] [[2, 0],[3, 0],[4, 0],[66, 0],[76, 0],[84, 0]] (fun K' hK => by simp only [go_sem]; (repeat (refine ⟨obx, ?_⟩)); exact hK _ (by simp only [go_sem]) (by simp only [go_sem] <;> rfl)) ?_
      repeat refine sq ?_
      refine cl_cond rfl rfl (fun hb => ?_) fun hb => ?_
      · skip
        repeat refine sq ?_
        have h60 : l.ss.length = 60 := by simp at hb; omega
        have e2 : seenL l s = (zeroL, 2) := by
          unfold seenL
          rw [if_neg (by simp [ho]), if_neg (by simp [hb'']), if_pos h60]
        repeat refine sq ?_
        refine rx hΓ [4,5] [[4, 0],[66, 0],[76, 0],[84, 0]] (fun K' hK => by simp only [go_sem]; (repeat (refine ⟨obx, ?_⟩)); exact hK _ (by simp only [go_sem]) (by simp only [go_sem] <;> rfl)) ?_
        refine cl_ret ?_
        simp only [go_sem]
        rw [e2]; rfl
      · skip
        repeat refine sq ?_
        have h60 : ¬ l.ss.length = 60 := by simp at hb; omega
        have e2 : seenL l s = ({ l with ss := insAt l.ss (lowN Sig.so l.ss s.so) s }, 0) := by
          unfold seenL
          rw [if_neg (by simp [ho]), if_neg (by simp [hb'']), if_neg h60]
        obtain ⟨k, hk⟩ : ∃ k, k = lowN Sig.so l.ss s.so := ⟨_, rfl⟩
        have hkl : k ≤ l.ss.length := by rw [hk]; exact lowN_le _ _ _
        have hk1 : ∀ j (h : j < l.ss.length), j < k → l.ss[j].so < s.so := fun j h hj => lowN_lt (hk ▸ hj) h
        have hk2 : ∀ j (h : j < l.ss.length), k ≤ j → s.so < l.ss[j].so := fun j h hj => by
          have h1 := lowN_ge hsrs (x := s.so) (hk ▸ hj) h
          have h2 : l.ss[j].so ≠ s.so := by
            intro e
            unfold hasB at hnot
            simp only [Bool.or_eq_false_iff, List.any_eq_false] at hnot
            exact hnot.2 _ (List.getElem_mem h) (by simpa using e)
          omega
        rw [← hk] at e2
        clear hk hb'' hnot hsrs
        refine cl_skip ?_
        repeat refine sq ?_
        refine rx hΓ [2,3,4,6] [[2, 0],[3, 0],[4, 0],[6, 0],[66, 0],[76, 0],[84, 0]] (fun K' hK => by simp only [go_sem, hshc]; (repeat (refine ⟨obx, ?_⟩)); exact hK _ (by simp only [go_sem]) (by simp only [go_sem] <;> rfl)) ?_
        repeat refine sq ?_
        refine rx hΓ [2,3,4,6] [[2, 0],[3, 0],[4, 0],[6, 0],[66, 0],[76, 0],[84, 0]] (fun K' hK => by simp only [go_sem]; (repeat (refine ⟨obx, ?_⟩)); exact hK _ (by simp only [go_sem]) (by simp only [go_sem] <;> rfl)) ?_
        refine cl_weakM (weakM_ghostI [6, 0] [66, 0] 3 7 _ rfl rfl rfl [2,3,4,6] [[2, 0],[3, 0],[4, 0],[6, 0],[66, 0],[76, 0],[84, 0]] ?_ rfl) ?_
        · simp only [go_sem, List.set_cons_succ, List.set_cons_zero]
        simp only [go_sem, List.set_cons_succ, List.set_cons_zero]
        repeat refine sq ?_
        refine rx hΓ [2,3,4,6,7] [[2, 0],[3, 0],[4, 0],[6, 0],[66, 0],[76, 0],[84, 0]] (fun K' hK => by simp only [go_sem]; (repeat (refine ⟨obx, ?_⟩)); exact hK _ (by simp only [go_sem]) (by simp only [go_sem] <;> rfl)) ?_
        repeat refine sq ?_
        refine rx hΓ [2,3,4,6,7,8] [[2, 0],[3, 0],[4, 0],[6, 0],[66, 0],[76, 0],[84, 0]] (fun K' hK => by simp only [go_sem]; (repeat (refine ⟨obx, ?_⟩)); exact hK _ (by simp only [go_sem]) (by simp only [go_sem] <;> rfl)) ?_
        repeat refine sq ?_
        refine cl_block ?_
        repeat refine sq ?_
        refine cl_loop' (fun s_ : Nat => [(8, ⟨true, .v (vInt s_)⟩), (7, ⟨true, .v (.bool (decide (k < s_)))⟩)]) (fun s_ => [([6, 0], .box [.v (.sl (l.ps.map encP)), .v (.sl (l.rs.map encR)), .v (.sl (l.ts.map encT)), .msl [66, 0] (rowS l.ss k s s_).length]), ([66, 0], .arr 7 ((rowS l.ss k s s_).map encS))]) (fun s_ => s_ ≤ l.ss.length) (fun s_ => l.ss.length - s_) 0 ?_ ?_ ?_ ?_
        · exact Nat.zero_le _
        · rfl
        · rfl
        rintro i hi
        simp only [go_sem]
        repeat refine sq ?_
        refine rx hΓ [2,3,4,6,7,8,46] [[2, 0],[3, 0],[4, 0],[6, 0],[66, 0],[76, 0],[84, 0]] (fun K' hK => by simp only [go_sem]; (repeat (refine ⟨obx, ?_⟩)); exact hK _ (by simp only [go_sem]) (by simp only [go_sem] <;> rfl)) ?_
        repeat refine sq ?_
        refine cl_cond rfl rfl (fun hb => ?_) fun hb => ?_
        · skip
          have hlt : i < l.ss.length := by simpa using hb
          have hlt' : (i : Int) < l.ss.length := by omega
          clear hb
          have hrl := rowS_len (s := s) (Nat.le_of_lt hlt) hkl
          have hrb : (rowS l.ss k s i).length ≤ 61 := by rw [hrl]; split <;> omega
          repeat refine sq ?_
          refine cl_skip ?_
          repeat refine sq ?_
          refine cl_block ?_
          repeat refine sq ?_
          refine dx hΓ hP [[], [0], [0, 1], [0, 1, 2], [0, 1, 2, 3], [0, 1, 2], [0, 1, 2, 3, 4, 5], [0, 1, 2, 3, 4, 5, 6], [0, 1, 2, 3, 4, 5, 6, 7], [0, 1, 2], [0, 1, 2, 9], [0, 1, 2, 3, 4, 5, 6, 7, 8, 9, 10], [0, 1, 2, 3, 4, 5, 6, 7, 8, 9, 10, 11]] [2,3,4,6,7,8,61] [[2, 0],[3, 0],[4, 0],[6, 0],[66, 0],[76, 0],[84, 0]] (by kernel_rfl) (fun K' hK => by simp only [go_sem, map_getD hlt, Int.toNat_natCast, Int.natCast_nonneg, hlt']; (repeat (refine ⟨obx, ?_⟩)); (first | refine ⟨by rfl, ?_⟩ | skip); exact hK _ (by simp only [go_sem]) (by simp only [go_sem] <;> rfl)) ?_
          repeat refine sq ?_
          refine cl_cond rfl rfl (fun hb => ?_) fun hb => ?_
          · skip
            repeat refine sq ?_
            have hik : i = k := by
              simp only [Bool.and_eq_true, Bool.not_eq_true', decide_eq_false_iff_not, decide_eq_true_eq] at hb
              rcases Nat.lt_trichotomy i k with h | h | h
              · have := hk1 i hlt h; omega
              · exact h
              · omega
            subst hik
            repeat refine sq ?_
            refine rx hΓ [2,3,4,6,8] [[2, 0],[3, 0],[4, 0],[6, 0],[66, 0],[76, 0],[84, 0]] (fun K' hK => by simp only [go_sem, map_getD hlt, Int.toNat_natCast, Int.natCast_nonneg, hlt']; (repeat (refine ⟨obx, ?_⟩)); exact hK _ (by simp only [go_sem]) (by simp only [go_sem] <;> rfl)) ?_
            repeat refine sq ?_
            refine rx hΓ [2,3,4,6,7,8] [[2, 0],[3, 0],[4, 0],[6, 0],[66, 0],[76, 0],[84, 0]] (fun K' hK => by simp only [go_sem, map_getD hlt, Int.toNat_natCast, Int.natCast_nonneg, hlt']; (repeat (refine ⟨obx, ?_⟩)); exact hK _ (by simp only [go_sem]) (by simp only [go_sem] <;> rfl)) ?_
            repeat refine sq ?_
            refine cl_d hΓ hP [[], [0], [], [2], [], [2, 3, 4], [2, 3, 4, 5], [2, 3, 4, 5, 6], [0, 1, 2, 3, 4, 5, 6, 7], [0, 1, 2, 3, 4, 5, 6, 7, 8], [0, 1, 2, 3, 4, 5, 6, 7, 8, 9]] (by kernel_rfl) fun K' hK => ?_
            simp only [go_sem, map_getD hlt, Int.toNat_natCast, Int.natCast_nonneg, hlt', List.length_append, List.length_map, List.length_cons, List.length_nil]
            repeat (refine ⟨obx, ?_⟩)
            first | refine ⟨by rfl, ?_⟩ | skip
            refine hK _ ?_
            clear K' hK
            simp only [go_sem]
            refine kp [2,3,4,6,7,8] [[2, 0],[3, 0],[4, 0],[6, 0],[66, 0],[76, 0],[84, 0]] ?_
            repeat refine sq ?_
            refine cl_r hΓ fun K' hK => ?_
            simp only [go_sem, map_getD hlt, Int.toNat_natCast, Int.natCast_nonneg, hlt']
            repeat (refine ⟨obx, ?_⟩)
            refine hK _ ?_
            clear K' hK
            simp only [go_sem]
            refine ⟨i + 1, hlt, by (show l.ss.length - (i + 1) < l.ss.length - i; omega), ?_⟩
            refine weak_eq [2,3,4,6,7,8] [[2, 0],[3, 0],[4, 0],[6, 0],[66, 0],[76, 0],[84, 0]] ?_ ?_
            · simp only [go_sem, wrap_succ hlt hls, Int.natCast_add, Int.natCast_one, rowS_hit hlt, Nat.lt_succ_self, decide_true, List.map_append, List.length_append, List.map_cons, List.map_nil, List.length_cons, List.length_nil, List.append_assoc, Nat.lt_irrefl]
            · simp only [go_sem, wrap_succ hlt hls, Int.natCast_add, Int.natCast_one, rowS_hit hlt, Nat.lt_succ_self, decide_true, List.map_append, List.length_append, List.map_cons, List.map_nil, List.length_cons, List.length_nil, List.append_assoc, Nat.lt_irrefl]
          · skip
            repeat refine sq ?_
            have hik : i ≠ k := by
              rintro rfl
              have := hk2 i hlt (Nat.le_refl _)
              simp at hb
              omega
            have hdk : decide (k < i + 1) = decide (k < i) := by rw [Bool.eq_iff_iff]; simp; omega
            refine cl_skip ?_
            repeat refine sq ?_
            refine cl_d hΓ hP [[], [0], [], [2], [], [2, 3, 4], [2, 3, 4, 5], [2, 3, 4, 5, 6], [0, 1, 2, 3, 4, 5, 6, 7], [0, 1, 2, 3, 4, 5, 6, 7, 8], [0, 1, 2, 3, 4, 5, 6, 7, 8, 9]] (by kernel_rfl) fun K' hK => ?_
            simp only [go_sem, map_getD hlt, Int.toNat_natCast, Int.natCast_nonneg, hlt', List.length_append, List.length_map, List.length_cons, List.length_nil]
            repeat (refine ⟨obx, ?_⟩)
            first | refine ⟨by rfl, ?_⟩ | skip
            refine hK _ ?_
            clear K' hK
            simp only [go_sem]
            refine kp [2,3,4,6,7,8] [[2, 0],[3, 0],[4, 0],[6, 0],[66, 0],[76, 0],[84, 0]] ?_
            repeat refine sq ?_
            refine cl_r hΓ fun K' hK => ?_
            simp only [go_sem, map_getD hlt, Int.toNat_natCast, Int.natCast_nonneg, hlt']
            repeat (refine ⟨obx, ?_⟩)
            refine hK _ ?_
            clear K' hK
            simp only [go_sem]
            refine ⟨i + 1, hlt, by (show l.ss.length - (i + 1) < l.ss.length - i; omega), ?_⟩
            refine weak_eq [2,3,4,6,7,8] [[2, 0],[3, 0],[4, 0],[6, 0],[66, 0],[76, 0],[84, 0]] ?_ ?_
            · simp only [go_sem, wrap_succ hlt hls, Int.natCast_add, Int.natCast_one, rowS_step hlt hkl hik, hdk, List.map_append, List.length_append, List.map_cons, List.map_nil, List.length_cons, List.length_nil]
            · simp only [go_sem, wrap_succ hlt hls, Int.natCast_add, Int.natCast_one, rowS_step hlt hkl hik, hdk, List.map_append, List.length_append, List.map_cons, List.map_nil, List.length_cons, List.length_nil]
        · skip
          have hge : i = l.ss.length := by
            have : ¬ (i : Int) < l.ss.length := by simpa using hb
            omega
          clear hb
          subst hge
          have hrl := rowS_len (s := s) (Nat.le_refl l.ss.length) hkl
          have hrb : (rowS l.ss k s l.ss.length).length ≤ 61 := by rw [hrl]; split <;> omega
          have hre := rowS_end (s := s) hkl
          repeat refine sq ?_
          refine cl_exit ?_
          simp only [go_sem]
          refine kp [3,4,6,7] [[3, 0],[4, 0],[6, 0],[66, 0],[76, 0],[84, 0]] ?_
          repeat refine sq ?_
          refine rx hΓ [3,4,6,79] [[3, 0],[4, 0],[6, 0],[66, 0],[76, 0],[84, 0]] (fun K' hK => by simp only [go_sem]; (repeat (refine ⟨obx, ?_⟩)); exact hK _ (by simp only [go_sem]) (by simp only [go_sem] <;> rfl)) ?_
          repeat refine sq ?_
          refine cl_cond rfl rfl (fun hb => ?_) fun hb => ?_
          · skip
            repeat refine sq ?_
            rw [if_neg (by simpa using hb)] at hre
            repeat refine sq ?_
            refine rx hΓ [4,6] [[4, 0],[6, 0],[66, 0],[76, 0],[84, 0]] (fun K' hK => by simp only [go_sem]; (repeat (refine ⟨obx, ?_⟩)); exact hK _ (by simp only [go_sem]) (by simp only [go_sem] <;> rfl)) ?_
            repeat refine sq ?_
            refine rx hΓ [4,5] [[4, 0],[66, 0],[76, 0],[84, 0]] (fun K' hK => by simp only [go_sem]; (repeat (refine ⟨obx, ?_⟩)); exact hK _ (by simp only [go_sem]) (by simp only [go_sem] <;> rfl)) ?_
            refine cl_ret ?_
            simp only [go_sem]
            rw [e2]; simp [hre, encS]
          · skip
            repeat refine sq ?_
            rw [if_pos (by simpa using hb)] at hre
            refine cl_skip ?_
            repeat refine sq ?_
            refine rx hΓ [4,5] [[4, 0],[66, 0],[76, 0],[84, 0]] (fun K' hK => by simp only [go_sem]; (repeat (refine ⟨obx, ?_⟩)); exact hK _ (by simp only [go_sem]) (by simp only [go_sem] <;> rfl)) ?_
            refine cl_ret ?_
            simp only [go_sem]
            rw [e2]; simp [hre, encS]
theorem k59 : SSound Tryz.prog 59 S59 := s59.sound
end Go.Eng
/- The base of loan's evaluation. -/
namespace Go.Eng
open Go Go.Proofs

noncomputable def loanT (f : FuncId) : Option SpecB :=
  match Nat.beq f 132 with
  | true => some (cloneB Tryz.prog 29)
  | false => match Nat.beq f 176 with
    | true => some (cloneB Tryz.prog 26)
    | false => match Nat.beq f 177 with
      | true => some (cloneB Tryz.prog 27)
      | false => match Nat.beq f 178 with
        | true => some (cloneB Tryz.prog 28)
        | false => match Nat.beq f 179 with
          | true => some cloneI
          | false => none
noncomputable def keyBase (_ : FuncId → Option SpecB) (f : FuncId) : Option SpecB := loanT f
theorem clone179s : PSound Tryz.prog 179 pCloneI := cloneI_sound clone179 rfl
theorem keyBase_sound : ∀ Γ : FuncId → Option SpecB, (∀ f s, ofB Γ f = some s → SSound Tryz.prog f s) → ∀ f s, keyBase Γ f = some s → SSound Tryz.prog f s.spec := by
  intro Γ _ f s h
  unfold keyBase loanT at h
  split at h
  · rename_i hb; have := Nat.eq_of_beq_eq_true hb; subst this; cases h; exact clone_sound clone132
  · split at h
    · rename_i hb; have := Nat.eq_of_beq_eq_true hb; subst this; cases h; exact clone_sound clone176
    · split at h
      · rename_i hb; have := Nat.eq_of_beq_eq_true hb; subst this; cases h; exact clone_sound clone177
      · split at h
        · rename_i hb; have := Nat.eq_of_beq_eq_true hb; subst this; cases h; exact clone_sound clone178
        · split at h
          · rename_i hb; have := Nat.eq_of_beq_eq_true hb; subst this; cases h; exact clone179s.sound
          · cases h

noncomputable def keyΓ (F : List Nat) (T : List Ent) : FuncId → Option SpecB := ΓB Tryz.prog (baseM Tryz.prog keyBase 100000 F T) 100000 24
theorem keyΓ_sound {F : List Nat} {T : List Ent} (hT : ∀ e ∈ T, Ran Tryz.prog e) : ∀ f s, ofB (keyΓ F T) f = some s → SSound Tryz.prog f s :=
  ΓB_sound (baseM_sound (fun Γ h f s => keyBase_sound Γ h f s) hT) 24
theorem key_ran {F : List Nat} {T : List Ent} (hT : ∀ e ∈ T, Ran Tryz.prog e) {e : Ent} (h : runE Tryz.prog (keyΓ F T) 100000 e = true) : Ran Tryz.prog e := runE_ok (keyΓ_sound hT) h
theorem ran_cons {P : Program} {e : Ent} {T : List Ent} (h : Ran P e) (hT : ∀ e ∈ T, Ran P e) : ∀ x ∈ e :: T, Ran P x := by
  intro x hx
  rcases List.mem_cons.1 hx with rfl | hx
  · exact h
  · exact hT x hx
def keT0 : List Ent := []
theorem keO0 : ∀ e ∈ keT0, Ran Tryz.prog e := fun e h => by cases h
end Go.Eng
