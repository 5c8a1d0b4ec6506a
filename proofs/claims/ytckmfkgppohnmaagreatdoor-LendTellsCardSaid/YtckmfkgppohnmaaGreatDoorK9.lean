import Derived.Test.YtckmfkgppohnmaaGreatDoorK8
/- Texts NW19 to KB. -/
set_option linter.all false
namespace Go.Eng
open Go Go.Proofs
/-! which page is firm -/
def fmC (d : Dk) (i : Nat) (o : Int) : Bool := (((i : Int) != d.wet) && pgB d.me (d.pg i)) && (decide (o < 0) || decide ((d.pg i).co > (d.pg o.toNat).co))
def firmTo (d : Dk) : Nat → Int
  | 0 => -1
  | i + 1 => if fmC d i (firmTo d i) = true then i else firmTo d i
def firmI (d : Dk) : Int := firmTo d 2
theorem firmTo_rng (d : Dk) : ∀ i, -1 ≤ firmTo d i ∧ firmTo d i < i
  | 0 => ⟨by show (-1 : Int) ≤ -1; omega, by show (-1 : Int) < 0; omega⟩
  | i + 1 => by
    have h := firmTo_rng d i
    unfold firmTo
    split
    · exact ⟨by omega, by omega⟩
    · exact ⟨h.1, by omega⟩
theorem dk_pages (d : Dk) : ((dkL d).drop 20).take 42 = pgL d.pa ++ pgL d.pb := rfl
theorem pages_at (d : Dk) {i : Nat} (h : i < 2) : ((pgL d.pa ++ pgL d.pb).drop (i * 21)).take 21 = pgL (d.pg i) := by
  match i, h with
  | 0, _ => rfl
  | 1, _ => rfl
theorem pages_len (d : Dk) {i : Nat} (h : i < 2) : i * 21 + 21 ≤ (pgL d.pa ++ pgL d.pb).length := by
  show i * 21 + 21 ≤ 42
  omega
theorem dkL_pgs (d : Dk) {i : Nat} (h : i < 2) : ((dkL d).drop (20 + i * 21)).take 21 = pgL (d.pg i) := by
  match i, h with
  | 0, _ => rfl
  | 1, _ => rfl
theorem fm_t {d : Dk} {i : Nat} (h : fmC d i (firmTo d i) = true) : firmTo d (i + 1) = i := if_pos h
theorem fm_f {d : Dk} {i : Nat} (h : fmC d i (firmTo d i) = false) : firmTo d (i + 1) = firmTo d i := if_neg (by rw [h]; decide)
noncomputable def K19 : List (Nat × Spec) := [(90, S90)]
theorem K19_sound : ∀ f s, tbl K19 f = some s → SSound Tryz.prog f s := tc k90 <| tn
attribute [go_sem] K19
noncomputable def P58 : PSpec := p1 iDk (fun _ => True) (fun d => vInt (firmI d)) true
noncomputable def S58 : Spec := P58.toSpec
attribute [go_sem] P58 S58
set_option maxHeartbeats 4000000 in
theorem s58 : PSound Tryz.prog 58 P58 := by
  refine w1 (rs := [.tmp 2]) Tryz.func58 Tryz.ntmps58 (by rfl) (by kernel_rfl) (by decide) (fun _ _ => rfl) ⟨_, rfl, lb rfl, fun d hp hw => ?_⟩
  have hP := mixedK
  simp only [iDk] at hw ⊢
  have hΓ := K19_sound
  repeat refine sq ?_
  refine rs hΓ [1] [[1, 0]] ?_
  refine cl_weakM (weakM_fboxk [1, 0] (dkL d) rfl [1] [[1, 0]] ?_ rfl) ?_
  · simp only [go_sem]
  simp only [go_sem]
  repeat refine sq ?_
  refine rs hΓ [1,3] [[1, 0]] ?_
  repeat refine sq ?_
  refine rx hΓ [1,3,7,8] [[1, 0]] (fun K' hK => by simp only [go_sem, dk_pages]; (repeat (refine ⟨ob, ?_⟩)); exact hK _ (by simp only [go_sem]) (by simp only [go_sem] <;> rfl)) ?_
  repeat refine sq ?_
  refine cl_block ?_
  repeat refine sq ?_
  refine cl_loop'  (fun z : Nat => [(8, ⟨true, .v (vInt z)⟩), (3, ⟨true, .v (vInt (firmTo d z))⟩)]) (fun z => []) (fun z => z ≤ 2) (fun z => 2 - z) 0 ?_ ?_ ?_ ?_
  · exact Nat.zero_le _
  · rfl
  · rfl
  rintro i hi
  simp only [go_sem]
  repeat refine sq ?_
  refine rs hΓ [1,3,7,8,9] [[1, 0]] ?_
  repeat refine sq ?_
  refine cl_cond rfl rfl (fun hb => ?_) fun hb => ?_
  · skip
    have hlt : i < 2 := by have hq : (i : Int) < 2 := (by simpa using hb); omega
    have hlt' : (i : Int) < 2 := by omega
    clear hb
    have hpl := pages_len d hlt
    repeat refine sq ?_
    refine cl_skip ?_
    repeat refine sq ?_
    refine cl_block ?_
    repeat refine sq ?_
    refine rx hΓ [1,3,4,5,7,8] [[1, 0],[5, 0]] (fun K' hK => by simp only [go_sem, Int.toNat_natCast, Int.natCast_nonneg, hlt', pages_at d hlt, hpl, Int.toNat_natCast, Int.natCast_nonneg, hlt', List.append_nil]; (repeat (refine ⟨ob, ?_⟩)); exact hK _ (by simp only [go_sem]) (by simp only [go_sem] <;> rfl)) ?_
    refine cl_weakM (weakM_fboxk [5, 0] (pgL (d.pg i)) rfl [1,3,4,5,7,8] [[1, 0],[5, 0]] ?_ rfl) ?_
    · simp only [go_sem]
    simp only [go_sem]
    rcases ho : decide (firmTo d i < 0) with _ | _
    · skip
      have hr := firmTo_rng d i
      have ho1 : 0 ≤ firmTo d i := by have := of_decide_eq_false ho; omega
      have ho2 : firmTo d i < 2 := by omega
      have ho3 : (firmTo d i).toNat < 2 := by omega
      have hfc : fmC d i (firmTo d i) = ((((i : Int) != d.wet) && pgB d.me (d.pg i)) && decide ((d.pg i).co > (d.pg (firmTo d i).toNat).co)) := by unfold fmC; rw [ho, Bool.false_or]
      repeat refine sq ?_
      refine dx hΓ hP [[], [], [1], [0, 1, 2], [0, 1, 2, 3], [0, 1, 2, 3, 4], [0, 1, 2, 3, 4, 5], [0, 1, 2, 3, 4], [0, 1, 2, 3, 4, 5, 6, 7], [0, 1, 2, 3, 4, 5, 6, 7, 8], [0, 1, 2, 3, 4, 5, 6, 7, 8, 9], [0, 1, 2, 3, 4, 5, 6, 7, 8, 9, 10], [0, 1, 2, 3, 4, 5, 6, 7, 8, 9, 10, 11], [0, 1, 2, 3, 4, 5, 6, 7, 8, 9, 10, 11, 12], [0, 1, 2, 3, 4, 5, 6, 7, 8, 9, 10, 11, 12, 13], [0, 1, 2, 3, 4, 5, 6, 7, 8, 9, 10, 11, 12, 13, 14], [0, 1, 2, 3, 4, 5, 6, 7, 8, 9, 10, 11, 12, 13], [0, 1, 2, 3, 4, 5, 6, 7, 8, 9, 10, 11, 12, 13], [0, 1, 2, 3, 4, 5, 6, 7, 8, 9, 10, 11, 12, 13, 16, 17], [0, 1, 2, 3, 4, 5, 6, 7, 8, 9, 10, 11, 12, 13, 16, 17, 18], [0, 1, 2, 3, 4, 5, 6, 7, 8, 9, 10, 11, 12, 13, 16, 17, 18, 19], [0, 1, 2, 3, 4, 5, 6, 7, 8, 9, 10, 11, 12, 13, 14, 15, 16, 17, 18, 19, 20], [0, 1, 2, 3, 4, 5, 6, 7, 8, 9, 10, 11, 12, 13, 14, 15, 16, 17, 18, 19, 20, 21], [0, 1, 2, 3, 4, 5, 6, 7, 8, 9, 10, 11, 12, 13, 14, 15, 16, 17, 18, 19, 20, 21, 22]] [1,3,4,7,8,35] [[1, 0]] (by kernel_rfl) (fun K' hK => by simp only [go_sem, Int.toNat_natCast, Int.natCast_nonneg, hlt', ho, ho1, ho2, dkL_co d ho3, Nat.add_zero]; (repeat (refine ⟨ob, ?_⟩)); (first | refine ⟨by rfl, ?_⟩ | skip); exact hK _ (by simp only [go_sem]) (by simp only [go_sem] <;> rfl)) ?_
      repeat refine sq ?_
      refine cl_cond rfl rfl (fun hb => ?_) fun hb => ?_
      · skip
        repeat refine sq ?_
        have e := fm_t (hfc.trans (by simpa [Bool.and_assoc] using hb))
        repeat refine sq ?_
        refine cl_r hΓ fun K' hK => ?_
        simp only [go_sem, Int.toNat_natCast, Int.natCast_nonneg, hlt', ho, ho1, ho2, dkL_co d ho3, Nat.add_zero]
        repeat refine ⟨ob, ?_⟩
        refine hK _ ?_
        clear K' hK
        simp only [go_sem]
        refine kp [1,3,7,8] [[1, 0]] ?_
        repeat refine sq ?_
        refine cl_r hΓ fun K' hK => ?_
        simp only [go_sem, Int.toNat_natCast, Int.natCast_nonneg, hlt', ho, ho1, ho2, dkL_co d ho3, Nat.add_zero]
        repeat refine ⟨ob, ?_⟩
        refine hK _ ?_
        clear K' hK
        simp only [go_sem]
        refine ⟨i + 1, hlt, by (show 2 - (i + 1) < 2 - i; omega), ?_⟩
        refine weak_eq [1,3,7,8] [[1, 0]] ?_ ?_
        · simp only [go_sem, wrap_succ hlt (lb rfl : (2 : Nat) ≤ maxLen), Int.natCast_add, Int.natCast_one, e]
        · simp only [go_sem, wrap_succ hlt (lb rfl : (2 : Nat) ≤ maxLen), Int.natCast_add, Int.natCast_one, e]
      · skip
        repeat refine sq ?_
        have e := fm_f (hfc.trans (by simpa [Bool.and_assoc] using hb))
        refine cl_skip ?_
        refine cl_nil ?_
        simp only [go_sem]
        refine kp [1,3,7,8] [[1, 0]] ?_
        repeat refine sq ?_
        refine cl_r hΓ fun K' hK => ?_
        simp only [go_sem, Int.toNat_natCast, Int.natCast_nonneg, hlt', ho, ho1, ho2, dkL_co d ho3, Nat.add_zero]
        repeat refine ⟨ob, ?_⟩
        refine hK _ ?_
        clear K' hK
        simp only [go_sem]
        refine ⟨i + 1, hlt, by (show 2 - (i + 1) < 2 - i; omega), ?_⟩
        refine weak_eq [1,3,7,8] [[1, 0]] ?_ ?_
        · simp only [go_sem, wrap_succ hlt (lb rfl : (2 : Nat) ≤ maxLen), Int.natCast_add, Int.natCast_one, e]
        · simp only [go_sem, wrap_succ hlt (lb rfl : (2 : Nat) ≤ maxLen), Int.natCast_add, Int.natCast_one, e]
    · skip
      have hfc : fmC d i (firmTo d i) = (((i : Int) != d.wet) && pgB d.me (d.pg i)) := by unfold fmC; rw [ho, Bool.true_or, Bool.and_true]
      repeat refine sq ?_
      refine dx hΓ hP [[], [], [1], [0, 1, 2], [0, 1, 2, 3], [0, 1, 2, 3, 4], [0, 1, 2, 3, 4, 5], [0, 1, 2, 3, 4], [0, 1, 2, 3, 4, 5, 6, 7], [0, 1, 2, 3, 4, 5, 6, 7, 8], [0, 1, 2, 3, 4, 5, 6, 7, 8, 9], [0, 1, 2, 3, 4, 5, 6, 7, 8, 9, 10], [0, 1, 2, 3, 4, 5, 6, 7, 8, 9, 10, 11], [0, 1, 2, 3, 4, 5, 6, 7, 8, 9, 10, 11, 12], [0, 1, 2, 3, 4, 5, 6, 7, 8, 9, 10, 11, 12, 13], [0, 1, 2, 3, 4, 5, 6, 7, 8, 9, 10, 11, 12, 13, 14], [0, 1, 2, 3, 4, 5, 6, 7, 8, 9, 10, 11, 12, 13], [0, 1, 2, 3, 4, 5, 6, 7, 8, 9, 10, 11, 12, 13], [0, 1, 2, 3, 4, 5, 6, 7, 8, 9, 10, 11, 12, 13, 16, 17], [0, 1, 2, 3, 4, 5, 6, 7, 8, 9, 10, 11, 12, 13, 16, 17, 18], [0, 1, 2, 3, 4, 5, 6, 7, 8, 9, 10, 11, 12, 13, 16, 17, 18, 19], [0, 1, 2, 3, 4, 5, 6, 7, 8, 9, 10, 11, 12, 13, 14, 15, 16, 17, 18, 19, 20], [0, 1, 2, 3, 4, 5, 6, 7, 8, 9, 10, 11, 12, 13, 14, 15, 16, 17, 18, 19, 20, 21], [0, 1, 2, 3, 4, 5, 6, 7, 8, 9, 10, 11, 12, 13, 14, 15, 16, 17, 18, 19, 20, 21, 22]] [1,3,4,7,8,35] [[1, 0]] (by kernel_rfl) (fun K' hK => by simp only [go_sem, Int.toNat_natCast, Int.natCast_nonneg, hlt', ho]; (repeat (refine ⟨ob, ?_⟩)); (first | refine ⟨by rfl, ?_⟩ | skip); exact hK _ (by simp only [go_sem]) (by simp only [go_sem] <;> rfl)) ?_
      repeat refine sq ?_
      refine cl_cond rfl rfl (fun hb => ?_) fun hb => ?_
      · skip
        repeat refine sq ?_
        have e := fm_t (hfc.trans (by simpa using hb))
        repeat refine sq ?_
        refine cl_r hΓ fun K' hK => ?_
        simp only [go_sem, Int.toNat_natCast, Int.natCast_nonneg, hlt', ho]
        repeat refine ⟨ob, ?_⟩
        refine hK _ ?_
        clear K' hK
        simp only [go_sem]
        refine kp [1,3,7,8] [[1, 0]] ?_
        repeat refine sq ?_
        refine cl_r hΓ fun K' hK => ?_
        simp only [go_sem, Int.toNat_natCast, Int.natCast_nonneg, hlt', ho]
        repeat refine ⟨ob, ?_⟩
        refine hK _ ?_
        clear K' hK
        simp only [go_sem]
        refine ⟨i + 1, hlt, by (show 2 - (i + 1) < 2 - i; omega), ?_⟩
        refine weak_eq [1,3,7,8] [[1, 0]] ?_ ?_
        · simp only [go_sem, wrap_succ hlt (lb rfl : (2 : Nat) ≤ maxLen), Int.natCast_add, Int.natCast_one, e]
        · simp only [go_sem, wrap_succ hlt (lb rfl : (2 : Nat) ≤ maxLen), Int.natCast_add, Int.natCast_one, e]
      · skip
        repeat refine sq ?_
        have e := fm_f (hfc.trans (by simpa using hb))
        refine cl_skip ?_
        refine cl_nil ?_
        simp only [go_sem]
        refine kp [1,3,7,8] [[1, 0]] ?_
        repeat refine sq ?_
        refine cl_r hΓ fun K' hK => ?_
        simp only [go_sem, Int.toNat_natCast, Int.natCast_nonneg, hlt', ho]
        repeat refine ⟨ob, ?_⟩
        refine hK _ ?_
        clear K' hK
        simp only [go_sem]
        refine ⟨i + 1, hlt, by (show 2 - (i + 1) < 2 - i; omega), ?_⟩
        refine weak_eq [1,3,7,8] [[1, 0]] ?_ ?_
        · simp only [go_sem, wrap_succ hlt (lb rfl : (2 : Nat) ≤ maxLen), Int.natCast_add, Int.natCast_one, e]
        · simp only [go_sem, wrap_succ hlt (lb rfl : (2 : Nat) ≤ maxLen), Int.natCast_add, Int.natCast_one, e]
  · skip
    have hge : i = 2 := by
      have : ¬ (i : Int) < 2 := by simpa using hb
      omega
    clear hb
    subst hge
    repeat refine sq ?_
    refine cl_exit ?_
    simp only [go_sem]
    refine kp [3] [] ?_
    repeat refine sq ?_
    refine rs hΓ [2] [] ?_
    refine cl_ret ?_
    simp only [go_sem]
    first | rfl
theorem k58 : SSound Tryz.prog 58 S58 := s58.sound
noncomputable def K19b : List (Nat × Spec) := [(45, S45)]
theorem K19b_sound : ∀ f s, tbl K19b f = some s → SSound Tryz.prog f s := tc k45 <| tn
attribute [go_sem] K19b
noncomputable def P61 : PSpec := p1 iDk (fun _ => True) (fun d => vInt (firmI d)) true
noncomputable def S61 : Spec := P61.toSpec
attribute [go_sem] P61 S61
set_option maxHeartbeats 4000000 in
theorem s61 : PSound Tryz.prog 61 P61 := by
  refine w1 (rs := [.tmp 2]) Tryz.func61 Tryz.ntmps61 (by rfl) (by kernel_rfl) (by decide) (fun _ _ => rfl) ⟨_, rfl, lb rfl, fun d hp hw => ?_⟩
  have hP := mixedK
  simp only [iDk] at hw ⊢
  have hΓ := K19b_sound
  repeat refine sq ?_
  refine rs hΓ [1] [[1, 0]] ?_
  refine cl_weakM (weakM_fboxk [1, 0] (dkL d) rfl [1] [[1, 0]] ?_ rfl) ?_
  · simp only [go_sem]
  simp only [go_sem]
  repeat refine sq ?_
  refine rs hΓ [1,3] [[1, 0]] ?_
  repeat refine sq ?_
  refine rs hΓ [1,3,4] [[1, 0]] ?_
  repeat refine sq ?_
  refine cl_block ?_
  repeat refine sq ?_
  refine cl_loop'  (fun z : Nat => [(4, ⟨true, .v (vInt z)⟩), (3, ⟨true, .v (vInt (firmTo d z))⟩)]) (fun z => []) (fun z => z ≤ 2) (fun z => 2 - z) 0 ?_ ?_ ?_ ?_
  · exact Nat.zero_le _
  · rfl
  · rfl
  rintro i hi
  simp only [go_sem]
  repeat refine sq ?_
  refine rs hΓ [1,3,4,6] [[1, 0]] ?_
  repeat refine sq ?_
  refine cl_cond rfl rfl (fun hb => ?_) fun hb => ?_
  · skip
    have hlt : i < 2 := by have hq : (i : Int) < 2 := (by simpa using hb); omega
    have hlt' : (i : Int) < 2 := by omega
    clear hb
    repeat refine sq ?_
    refine cl_skip ?_
    repeat refine sq ?_
    refine cl_block ?_
    repeat refine sq ?_
    rcases ho : decide (firmTo d i < 0) with _ | _
    · skip
      have hr := firmTo_rng d i
      have ho1 : 0 ≤ firmTo d i := by have := of_decide_eq_false ho; omega
      have ho2 : firmTo d i < 2 := by omega
      have ho3 : (firmTo d i).toNat < 2 := by omega
      have ho4 : ¬ firmTo d i < 0 := by omega
      have hfc : fmC d i (firmTo d i) = ((((i : Int) != d.wet) && pgB d.me (d.pg i)) && decide ((d.pg i).co > (d.pg (firmTo d i).toNat).co)) := by unfold fmC; rw [ho, Bool.false_or]
      repeat refine sq ?_
      refine dx hΓ hP [[], [], [1], [0, 1, 2], [0, 1, 2, 3], [0, 1, 2, 3, 4], [0, 1, 2, 3, 4, 5], [0, 1, 2, 3, 4], [0, 1, 2, 3, 4], [0, 1, 2, 3, 4, 7, 8], [0, 1, 2, 3, 4, 7, 8, 9], [0, 1, 2, 3, 4, 5, 6, 7, 8, 9, 10], [0, 1, 2, 3, 4, 5, 6, 7, 8, 9, 10, 11], [0, 1, 2, 3, 4, 5, 6, 7, 8, 9, 10, 11, 12], [0, 1, 2, 3, 4, 5, 6, 7, 8, 9, 10, 11, 12, 13], [0, 1, 2, 3, 4, 5, 6, 7, 8, 9, 10, 11, 12, 13, 14], [0, 1, 2, 3, 4, 5, 6, 7, 8, 9, 10, 11, 12, 13, 14, 15], [0, 1, 2, 3, 4, 5, 6, 7, 8, 9, 10, 11, 12, 13, 14, 15, 16], [0, 1, 2, 3, 4, 5, 6, 7, 8, 9, 10, 11, 12, 13, 14, 15, 16, 17], [0, 1, 2, 3, 4, 5, 6, 7, 8, 9, 10, 11, 12, 13, 14, 15, 16, 17], [0, 1, 2, 3, 4, 5, 6, 7, 8, 9, 10, 11, 12, 13, 14, 15, 16, 17, 18, 19], [0, 1, 2, 3, 4, 5, 6, 7, 8, 9, 10, 11, 12, 13, 14, 15, 16, 17, 18, 19, 20], [0, 1, 2, 3, 4, 5, 6, 7, 8, 9, 10, 11, 12, 13, 14, 15, 16, 17, 18, 19, 20, 21], [0, 1, 2, 3, 4, 5, 6, 7, 8, 9, 10, 11, 12, 13, 14, 15, 16, 17], [0, 1, 2, 3, 4, 5, 6, 7, 8, 9, 10, 11, 12, 13, 14, 15, 16, 17, 23], [0, 1, 2, 3, 4, 5, 6, 7, 8, 9, 10, 11, 12, 13, 14, 15, 16, 17], [0, 1, 2, 3, 4, 5, 6, 7, 8, 9, 10, 11, 12, 13, 14, 15, 16, 17, 23, 24, 25], [0, 1, 2, 3, 4, 5, 6, 7, 8, 9, 10, 11, 12, 13, 14, 15, 16, 17, 23, 24, 25, 26], [0, 1, 2, 3, 4, 5, 6, 7, 8, 9, 10, 11, 12, 13, 14, 15, 16, 17, 23, 24, 25, 26, 27], [0, 1, 2, 3, 4, 5, 6, 7, 8, 9, 10, 11, 12, 13, 14, 15, 16, 17, 18, 19, 20, 21, 22, 23, 24, 25, 26, 27, 28], [0, 1, 2, 3, 4, 5, 6, 7, 8, 9, 10, 11, 12, 13, 14, 15, 16, 17, 18, 19, 20, 21, 22, 23, 24, 25, 26, 27, 28, 29], [0, 1, 2, 3, 4, 5, 6, 7, 8, 9, 10, 11, 12, 13, 14, 15, 16, 17, 18, 19, 20, 21, 22, 23, 24, 25, 26, 27, 28, 29, 30]] [1,3,4,40] [[1, 0]] (by kernel_rfl) (fun K' hK => by simp only [go_sem, Int.toNat_natCast, Int.natCast_nonneg, hlt', ho, ho1, ho2, ho4, dkL_co d ho3, Nat.add_zero, dkL_co d hlt, dkL_pgs d hlt, pgE_z, Int.toNat_natCast, Int.natCast_nonneg, hlt']; (repeat (refine ⟨ob, ?_⟩)); (first | refine ⟨by rfl, ?_⟩ | skip); exact hK _ (by simp only [go_sem]) (by simp only [go_sem] <;> rfl)) ?_
      repeat refine sq ?_
      refine cl_cond rfl rfl (fun hb => ?_) fun hb => ?_
      · skip
        repeat refine sq ?_
        have e := fm_t (hfc.trans (by simpa [Bool.and_assoc] using hb))
        repeat refine sq ?_
        refine cl_r hΓ fun K' hK => ?_
        simp only [go_sem, Int.toNat_natCast, Int.natCast_nonneg, hlt', ho, ho1, ho2, ho4, dkL_co d ho3, Nat.add_zero, dkL_co d hlt, dkL_pgs d hlt, pgE_z, Int.toNat_natCast, Int.natCast_nonneg, hlt']
        repeat refine ⟨ob, ?_⟩
        refine hK _ ?_
        clear K' hK
        simp only [go_sem]
        refine kp [1,3,4] [[1, 0]] ?_
        repeat refine sq ?_
        refine cl_r hΓ fun K' hK => ?_
        simp only [go_sem, Int.toNat_natCast, Int.natCast_nonneg, hlt', ho, ho1, ho2, ho4, dkL_co d ho3, Nat.add_zero, dkL_co d hlt, dkL_pgs d hlt, pgE_z, Int.toNat_natCast, Int.natCast_nonneg, hlt']
        repeat refine ⟨ob, ?_⟩
        refine hK _ ?_
        clear K' hK
        simp only [go_sem]
        refine ⟨i + 1, hlt, by (show 2 - (i + 1) < 2 - i; omega), ?_⟩
        refine weak_eq [1,3,4] [[1, 0]] ?_ ?_
        · simp only [go_sem, wrap_succ hlt (lb rfl : (2 : Nat) ≤ maxLen), Int.natCast_add, Int.natCast_one, e]
        · simp only [go_sem, wrap_succ hlt (lb rfl : (2 : Nat) ≤ maxLen), Int.natCast_add, Int.natCast_one, e]
      · skip
        repeat refine sq ?_
        have e := fm_f (hfc.trans (by simpa [Bool.and_assoc] using hb))
        refine cl_skip ?_
        refine cl_nil ?_
        simp only [go_sem]
        refine kp [1,3,4] [[1, 0]] ?_
        repeat refine sq ?_
        refine cl_r hΓ fun K' hK => ?_
        simp only [go_sem, Int.toNat_natCast, Int.natCast_nonneg, hlt', ho, ho1, ho2, ho4, dkL_co d ho3, Nat.add_zero, dkL_co d hlt, dkL_pgs d hlt, pgE_z, Int.toNat_natCast, Int.natCast_nonneg, hlt']
        repeat refine ⟨ob, ?_⟩
        refine hK _ ?_
        clear K' hK
        simp only [go_sem]
        refine ⟨i + 1, hlt, by (show 2 - (i + 1) < 2 - i; omega), ?_⟩
        refine weak_eq [1,3,4] [[1, 0]] ?_ ?_
        · simp only [go_sem, wrap_succ hlt (lb rfl : (2 : Nat) ≤ maxLen), Int.natCast_add, Int.natCast_one, e]
        · simp only [go_sem, wrap_succ hlt (lb rfl : (2 : Nat) ≤ maxLen), Int.natCast_add, Int.natCast_one, e]
    · skip
      have hfc : fmC d i (firmTo d i) = (((i : Int) != d.wet) && pgB d.me (d.pg i)) := by unfold fmC; rw [ho, Bool.true_or, Bool.and_true]
      repeat refine sq ?_
      refine dx hΓ hP [[], [], [1], [0, 1, 2], [0, 1, 2, 3], [0, 1, 2, 3, 4], [0, 1, 2, 3, 4, 5], [0, 1, 2, 3, 4], [0, 1, 2, 3, 4], [0, 1, 2, 3, 4, 7, 8], [0, 1, 2, 3, 4, 7, 8, 9], [0, 1, 2, 3, 4, 5, 6, 7, 8, 9, 10], [0, 1, 2, 3, 4, 5, 6, 7, 8, 9, 10, 11], [0, 1, 2, 3, 4, 5, 6, 7, 8, 9, 10, 11, 12], [0, 1, 2, 3, 4, 5, 6, 7, 8, 9, 10, 11, 12, 13], [0, 1, 2, 3, 4, 5, 6, 7, 8, 9, 10, 11, 12, 13, 14], [0, 1, 2, 3, 4, 5, 6, 7, 8, 9, 10, 11, 12, 13, 14, 15], [0, 1, 2, 3, 4, 5, 6, 7, 8, 9, 10, 11, 12, 13, 14, 15, 16], [0, 1, 2, 3, 4, 5, 6, 7, 8, 9, 10, 11, 12, 13, 14, 15, 16, 17], [0, 1, 2, 3, 4, 5, 6, 7, 8, 9, 10, 11, 12, 13, 14, 15, 16, 17], [0, 1, 2, 3, 4, 5, 6, 7, 8, 9, 10, 11, 12, 13, 14, 15, 16, 17, 18, 19], [0, 1, 2, 3, 4, 5, 6, 7, 8, 9, 10, 11, 12, 13, 14, 15, 16, 17, 18, 19, 20], [0, 1, 2, 3, 4, 5, 6, 7, 8, 9, 10, 11, 12, 13, 14, 15, 16, 17, 18, 19, 20, 21], [0, 1, 2, 3, 4, 5, 6, 7, 8, 9, 10, 11, 12, 13, 14, 15, 16, 17], [0, 1, 2, 3, 4, 5, 6, 7, 8, 9, 10, 11, 12, 13, 14, 15, 16, 17, 23], [0, 1, 2, 3, 4, 5, 6, 7, 8, 9, 10, 11, 12, 13, 14, 15, 16, 17], [0, 1, 2, 3, 4, 5, 6, 7, 8, 9, 10, 11, 12, 13, 14, 15, 16, 17, 23, 24, 25], [0, 1, 2, 3, 4, 5, 6, 7, 8, 9, 10, 11, 12, 13, 14, 15, 16, 17, 23, 24, 25, 26], [0, 1, 2, 3, 4, 5, 6, 7, 8, 9, 10, 11, 12, 13, 14, 15, 16, 17, 23, 24, 25, 26, 27], [0, 1, 2, 3, 4, 5, 6, 7, 8, 9, 10, 11, 12, 13, 14, 15, 16, 17, 18, 19, 20, 21, 22, 23, 24, 25, 26, 27, 28], [0, 1, 2, 3, 4, 5, 6, 7, 8, 9, 10, 11, 12, 13, 14, 15, 16, 17, 18, 19, 20, 21, 22, 23, 24, 25, 26, 27, 28, 29], [0, 1, 2, 3, 4, 5, 6, 7, 8, 9, 10, 11, 12, 13, 14, 15, 16, 17, 18, 19, 20, 21, 22, 23, 24, 25, 26, 27, 28, 29, 30]] [1,3,4,40] [[1, 0]] (by kernel_rfl) (fun K' hK => by simp only [go_sem, Int.toNat_natCast, Int.natCast_nonneg, hlt', ho, dkL_pgs d hlt, pgE_z, Int.toNat_natCast, Int.natCast_nonneg, hlt']; (repeat (refine ⟨ob, ?_⟩)); (first | refine ⟨by rfl, ?_⟩ | skip); exact hK _ (by simp only [go_sem]) (by simp only [go_sem] <;> rfl)) ?_
      repeat refine sq ?_
      refine cl_cond rfl rfl (fun hb => ?_) fun hb => ?_
      · skip
        repeat refine sq ?_
        have e := fm_t (hfc.trans (by simpa using hb))
        repeat refine sq ?_
        refine cl_r hΓ fun K' hK => ?_
        simp only [go_sem, Int.toNat_natCast, Int.natCast_nonneg, hlt', ho, dkL_pgs d hlt, pgE_z, Int.toNat_natCast, Int.natCast_nonneg, hlt']
        repeat refine ⟨ob, ?_⟩
        refine hK _ ?_
        clear K' hK
        simp only [go_sem]
        refine kp [1,3,4] [[1, 0]] ?_
        repeat refine sq ?_
        refine cl_r hΓ fun K' hK => ?_
        simp only [go_sem, Int.toNat_natCast, Int.natCast_nonneg, hlt', ho, dkL_pgs d hlt, pgE_z, Int.toNat_natCast, Int.natCast_nonneg, hlt']
        repeat refine ⟨ob, ?_⟩
        refine hK _ ?_
        clear K' hK
        simp only [go_sem]
        refine ⟨i + 1, hlt, by (show 2 - (i + 1) < 2 - i; omega), ?_⟩
        refine weak_eq [1,3,4] [[1, 0]] ?_ ?_
        · simp only [go_sem, wrap_succ hlt (lb rfl : (2 : Nat) ≤ maxLen), Int.natCast_add, Int.natCast_one, e]
        · simp only [go_sem, wrap_succ hlt (lb rfl : (2 : Nat) ≤ maxLen), Int.natCast_add, Int.natCast_one, e]
      · skip
        repeat refine sq ?_
        have e := fm_f (hfc.trans (by simpa using hb))
        refine cl_skip ?_
        refine cl_nil ?_
        simp only [go_sem]
        refine kp [1,3,4] [[1, 0]] ?_
        repeat refine sq ?_
        refine cl_r hΓ fun K' hK => ?_
        simp only [go_sem, Int.toNat_natCast, Int.natCast_nonneg, hlt', ho, dkL_pgs d hlt, pgE_z, Int.toNat_natCast, Int.natCast_nonneg, hlt']
        repeat refine ⟨ob, ?_⟩
        refine hK _ ?_
        clear K' hK
        simp only [go_sem]
        refine ⟨i + 1, hlt, by (show 2 - (i + 1) < 2 - i; omega), ?_⟩
        refine weak_eq [1,3,4] [[1, 0]] ?_ ?_
        · simp only [go_sem, wrap_succ hlt (lb rfl : (2 : Nat) ≤ maxLen), Int.natCast_add, Int.natCast_one, e]
        · simp only [go_sem, wrap_succ hlt (lb rfl : (2 : Nat) ≤ maxLen), Int.natCast_add, Int.natCast_one, e]
  · skip
    have hge : i = 2 := by
      have : ¬ (i : Int) < 2 := by simpa using hb
      omega
    clear hb
    subst hge
    repeat refine sq ?_
    refine cl_exit ?_
    simp only [go_sem]
    refine kp [3] [] ?_
    repeat refine sq ?_
    refine rs hΓ [2] [] ?_
    refine cl_ret ?_
    simp only [go_sem]
    first | rfl
theorem k61 : SSound Tryz.prog 61 S61 := s61.sound
end Go.Eng
--OBX exact okI _ | exact okPa _
namespace Go.Eng
open Go Go.Proofs
/-! what a desk tells: its firm page, what it holds -/
theorem fm_right (d : Dk) : ∀ i, firmTo d i = -1 ∨ pgB d.me (d.pg (firmTo d i).toNat) = true
  | 0 => .inl rfl
  | i + 1 => by
    cases h : fmC d i (firmTo d i) with
    | false => rw [fm_f h]; exact fm_right d i
    | true =>
      rw [fm_t h]
      refine .inr ?_
      unfold fmC at h
      simp only [Bool.and_eq_true] at h
      rw [Int.toNat_natCast]
      exact h.1.2
theorem pgB_ok {me : Int} {p : Pg} (h : pgB me p = true) : okS p.st := by
  unfold pgB at h
  simp only [Bool.and_eq_true] at h
  exact okS_of h.1.2
def fmS (d : Dk) : Stk := (d.pg (firmI d).toNat).st
theorem firm_ok {d : Dk} (h : dkB d = true) : 0 ≤ firmI d ∧ firmI d < 2 ∧ (firmI d).toNat < 2 ∧ okS (fmS d) := by
  have hr := firmTo_rng d 2
  have hne : firmI d ≠ -1 := by
    intro he
    have h1 : fmC d 1 (firmTo d 1) = false := by
      cases hc : fmC d 1 (firmTo d 1) with
      | false => rfl
      | true =>
        have h2 : firmTo d 2 = ((1 : Nat) : Int) := fm_t hc
        have h3 : firmTo d 2 = -1 := he
        rw [h2] at h3
        exact absurd h3 (by decide)
    have e1 : firmTo d 1 = -1 := by rw [← fm_f h1]; exact he
    have h0 : fmC d 0 (firmTo d 0) = false := by
      cases hc : fmC d 0 (firmTo d 0) with
      | false => rfl
      | true =>
        have h2 : firmTo d 1 = ((0 : Nat) : Int) := fm_t hc
        rw [e1] at h2
        exact absurd h2 (by decide)
    rw [e1] at h1
    have a0 : (((0 : Int) != d.wet) && pgB d.me d.pa) = false := by simpa [fmC, firmTo, Dk.pg] using h0
    have a1 : (((1 : Int) != d.wet) && pgB d.me d.pb) = false := by simpa [fmC, Dk.pg] using h1
    unfold dkB hdD at h
    simp only [Bool.and_eq_true] at h
    obtain ⟨⟨_, hi⟩, hw⟩ := h
    have hi := inI_iff.1 hi
    have hwx : d.wet < 0 ∨ d.wet = 0 ∨ d.wet = 1 := by omega
    rcases hwx with hn | hz | ho
    · rw [wetB_n hn] at hw
      have b0 : ((0 : Int) != d.wet) = true := by simp; omega
      have b1 : ((1 : Int) != d.wet) = true := by simp; omega
      rw [b0, Bool.true_and] at a0
      rw [b1, Bool.true_and] at a1
      rw [a0, a1] at hw
      simp at hw
    · rw [wetB_0 hz] at hw
      rw [hz] at a1
      have a1' : pgB d.me d.pb = false := a1
      rw [a1'] at hw
      simp at hw
    · rw [wetB_1 ho] at hw
      rw [ho] at a0
      have a0' : pgB d.me d.pa = false := a0
      rw [a0'] at hw
      simp at hw
  have hi : 0 ≤ firmI d := by
    have h1 : firmTo d 2 ≠ -1 := hne
    show 0 ≤ firmTo d 2
    omega
  have hi2 : firmI d < 2 := hr.2
  refine ⟨hi, hi2, by omega, ?_⟩
  rcases fm_right d 2 with h1 | h1
  · exact absurd h1 hne
  · exact pgB_ok h1
theorem dkE_zb {d : Dk} (h : (dkE d != 0) = false) : dkB d = true := by
  cases hb : dkB d with
  | true => rfl
  | false => rw [dkE_f hb] at h; exact absurd h (by decide)
theorem dkE_nb {d : Dk} (h : (dkE d != 0) = true) : dkB d = false := by
  cases hb : dkB d with
  | false => rfl
  | true => rw [dkE_t hb] at h; exact absurd h (by decide)
def hoV (d : Dk) : List Int := if dkB d = true then d.now.ho else []
theorem hoV_t {d : Dk} (h : dkB d = true) : hoV d = d.now.ho := if_pos h
theorem hoV_f {d : Dk} (h : dkB d = false) : hoV d = [] := if_neg (by rw [h]; decide)
theorem now_ok {d : Dk} (h : dkB d = true) : okS d.now := by
  unfold dkB hdD at h
  simp only [Bool.and_eq_true] at h
  exact okS_of h.1.1
@[go_sem] theorem dkL_ho (d : Dk) : (dkL d).getD 1 default = rowI d.now.ho := rfl
noncomputable def K20 : List (Nat × Spec) := [(23, S23), (77, S77)]
theorem K20_sound : ∀ f s, tbl K20 f = some s → SSound Tryz.prog f s := tc k23 <| tc k77 <| tn
attribute [go_sem] K20
noncomputable def P28 : PSpec := p1 iDk (fun _ => True) (fun d => .tup [.sl ((hoV d).map vInt), vInt (dkE d)]) false
noncomputable def S28 : Spec := P28.toSpec
attribute [go_sem] P28 S28
set_option maxHeartbeats 4000000 in
theorem s28 : PSound Tryz.prog 28 P28 := by
  refine w1 (rs := [.tmp 2, .tmp 3]) Tryz.func28 Tryz.ntmps28 (by rfl) (by kernel_rfl) (by decide) (fun h => by cases h) ⟨_, rfl, lb rfl, fun d hp hw => ?_⟩
  have hP := mixedK
  simp only [iDk] at hw ⊢
  have hΓ := K20_sound
  repeat refine sq ?_
  refine rx hΓ [1] [[1, 0]] (fun K' hK => by simp only [go_sem]; (repeat (refine ⟨obx, ?_⟩)); exact hK _ (by simp only [go_sem]) (by simp only [go_sem] <;> rfl)) ?_
  refine cl_weakM (weakM_fboxk [1, 0] (dkL d) rfl [1] [[1, 0]] ?_ rfl) ?_
  · simp only [go_sem]
  simp only [go_sem]
  repeat refine sq ?_
  refine rx hΓ [1,4] [[1, 0]] (fun K' hK => by simp only [go_sem]; (repeat (refine ⟨obx, ?_⟩)); exact hK _ (by simp only [go_sem]) (by simp only [go_sem] <;> rfl)) ?_
  repeat refine sq ?_
  refine rx hΓ [1,4,8] [[1, 0]] (fun K' hK => by simp only [go_sem]; (repeat (refine ⟨obx, ?_⟩)); exact hK _ (by simp only [go_sem]) (by simp only [go_sem] <;> rfl)) ?_
  repeat refine sq ?_
  refine cl_cond rfl rfl (fun hb => ?_) fun hb => ?_
  · skip
    repeat refine sq ?_
    have hd := dkE_nb hb
    repeat refine sq ?_
    refine rx hΓ [2,3] [] (fun K' hK => by simp only [go_sem]; (repeat (refine ⟨obx, ?_⟩)); exact hK _ (by simp only [go_sem]) (by simp only [go_sem] <;> rfl)) ?_
    refine cl_ret ?_
    simp only [go_sem]
    first | (rw [hoV_f hd]; rfl) | (rw [hoV_t hd, dkE_t hd]; done) | (rw [hoV_t hd, dkE_t hd]; rfl)
  · skip
    repeat refine sq ?_
    have hd := dkE_zb hb
    have hz : d.now.ho.length * 8 ≤ 140737488355328 := (now_ok hd).sz.1
    refine cl_skip ?_
    repeat refine sq ?_
    refine rx hΓ [2,3] [] (fun K' hK => by simp only [go_sem, Nat.add_zero, hz]; (repeat (refine ⟨obx, ?_⟩)); exact hK _ (by simp only [go_sem]) (by simp only [go_sem] <;> rfl)) ?_
    refine cl_ret ?_
    simp only [go_sem]
    first | (rw [hoV_f hd]; rfl) | (rw [hoV_t hd, dkE_t hd]; done) | (rw [hoV_t hd, dkE_t hd]; rfl)
theorem k28 : SSound Tryz.prog 28 S28 := s28.sound
noncomputable def K20b : List (Nat × Spec) := [(39, S39)]
theorem K20b_sound : ∀ f s, tbl K20b f = some s → SSound Tryz.prog f s := tc k39 <| tn
attribute [go_sem] K20b
noncomputable def P29 : PSpec := p1 iDk (fun _ => True) (fun d => .tup [.sl ((hoV d).map vInt), vInt (dkE d)]) false
noncomputable def S29 : Spec := P29.toSpec
attribute [go_sem] P29 S29
set_option maxHeartbeats 4000000 in
theorem s29 : PSound Tryz.prog 29 P29 := by
  refine w1 (rs := [.tmp 2, .tmp 3]) Tryz.func29 Tryz.ntmps29 (by rfl) (by kernel_rfl) (by decide) (fun h => by cases h) ⟨_, rfl, lb rfl, fun d hp hw => ?_⟩
  have hP := mixedK
  simp only [iDk] at hw ⊢
  have hΓ := K20b_sound
  repeat refine sq ?_
  refine rx hΓ [1] [[1, 0]] (fun K' hK => by simp only [go_sem]; (repeat (refine ⟨obx, ?_⟩)); exact hK _ (by simp only [go_sem]) (by simp only [go_sem] <;> rfl)) ?_
  refine cl_weakM (weakM_fboxk [1, 0] (dkL d) rfl [1] [[1, 0]] ?_ rfl) ?_
  · simp only [go_sem]
  simp only [go_sem]
  repeat refine sq ?_
  refine rx hΓ [1,6] [[1, 0]] (fun K' hK => by simp only [go_sem]; (repeat (refine ⟨obx, ?_⟩)); exact hK _ (by simp only [go_sem]) (by simp only [go_sem] <;> rfl)) ?_
  repeat refine sq ?_
  refine cl_cond rfl rfl (fun hb => ?_) fun hb => ?_
  · skip
    repeat refine sq ?_
    have hd := dkE_nb hb
    repeat refine sq ?_
    refine rx hΓ [2,3] [[11, 0]] (fun K' hK => by simp only [go_sem]; (repeat (refine ⟨obx, ?_⟩)); exact hK _ (by simp only [go_sem]) (by simp only [go_sem] <;> rfl)) ?_
    refine cl_ret ?_
    simp only [go_sem]
    first | (rw [hoV_f hd, dkE_f hd]; rfl) | (rw [hoV_t hd, dkE_t hd]; done) | (rw [hoV_t hd, dkE_t hd]; rfl)
  · skip
    repeat refine sq ?_
    have hd := dkE_zb hb
    have hz : d.now.ho.length * 8 ≤ 140737488355328 := (now_ok hd).sz.1
    refine cl_skip ?_
    repeat refine sq ?_
    refine rx hΓ [2,3] [[11, 0]] (fun K' hK => by simp only [go_sem, Nat.add_zero, hz]; (repeat (refine ⟨obx, ?_⟩)); exact hK _ (by simp only [go_sem]) (by simp only [go_sem] <;> rfl)) ?_
    refine cl_ret ?_
    simp only [go_sem]
    first | (rw [hoV_f hd, dkE_f hd]; rfl) | (rw [hoV_t hd, dkE_t hd]; done) | (rw [hoV_t hd, dkE_t hd]; rfl)
theorem k29 : SSound Tryz.prog 29 S29 := s29.sound
end Go.Eng
--OBX exact okI _ | exact okPa _
namespace Go.Eng
open Go Go.Proofs
/-! a desk's firm page -/
def fiV (d : Dk) : Stk := if dkB d = true then fmS d else zS
theorem fiV_t {d : Dk} (h : dkB d = true) : fiV d = fmS d := if_pos h
theorem fiV_f {d : Dk} (h : dkB d = false) : fiV d = zS := if_neg (by rw [h]; decide)
theorem fm_cut {d : Dk} (h : dkB d = true) : ((dkL d).drop (20 + (firmI d).toNat * 21 + 1)).take 19 = stL (fmS d) := dkL_stk d (firm_ok h).2.2.1
theorem h59_firm {d : Dk} (h : dkB d = true) : ∀ (F : Name → Option O) (t : Name), F [1, 0] = some (.box ((dkL d).map .v)) → S59.app (fun nm => if own [0] nm = true then F nm else none) t [.ref [1, 0] (20 + (firmI d).toNat * 21 + 1)] = ⟨True, .v (.agg (stL (fmS d))), fun nm => if own [0] nm = true then F nm else none⟩ :=
  fun F t hF => s59_app (s := fmS d) (L := dkL d) hF (fm_cut h) (firm_ok h).2.2.2.sz
@[go_sem] theorem stM_drop (s : Stk) : ((stL s).map D.v).drop 19 = [] := rfl
noncomputable def K21 : List (Nat × Spec) := [(23, S23), (58, S58), (59, S59)]
theorem K21_sound : ∀ f s, tbl K21 f = some s → SSound Tryz.prog f s := tc k23 <| tc k58 <| tc k59 <| tn
attribute [go_sem] K21
noncomputable def P22 : PSpec := p1 iDk (fun _ => True) (fun d => .tup [encSt (fiV d), vInt (dkE d)]) false
noncomputable def S22 : Spec := P22.toSpec
attribute [go_sem] P22 S22
set_option maxHeartbeats 4000000 in
theorem s22 : PSound Tryz.prog 22 P22 := by
  refine w1 (rs := [.cell 2 27, .tmp 3]) Tryz.func22 Tryz.ntmps22 (by rfl) (by kernel_rfl) (by decide) (fun h => by cases h) ⟨_, rfl, lb rfl, fun d hp hw => ?_⟩
  have hP := mixedK
  simp only [iDk] at hw ⊢
  have hΓ := K21_sound
  repeat refine sq ?_
  refine rx hΓ [1,2] [[1, 0],[2, 0]] (fun K' hK => by simp only [go_sem]; (repeat (refine ⟨obx, ?_⟩)); exact hK _ (by simp only [go_sem]) (by simp only [go_sem] <;> rfl)) ?_
  refine cl_weakM (weakM_boxk [2, 0] _ (stL zS) rfl rfl [1,2] [[1, 0],[2, 0]] ?_ rfl) ?_
  · simp only [go_sem]
  simp only [go_sem]
  repeat refine sq ?_
  refine rx hΓ [1,2,4] [[1, 0],[2, 0]] (fun K' hK => by simp only [go_sem]; (repeat (refine ⟨obx, ?_⟩)); exact hK _ (by simp only [go_sem]) (by simp only [go_sem] <;> rfl)) ?_
  repeat refine sq ?_
  refine rx hΓ [1,2,4,8] [[1, 0],[2, 0]] (fun K' hK => by simp only [go_sem]; (repeat (refine ⟨obx, ?_⟩)); exact hK _ (by simp only [go_sem]) (by simp only [go_sem] <;> rfl)) ?_
  repeat refine sq ?_
  refine cl_cond rfl rfl (fun hb => ?_) fun hb => ?_
  · skip
    repeat refine sq ?_
    have hd := dkE_nb hb
    repeat refine sq ?_
    refine rx hΓ [2,3] [[2, 0]] (fun K' hK => by simp only [go_sem]; (repeat (refine ⟨obx, ?_⟩)); exact hK _ (by simp only [go_sem]) (by simp only [go_sem] <;> rfl)) ?_
    refine cl_ret ?_
    simp only [go_sem]
    first | (rw [fiV_f hd]; done) | (rw [fiV_f hd]; rfl) | (rw [fiV_t hd, dkE_t hd]; done) | (rw [fiV_t hd, dkE_t hd]; rfl)
  · skip
    repeat refine sq ?_
    have hd := dkE_zb hb
    obtain ⟨hf1, hf2, hf3, hf4⟩ := firm_ok hd
    have h59 := h59_firm hd
    refine cl_skip ?_
    repeat refine sq ?_
    refine rx hΓ [2,3] [[2, 0]] (fun K' hK => by simp only [go_sem, hf1, hf2, h59, List.append_nil]; (repeat (refine ⟨obx, ?_⟩)); exact hK _ (by simp only [go_sem]) (by simp only [go_sem] <;> rfl)) ?_
    refine cl_ret ?_
    simp only [go_sem]
    first | (rw [fiV_f hd]; done) | (rw [fiV_f hd]; rfl) | (rw [fiV_t hd, dkE_t hd]; done) | (rw [fiV_t hd, dkE_t hd]; rfl)
theorem k22 : SSound Tryz.prog 22 S22 := s22.sound
noncomputable def K21b : List (Nat × Spec) := [(39, S39), (61, S61), (62, S62)]
theorem K21b_sound : ∀ f s, tbl K21b f = some s → SSound Tryz.prog f s := tc k39 <| tc k61 <| tc k62 <| tn
attribute [go_sem] K21b
noncomputable def P32 : PSpec := p1 iDk (fun _ => True) (fun d => .tup [encSt (fiV d), vInt (dkE d)]) false
noncomputable def S32 : Spec := P32.toSpec
attribute [go_sem] P32 S32
set_option maxHeartbeats 4000000 in
theorem s32 : PSound Tryz.prog 32 P32 := by
  refine w1 (rs := [.cell 2 27, .tmp 3]) Tryz.func32 Tryz.ntmps32 (by rfl) (by kernel_rfl) (by decide) (fun h => by cases h) ⟨_, rfl, lb rfl, fun d hp hw => ?_⟩
  have hP := mixedK
  simp only [iDk] at hw ⊢
  have hΓ := K21b_sound
  repeat refine sq ?_
  refine rx hΓ [1,2] [[1, 0],[2, 0]] (fun K' hK => by simp only [go_sem]; (repeat (refine ⟨obx, ?_⟩)); exact hK _ (by simp only [go_sem]) (by simp only [go_sem] <;> rfl)) ?_
  refine cl_weakM (weakM_boxk [2, 0] _ (stL zS) rfl rfl [1,2] [[1, 0],[2, 0]] ?_ rfl) ?_
  · simp only [go_sem]
  simp only [go_sem]
  refine cl_weakM (weakM_fboxk [1, 0] (dkL d) rfl [1,2] [[1, 0],[2, 0]] ?_ rfl) ?_
  · simp only [go_sem]
  simp only [go_sem]
  repeat refine sq ?_
  refine rx hΓ [1,2,6] [[1, 0],[2, 0]] (fun K' hK => by simp only [go_sem]; (repeat (refine ⟨obx, ?_⟩)); exact hK _ (by simp only [go_sem]) (by simp only [go_sem] <;> rfl)) ?_
  repeat refine sq ?_
  refine cl_cond rfl rfl (fun hb => ?_) fun hb => ?_
  · skip
    repeat refine sq ?_
    have hd := dkE_nb hb
    repeat refine sq ?_
    refine rx hΓ [2,3] [[2, 0]] (fun K' hK => by simp only [go_sem]; (repeat (refine ⟨obx, ?_⟩)); exact hK _ (by simp only [go_sem]) (by simp only [go_sem] <;> rfl)) ?_
    refine cl_ret ?_
    simp only [go_sem]
    first | (rw [fiV_f hd, dkE_f hd]; done) | (rw [fiV_f hd, dkE_f hd]; rfl) | (rw [fiV_t hd, dkE_t hd]; done) | (rw [fiV_t hd, dkE_t hd]; rfl)
  · skip
    repeat refine sq ?_
    have hd := dkE_zb hb
    obtain ⟨hf1, hf2, hf3, hf4⟩ := firm_ok hd
    have hcut := fm_cut hd
    have hsz := hf4.sz
    refine cl_skip ?_
    repeat refine sq ?_
    refine rx hΓ [2,3] [[2, 0]] (fun K' hK => by simp only [go_sem, hf1, hf2, hcut, hsz, List.append_nil]; (repeat (refine ⟨obx, ?_⟩)); exact hK _ (by simp only [go_sem]) (by simp only [go_sem] <;> rfl)) ?_
    refine cl_ret ?_
    simp only [go_sem]
    first | (rw [fiV_f hd, dkE_f hd]; done) | (rw [fiV_f hd, dkE_f hd]; rfl) | (rw [fiV_t hd, dkE_t hd]; done) | (rw [fiV_t hd, dkE_t hd]; rfl)
theorem k32 : SSound Tryz.prog 32 S32 := s32.sound
end Go.Eng
--OBX exact okI _ | exact okPa _
namespace Go.Eng
open Go Go.Proofs
/-! what lies under a parish -/
def toB (d : Dk) (t : Int) : Bool := inI t 0 5 && (t != d.me)
def atB (d : Dk) (t : Int) : Bool := dkB d && toB d t
def askE (d : Dk) (t : Int) : Int := if dkB d = true then (if toB d t = true then 0 else 94) else 92
theorem askE_d {d : Dk} {t : Int} (h : dkB d = false) : askE d t = 92 := if_neg (by rw [h]; decide)
theorem askE_f {d : Dk} {t : Int} (h : dkB d = true) (k : toB d t = false) : askE d t = 94 := by unfold askE; rw [if_pos h, if_neg (by rw [k]; decide)]
theorem askE_t {d : Dk} {t : Int} (h : dkB d = true) (k : toB d t = true) : askE d t = 0 := by unfold askE; rw [if_pos h, if_pos k]
theorem to_cond (d : Dk) (t : Int) : (!inI t 0 5 || (t == d.me)) = !toB d t := by
  unfold toB
  have : (t != d.me) = !(t == d.me) := rfl
  rw [this]
  cases inI t 0 5 <;> cases (t == d.me) <;> rfl
theorem ask_at {d : Dk} {t : Int} (h : (askE d t != 0) = false) : dkB d = true ∧ toB d t = true := by
  cases h1 : dkB d with
  | false => rw [askE_d h1] at h; exact absurd h (by decide)
  | true =>
    cases h2 : toB d t with
    | false => rw [askE_f h1 h2] at h; exact absurd h (by decide)
    | true => exact ⟨rfl, rfl⟩
theorem ask_no {d : Dk} {t : Int} (h : (askE d t != 0) = true) : atB d t = false := by
  unfold atB
  cases h1 : dkB d with
  | false => rfl
  | true =>
    cases h2 : toB d t with
    | false => rfl
    | true => rw [askE_t h1 h2] at h; exact absurd h (by decide)
theorem toB_i {d : Dk} {t : Int} (h : toB d t = true) : 0 ≤ t ∧ t < 6 ∧ t.toNat < 6 := by
  unfold toB at h
  simp only [Bool.and_eq_true] at h
  have := inI_iff.1 h.1
  exact ⟨by omega, by omega, by omega⟩
noncomputable def K22 : List (Nat × Spec) := [(23, S23), (82, S82)]
theorem K22_sound : ∀ f s, tbl K22 f = some s → SSound Tryz.prog f s := tc k23 <| tc k82 <| tn
attribute [go_sem] K22
noncomputable def P51 : PSpec := p2 iDk iI (fun _ _ => True) (fun d t => vInt (askE d t)) true
noncomputable def S51 : Spec := P51.toSpec
attribute [go_sem] P51 S51
set_option maxHeartbeats 4000000 in
theorem s51 : PSound Tryz.prog 51 P51 := by
  refine w2 (rs := [.tmp 4]) Tryz.func51 Tryz.ntmps51 (by rfl) (by kernel_rfl) (by decide) (fun _ _ _ => rfl) ⟨_, rfl, lb rfl, fun d t hp hw => ?_⟩
  have hP := mixedK
  simp only [iDk, iI] at hw ⊢
  have hΓ := K22_sound
  repeat refine sq ?_
  refine rx hΓ [1,2] [[2, 0]] (fun K' hK => by simp only [go_sem]; (repeat (refine ⟨obx, ?_⟩)); exact hK _ (by simp only [go_sem]) (by simp only [go_sem] <;> rfl)) ?_
  refine cl_weakM (weakM_fboxk [2, 0] (dkL d) rfl [1,2] [[2, 0]] ?_ rfl) ?_
  · simp only [go_sem]
  simp only [go_sem]
  repeat refine sq ?_
  refine rx hΓ [1,2,5] [[2, 0]] (fun K' hK => by simp only [go_sem]; (repeat (refine ⟨obx, ?_⟩)); exact hK _ (by simp only [go_sem]) (by simp only [go_sem] <;> rfl)) ?_
  repeat refine sq ?_
  refine rx hΓ [1,2,5,9] [[2, 0]] (fun K' hK => by simp only [go_sem]; (repeat (refine ⟨obx, ?_⟩)); exact hK _ (by simp only [go_sem]) (by simp only [go_sem] <;> rfl)) ?_
  repeat refine sq ?_
  refine cl_cond rfl rfl (fun hb => ?_) fun hb => ?_
  · skip
    repeat refine sq ?_
    have hd := dkE_nb hb
    have e1 := dkE_f hd
    repeat refine sq ?_
    refine rx hΓ [4] [] (fun K' hK => by simp only [go_sem]; (repeat (refine ⟨obx, ?_⟩)); exact hK _ (by simp only [go_sem]) (by simp only [go_sem] <;> rfl)) ?_
    refine cl_ret ?_
    simp only [go_sem]
    first | (rw [askE_d hd, e1]; done) | (rw [askE_f hd hk]; done) | (rw [askE_t hd hk]; done)
  · skip
    repeat refine sq ?_
    have hd := dkE_zb hb
    refine cl_skip ?_
    repeat refine sq ?_
    refine rx hΓ [19] [] (fun K' hK => by simp only [go_sem, to_cond]; (repeat (refine ⟨obx, ?_⟩)); exact hK _ (by simp only [go_sem]) (by simp only [go_sem] <;> rfl)) ?_
    repeat refine sq ?_
    refine cl_cond rfl rfl (fun hb => ?_) fun hb => ?_
    · skip
      repeat refine sq ?_
      have hk : toB d t = false := by simpa using hb
      repeat refine sq ?_
      refine rx hΓ [4] [] (fun K' hK => by simp only [go_sem]; (repeat (refine ⟨obx, ?_⟩)); exact hK _ (by simp only [go_sem]) (by simp only [go_sem] <;> rfl)) ?_
      refine cl_ret ?_
      simp only [go_sem]
      first | (rw [askE_d hd, e1]; done) | (rw [askE_f hd hk]; done) | (rw [askE_t hd hk]; done)
    · skip
      repeat refine sq ?_
      have hk : toB d t = true := by simpa using hb
      refine cl_skip ?_
      repeat refine sq ?_
      refine rx hΓ [4] [] (fun K' hK => by simp only [go_sem]; (repeat (refine ⟨obx, ?_⟩)); exact hK _ (by simp only [go_sem]) (by simp only [go_sem] <;> rfl)) ?_
      refine cl_ret ?_
      simp only [go_sem]
      first | (rw [askE_d hd, e1]; done) | (rw [askE_f hd hk]; done) | (rw [askE_t hd hk]; done)
theorem k51 : SSound Tryz.prog 51 S51 := s51.sound
noncomputable def K22b : List (Nat × Spec) := [(39, S39), (84, S84)]
theorem K22b_sound : ∀ f s, tbl K22b f = some s → SSound Tryz.prog f s := tc k39 <| tc k84 <| tn
attribute [go_sem] K22b
noncomputable def P56 : PSpec := p2 iDk iI (fun _ _ => True) (fun d t => vInt (askE d t)) true
noncomputable def S56 : Spec := P56.toSpec
attribute [go_sem] P56 S56
set_option maxHeartbeats 4000000 in
theorem s56 : PSound Tryz.prog 56 P56 := by
  refine w2 (rs := [.tmp 4]) Tryz.func56 Tryz.ntmps56 (by rfl) (by kernel_rfl) (by decide) (fun _ _ _ => rfl) ⟨_, rfl, lb rfl, fun d t hp hw => ?_⟩
  have hP := mixedK
  simp only [iDk, iI] at hw ⊢
  have hΓ := K22b_sound
  repeat refine sq ?_
  refine rx hΓ [1,2] [[2, 0]] (fun K' hK => by simp only [go_sem]; (repeat (refine ⟨obx, ?_⟩)); exact hK _ (by simp only [go_sem]) (by simp only [go_sem] <;> rfl)) ?_
  refine cl_weakM (weakM_fboxk [2, 0] (dkL d) rfl [1,2] [[2, 0]] ?_ rfl) ?_
  · simp only [go_sem]
  simp only [go_sem]
  repeat refine sq ?_
  refine rx hΓ [1,2,7] [[2, 0]] (fun K' hK => by simp only [go_sem]; (repeat (refine ⟨obx, ?_⟩)); exact hK _ (by simp only [go_sem]) (by simp only [go_sem] <;> rfl)) ?_
  repeat refine sq ?_
  refine cl_cond rfl rfl (fun hb => ?_) fun hb => ?_
  · skip
    repeat refine sq ?_
    have hd := dkE_nb hb
    repeat refine sq ?_
    refine rx hΓ [4] [] (fun K' hK => by simp only [go_sem]; (repeat (refine ⟨obx, ?_⟩)); exact hK _ (by simp only [go_sem]) (by simp only [go_sem] <;> rfl)) ?_
    refine cl_ret ?_
    simp only [go_sem]
    first | (rw [askE_d hd]; done) | (rw [askE_f hd hk]; done) | (rw [askE_t hd hk]; done)
  · skip
    repeat refine sq ?_
    have hd := dkE_zb hb
    refine cl_skip ?_
    repeat refine sq ?_
    refine rx hΓ [16] [] (fun K' hK => by simp only [go_sem, to_cond]; (repeat (refine ⟨obx, ?_⟩)); exact hK _ (by simp only [go_sem]) (by simp only [go_sem] <;> rfl)) ?_
    repeat refine sq ?_
    refine cl_cond rfl rfl (fun hb => ?_) fun hb => ?_
    · skip
      repeat refine sq ?_
      have hk : toB d t = false := by simpa using hb
      repeat refine sq ?_
      refine rx hΓ [4] [] (fun K' hK => by simp only [go_sem]; (repeat (refine ⟨obx, ?_⟩)); exact hK _ (by simp only [go_sem]) (by simp only [go_sem] <;> rfl)) ?_
      refine cl_ret ?_
      simp only [go_sem]
      first | (rw [askE_d hd]; done) | (rw [askE_f hd hk]; done) | (rw [askE_t hd hk]; done)
    · skip
      repeat refine sq ?_
      have hk : toB d t = true := by simpa using hb
      refine cl_skip ?_
      repeat refine sq ?_
      refine rx hΓ [4] [] (fun K' hK => by simp only [go_sem]; (repeat (refine ⟨obx, ?_⟩)); exact hK _ (by simp only [go_sem]) (by simp only [go_sem] <;> rfl)) ?_
      refine cl_ret ?_
      simp only [go_sem]
      first | (rw [askE_d hd]; done) | (rw [askE_f hd hk]; done) | (rw [askE_t hd hk]; done)
theorem k56 : SSound Tryz.prog 56 S56 := s56.sound
end Go.Eng
--OBX exact okI _ | exact okPa _
namespace Go.Eng
open Go Go.Proofs
/-! what lies under a parish; bags packed -/
theorem cut_getD {l : List V} {off : Nat} {s : Stk} (h : (l.drop off).take 19 = stL s) {i : Nat} (hi : i < 19) : l.getD (off + i) default = (stL s).getD i default := by
  have hlen := cut_len h
  rw [← h, getD_in (show off + i < l.length by omega), getD_in (by rw [List.length_take, List.length_drop]; omega)]
  simp
def unL (d : Dk) (t : Int) : List Int := (d.now.un.get t.toNat).map Par.pa
def unR (d : Dk) (t : Int) : List Int := if atB d t = true then unL d t else []
theorem unR_t {d : Dk} {t : Int} (h : dkB d = true) (k : toB d t = true) : unR d t = unL d t := if_pos (by unfold atB; rw [h, k]; rfl)
theorem unR_f {d : Dk} {t : Int} (h : atB d t = false) : unR d t = [] := if_neg (by rw [h]; decide)
def paTo (l : List Par) (z : Nat) : List Int := (l.take z).map Par.pa
theorem paTo_succ {l : List Par} {z : Nat} (h : z < l.length) : paTo l (z + 1) = paTo l z ++ [l[z].pa] := by
  unfold paTo
  rw [List.take_add_one, List.getElem?_eq_getElem h, List.map_append]
  rfl
theorem paTo_len {l : List Par} {z : Nat} (h : z ≤ l.length) : (paTo l z).length = z := by
  unfold paTo
  rw [List.length_map, List.length_take]
  omega
theorem paTo_all (l : List Par) : paTo l l.length = l.map Par.pa := by
  unfold paTo
  rw [List.take_length]
theorem dkL_un (d : Dk) {i : Nat} (h : i < 6) : (dkL d).getD (1 + 1 + i) default = rowP (d.now.un.get i) := by
  match i, h with
  | 0, _ => rfl
  | 1, _ => rfl
  | 2, _ => rfl
  | 3, _ => rfl
  | 4, _ => rfl
  | 5, _ => rfl
noncomputable def K23 : List (Nat × Spec) := [(51, S51)]
theorem K23_sound : ∀ f s, tbl K23 f = some s → SSound Tryz.prog f s := tc k51 <| tn
attribute [go_sem] K23
noncomputable def P30 : PSpec := p2 iDk iI (fun _ _ => True) (fun d t => .tup [.sl ((unR d t).map vInt), vInt (askE d t)]) false
noncomputable def S30 : Spec := P30.toSpec
attribute [go_sem] P30 S30
set_option maxHeartbeats 4000000 in
theorem s30 : PSound Tryz.prog 30 P30 := by
  refine w2 (rs := [.tmp 4, .tmp 5]) Tryz.func30 Tryz.ntmps30 (by rfl) (by kernel_rfl) (by decide) (fun h => by cases h) ⟨_, rfl, lb rfl, fun d t hp hw => ?_⟩
  have hP := mixedK
  simp only [iDk, iI] at hw ⊢
  have hΓ := K23_sound
  repeat refine sq ?_
  refine rx hΓ [1,2] [[2, 0]] (fun K' hK => by simp only [go_sem]; (repeat (refine ⟨obx, ?_⟩)); exact hK _ (by simp only [go_sem]) (by simp only [go_sem] <;> rfl)) ?_
  refine cl_weakM (weakM_fboxk [2, 0] (dkL d) rfl [1,2] [[2, 0]] ?_ rfl) ?_
  · simp only [go_sem]
  simp only [go_sem]
  repeat refine sq ?_
  refine rx hΓ [1,2,6] [[2, 0]] (fun K' hK => by simp only [go_sem]; (repeat (refine ⟨obx, ?_⟩)); exact hK _ (by simp only [go_sem]) (by simp only [go_sem] <;> rfl)) ?_
  repeat refine sq ?_
  refine rx hΓ [1,2,6,14] [[2, 0]] (fun K' hK => by simp only [go_sem]; (repeat (refine ⟨obx, ?_⟩)); exact hK _ (by simp only [go_sem]) (by simp only [go_sem] <;> rfl)) ?_
  repeat refine sq ?_
  refine cl_cond rfl rfl (fun hb => ?_) fun hb => ?_
  · skip
    repeat refine sq ?_
    have hn := ask_no hb
    repeat refine sq ?_
    refine rx hΓ [4,5] [[30, 0]] (fun K' hK => by simp only [go_sem]; (repeat (refine ⟨obx, ?_⟩)); exact hK _ (by simp only [go_sem]) (by simp only [go_sem] <;> rfl)) ?_
    refine cl_ret ?_
    simp only [go_sem]
    first | (rw [unR_f hn]; done) | (rw [unR_f hn]; rfl) | (rw [unR_t hd hk, askE_t hd hk, paTo_all]; done) | (rw [unR_t hd hk, askE_t hd hk, paTo_all]; rfl)
  · skip
    repeat refine sq ?_
    obtain ⟨hd, hk⟩ := ask_at hb
    obtain ⟨ht0, ht6, ht⟩ := toB_i hk
    have hul := (now_ok hd).unl t.toNat ht
    have hl : (d.now.un.get t.toNat).length ≤ maxLen := by unfold maxLen; omega
    refine cl_skip ?_
    repeat refine sq ?_
    refine rx hΓ [1,2,7] [[2, 0],[30, 0]] (fun K' hK => by simp only [go_sem]; (repeat (refine ⟨obx, ?_⟩)); exact hK _ (by simp only [go_sem]) (by simp only [go_sem] <;> rfl)) ?_
    refine cl_weakM (weakM_ghostk 7 [30, 0] 1 (by simp only [go_sem]) (by simp only [go_sem]) [1,2,7] [[2, 0],[30, 0]] ?_ rfl) ?_
    · simp only [go_sem]
    simp only [go_sem]
    repeat refine sq ?_
    refine rx hΓ [7,20,21,22] [[30, 0]] (fun K' hK => by simp only [go_sem, Nat.reduceAdd, dkL_un d ht, ht0, ht6]; (repeat (refine ⟨obx, ?_⟩)); exact hK _ (by simp only [go_sem]) (by simp only [go_sem] <;> rfl)) ?_
    repeat refine sq ?_
    refine cl_block ?_
    repeat refine sq ?_
    refine cl_loop'  (fun z : Nat => [(22, ⟨true, .v (vInt z)⟩), (7, ⟨true, .msl [30, 0] (paTo (d.now.un.get t.toNat) z).length⟩)]) (fun z => [([30, 0], .arr 1 ((paTo (d.now.un.get t.toNat) z).map vInt))]) (fun z => z ≤ (d.now.un.get t.toNat).length) (fun z => (d.now.un.get t.toNat).length - z) 0 ?_ ?_ ?_ ?_
    · exact Nat.zero_le _
    · rfl
    · rfl
    rintro i hi
    simp only [go_sem]
    repeat refine sq ?_
    refine rx hΓ [7,20,21,22,23] [[30, 0]] (fun K' hK => by simp only [go_sem]; (repeat (refine ⟨obx, ?_⟩)); exact hK _ (by simp only [go_sem]) (by simp only [go_sem] <;> rfl)) ?_
    repeat refine sq ?_
    refine cl_cond rfl rfl (fun hb => ?_) fun hb => ?_
    · skip
      have hlt : i < (d.now.un.get t.toNat).length := by simpa using hb
      have hlt' : (i : Int) < (d.now.un.get t.toNat).length := by omega
      clear hb
      have hx := paTo_len (Nat.le_of_lt hlt)
      repeat refine sq ?_
      refine cl_skip ?_
      repeat refine sq ?_
      refine cl_block ?_
      repeat refine sq ?_
      refine rx hΓ [7,9,20,21,22] [[9, 0],[30, 0]] (fun K' hK => by simp only [go_sem, map_getD hlt, Int.toNat_natCast, Int.natCast_nonneg, hlt']; (repeat (refine ⟨obx, ?_⟩)); exact hK _ (by simp only [go_sem]) (by simp only [go_sem] <;> rfl)) ?_
      repeat refine sq ?_
      refine cl_r hΓ fun K' hK => ?_
      simp only [go_sem, map_getD hlt, Int.toNat_natCast, Int.natCast_nonneg, hlt']
      repeat (refine ⟨obx, ?_⟩)
      refine hK _ ?_
      clear K' hK
      simp only [go_sem]
      refine kp [7,20,21,22] [[30, 0]] ?_
      repeat refine sq ?_
      refine cl_r hΓ fun K' hK => ?_
      simp only [go_sem, map_getD hlt, Int.toNat_natCast, Int.natCast_nonneg, hlt']
      repeat (refine ⟨obx, ?_⟩)
      refine hK _ ?_
      clear K' hK
      simp only [go_sem]
      refine ⟨i + 1, hlt, by (show (d.now.un.get t.toNat).length - (i + 1) < (d.now.un.get t.toNat).length - i; omega), ?_⟩
      refine weak_eq [7,20,21,22] [[30, 0]] ?_ ?_
      · simp only [go_sem, wrap_succ hlt hl, Int.natCast_add, Int.natCast_one, paTo_succ hlt, List.map_append, List.length_append, List.map_cons, List.map_nil, List.length_cons, List.length_nil]
      · simp only [go_sem, wrap_succ hlt hl, Int.natCast_add, Int.natCast_one, paTo_succ hlt, List.map_append, List.length_append, List.map_cons, List.map_nil, List.length_cons, List.length_nil]
    · skip
      have hge : i = (d.now.un.get t.toNat).length := by
        have : ¬ (i : Int) < (d.now.un.get t.toNat).length := by simpa using hb
        omega
      clear hb
      subst hge
      repeat refine sq ?_
      refine cl_exit ?_
      simp only [go_sem]
      refine kp [7] [[30, 0]] ?_
      repeat refine sq ?_
      refine rx hΓ [4,5] [[30, 0]] (fun K' hK => by simp only [go_sem]; (repeat (refine ⟨obx, ?_⟩)); exact hK _ (by simp only [go_sem]) (by simp only [go_sem] <;> rfl)) ?_
      refine cl_ret ?_
      simp only [go_sem]
      first | (rw [unR_f hn]; done) | (rw [unR_f hn]; rfl) | (rw [unR_t hd hk, askE_t hd hk, paTo_all]; done) | (rw [unR_t hd hk, askE_t hd hk, paTo_all]; rfl)
theorem k30 : SSound Tryz.prog 30 S30 := s30.sound
noncomputable def K23b : List (Nat × Spec) := [(56, S56)]
theorem K23b_sound : ∀ f s, tbl K23b f = some s → SSound Tryz.prog f s := tc k56 <| tn
attribute [go_sem] K23b
noncomputable def P31 : PSpec := p2 iDk iI (fun _ _ => True) (fun d t => .tup [.sl ((unR d t).map vInt), vInt (askE d t)]) false
noncomputable def S31 : Spec := P31.toSpec
attribute [go_sem] P31 S31
set_option maxHeartbeats 4000000 in
theorem s31 : PSound Tryz.prog 31 P31 := by
  refine w2 (rs := [.tmp 4, .tmp 5]) Tryz.func31 Tryz.ntmps31 (by rfl) (by kernel_rfl) (by decide) (fun h => by cases h) ⟨_, rfl, lb rfl, fun d t hp hw => ?_⟩
  have hP := mixedK
  simp only [iDk, iI] at hw ⊢
  have hΓ := K23b_sound
  repeat refine sq ?_
  refine rx hΓ [1,2] [[2, 0]] (fun K' hK => by simp only [go_sem]; (repeat (refine ⟨obx, ?_⟩)); exact hK _ (by simp only [go_sem]) (by simp only [go_sem] <;> rfl)) ?_
  refine cl_weakM (weakM_fboxk [2, 0] (dkL d) rfl [1,2] [[2, 0]] ?_ rfl) ?_
  · simp only [go_sem]
  simp only [go_sem]
  repeat refine sq ?_
  refine rx hΓ [1,2,6] [[2, 0]] (fun K' hK => by simp only [go_sem]; (repeat (refine ⟨obx, ?_⟩)); exact hK _ (by simp only [go_sem]) (by simp only [go_sem] <;> rfl)) ?_
  repeat refine sq ?_
  refine rx hΓ [1,2,6,13] [[2, 0]] (fun K' hK => by simp only [go_sem]; (repeat (refine ⟨obx, ?_⟩)); exact hK _ (by simp only [go_sem]) (by simp only [go_sem] <;> rfl)) ?_
  repeat refine sq ?_
  refine cl_cond rfl rfl (fun hb => ?_) fun hb => ?_
  · skip
    repeat refine sq ?_
    have hn := ask_no hb
    repeat refine sq ?_
    refine rx hΓ [4,5] [[36, 0]] (fun K' hK => by simp only [go_sem]; (repeat (refine ⟨obx, ?_⟩)); exact hK _ (by simp only [go_sem]) (by simp only [go_sem] <;> rfl)) ?_
    refine cl_ret ?_
    simp only [go_sem]
    first | (rw [unR_f hn]; done) | (rw [unR_f hn]; rfl) | (rw [unR_t hd hk, askE_t hd hk, paTo_all]; done) | (rw [unR_t hd hk, askE_t hd hk, paTo_all]; rfl)
  · skip
    repeat refine sq ?_
    obtain ⟨hd, hk⟩ := ask_at hb
    obtain ⟨ht0, ht6, ht⟩ := toB_i hk
    have hul := (now_ok hd).unl t.toNat ht
    have hl : (d.now.un.get t.toNat).length ≤ maxLen := by unfold maxLen; omega
    refine cl_skip ?_
    repeat refine sq ?_
    refine rx hΓ [1,2,7] [[2, 0],[36, 0]] (fun K' hK => by simp only [go_sem]; (repeat (refine ⟨obx, ?_⟩)); exact hK _ (by simp only [go_sem]) (by simp only [go_sem] <;> rfl)) ?_
    refine cl_weakM (weakM_ghostk 7 [36, 0] 1 (by simp only [go_sem]) (by simp only [go_sem]) [1,2,7] [[2, 0],[36, 0]] ?_ rfl) ?_
    · simp only [go_sem]
    simp only [go_sem]
    repeat refine sq ?_
    refine rx hΓ [1,2,7,8] [[2, 0],[36, 0]] (fun K' hK => by simp only [go_sem]; (repeat (refine ⟨obx, ?_⟩)); exact hK _ (by simp only [go_sem]) (by simp only [go_sem] <;> rfl)) ?_
    repeat refine sq ?_
    refine cl_block ?_
    repeat refine sq ?_
    refine cl_loop'  (fun z : Nat => [(8, ⟨true, .v (vInt z)⟩), (7, ⟨true, .msl [36, 0] (paTo (d.now.un.get t.toNat) z).length⟩)]) (fun z => [([36, 0], .arr 1 ((paTo (d.now.un.get t.toNat) z).map vInt))]) (fun z => z ≤ (d.now.un.get t.toNat).length) (fun z => (d.now.un.get t.toNat).length - z) 0 ?_ ?_ ?_ ?_
    · exact Nat.zero_le _
    · rfl
    · rfl
    rintro i hi
    simp only [go_sem]
    repeat refine sq ?_
    refine rx hΓ [1,2,7,8,22] [[2, 0],[36, 0]] (fun K' hK => by simp only [go_sem, Nat.reduceAdd, dkL_un d ht, ht0, ht6]; (repeat (refine ⟨obx, ?_⟩)); exact hK _ (by simp only [go_sem]) (by simp only [go_sem] <;> rfl)) ?_
    repeat refine sq ?_
    refine cl_cond rfl rfl (fun hb => ?_) fun hb => ?_
    · skip
      have hlt : i < (d.now.un.get t.toNat).length := by simpa using hb
      have hlt' : (i : Int) < (d.now.un.get t.toNat).length := by omega
      clear hb
      have hx := paTo_len (Nat.le_of_lt hlt)
      repeat refine sq ?_
      refine cl_skip ?_
      repeat refine sq ?_
      refine cl_block ?_
      repeat refine sq ?_
      refine cl_r hΓ fun K' hK => ?_
      simp only [go_sem, map_getD hlt, Int.toNat_natCast, Int.natCast_nonneg, hlt', Nat.reduceAdd, dkL_un d ht, ht0, ht6]
      repeat (refine ⟨obx, ?_⟩)
      refine hK _ ?_
      clear K' hK
      simp only [go_sem]
      refine kp [1,2,7,8] [[2, 0],[36, 0]] ?_
      repeat refine sq ?_
      refine cl_r hΓ fun K' hK => ?_
      simp only [go_sem, map_getD hlt, Int.toNat_natCast, Int.natCast_nonneg, hlt', Nat.reduceAdd, dkL_un d ht, ht0, ht6]
      repeat (refine ⟨obx, ?_⟩)
      refine hK _ ?_
      clear K' hK
      simp only [go_sem]
      refine ⟨i + 1, hlt, by (show (d.now.un.get t.toNat).length - (i + 1) < (d.now.un.get t.toNat).length - i; omega), ?_⟩
      refine weak_eq [1,2,7,8] [[2, 0],[36, 0]] ?_ ?_
      · simp only [go_sem, wrap_succ hlt hl, Int.natCast_add, Int.natCast_one, paTo_succ hlt, List.map_append, List.length_append, List.map_cons, List.map_nil, List.length_cons, List.length_nil]
      · simp only [go_sem, wrap_succ hlt hl, Int.natCast_add, Int.natCast_one, paTo_succ hlt, List.map_append, List.length_append, List.map_cons, List.map_nil, List.length_cons, List.length_nil]
    · skip
      have hge : i = (d.now.un.get t.toNat).length := by
        have : ¬ (i : Int) < (d.now.un.get t.toNat).length := by simpa using hb
        omega
      clear hb
      subst hge
      repeat refine sq ?_
      refine cl_exit ?_
      simp only [go_sem]
      refine kp [7] [[36, 0]] ?_
      repeat refine sq ?_
      refine rx hΓ [4,5] [[36, 0]] (fun K' hK => by simp only [go_sem]; (repeat (refine ⟨obx, ?_⟩)); exact hK _ (by simp only [go_sem]) (by simp only [go_sem] <;> rfl)) ?_
      refine cl_ret ?_
      simp only [go_sem]
      first | (rw [unR_f hn]; done) | (rw [unR_f hn]; rfl) | (rw [unR_t hd hk, askE_t hd hk, paTo_all]; done) | (rw [unR_t hd hk, askE_t hd hk, paTo_all]; rfl)
theorem k31 : SSound Tryz.prog 31 S31 := s31.sound
end Go.Eng
--OBX exact okI _ | exact okPa _
namespace Go.Eng
open Go Go.Proofs
/-! bags packed -/
def pkV (d : Dk) (t : Int) : Bag := if atB d t = true then ⟨d.me, t, (fmS d).un.get t.toNat, (fmS d).ta.get t.toNat⟩ else ⟨0, 0, [], 0⟩
theorem pkV_t {d : Dk} {t : Int} (h : dkB d = true) (k : toB d t = true) : pkV d t = ⟨d.me, t, (fmS d).un.get t.toNat, (fmS d).ta.get t.toNat⟩ := if_pos (by unfold atB; rw [h, k]; rfl)
theorem pkV_f {d : Dk} {t : Int} (h : atB d t = false) : pkV d t = ⟨0, 0, [], 0⟩ := if_neg (by rw [h]; decide)
theorem fm_un {d : Dk} (h : dkB d = true) {i : Nat} (hi : i < 6) : (dkL d).getD (20 + (firmI d).toNat * 21 + 1 + 1 + i) default = rowP ((fmS d).un.get i) := by
  rw [Nat.add_assoc (20 + (firmI d).toNat * 21 + 1), cut_getD (fm_cut h) (show 1 + i < 19 by omega), stL_un_at _ hi]
theorem fm_ta {d : Dk} (h : dkB d = true) {i : Nat} (hi : i < 6) : (dkL d).getD (20 + (firmI d).toNat * 21 + 1 + 13 + i) default = vInt ((fmS d).ta.get i) := by
  rw [Nat.add_assoc (20 + (firmI d).toNat * 21 + 1), cut_getD (fm_cut h) (show 13 + i < 19 by omega), stL_ta_at _ hi]
noncomputable def K24 : List (Nat × Spec) := [(51, S51), (58, S58), (76, S76)]
theorem K24_sound : ∀ f s, tbl K24 f = some s → SSound Tryz.prog f s := tc k51 <| tc k58 <| tc k76 <| tn
attribute [go_sem] K24
noncomputable def P26 : PSpec := p2 iDk iI (fun _ _ => True) (fun d t => .tup [encBg (pkV d t), vInt (askE d t)]) false
noncomputable def S26 : Spec := P26.toSpec
attribute [go_sem] P26 S26
set_option maxHeartbeats 4000000 in
theorem s26 : PSound Tryz.prog 26 P26 := by
  refine w2 (rs := [.cell 4 34, .tmp 5]) Tryz.func26 Tryz.ntmps26 (by rfl) (by kernel_rfl) (by decide) (fun h => by cases h) ⟨_, rfl, lb rfl, fun d t hp hw => ?_⟩
  have hP := mixedK
  simp only [iDk, iI] at hw ⊢
  have hΓ := K24_sound
  repeat refine sq ?_
  refine rx hΓ [1,2,4] [[2, 0],[4, 0]] (fun K' hK => by simp only [go_sem]; (repeat (refine ⟨obx, ?_⟩)); exact hK _ (by simp only [go_sem]) (by simp only [go_sem] <;> rfl)) ?_
  refine cl_weakM (weakM_fboxk [2, 0] (dkL d) rfl [1,2,4] [[2, 0],[4, 0]] ?_ rfl) ?_
  · simp only [go_sem]
  simp only [go_sem]
  repeat refine sq ?_
  refine rx hΓ [1,2,4,6] [[2, 0],[4, 0]] (fun K' hK => by simp only [go_sem]; (repeat (refine ⟨obx, ?_⟩)); exact hK _ (by simp only [go_sem]) (by simp only [go_sem] <;> rfl)) ?_
  repeat refine sq ?_
  refine rx hΓ [1,2,4,6,12] [[2, 0],[4, 0]] (fun K' hK => by simp only [go_sem]; (repeat (refine ⟨obx, ?_⟩)); exact hK _ (by simp only [go_sem]) (by simp only [go_sem] <;> rfl)) ?_
  repeat refine sq ?_
  refine cl_cond rfl rfl (fun hb => ?_) fun hb => ?_
  · skip
    repeat refine sq ?_
    have hn := ask_no hb
    repeat refine sq ?_
    refine rx hΓ [4,5] [[4, 0]] (fun K' hK => by simp only [go_sem]; (repeat (refine ⟨obx, ?_⟩)); exact hK _ (by simp only [go_sem]) (by simp only [go_sem] <;> rfl)) ?_
    refine cl_ret ?_
    simp only [go_sem]
    first | (rw [pkV_f hn]; done) | (rw [pkV_f hn]; rfl) | (rw [pkV_t hd hk, askE_t hd hk]; done) | (rw [pkV_t hd hk, askE_t hd hk]; rfl)
  · skip
    repeat refine sq ?_
    obtain ⟨hd, hk⟩ := ask_at hb
    obtain ⟨ht0, ht6, ht⟩ := toB_i hk
    obtain ⟨hf1, hf2, hf3, hf4⟩ := firm_ok hd
    have hu := fm_un hd ht
    have ha := fm_ta hd ht
    have hz := hf4.sz.2 t.toNat ht
    refine cl_skip ?_
    repeat refine sq ?_
    refine rx hΓ [1,2,4,7] [[2, 0],[4, 0]] (fun K' hK => by simp only [go_sem, hf1, hf2]; (repeat (refine ⟨obx, ?_⟩)); exact hK _ (by simp only [go_sem]) (by simp only [go_sem] <;> rfl)) ?_
    repeat refine sq ?_
    refine dx hΓ hP [[], [0], [], [], [], [3], [3, 5], [3, 4, 5, 6], [3, 4, 5, 6, 7], [3, 4, 5, 6, 7, 8], [], [], [10], [10, 12], [10, 11, 12, 13], [10, 11, 12, 13, 14], [0, 1, 2, 3, 4, 5, 6, 7, 8, 9, 10, 11, 12, 13, 14, 15], [0, 1, 2, 3, 4, 5, 6, 7, 8, 9, 10, 11, 12, 13, 14, 15, 16], [0, 1, 2, 3, 4, 5, 6, 7, 8, 9, 10, 11, 12, 13, 14, 15, 16, 17]] [4,5] [[4, 0]] (by kernel_rfl) (fun K' hK => by simp only [go_sem, hu, ha, ht0, ht6, hz, List.append_nil]; (repeat (refine ⟨obx, ?_⟩)); (first | refine ⟨by rfl, ?_⟩ | skip); exact hK _ (by simp only [go_sem]) (by simp only [go_sem] <;> rfl)) ?_
    refine cl_ret ?_
    simp only [go_sem]
    first | (rw [pkV_f hn]; done) | (rw [pkV_f hn]; rfl) | (rw [pkV_t hd hk, askE_t hd hk]; done) | (rw [pkV_t hd hk, askE_t hd hk]; rfl)
theorem k26 : SSound Tryz.prog 26 S26 := s26.sound
noncomputable def K24b : List (Nat × Spec) := [(56, S56), (61, S61), (62, S62)]
theorem K24b_sound : ∀ f s, tbl K24b f = some s → SSound Tryz.prog f s := tc k56 <| tc k61 <| tc k62 <| tn
attribute [go_sem] K24b
noncomputable def P27 : PSpec := p2 iDk iI (fun _ _ => True) (fun d t => .tup [encBg (pkV d t), vInt (askE d t)]) false
noncomputable def S27 : Spec := P27.toSpec
attribute [go_sem] P27 S27
set_option maxHeartbeats 4000000 in
theorem s27 : PSound Tryz.prog 27 P27 := by
  refine w2 (rs := [.cell 4 34, .tmp 5]) Tryz.func27 Tryz.ntmps27 (by rfl) (by kernel_rfl) (by decide) (fun h => by cases h) ⟨_, rfl, lb rfl, fun d t hp hw => ?_⟩
  have hP := mixedK
  simp only [iDk, iI] at hw ⊢
  have hΓ := K24b_sound
  repeat refine sq ?_
  refine rx hΓ [1,2,4] [[2, 0],[4, 0]] (fun K' hK => by simp only [go_sem]; (repeat (refine ⟨obx, ?_⟩)); exact hK _ (by simp only [go_sem]) (by simp only [go_sem] <;> rfl)) ?_
  refine cl_weakM (weakM_fboxk [2, 0] (dkL d) rfl [1,2,4] [[2, 0],[4, 0]] ?_ rfl) ?_
  · simp only [go_sem]
  simp only [go_sem]
  repeat refine sq ?_
  refine rx hΓ [1,2,4,6] [[2, 0],[4, 0]] (fun K' hK => by simp only [go_sem]; (repeat (refine ⟨obx, ?_⟩)); exact hK _ (by simp only [go_sem]) (by simp only [go_sem] <;> rfl)) ?_
  repeat refine sq ?_
  refine rx hΓ [1,2,4,6,12] [[2, 0],[4, 0]] (fun K' hK => by simp only [go_sem]; (repeat (refine ⟨obx, ?_⟩)); exact hK _ (by simp only [go_sem]) (by simp only [go_sem] <;> rfl)) ?_
  repeat refine sq ?_
  refine cl_cond rfl rfl (fun hb => ?_) fun hb => ?_
  · skip
    repeat refine sq ?_
    have hn := ask_no hb
    repeat refine sq ?_
    refine rx hΓ [4,5] [[4, 0]] (fun K' hK => by simp only [go_sem]; (repeat (refine ⟨obx, ?_⟩)); exact hK _ (by simp only [go_sem]) (by simp only [go_sem] <;> rfl)) ?_
    refine cl_ret ?_
    simp only [go_sem]
    first | (rw [pkV_f hn]; done) | (rw [pkV_f hn]; rfl) | (rw [pkV_t hd hk, askE_t hd hk]; done) | (rw [pkV_t hd hk, askE_t hd hk]; rfl)
  · skip
    repeat refine sq ?_
    obtain ⟨hd, hk⟩ := ask_at hb
    obtain ⟨ht0, ht6, ht⟩ := toB_i hk
    obtain ⟨hf1, hf2, hf3, hf4⟩ := firm_ok hd
    have hcut := fm_cut hd
    have hsz := hf4.sz
    refine cl_skip ?_
    repeat refine sq ?_
    refine rx hΓ [1,2,4,7] [[2, 0],[4, 0],[7, 0]] (fun K' hK => by simp only [go_sem, hf1, hf2, hcut, hsz, List.append_nil]; (repeat (refine ⟨obx, ?_⟩)); exact hK _ (by simp only [go_sem]) (by simp only [go_sem] <;> rfl)) ?_
    refine cl_weakM (weakM_fboxk [7, 0] (stL (fmS d)) rfl [1,2,4,7] [[2, 0],[4, 0],[7, 0]] ?_ rfl) ?_
    · simp only [go_sem]
    simp only [go_sem]
    repeat refine sq ?_
    refine dx hΓ hP [[], [0], [], [], [], [3, 4], [3, 4, 5], [], [], [7, 8], [7, 8, 9], [0, 1, 2, 3, 4, 5, 6, 7, 8, 9, 10], [0, 1, 2, 3, 4, 5, 6, 7, 8, 9, 10, 11], [0, 1, 2, 3, 4, 5, 6, 7, 8, 9, 10, 11, 12]] [4,5] [[4, 0]] (by kernel_rfl) (fun K' hK => by simp only [go_sem, stL_un_at (fmS d) ht, stL_ta_at (fmS d) ht, ht0, ht6, List.append_nil]; (repeat (refine ⟨obx, ?_⟩)); (first | refine ⟨by rfl, ?_⟩ | skip); exact hK _ (by simp only [go_sem]) (by simp only [go_sem] <;> rfl)) ?_
    refine cl_ret ?_
    simp only [go_sem]
    first | (rw [pkV_f hn]; done) | (rw [pkV_f hn]; rfl) | (rw [pkV_t hd hk, askE_t hd hk]; done) | (rw [pkV_t hd hk, askE_t hd hk]; rfl)
theorem k27 : SSound Tryz.prog 27 S27 := s27.sound
end Go.Eng
set_option linter.unusedVariables false
namespace Go.Eng
open Go Go.Proofs Go.RowKit Go.Lib Go.Shelf
theorem run_clear_row {P : Program} (w : World) (t e ty : TypeId) (z : Value) (ht : P.underlying t = some (.slice e)) (hv : tZero P e = some z) (h1 : ∀ v ∈ z.cells.toList, v.oneCell' = true) (b o c : Nat)
    (hc : ∀ j, j < z.cells.size → (w.cell? ⟨b, o + j, none⟩).isSome = true) (hf : ∀ j, w.frozen? ⟨b, j, none⟩ = false) :
    (Builtin.clear_ #[t] ty #[.slice (some ⟨b, o, none⟩) 1 c]).run P w = .ok (.tuple #[]) (w.setCells b o z.cells.toList) := by
  have hzc : (Builtin.zeroCells z.cells 1).toList = z.cells.toList := by
    have : Builtin.zeroCells z.cells 1 = z.cells := by
      apply Array.ext
      · simp [Builtin.zeroCells]
      · intro i h1 h2
        simp [Builtin.zeroCells, Nat.mod_eq_of_lt h2]
        rw [getElem!_pos z.cells i h2]
    rw [this]
  have hst := run_storeCells_cells (P := P) b o z.cells.toList 0 w (by simpa using hc) (by simpa using fun j _ => hf (o + j)) h1
  simp only [Nat.add_zero] at hst
  simp [Builtin.clear_, run_underlying ht, run_zero hv, hzc, hst]
set_option maxHeartbeats 4000000 in
set_option maxRecDepth 100000 in
theorem del54 (b off n c i : Nat) (cs : List Value) (w : World) (hi : i < n) (hnc : n ≤ c) (hc63 : c ≤ 9223372036854775807) (hcl : cs.length = n * 1)
    (hcs : ∀ j v, cs[j]? = some v → w.cell? ⟨b, off + j, none⟩ = some v) (hfz : ∀ j, w.frozen? ⟨b, j, none⟩ = false) (h1c : ∀ v ∈ cs, v.oneCell' = true) :
    Calls Tryz.prog 54 #[.slice (some ⟨b, off, none⟩) n c, .int .i64 i, .int .i64 (i + 1)] w fun e w' =>
      e = .returned (.slice (some ⟨b, off, none⟩) (n - 1) c) ∧ w' = (w.drew.setCells b (off + i * 1) (cs.drop ((i + 1) * 1))).setCells b (off + (n - 1) * 1) (List.replicate 1 (.int .i64 0)) := by
  have mixed : Tryz.prog.follows Departure.mixedOrders = true := by kernel_rfl
  have hTE : tElem Tryz.prog 22 = some (3, 1, 8) := by kernel_rfl
  have hTZ : tZero Tryz.prog 3 = some (.int .i64 0) := by kernel_rfl
  obtain ⟨i0, hi0, hzs⟩ : ∃ i0, Tryz.prog.info? 3 = some i0 ∧ i0.size = 1 := by
    obtain ⟨hu, i0, h1, h2, h3⟩ := tElem_spec hTE
    exact ⟨i0, h1, h2⟩
  obtain ⟨news, hnews⟩ : ∃ news, news = cs.drop ((i + 1) * 1) := ⟨_, rfl⟩
  have hlen : news.length = (n - (i + 1)) * 1 := by rw [hnews, List.length_drop, hcl, Nat.sub_mul]
  have hsome : ∀ j, j < n * 1 → (w.cell? ⟨b, off + j, none⟩).isSome = true := fun j hj => by
    rw [hcs j _ (List.getElem?_eq_getElem (by omega))]; rfl
  obtain ⟨A, hA, hsrc⟩ : ∃ A : Addr, (if c = i + 1 then some (⟨b, off, none⟩ : Addr) else some ⟨b, off + (i + 1) * 1, none⟩) = some A ∧ Hid (∀ t u, news[t]? = some u → w.drew.cell? (A.add t) = some u) := by
    by_cases h : c = i + 1
    · refine ⟨⟨b, off, none⟩, by simp [h], fun t u hu => ?_⟩
      have h0 : news.length = 0 := by rw [hlen]; have : n - (i + 1) = 0 := by omega
                                      rw [this, Nat.zero_mul]
      rw [List.length_eq_zero_iff.1 h0] at hu
      simp at hu
    · refine ⟨⟨b, off + (i + 1) * 1, none⟩, by simp [h], fun t u hu => ?_⟩
      rw [Addr.add_lit, Nat.add_assoc]
      exact hcs _ _ (by rw [hnews, List.getElem?_drop] at hu; exact hu)
  have s1 : Hid (news.length = (n - (i + 1)) * 1) := hlen
  have s2 : Hid (∀ u ∈ news, u.oneCell' = true) := fun u hu => h1c u (List.mem_of_mem_drop (hnews ▸ hu))
  have s3 : Hid (∀ t, t < news.length → (w.drew.cell? ⟨b, off + i * 1 + t, none⟩).isSome = true ∧ w.drew.frozen? ⟨b, off + i * 1 + t, none⟩ = false) := by
    intro t ht
    rw [hlen] at ht
    refine ⟨?_, hfz _⟩
    rw [Nat.add_assoc]
    exact hsome _ (by omega)
  obtain ⟨W1, hW1⟩ : ∃ W1, W1 = w.drew.setCells b (off + i * 1) news := ⟨_, rfl⟩
  have hs1 : ∀ j, j < n * 1 → (W1.cell? ⟨b, off + j, none⟩).isSome = true := fun j hj => by
    rw [hW1]
    exact isSome_setCells b _ _ _ (fun t ht => (s3 t ht).1) _ (hsome j hj)
  have hcl2 : ∀ ty, (Builtin.clear_ #[22] ty #[.slice (some ⟨b, off + (i + (n - (i + 1))) * 1, none⟩) (n - (i + (n - (i + 1)))) (c - (i + (n - (i + 1))))]).run Tryz.prog W1 = .ok (.tuple #[]) (W1.setCells b (off + (i + (n - (i + 1))) * 1) (List.replicate 1 (.int .i64 0))) := fun ty => by
    have e : n - (i + (n - (i + 1))) = 1 := by omega
    rw [e]
    exact run_clear_row W1 22 3 ty _ Tryz.underlying22 hTZ (by decide) b _ _ (fun j hj => by rw [Nat.add_assoc]; exact hs1 _ (by have : j < 1 := hj; omega)) (fun j => by rw [hW1, World.frozen?_setCells]; exact hfz _)
  have hW : Hid (W1 = w.drew.setCells b (off + i * 1) news) := hW1
  rw [← hnews, ← hW1]
  have hic : i ≤ c := by omega
  have hjc : i + 1 ≤ c := by omega
  have hne : ¬ ((i : Int) = (i : Int) + 1) := by omega
  have hjn : i + 1 ≤ n := by omega
  have hp1 : (0 : Int) ≤ (i : Int) + 1 := by omega
  have hp2 : (i : Int) + 1 ≤ (n : Int) := by omega
  clear hW1 hs1 hsome hnews hlen
  simp only [Nat.mul_one] at hA hcl2
  go_enter Tryz.func54, Tryz.ntmps54
  go_wp2_with fail
  go_region_law_o (refine step_append_room rfl (.tmp 22) (.tmp 25) 22 rfl 3 i0 1 Tryz.underlying22 hi0 hzs b off i c (by simp [Act.eval, Act.put]) A (n - (i + 1)) (c - (i + 1)) news (by simp [Act.eval, Act.put]) s1.out hsrc.out s2.out (by omega) s3.out ?_; rw [← hW.out])
  go_wp2
  go_ret
  have e : n - 1 = i + (n - (i + 1)) := by omega
  rw [e, Nat.mul_one]
  exact ⟨rfl, rfl⟩
def zI : V := .int .i64 0
def aDel (obj : Name → Option O) : List D → R
  | [.msl nm k, .v (.int .i64 i), .v (.int .i64 j)] => match obj nm with
    | some (.arr sz l) => ⟨k = l.length ∧ sz = 1 ∧ 0 ≤ i ∧ j = i + 1 ∧ i.toNat < l.length, .v (.sl (l.eraseIdx i.toNat)), upd obj nm (some (.farr sz (l.eraseIdx i.toNat ++ [zI])))⟩
    | _ => .bad obj
  | _ => .bad obj
def delN : List D → List Name
  | [.msl nm _, _, _] => [nm]
  | _ => []
def S54 : Spec := ⟨fun obj _ ds => aDel obj ds, fun _ _ ds => delN ds, fun _ _ ds => delN ds⟩
theorem del_get {l : List V} {i q : Nat} (hi : i < l.length) (h : q < (l.eraseIdx i ++ [zI]).length) :
    (q < i ∧ ∃ h' : q < l.length, (l.eraseIdx i ++ [zI])[q] = l[q]) ∨ (i ≤ q ∧ ∃ h' : q + 1 < l.length, (l.eraseIdx i ++ [zI])[q] = l[q + 1]) ∨ (q + 1 = l.length ∧ (l.eraseIdx i ++ [zI])[q] = zI) := by
  have hl : (l.eraseIdx i).length = l.length - 1 := List.length_eraseIdx_of_lt hi
  have hq : q < l.length := by simp [hl] at h; omega
  by_cases h1 : q < l.length - 1
  · rw [List.getElem_append_left (by omega), List.getElem_eraseIdx]
    by_cases h2 : q < i
    · exact .inl ⟨h2, hq, by rw [dif_pos h2]⟩
    · exact .inr (.inl ⟨by omega, by omega, by rw [dif_neg h2]⟩)
  · refine .inr (.inr ⟨by omega, ?_⟩)
    rw [List.getElem_append_right (by omega)]
    simp
theorem del54_near : S54.Near := by
  refine ⟨fun obj obj2 t ds h => ?_, fun obj obj2 t ds h => rfl, fun obj t ds nm hn => hn, fun obj obj2 t ds h => rfl⟩
  simp only [S54] at h ⊢
  unfold aDel
  split
  · rename_i nm k i j
    have h' : obj2 nm = obj nm := h nm (by simp [delN])
    simp only [h']
    split
    · exact .one (by simp [delN]) h
    · exact .none _ h
  · exact .none _ h
set_option maxHeartbeats 1000000 in
theorem k54 : SSound Tryz.prog 54 S54 := by
  refine ⟨del54_near, fun _ args w => enter_of Tryz.func54 rfl (by kernel_rfl) args w, fun _ G φ m σ a w hC t ds us _ hl hr hok => ?_, fun e => (Nat.ne_of_lt (show (54 : Nat) < yid by decide) e).elim⟩
  simp only [S54, aDel] at hok ⊢
  split at hok
  case h_2 => exact hok.elim
  rename_i nm k i j
  simp only [List.length_cons, List.length_nil] at hl
  have r0 := hr 0 (by simp) (by omega)
  have r1 := hr 1 (by simp) (by omega)
  have r2 := hr 2 (by simp) (by omega)
  simp only [List.getElem_cons_zero, List.getElem_cons_succ] at r0 r1 r2
  have hus : us = #[us[0], us[1], us[2]] := by
    apply Array.ext
    · simp; omega
    · intro j h1 h2
      have : j = 0 ∨ j = 1 ∨ j = 2 := by omega
      rcases this with rfl | rfl | rfl <;> rfl
  rw [hus]
  generalize us[0] = u0 at r0
  generalize us[1] = u1 at r1
  generalize us[2] = u2 at r2
  clear hus hr hl us
  cases r1 with
  | v _ _ r1 =>
  cases r1 with
  | int _ _ =>
  cases r2 with
  | v _ _ r2 =>
  cases r2 with
  | int _ _ =>
  split at hok
  case h_2 => exact hok.elim
  rename_i sz l hnm
  obtain ⟨hk, hsz, hi0, hj, hil⟩ := hok
  subst hsz hj
  cases r0 with
  | msl _ _ _ hh hu' =>
  obtain ⟨o, nn, hnm', hlen, _, hval⟩ := hh
  rw [hnm] at hnm'; cases hnm'
  simp only [O.len?, Option.some.injEq] at hlen
  subst hlen
  have hv := hval hk
  subst hk
  obtain ⟨i, rfl⟩ : ∃ n : Nat, i = (n : Int) := ⟨i.toNat, by omega⟩
  simp only [Int.toNat_natCast] at hil ⊢
  rcases hC.objs nm _ hnm with ⟨_, hlnil⟩ | ⟨g0, g1, g2, g3, g4, us', T', f, g5, g6, g7, g8⟩
  · subst hlnil; simp at hil
  have hblk : (φ nm).blk < w.heap.size := (Array.getElem?_eq_some_iff.1 g5).1
  have hu0 : u0 = .slice (some ⟨(φ nm).blk, (φ nm).off, none⟩) l.length (φ nm).cap := by rw [hv]; simp only [Loc.slice, g0]; rfl
  subst hu0
  have hholds : holds φ σ.obj nm := ⟨_, hnm, rfl, g0⟩
  obtain ⟨c1, hc1⟩ : ∃ c1 : Nat → Nat → Value, ∀ q j, q < l.length → j < 1 → us'[(φ nm).off + q * 1 + j]? = some (c1 q j) := ⟨fun q j => (us'[(φ nm).off + q * 1 + j]?).getD undef, fun q j hq hj => by
    obtain ⟨c, x1, _⟩ := g8 q j hq (by rw [g3]; exact hj)
    simp only [x1, Option.getD_some]⟩
  have hr1 : ∀ q j (h : q < l.length) (h' : j < l[q].cells.length), RepV m l[q].cells[j] (c1 q j) := fun q j h h' => by
    obtain ⟨c, x1, x2⟩ := g8 q j h h'
    have := hc1 q j h (by rw [← g3 q h]; exact h')
    rw [x1] at this; cases this; exact x2
  have hcell1 : ∀ j v, (rowOf c1 l.length 1)[j]? = some v → w.cell? ⟨(φ nm).blk, (φ nm).off + j, none⟩ = some v := fun j v hjv => by
    have := rowOf_cell (w := w) (c := c1) (n := l.length) (sz := 1) (blk := (φ nm).blk) (o := (φ nm).off) (fun q j hq hj => by rw [cell?_of g5]; exact hc1 q j hq hj) j v hjv
    rwa [addr_add] at this
  have hone1 : ∀ v ∈ rowOf c1 l.length 1, v.oneCell' = true := by
    intro v hv
    simp only [rowOf, List.mem_map, List.mem_range] at hv
    obtain ⟨k, hk, rfl⟩ := hv
    obtain ⟨d1, d2⟩ := div_lt_of hk
    exact oneC_oneCell' ((hr1 _ _ d1 (by rw [g3]; exact d2)).one (g4 _ d1 _ (List.getElem_mem _)))
  refine (del54 (φ nm).blk (φ nm).off l.length (φ nm).cap i (rowOf c1 l.length 1) w hil g1 (by unfold maxLen at g2; omega) (rowOf_len _ _ _) hcell1 (fun j => frozen?_no g5 g6) hone1).mono ?_
  rintro e w' ⟨rfl, rfl⟩
  obtain ⟨us3, k1, k2, k3⟩ := setCells_heap (φ nm).blk T' f ((rowOf c1 l.length 1).drop ((i + 1) * 1)) ((φ nm).off + i * 1) w.drew us' g5
  obtain ⟨us4, k4, k5, k6⟩ := setCells_heap (φ nm).blk T' f (List.replicate 1 (.int .i64 0)) ((φ nm).off + (l.length - 1) * 1) (wset w.drew (φ nm).blk (.cells us3 T' f)) us3 (wset_same hblk)
  rw [k1, k4, wset_wset]
  have hL : (l.eraseIdx i ++ [zI]).length = l.length := by simp [List.length_eraseIdx_of_lt hil]; omega
  have hsize : ∀ q (h : q < (l.eraseIdx i ++ [zI]).length), (l.eraseIdx i ++ [zI])[q].cells.length = 1 := fun q h => by
    rcases del_get hil h with ⟨_, h', e⟩ | ⟨_, h', e⟩ | ⟨_, e⟩ <;> rw [e]
    · exact g3 _ _
    · exact g3 _ _
    · rfl
  have hones : ∀ q (h : q < (l.eraseIdx i ++ [zI]).length), ∀ x ∈ (l.eraseIdx i ++ [zI])[q].cells, x.one = true := fun q h => by
    rcases del_get hil h with ⟨_, h', e⟩ | ⟨_, h', e⟩ | ⟨_, e⟩ <;> rw [e]
    · exact g4 _ _
    · exact g4 _ _
    · intro x hx
      simp only [zI, V.cells, List.mem_cons, List.not_mem_nil, or_false, or_self] at hx
      subst hx; rfl
  have hcapm : l.length * 1 ≤ (φ nm).cap * 1 := Nat.mul_le_mul_right _ g1
  have hcells : ∀ q j (h : q < (l.eraseIdx i ++ [zI]).length) (h' : j < (l.eraseIdx i ++ [zI])[q].cells.length), ∃ c, us4[(φ nm).off + q * 1 + j]? = some c ∧ RepV m (l.eraseIdx i ++ [zI])[q].cells[j] c := by
    intro q j h h'
    have hq : q < l.length := by rw [← hL]; exact h
    have hj : j < 1 := by rw [← hsize q h]; exact h'
    rw [k6 _ (by rw [k2]; omega), k3 _ (by omega)]
    simp only [List.length_replicate, List.length_drop, rowOf_len]
    rcases del_get hil h with ⟨h1, h2, e⟩ | ⟨h1, h2, e⟩ | ⟨h1, e⟩
    · simp only [e] at h' ⊢
      rw [if_neg (by omega), if_neg (by omega)]
      exact ⟨_, hc1 q j h2 hj, hr1 q j h2 h'⟩
    · simp only [e] at h' ⊢
      rw [if_neg (by omega), if_pos (by omega), List.getElem?_drop, show (i + 1) * 1 + ((φ nm).off + q * 1 + j - ((φ nm).off + i * 1)) = (q + 1) * 1 + j by omega]
      exact ⟨_, rowOf_get c1 h2 hj, hr1 (q + 1) j h2 h'⟩
    · simp only [e] at h' ⊢
      rw [if_pos (by omega)]
      refine ⟨.int .i64 0, by rw [List.getElem?_replicate, if_pos (by omega)], ?_⟩
      have hz : zI.cells[j] = .int .i64 0 := by
        have : zI.cells = List.replicate 1 (.int .i64 0) := rfl
        simp only [this, List.getElem_replicate]
      rw [hz]
      exact .int _ _
  have hx := Ext.same (φ := φ) (o' := .arr 1 (l.eraseIdx i ++ [zI])) hnm (by simp only [O.len?, hL]) rfl
  have hC1 := hC.chg (w' := wset w.drew (φ nm).blk (.cells us4 T' f)) nm (.arr 1 (l.eraseIdx i ++ [zI])) (φ nm) hx ⟨rfl, rfl, rfl, by rw [wset_size]; exact Nat.le_refl _⟩
    (fun b' hb' hn => by
      rw [wset_ne (by rcases hn with h | h; · rw [g0] at h; cases h
                      · exact h)]
      rfl) (fun _ => .inr ⟨hholds, rfl⟩)
    (.inr ⟨g0, by rw [hL]; exact g1, g2, hsize, hones, us4, T', f, wset_same hblk, g6, by rw [k5, k2]; exact g7, hcells⟩)
  rw [upd_id] at hC1 hx
  obtain ⟨m', q1, q2, q3⟩ := hC1.frz1 nm (.arr 1 (l.eraseIdx i ++ [zI])) (.farr 1 (l.eraseIdx i ++ [zI])) (upd_same _ _ _) rfl g0 us4 T' f (wset_same hblk) rfl rfl rfl
    (fun m' hle hm' => .inr ⟨g0, ⟨by rw [hL]; exact g1, by rw [hL]; exact Nat.le_trans g1 g2⟩, hsize, hones, fun i j a b => let ⟨c, x, y⟩ := hcells i j a b; ⟨c, hm' _ _ x, y.mono hle⟩⟩)
  simp only [upd_upd] at q2
  have hx2 : Ext φ φ σ.obj (upd σ.obj nm (some (.farr 1 (l.eraseIdx i ++ [zI])))) := by
    have := Ext.same (φ := φ) (o' := .farr 1 (l.eraseIdx i ++ [zI])) hnm (by simp only [O.len?, hL]) rfl
    rwa [upd_id] at this
  refine ⟨_, φ, m', rfl, q2, .v _ _ ?_, hx2⟩
  have hel : (l.eraseIdx i).length = l.length - 1 := List.length_eraseIdx_of_lt hil
  rw [← hel]
  by_cases hnil : l.eraseIdx i = []
  · rw [hnil]; exact .slnil _ _
  · have hget : ∀ q (h : q < (l.eraseIdx i).length), (l.eraseIdx i ++ [zI])[q]'(by rw [List.length_append]; omega) = (l.eraseIdx i)[q] := fun q h => List.getElem_append_left h
    refine .sl _ _ _ _ 1 (fun q j => (us4[(φ nm).off + q * 1 + j]?).getD undef) hnil (by rw [hel]; omega) (by rw [hel]; omega) (fun q h => ?_) (fun q j h hj => ?_) (fun q j h hj => ?_) (fun q h => ?_)
    · rw [← hget q h]; exact hsize _ _
    · obtain ⟨c, x, y⟩ := hcells q j (by rw [List.length_append]; omega) (by rw [hsize]; exact hj)
      rw [x]; exact q3 _ _ x
    · have hg := hget q h
      simp only [← hg] at hj ⊢
      obtain ⟨c, x, y⟩ := hcells q j (by rw [List.length_append]; omega) hj
      rw [x]; exact y.mono q1
    · rw [← hget q h]; exact hones _ _
end Go.Eng
/- What the evaluation of lend's sane takes from elsewhere: clones, Delete, sums and texts. -/
set_option linter.unusedVariables false
namespace Go.Eng
open Go Go.Proofs
/-! texts and sums, so that the kernel can reckon them -/
def digF : Nat → Nat → List Nat → List Nat
  | 0, _, acc => acc
  | f + 1, n, acc => cond (Nat.blt n 10) ((48 + n) :: acc) (digF f (n / 10) ((48 + n % 10) :: acc))
theorem digF_eq : ∀ (f n : Nat) (acc : List Nat), n < 10 ^ (f + 1) → digF (f + 1) n acc = (Lib.decDigits n).map UInt8.toNat ++ acc
  | f, n, acc, h => by
    unfold digF
    by_cases h9 : n < 10
    · have hb : Nat.blt n 10 = true := by simpa [Nat.blt_eq] using h9
      have : (UInt8.ofNat (48 + n)).toNat = 48 + n := UInt8.toNat_ofNat_of_lt' (by show 48 + n < 256; omega)
      rw [hb, Lib.decDigits_one h9, List.map_cons, List.map_nil, this]
      rfl
    · have hb : Nat.blt n 10 = false := by
        cases hh : Nat.blt n 10 with
        | false => rfl
        | true => exact absurd (by simpa [Nat.blt_eq] using hh) h9
      have hm : n % 10 < 10 := Nat.mod_lt _ (by omega)
      have : (UInt8.ofNat (48 + n % 10)).toNat = 48 + n % 10 := UInt8.toNat_ofNat_of_lt' (by show 48 + n % 10 < 256; omega)
      rw [hb, dig_step (by omega), cond_false]
      match f, h with
      | 0, h => exact absurd h (by simpa using h9)
      | g + 1, h =>
        rw [digF_eq g (n / 10) _ (by rw [Nat.pow_succ] at h; omega), List.map_append, List.map_cons, List.map_nil, this, List.append_assoc]
        rfl
def lineN (w : List Nat) (l : List Int) : List Nat := w ++ (l.flatMap (fun n => 32 :: digF 8 n.toNat []) ++ [10])
def unN (i : Nat) (l : List Par) : List Nat := l.flatMap fun p => lineN [117, 110, 100, 101, 114] [(i : Int), p.no, p.pa]
def textN (s : Stk) : List Nat :=
  lineN [104, 111, 108, 100, 115] s.ho ++ (unN 0 s.un.a ++ (unN 1 s.un.b ++ (unN 2 s.un.c ++ (unN 3 s.un.d ++ (unN 4 s.un.e ++ (unN 5 s.un.f ++ (lineN [115, 101, 110, 116] [s.se.a, s.se.b, s.se.c, s.se.d, s.se.e, s.se.f] ++ lineN [116, 97, 107, 101, 110] [s.ta.a, s.ta.b, s.ta.c, s.ta.d, s.ta.e, s.ta.f])))))))
def bN (b : ByteArray) : List Nat := b.data.toList.map UInt8.toNat
theorem bN_app (a b : ByteArray) : bN (a ++ b) = bN a ++ bN b := by
  unfold bN
  rw [← List.map_append]
  congr 1
  all_goals simp
theorem bN_str (l : List UInt8) : bN (strV l) = l.map UInt8.toNat := by simp [bN, strV]
theorem flatN_eq : ∀ {l : List Int}, (∀ n ∈ l, okN n) → (l.flatMap (fun n => 32 :: Lib.itoa n)).map UInt8.toNat = l.flatMap (fun n => 32 :: digF 8 n.toNat [])
  | [], _ => rfl
  | n :: r, h => by
    obtain ⟨h0, h1⟩ := h n (by simp)
    rw [List.flatMap_cons, List.flatMap_cons, List.map_append, flatN_eq fun m hm => h m (by simp [hm]), List.map_cons, itoa_nn h0, digF_eq 7 n.toNat [] (by show n.toNat < 100000000; omega), List.append_nil]
    rfl
theorem lineN_eq {w : List UInt8} {l : List Int} (h : ∀ n ∈ l, okN n) : bN (lineV (strV w) l) = lineN (w.map UInt8.toNat) l := by
  have e : (strV w).data.toList = w := by simp [strV]
  rw [lineV_eq, bN_str]
  unfold lineN lineL linePre
  rw [List.take_length, List.map_append, List.map_append, List.append_assoc, flatN_eq h, e]
  rfl
theorem unN_eq {a : ByteArray} {i : Nat} (hi : i < 6) {l : List Par} (h : ∀ p ∈ l, okN p.no ∧ okN p.pa) : ∀ k, k ≤ l.length → bN (unV a i l k) = bN a ++ unN i (l.take k)
  | 0, _ => by simp [unV, unN]
  | k + 1, hk => by
    have hk' : k < l.length := by omega
    have hq := h _ (List.getElem_mem hk')
    have ht : l.take (k + 1) = l.take k ++ [l[k]] := by rw [List.take_add_one, List.getElem?_eq_getElem hk']; rfl
    rw [unV, bN_app, unN_eq hi h k (by omega), getD_in hk', ht]
    have : bN (lineV wUnder [(i : Int), l[k].no, l[k].pa]) = lineN [117, 110, 100, 101, 114] [(i : Int), l[k].no, l[k].pa] := lineN_eq (w := [117, 110, 100, 101, 114]) (ok3 hi hq)
    rw [this]
    unfold unN
    rw [List.flatMap_append, List.flatMap_cons, List.flatMap_nil, List.append_nil, List.append_assoc]
theorem outN_succ {s : Stk} (hs : okS s) {i : Nat} (hi : i < 6) : bN (outV s (i + 1)) = bN (outV s i) ++ unN i (s.un.get i) := by
  have := unN_eq (a := outV s i) hi (hs.un i hi) _ (Nat.le_refl _)
  rw [List.take_length] at this
  exact this
theorem textN_eq {s : Stk} (hs : okS s) : bN (textV s) = textN s := by
  unfold textV textN
  have h0 : bN (outV s 0) = lineN [104, 111, 108, 100, 115] s.ho := lineN_eq (w := [104, 111, 108, 100, 115]) hs.ho
  have h7 : bN (lineV wSent (s.se.L id)) = lineN [115, 101, 110, 116] [s.se.a, s.se.b, s.se.c, s.se.d, s.se.e, s.se.f] := lineN_eq (w := [115, 101, 110, 116]) (six_mem hs.se)
  have h8 : bN (lineV wTaken (s.ta.L id)) = lineN [116, 97, 107, 101, 110] [s.ta.a, s.ta.b, s.ta.c, s.ta.d, s.ta.e, s.ta.f] := lineN_eq (w := [116, 97, 107, 101, 110]) (six_mem hs.ta)
  rw [bN_app, bN_app, h7, h8, outN_succ hs (show 5 < 6 by omega), outN_succ hs (show 4 < 6 by omega), outN_succ hs (show 3 < 6 by omega), outN_succ hs (show 2 < 6 by omega), outN_succ hs (show 1 < 6 by omega), outN_succ hs (show 0 < 6 by omega), h0]
  simp only [List.append_assoc]
  rfl
def stepN (o c : Nat) : Nat := (257 * o + c + 1) % 1000003
def sumN (s : Stk) (n : Int) : Nat := (textN s).foldl stepN (n.toNat % 1000003)
theorem tmod_nat (a : Nat) : ((a : Int)).tmod 1000003 = ((a % 1000003 : Nat) : Int) := rfl
theorem sumTo_nat (b : ByteArray) (n : Nat) : ∀ i, i ≤ b.size → sumTo b n i = (((bN b).take i).foldl stepN (n % 1000003) : Nat)
  | 0, _ => by rw [List.take_zero]; rfl
  | i + 1, h => by
    have hl : (bN b).length = b.size := by simp [bN]
    have hi : i < (bN b).length := by omega
    have hd : i < b.data.size := h
    have hc : byteC b i = (bN b)[i] := by
      have e1 : (bN b)[i] = (b.data[i]).toNat := by simp [bN]
      have e2 : b.data.getD i 0 = b.data[i] := by
        unfold Array.getD
        rw [dif_pos hd]
        rfl
      rw [e1, ← e2]
      rfl
    rw [sumTo, sumTo_nat b n i (by omega), List.take_add_one, List.getElem?_eq_getElem hi, List.foldl_append, hc]
    have : (257 * ((((bN b).take i).foldl stepN (n % 1000003) : Nat) : Int) + ((bN b)[i] : Nat) + 1) = ((257 * (((bN b).take i).foldl stepN (n % 1000003)) + (bN b)[i] + 1 : Nat) : Int) := by simp
    rw [this, tmod_nat]
    rfl
theorem sumV_eq {s : Stk} {n : Int} (hs : okS s) (hn : okN n) : sumV s n = (sumN s n : Nat) := by
  obtain ⟨N, rfl⟩ : ∃ N : Nat, n = N := ⟨n.toNat, by have := hn.1; omega⟩
  unfold sumV sumN
  have hl : (bN (textV s)).length = (textV s).size := by simp [bN]
  rw [sumTo_nat _ _ _ (Nat.le_refl _), ← hl, List.take_length, textN_eq hs, Int.toNat_natCast]
/-! what a call is handed, as data -/
def rowV : Option O → Option (List V)
  | some (.arr _ l) => some l
  | some (.farr _ l) => some l
  | _ => none
def rd1 (obj : Name → Option O) : D → Option V
  | .v x => some x
  | .nilsl => some (.sl [])
  | .msl nm k => match rowV (obj nm) with
    | some l => cond (Nat.beq k l.length) (some (.sl l)) none
    | none => none
  | _ => none
def rdL (obj : Name → Option O) : List D → Option (List V)
  | [] => some []
  | d :: r => match rd1 obj d with
    | some x => match rdL obj r with
      | some xs => some (x :: xs)
      | none => none
    | none => none
def Like2 (obj obj2 : Name → Option O) : Prop := ∀ nm, rowV (obj2 nm) = rowV (obj nm)
theorem rd1_frz (n : Nat) {obj obj2 : Name → Option O} (h : Like2 obj obj2) {d : D} {x : V} (hx : rd1 obj d = some x) :
    (frz (n + 1) obj2 d).ok ∧ (frz (n + 1) obj2 d).x = x ∧ Like2 obj (frz (n + 1) obj2 d).obj := by
  cases d with
  | v y => cases hx; exact ⟨trivial, rfl, h⟩
  | nilsl => cases hx; exact ⟨trivial, rfl, h⟩
  | msl nm k =>
    have hnm := h nm
    unfold rd1 at hx
    cases ho : obj2 nm with
    | none =>
      rw [ho] at hnm
      have h0 : rowV (obj nm) = none := hnm.symm
      simp only [h0] at hx
      cases hx
    | some o =>
      rw [ho] at hnm
      cases o with
      | arr sz l =>
        have h0 : rowV (obj nm) = some l := hnm.symm
        simp only [h0] at hx
        cases hb : Nat.beq k l.length with
        | false => rw [hb] at hx; cases hx
        | true =>
          rw [hb] at hx
          cases hx
          have hk := Nat.eq_of_beq_eq_true hb
          simp only [frz, ho]
          refine ⟨hk, trivial, fun y => ?_⟩
          by_cases hy : y = nm
          · subst hy
            rw [upd_same]
            exact h0.symm
          · rw [upd_ne _ _ _ hy]
            exact h y
      | farr sz l =>
        have h0 : rowV (obj nm) = some l := hnm.symm
        simp only [h0] at hx
        cases hb : Nat.beq k l.length with
        | false => rw [hb] at hx; cases hx
        | true =>
          rw [hb] at hx
          cases hx
          simp only [frz, ho]
          exact ⟨Nat.eq_of_beq_eq_true hb, trivial, h⟩
      | _ =>
        have h0 : rowV (obj nm) = none := hnm.symm
        simp only [h0] at hx
        cases hx
  | _ => cases hx
theorem rdL_frz (n : Nat) {obj : Name → Option O} : ∀ {ds : List D} {xs : List V} {obj2 : Name → Option O}, Like2 obj obj2 → rdL obj ds = some xs →
    (frzL (frz (n + 1)) obj2 ds).ok ∧ (frzL (frz (n + 1)) obj2 ds).xs = xs ∧ Like2 obj (frzL (frz (n + 1)) obj2 ds).obj
  | [], xs, obj2, h, hx => by cases hx; exact ⟨trivial, rfl, h⟩
  | d :: r, xs, obj2, h, hx => by
    unfold rdL at hx
    split at hx
    · rename_i x hd
      split at hx
      · rename_i ys hr
        cases hx
        obtain ⟨a1, a2, a3⟩ := rd1_frz n h hd
        obtain ⟨b1, b2, b3⟩ := rdL_frz n a3 hr
        exact ⟨⟨a1, b1⟩, by simp only [frzL, a2, b2], b3⟩
      · cases hx
    · cases hx
def rdS (obj : Name → Option O) : D → Option (List V)
  | .agg l => rdL obj l
  | .v (.agg l) => some l
  | _ => none
theorem rdS_frz {obj : Name → Option O} {d : D} {L : List V} (h : rdS obj d = some L) : (frz 6 obj d).ok ∧ (frz 6 obj d).x = .agg L := by
  cases d with
  | agg l =>
    obtain ⟨a1, a2, _⟩ := rdL_frz 4 (fun _ => rfl) (show rdL obj l = some L from h)
    exact ⟨a1, by simp only [frz] at *; exact congrArg V.agg a2⟩
  | v y =>
    cases y with
    | agg l => cases h; exact ⟨trivial, rfl⟩
    | _ => cases h
  | _ => cases h
/-! the contracts that can be run -/
def okNb (n : Int) : Bool := decide (0 ≤ n) && decide (n ≤ 1000000)
theorem okNb_ok {n : Int} (h : okNb n = true) : okN n := by
  unfold okNb at h
  simp only [Bool.and_eq_true, decide_eq_true_eq] at h
  exact h
def six6 {α : Type} (s : Six α) (f : α → Bool) : Bool := f s.a && (f s.b && (f s.c && (f s.d && (f s.e && f s.f))))
theorem six6_ok {α : Type} {s : Six α} {f : α → Bool} (h : six6 s f = true) : ∀ i, i < 6 → f (s.get i) = true := by
  unfold six6 at h
  simp only [Bool.and_eq_true] at h
  obtain ⟨h0, h1, h2, h3, h4, h5⟩ := h
  intro i hi
  match i, hi with
  | 0, _ => exact h0
  | 1, _ => exact h1
  | 2, _ => exact h2
  | 3, _ => exact h3
  | 4, _ => exact h4
  | 5, _ => exact h5
def okSb (s : Stk) : Bool := Nat.ble s.ho.length 40 && (s.ho.all okNb && (six6 s.un (fun l => Nat.ble l.length 40 && l.all fun p => okNb p.no && okNb p.pa) && (six6 s.se okNb && six6 s.ta okNb)))
theorem okSb_ok {s : Stk} (h : okSb s = true) : okS s := by
  unfold okSb at h
  simp only [Bool.and_eq_true] at h
  obtain ⟨h1, h2, h3, h4, h5⟩ := h
  have h3' := six6_ok h3
  refine ⟨Nat.le_of_ble_eq_true h1, fun n hn => okNb_ok (List.all_eq_true.1 h2 n hn), fun i hi => ?_, fun i hi p hp => ?_, fun i hi => okNb_ok (six6_ok h4 i hi), fun i hi => okNb_ok (six6_ok h5 i hi)⟩
  · have := h3' i hi
    simp only [Bool.and_eq_true] at this
    exact Nat.le_of_ble_eq_true this.1
  · have := h3' i hi
    simp only [Bool.and_eq_true] at this
    have := List.all_eq_true.1 this.2 p hp
    simp only [Bool.and_eq_true] at this
    exact ⟨okNb_ok this.1, okNb_ok this.2⟩
/-- A sum, run. -/
noncomputable def sumB : SpecB where
  spec := P60.toSpec
  run obj t ds := match ds with
    | [d, .v (.int .i64 n)] => match rdS obj d with
      | some L => cond (okSb (decStL L) && (okNb n && vEqM 6 (.agg (stL (decStL L))) (.agg L))) (some ⟨.v (.int .i64 (sumN (decStL L) n : Nat)), fpL (fp 6 obj) ds, [], fun t => t⟩) none
      | none => none
    | _ => none
  ok := by
    intro obj t ds r hr
    split at hr
    · rename_i d n
      split at hr
      · rename_i L hL
        cases hb : (okSb (decStL L) && (okNb n && vEqM 6 (.agg (stL (decStL L))) (.agg L))) with
        | false => rw [hb] at hr; cases hr
        | true =>
          rw [hb] at hr
          cases hr
          simp only [Bool.and_eq_true] at hb
          obtain ⟨h1, h2, h3⟩ := hb
          replace h3 : stL (decStL L) = L := V.agg.inj (vEqM_ok 6 h3)
          obtain ⟨a1, a2⟩ := rdS_frz hL
          have hxs : (frzL (frz 6) obj [d, .v (.int .i64 n)]).xs = [.agg L, .int .i64 n] := by
            show [(frz 6 obj d).x, (frz 6 (frz 6 obj d).obj (.v (.int .i64 n))).x] = _
            rw [a2]; rfl
          have hok : (frzL (frz 6) obj [d, .v (.int .i64 n)]).ok := ⟨a1, trivial, trivial⟩
          have hpre : P60.pre [.agg L, .int .i64 n] := ⟨congrArg V.agg h3, rfl, okSb_ok h1, okNb_ok h2⟩
          have hfn : P60.fn [.agg L, .int .i64 n] = vInt (sumV (decStL L) n) := rfl
          refine ⟨?_, ?_, rfl, rfl, fun tbl h => h⟩
          · show _ ∧ P60.pre _
            rw [hxs]
            exact ⟨hok, hpre⟩
          · show D.v (P60.fn _) = _
            rw [hxs, hfn, sumV_eq (okSb_ok h1) (okNb_ok h2)]
      · cases hr
    · cases hr
theorem str_of {b : ByteArray} {l : List Nat} (h : bN b = l) : (⟨(l.map UInt8.ofNat).toArray⟩ : ByteArray) = b := by
  subst h
  apply ByteArray.ext
  unfold bN
  rw [List.map_map]
  have : (UInt8.ofNat ∘ UInt8.toNat) = id := by funext x; simp
  rw [this, List.map_id]
/-- A text, run. -/
noncomputable def textB : SpecB where
  spec := P91.toSpec
  run obj t ds := match ds with
    | [d] => match rdS obj d with
      | some L => cond (okSb (decStL L) && vEqM 6 (.agg (stL (decStL L))) (.agg L)) (some ⟨.v (.str ⟨((textN (decStL L)).map UInt8.ofNat).toArray⟩), fpL (fp 6 obj) ds, [], fun t => t⟩) none
      | none => none
    | _ => none
  ok := by
    intro obj t ds r hr
    split at hr
    · rename_i d
      split at hr
      · rename_i L hL
        cases hb : (okSb (decStL L) && vEqM 6 (.agg (stL (decStL L))) (.agg L)) with
        | false => rw [hb] at hr; cases hr
        | true =>
          rw [hb] at hr
          cases hr
          simp only [Bool.and_eq_true] at hb
          obtain ⟨h1, h3⟩ := hb
          replace h3 : stL (decStL L) = L := V.agg.inj (vEqM_ok 6 h3)
          obtain ⟨a1, a2⟩ := rdS_frz hL
          have hxs : (frzL (frz 6) obj [d]).xs = [.agg L] := by
            show [(frz 6 obj d).x] = _
            rw [a2]
          have hok : (frzL (frz 6) obj [d]).ok := ⟨a1, trivial⟩
          have hpre : P91.pre [.agg L] := ⟨congrArg V.agg h3, okSb_ok h1⟩
          have hfn : P91.fn [.agg L] = .str (textV (decStL L)) := rfl
          refine ⟨?_, ?_, rfl, rfl, fun tbl h => h⟩
          · show _ ∧ P91.pre _
            rw [hxs]
            exact ⟨hok, hpre⟩
          · show D.v (P91.fn _) = _
            rw [hxs, hfn, str_of (textN_eq (okSb_ok h1))]
      · cases hr
    · cases hr
/-- Delete, run. -/
noncomputable def delB : SpecB where
  spec := S54
  run obj t ds := match ds with
    | [.msl nm k, .v (.int .i64 i), .v (.int .i64 j)] => match obj nm with
      | some (.arr sz l) => cond (Nat.beq k l.length && (Nat.beq sz 1 && (decide (0 ≤ i) && (decide (j = i + 1) && Nat.blt i.toNat l.length)))) (some ⟨.v (.sl (l.eraseIdx i.toNat)), [nm], [nm], fun t => setT t nm (.farr sz (l.eraseIdx i.toNat ++ [zI]))⟩) none
      | _ => none
    | _ => none
  ok := by
    intro obj t ds r hr
    split at hr
    · rename_i nm k i j
      split at hr
      · rename_i sz l ho
        cases hb : (Nat.beq k l.length && (Nat.beq sz 1 && (decide (0 ≤ i) && (decide (j = i + 1) && Nat.blt i.toNat l.length)))) with
        | false => rw [hb] at hr; cases hr
        | true =>
          rw [hb] at hr
          cases hr
          simp only [Bool.and_eq_true, decide_eq_true_eq] at hb
          obtain ⟨h1, h2, h3, h4, h5⟩ := hb
          have h5' : i.toNat < l.length := by simpa [Nat.blt_eq] using h5
          simp only [S54, aDel, ho]
          refine ⟨⟨Nat.eq_of_beq_eq_true h1, Nat.eq_of_beq_eq_true h2, h3, h4, h5'⟩, trivial, rfl, rfl, fun tbl h => ?_⟩
          rw [lookT_setT, h]
      · cases hr
    · cases hr
end Go.Eng
/- The base of lend's evaluation. -/
namespace Go.Eng
open Go Go.Proofs
noncomputable def lendB (f : FuncId) : Option SpecB :=
  match Nat.beq f 76 with
  | true => some (cloneB Tryz.prog 23)
  | false => match Nat.beq f 77 with
    | true => some (cloneB Tryz.prog 22)
    | false => match Nat.beq f 60 with
      | true => some sumB
      | false => match Nat.beq f 91 with
        | true => some textB
        | false => match Nat.beq f 54 with
          | true => some delB
          | false => none
noncomputable def keyBase (_ : FuncId → Option SpecB) (f : FuncId) : Option SpecB := lendB f
theorem keyBase_sound : ∀ Γ : FuncId → Option SpecB, (∀ f s, ofB Γ f = some s → SSound Tryz.prog f s) → ∀ f s, keyBase Γ f = some s → SSound Tryz.prog f s.spec := by
  intro Γ _ f s h
  unfold keyBase lendB at h
  split at h
  · rename_i hb; have := Nat.eq_of_beq_eq_true hb; subst this; cases h; exact clone_sound clone76
  · split at h
    · rename_i hb; have := Nat.eq_of_beq_eq_true hb; subst this; cases h; exact clone_sound clone77
    · split at h
      · rename_i hb; have := Nat.eq_of_beq_eq_true hb; subst this; cases h; exact k60
      · split at h
        · rename_i hb; have := Nat.eq_of_beq_eq_true hb; subst this; cases h; exact s91.sound
        · split at h
          · rename_i hb; have := Nat.eq_of_beq_eq_true hb; subst this; cases h; exact k54
          · cases h
noncomputable def keyΓ (F : List Nat) (T : List Ent) : FuncId → Option SpecB := ΓB Tryz.prog (baseM Tryz.prog keyBase 100000 F T) 100000 24
theorem keyΓ_sound {F : List Nat} {T : List Ent} (hT : ∀ e ∈ T, Ran Tryz.prog e) : ∀ f s, ofB (keyΓ F T) f = some s → SSound Tryz.prog f s :=
  ΓB_sound (baseM_sound (fun Γ h f s => keyBase_sound Γ h f s) hT) 24
theorem key_ran {F : List Nat} {T : List Ent} (hT : ∀ e ∈ T, Ran Tryz.prog e) {e : Ent} (h : runE Tryz.prog (keyΓ F T) 100000 e = true) : Ran Tryz.prog e := runE_ok (keyΓ_sound hT) h
theorem ran_cons {P : Program} {e : Ent} {T : List Ent} (h : Ran P e) (hT : ∀ e ∈ T, Ran P e) : ∀ x ∈ e :: T, Ran P x := by
  intro x hx
  rcases List.mem_cons.1 hx with rfl | hx
  · exact h
  · exact hT x hx
def keT0 : List Ent := []
theorem keO0 : ∀ e ∈ keT0, Ran Tryz.prog e := fun e h => by cases h
end Go.Eng
