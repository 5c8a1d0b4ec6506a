import Derived.Test.YtofamdkaipongaaGreatK19
/- The law KeysMoves holds: Changed and Moved agree with the specification, for all deeds, an item and days. -/
set_option linter.all false
set_option linter.unnecessarySimpa false
set_option linter.unusedSimpArgs false
set_option linter.unusedVariables false
set_option linter.constructorNameAsVariable false
namespace Go.Eng
open Go Go.Proofs
set_option maxRecDepth 10000
/-! the locks of which something else is told -/
def lksTo (q : Nat → Bool) (s : Nat) : List Int := ((List.range s).filter fun n : Nat => decide (0 < n) && q n).map fun n : Nat => (n : Int)
theorem lksTo_next (q : Nat → Bool) {s : Nat} (h : 1 ≤ s) : lksTo q (s + 1) = if q s = true then lksTo q s ++ [(s : Int)] else lksTo q s := by
  unfold lksTo
  rw [List.range_succ, List.filter_append, List.map_append]
  have : decide (0 < s) = true := by simp; omega
  simp only [List.filter_cons, List.filter_nil, this, Bool.true_and]
  split <;> simp
theorem lksTo_len (q : Nat → Bool) (s : Nat) : (lksTo q s).length ≤ s := by
  unfold lksTo
  rw [List.length_map]
  have := List.length_filter_le (fun n : Nat => decide (0 < n) && q n) (List.range s)
  simpa using this
noncomputable def difB (l m : List Deed) (day k j : Int) (n : Nat) : Bool :=
  !(lockE l n day k [] == lockE m n day j [] && decide (whoR (·.h) l n day k = whoR (·.h) m n day j) && decide (whoR (·.n) l n day k = whoR (·.n) m n day j))
noncomputable def movR (l m : List Deed) (day k j : Int) : List Int := lksTo (difB l m day k j) 4
def pMov (f : List Deed → List Deed → Int → Int → Int → V) : PSpec := ⟨fun xs => ∃ (l m : List Deed) (a b c : Int), xs = [.sl (l.map encD), .sl (m.map encD), vInt a, vInt b, vInt c], fun xs => match xs with | [.sl l, .sl m, .int _ a, .int _ b, .int _ c] => f (l.map decD) (m.map decD) a b c | _ => .bool false, false⟩
theorem pMov_fn (f : List Deed → List Deed → Int → Int → Int → V) (l m : List Deed) (a b c : Int) : (pMov f).fn [.sl (l.map encD), .sl (m.map encD), vInt a, vInt b, vInt c] = f l m a b c := by
  simp only [pMov, decD_map]
def pDif (f : List Deed → List Deed → Int → Int → Int → V) : PSpec := ⟨fun xs => ∃ (l m : List Deed) (a b c : Int), xs = [.agg [.sl (l.map encD), .sl (m.map encD)], vInt a, .agg [vInt b, vInt c]], fun xs => match xs with | [.agg [.sl l, .sl m], .int _ a, .agg [.int _ b, .int _ c]] => f (l.map decD) (m.map decD) a b c | _ => .bool false, false⟩
theorem pDif_fn (f : List Deed → List Deed → Int → Int → Int → V) (l m : List Deed) (a b c : Int) : (pDif f).fn [.agg [.sl (l.map encD), .sl (m.map encD)], vInt a, .agg [vInt b, vInt c]] = f l m a b c := by
  simp only [pDif, decD_map]
noncomputable def sLook : Spec := pLook.toSpec
theorem sLook_app {obj : Name → Option O} {t : Name} {a b : List Int} {e : Int} {c d : List Int} {f : Int} : sLook.app obj t [.v (lookV a b e), .v (lookV c d f)] = ⟨True, .v (.bool (e == f && decide (a = c) && decide (b = d))), obj⟩ := by
  simp only [sLook, PSpec.toSpec, frzL, frz, pLook_fn, ite_self]
  congr 1
  simp only [eq_iff_iff, iff_true]
  exact ⟨⟨trivial, trivial, trivial⟩, a, b, e, c, d, f, rfl⟩
noncomputable def K71 : FuncId → Option Spec := fun f => match f with
  | 135 => some (sLI3 seeV false)
  | 136 => some sLook
  | 24 => some sSameI
  | 137 => some (sLA (fun l a => .tup [.sl ((whoR (·.h) l a.lo a.da a.kn).map vInt), .sl ((whoR (·.n) l a.lo a.da a.kn).map vInt), vInt (lockE l a.lo a.da a.kn [])]) false)
  | _ => none
theorem K71_sound : ∀ f s, K71 f = some s → SSound Tryz.prog f s := by
  intro f s h
  unfold K71 at h
  split at h
  · cases h; exact s135.sound
  · cases h; exact s136.sound
  · cases h; exact s24.sound
  · cases h; exact s137.sound
  · cases h
@[go_sem] theorem K71_135 : K71 135 = some (sLI3 seeV false) := rfl
@[go_sem] theorem K71_136 : K71 136 = some sLook := rfl
@[go_sem] theorem K71_24 : K71 24 = some sSameI := rfl
@[go_sem] theorem K71_137 : K71 137 = some (sLA (fun l a => .tup [.sl ((whoR (·.h) l a.lo a.da a.kn).map vInt), .sl ((whoR (·.n) l a.lo a.da a.kn).map vInt), vInt (lockE l a.lo a.da a.kn [])]) false) := rfl
set_option maxHeartbeats 8000000 in
theorem s71 : PSound Tryz.prog 71 (pMov fun l m day k j => .sl ((movR l m day k j).map vInt)) := by
  refine psoundB (rs := [.tmp 10]) Tryz.func71 Tryz.ntmps71 (by rfl) (by kernel_rfl) (by decide) (fun h => by cases h) ⟨_, rfl, ?_⟩
  rintro xs ⟨l, m, day, k, j, rfl⟩ hw
  refine ⟨Nat.le_of_ble_eq_true rfl, ?_⟩
  rw [pMov_fn]
  unfold movR
  have hΓ := K71_sound
  have hq : ∀ n : Nat, (lockE l n day k [] == lockE m n day j [] && decide (whoR (·.h) l n day k = whoR (·.h) m n day j) && decide (whoR (·.n) l n day k = whoR (·.n) m n day j)) = !difB l m day k j n := fun n => by unfold difB; rw [Bool.not_not]
  generalize difB l m day k j = q at hq ⊢
  repeat refine cl_seq ?_
  refine cl_rs hΓ [0,1,2,3,4] [] fun K' hK => ?_
  simp only [go_sem]
  repeat (refine ⟨ob, ?_⟩)
  refine hK _ ?_ ?_ <;> clear K' hK <;> simp only [go_sem]
  repeat refine cl_seq ?_
  refine cl_rs hΓ [0,1,2,3,4,11] [] fun K' hK => ?_
  simp only [go_sem]
  repeat (refine ⟨ob, ?_⟩)
  refine hK _ ?_ ?_ <;> clear K' hK <;> simp only [go_sem]
  refine cl_weakM (σ' := mkS 34 [0] (fun _ => none) [(0, ⟨true, .v (.sl (l.map encD))⟩), (1, ⟨true, .v (.sl (m.map encD))⟩), (2, ⟨true, .v (vInt day)⟩), (3, ⟨true, .v (vInt k)⟩), (4, ⟨true, .v (vInt j)⟩), (11, ⟨true, .msl [32, 0] 0⟩)] [([32, 0], .arr 1 [])]) (weakM_ghostk 11 [32, 0] 1 (by simp only [go_sem]) (by simp only [go_sem]) [0, 1, 2, 3, 4, 11] [[32, 0]] ?_ ?_) ?_
  · simp only [go_sem]
  · simp only [go_sem]
  repeat refine cl_seq ?_
  refine cl_rs hΓ [0,1,2,3,4,11,12] [[32, 0]] fun K' hK => ?_
  simp only [go_sem]
  repeat (refine ⟨ob, ?_⟩)
  refine hK _ ?_ ?_ <;> clear K' hK <;> simp only [go_sem]
  repeat refine cl_seq ?_
  refine cl_block ?_
  repeat refine cl_seq ?_
  refine cl_loop' (fun s : Nat => [(11, ⟨true, .msl [32, 0] (lksTo q s).length⟩), (12, ⟨true, .v (vInt s)⟩)]) (fun s => [([32, 0], .arr 1 ((lksTo q s).map vInt))]) (fun s => 1 ≤ s ∧ s ≤ 4) (fun s => 4 - s) 1 ?_ ?_ ?_ ?_
  · exact ⟨Nat.le_refl _, by decide⟩
  · rfl
  · rfl
  rintro i ⟨hi1, hi⟩
  have hwl := lksTo_len q i
  simp only [go_sem]
  repeat refine cl_seq ?_
  repeat refine cl_seq ?_
  refine cl_rs hΓ [0,1,2,3,4,11,12,14] [[32, 0]] fun K' hK => ?_
  simp only [go_sem]
  repeat (refine ⟨ob, ?_⟩)
  refine hK _ ?_ ?_ <;> clear K' hK <;> simp only [go_sem]
  repeat refine cl_seq ?_
  refine cl_cond rfl rfl (fun hb => ?_) (fun hb => ?_)
  · have hle : i ≤ 3 := by
      have : (i : Int) ≤ 3 := by simpa using hb
      omega
    have hws : IntKind.i64.wrap ((i : Int) + 1) = ((i + 1 : Nat) : Int) := wrap_succ (n := 4) (by omega) (by unfold maxLen; omega)
    clear hb
    repeat refine cl_seq ?_
    refine cl_skip ?_
    repeat refine cl_seq ?_
    refine cl_block ?_
    repeat refine cl_seq ?_
    repeat refine cl_seq ?_
    refine cl_rs hΓ [0,1,2,3,4,11,12,28] [[32, 0]] fun K' hK => ?_
    simp only [go_sem, sLI3_app, seeV, sLook_app, hq, Bool.not_not]
    repeat (refine ⟨ob, ?_⟩)
    refine hK _ ?_ ?_ <;> clear K' hK <;> simp only [go_sem, sLI3_app, seeV, sLook_app, hq, Bool.not_not]
    repeat refine cl_seq ?_
    refine cl_cond rfl rfl (fun hb => ?_) (fun hb => ?_)
    · repeat refine cl_seq ?_
      refine cl_r hΓ fun K' hK => ?_
      simp only [go_sem, te39, tz3]
      repeat' apply And.intro
      all_goals first | rfl | omega | exact Int.le_refl _ | exact Bool.or_not_self _ | exact Bool.not_or_self _ | exact enc_okI _ | exact enc_ok _ | exact fun x hx => (enc_okI _ x hx).1 | exact fun x hx => (enc_ok _ x hx).1 | (simp only [List.length_take, List.length_append, List.length_map, List.length_drop, List.length_cons, List.length_nil]; done) | (simp only [List.length_take, List.length_append, List.length_map, List.length_drop, List.length_cons, List.length_nil]; omega) | (simp only [List.length_take, List.length_append, List.length_map, List.length_drop, List.length_cons, List.length_nil, maxLen]; omega) | (exact fun _ => by decide) | (exact fun h => ⟨h, by decide⟩) | (simp only [decide_eq_true_eq]; omega) | skip
      refine hK _ ?_
      clear K' hK
      simp only [go_sem]
      refine cl_keep [0,1,2,3,4,11,12] [[32, 0]] ?_ ?_
      · simp only [go_sem]
      simp only [go_sem]
      repeat refine cl_seq ?_
      refine cl_r hΓ fun K' hK => ?_
      simp only [go_sem]
      repeat (refine ⟨ob, ?_⟩)
      refine hK _ ?_
      clear K' hK
      simp only [go_sem]
      refine ⟨i + 1, by omega, by omega, ?_⟩
      rw [lksTo_next _ hi1, if_pos hb]
      refine weak_eq [0,1,2,3,4,11,12] [[32, 0]] ?_ ?_
      · simp only [go_sem]
      · simp only [go_sem, hws, Int.natCast_add, Int.natCast_one]
        all_goals simp
    · repeat refine cl_seq ?_
      refine cl_skip ?_
      refine cl_nil ?_
      simp only [go_sem]
      refine cl_keep [0,1,2,3,4,11,12] [[32, 0]] ?_ ?_
      · simp only [go_sem]
      simp only [go_sem]
      repeat refine cl_seq ?_
      refine cl_r hΓ fun K' hK => ?_
      simp only [go_sem]
      repeat (refine ⟨ob, ?_⟩)
      refine hK _ ?_
      clear K' hK
      simp only [go_sem]
      refine ⟨i + 1, by omega, by omega, ?_⟩
      rw [lksTo_next _ hi1, if_neg (by simp [hb])]
      refine weak_eq [0,1,2,3,4,11,12] [[32, 0]] ?_ ?_
      · simp only [go_sem, hws, Int.natCast_add, Int.natCast_one]
      · simp only [go_sem, hws, Int.natCast_add, Int.natCast_one]
  · have hge : i = 4 := by
      have : ¬ (i : Int) ≤ 3 := by simpa using hb
      omega
    subst hge
    clear hb
    repeat refine cl_seq ?_
    refine cl_exit ?_
    simp only [go_sem]
    refine cl_keep [11] [[32, 0]] ?_ ?_
    · simp only [go_sem]
    simp only [go_sem]
    repeat refine cl_seq ?_
    refine cl_rs hΓ [10] [[32, 0]] fun K' hK => ?_
    simp only [go_sem]
    repeat (refine ⟨ob, ?_⟩)
    refine hK _ ?_ ?_ <;> clear K' hK <;> simp only [go_sem]
    refine cl_ret ?_
    simp only [go_sem]
set_option maxHeartbeats 8000000 in
theorem s73 : PSound Tryz.prog 73 (pDif fun l m day k j => .sl ((movR l m day k j).map vInt)) := by
  refine psoundB (rs := [.tmp 6]) Tryz.func73 Tryz.ntmps73 (by rfl) (by kernel_rfl) (by decide) (fun h => by cases h) ⟨_, rfl, ?_⟩
  rintro xs ⟨l, m, day, k, j, rfl⟩ hw
  refine ⟨Nat.le_of_ble_eq_true rfl, ?_⟩
  rw [pDif_fn]
  unfold movR
  have hΓ := K71_sound
  have hq : ∀ n : Nat, difB l m day k j n = !(lockE l n day k [] == lockE m n day j [] && decide (whoR (·.h) l n day k = whoR (·.h) m n day j) && decide (whoR (·.n) l n day k = whoR (·.n) m n day j)) := fun n => rfl
  generalize difB l m day k j = q at hq ⊢
  repeat refine cl_seq ?_
  refine cl_rs hΓ [1,3,5] [[3, 0],[5, 0]] fun K' hK => ?_
  simp only [go_sem, tz99, tz23]
  repeat (refine ⟨ob, ?_⟩)
  refine hK _ ?_ ?_ <;> clear K' hK <;> simp only [go_sem, tz99, tz23]
  repeat refine cl_seq ?_
  refine cl_rs hΓ [1,3,5,7] [[3, 0],[5, 0]] fun K' hK => ?_
  simp only [go_sem]
  repeat (refine ⟨ob, ?_⟩)
  refine hK _ ?_ ?_ <;> clear K' hK <;> simp only [go_sem]
  refine cl_weakM (σ' := mkS 63 [0] (fun _ => none) [(1, ⟨true, .v (vInt day)⟩), (3, ⟨true, .ref [3, 0] 0⟩), (5, ⟨true, .ref [5, 0] 0⟩), (7, ⟨true, .msl [61, 0] 0⟩)] [([3, 0], .box [.v (.sl (l.map encD)), .v (.sl (m.map encD))]), ([5, 0], .box [.v (vInt k), .v (vInt j)]), ([61, 0], .arr 1 [])]) (weakM_ghostk 7 [61, 0] 1 (by simp only [go_sem]) (by simp only [go_sem]) [1, 3, 5, 7] [[3, 0],[5, 0],[61, 0]] ?_ ?_) ?_
  · simp only [go_sem]
  · simp only [go_sem]
  repeat refine cl_seq ?_
  refine cl_rs hΓ [1,3,5,7,8] [[3, 0],[5, 0],[61, 0]] fun K' hK => ?_
  simp only [go_sem]
  repeat (refine ⟨ob, ?_⟩)
  refine hK _ ?_ ?_ <;> clear K' hK <;> simp only [go_sem]
  repeat refine cl_seq ?_
  refine cl_block ?_
  repeat refine cl_seq ?_
  refine cl_loop' (fun s : Nat => [(7, ⟨true, .msl [61, 0] (lksTo q s).length⟩), (8, ⟨true, .v (vInt s)⟩)]) (fun s => [([61, 0], .arr 1 ((lksTo q s).map vInt))]) (fun s => 1 ≤ s ∧ s ≤ 4) (fun s => 4 - s) 1 ?_ ?_ ?_ ?_
  · exact ⟨Nat.le_refl _, by decide⟩
  · rfl
  · rfl
  rintro i ⟨hi1, hi⟩
  have hwl := lksTo_len q i
  simp only [go_sem]
  repeat refine cl_seq ?_
  repeat refine cl_seq ?_
  refine cl_rs hΓ [1,3,5,7,8,16] [[3, 0],[5, 0],[61, 0]] fun K' hK => ?_
  simp only [go_sem]
  repeat (refine ⟨ob, ?_⟩)
  refine hK _ ?_ ?_ <;> clear K' hK <;> simp only [go_sem]
  repeat refine cl_seq ?_
  refine cl_cond rfl rfl (fun hb => ?_) (fun hb => ?_)
  · have hle : i ≤ 3 := by
      have : (i : Int) ≤ 3 := by simpa using hb
      omega
    have hws : IntKind.i64.wrap ((i : Int) + 1) = ((i + 1 : Nat) : Int) := wrap_succ (n := 4) (by omega) (by unfold maxLen; omega)
    clear hb
    repeat refine cl_seq ?_
    refine cl_skip ?_
    repeat refine cl_seq ?_
    refine cl_block ?_
    repeat refine cl_seq ?_
    repeat refine cl_seq ?_
    refine cl_rs hΓ [1,3,5,7,8,9,10,11] [[3, 0],[5, 0],[61, 0]] fun K' hK => ?_
    simp only [go_sem, sLA_app, tz48, tp48, Nat.reduceLeDiff, Nat.le_refl, Int.reduceToNat, List.getD_cons_succ, List.getD_cons_zero]
    repeat (refine ⟨ob, ?_⟩)
    refine hK _ ?_ ?_ <;> clear K' hK <;> simp only [go_sem, sLA_app, tz48, tp48, Nat.reduceLeDiff, Nat.le_refl, Int.reduceToNat, List.getD_cons_succ, List.getD_cons_zero]
    repeat refine cl_seq ?_
    refine cl_rs hΓ [1,3,5,7,8,9,10,11,12,13,14] [[3, 0],[5, 0],[61, 0]] fun K' hK => ?_
    simp only [go_sem, sLA_app, tz48, tp48, Nat.reduceLeDiff, Nat.le_refl, Int.reduceToNat, List.getD_cons_succ, List.getD_cons_zero]
    repeat (refine ⟨ob, ?_⟩)
    refine hK _ ?_ ?_ <;> clear K' hK <;> simp only [go_sem, sLA_app, tz48, tp48, Nat.reduceLeDiff, Nat.le_refl, Int.reduceToNat, List.getD_cons_succ, List.getD_cons_zero]
    have hqi := hq i
    repeat refine cl_seq ?_
    refine cl_rw hΓ (mkS 63 [0] (fun _ => none) [(1, ⟨true, .v (vInt day)⟩), (3, ⟨true, .ref [3, 0] 0⟩), (5, ⟨true, .ref [5, 0] 0⟩), (7, ⟨true, .msl [61, 0] (lksTo q i).length⟩), (8, ⟨true, .v (vInt i)⟩), (57, ⟨true, .v (.bool (q i))⟩)] [([3, 0], .box [.v (.sl (l.map encD)), .v (.sl (m.map encD))]), ([5, 0], .box [.v (vInt k), .v (vInt j)]), ([61, 0], .arr 1 ((lksTo q i).map vInt))]) ?_ fun K' hK => ?_
    rotate_left
    · generalize lockE l i day k [] = e1 at hqi ⊢
      generalize lockE m i day j [] = e2 at hqi ⊢
      generalize whoR (·.h) l i day k = a1 at hqi ⊢
      generalize whoR (·.h) m i day j = a2 at hqi ⊢
      generalize whoR (·.n) l i day k = b1 at hqi ⊢
      generalize whoR (·.n) m i day j = b2 at hqi ⊢
      cases h1 : (e1 == e2) <;> cases h2 : decide (a1 = a2) <;> cases h3 : decide (b1 = b2)
      all_goals
        simp only [h1, h2, h3, Bool.and_self, Bool.and_false, Bool.and_true, Bool.false_and, Bool.not_true, Bool.not_false] at hqi
        simp only [go_sem, sSameI_app, bne, h1, h2, h3, hqi]
        repeat (refine ⟨ob, ?_⟩)
        refine hK _ (weakM_keep [1, 3, 5, 7, 8, 57] [[3, 0],[5, 0],[61, 0]] ?_ ?_)
        · simp only [go_sem]
        · simp only [go_sem, hqi]
    repeat refine cl_seq ?_
    refine cl_cond rfl rfl (fun hb => ?_) (fun hb => ?_)
    · repeat refine cl_seq ?_
      refine cl_r hΓ fun K' hK => ?_
      simp only [go_sem, te39, tz3]
      repeat' apply And.intro
      all_goals first | rfl | omega | exact Int.le_refl _ | exact Bool.or_not_self _ | exact Bool.not_or_self _ | exact enc_okI _ | exact enc_ok _ | exact fun x hx => (enc_okI _ x hx).1 | exact fun x hx => (enc_ok _ x hx).1 | (simp only [List.length_take, List.length_append, List.length_map, List.length_drop, List.length_cons, List.length_nil]; done) | (simp only [List.length_take, List.length_append, List.length_map, List.length_drop, List.length_cons, List.length_nil]; omega) | (simp only [List.length_take, List.length_append, List.length_map, List.length_drop, List.length_cons, List.length_nil, maxLen]; omega) | (exact fun _ => by decide) | (exact fun h => ⟨h, by decide⟩) | (simp only [decide_eq_true_eq]; omega) | skip
      refine hK _ ?_
      clear K' hK
      simp only [go_sem]
      refine cl_keep [1,3,5,7,8] [[3, 0],[5, 0],[61, 0]] ?_ ?_
      · simp only [go_sem]
      simp only [go_sem]
      repeat refine cl_seq ?_
      refine cl_r hΓ fun K' hK => ?_
      simp only [go_sem]
      repeat (refine ⟨ob, ?_⟩)
      refine hK _ ?_
      clear K' hK
      simp only [go_sem]
      refine ⟨i + 1, by omega, by omega, ?_⟩
      rw [lksTo_next _ hi1, if_pos hb]
      refine weak_eq [1,3,5,7,8] [[3, 0],[5, 0],[61, 0]] ?_ ?_
      · simp only [go_sem]
      · simp only [go_sem, hws, Int.natCast_add, Int.natCast_one]
        all_goals simp
    · repeat refine cl_seq ?_
      refine cl_skip ?_
      refine cl_nil ?_
      simp only [go_sem]
      refine cl_keep [1,3,5,7,8] [[3, 0],[5, 0],[61, 0]] ?_ ?_
      · simp only [go_sem]
      simp only [go_sem]
      repeat refine cl_seq ?_
      refine cl_r hΓ fun K' hK => ?_
      simp only [go_sem]
      repeat (refine ⟨ob, ?_⟩)
      refine hK _ ?_
      clear K' hK
      simp only [go_sem]
      refine ⟨i + 1, by omega, by omega, ?_⟩
      rw [lksTo_next _ hi1, if_neg (by simp [hb])]
      refine weak_eq [1,3,5,7,8] [[3, 0],[5, 0],[61, 0]] ?_ ?_
      · simp only [go_sem, hws, Int.natCast_add, Int.natCast_one]
      · simp only [go_sem, hws, Int.natCast_add, Int.natCast_one]
  · have hge : i = 4 := by
      have : ¬ (i : Int) ≤ 3 := by simpa using hb
      omega
    subst hge
    clear hb
    repeat refine cl_seq ?_
    refine cl_exit ?_
    simp only [go_sem]
    refine cl_keep [7] [[61, 0]] ?_ ?_
    · simp only [go_sem]
    simp only [go_sem]
    repeat refine cl_seq ?_
    refine cl_rs hΓ [6] [[61, 0]] fun K' hK => ?_
    simp only [go_sem]
    repeat (refine ⟨ob, ?_⟩)
    refine hK _ ?_ ?_ <;> clear K' hK <;> simp only [go_sem]
    refine cl_ret ?_
    simp only [go_sem]
end Go.Eng
namespace Go.Eng
open Go Go.Proofs
set_option maxRecDepth 10000
/-! deeds without one -/
def isAtB (a b : Int) (d : Deed) : Bool := d.pa == a && d.no == b
def lessL (l : List Deed) (a b : Int) : List Deed := l.filter fun d => !isAtB a b d
theorem lessL_next {l : List Deed} {a b : Int} {i : Nat} (h : i < l.length) : lessL (l.take (i + 1)) a b = if (!isAtB a b l[i]) = true then lessL (l.take i) a b ++ [l[i]] else lessL (l.take i) a b := by
  unfold lessL
  rw [List.take_add_one, List.getElem?_eq_getElem h, List.filter_append]
  simp only [Option.toList_some, List.filter_cons, List.filter_nil]
  split <;> simp
theorem lessL_len (l : List Deed) (a b : Int) : (lessL l a b).length ≤ l.length := List.length_filter_le _ _
theorem lessL_lt {l : List Deed} {a b : Int} : decide ((lessL l a b).length < l.length) = l.any (isAtB a b) := by
  unfold lessL
  cases h : l.any (isAtB a b) with
  | true =>
    obtain ⟨d, hd, hp⟩ := List.any_eq_true.1 h
    simp only [decide_eq_true_eq]
    refine List.length_filter_lt_length_iff_exists.2 ⟨d, hd, ?_⟩
    simp [hp]
  | false =>
    simp only [decide_eq_false_iff_not, Nat.not_lt]
    have : l.filter (fun d => !isAtB a b d) = l := by
      rw [List.filter_eq_self]
      intro d hd
      have := List.any_eq_false.1 h d hd
      simpa using this
    rw [this]
    exact Nat.le_refl _
def pWithout : PSpec := ⟨fun xs => ∃ (l : List Deed) (a b : Int), xs = [.sl (l.map encD), .agg [vInt a, vInt b]] ∧ l.length ≤ 60, fun xs => match xs with | [.sl l, .agg [.int _ a, .int _ b]] => .tup [.sl ((lessL (l.map decD) a b).map encD), .bool ((l.map decD).any (isAtB a b))] | _ => .bool false, false⟩
theorem pWithout_fn (l : List Deed) (a b : Int) : pWithout.fn [.sl (l.map encD), .agg [vInt a, vInt b]] = .tup [.sl ((lessL l a b).map encD), .bool (l.any (isAtB a b))] := by
  simp only [pWithout, decD_map]
set_option maxHeartbeats 4000000 in
theorem s78 : PSound Tryz.prog 78 pWithout := by
  refine psoundB (rs := [.tmp 4, .tmp 5]) Tryz.func78 Tryz.ntmps78 (by rfl) (by kernel_rfl) (by decide) (fun h => by cases h) ⟨_, rfl, ?_⟩
  rintro xs ⟨l, a, b, rfl, hl60⟩ hw
  have hl : l.length ≤ maxLen := by unfold maxLen; omega
  refine ⟨Nat.le_of_ble_eq_true rfl, ?_⟩
  rw [pWithout_fn]
  have hΓ := K0n_sound
  repeat refine cl_seq ?_
  refine cl_rs hΓ [0,3] [[3, 0]] fun K' hK => ?_
  simp only [go_sem]
  repeat (refine ⟨ob, ?_⟩)
  refine hK _ ?_ ?_ <;> clear K' hK <;> simp only [go_sem]
  repeat refine cl_seq ?_
  refine cl_rs hΓ [0,3,6] [[3, 0]] fun K' hK => ?_
  simp only [go_sem]
  repeat (refine ⟨ob, ?_⟩)
  refine hK _ ?_ ?_ <;> clear K' hK <;> simp only [go_sem]
  refine cl_weakM (σ' := mkS 30 [0] (fun _ => none) [(0, ⟨true, .v (.sl (l.map encD))⟩), (3, ⟨true, .ref [3, 0] 0⟩), (6, ⟨true, .msl [22, 0] 0⟩)] [([3, 0], .box [.v (vInt a), .v (vInt b)]), ([22, 0], .arr 9 [])]) (weakM_ghostk 6 [22, 0] 9 (by simp only [go_sem]) (by simp only [go_sem]) [0, 3, 6] [[3, 0],[22, 0]] ?_ ?_) ?_
  · simp only [go_sem]
  · simp only [go_sem]
  repeat refine cl_seq ?_
  refine cl_rs hΓ [0,3,6,9,10,11] [[3, 0],[22, 0]] fun K' hK => ?_
  simp only [go_sem]
  repeat (refine ⟨ob, ?_⟩)
  refine hK _ ?_ ?_ <;> clear K' hK <;> simp only [go_sem]
  repeat refine cl_seq ?_
  refine cl_block ?_
  repeat refine cl_seq ?_
  refine cl_loop' (fun s : Nat => [(6, ⟨true, .msl [22, 0] (lessL (l.take s) a b).length⟩), (11, ⟨true, .v (vInt s)⟩)]) (fun s => [([22, 0], .arr 9 ((lessL (l.take s) a b).map encD))]) (fun s => s ≤ l.length) (fun s => l.length - s) 0 ?_ ?_ ?_ ?_
  · exact Nat.zero_le _
  · rfl
  · rfl
  rintro i hi
  simp only [go_sem]
  repeat refine cl_seq ?_
  repeat refine cl_seq ?_
  refine cl_rs hΓ [0,3,6,9,10,11,12] [[3, 0],[22, 0]] fun K' hK => ?_
  simp only [go_sem]
  repeat (refine ⟨ob, ?_⟩)
  refine hK _ ?_ ?_ <;> clear K' hK <;> simp only [go_sem]
  repeat refine cl_seq ?_
  refine cl_cond rfl rfl (fun hb => ?_) (fun hb => ?_)
  · have hlt : i < l.length := by simpa using hb
    have hlt' : (i : Int) < l.length := by omega
    clear hb
    repeat refine cl_seq ?_
    refine cl_skip ?_
    repeat refine cl_seq ?_
    refine cl_block ?_
    repeat refine cl_seq ?_
    have hcl : (lessL (l.take i) a b).length ≤ 60 := by
      have := lessL_len (l.take i) a b
      simp at this
      omega
    have hn := lessL_next (a := a) (b := b) hlt
    repeat refine cl_seq ?_
    refine cl_rs hΓ [0,3,6,8,9,10,11] [[3, 0],[8, 0],[22, 0]] fun K' hK => ?_
    simp only [go_sem, map_getD hlt, Int.toNat_natCast, Int.natCast_nonneg, hlt']
    repeat (refine ⟨ob, ?_⟩)
    refine hK _ ?_ ?_ <;> clear K' hK <;> simp only [go_sem, map_getD hlt, Int.toNat_natCast, Int.natCast_nonneg, hlt']
    have hq : (!(l[i].pa == a && l[i].no == b)) = !isAtB a b l[i] := rfl
    repeat refine cl_seq ?_
    refine cl_rs hΓ [0,3,6,8,9,10,11,18] [[3, 0],[8, 0],[22, 0]] fun K' hK => ?_
    simp only [go_sem, hq]
    repeat (refine ⟨ob, ?_⟩)
    refine hK _ ?_ ?_ <;> clear K' hK <;> simp only [go_sem, hq]
    repeat refine cl_seq ?_
    refine cl_cond rfl rfl (fun hb => ?_) (fun hb => ?_)
    · repeat refine cl_seq ?_
      refine cl_r hΓ fun K' hK => ?_
      simp only [go_sem, te22, tz35]
      repeat' apply And.intro
      all_goals first | rfl | omega | exact Int.le_refl _ | exact Bool.or_not_self _ | exact Bool.not_or_self _ | exact enc_okI _ | exact enc_ok _ | exact fun x hx => (enc_okI _ x hx).1 | exact fun x hx => (enc_ok _ x hx).1 | (simp only [List.length_take, List.length_append, List.length_map, List.length_drop, List.length_cons, List.length_nil]; done) | (simp only [List.length_take, List.length_append, List.length_map, List.length_drop, List.length_cons, List.length_nil]; omega) | (simp only [List.length_take, List.length_append, List.length_map, List.length_drop, List.length_cons, List.length_nil, maxLen]; omega) | (exact fun _ => by decide) | (exact fun h => ⟨h, by decide⟩) | (simp only [decide_eq_true_eq]; omega) | skip
      refine hK _ ?_
      clear K' hK
      simp only [go_sem]
      refine cl_keep [0,3,6,9,10,11] [[3, 0],[22, 0]] ?_ ?_
      · simp only [go_sem]
      simp only [go_sem]
      repeat refine cl_seq ?_
      refine cl_r hΓ fun K' hK => ?_
      simp only [go_sem]
      repeat (refine ⟨ob, ?_⟩)
      refine hK _ ?_
      clear K' hK
      simp only [go_sem]
      refine ⟨i + 1, hlt, (show l.length - (i + 1) < l.length - i by omega), ?_⟩
      rw [hn, if_pos hb]
      refine weak_eq [0,3,6,9,10,11] [[3, 0],[22, 0]] ?_ ?_
      · simp only [go_sem]
      · simp only [go_sem, wrap_succ hlt hl, Int.natCast_add, Int.natCast_one]
        all_goals simp [encD]
    · repeat refine cl_seq ?_
      refine cl_skip ?_
      refine cl_nil ?_
      simp only [go_sem]
      refine cl_keep [0,3,6,9,10,11] [[3, 0],[22, 0]] ?_ ?_
      · simp only [go_sem]
      simp only [go_sem]
      repeat refine cl_seq ?_
      refine cl_r hΓ fun K' hK => ?_
      simp only [go_sem]
      repeat (refine ⟨ob, ?_⟩)
      refine hK _ ?_
      clear K' hK
      simp only [go_sem]
      refine ⟨i + 1, hlt, (show l.length - (i + 1) < l.length - i by omega), ?_⟩
      rw [hn, if_neg (by simp [hb])]
      refine weak_eq [0,3,6,9,10,11] [[3, 0],[22, 0]] ?_ ?_
      · simp only [go_sem, wrap_succ hlt hl, Int.natCast_add, Int.natCast_one]
      · simp only [go_sem, wrap_succ hlt hl, Int.natCast_add, Int.natCast_one]
  · have hge : i = l.length := by
      have : ¬ (i : Int) < l.length := by simpa using hb
      omega
    subst hge
    clear hb
    repeat refine cl_seq ?_
    refine cl_exit ?_
    simp only [go_sem]
    refine cl_keep [0,6] [[22, 0]] ?_ ?_
    · simp only [go_sem]
    simp only [go_sem]
    rw [List.take_length]
    have hq : decide (((lessL l a b).length : Int) < (l.length : Int)) = l.any (isAtB a b) := by rw [← lessL_lt]; simp
    repeat refine cl_seq ?_
    refine cl_rs hΓ [4,5] [[22, 0]] fun K' hK => ?_
    simp only [go_sem, hq]
    repeat (refine ⟨ob, ?_⟩)
    refine hK _ ?_ ?_ <;> clear K' hK <;> simp only [go_sem, hq]
    refine cl_ret ?_
    simp only [go_sem]
/-! Changed -/
theorem sDaysI_three {obj : Name → Option O} {t : Name} {l : List Deed} {a b c : Int} : sDaysI.app obj t [.v (.sl (l.map encD)), .v (.sl [vInt a, vInt b, vInt c])] = ⟨True, .v (vInt (daysI l [a, b, c])), obj⟩ := sDaysI_app (ds := [a, b, c])
noncomputable def sMov (f : List Deed → List Deed → Int → Int → Int → V) : Spec := (pMov f).toSpec
theorem sMov_app {f : List Deed → List Deed → Int → Int → Int → V} {obj : Name → Option O} {t : Name} {l m : List Deed} {a b c : Int} : (sMov f).app obj t [.v (.sl (l.map encD)), .v (.sl (m.map encD)), .v (vInt a), .v (vInt b), .v (vInt c)] = ⟨True, .v (f l m a b c), obj⟩ := by
  simp only [sMov, PSpec.toSpec, frzL, frz, pMov_fn, ite_self]
  congr 1
  simp only [eq_iff_iff, iff_true]
  exact ⟨⟨trivial, trivial, trivial, trivial, trivial, trivial⟩, l, m, a, b, c, rfl⟩
noncomputable def sDif (f : List Deed → List Deed → Int → Int → Int → V) : Spec := (pDif f).toSpec
theorem sDif_app {f : List Deed → List Deed → Int → Int → Int → V} {obj : Name → Option O} {t : Name} {l m : List Deed} {a b c : Int} : (sDif f).app obj t [.agg [.v (.sl (l.map encD)), .v (.sl (m.map encD))], .v (vInt a), .agg [.v (vInt b), .v (vInt c)]] = ⟨True, .v (f l m a b c), obj⟩ := by
  have e : frzL (frz 6) obj [.agg [.v (.sl (l.map encD)), .v (.sl (m.map encD))], .v (vInt a), .agg [.v (vInt b), .v (vInt c)]] = ⟨True, [.agg [.sl (l.map encD), .sl (m.map encD)], vInt a, .agg [vInt b, vInt c]], obj⟩ := by
    simp [frzL, frz, D.one, V.one]
  simp only [sDif, PSpec.toSpec, e, pDif_fn, ite_self]
  congr 1
  simp only [eq_iff_iff, iff_true]
  exact ⟨trivial, l, m, a, b, c, rfl⟩
noncomputable def K72 : FuncId → Option Spec := fun f => match f with
  | 70 => some sDaysI
  | 72 => some sDaysI
  | 71 => some (sMov fun l m day k j => .sl ((movR l m day k j).map vInt))
  | 73 => some (sDif fun l m day k j => .sl ((movR l m day k j).map vInt))
  | _ => none
theorem K72_sound : ∀ f s, K72 f = some s → SSound Tryz.prog f s := by
  intro f s h
  unfold K72 at h
  split at h
  · cases h; exact s70.sound
  · cases h; exact s72.sound
  · cases h; exact s71.sound
  · cases h; exact s73.sound
  · cases h
@[go_sem] theorem K72_70 : K72 70 = some sDaysI := rfl
@[go_sem] theorem K72_72 : K72 72 = some sDaysI := rfl
@[go_sem] theorem K72_71 : K72 71 = some (sMov fun l m day k j => .sl ((movR l m day k j).map vInt)) := rfl
@[go_sem] theorem K72_73 : K72 73 = some (sDif fun l m day k j => .sl ((movR l m day k j).map vInt)) := rfl
noncomputable def chgV (l : List Deed) (day k j : Int) : V := .tup [.sl ((if daysI l [day, k, j] = 0 then movR l l day k j else []).map vInt), vInt (daysI l [day, k, j])]
set_option maxHeartbeats 4000000 in
theorem s20 : PSound Tryz.prog 20 (pLI3 chgV false) := by
  refine psoundB (rs := [.tmp 8, .tmp 9]) Tryz.func20 Tryz.ntmps20 (by rfl) (by kernel_rfl) (by decide) (fun h => by cases h) ⟨_, rfl, ?_⟩
  rintro xs ⟨l, day, k, j, rfl⟩ hw
  refine ⟨Nat.le_of_ble_eq_true rfl, ?_⟩
  rw [pLI3_fn]
  unfold chgV
  have hΓ := K72_sound
  repeat refine cl_seq ?_
  refine cl_rs hΓ [0,1,2,3] [] fun K' hK => ?_
  simp only [go_sem]
  repeat (refine ⟨ob, ?_⟩)
  refine hK _ ?_ ?_ <;> clear K' hK <;> simp only [go_sem]
  repeat refine cl_seq ?_
  refine cl_rs hΓ [0,1,2,3,10] [] fun K' hK => ?_
  simp only [go_sem, sDaysI_three]
  repeat (refine ⟨ob, ?_⟩)
  refine hK _ ?_ ?_ <;> clear K' hK <;> simp only [go_sem, sDaysI_three]
  repeat refine cl_seq ?_
  refine cl_rs hΓ [0,1,2,3,10,18] [] fun K' hK => ?_
  simp only [go_sem]
  repeat (refine ⟨ob, ?_⟩)
  refine hK _ ?_ ?_ <;> clear K' hK <;> simp only [go_sem]
  repeat refine cl_seq ?_
  refine cl_cond rfl rfl (fun hb => ?_) (fun hb => ?_)
  · repeat refine cl_seq ?_
    have hn : ¬ daysI l [day, k, j] = 0 := by simpa using hb
    simp only [if_neg hn]
    repeat refine cl_seq ?_
    refine cl_rs hΓ [8,9] [] fun K' hK => ?_
    simp only [go_sem]
    repeat (refine ⟨ob, ?_⟩)
    refine hK _ ?_ ?_ <;> clear K' hK <;> simp only [go_sem]
    refine cl_ret ?_
    simp only [go_sem]
  have hq : daysI l [day, k, j] = 0 := by simpa using hb
  simp only [hq, if_true]
  repeat refine cl_seq ?_
  refine cl_skip ?_
  repeat refine cl_seq ?_
  refine cl_rs hΓ [8,9] [] fun K' hK => ?_
  simp only [go_sem, sMov_app]
  repeat (refine ⟨ob, ?_⟩)
  refine hK _ ?_ ?_ <;> clear K' hK <;> simp only [go_sem, sMov_app]
  refine cl_ret ?_
  simp only [go_sem]
def pLIK (f : List Deed → Int → Int → Int → V) : PSpec := ⟨fun xs => ∃ (l : List Deed) (a b c : Int), xs = [.sl (l.map encD), vInt a, .agg [vInt b, vInt c]], fun xs => match xs with | [.sl l, .int _ a, .agg [.int _ b, .int _ c]] => f (l.map decD) a b c | _ => .bool false, false⟩
theorem pLIK_fn (f : List Deed → Int → Int → Int → V) (l : List Deed) (a b c : Int) : (pLIK f).fn [.sl (l.map encD), vInt a, .agg [vInt b, vInt c]] = f l a b c := by
  simp only [pLIK, decD_map]
set_option maxHeartbeats 4000000 in
theorem s21 : PSound Tryz.prog 21 (pLIK chgV) := by
  refine psoundB (rs := [.tmp 6, .tmp 7]) Tryz.func21 Tryz.ntmps21 (by rfl) (by kernel_rfl) (by decide) (fun h => by cases h) ⟨_, rfl, ?_⟩
  rintro xs ⟨l, day, k, j, rfl⟩ hw
  refine ⟨Nat.le_of_ble_eq_true rfl, ?_⟩
  rw [pLIK_fn]
  unfold chgV
  have hΓ := K72_sound
  repeat refine cl_seq ?_
  refine cl_rs hΓ [0,1,5] [[5, 0]] fun K' hK => ?_
  simp only [go_sem, tz23]
  repeat (refine ⟨ob, ?_⟩)
  refine hK _ ?_ ?_ <;> clear K' hK <;> simp only [go_sem, tz23]
  repeat refine cl_seq ?_
  refine cl_rs hΓ [0,1,5,8] [[5, 0]] fun K' hK => ?_
  simp only [go_sem, sDaysI_three, Int.reduceToNat, List.getD_cons_succ, List.getD_cons_zero]
  repeat (refine ⟨ob, ?_⟩)
  refine hK _ ?_ ?_ <;> clear K' hK <;> simp only [go_sem, sDaysI_three, Int.reduceToNat, List.getD_cons_succ, List.getD_cons_zero]
  repeat refine cl_seq ?_
  refine cl_rs hΓ [0,1,5,8,18] [[5, 0]] fun K' hK => ?_
  simp only [go_sem]
  repeat (refine ⟨ob, ?_⟩)
  refine hK _ ?_ ?_ <;> clear K' hK <;> simp only [go_sem]
  repeat refine cl_seq ?_
  refine cl_cond rfl rfl (fun hb => ?_) (fun hb => ?_)
  · repeat refine cl_seq ?_
    have hn : ¬ daysI l [day, k, j] = 0 := by simpa using hb
    simp only [if_neg hn]
    repeat refine cl_seq ?_
    refine cl_rs hΓ [6,7] [] fun K' hK => ?_
    simp only [go_sem]
    repeat (refine ⟨ob, ?_⟩)
    refine hK _ ?_ ?_ <;> clear K' hK <;> simp only [go_sem]
    refine cl_ret ?_
    simp only [go_sem]
  have hq : daysI l [day, k, j] = 0 := by simpa using hb
  simp only [hq, if_true]
  repeat refine cl_seq ?_
  refine cl_skip ?_
  repeat refine cl_seq ?_
  refine cl_rs hΓ [6,7] [] fun K' hK => ?_
  simp only [go_sem, sDif_app, tz99, tp99, Nat.reduceLeDiff, Nat.le_refl]
  repeat (refine ⟨ob, ?_⟩)
  refine hK _ ?_ ?_ <;> clear K' hK <;> simp only [go_sem, sDif_app, tz99, tp99, Nat.reduceLeDiff, Nat.le_refl]
  refine cl_ret ?_
  simp only [go_sem]
end Go.Eng
namespace Go.Eng
open Go Go.Proofs
set_option maxRecDepth 10000
/-! Moved -/
theorem atD_any : ∀ {l : List Deed} {a b : Int}, l.Pairwise ltD → ((atD l (itD a b)).isSome = true ↔ l.any (isAtB a b) = true)
  | l, a, b, hs => by
    rw [show isAtB a b = isItB a b from rfl, atD_find hs]
    rw [List.find?_isSome, List.any_eq_true]
noncomputable def mvdE (l : List Deed) (a b day k : Int) : Int := if daysI l [day, k] = 0 then (if l.any (isAtB a b) = true then 0 else 3) else daysI l [day, k]
noncomputable def mvdV (l : List Deed) (a b day k : Int) : V := .tup [.sl ((if mvdE l a b day k = 0 then movR l (lessL l a b) day k k else []).map vInt), vInt (mvdE l a b day k)]
noncomputable def sWithout : Spec := pWithout.toSpec
theorem sWithout_app {obj : Name → Option O} {t : Name} {l : List Deed} {a b : Int} (h : l.length ≤ 60) : sWithout.app obj t [.v (.sl (l.map encD)), .agg [.v (vInt a), .v (vInt b)]] = ⟨True, .v (.tup [.sl ((lessL l a b).map encD), .bool (l.any (isAtB a b))]), obj⟩ := by
  have e : frzL (frz 6) obj [.v (.sl (l.map encD)), .agg [.v (vInt a), .v (vInt b)]] = ⟨True, [.sl (l.map encD), .agg [vInt a, vInt b]], obj⟩ := by
    simp [frzL, frz, D.one, V.one]
  simp only [sWithout, PSpec.toSpec, e, pWithout_fn, ite_self]
  congr 1
  simp only [eq_iff_iff, iff_true]
  exact ⟨trivial, l, a, b, rfl, h⟩
noncomputable def K73 : FuncId → Option Spec := fun f => match f with
  | 70 => some sDaysI
  | 72 => some sDaysI
  | 71 => some (sMov fun l m day k j => .sl ((movR l m day k j).map vInt))
  | 73 => some (sDif fun l m day k j => .sl ((movR l m day k j).map vInt))
  | 74 => some sFind
  | 75 => some sDel
  | 76 => some (cloneSpec Tryz.prog 22)
  | 78 => some sWithout
  | _ => none
theorem K73_sound : ∀ f s, K73 f = some s → SSound Tryz.prog f s := by
  intro f s h
  unfold K73 at h
  split at h
  · cases h; exact s70.sound
  · cases h; exact s72.sound
  · cases h; exact s71.sound
  · cases h; exact s73.sound
  · cases h; exact s74.sound
  · cases h; exact s75
  · cases h; exact K25_sound 76 _ rfl
  · cases h; exact s78.sound
  · cases h
@[go_sem] theorem K73_70 : K73 70 = some sDaysI := rfl
@[go_sem] theorem K73_72 : K73 72 = some sDaysI := rfl
@[go_sem] theorem K73_71 : K73 71 = some (sMov fun l m day k j => .sl ((movR l m day k j).map vInt)) := rfl
@[go_sem] theorem K73_73 : K73 73 = some (sDif fun l m day k j => .sl ((movR l m day k j).map vInt)) := rfl
@[go_sem] theorem K73_74 : K73 74 = some sFind := rfl
@[go_sem] theorem K73_75 : K73 75 = some sDel := rfl
@[go_sem] theorem K73_76 : K73 76 = some (cloneSpec Tryz.prog 22) := rfl
@[go_sem] theorem K73_78 : K73 78 = some sWithout := rfl
def pMvd (f : List Deed → Int → Int → Int → Int → V) : PSpec := ⟨fun xs => ∃ (l : List Deed) (a b c d : Int), xs = [.sl (l.map encD), .agg [vInt a, vInt b], vInt c, vInt d], fun xs => match xs with | [.sl l, .agg [.int _ a, .int _ b], .int _ c, .int _ d] => f (l.map decD) a b c d | _ => .bool false, false⟩
theorem pMvd_fn (f : List Deed → Int → Int → Int → Int → V) (l : List Deed) (a b c d : Int) : (pMvd f).fn [.sl (l.map encD), .agg [vInt a, vInt b], vInt c, vInt d] = f l a b c d := by
  simp only [pMvd, decD_map]
set_option maxHeartbeats 8000000 in
theorem s22 : PSound Tryz.prog 22 (pMvd mvdV) := by
  refine psoundB (rs := [.tmp 8, .tmp 9]) Tryz.func22 Tryz.ntmps22 (by rfl) (by kernel_rfl) (by decide) (fun h => by cases h) ⟨_, rfl, ?_⟩
  rintro xs ⟨l, a, b, day, k, rfl⟩ hw
  refine ⟨Nat.le_of_ble_eq_true rfl, ?_⟩
  rw [pMvd_fn]
  unfold mvdV
  have hΓ := K73_sound
  have hP := mixedK
  repeat refine cl_seq ?_
  refine cl_rs hΓ [0,2,3,5] [[5, 0]] fun K' hK => ?_
  simp only [go_sem]
  repeat (refine ⟨ob, ?_⟩)
  refine hK _ ?_ ?_ <;> clear K' hK <;> simp only [go_sem]
  repeat refine cl_seq ?_
  refine cl_rs hΓ [0,2,3,5,10] [[5, 0]] fun K' hK => ?_
  simp only [go_sem, sDaysI_two]
  repeat (refine ⟨ob, ?_⟩)
  refine hK _ ?_ ?_ <;> clear K' hK <;> simp only [go_sem, sDaysI_two]
  repeat refine cl_seq ?_
  refine cl_rs hΓ [0,2,3,5,10,20] [[5, 0]] fun K' hK => ?_
  simp only [go_sem]
  repeat (refine ⟨ob, ?_⟩)
  refine hK _ ?_ ?_ <;> clear K' hK <;> simp only [go_sem]
  repeat refine cl_seq ?_
  refine cl_cond rfl rfl (fun hb => ?_) (fun hb => ?_)
  · repeat refine cl_seq ?_
    have hn : ¬ daysI l [day, k] = 0 := by simpa using hb
    have he : mvdE l a b day k = daysI l [day, k] := by unfold mvdE; rw [if_neg hn]
    simp only [he, if_neg hn]
    repeat refine cl_seq ?_
    refine cl_rs hΓ [8,9] [] fun K' hK => ?_
    simp only [go_sem]
    repeat (refine ⟨ob, ?_⟩)
    refine hK _ ?_ ?_ <;> clear K' hK <;> simp only [go_sem]
    refine cl_ret ?_
    simp only [go_sem]
  have hq : daysI l [day, k] = 0 := by simpa using hb
  have hok := days_ok hq
  have hl := hok.2.2
  clear hb
  have he : mvdE l a b day k = if l.any (isAtB a b) = true then 0 else 3 := by unfold mvdE; rw [if_pos hq]
  rw [he]
  have hfd := fun (obj : Name → Option O) (t : Name) => sFind_app (obj := obj) (t := t) (a := a) (b := b) (.inr rfl) hok.1
  have hany := atD_any (a := a) (b := b) hok.1
  repeat refine cl_seq ?_
  refine cl_skip ?_
  cases hat : atD l (itD a b) with
  | none =>
    have hna : ¬ l.any (isAtB a b) = true := fun h => by rw [hat] at hany; have := hany.2 h; cases this
    have hfv : findV l a b = .tup [encD zeroD, .bool false] := by unfold findV; rw [hat]
    simp only [hna, if_false]
    repeat refine cl_seq ?_
    refine cl_rs hΓ [0,2,3,5,12] [[5, 0]] fun K' hK => ?_
    simp only [go_sem, hfd, hfv, tz35, encD]
    repeat (refine ⟨ob, ?_⟩)
    refine hK _ ?_ ?_ <;> clear K' hK <;> simp only [go_sem, hfd, hfv, tz35, encD]
    repeat refine cl_seq ?_
    refine cl_rs hΓ [0,2,3,5,29] [[5, 0]] fun K' hK => ?_
    simp only [go_sem]
    repeat (refine ⟨ob, ?_⟩)
    refine hK _ ?_ ?_ <;> clear K' hK <;> simp only [go_sem]
    repeat refine cl_seq ?_
    refine cl_cond rfl rfl (fun hb => ?_) (fun hb => ?_)
    · repeat refine cl_seq ?_
      repeat refine cl_seq ?_
      refine cl_rs hΓ [8,9] [] fun K' hK => ?_
      simp only [go_sem]
      repeat (refine ⟨ob, ?_⟩)
      refine hK _ ?_ ?_ <;> clear K' hK <;> simp only [go_sem]
      refine cl_ret ?_
      simp only [go_sem]
      all_goals rfl
    · cases hb
  | some d =>
    have hna : l.any (isAtB a b) = true := hany.1 (by rw [hat]; rfl)
    have hfv : findV l a b = .tup [encD d, .bool true] := by unfold findV; rw [hat]
    simp only [hna, if_true]
    repeat refine cl_seq ?_
    refine cl_rs hΓ [0,2,3,5,12] [[5, 0]] fun K' hK => ?_
    simp only [go_sem, hfd, hfv, tz35, encD]
    repeat (refine ⟨ob, ?_⟩)
    refine hK _ ?_ ?_ <;> clear K' hK <;> simp only [go_sem, hfd, hfv, tz35, encD]
    repeat refine cl_seq ?_
    refine cl_rs hΓ [0,2,3,5,29] [[5, 0]] fun K' hK => ?_
    simp only [go_sem]
    repeat (refine ⟨ob, ?_⟩)
    refine hK _ ?_ ?_ <;> clear K' hK <;> simp only [go_sem]
    repeat refine cl_seq ?_
    refine cl_cond rfl rfl (fun hb => ?_) (fun hb => ?_)
    · cases hb
    repeat refine cl_seq ?_
    refine cl_skip ?_
    have hkp : keepD (pO 77 [.box [.v (vInt a), .v (vInt b)]]) l = lessL l a b := rfl
    have hdd := fun (obj : Name → Option O) (t : Name) (ho : obj [31, 0] = _) (h : obj [5, 0] = _) => del_app1 (obj := obj) (t := t) (nm := [31, 0]) (b := [5, 0]) (n := l.length) (g := 77) (l := l) (cs := [vInt a, vInt b]) (bs := [.box [.v (vInt a), .v (vInt b)]]) rfl (.inr (.inr ⟨rfl, rfl, a, b, rfl⟩)) (by omega) (by decide) ho rfl h
    rw [hkp] at hdd
    simp only [List.map_cons, List.map_nil] at hdd
    have hall : ¬ ∀ d ∈ l, pO 77 [.box [.v (vInt a), .v (vInt b)]] d = false := fun h => by
      obtain ⟨x, hx, hp⟩ := List.any_eq_true.1 hna
      have := h x hx
      have h2 : isAtB a b x = false := this
      rw [hp] at h2; cases h2
    rcases l with _ | ⟨d0, l0⟩
    · cases hna
    have hd1 := fun (obj : Name → Option O) (t : Name) ho h => (hdd obj t ho h).2 hall
    simp only [List.length_cons] at hd1 hl
    simp only [List.map_cons, encD] at hd1
    clear hdd
    repeat refine cl_seq ?_
    refine cl_rs hΓ [0,2,3,13] [] fun K' hK => ?_
    simp only [go_sem, cloneSpec, aClone, te22, tz35, hd1]
    repeat' apply And.intro
    all_goals first | rfl | omega | exact Int.le_refl _ | exact Bool.or_not_self _ | exact Bool.not_or_self _ | exact enc_okI _ | exact enc_ok _ | exact fun x hx => (enc_okI _ x hx).1 | exact fun x hx => (enc_ok _ x hx).1 | (simp only [List.length_take, List.length_append, List.length_map, List.length_drop, List.length_cons, List.length_nil]; done) | (simp only [List.length_take, List.length_append, List.length_map, List.length_drop, List.length_cons, List.length_nil]; omega) | (simp only [List.length_take, List.length_append, List.length_map, List.length_drop, List.length_cons, List.length_nil, maxLen]; omega) | (exact fun _ => by decide) | (exact fun h => ⟨h, by decide⟩) | (simp only [decide_eq_true_eq]; omega) | skip
    refine hK _ ?_ ?_ <;> clear K' hK <;> simp only [go_sem]
    have hmv := fun (f : List Deed → List Deed → Int → Int → Int → V) (obj : Name → Option O) (t : Name) (m : List Deed) (x y z : Int) => sMov_app (f := f) (obj := obj) (t := t) (l := d0 :: l0) (m := m) (a := x) (b := y) (c := z)
    simp only [List.map_cons, encD] at hmv
    repeat refine cl_seq ?_
    refine cl_rs hΓ [8,9] [] fun K' hK => ?_
    simp only [go_sem, hmv]
    repeat (refine ⟨ob, ?_⟩)
    refine hK _ ?_ ?_ <;> clear K' hK <;> simp only [go_sem, hmv]
    refine cl_ret ?_
    simp only [go_sem]
def pLTA (f : List Deed → Int → Int → Int → Int → V) : PSpec := ⟨fun xs => ∃ (l : List Deed) (a b : Int) (k : Aska), xs = [.sl (l.map encD), .agg [vInt a, vInt b], encA k], fun xs => match xs with | [.sl l, .agg [.int _ a, .int _ b], .agg [_, _, .int _ c, .int _ d]] => f (l.map decD) a b c d | _ => .bool false, false⟩
theorem pLTA_fn (f : List Deed → Int → Int → Int → Int → V) (l : List Deed) (a b : Int) (k : Aska) : (pLTA f).fn [.sl (l.map encD), .agg [vInt a, vInt b], encA k] = f l a b k.da k.kn := by
  simp only [pLTA, encA, decD_map]
set_option maxHeartbeats 8000000 in
theorem s23 : PSound Tryz.prog 23 (pLTA mvdV) := by
  refine psoundB (rs := [.tmp 6, .tmp 7]) Tryz.func23 Tryz.ntmps23 (by rfl) (by kernel_rfl) (by decide) (fun h => by cases h) ⟨_, rfl, ?_⟩
  rintro xs ⟨l, a, b, ⟨lo, pe, day, k⟩, rfl⟩ hw
  refine ⟨Nat.le_of_ble_eq_true rfl, ?_⟩
  rw [pLTA_fn]
  simp only [encA]
  unfold mvdV
  have hΓ := K73_sound
  repeat refine cl_seq ?_
  refine cl_rs hΓ [0,4,5] [[4, 0],[5, 0]] fun K' hK => ?_
  simp only [go_sem, tz48]
  repeat (refine ⟨ob, ?_⟩)
  refine hK _ ?_ ?_ <;> clear K' hK <;> simp only [go_sem, tz48]
  repeat refine cl_seq ?_
  refine cl_rs hΓ [0,4,5,8] [[4, 0],[5, 0]] fun K' hK => ?_
  simp only [go_sem, sDaysI_two]
  repeat (refine ⟨ob, ?_⟩)
  refine hK _ ?_ ?_ <;> clear K' hK <;> simp only [go_sem, sDaysI_two]
  repeat refine cl_seq ?_
  refine cl_rs hΓ [0,4,5,8,19] [[4, 0],[5, 0]] fun K' hK => ?_
  simp only [go_sem]
  repeat (refine ⟨ob, ?_⟩)
  refine hK _ ?_ ?_ <;> clear K' hK <;> simp only [go_sem]
  repeat refine cl_seq ?_
  refine cl_cond rfl rfl (fun hb => ?_) (fun hb => ?_)
  · repeat refine cl_seq ?_
    have hn : ¬ daysI l [day, k] = 0 := by simpa using hb
    have he : mvdE l a b day k = daysI l [day, k] := by unfold mvdE; rw [if_neg hn]
    simp only [he, if_neg hn]
    repeat refine cl_seq ?_
    refine cl_rs hΓ [6,7] [] fun K' hK => ?_
    simp only [go_sem]
    repeat (refine ⟨ob, ?_⟩)
    refine hK _ ?_ ?_ <;> clear K' hK <;> simp only [go_sem]
    refine cl_ret ?_
    simp only [go_sem]
  have hq : daysI l [day, k] = 0 := by simpa using hb
  have hok := days_ok hq
  have hl := hok.2.2
  clear hb
  have he : mvdE l a b day k = if l.any (isAtB a b) = true then 0 else 3 := by unfold mvdE; rw [if_pos hq]
  rw [he]
  have hwo := fun (obj : Name → Option O) (t : Name) => sWithout_app (obj := obj) (t := t) (a := a) (b := b) hl
  repeat refine cl_seq ?_
  refine cl_skip ?_
  repeat refine cl_seq ?_
  refine cl_rs hΓ [0,5,9,10] [[5, 0]] fun K' hK => ?_
  simp only [go_sem, hwo]
  repeat (refine ⟨ob, ?_⟩)
  refine hK _ ?_ ?_ <;> clear K' hK <;> simp only [go_sem, hwo]
  repeat refine cl_seq ?_
  refine cl_rs hΓ [0,5,9,28] [[5, 0]] fun K' hK => ?_
  simp only [go_sem]
  repeat (refine ⟨ob, ?_⟩)
  refine hK _ ?_ ?_ <;> clear K' hK <;> simp only [go_sem]
  repeat refine cl_seq ?_
  refine cl_cond rfl rfl (fun hb => ?_) (fun hb => ?_)
  · repeat refine cl_seq ?_
    have hna : ¬ l.any (isAtB a b) = true := by simpa using hb
    simp only [hna, if_false]
    repeat refine cl_seq ?_
    refine cl_rs hΓ [6,7] [] fun K' hK => ?_
    simp only [go_sem]
    repeat (refine ⟨ob, ?_⟩)
    refine hK _ ?_ ?_ <;> clear K' hK <;> simp only [go_sem]
    refine cl_ret ?_
    simp only [go_sem]
    all_goals rfl
  have hna : l.any (isAtB a b) = true := by simpa using hb
  simp only [hna, if_true]
  repeat refine cl_seq ?_
  refine cl_skip ?_
  repeat refine cl_seq ?_
  refine cl_rs hΓ [6,7] [] fun K' hK => ?_
  simp only [go_sem, sDif_app, tz99, tp99, tz23, tp23, Nat.reduceLeDiff, Nat.le_refl]
  repeat (refine ⟨ob, ?_⟩)
  refine hK _ ?_ ?_ <;> clear K' hK <;> simp only [go_sem, sDif_app, tz99, tp99, tz23, tp23, Nat.reduceLeDiff, Nat.le_refl]
  refine cl_ret ?_
  simp only [go_sem]
end Go.Eng
namespace Go.Eng
open Go Go.Proofs
set_option maxRecDepth 10000
/-! the law: Changed and Moved -/
@[go_sem] theorem taA41 : tAgg Tryz.prog 41 = some (true, 6) := by kernel_rfl
@[go_sem] theorem tfA41_0 : tField Tryz.prog 41 0 = some (0, 2, true) := by kernel_rfl
@[go_sem] theorem tfA41_1 : tField Tryz.prog 41 1 = some (2, 1, false) := by kernel_rfl
@[go_sem] theorem tfA41_2 : tField Tryz.prog 41 2 = some (3, 1, false) := by kernel_rfl
@[go_sem] theorem tfA41_3 : tField Tryz.prog 41 3 = some (4, 1, false) := by kernel_rfl
def encAk (a b d k j : Int) (ds : List Int) : V := .agg [vInt a, vInt b, vInt d, vInt k, vInt j, .sl (ds.map vInt)]
noncomputable def sLIK (f : List Deed → Int → Int → Int → V) : Spec := (pLIK f).toSpec
theorem sLIK_app {f : List Deed → Int → Int → Int → V} {obj : Name → Option O} {t : Name} {l : List Deed} {a b c : Int} : (sLIK f).app obj t [.v (.sl (l.map encD)), .v (vInt a), .agg [.v (vInt b), .v (vInt c)]] = ⟨True, .v (f l a b c), obj⟩ := by
  have e : frzL (frz 6) obj [.v (.sl (l.map encD)), .v (vInt a), .agg [.v (vInt b), .v (vInt c)]] = ⟨True, [.sl (l.map encD), vInt a, .agg [vInt b, vInt c]], obj⟩ := by
    simp [frzL, frz, D.one, V.one]
  simp only [sLIK, PSpec.toSpec, e, pLIK_fn, ite_self]
  congr 1
  simp only [eq_iff_iff, iff_true]
  exact ⟨trivial, l, a, b, c, rfl⟩
noncomputable def sMvd (f : List Deed → Int → Int → Int → Int → V) : Spec := (pMvd f).toSpec
theorem sMvd_app {f : List Deed → Int → Int → Int → Int → V} {obj : Name → Option O} {t : Name} {l : List Deed} {a b c d : Int} : (sMvd f).app obj t [.v (.sl (l.map encD)), .agg [.v (vInt a), .v (vInt b)], .v (vInt c), .v (vInt d)] = ⟨True, .v (f l a b c d), obj⟩ := by
  have e : frzL (frz 6) obj [.v (.sl (l.map encD)), .agg [.v (vInt a), .v (vInt b)], .v (vInt c), .v (vInt d)] = ⟨True, [.sl (l.map encD), .agg [vInt a, vInt b], vInt c, vInt d], obj⟩ := by
    simp [frzL, frz, D.one, V.one]
  simp only [sMvd, PSpec.toSpec, e, pMvd_fn, ite_self]
  congr 1
  simp only [eq_iff_iff, iff_true]
  exact ⟨trivial, l, a, b, c, d, rfl⟩
noncomputable def sLTA (f : List Deed → Int → Int → Int → Int → V) : Spec := (pLTA f).toSpec
theorem sLTA_app {f : List Deed → Int → Int → Int → Int → V} {obj : Name → Option O} {t : Name} {l : List Deed} {a b x y c d : Int} : (sLTA f).app obj t [.v (.sl (l.map encD)), .agg [.v (vInt a), .v (vInt b)], .agg [.v (vInt x), .v (vInt y), .v (vInt c), .v (vInt d)]] = ⟨True, .v (f l a b c d), obj⟩ := by
  have e : frzL (frz 6) obj [.v (.sl (l.map encD)), .agg [.v (vInt a), .v (vInt b)], .agg [.v (vInt x), .v (vInt y), .v (vInt c), .v (vInt d)]] = ⟨True, [.sl (l.map encD), .agg [vInt a, vInt b], encA ⟨x, y, c, d⟩], obj⟩ := by
    simp [frzL, frz, D.one, V.one, encA]
  simp only [sLTA, PSpec.toSpec, e, pLTA_fn, ite_self]
  congr 1
  simp only [eq_iff_iff, iff_true]
  exact ⟨trivial, l, a, b, ⟨x, y, c, d⟩, rfl⟩
noncomputable def K74 : FuncId → Option Spec := fun f => match f with
  | 20 => some (sLI3 chgV false)
  | 21 => some (sLIK chgV)
  | 22 => some (sMvd mvdV)
  | 23 => some (sLTA mvdV)
  | 24 => some sSameI
  | 17 => some (⟨fun xs => xs = [], fun _ => .bool true, true⟩ : PSpec).toSpec
  | _ => none
theorem K74_sound : ∀ f s, K74 f = some s → SSound Tryz.prog f s := by
  intro f s h
  unfold K74 at h
  split at h
  · cases h; exact s20.sound
  · cases h; exact s21.sound
  · cases h; exact s22.sound
  · cases h; exact s23.sound
  · cases h; exact s24.sound
  · cases h; exact s17.sound
  · cases h
@[go_sem] theorem K74_20 : K74 20 = some (sLI3 chgV false) := rfl
@[go_sem] theorem K74_21 : K74 21 = some (sLIK chgV) := rfl
@[go_sem] theorem K74_22 : K74 22 = some (sMvd mvdV) := rfl
@[go_sem] theorem K74_23 : K74 23 = some (sLTA mvdV) := rfl
@[go_sem] theorem K74_24 : K74 24 = some sSameI := rfl
@[go_sem] theorem K74_17 : K74 17 = some (⟨fun xs => xs = [], fun _ => .bool true, true⟩ : PSpec).toSpec := rfl
theorem chgV_ex (l : List Deed) (day k j : Int) : ∃ (x : List Int) (e : Int), chgV l day k j = .tup [.sl (x.map vInt), vInt e] := ⟨_, _, rfl⟩
theorem mvdV_ex (l : List Deed) (a b day k : Int) : ∃ (x : List Int) (e : Int), mvdV l a b day k = .tup [.sl (x.map vInt), vInt e] := ⟨_, _, rfl⟩
set_option maxHeartbeats 8000000 in
theorem w4 (l : List Deed) (a b d k j : Int) (ds : List Int) :
    ∃ c, Tryz.f4.body = some c ∧ CL Tryz.prog [c] (mkS 80 [0] (fun _ => none) (argsL 0 [.sl (l.map encD), encAk a b d k j ds]) []) (retK Tryz.prog [.tmp 4] (.bool true)) := by
  refine ⟨_, rfl, ?_⟩
  have hΓ := K74_sound
  obtain ⟨x1, e1, h1⟩ := chgV_ex l d k j
  obtain ⟨x2, e2, h2⟩ := mvdV_ex l a b d k
  unfold encAk
  repeat refine cl_seq ?_
  refine cl_rs hΓ [0,3] [[3, 0]] fun K' hK => ?_
  simp only [go_sem]
  repeat (refine ⟨ob, ?_⟩)
  refine hK _ ?_ ?_ <;> clear K' hK <;> simp only [go_sem]
  repeat refine cl_seq ?_
  refine cl_rs hΓ [0,3,5,6] [[3, 0]] fun K' hK => ?_
  simp only [go_sem, sLI3_app, h1]
  repeat (refine ⟨ob, ?_⟩)
  refine hK _ ?_ ?_ <;> clear K' hK <;> simp only [go_sem, sLI3_app, h1]
  repeat refine cl_seq ?_
  refine cl_rs hΓ [0,3,5,6,7,8] [[3, 0]] fun K' hK => ?_
  simp only [go_sem, sLIK_app, h1, tz23, tp23, Nat.reduceLeDiff, Nat.le_refl]
  repeat (refine ⟨ob, ?_⟩)
  refine hK _ ?_ ?_ <;> clear K' hK <;> simp only [go_sem, sLIK_app, h1, tz23, tp23, Nat.reduceLeDiff, Nat.le_refl]
  repeat refine cl_seq ?_
  refine cl_rs hΓ [0,3,5,6,7,8,9,10] [[3, 0]] fun K' hK => ?_
  simp only [go_sem, sMvd_app, h2]
  repeat (refine ⟨ob, ?_⟩)
  refine hK _ ?_ ?_ <;> clear K' hK <;> simp only [go_sem, sMvd_app, h2]
  repeat refine cl_seq ?_
  refine cl_rs hΓ [5,6,7,8,9,10,11,12] [] fun K' hK => ?_
  simp only [go_sem, sLTA_app, h2, tz48, tp48, Nat.reduceLeDiff, Nat.le_refl]
  repeat (refine ⟨ob, ?_⟩)
  refine hK _ ?_ ?_ <;> clear K' hK <;> simp only [go_sem, sLTA_app, h2, tz48, tp48, Nat.reduceLeDiff, Nat.le_refl]
  repeat refine cl_seq ?_
  refine cl_rs hΓ [4] [] fun K' hK => ?_
  simp only [go_sem, sSameI_app, decide_true, beq_self_eq_true, Bool.and_self]
  repeat (refine ⟨ob, ?_⟩)
  refine hK _ ?_ ?_ <;> clear K' hK <;> simp only [go_sem, sSameI_app, decide_true, beq_self_eq_true, Bool.and_self]
  refine cl_ret ?_
  simp only [go_sem]
def pMove4 : PSpec := ⟨fun xs => ∃ (l : List Deed) (a b d k j : Int) (ds : List Int), xs = [.sl (l.map encD), encAk a b d k j ds], fun _ => .bool true, true⟩
theorem s4 : PSound Tryz.prog 4 pMove4 := by
  refine psoundB (rs := [.tmp 4]) Tryz.func4 Tryz.ntmps4 (by rfl) (by kernel_rfl) (by decide) (fun _ xs _ => rfl) ?_
  obtain ⟨c, hc, _⟩ := w4 [] 0 0 0 0 0 []
  refine ⟨c, hc, ?_⟩
  rintro xs ⟨l, a, b, d, k, j, ds, rfl⟩ hw
  refine ⟨Nat.le_of_ble_eq_true rfl, ?_⟩
  obtain ⟨c', hc', h⟩ := w4 l a b d k j ds
  rw [hc] at hc'
  cases hc'
  exact h
end Go.Eng
set_option linter.constructorNameAsVariable false
namespace Go.Eng
open Go Go.Proofs Go.Proofs.YtofamdkaipongaaGreat Go.RowKit Go.ChangeShapes

theorem keysMoves_lifted (hc : ∀ (W : World) (args : Array Value) (xs : List V), ArgsS Tryz.prog 6 Tryz.f4.params.toList xs → RepVs (memOf W) xs args.toList → Calls Tryz.prog 4 args W fun e W' => e = .returned (.bool true) ∧ Below W.heap.size W W')
    (os : Os) (started : os.Started) (H : Type) (enc : TypeId × Value → H) :
    ReturnsInHanded {} Tryz.checked os 4 .any (Rows.keysMovesSpec.pre6 enc Tryz.prog Tryz.f4 Rows.keysMovesRow.domain false) (Rows.keysMovesSpec.post enc Tryz.prog Tryz.f4 false true false false) := by
  refine law_lifted (C := Tryz.checked) (n := 6) (tb := 4) kOwn started (by kernel_rfl) Tryz.func4
    (ChangeSpec.witness6 (enc := enc) (C := Tryz.checked) false ⟨#[], #[.slice none 0 0, .agg #[.int .i64 0, .int .i64 0, .int .i64 0, .int .i64 0, .int .i64 0, .slice none 0 0]], []⟩ 8 (by kernel_rfl) (by kernel_rfl) (by kernel_rfl) (by kernel_rfl))
    kLaid ?_ (by kernel_rfl) (by kernel_rfl) rfl ?_ hc
  · have h : (Tryz.f4.params.toList.all fun t => plainT Tryz.prog 6 t && Tryz.prog.readableRec t && decide (t < Tryz.prog.types.size)) = true := by kernel_rfl
    intro t ht
    have := List.all_eq_true.1 h t ht
    simp only [Bool.and_eq_true, decide_eq_true_eq] at this
    exact ⟨this.1.1, this.1.2, this.2⟩
  · intro ds hds
    have hl : Tryz.f4.params.toList.length = 2 := by kernel_rfl
    rw [hl] at hds
    match ds, hds with
    | [d1, d2], _ => exact ⟨rfl, rfl, rfl⟩

theorem keysMoves_said (hc : ∀ (W : World) (args : Array Value) (xs : List V), ArgsS Tryz.prog 6 Tryz.f4.params.toList xs → RepVs (memOf W) xs args.toList → Calls Tryz.prog 4 args W fun e W' => e = .returned (.bool true) ∧ Below W.heap.size W W') :
    Rows.KeysMovesSaid :=
  OpenClaim.holds_of_wide 4 Tryz.f4 rfl rfl rfl rfl rfl rfl rfl ⟨rfl, rfl, rfl, rfl, rfl⟩ rfl rfl rfl rfl rfl (by kernel_rfl) Tryz.func4 (by kernel_rfl)
    (of_decide_eq_true (by kernel_rfl)) (by unfold Func.isWrapper; first | (rw [if_pos (by decide +kernel)]; kernel_rfl) | (rw [if_neg (by decide +kernel)]; exact ⟨rfl, rfl⟩))
    (fun os started H enc _ => keysMoves_lifted hc os started H enc)
end Go.Eng
set_option maxRecDepth 100000
namespace Go.Eng
open Go Go.Proofs Go.Proofs.YtofamdkaipongaaGreat
theorem aggM41 : aggT Tryz.prog 41 = true := by kernel_rfl
theorem shpM39 {n : Nat} {xs : List V} (h : Shp Tryz.prog (n + 2) 39 xs) : ∃ l : List Int, xs = [.sl (l.map vInt)] := by
  unfold Shp at h
  simp only [Tryz.underlying39] at h
  obtain ⟨ls, rfl, _, h3⟩ := h
  rw [aggT3]
  obtain ⟨m, hm⟩ := map_ex (f := vInt) (P := fun y => ∃ d, y = vInt d) (fun y h => h) (l := ls.map (packV false)) fun y hy => by
    obtain ⟨z, hz, rfl⟩ := List.mem_map.1 hy
    obtain ⟨k, rfl, hk⟩ := shp3 (h3 z hz)
    exact ⟨k, rfl⟩
  exact ⟨m, by rw [hm]⟩
theorem shpM41 {n : Nat} {xs : List V} (h : Shp Tryz.prog (n + 3) 41 xs) : ∃ a b d k la ds, V.agg xs = encAk a b d k la ds := by
  unfold Shp at h
  simp only [Tryz.underlying41] at h
  obtain ⟨x1, y, rfl, h1, x2, y2, rfl, h2, x3, y3, rfl, h3, x4, y4, rfl, h4, x5, y5, rfl, h5, rfl⟩ := h
  obtain ⟨a, b, rfl⟩ := shp31 h1
  obtain ⟨c, rfl, _⟩ := shp3 h2
  obtain ⟨d, rfl, _⟩ := shp3 h3
  obtain ⟨e, rfl, _⟩ := shp3 h4
  obtain ⟨f, rfl⟩ := shpM39 h5
  exact ⟨a, b, c, d, e, f, rfl⟩
theorem argM41 {x : V} (h : ArgS Tryz.prog 6 41 x) : ∃ a b d k la ds, x = encAk a b d k la ds := by
  obtain ⟨xs, h1, rfl⟩ := h
  rw [aggM41]
  exact shpM41 h1
theorem moves_holds : Rows.KeysMovesSaid :=
  keysMoves_said fun W args xs ha hr => by
    obtain ⟨x, ys, rfl, h1, y, zs, rfl, h2, rfl⟩ := (show ArgsS Tryz.prog 6 [22, 41] xs from ha)
    obtain ⟨l, rfl⟩ := arg22 h1
    obtain ⟨a, b, d, k, la, ds, rfl⟩ := argM41 h2
    exact calls_true s4 hr ⟨l, a, b, d, k, la, ds, rfl⟩ rfl
end Go.Eng
namespace Go.Proofs.YtofamdkaipongaaGreat
theorem keysMoves_holds : Rows.KeysMovesSaid := Go.Eng.moves_holds
end Go.Proofs.YtofamdkaipongaaGreat
#print axioms Go.Proofs.YtofamdkaipongaaGreat.keysMoves_holds
