import Derived.Test.YtepaolcgegdpoaaGreatK6
import Derived.Test.YtepaolcgegdpoaaGreatProg
/- Texts LW5 to LW9. -/
set_option linter.all false
namespace Go.Eng
open Go Go.Proofs
/-! lists of papers, receipts, returns, sights -/
noncomputable def K5 : List (Nat × Spec) := [(61, S61), (63, S63), (65, S65), (67, S67), (110, S110), (112, S112), (114, S114), (116, S116)]
theorem K5_sound : ∀ f s, tbl K5 f = some s → SSound Tryz.prog f s := tc k61 <| tc k63 <| tc k65 <| tc k67 <| tc k110 <| tc k112 <| tc k114 <| tc k116 <| tn
attribute [go_sem] K5

def okL {α : Type} (chk : α → Bool) (num : α → Int) (l : List α) (n : Nat) : Prop := ∀ j (h : j < l.length), j < n → chk l[j] = true ∧ (0 < j → num l[j - 1] < num l[j])
open Classical in
noncomputable def allB {α : Type} (chk : α → Bool) (num : α → Int) (l : List α) : Bool := decide (okL chk num l l.length)
theorem allB_iff {α : Type} {chk : α → Bool} {num : α → Int} {l : List α} : allB chk num l = true ↔ okL chk num l l.length := by unfold allB; exact @decide_eq_true_iff _ (Classical.propDecidable _)
theorem okL_zero {α : Type} {chk : α → Bool} {num : α → Int} {l : List α} : okL chk num l 0 := fun j _ h => by omega
theorem okL_succ {α : Type} {chk : α → Bool} {num : α → Int} {l : List α} {i : Nat} (h : okL chk num l i) (hi : i < l.length) (hc : chk l[i] = true ∧ (0 < i → num l[i - 1] < num l[i])) : okL chk num l (i + 1) := by
  intro j hj hji
  rcases Nat.lt_succ_iff_lt_or_eq.1 hji with h1 | rfl
  · exact h j hj h1
  · exact hc
noncomputable def P109 : PSpec := p4 (iSl iP) iI (iF 61) (iF 110) (fun _ _ _ _ => True) (fun l m _ _ => .bool (allB papB Pap.id l && decide ((l.length : Int) ≤ m))) true
noncomputable def S109 : Spec := P109.toSpec
attribute [go_sem] P109 S109

set_option maxHeartbeats 4000000 in
theorem s109 : PSound Tryz.prog 109 P109 := by
  refine w4 (rs := [.tmp 8]) Tryz.func109 Tryz.ntmps109 (by rfl) (by kernel_rfl) (by decide) (fun _ _ _ _ _ => rfl) ⟨_, rfl, lb rfl, fun l m _ _ hp hw => ?_⟩
  have hP := mixedK
  simp only [iF, iI, iP, iSl, iC, encP] at hw ⊢
  have hΓ := K5_sound
  have hl : l.length ≤ maxLen := by have := hw.1.1; simpa using this
  repeat refine sq ?_
  refine rs hΓ [0,1,2,3] [] ?_
  repeat refine sq ?_
  refine rs hΓ [0,1,2,3,11,12,13] [] ?_
  repeat refine sq ?_
  refine cl_block ?_
  repeat refine sq ?_
  refine cl_loop' (fun s : Nat => [(13, ⟨true, .v (vInt s)⟩)]) (fun s => []) (fun s => s ≤ l.length ∧ okL papB Pap.id l s) (fun s => l.length - s) 0 ?_ ?_ ?_ ?_
  · exact ⟨Nat.zero_le _, okL_zero⟩
  · rfl
  · rfl
  rintro i ⟨hi, hR⟩
  simp only [go_sem]
  repeat refine sq ?_
  refine rs hΓ [0,1,2,3,11,12,13,14] [] ?_
  repeat refine sq ?_
  refine cl_cond rfl rfl (fun hb => ?_) fun hb => ?_
  · skip
    have hlt : i < l.length := by simpa using hb
    have hlt' : (i : Int) < l.length := by omega
    clear hb
    obtain ⟨p, hp, hpl, hpos⟩ := prev_at hlt hl
    repeat refine sq ?_
    refine cl_skip ?_
    repeat refine sq ?_
    refine cl_block ?_
    repeat refine sq ?_
    refine rx hΓ [0,1,2,3,9,10,11,12,13] [[10, 0]] (fun K' hK => by simp only [go_sem, map_getD hlt, Int.toNat_natCast, Int.natCast_nonneg, hlt']; (repeat (refine ⟨ob, ?_⟩)); exact hK _ (by simp only [go_sem]) (by simp only [go_sem] <;> rfl)) ?_
    repeat refine sq ?_
    refine dx hΓ hP [[], [], [0, 1], [0, 1, 2], [0, 1, 2, 3], [0, 1, 2, 3, 4], [0, 1, 2, 3, 4, 5], [0, 1, 2, 3, 4, 5, 6], [0, 1, 2, 3, 4, 5, 6, 7], [0, 1, 2, 3, 4, 5, 6, 7], [0, 1, 2, 3, 4, 5, 6, 7], [0, 1, 2, 3, 4, 5, 6, 7, 10], [0, 1, 2, 3, 4, 5, 6, 7, 9, 10, 11], [0, 1, 2, 3, 4, 5, 6, 7, 9, 10, 11, 12], [0, 1, 2, 3, 4, 5, 6, 7, 8, 9, 10, 11, 12, 13], [0, 1, 2, 3, 4, 5, 6, 7], [0, 1, 2, 3, 4, 5, 6, 7], [0, 1, 2, 3, 4, 5, 6, 7, 8, 9, 10, 11, 12, 13, 14, 15, 16], [0, 1, 2, 3, 4, 5, 6, 7, 8, 9, 10, 11, 12, 13, 14, 15, 16, 17], [0, 1, 2, 3, 4, 5, 6, 7, 8, 9, 10, 11, 12, 13, 14, 15, 16, 17, 18], [0, 1, 2, 3, 4, 5, 6, 7, 8, 9, 10, 11, 12, 13, 14, 15, 16, 17, 18, 19]] [0,1,2,3,11,12,13,38] [] (by kernel_rfl) (fun K' hK => by simp only [go_sem, map_getD hlt, Int.toNat_natCast, Int.natCast_nonneg, hlt', hp, map_getD hpl, fun b => errI_ne b 20 (by decide)]; (repeat (refine ⟨by first | exact ob | (intro h; have := hpos (by simp_all); simp_all; done), ?_⟩)); (first | refine ⟨by rfl, ?_⟩ | skip); exact hK _ (by simp only [go_sem]) (by simp only [go_sem] <;> rfl)) ?_
    repeat refine sq ?_
    refine cl_cond rfl rfl (fun hb => ?_) fun hb => ?_
    · skip
      repeat refine sq ?_
      have hbad : allB papB Pap.id l = false := by
        rw [bool_of allB_iff]
        intro h
        obtain ⟨h1, h2⟩ := h i hlt hlt
        simp only [h1, Bool.not_true, Bool.false_or, Bool.and_eq_true, decide_eq_true_eq] at hb
        obtain ⟨e, _⟩ := hpos (by omega)
        subst e
        have := h2 (by omega)
        have := hb.2
        omega
      repeat refine sq ?_
      refine rx hΓ [8] [] (fun K' hK => by simp only [go_sem, map_getD hlt, Int.toNat_natCast, Int.natCast_nonneg, hlt']; (repeat (refine ⟨ob, ?_⟩)); exact hK _ (by simp only [go_sem]) (by simp only [go_sem] <;> rfl)) ?_
      refine cl_ret ?_
      simp only [go_sem]
      rw [hbad]; rfl
    · skip
      repeat refine sq ?_
      have hn : papB l[i] = true ∧ (0 < i → Pap.id l[i - 1] < Pap.id l[i]) := by
        simp only [Bool.or_eq_false_iff, Bool.not_eq_false', Bool.and_eq_false_iff, decide_eq_false_iff_not] at hb
        refine ⟨hb.1, fun h => ?_⟩
        obtain ⟨e, _⟩ := hpos h
        subst e
        omega
      refine cl_skip ?_
      refine cl_nil ?_
      simp only [go_sem]
      refine kp [0,1,2,3,11,12,13] [] ?_
      repeat refine sq ?_
      refine cl_r hΓ fun K' hK => ?_
      simp only [go_sem, map_getD hlt, Int.toNat_natCast, Int.natCast_nonneg, hlt']
      repeat refine ⟨ob, ?_⟩
      refine hK _ ?_
      clear K' hK
      simp only [go_sem]
      refine ⟨i + 1, ⟨hlt, ?_⟩, by (show l.length - (i + 1) < l.length - i; omega), ?_⟩
      · skip
        exact okL_succ hR hlt hn
      refine weak_eq [0,1,2,3,11,12,13] [] ?_ ?_
      · simp only [go_sem, wrap_succ hlt hl, Int.natCast_add, Int.natCast_one]
      · simp only [go_sem, wrap_succ hlt hl, Int.natCast_add, Int.natCast_one]
  · skip
    have hge : i = l.length := by
      have : ¬ (i : Int) < l.length := by simpa using hb
      omega
    clear hb
    subst hge
    repeat refine sq ?_
    refine cl_exit ?_
    simp only [go_sem]
    refine kp [0,1] [] ?_
    repeat refine sq ?_
    refine rs hΓ [8] [] ?_
    refine cl_ret ?_
    simp only [go_sem]
    rw [allB_iff.2 hR]; rfl
theorem k109 : SSound Tryz.prog 109 S109 := s109.sound

noncomputable def P111 : PSpec := p4 (iSl iR) iI (iF 63) (iF 112) (fun _ _ _ _ => True) (fun l m _ _ => .bool (allB recB Rec.so l && decide ((l.length : Int) ≤ m))) true
noncomputable def S111 : Spec := P111.toSpec
attribute [go_sem] P111 S111

set_option maxHeartbeats 4000000 in
theorem s111 : PSound Tryz.prog 111 P111 := by
  refine w4 (rs := [.tmp 8]) Tryz.func111 Tryz.ntmps111 (by rfl) (by kernel_rfl) (by decide) (fun _ _ _ _ _ => rfl) ⟨_, rfl, lb rfl, fun l m _ _ hp hw => ?_⟩
  have hP := mixedK
  simp only [iF, iI, iR, iSl, iC, encR] at hw ⊢
  have hΓ := K5_sound
  have hl : l.length ≤ maxLen := by have := hw.1.1; simpa using this
  repeat refine sq ?_
  refine rs hΓ [0,1,2,3] [] ?_
  repeat refine sq ?_
  refine rs hΓ [0,1,2,3,11,12,13] [] ?_
  repeat refine sq ?_
  refine cl_block ?_
  repeat refine sq ?_
  refine cl_loop' (fun s : Nat => [(13, ⟨true, .v (vInt s)⟩)]) (fun s => []) (fun s => s ≤ l.length ∧ okL recB Rec.so l s) (fun s => l.length - s) 0 ?_ ?_ ?_ ?_
  · exact ⟨Nat.zero_le _, okL_zero⟩
  · rfl
  · rfl
  rintro i ⟨hi, hR⟩
  simp only [go_sem]
  repeat refine sq ?_
  refine rs hΓ [0,1,2,3,11,12,13,14] [] ?_
  repeat refine sq ?_
  refine cl_cond rfl rfl (fun hb => ?_) fun hb => ?_
  · skip
    have hlt : i < l.length := by simpa using hb
    have hlt' : (i : Int) < l.length := by omega
    clear hb
    obtain ⟨p, hp, hpl, hpos⟩ := prev_at hlt hl
    repeat refine sq ?_
    refine cl_skip ?_
    repeat refine sq ?_
    refine cl_block ?_
    repeat refine sq ?_
    refine rx hΓ [0,1,2,3,9,10,11,12,13] [[10, 0]] (fun K' hK => by simp only [go_sem, map_getD hlt, Int.toNat_natCast, Int.natCast_nonneg, hlt']; (repeat (refine ⟨ob, ?_⟩)); exact hK _ (by simp only [go_sem]) (by simp only [go_sem] <;> rfl)) ?_
    repeat refine sq ?_
    refine dx hΓ hP [[], [], [0, 1], [0, 1, 2], [0, 1, 2, 3], [0, 1, 2, 3, 4], [0, 1, 2, 3, 4, 5], [0, 1, 2, 3, 4, 5, 6], [0, 1, 2, 3, 4, 5, 6, 7], [0, 1, 2, 3, 4, 5, 6, 7], [0, 1, 2, 3, 4, 5, 6, 7], [0, 1, 2, 3, 4, 5, 6, 7, 10], [0, 1, 2, 3, 4, 5, 6, 7, 9, 10, 11], [0, 1, 2, 3, 4, 5, 6, 7, 9, 10, 11, 12], [0, 1, 2, 3, 4, 5, 6, 7, 8, 9, 10, 11, 12, 13], [0, 1, 2, 3, 4, 5, 6, 7], [0, 1, 2, 3, 4, 5, 6, 7], [0, 1, 2, 3, 4, 5, 6, 7, 8, 9, 10, 11, 12, 13, 14, 15, 16], [0, 1, 2, 3, 4, 5, 6, 7, 8, 9, 10, 11, 12, 13, 14, 15, 16, 17], [0, 1, 2, 3, 4, 5, 6, 7, 8, 9, 10, 11, 12, 13, 14, 15, 16, 17, 18], [0, 1, 2, 3, 4, 5, 6, 7, 8, 9, 10, 11, 12, 13, 14, 15, 16, 17, 18, 19]] [0,1,2,3,11,12,13,38] [] (by kernel_rfl) (fun K' hK => by simp only [go_sem, map_getD hlt, Int.toNat_natCast, Int.natCast_nonneg, hlt', hp, map_getD hpl, fun b => errI_ne b 21 (by decide)]; (repeat (refine ⟨by first | exact ob | (intro h; have := hpos (by simp_all); simp_all; done), ?_⟩)); (first | refine ⟨by rfl, ?_⟩ | skip); exact hK _ (by simp only [go_sem]) (by simp only [go_sem] <;> rfl)) ?_
    repeat refine sq ?_
    refine cl_cond rfl rfl (fun hb => ?_) fun hb => ?_
    · skip
      repeat refine sq ?_
      have hbad : allB recB Rec.so l = false := by
        rw [bool_of allB_iff]
        intro h
        obtain ⟨h1, h2⟩ := h i hlt hlt
        simp only [h1, Bool.not_true, Bool.false_or, Bool.and_eq_true, decide_eq_true_eq] at hb
        obtain ⟨e, _⟩ := hpos (by omega)
        subst e
        have := h2 (by omega)
        have := hb.2
        omega
      repeat refine sq ?_
      refine rx hΓ [8] [] (fun K' hK => by simp only [go_sem, map_getD hlt, Int.toNat_natCast, Int.natCast_nonneg, hlt']; (repeat (refine ⟨ob, ?_⟩)); exact hK _ (by simp only [go_sem]) (by simp only [go_sem] <;> rfl)) ?_
      refine cl_ret ?_
      simp only [go_sem]
      rw [hbad]; rfl
    · skip
      repeat refine sq ?_
      have hn : recB l[i] = true ∧ (0 < i → Rec.so l[i - 1] < Rec.so l[i]) := by
        simp only [Bool.or_eq_false_iff, Bool.not_eq_false', Bool.and_eq_false_iff, decide_eq_false_iff_not] at hb
        refine ⟨hb.1, fun h => ?_⟩
        obtain ⟨e, _⟩ := hpos h
        subst e
        omega
      refine cl_skip ?_
      refine cl_nil ?_
      simp only [go_sem]
      refine kp [0,1,2,3,11,12,13] [] ?_
      repeat refine sq ?_
      refine cl_r hΓ fun K' hK => ?_
      simp only [go_sem, map_getD hlt, Int.toNat_natCast, Int.natCast_nonneg, hlt']
      repeat refine ⟨ob, ?_⟩
      refine hK _ ?_
      clear K' hK
      simp only [go_sem]
      refine ⟨i + 1, ⟨hlt, ?_⟩, by (show l.length - (i + 1) < l.length - i; omega), ?_⟩
      · skip
        exact okL_succ hR hlt hn
      refine weak_eq [0,1,2,3,11,12,13] [] ?_ ?_
      · simp only [go_sem, wrap_succ hlt hl, Int.natCast_add, Int.natCast_one]
      · simp only [go_sem, wrap_succ hlt hl, Int.natCast_add, Int.natCast_one]
  · skip
    have hge : i = l.length := by
      have : ¬ (i : Int) < l.length := by simpa using hb
      omega
    clear hb
    subst hge
    repeat refine sq ?_
    refine cl_exit ?_
    simp only [go_sem]
    refine kp [0,1] [] ?_
    repeat refine sq ?_
    refine rs hΓ [8] [] ?_
    refine cl_ret ?_
    simp only [go_sem]
    rw [allB_iff.2 hR]; rfl
theorem k111 : SSound Tryz.prog 111 S111 := s111.sound

noncomputable def P113 : PSpec := p4 (iSl iT) iI (iF 65) (iF 114) (fun _ _ _ _ => True) (fun l m _ _ => .bool (allB retB Ret.so l && decide ((l.length : Int) ≤ m))) true
noncomputable def S113 : Spec := P113.toSpec
attribute [go_sem] P113 S113

set_option maxHeartbeats 4000000 in
theorem s113 : PSound Tryz.prog 113 P113 := by
  refine w4 (rs := [.tmp 8]) Tryz.func113 Tryz.ntmps113 (by rfl) (by kernel_rfl) (by decide) (fun _ _ _ _ _ => rfl) ⟨_, rfl, lb rfl, fun l m _ _ hp hw => ?_⟩
  have hP := mixedK
  simp only [iF, iI, iSl, iT, iC, encT] at hw ⊢
  have hΓ := K5_sound
  have hl : l.length ≤ maxLen := by have := hw.1.1; simpa using this
  repeat refine sq ?_
  refine rs hΓ [0,1,2,3] [] ?_
  repeat refine sq ?_
  refine rs hΓ [0,1,2,3,11,12,13] [] ?_
  repeat refine sq ?_
  refine cl_block ?_
  repeat refine sq ?_
  refine cl_loop' (fun s : Nat => [(13, ⟨true, .v (vInt s)⟩)]) (fun s => []) (fun s => s ≤ l.length ∧ okL retB Ret.so l s) (fun s => l.length - s) 0 ?_ ?_ ?_ ?_
  · exact ⟨Nat.zero_le _, okL_zero⟩
  · rfl
  · rfl
  rintro i ⟨hi, hR⟩
  simp only [go_sem]
  repeat refine sq ?_
  refine rs hΓ [0,1,2,3,11,12,13,14] [] ?_
  repeat refine sq ?_
  refine cl_cond rfl rfl (fun hb => ?_) fun hb => ?_
  · skip
    have hlt : i < l.length := by simpa using hb
    have hlt' : (i : Int) < l.length := by omega
    clear hb
    obtain ⟨p, hp, hpl, hpos⟩ := prev_at hlt hl
    repeat refine sq ?_
    refine cl_skip ?_
    repeat refine sq ?_
    refine cl_block ?_
    repeat refine sq ?_
    refine rx hΓ [0,1,2,3,9,10,11,12,13] [[10, 0]] (fun K' hK => by simp only [go_sem, map_getD hlt, Int.toNat_natCast, Int.natCast_nonneg, hlt']; (repeat (refine ⟨ob, ?_⟩)); exact hK _ (by simp only [go_sem]) (by simp only [go_sem] <;> rfl)) ?_
    repeat refine sq ?_
    refine dx hΓ hP [[], [], [0, 1], [0, 1, 2], [0, 1, 2, 3], [0, 1, 2, 3, 4], [0, 1, 2, 3, 4, 5], [0, 1, 2, 3, 4, 5, 6], [0, 1, 2, 3, 4, 5, 6, 7], [0, 1, 2, 3, 4, 5, 6, 7], [0, 1, 2, 3, 4, 5, 6, 7], [0, 1, 2, 3, 4, 5, 6, 7, 10], [0, 1, 2, 3, 4, 5, 6, 7, 9, 10, 11], [0, 1, 2, 3, 4, 5, 6, 7, 9, 10, 11, 12], [0, 1, 2, 3, 4, 5, 6, 7, 8, 9, 10, 11, 12, 13], [0, 1, 2, 3, 4, 5, 6, 7], [0, 1, 2, 3, 4, 5, 6, 7], [0, 1, 2, 3, 4, 5, 6, 7, 8, 9, 10, 11, 12, 13, 14, 15, 16], [0, 1, 2, 3, 4, 5, 6, 7, 8, 9, 10, 11, 12, 13, 14, 15, 16, 17], [0, 1, 2, 3, 4, 5, 6, 7, 8, 9, 10, 11, 12, 13, 14, 15, 16, 17, 18], [0, 1, 2, 3, 4, 5, 6, 7, 8, 9, 10, 11, 12, 13, 14, 15, 16, 17, 18, 19]] [0,1,2,3,11,12,13,38] [] (by kernel_rfl) (fun K' hK => by simp only [go_sem, map_getD hlt, Int.toNat_natCast, Int.natCast_nonneg, hlt', hp, map_getD hpl, fun b => errI_ne b 22 (by decide)]; (repeat (refine ⟨by first | exact ob | (intro h; have := hpos (by simp_all); simp_all; done), ?_⟩)); (first | refine ⟨by rfl, ?_⟩ | skip); exact hK _ (by simp only [go_sem]) (by simp only [go_sem] <;> rfl)) ?_
    repeat refine sq ?_
    refine cl_cond rfl rfl (fun hb => ?_) fun hb => ?_
    · skip
      repeat refine sq ?_
      have hbad : allB retB Ret.so l = false := by
        rw [bool_of allB_iff]
        intro h
        obtain ⟨h1, h2⟩ := h i hlt hlt
        simp only [h1, Bool.not_true, Bool.false_or, Bool.and_eq_true, decide_eq_true_eq] at hb
        obtain ⟨e, _⟩ := hpos (by omega)
        subst e
        have := h2 (by omega)
        have := hb.2
        omega
      repeat refine sq ?_
      refine rx hΓ [8] [] (fun K' hK => by simp only [go_sem, map_getD hlt, Int.toNat_natCast, Int.natCast_nonneg, hlt']; (repeat (refine ⟨ob, ?_⟩)); exact hK _ (by simp only [go_sem]) (by simp only [go_sem] <;> rfl)) ?_
      refine cl_ret ?_
      simp only [go_sem]
      rw [hbad]; rfl
    · skip
      repeat refine sq ?_
      have hn : retB l[i] = true ∧ (0 < i → Ret.so l[i - 1] < Ret.so l[i]) := by
        simp only [Bool.or_eq_false_iff, Bool.not_eq_false', Bool.and_eq_false_iff, decide_eq_false_iff_not] at hb
        refine ⟨hb.1, fun h => ?_⟩
        obtain ⟨e, _⟩ := hpos h
        subst e
        omega
      refine cl_skip ?_
      refine cl_nil ?_
      simp only [go_sem]
      refine kp [0,1,2,3,11,12,13] [] ?_
      repeat refine sq ?_
      refine cl_r hΓ fun K' hK => ?_
      simp only [go_sem, map_getD hlt, Int.toNat_natCast, Int.natCast_nonneg, hlt']
      repeat refine ⟨ob, ?_⟩
      refine hK _ ?_
      clear K' hK
      simp only [go_sem]
      refine ⟨i + 1, ⟨hlt, ?_⟩, by (show l.length - (i + 1) < l.length - i; omega), ?_⟩
      · skip
        exact okL_succ hR hlt hn
      refine weak_eq [0,1,2,3,11,12,13] [] ?_ ?_
      · simp only [go_sem, wrap_succ hlt hl, Int.natCast_add, Int.natCast_one]
      · simp only [go_sem, wrap_succ hlt hl, Int.natCast_add, Int.natCast_one]
  · skip
    have hge : i = l.length := by
      have : ¬ (i : Int) < l.length := by simpa using hb
      omega
    clear hb
    subst hge
    repeat refine sq ?_
    refine cl_exit ?_
    simp only [go_sem]
    refine kp [0,1] [] ?_
    repeat refine sq ?_
    refine rs hΓ [8] [] ?_
    refine cl_ret ?_
    simp only [go_sem]
    rw [allB_iff.2 hR]; rfl
theorem k113 : SSound Tryz.prog 113 S113 := s113.sound

noncomputable def P115 : PSpec := p4 (iSl iS) iI (iF 67) (iF 116) (fun _ _ _ _ => True) (fun l m _ _ => .bool (allB sigB Sig.so l && decide ((l.length : Int) ≤ m))) true
noncomputable def S115 : Spec := P115.toSpec
attribute [go_sem] P115 S115

set_option maxHeartbeats 4000000 in
theorem s115 : PSound Tryz.prog 115 P115 := by
  refine w4 (rs := [.tmp 8]) Tryz.func115 Tryz.ntmps115 (by rfl) (by kernel_rfl) (by decide) (fun _ _ _ _ _ => rfl) ⟨_, rfl, lb rfl, fun l m _ _ hp hw => ?_⟩
  have hP := mixedK
  simp only [iF, iI, iS, iSl, iC, encS] at hw ⊢
  have hΓ := K5_sound
  have hl : l.length ≤ maxLen := by have := hw.1.1; simpa using this
  repeat refine sq ?_
  refine rs hΓ [0,1,2,3] [] ?_
  repeat refine sq ?_
  refine rs hΓ [0,1,2,3,11,12,13] [] ?_
  repeat refine sq ?_
  refine cl_block ?_
  repeat refine sq ?_
  refine cl_loop' (fun s : Nat => [(13, ⟨true, .v (vInt s)⟩)]) (fun s => []) (fun s => s ≤ l.length ∧ okL sigB Sig.so l s) (fun s => l.length - s) 0 ?_ ?_ ?_ ?_
  · exact ⟨Nat.zero_le _, okL_zero⟩
  · rfl
  · rfl
  rintro i ⟨hi, hR⟩
  simp only [go_sem]
  repeat refine sq ?_
  refine rs hΓ [0,1,2,3,11,12,13,14] [] ?_
  repeat refine sq ?_
  refine cl_cond rfl rfl (fun hb => ?_) fun hb => ?_
  · skip
    have hlt : i < l.length := by simpa using hb
    have hlt' : (i : Int) < l.length := by omega
    clear hb
    obtain ⟨p, hp, hpl, hpos⟩ := prev_at hlt hl
    repeat refine sq ?_
    refine cl_skip ?_
    repeat refine sq ?_
    refine cl_block ?_
    repeat refine sq ?_
    refine rx hΓ [0,1,2,3,9,10,11,12,13] [[10, 0]] (fun K' hK => by simp only [go_sem, map_getD hlt, Int.toNat_natCast, Int.natCast_nonneg, hlt']; (repeat (refine ⟨ob, ?_⟩)); exact hK _ (by simp only [go_sem]) (by simp only [go_sem] <;> rfl)) ?_
    repeat refine sq ?_
    refine dx hΓ hP [[], [], [0, 1], [0, 1, 2], [0, 1, 2, 3], [0, 1, 2, 3, 4], [0, 1, 2, 3, 4, 5], [0, 1, 2, 3, 4, 5, 6], [0, 1, 2, 3, 4, 5, 6, 7], [0, 1, 2, 3, 4, 5, 6, 7], [0, 1, 2, 3, 4, 5, 6, 7], [0, 1, 2, 3, 4, 5, 6, 7, 10], [0, 1, 2, 3, 4, 5, 6, 7, 9, 10, 11], [0, 1, 2, 3, 4, 5, 6, 7, 9, 10, 11, 12], [0, 1, 2, 3, 4, 5, 6, 7, 8, 9, 10, 11, 12, 13], [0, 1, 2, 3, 4, 5, 6, 7], [0, 1, 2, 3, 4, 5, 6, 7], [0, 1, 2, 3, 4, 5, 6, 7, 8, 9, 10, 11, 12, 13, 14, 15, 16], [0, 1, 2, 3, 4, 5, 6, 7, 8, 9, 10, 11, 12, 13, 14, 15, 16, 17], [0, 1, 2, 3, 4, 5, 6, 7, 8, 9, 10, 11, 12, 13, 14, 15, 16, 17, 18], [0, 1, 2, 3, 4, 5, 6, 7, 8, 9, 10, 11, 12, 13, 14, 15, 16, 17, 18, 19]] [0,1,2,3,11,12,13,38] [] (by kernel_rfl) (fun K' hK => by simp only [go_sem, map_getD hlt, Int.toNat_natCast, Int.natCast_nonneg, hlt', hp, map_getD hpl, fun b => errI_ne b 23 (by decide)]; (repeat (refine ⟨by first | exact ob | (intro h; have := hpos (by simp_all); simp_all; done), ?_⟩)); (first | refine ⟨by rfl, ?_⟩ | skip); exact hK _ (by simp only [go_sem]) (by simp only [go_sem] <;> rfl)) ?_
    repeat refine sq ?_
    refine cl_cond rfl rfl (fun hb => ?_) fun hb => ?_
    · skip
      repeat refine sq ?_
      have hbad : allB sigB Sig.so l = false := by
        rw [bool_of allB_iff]
        intro h
        obtain ⟨h1, h2⟩ := h i hlt hlt
        simp only [h1, Bool.not_true, Bool.false_or, Bool.and_eq_true, decide_eq_true_eq] at hb
        obtain ⟨e, _⟩ := hpos (by omega)
        subst e
        have := h2 (by omega)
        have := hb.2
        omega
      repeat refine sq ?_
      refine rx hΓ [8] [] (fun K' hK => by simp only [go_sem, map_getD hlt, Int.toNat_natCast, Int.natCast_nonneg, hlt']; (repeat (refine ⟨ob, ?_⟩)); exact hK _ (by simp only [go_sem]) (by simp only [go_sem] <;> rfl)) ?_
      refine cl_ret ?_
      simp only [go_sem]
      rw [hbad]; rfl
    · skip
      repeat refine sq ?_
      have hn : sigB l[i] = true ∧ (0 < i → Sig.so l[i - 1] < Sig.so l[i]) := by
        simp only [Bool.or_eq_false_iff, Bool.not_eq_false', Bool.and_eq_false_iff, decide_eq_false_iff_not] at hb
        refine ⟨hb.1, fun h => ?_⟩
        obtain ⟨e, _⟩ := hpos h
        subst e
        omega
      refine cl_skip ?_
      refine cl_nil ?_
      simp only [go_sem]
      refine kp [0,1,2,3,11,12,13] [] ?_
      repeat refine sq ?_
      refine cl_r hΓ fun K' hK => ?_
      simp only [go_sem, map_getD hlt, Int.toNat_natCast, Int.natCast_nonneg, hlt']
      repeat refine ⟨ob, ?_⟩
      refine hK _ ?_
      clear K' hK
      simp only [go_sem]
      refine ⟨i + 1, ⟨hlt, ?_⟩, by (show l.length - (i + 1) < l.length - i; omega), ?_⟩
      · skip
        exact okL_succ hR hlt hn
      refine weak_eq [0,1,2,3,11,12,13] [] ?_ ?_
      · simp only [go_sem, wrap_succ hlt hl, Int.natCast_add, Int.natCast_one]
      · simp only [go_sem, wrap_succ hlt hl, Int.natCast_add, Int.natCast_one]
  · skip
    have hge : i = l.length := by
      have : ¬ (i : Int) < l.length := by simpa using hb
      omega
    clear hb
    subst hge
    repeat refine sq ?_
    refine cl_exit ?_
    simp only [go_sem]
    refine kp [0,1] [] ?_
    repeat refine sq ?_
    refine rs hΓ [8] [] ?_
    refine cl_ret ?_
    simp only [go_sem]
    rw [allB_iff.2 hR]; rfl
theorem k115 : SSound Tryz.prog 115 S115 := s115.sound

/-! a paper's leaves -/
theorem mid_i64 {i j : Nat} (hi : i ≤ maxLen) (hj : j ≤ maxLen) : IntKind.i64.wrap ((IntKind.u64.wrap (IntKind.i64.wrap ((i : Int) + (j : Int)))).fdiv (2 ^ min (Int.toNat 1) 64)) = (((i + j) / 2 : Nat) : Int) := by
  unfold maxLen at hi hj
  have h1 : min (Int.toNat 1) 64 = 1 := by decide
  have h2 : IntKind.u64.wrap (IntKind.i64.wrap ((i : Int) + (j : Int))) = ((i + j : Nat) : Int) := by
    rw [IntKind.wrap_u64, IntKind.wrap_i64]
    omega
  rw [h1, h2]
  have h3 : (((i + j : Nat) : Int)).fdiv (2 ^ 1) = (((i + j) / 2 : Nat) : Int) := by
    rw [Int.fdiv_eq_ediv_of_nonneg _ (by decide)]
    omega
  rw [h3, wrap_i64 (by omega) (by omega)]
theorem cmpI_lt {a b : Int} : cmpI a b < 0 ↔ a < b := by
  unfold cmpI
  split
  · simp [*]
  · split <;> simp <;> omega
theorem cmpI_eq {a b : Int} : (cmpI a b == 0) = (a == b) := by
  unfold cmpI
  split
  · have : a ≠ b := by omega
    simp [this]
  · split
    · have : a ≠ b := by omega
      simp [this]
    · have : a = b := by omega
      simp [this]
def srt {α : Type} (num : α → Int) (l : List α) : Prop := ∀ i j (hi : i < l.length) (hj : j < l.length), i < j → num l[i] < num l[j]
theorem srt_of {α : Type} {num : α → Int} {l : List α} (h : ∀ j (h : j < l.length), 0 < j → num l[j - 1] < num l[j]) : srt num l := by
  intro i j hi hj hij
  induction j with
  | zero => omega
  | succ j ih =>
    have h1 := h (j + 1) hj (by omega)
    simp only [Nat.add_sub_cancel] at h1
    rcases Nat.lt_succ_iff_lt_or_eq.1 hij with h2 | rfl
    · have := ih (by omega) h2; omega
    · exact h1
theorem okL_srt {α : Type} {chk : α → Bool} {num : α → Int} {l : List α} (h : okL chk num l l.length) : srt num l := srt_of fun j hj h0 => (h j hj hj).2 h0
/-- The first place in a rising list that is not less. -/
def lowN {α : Type} (num : α → Int) (l : List α) (x : Int) : Nat := (l.takeWhile fun y => decide (num y < x)).length
def hasN {α : Type} (num : α → Int) (l : List α) (x : Int) : Bool := l.any fun y => num y == x
theorem lowN_at {α : Type} {num : α → Int} {l : List α} {x : Int} {i : Nat} (hi : i ≤ l.length) (h1 : ∀ k (h : k < l.length), k < i → num l[k] < x) (h2 : ∀ k (h : k < l.length), i ≤ k → x ≤ num l[k]) : lowN num l x = i := by
  unfold lowN
  induction l generalizing i with
  | nil => simp at hi ⊢; omega
  | cons a r ih =>
    cases i with
    | zero =>
      have := h2 0 (by simp) (Nat.le_refl _)
      simp only [List.getElem_cons_zero] at this
      have hd : decide (num a < x) = false := by simp; omega
      simp [hd]
    | succ i =>
      have := h1 0 (by simp) (by omega)
      simp only [List.getElem_cons_zero] at this
      have hd : decide (num a < x) = true := by simp; omega
      simp only [List.takeWhile_cons, hd, if_true, List.length_cons]
      rw [ih (by simpa using hi) (fun k hk hki => by have := h1 (k + 1) (by simpa using hk) (by omega); simpa using this) (fun k hk hki => by have := h2 (k + 1) (by simpa using hk) (by omega); simpa using this)]
theorem hasN_iff {α : Type} {num : α → Int} {l : List α} {x : Int} : hasN num l x = true ↔ ∃ k, ∃ (h : k < l.length), num l[k] = x := by
  unfold hasN
  rw [List.any_eq_true]
  constructor
  · rintro ⟨y, hy, h⟩
    obtain ⟨k, hk, rfl⟩ := List.getElem_of_mem hy
    exact ⟨k, hk, by simpa using h⟩
  · rintro ⟨k, hk, h⟩
    exact ⟨_, List.getElem_mem hk, by simpa using h⟩
theorem hasN_at {α : Type} {num : α → Int} {l : List α} {x : Int} {i : Nat} (hs : srt num l) (hi : i < l.length) (h1 : ∀ k (h : k < l.length), k < i → num l[k] < x) (h2 : ∀ k (h : k < l.length), i ≤ k → x ≤ num l[k]) : hasN num l x = (num l[i] == x) := by
  rw [Bool.eq_iff_iff, hasN_iff]
  simp only [beq_iff_eq]
  constructor
  · rintro ⟨k, hk, e⟩
    rcases Nat.lt_trichotomy k i with h3 | h3 | h3
    · have := h1 k hk h3; omega
    · subst h3; exact e
    · have := hs i k hi hk h3
      have := h2 i hi (Nat.le_refl _)
      omega
  · intro e
    exact ⟨i, hi, e⟩
theorem hasN_none {α : Type} {num : α → Int} {l : List α} {x : Int} (h1 : ∀ k (h : k < l.length), num l[k] < x) : hasN num l x = false := by
  rw [Bool.eq_false_iff]
  intro h
  obtain ⟨k, hk, e⟩ := hasN_iff.1 h
  have := h1 k hk
  omega
noncomputable def K6a : List (Nat × Spec) := [(140, S140)]
theorem K6a_sound : ∀ f s, tbl K6a f = some s → SSound Tryz.prog f s := tc k140 <| tn
attribute [go_sem] K6a

noncomputable def P169 : PSpec := p2 iP iI (fun _ _ => True) (fun p x => vInt (cmpI p.id x)) true
noncomputable def S169 : Spec := P169.toSpec
attribute [go_sem] P169 S169

theorem s169 : PSound Tryz.prog 169 P169 := by
  refine w2 (rs := [.tmp 4]) Tryz.func169 Tryz.ntmps169 (by rfl) (by kernel_rfl) (by decide) (fun _ _ _ => rfl) ⟨_, rfl, lb rfl, fun p x hp hw => ?_⟩
  have hP := mixedK
  simp only [iI, iP, encP] at hw ⊢
  have hΓ := K6a_sound
  repeat refine sq ?_
  refine rs hΓ [1,2] [[2, 0]] ?_
  repeat refine sq ?_
  refine rs hΓ [4] [] ?_
  refine cl_ret ?_
  simp only [go_sem]
  all_goals first | rfl | (simp; done) | (simp_all; done)
theorem k169 : SSound Tryz.prog 169 S169 := s169.sound

noncomputable def P139 : PSpec := p2 iS iI (fun _ _ => True) (fun p x => vInt (cmpI p.so x)) true
noncomputable def S139 : Spec := P139.toSpec
attribute [go_sem] P139 S139

theorem s139 : PSound Tryz.prog 139 P139 := by
  refine w2 (rs := [.tmp 4]) Tryz.func139 Tryz.ntmps139 (by rfl) (by kernel_rfl) (by decide) (fun _ _ _ => rfl) ⟨_, rfl, lb rfl, fun p x hp hw => ?_⟩
  have hP := mixedK
  simp only [iI, iS, encS] at hw ⊢
  have hΓ := K6a_sound
  repeat refine sq ?_
  refine rs hΓ [1,2] [[2, 0]] ?_
  repeat refine sq ?_
  refine rs hΓ [4] [] ?_
  refine cl_ret ?_
  simp only [go_sem]
  all_goals first | rfl | (simp; done) | (simp_all; done)
theorem k139 : SSound Tryz.prog 139 S139 := s139.sound

noncomputable def K6b : List (Nat × Spec) := [(169, S169), (139, S139)]
theorem K6b_sound : ∀ f s, tbl K6b f = some s → SSound Tryz.prog f s := tc k169 <| tc k139 <| tn
attribute [go_sem] K6b

noncomputable def P168 : PSpec := p3 (iSl iP) iI (iF 169) (fun l _ _ => srt Pap.id l) (fun l x _ => .tup [vInt (lowN Pap.id l x), .bool (hasN Pap.id l x)]) true
noncomputable def S168 : Spec := P168.toSpec
attribute [go_sem] P168 S168

set_option maxRecDepth 10000 in
set_option maxHeartbeats 4000000 in
theorem s168 : PSound Tryz.prog 168 P168 := by
  refine w3 (rs := [.tmp 6, .tmp 7]) Tryz.func168 Tryz.ntmps168 (by rfl) (by kernel_rfl) (by decide) (fun _ _ _ _ => rfl) ⟨_, rfl, lb rfl, fun l x _ hp hw => ?_⟩
  have hP := mixedK
  simp only [iF, iI, iP, iSl, iC, encP] at hw ⊢
  have hΓ := K6b_sound
  have hs := hp
  have hl : l.length ≤ maxLen := by have := hw.1.1; simpa using this
  repeat refine sq ?_
  refine rs hΓ [0,1,2] [] ?_
  repeat refine sq ?_
  refine rs hΓ [0,1,2,8] [] ?_
  repeat refine sq ?_
  refine rs hΓ [0,1,2,8,9,10] [] ?_
  repeat refine sq ?_
  refine cl_block ?_
  repeat refine sq ?_
  refine cl_loop' (fun ij : Nat × Nat => [(9, ⟨true, .v (vInt ij.1)⟩), (10, ⟨true, .v (vInt ij.2)⟩)]) (fun i => []) (fun ij => ij.1 ≤ ij.2 ∧ ij.2 ≤ l.length ∧ (∀ k (h : k < l.length), k < ij.1 → Pap.id l[k] < x) ∧ (∀ k (h : k < l.length), ij.2 ≤ k → x ≤ Pap.id l[k])) (fun ij => ij.2 - ij.1) (0, l.length) ?_ ?_ ?_ ?_
  · exact ⟨Nat.zero_le _, Nat.le_refl _, fun k h hk => by omega, fun k h hk => by omega⟩
  · rfl
  · rfl
  rintro ⟨i, j⟩ ⟨hij, hjl, hlo, hhi⟩
  simp only [go_sem]
  repeat refine sq ?_
  refine rs hΓ [0,1,2,8,9,10,17] [] ?_
  repeat refine sq ?_
  refine cl_cond rfl rfl (fun hb => ?_) fun hb => ?_
  · have hlt : i < j := by simpa using hb
    repeat refine sq ?_
    refine cl_skip ?_
    repeat refine sq ?_
    refine cl_block ?_
    repeat refine sq ?_
    refine rx hΓ [0,1,2,8,9,10,11] [] (fun K' hK => by simp only [go_sem, mid_i64 (show i ≤ maxLen by omega) (show j ≤ maxLen by omega)]; (repeat (refine ⟨ob, ?_⟩)); exact hK _ (by simp only [go_sem]) (by simp only [go_sem] <;> rfl)) ?_
    obtain ⟨h, hh⟩ : ∃ h, h = (i + j) / 2 := ⟨_, rfl⟩
    rw [← hh]
    have h1 : i ≤ h := by omega
    have h2 : h < j := by omega
    have h3 : h < l.length := by omega
    have h3' : (h : Int) < l.length := by omega
    repeat refine sq ?_
    refine rx hΓ [0,1,2,8,9,10,11,31] [] (fun K' hK => by simp only [go_sem, map_getD h3, Int.toNat_natCast, Int.natCast_nonneg, h3']; (repeat (refine ⟨ob, ?_⟩)); exact hK _ (by simp only [go_sem]) (by simp only [go_sem] <;> rfl)) ?_
    repeat refine sq ?_
    refine cl_cond rfl rfl (fun hb => ?_) fun hb => ?_
    · have hx : Pap.id l[h] < x := by simpa [cmpI_lt] using hb
      repeat refine sq ?_
      refine cl_r hΓ fun K' hK => ?_
      simp only [go_sem]
      repeat refine ⟨ob, ?_⟩
      refine hK _ ?_
      clear K' hK
      simp only [go_sem]
      refine ⟨(h + 1, j), ⟨by omega, hjl, fun k hk hkh => ?_, hhi⟩, by omega, ?_⟩
      · rcases Nat.lt_succ_iff_lt_or_eq.1 hkh with h5 | h5
        · have := hs k h hk h3 h5; omega
        · subst h5; exact hx
      · refine weak_eq [0,1,2,8,9,10] [] ?_ ?_
        · simp only [go_sem, wrap_succ h3 hl, Int.natCast_add, Int.natCast_one]
        · simp only [go_sem, wrap_succ h3 hl, Int.natCast_add, Int.natCast_one]
    · have hx : x ≤ Pap.id l[h] := by
        have : ¬ Pap.id l[h] < x := by simpa [cmpI_lt] using hb
        omega
      repeat refine sq ?_
      refine cl_r hΓ fun K' hK => ?_
      simp only [go_sem]
      repeat refine ⟨ob, ?_⟩
      refine hK _ ?_
      clear K' hK
      simp only [go_sem]
      refine ⟨(i, h), ⟨by omega, by omega, hlo, fun k hk hkh => ?_⟩, by omega, ?_⟩
      · rcases Nat.lt_or_eq_of_le hkh with h5 | h5
        · have := hs h k h3 hk h5; omega
        · subst h5; exact hx
      · refine weak_eq [0,1,2,8,9,10] [] ?_ ?_
        · simp only [go_sem]
        · simp only [go_sem]
  · have he : i = j := by
      have : ¬ (i : Int) < j := by simpa using hb
      omega
    subst he
    repeat refine sq ?_
    refine cl_exit ?_
    simp only [go_sem]
    refine kp [0,1,2,8,9] [] ?_
    by_cases hin : i < l.length
    · have hin' : (i : Int) < l.length := by omega
      repeat refine sq ?_
      refine rx hΓ [6,7] [] (fun K' hK => by simp only [go_sem, map_getD hin, Int.toNat_natCast, Int.natCast_nonneg, hin']; (repeat (refine ⟨ob, ?_⟩)); exact hK _ (by simp only [go_sem]) (by simp only [go_sem] <;> rfl)) ?_
      refine cl_ret ?_
      simp only [go_sem]
      rw [lowN_at hjl hlo hhi, hasN_at hs hin hlo hhi]
      simp [cmpI_eq]
    · have hil : i = l.length := by omega
      have hin' : ¬ (i : Int) < l.length := by omega
      obtain ⟨k0, n0, hdef⟩ : ∃ k0 n0, (l.map encP).getD i default = .int k0 n0 := by
        refine ⟨default, default, ?_⟩
        rw [List.getD_eq_getElem?_getD, List.getElem?_eq_none (by simp; omega)]
        rfl
      repeat refine sq ?_
      refine rx hΓ [6,7] [] (fun K' hK => by simp only [go_sem, hdef, Int.toNat_natCast, Int.natCast_nonneg, hin']; (repeat (refine ⟨ob, ?_⟩)); exact hK _ (by simp only [go_sem]) (by simp only [go_sem] <;> rfl)) ?_
      refine cl_ret ?_
      simp only [go_sem]
      rw [lowN_at hjl hlo hhi, hasN_none fun k hk => hlo k hk (by omega)]
      simp
theorem k168 : SSound Tryz.prog 168 S168 := s168.sound

noncomputable def P138 : PSpec := p3 (iSl iS) iI (iF 139) (fun l _ _ => srt Sig.so l) (fun l x _ => .tup [vInt (lowN Sig.so l x), .bool (hasN Sig.so l x)]) true
noncomputable def S138 : Spec := P138.toSpec
attribute [go_sem] P138 S138

set_option maxRecDepth 10000 in
set_option maxHeartbeats 4000000 in
theorem s138 : PSound Tryz.prog 138 P138 := by
  refine w3 (rs := [.tmp 6, .tmp 7]) Tryz.func138 Tryz.ntmps138 (by rfl) (by kernel_rfl) (by decide) (fun _ _ _ _ => rfl) ⟨_, rfl, lb rfl, fun l x _ hp hw => ?_⟩
  have hP := mixedK
  simp only [iF, iI, iS, iSl, iC, encS] at hw ⊢
  have hΓ := K6b_sound
  have hs := hp
  have hl : l.length ≤ maxLen := by have := hw.1.1; simpa using this
  repeat refine sq ?_
  refine rs hΓ [0,1,2] [] ?_
  repeat refine sq ?_
  refine rs hΓ [0,1,2,8] [] ?_
  repeat refine sq ?_
  refine rs hΓ [0,1,2,8,9,10] [] ?_
  repeat refine sq ?_
  refine cl_block ?_
  repeat refine sq ?_
  refine cl_loop' (fun ij : Nat × Nat => [(9, ⟨true, .v (vInt ij.1)⟩), (10, ⟨true, .v (vInt ij.2)⟩)]) (fun i => []) (fun ij => ij.1 ≤ ij.2 ∧ ij.2 ≤ l.length ∧ (∀ k (h : k < l.length), k < ij.1 → Sig.so l[k] < x) ∧ (∀ k (h : k < l.length), ij.2 ≤ k → x ≤ Sig.so l[k])) (fun ij => ij.2 - ij.1) (0, l.length) ?_ ?_ ?_ ?_
  · exact ⟨Nat.zero_le _, Nat.le_refl _, fun k h hk => by omega, fun k h hk => by omega⟩
  · rfl
  · rfl
  rintro ⟨i, j⟩ ⟨hij, hjl, hlo, hhi⟩
  simp only [go_sem]
  repeat refine sq ?_
  refine rs hΓ [0,1,2,8,9,10,17] [] ?_
  repeat refine sq ?_
  refine cl_cond rfl rfl (fun hb => ?_) fun hb => ?_
  · have hlt : i < j := by simpa using hb
    repeat refine sq ?_
    refine cl_skip ?_
    repeat refine sq ?_
    refine cl_block ?_
    repeat refine sq ?_
    refine rx hΓ [0,1,2,8,9,10,11] [] (fun K' hK => by simp only [go_sem, mid_i64 (show i ≤ maxLen by omega) (show j ≤ maxLen by omega)]; (repeat (refine ⟨ob, ?_⟩)); exact hK _ (by simp only [go_sem]) (by simp only [go_sem] <;> rfl)) ?_
    obtain ⟨h, hh⟩ : ∃ h, h = (i + j) / 2 := ⟨_, rfl⟩
    rw [← hh]
    have h1 : i ≤ h := by omega
    have h2 : h < j := by omega
    have h3 : h < l.length := by omega
    have h3' : (h : Int) < l.length := by omega
    repeat refine sq ?_
    refine rx hΓ [0,1,2,8,9,10,11,31] [] (fun K' hK => by simp only [go_sem, map_getD h3, Int.toNat_natCast, Int.natCast_nonneg, h3']; (repeat (refine ⟨ob, ?_⟩)); exact hK _ (by simp only [go_sem]) (by simp only [go_sem] <;> rfl)) ?_
    repeat refine sq ?_
    refine cl_cond rfl rfl (fun hb => ?_) fun hb => ?_
    · have hx : Sig.so l[h] < x := by simpa [cmpI_lt] using hb
      repeat refine sq ?_
      refine cl_r hΓ fun K' hK => ?_
      simp only [go_sem]
      repeat refine ⟨ob, ?_⟩
      refine hK _ ?_
      clear K' hK
      simp only [go_sem]
      refine ⟨(h + 1, j), ⟨by omega, hjl, fun k hk hkh => ?_, hhi⟩, by omega, ?_⟩
      · rcases Nat.lt_succ_iff_lt_or_eq.1 hkh with h5 | h5
        · have := hs k h hk h3 h5; omega
        · subst h5; exact hx
      · refine weak_eq [0,1,2,8,9,10] [] ?_ ?_
        · simp only [go_sem, wrap_succ h3 hl, Int.natCast_add, Int.natCast_one]
        · simp only [go_sem, wrap_succ h3 hl, Int.natCast_add, Int.natCast_one]
    · have hx : x ≤ Sig.so l[h] := by
        have : ¬ Sig.so l[h] < x := by simpa [cmpI_lt] using hb
        omega
      repeat refine sq ?_
      refine cl_r hΓ fun K' hK => ?_
      simp only [go_sem]
      repeat refine ⟨ob, ?_⟩
      refine hK _ ?_
      clear K' hK
      simp only [go_sem]
      refine ⟨(i, h), ⟨by omega, by omega, hlo, fun k hk hkh => ?_⟩, by omega, ?_⟩
      · rcases Nat.lt_or_eq_of_le hkh with h5 | h5
        · have := hs h k h3 hk h5; omega
        · subst h5; exact hx
      · refine weak_eq [0,1,2,8,9,10] [] ?_ ?_
        · simp only [go_sem]
        · simp only [go_sem]
  · have he : i = j := by
      have : ¬ (i : Int) < j := by simpa using hb
      omega
    subst he
    repeat refine sq ?_
    refine cl_exit ?_
    simp only [go_sem]
    refine kp [0,1,2,8,9] [] ?_
    by_cases hin : i < l.length
    · have hin' : (i : Int) < l.length := by omega
      repeat refine sq ?_
      refine rx hΓ [6,7] [] (fun K' hK => by simp only [go_sem, map_getD hin, Int.toNat_natCast, Int.natCast_nonneg, hin']; (repeat (refine ⟨ob, ?_⟩)); exact hK _ (by simp only [go_sem]) (by simp only [go_sem] <;> rfl)) ?_
      refine cl_ret ?_
      simp only [go_sem]
      rw [lowN_at hjl hlo hhi, hasN_at hs hin hlo hhi]
      simp [cmpI_eq]
    · have hil : i = l.length := by omega
      have hin' : ¬ (i : Int) < l.length := by omega
      obtain ⟨k0, n0, hdef⟩ : ∃ k0 n0, (l.map encS).getD i default = .int k0 n0 := by
        refine ⟨default, default, ?_⟩
        rw [List.getD_eq_getElem?_getD, List.getElem?_eq_none (by simp; omega)]
        rfl
      repeat refine sq ?_
      refine rx hΓ [6,7] [] (fun K' hK => by simp only [go_sem, hdef, Int.toNat_natCast, Int.natCast_nonneg, hin']; (repeat (refine ⟨ob, ?_⟩)); exact hK _ (by simp only [go_sem]) (by simp only [go_sem] <;> rfl)) ?_
      refine cl_ret ?_
      simp only [go_sem]
      rw [lowN_at hjl hlo hhi, hasN_none fun k hk => hlo k hk (by omega)]
      simp
theorem k138 : SSound Tryz.prog 138 S138 := s138.sound

/-- How many leaves has a paper? None: 0. -/
def lvOf (l : List Pap) (id : Int) : Int := match l.find? fun p => p.id == id with
  | some p => p.lv
  | none => 0
theorem lvOf_at {l : List Pap} {x : Int} {i : Nat} (hi : i < l.length) (h : l[i].id = x) (h1 : ∀ k (h : k < l.length), k < i → l[k].id ≠ x) : lvOf l x = l[i].lv := by
  unfold lvOf
  have : (l.find? fun p => p.id == x) = some l[i] := by
    rw [List.find?_eq_some_iff_getElem]
    exact ⟨by simpa using h, i, hi, rfl, fun j hj => by simpa using h1 j (by omega) hj⟩
  rw [this]
theorem lvOf_none {l : List Pap} {x : Int} (h1 : ∀ k (h : k < l.length), l[k].id ≠ x) : lvOf l x = 0 := by
  unfold lvOf
  have : (l.find? fun p => p.id == x) = none := by
    rw [List.find?_eq_none]
    intro p hp
    obtain ⟨k, hk, rfl⟩ := List.getElem_of_mem hp
    simpa using h1 k hk
  rw [this]
theorem low_found {l : List Pap} {x : Int} (hs : srt Pap.id l) (h : hasN Pap.id l x = true) : ∃ (h : lowN Pap.id l x < l.length), l[lowN Pap.id l x].lv = lvOf l x := by
  obtain ⟨k, hk, e⟩ := hasN_iff.1 h
  have e2 : lowN Pap.id l x = k := lowN_at (Nat.le_of_lt hk) (fun j hj hjk => by have := hs j k hj hk hjk; omega) (fun j hj hjk => by
    rcases Nat.lt_or_eq_of_le hjk with h | rfl
    · have := hs k j hk hj h; omega
    · omega)
  refine ⟨e2 ▸ hk, ?_⟩
  rw [lvOf_at hk e fun j hj hjk => by have := hs j k hj hk hjk; omega]
  congr
theorem low_none {l : List Pap} {x : Int} (h : hasN Pap.id l x = false) : lvOf l x = 0 := lvOf_none fun k hk e => by
  rw [hasN_iff.2 ⟨k, hk, e⟩] at h; cases h
noncomputable def K6 : List (Nat × Spec) := [(168, S168), (138, S138)]
theorem K6_sound : ∀ f s, tbl K6 f = some s → SSound Tryz.prog f s := tc k168 <| tc k138 <| tn
attribute [go_sem] K6

noncomputable def P79 : PSpec := p2 iLp iI (fun l _ => srt Pap.id l.ps) (fun l x => vInt (lvOf l.ps x)) true
noncomputable def S79 : Spec := P79.toSpec
attribute [go_sem] P79 S79

set_option maxHeartbeats 4000000 in
theorem s79 : PSound Tryz.prog 79 P79 := by
  refine w2 (rs := [.tmp 4]) Tryz.func79 Tryz.ntmps79 (by rfl) (by kernel_rfl) (by decide) (fun _ _ _ => rfl) ⟨_, rfl, lb rfl, fun l x hp hw => ?_⟩
  have hP := mixedK
  simp only [iI, iLp, encLp] at hw ⊢
  have hΓ := K6_sound
  repeat refine sq ?_
  refine rs hΓ [0,1] [] ?_
  repeat refine sq ?_
  refine rx hΓ [0,5,6] [] (fun K' hK => by simp only [go_sem, hp]; (repeat (refine ⟨ob, ?_⟩)); exact hK _ (by simp only [go_sem]) (by simp only [go_sem] <;> rfl)) ?_
  repeat refine sq ?_
  refine rs hΓ [0,5,17] [] ?_
  repeat refine sq ?_
  refine cl_cond rfl rfl (fun hb => ?_) fun hb => ?_
  · skip
    repeat refine sq ?_
    have hf : hasN Pap.id l.ps x = false := by simpa using hb
    repeat refine sq ?_
    refine rs hΓ [4] [] ?_
    refine cl_ret ?_
    simp only [go_sem]
    rw [low_none hf]
  · skip
    repeat refine sq ?_
    have hf : hasN Pap.id l.ps x = true := by simpa using hb
    obtain ⟨hlow, hlv⟩ := low_found hp hf
    have hlow' : (lowN Pap.id l.ps x : Int) < l.ps.length := by omega
    refine cl_skip ?_
    repeat refine sq ?_
    refine rx hΓ [4] [] (fun K' hK => by simp only [go_sem, map_getD hlow, Int.toNat_natCast, Int.natCast_nonneg, hlow']; (repeat (refine ⟨ob, ?_⟩)); exact hK _ (by simp only [go_sem]) (by simp only [go_sem] <;> rfl)) ?_
    refine cl_ret ?_
    simp only [go_sem]
    rw [hlv]
theorem k79 : SSound Tryz.prog 79 S79 := s79.sound
noncomputable def P84 : PSpec := p2 iL iI (fun _ _ => True) (fun l x => vInt (lvOf l.ps x)) true
noncomputable def S84 : Spec := P84.toSpec
attribute [go_sem] P84 S84

theorem s84 : PSound Tryz.prog 84 P84 := by
  refine w2 (rs := [.tmp 4]) Tryz.func84 Tryz.ntmps84 (by rfl) (by kernel_rfl) (by decide) (fun _ _ _ => rfl) ⟨_, rfl, lb rfl, fun l x hp hw => ?_⟩
  have hP := mixedK
  simp only [iI, iL, encL] at hw ⊢
  have hΓ := @no_sound Tryz.prog
  have hl : l.ps.length ≤ maxLen := by have := hw.1; simp [V.wfL, V.wf] at this; omega
  repeat refine sq ?_
  refine rs hΓ [1,2] [[2, 0]] ?_
  repeat refine sq ?_
  refine rs hΓ [1,2,5] [[2, 0]] ?_
  repeat refine sq ?_
  refine cl_block ?_
  repeat refine sq ?_
  refine cl_loop' (fun s : Nat => [(5, ⟨true, .v (vInt s)⟩)]) (fun s => []) (fun s => s ≤ l.ps.length ∧ ∀ k (h : k < l.ps.length), k < s → l.ps[k].id ≠ x) (fun s => l.ps.length - s) 0 ?_ ?_ ?_ ?_
  · exact ⟨Nat.zero_le _, by simp⟩
  · rfl
  · rfl
  rintro i ⟨hi, hR⟩
  simp only [go_sem]
  repeat refine sq ?_
  refine rs hΓ [1,2,5,10] [[2, 0]] ?_
  repeat refine sq ?_
  refine cl_cond rfl rfl (fun hb => ?_) fun hb => ?_
  · skip
    have hlt : i < l.ps.length := by simpa using hb
    have hlt' : (i : Int) < l.ps.length := by omega
    clear hb
    repeat refine sq ?_
    refine cl_skip ?_
    repeat refine sq ?_
    refine cl_block ?_
    repeat refine sq ?_
    refine rx hΓ [1,2,5,20] [[2, 0]] (fun K' hK => by simp only [go_sem, map_getD hlt, Int.toNat_natCast, Int.natCast_nonneg, hlt']; (repeat (refine ⟨ob, ?_⟩)); exact hK _ (by simp only [go_sem]) (by simp only [go_sem] <;> rfl)) ?_
    repeat refine sq ?_
    refine cl_cond rfl rfl (fun hb => ?_) fun hb => ?_
    · skip
      repeat refine sq ?_
      refine rx hΓ [4] [] (fun K' hK => by simp only [go_sem, map_getD hlt, Int.toNat_natCast, Int.natCast_nonneg, hlt']; (repeat (refine ⟨ob, ?_⟩)); exact hK _ (by simp only [go_sem]) (by simp only [go_sem] <;> rfl)) ?_
      refine cl_ret ?_
      simp only [go_sem]
      rw [lvOf_at hlt (by simpa using hb) hR]
    · skip
      repeat refine sq ?_
      refine cl_skip ?_
      refine cl_nil ?_
      simp only [go_sem]
      refine kp [1,2,5] [[2, 0]] ?_
      repeat refine sq ?_
      refine cl_r hΓ fun K' hK => ?_
      simp only [go_sem, map_getD hlt, Int.toNat_natCast, Int.natCast_nonneg, hlt']
      repeat refine ⟨ob, ?_⟩
      refine hK _ ?_
      clear K' hK
      simp only [go_sem]
      refine ⟨i + 1, ⟨hlt, ?_⟩, by (show l.ps.length - (i + 1) < l.ps.length - i; omega), ?_⟩
      · skip
        intro k hk hki
        rcases Nat.lt_succ_iff_lt_or_eq.1 hki with h5 | rfl
        · exact hR k hk h5
        · simpa using hb
      refine weak_eq [1,2,5] [[2, 0]] ?_ ?_
      · simp only [go_sem, wrap_succ hlt hl, Int.natCast_add, Int.natCast_one]
      · simp only [go_sem, wrap_succ hlt hl, Int.natCast_add, Int.natCast_one]
  · skip
    have hge : i = l.ps.length := by
      have : ¬ (i : Int) < l.ps.length := by simpa using hb
      omega
    clear hb
    subst hge
    repeat refine sq ?_
    refine cl_exit ?_
    simp only [go_sem]
    refine kp [] [] ?_
    repeat refine sq ?_
    refine rs hΓ [4] [] ?_
    refine cl_ret ?_
    simp only [go_sem]
    rw [lvOf_none fun k hk => hR k hk hk]
theorem k84 : SSound Tryz.prog 84 S84 := s84.sound
end Go.Eng
set_option linter.unusedVariables false
namespace Go.Eng
open Go Go.Proofs Go.RowKit Go.Lib Go.Shelf

set_option maxHeartbeats 4000000 in
set_option maxRecDepth 100000 in
theorem ins141_shift (b off n c i vb voff m vc : Nat) (cs vs : List Value) (w : World) (hi : i < n) (hm : 0 < m) (hroom : n + m ≤ c) (hc63 : c ≤ 9223372036854775807) (hvb : vb ≠ b)
    (hcl : cs.length = n * 7) (hvl : vs.length = m * 7)
    (hcs : ∀ j v, cs[j]? = some v → w.cell? ⟨b, off + j, none⟩ = some v) (hsp : ∀ j, j < (n + m) * 7 → (w.cell? ⟨b, off + j, none⟩).isSome = true) (hfz : ∀ j, w.frozen? ⟨b, j, none⟩ = false)
    (hvs : ∀ j v, vs[j]? = some v → w.cell? ⟨vb, voff + j, none⟩ = some v) (h1c : ∀ v ∈ cs, v.oneCell' = true) (h1v : ∀ v ∈ vs, v.oneCell' = true)
    (tA tB : TypeId) (kA kB : Nat) (hsa : w.shape? vb = some (tA, kA)) (hsb : w.shape? b = some (tB, kB)) (hkA : kA ≠ 0) :
    Calls Tryz.prog 141 #[.slice (some ⟨b, off, none⟩) n c, .int .i64 i, .slice (some ⟨vb, voff, none⟩) m vc] w fun e w' =>
      e = .returned (.slice (some ⟨b, off, none⟩) (n + m) c) ∧ w' = (w.drew.setCells b (off + (i + m) * 7) (cs.drop (i * 7))).setCells b (off + i * 7) vs := by
  have mixed : Tryz.prog.follows Departure.mixedOrders = true := by kernel_rfl
  have hz1 : ¬ ((m : Int) = 0) := by omega
  have hz2 : ¬ ((i : Int) = (n : Int)) := by omega
  have hov : ∀ lb cb, (callFunc 190 #[.slice (some ⟨vb, voff, none⟩) m vc, .slice (some ⟨b, off + (i + m) * 7, none⟩) lb cb]).run Tryz.prog w = .ok (.value (.bool false)) w := fun lb cb => by
    rw [run_callFunc_extern Tryz.func190 (by kernel_rfl) (by kernel_rfl) (by kernel_rfl) (e := Extern.SlicesOverlaps.overlaps #[29, 29] #[4]) (by kernel_rfl),
      run_overlaps_apart' w 29 4 81 Tryz.underlying29 7 Tryz.sizeOf81 ⟨vb, voff, none⟩ ⟨b, off + (i + m) * 7, none⟩ m vc lb cb hvb tA tB kA kB hsa hsb hkA (hfz _) (hfz _)]
    rfl
  have hdl : (cs.drop (i * 7)).length = (n - i) * 7 := by rw [List.length_drop, hcl]; try omega
  have hw1 : IntKind.i64.wrap ((i : Int) + (m : Int)) = (i : Int) + (m : Int) := by rw [IntKind.wrap_i64]; omega
  have hb1 : (0 : Int) ≤ (i : Int) + (m : Int) := by omega
  have hin : i ≤ n := by omega
  have htn : ((i : Int) + (m : Int)).toNat = i + m := by omega
  have hb2 : ¬ (c = i + m) := by omega
  have hb3 : (i : Int) ≤ (n : Int) + (m : Int) := by omega
  have hb4 : ¬ (c = i) := by omega
  have hmin1 : Nat.min (n + m - i) (n + m - (i + m)) = n - i := by simp only [Nat.min_def]; split <;> omega
  have hcp1 : ∀ ty dc sc, (Builtin.copy_ #[29, 29] ty #[.slice (some ⟨b, off + (i + m) * 7, none⟩) (n + m - (i + m)) dc, .slice (some ⟨b, off + i * 7, none⟩) (n + m - i) sc]).run Tryz.prog w.drew = .ok (goInt (n - i : Nat)) (w.drew.setCells b (off + (i + m) * 7) (cs.drop (i * 7))) := fun ty dc sc => by
    have h := run_copy_cellsK (P := Tryz.prog) 7 w.drew 29 29 ty 81 b (off + (i + m) * 7) (n + m - (i + m)) dc ⟨b, off + i * 7, none⟩ (n + m - i) sc (cs.drop (i * 7)) Tryz.underlying29 Tryz.sizeOf81 (by rw [hdl, hmin1])
      (fun j v hj => by rw [Addr.add_lit, Nat.add_assoc]; exact hcs (i * 7 + j) v (by rwa [List.getElem?_drop] at hj))
      (fun j hj => by rw [Nat.add_assoc]; exact hsp _ (by omega)) (fun j hj => by exact hfz _) (fun v hv => h1c v (List.mem_of_mem_drop hv))
    rw [hmin1] at h
    exact h
  obtain ⟨W1, hW1⟩ : ∃ W1, W1 = w.drew.setCells b (off + (i + m) * 7) (cs.drop (i * 7)) := ⟨_, rfl⟩
  have hsp1 : ∀ k, k < (n + m) * 7 → (W1.cell? ⟨b, off + k, none⟩).isSome = true := fun k hk => by
    rw [hW1]
    exact isSome_setCells b _ _ _ (fun j hj => by rw [Nat.add_assoc]; exact hsp _ (by omega)) _ (hsp k hk)
  have hmin2 : Nat.min m (n + m - i) = m := by simp only [Nat.min_def]; split <;> omega
  have hcp2 : ∀ (W : World), (∀ x, W.cell? x = W1.cell? x) → (∀ x, W.frozen? x = W1.frozen? x) → ∀ ty dc, (Builtin.copy_ #[29, 29] ty #[.slice (some ⟨b, off + i * 7, none⟩) (n + m - i) dc, .slice (some ⟨vb, voff, none⟩) m vc]).run Tryz.prog W = .ok (goInt m) (W.setCells b (off + i * 7) vs) := fun W hWc hWf ty dc => by
    have h := run_copy_cellsK (P := Tryz.prog) 7 W 29 29 ty 81 b (off + i * 7) (n + m - i) dc ⟨vb, voff, none⟩ m vc vs Tryz.underlying29 Tryz.sizeOf81 (by rw [hmin2, hvl])
      (fun j v hj => by
        rw [Addr.add_lit, hWc, hW1, World.cell?_setCells_out b _ _ _ _ (fun h _ => absurd h hvb)]
        exact hvs j v hj)
      (fun j hj => by rw [hWc, Nat.add_assoc]; exact hsp1 _ (by omega)) (fun j hj => by rw [hWf, hW1, World.frozen?_setCells]; exact hfz _) h1v
    rw [hmin2] at h
    exact h
  rw [← hW1] at hcp1
  go_enter Tryz.func141, Tryz.ntmps141
  go_wp2_with (simp only [hov])
  go_region_law_o (refine step_copy_runI rfl _ _ 29 29 rfl _ _ (by simp [Act.eval, Act.put]) (by simp [Act.eval, Act.put]) (hcp1 _ _ _) ?_)
  go_wp2_with (at_builtin; refine wpList_copy_runI _ rfl _ _ 29 29 rfl _ _ rfl rfl (hcp2 _ (fun _ => rfl) (fun _ => rfl) _ _) ?_)
  go_ret
  first | exact ⟨rfl, rfl⟩ | exact ⟨rfl, by rw [hW1]⟩

set_option maxHeartbeats 4000000 in
set_option maxRecDepth 100000 in
theorem ins141_grow (b off n c i vb voff m vc : Nat) (cs vs : List Value) (w : World) (hi : i < n) (hm : 0 < m) (hnc : n ≤ c) (hroom : c < n + m) (hbig : (n + m) * 56 ≤ 140737488355328)
    (hcl : cs.length = n * 7) (hvl : vs.length = m * 7)
    (hcs : ∀ j v, cs[j]? = some v → w.cell? ⟨b, off + j, none⟩ = some v)
    (hvs : ∀ j v, vs[j]? = some v → w.cell? ⟨vb, voff + j, none⟩ = some v) (h1c : ∀ v ∈ cs, v.oneCell' = true) (h1v : ∀ v ∈ vs, v.oneCell' = true) :
    Calls Tryz.prog 141 #[.slice (some ⟨b, off, none⟩) n c, .int .i64 i, .slice (some ⟨vb, voff, none⟩) m vc] w fun e w' =>
      e = .returned (.slice (some ⟨w.heap.size, 0, none⟩) (n + m) (grownCap w (n + m) c 81)) ∧
      w' = (((w.alloc (.cells ((cs.take (i * 7)).toArray ++ Builtin.zeroCells (.agg #[.int .i64 0, .int .i64 0, .int .i64 0, .int .i64 0, .int .i64 0, .int .i64 0, .int .i64 0] : Value).cells (n + m - i) ++ Builtin.zeroCells (.agg #[.int .i64 0, .int .i64 0, .int .i64 0, .int .i64 0, .int .i64 0, .int .i64 0, .int .i64 0] : Value).cells (grownCap w (n + m) c 81 - (n + m))) 81)).drew.setCells w.heap.size (i * 7) vs).drew).setCells w.heap.size ((i + m) * 7) (cs.drop (i * 7)) := by
  have mixed : Tryz.prog.follows Departure.mixedOrders = true := by kernel_rfl
  have hTE : tElem Tryz.prog 29 = some (81, 7, 56) := by kernel_rfl
  have hTZ : tZero Tryz.prog 81 = some (.agg #[.int .i64 0, .int .i64 0, .int .i64 0, .int .i64 0, .int .i64 0, .int .i64 0, .int .i64 0]) := by kernel_rfl
  obtain ⟨i0, hi0, hz0, hzs, hzb⟩ : ∃ i0, Tryz.prog.info? 81 = some i0 ∧ i0.zero = some (.agg #[.int .i64 0, .int .i64 0, .int .i64 0, .int .i64 0, .int .i64 0, .int .i64 0, .int .i64 0]) ∧ i0.size = 7 ∧ i0.bytes = 56 := by
    obtain ⟨hu, i0, h1, h2, h3⟩ := tElem_spec hTE
    refine ⟨i0, h1, ?_, h2, h3⟩
    unfold tZero at hTZ
    rw [h1] at hTZ
    exact hTZ
  have hz1 : ¬ ((m : Int) = 0) := by omega
  have hz2 : ¬ ((i : Int) = (n : Int)) := by omega
  have hz3 : (c : Int) < (n : Int) + (m : Int) := by omega
  have hbw : b < w.heap.size := block_lt_of_cell (hcs 0 _ (List.getElem?_eq_getElem (by omega)))
  have hvw : vb < w.heap.size := block_lt_of_cell (hvs 0 _ (List.getElem?_eq_getElem (by omega)))
  have hkk : (n : Int) + (m : Int) - (i : Int) = ((n + m - i : Nat) : Int) := by omega
  have hik : i + (n + m - i) = n + m := by omega
  have hold : (Builtin.firstCells i0.size i (.slice (some ⟨b, off, none⟩) i c)).run Tryz.prog w.drew = .ok (cs.take (i * 7)).toArray w.drew := by
    rw [hzs]
    exact run_firstCells_some w.drew 7 i ⟨b, off, none⟩ i c (cs.take (i * 7)) (by rw [List.length_take]; omega) (fun j v hj => by
      rw [Addr.add_lit]
      rw [List.getElem?_take] at hj
      split at hj
      · exact hcs j v hj
      · cases hj)
  have hrz : ∀ ty, (Builtin.append_ #[29, 3] ty #[.slice (some ⟨b, off, none⟩) i c, .int .i64 ((n : Int) + (m : Int) - (i : Int))]).run Tryz.prog w =
      .ok (.slice (some ⟨w.heap.size, 0, none⟩) (n + m) (grownCap w (n + m) c 81)) (w.drew.alloc (.cells ((cs.take (i * 7)).toArray ++ Builtin.zeroCells (.agg #[.int .i64 0, .int .i64 0, .int .i64 0, .int .i64 0, .int .i64 0, .int .i64 0, .int .i64 0] : Value).cells (n + m - i) ++ Builtin.zeroCells (.agg #[.int .i64 0, .int .i64 0, .int .i64 0, .int .i64 0, .int .i64 0, .int .i64 0, .int .i64 0] : Value).cells (grownCap w (n + m) c 81 - (n + m))) 81)) := fun ty => by
    have h := Lib.run_append_grow_zeros w 29 3 ty 81 i0 _ .i64 .i64 Tryz.underlying29 Tryz.underlying3 hi0 hz0 (some ⟨b, off, none⟩) i c (cs.take (i * 7)) hold (n + m - i) (by omega) (by omega) (by omega) (by omega) (by rw [hzb]; omega) (by rw [hzb, hik]; exact growslice_fits hroom hbig)
    rw [hik] at h
    rw [hkk]
    exact h
  obtain ⟨G, hG⟩ : ∃ G, G = grownCap w (n + m) c 81 := ⟨_, rfl⟩
  obtain ⟨ROW, hROW⟩ : ∃ ROW : Array Value, ROW = (cs.take (i * 7)).toArray ++ Builtin.zeroCells (.agg #[.int .i64 0, .int .i64 0, .int .i64 0, .int .i64 0, .int .i64 0, .int .i64 0, .int .i64 0] : Value).cells (n + m - i) ++ Builtin.zeroCells (.agg #[.int .i64 0, .int .i64 0, .int .i64 0, .int .i64 0, .int .i64 0, .int .i64 0, .int .i64 0] : Value).cells (G - (n + m)) := ⟨_, rfl⟩
  rw [← hG] at hrz ⊢
  rw [← hROW] at hrz ⊢
  have hRl : (n + m) * 7 ≤ ROW.size := by
    rw [hROW]
    simp [Builtin.zeroCells, Value.cells]
    omega
  obtain ⟨W1, hW1⟩ : ∃ W1, W1 = w.drew.alloc (.cells ROW 81) := ⟨_, rfl⟩
  rw [← hW1] at hrz
  have hN : ∀ j, j < (n + m) * 7 → (W1.cell? ⟨w.heap.size, j, none⟩).isSome = true := fun j hj => by
    rw [hW1, World.cell?_alloc_at (w := w.drew) ROW _ w.heap.size j rfl, Array.getElem?_eq_getElem (by omega)]; rfl
  have hNf : ∀ j, W1.frozen? ⟨w.heap.size, j, none⟩ = false := fun j => by rw [hW1]; exact World.frozen?_alloc_at (w := w.drew) ROW _ w.heap.size j rfl
  have hOb : ∀ j v, w.cell? ⟨b, j, none⟩ = some v → W1.cell? ⟨b, j, none⟩ = some v := fun j v h => by rw [hW1, World.cell?_alloc_past (w := w.drew) _ b j hbw]; exact h
  have hOv : ∀ j v, w.cell? ⟨vb, j, none⟩ = some v → W1.cell? ⟨vb, j, none⟩ = some v := fun j v h => by rw [hW1, World.cell?_alloc_past (w := w.drew) _ vb j hvw]; exact h
  have hmin2 : Nat.min m (n + m - i) = m := by simp only [Nat.min_def]; split <;> omega
  have hmin1 : Nat.min (n - i) (n + m - (i + m)) = n - i := by simp only [Nat.min_def]; split <;> omega
  have hcpA : ∀ (W : World), (∀ x, W.cell? x = W1.cell? x) → (∀ x, W.frozen? x = W1.frozen? x) → ∀ ty dc, (Builtin.copy_ #[29, 29] ty #[.slice (some ⟨w.heap.size, i * 7, none⟩) (n + m - i) dc, .slice (some ⟨vb, voff, none⟩) m vc]).run Tryz.prog W = .ok (goInt m) (W.setCells w.heap.size (i * 7) vs) := fun W hWc hWf ty dc => by
    have h := run_copy_cellsK (P := Tryz.prog) 7 W 29 29 ty 81 w.heap.size (i * 7) (n + m - i) dc ⟨vb, voff, none⟩ m vc vs Tryz.underlying29 Tryz.sizeOf81 (by rw [hmin2, hvl])
      (fun j v hj => by rw [Addr.add_lit, hWc]; exact hOv _ v (hvs j v hj))
      (fun j hj => by rw [hWc]; exact hN _ (by omega)) (fun j hj => by rw [hWf]; exact hNf _) h1v
    rw [hmin2] at h
    exact h
  have hGn : n + m ≤ G := by rw [hG]; exact grownCap_ge w _ _ _
  have hG63 : G ≤ 9223372036854775807 := by
    have := grownCap_le_maxLen w (n + m) c 81 (by unfold maxLen; omega)
    rw [← hG] at this
    unfold maxLen at this
    omega
  have hGi : ¬ (G = i) := by omega
  have hGim : ¬ (G = i + m) := by omega
  have hci : ¬ (c = i) := by omega
  have hbN : b ≠ w.heap.size := by omega
  have hdl : (cs.drop (i * 7)).length = (n - i) * 7 := by rw [List.length_drop, hcl]; try omega
  have hcpB : ∀ (W : World), (∀ x, W.cell? x = (W1.setCells w.heap.size (i * 7) vs).cell? x) → (∀ x, W.frozen? x = (W1.setCells w.heap.size (i * 7) vs).frozen? x) → ∀ ty dc sc, (Builtin.copy_ #[29, 29] ty #[.slice (some ⟨w.heap.size, (i + m) * 7, none⟩) (n + m - (i + m)) dc, .slice (some ⟨b, off + i * 7, none⟩) (n - i) sc]).run Tryz.prog W = .ok (goInt (n - i : Nat)) (W.setCells w.heap.size ((i + m) * 7) (cs.drop (i * 7))) := fun W hWc hWf ty dc sc => by
    have h := run_copy_cellsK (P := Tryz.prog) 7 W 29 29 ty 81 w.heap.size ((i + m) * 7) (n + m - (i + m)) dc ⟨b, off + i * 7, none⟩ (n - i) sc (cs.drop (i * 7)) Tryz.underlying29 Tryz.sizeOf81 (by rw [hdl, hmin1])
      (fun j v hj => by
        rw [Addr.add_lit, hWc, World.cell?_setCells_out _ _ _ _ _ (fun h _ => absurd h hbN), Nat.add_assoc]
        exact hOb _ v (hcs (i * 7 + j) v (by rwa [List.getElem?_drop] at hj)))
      (fun j hj => by rw [hWc]; exact isSome_setCells _ _ _ _ (fun t ht => hN _ (by omega)) _ (hN _ (by omega)))
      (fun j hj => by rw [hWf, World.frozen?_setCells]; exact hNf _) (fun v hv => h1c v (List.mem_of_mem_drop hv))
    rw [hmin1] at h
    exact h
  subst hW1
  have hE1 : ∀ x, ((w.alloc (.cells ROW 81)).drew).cell? x = (w.drew.alloc (.cells ROW 81)).cell? x := fun x => rfl
  have hE2 : ∀ x, ((w.alloc (.cells ROW 81)).drew).frozen? x = (w.drew.alloc (.cells ROW 81)).frozen? x := fun x => rfl
  have hF1 : ∀ x, (((w.alloc (.cells ROW 81)).drew.setCells w.heap.size (i * 7) vs).drew).cell? x = ((w.drew.alloc (.cells ROW 81)).setCells w.heap.size (i * 7) vs).cell? x := fun x => rfl
  have hF2 : ∀ x, (((w.alloc (.cells ROW 81)).drew.setCells w.heap.size (i * 7) vs).drew).frozen? x = ((w.drew.alloc (.cells ROW 81)).setCells w.heap.size (i * 7) vs).frozen? x := fun x => rfl
  have hw1 : IntKind.i64.wrap ((i : Int) + (m : Int)) = (i : Int) + (m : Int) := by rw [IntKind.wrap_i64]; omega
  have hb1 : (0 : Int) ≤ (i : Int) + (m : Int) := by omega
  have hin : i ≤ n := by omega
  have htn : ((i : Int) + (m : Int)).toNat = i + m := by omega
  have hb3 : (i : Int) ≤ (n : Int) := by omega
  clear hkk hik hold hROW hG hRl
  go_enter Tryz.func141, Tryz.ntmps141
  go_wp2_with (first
    | (at_builtin; refine Lib.wpList_append_run _ rfl _ _ _ _ rfl _ _ rfl rfl _ _ (hrz _) ?_)
    | (at_builtin; refine wpList_copy_runI _ rfl _ _ 29 29 rfl _ _ rfl rfl (hcpA _ hE1 hE2 _ _) ?_)
    | (at_builtin; refine wpList_copy_runI _ rfl _ _ 29 29 rfl _ _ rfl rfl (hcpB _ (fun _ => rfl) (fun _ => rfl) _ _ _) ?_))
  go_region_law_o (refine step_copy_runI rfl _ _ 29 29 rfl (.slice (some ⟨w.heap.size, (i + m) * 7, none⟩) (n + m - (i + m)) (G - (i + m))) (.slice (some ⟨b, off + i * 7, none⟩) (n - i) (c - i)) (by simp [Act.eval, Act.put]) (by simp [Act.eval, Act.put]) (hcpB _ hF1 hF2 3 (G - (i + m)) (c - i)) ?_)
  go_wp2
  go_ret
  exact ⟨rfl, rfl⟩

set_option maxHeartbeats 4000000 in
set_option maxRecDepth 100000 in
theorem ins141_last (base : Option Addr) (n c vb voff m vc : Nat) (w : World) (v' : Value) (w' : World) (hm : 0 < m) (hn : n ≤ c) (hc63 : c ≤ 9223372036854775807)
    (hrun : ∀ ty, (Builtin.append_ #[29, 29] ty #[.slice base n c, .slice (some ⟨vb, voff, none⟩) m vc]).run Tryz.prog w = .ok v' w') :
    Calls Tryz.prog 141 #[.slice base n c, .int .i64 n, .slice (some ⟨vb, voff, none⟩) m vc] w fun e w1 => e = .returned v' ∧ w1 = w' := by
  have mixed : Tryz.prog.follows Departure.mixedOrders = true := by kernel_rfl
  have hz1 : ¬ ((m : Int) = 0) := by omega
  go_enter Tryz.func141, Tryz.ntmps141
  cases base with
  | none =>
    go_wp2_with (at_builtin; refine Lib.wpList_append_run _ rfl _ _ _ _ rfl _ _ rfl rfl _ _ (hrun _) ?_)
    all_goals (go_ret; exact ⟨rfl, rfl⟩)
  | some a =>
    obtain ⟨ab, ao, asp⟩ := a
    go_wp2_with (at_builtin; refine Lib.wpList_append_run _ rfl _ _ _ _ rfl _ _ rfl rfl _ _ (hrun _) ?_)
    all_goals (go_ret; exact ⟨rfl, rfl⟩)

end Go.Eng
set_option linter.unusedVariables false
namespace Go.Eng
open Go Go.Proofs Go.RowKit Go.Lib Go.Shelf

set_option maxHeartbeats 2000000 in
set_option maxRecDepth 100000 in
theorem clone132_nil (n c : Nat) (w : World) : Calls Tryz.prog 132 #[.slice none n c] w fun e w' => e = .returned (.slice none 0 0) ∧ w' = w := by
  have mixed : Tryz.prog.follows Departure.mixedOrders = true := by kernel_rfl
  have qT : ∀ (w : World) (a : Option Addr) (n c n' c' : Nat), (binOp .eql 29 (.slice a n c) (.slice none n' c')).run Tryz.prog w = .ok (.bool a.isNone) w := fun w a n c n' c' => Lib.run_eql_slice_nil w _ _ a n c n' c' Tryz.underlying29
  go_enter Tryz.func132, Tryz.ntmps132
  go_wp2
  go_ret
  exact ⟨rfl, rfl⟩

set_option maxHeartbeats 2000000 in
set_option maxRecDepth 100000 in
theorem clone132_some (a : Addr) (n c : Nat) (w : World) (v' : Value) (w' : World)
    (hrun : ∀ ty, (Builtin.append_ #[29, 29] ty #[.slice (some ⟨w.heap.size, 0, none⟩) 0 0, .slice (some a) n c]).run Tryz.prog (w.alloc (.cells #[] 81)) = .ok v' w') :
    Calls Tryz.prog 132 #[.slice (some a) n c] w fun e w1 => e = .returned v' ∧ w1 = w' := by
  have mixed : Tryz.prog.follows Departure.mixedOrders = true := by kernel_rfl
  have qT : ∀ (w : World) (a : Option Addr) (n c n' c' : Nat), (binOp .eql 29 (.slice a n c) (.slice none n' c')).run Tryz.prog w = .ok (.bool a.isNone) w := fun w a n c n' c' => Lib.run_eql_slice_nil w _ _ a n c n' c' Tryz.underlying29
  go_enter Tryz.func132, Tryz.ntmps132
  go_wp2_with (at_builtin; refine Lib.wpList_append_run _ rfl _ _ _ _ rfl _ _ rfl rfl _ _ (hrun _) ?_)
  go_ret
  exact ⟨rfl, rfl⟩

set_option maxHeartbeats 2000000 in
set_option maxRecDepth 100000 in
theorem clone176_nil (n c : Nat) (w : World) : Calls Tryz.prog 176 #[.slice none n c] w fun e w' => e = .returned (.slice none 0 0) ∧ w' = w := by
  have mixed : Tryz.prog.follows Departure.mixedOrders = true := by kernel_rfl
  have qT : ∀ (w : World) (a : Option Addr) (n c n' c' : Nat), (binOp .eql 26 (.slice a n c) (.slice none n' c')).run Tryz.prog w = .ok (.bool a.isNone) w := fun w a n c n' c' => Lib.run_eql_slice_nil w _ _ a n c n' c' Tryz.underlying26
  go_enter Tryz.func176, Tryz.ntmps176
  go_wp2
  go_ret
  exact ⟨rfl, rfl⟩

set_option maxHeartbeats 2000000 in
set_option maxRecDepth 100000 in
theorem clone176_some (a : Addr) (n c : Nat) (w : World) (v' : Value) (w' : World)
    (hrun : ∀ ty, (Builtin.append_ #[26, 26] ty #[.slice (some ⟨w.heap.size, 0, none⟩) 0 0, .slice (some a) n c]).run Tryz.prog (w.alloc (.cells #[] 46)) = .ok v' w') :
    Calls Tryz.prog 176 #[.slice (some a) n c] w fun e w1 => e = .returned v' ∧ w1 = w' := by
  have mixed : Tryz.prog.follows Departure.mixedOrders = true := by kernel_rfl
  have qT : ∀ (w : World) (a : Option Addr) (n c n' c' : Nat), (binOp .eql 26 (.slice a n c) (.slice none n' c')).run Tryz.prog w = .ok (.bool a.isNone) w := fun w a n c n' c' => Lib.run_eql_slice_nil w _ _ a n c n' c' Tryz.underlying26
  go_enter Tryz.func176, Tryz.ntmps176
  go_wp2_with (at_builtin; refine Lib.wpList_append_run _ rfl _ _ _ _ rfl _ _ rfl rfl _ _ (hrun _) ?_)
  go_ret
  exact ⟨rfl, rfl⟩

set_option maxHeartbeats 2000000 in
set_option maxRecDepth 100000 in
theorem clone177_nil (n c : Nat) (w : World) : Calls Tryz.prog 177 #[.slice none n c] w fun e w' => e = .returned (.slice none 0 0) ∧ w' = w := by
  have mixed : Tryz.prog.follows Departure.mixedOrders = true := by kernel_rfl
  have qT : ∀ (w : World) (a : Option Addr) (n c n' c' : Nat), (binOp .eql 27 (.slice a n c) (.slice none n' c')).run Tryz.prog w = .ok (.bool a.isNone) w := fun w a n c n' c' => Lib.run_eql_slice_nil w _ _ a n c n' c' Tryz.underlying27
  go_enter Tryz.func177, Tryz.ntmps177
  go_wp2
  go_ret
  exact ⟨rfl, rfl⟩

set_option maxHeartbeats 2000000 in
set_option maxRecDepth 100000 in
theorem clone177_some (a : Addr) (n c : Nat) (w : World) (v' : Value) (w' : World)
    (hrun : ∀ ty, (Builtin.append_ #[27, 27] ty #[.slice (some ⟨w.heap.size, 0, none⟩) 0 0, .slice (some a) n c]).run Tryz.prog (w.alloc (.cells #[] 36)) = .ok v' w') :
    Calls Tryz.prog 177 #[.slice (some a) n c] w fun e w1 => e = .returned v' ∧ w1 = w' := by
  have mixed : Tryz.prog.follows Departure.mixedOrders = true := by kernel_rfl
  have qT : ∀ (w : World) (a : Option Addr) (n c n' c' : Nat), (binOp .eql 27 (.slice a n c) (.slice none n' c')).run Tryz.prog w = .ok (.bool a.isNone) w := fun w a n c n' c' => Lib.run_eql_slice_nil w _ _ a n c n' c' Tryz.underlying27
  go_enter Tryz.func177, Tryz.ntmps177
  go_wp2_with (at_builtin; refine Lib.wpList_append_run _ rfl _ _ _ _ rfl _ _ rfl rfl _ _ (hrun _) ?_)
  go_ret
  exact ⟨rfl, rfl⟩

set_option maxHeartbeats 2000000 in
set_option maxRecDepth 100000 in
theorem clone178_nil (n c : Nat) (w : World) : Calls Tryz.prog 178 #[.slice none n c] w fun e w' => e = .returned (.slice none 0 0) ∧ w' = w := by
  have mixed : Tryz.prog.follows Departure.mixedOrders = true := by kernel_rfl
  have qT : ∀ (w : World) (a : Option Addr) (n c n' c' : Nat), (binOp .eql 28 (.slice a n c) (.slice none n' c')).run Tryz.prog w = .ok (.bool a.isNone) w := fun w a n c n' c' => Lib.run_eql_slice_nil w _ _ a n c n' c' Tryz.underlying28
  go_enter Tryz.func178, Tryz.ntmps178
  go_wp2
  go_ret
  exact ⟨rfl, rfl⟩

set_option maxHeartbeats 2000000 in
set_option maxRecDepth 100000 in
theorem clone178_some (a : Addr) (n c : Nat) (w : World) (v' : Value) (w' : World)
    (hrun : ∀ ty, (Builtin.append_ #[28, 28] ty #[.slice (some ⟨w.heap.size, 0, none⟩) 0 0, .slice (some a) n c]).run Tryz.prog (w.alloc (.cells #[] 40)) = .ok v' w') :
    Calls Tryz.prog 178 #[.slice (some a) n c] w fun e w1 => e = .returned v' ∧ w1 = w' := by
  have mixed : Tryz.prog.follows Departure.mixedOrders = true := by kernel_rfl
  have qT : ∀ (w : World) (a : Option Addr) (n c n' c' : Nat), (binOp .eql 28 (.slice a n c) (.slice none n' c')).run Tryz.prog w = .ok (.bool a.isNone) w := fun w a n c n' c' => Lib.run_eql_slice_nil w _ _ a n c n' c' Tryz.underlying28
  go_enter Tryz.func178, Tryz.ntmps178
  go_wp2_with (at_builtin; refine Lib.wpList_append_run _ rfl _ _ _ _ rfl _ _ rfl rfl _ _ (hrun _) ?_)
  go_ret
  exact ⟨rfl, rfl⟩

set_option maxHeartbeats 2000000 in
set_option maxRecDepth 100000 in
theorem clone179_nil (n c : Nat) (w : World) : Calls Tryz.prog 179 #[.slice none n c] w fun e w' => e = .returned (.slice none 0 0) ∧ w' = w := by
  have mixed : Tryz.prog.follows Departure.mixedOrders = true := by kernel_rfl
  have qT : ∀ (w : World) (a : Option Addr) (n c n' c' : Nat), (binOp .eql 32 (.slice a n c) (.slice none n' c')).run Tryz.prog w = .ok (.bool a.isNone) w := fun w a n c n' c' => Lib.run_eql_slice_nil w _ _ a n c n' c' Tryz.underlying32
  go_enter Tryz.func179, Tryz.ntmps179
  go_wp2
  go_ret
  exact ⟨rfl, rfl⟩

set_option maxHeartbeats 2000000 in
set_option maxRecDepth 100000 in
theorem clone179_some (a : Addr) (n c : Nat) (w : World) (v' : Value) (w' : World)
    (hrun : ∀ ty, (Builtin.append_ #[32, 32] ty #[.slice (some ⟨w.heap.size, 0, none⟩) 0 0, .slice (some a) n c]).run Tryz.prog (w.alloc (.cells #[] 3)) = .ok v' w') :
    Calls Tryz.prog 179 #[.slice (some a) n c] w fun e w1 => e = .returned v' ∧ w1 = w' := by
  have mixed : Tryz.prog.follows Departure.mixedOrders = true := by kernel_rfl
  have qT : ∀ (w : World) (a : Option Addr) (n c n' c' : Nat), (binOp .eql 32 (.slice a n c) (.slice none n' c')).run Tryz.prog w = .ok (.bool a.isNone) w := fun w a n c n' c' => Lib.run_eql_slice_nil w _ _ a n c n' c' Tryz.underlying32
  go_enter Tryz.func179, Tryz.ntmps179
  go_wp2_with (at_builtin; refine Lib.wpList_append_run _ rfl _ _ _ _ rfl _ _ rfl rfl _ _ (hrun _) ?_)
  go_ret
  exact ⟨rfl, rfl⟩

def Z81 : Value := .agg #[.int .i64 0, .int .i64 0, .int .i64 0, .int .i64 0, .int .i64 0, .int .i64 0, .int .i64 0]
def Z46 : Value := .agg #[.int .i64 0, .int .i64 0]
def Z36 : Value := .agg #[.int .i64 0, .int .i64 0, .int .i64 0, .slice none 0 0, .int .i64 0, .int .i64 0, .int .i64 0]
def Z40 : Value := .agg #[.int .i64 0, .int .i64 0, .int .i64 0, .slice none 0 0, .int .i64 0, .int .i64 0, .int .i64 0, .int .i64 0]
theorem notYid (n : Nat) (h : n < 1000000000) : n ≠ yid := by unfold yid; omega
theorem ins141 : InsLaw Tryz.prog 141 29 81 7 56 Z81 :=
  ⟨by kernel_rfl, by kernel_rfl, by kernel_rfl, by decide, notYid _ (by decide), enter_of Tryz.func141 (by rfl) (by kernel_rfl),
    ins141_shift, ins141_grow, ins141_last⟩
theorem clone132 : CloneLaw Tryz.prog 132 29 81 7 56 Z81 :=
  ⟨by kernel_rfl, by kernel_rfl, notYid _ (by decide), enter_of Tryz.func132 (by rfl) (by kernel_rfl), clone132_nil, clone132_some⟩
theorem clone176 : CloneLaw Tryz.prog 176 26 46 2 16 Z46 :=
  ⟨by kernel_rfl, by kernel_rfl, notYid _ (by decide), enter_of Tryz.func176 (by rfl) (by kernel_rfl), clone176_nil, clone176_some⟩
theorem clone177 : CloneLaw Tryz.prog 177 27 36 7 72 Z36 :=
  ⟨by kernel_rfl, by kernel_rfl, notYid _ (by decide), enter_of Tryz.func177 (by rfl) (by kernel_rfl), clone177_nil, clone177_some⟩
theorem clone178 : CloneLaw Tryz.prog 178 28 40 8 80 Z40 :=
  ⟨by kernel_rfl, by kernel_rfl, notYid _ (by decide), enter_of Tryz.func178 (by rfl) (by kernel_rfl), clone178_nil, clone178_some⟩
theorem clone179 : CloneLaw Tryz.prog 179 32 3 1 8 (.int .i64 0) :=
  ⟨by kernel_rfl, by kernel_rfl, notYid _ (by decide), enter_of Tryz.func179 (by rfl) (by kernel_rfl), clone179_nil, clone179_some⟩
open Go Go.Proofs
/-! contracts that read and change a few named objects, said by these -/
/-! what was seen -/
def encSeen (l : List Int) : List (V × V) := l.map fun s => (vInt s, .bool true)
def decSeen (es : List (V × V)) : List Int := es.map fun q => decI q.1
@[go_sem] theorem decSeen_enc (l : List Int) : decSeen (encSeen l) = l := by
  unfold decSeen encSeen
  rw [List.map_map]
  exact List.map_id _
def addSeen (l : List Int) (s : Int) : List Int := if l.contains s then l else l ++ [s]
theorem mget_seen (l : List Int) (s : Int) : mget (encSeen l) (vInt s) = if l.contains s then some (.bool true) else none := by
  induction l with
  | nil => rfl
  | cons a r ih =>
    show (if keq (vInt a) (vInt s) = true then some (V.bool true) else mget (encSeen r) (vInt s)) = _
    rw [ih]
    by_cases h : a = s
    · subst h; simp [keq]
    · have h' : (a == s) = false := by simpa using h
      have h'' : (s == a) = false := by simpa using fun e => h e.symm
      have h3 : ¬ s = a := fun e => h e.symm
      simp [keq, h', h3]
theorem mget_seenD (l : List Int) (s : Int) : (mget (encSeen l) (vInt s)).getD (.bool false) = .bool (l.contains s) := by
  rw [mget_seen]
  cases l.contains s <;> rfl
theorem mset_seen (l : List Int) (s : Int) : mset (encSeen l) (vInt s) (.bool true) = encSeen (addSeen l s) := by
  induction l with
  | nil => rfl
  | cons a r ih =>
    show (if keq (vInt a) (vInt s) = true then (vInt s, V.bool true) :: encSeen r else (vInt a, V.bool true) :: mset (encSeen r) (vInt s) (.bool true)) = _
    rw [ih]
    unfold addSeen
    by_cases h : a = s
    · subst h; simp [keq, encSeen]
    · have h' : (a == s) = false := by simpa using h
      have h'' : (s == a) = false := by simpa using fun e => h e.symm
      simp only [keq, h', Bool.false_eq_true, if_false, List.contains_cons, h'', Bool.false_or]
      split <;> rfl
def onceF (obj : Name → Option O) (_ : Name) : List D → List Name
  | [_, .ref nm _] => nm :: (match obj nm with | some (.box [.map mm]) => [mm] | _ => [])
  | _ => []
def onceA (obj : Name → Option O) (_ : Name) : List D → R
  | [.v (.int .i64 s), .ref nm 0] => match obj nm with
    | some (.box [.map mm]) => match obj mm with
      | some (.map 0 es) => ⟨(mm == nm) = false ∧ encSeen (decSeen es) = es, .v (.bool (!(decSeen es).contains s)), upd obj mm (some (.map 0 (encSeen (addSeen (decSeen es) s))))⟩
      | _ => .bad obj
    | _ => .bad obj
  | _ => .bad obj
def onceS : Spec := ⟨onceA, onceF, onceF⟩
theorem onceS_near : onceS.Near := by
  refine near_fw fun obj obj2 t ds ha => ?_
  unfold onceF at ha ⊢
  split
  · rename_i d nm off
    simp only at ha
    have h1 : obj2 nm = obj nm := ha nm (by simp)
    refine ⟨by rw [h1], ?_⟩
    have hno : ∀ wr, Agr wr obj obj2 → Like (R.bad obj) (R.bad obj2) obj obj2 wr := fun wr h => .none wr h
    unfold onceA
    split
    · rename_i s nm' e
      simp only [List.cons.injEq, D.ref.injEq, and_true] at e
      obtain ⟨_, rfl, rfl⟩ := e
      simp only [h1]
      split at ha
      · rename_i mm hm
        have h2 : obj2 mm = obj mm := ha mm (by simp)
        simp only [h2, hm]
        split
        · exact .one (by simp) ha
        · exact hno _ ha
      · exact hno _ ha
    · exact hno _ ha
  · refine ⟨rfl, ?_⟩
    rename_i hds
    unfold onceA
    split
    · exact (hds _ _ _ rfl).elim
    · exact .none _ (fun _ h => by cases h)
attribute [go_sem] onceS onceA

def onceC : CSpec where
  pre := fun os ds => ∃ (ss : List Int) (s : Int), os = [.box [.map [1, 1]], .map 0 (encSeen ss)] ∧ ds = [.v (vInt s), .ref [0, 1] 0]
  out := fun os ds => match os, ds with
    | [_, .map _ es], [.v (.int _ s), _] => ⟨[(1, .map 0 (encSeen (addSeen (decSeen es) s)))], [], .v (.bool (!(decSeen es).contains s))⟩
    | _, _ => ⟨[], [], .any⟩
theorem onceS_sound {f : FuncId} (h : SSound Tryz.prog f onceC.toSpec) (hne : f ≠ yid) : SSound Tryz.prog f onceS := by
  refine ssound_eq h onceS_near hne fun obj t ds hok => ?_
  change (onceA obj t ds).ok at hok
  refine ⟨ds, rfl, fun _ _ _ _ h => h, ?_⟩
  show _ ∧ _ = (onceA obj t ds).d ∧ _ = (onceA obj t ds).obj
  unfold onceA at hok ⊢
  split at hok
  · rename_i s nm
    split at hok
    · rename_i mm hb
      split at hok
      · rename_i es hm
        obtain ⟨hne', hes⟩ := hok
        have hmn : mm ≠ nm := by simpa using hne'
        have hbe : (nm == mm) = false := by simpa using fun e => hmn e.symm
        have hr : reach obj [.v (.int .i64 s), .ref nm 0] = [nm, mm] := by
          unfold reach
          show reachL obj (2997 + 1 + 1 + 1) [nm] [] = [nm, mm]
          simp only [reachL, inL, List.any_nil, Bool.false_eq_true, if_false, hb, namesO, namesL, namesD, List.nil_append, List.append_nil, List.any_cons, hbe, Bool.or_false, hm, List.cons_append]
        have i0 : idx [nm, mm] nm = 0 := by simp [idx]
        have i1 : idx [nm, mm] mm = 1 := by simp [idx, Ne.symm hmn]
        have e1 : cOs obj [.v (.int .i64 s), .ref nm 0] = [.box [.map [1, 1]], .map 0 es] := by
          unfold cOs
          rw [hr]
          simp only [List.map_cons, List.map_nil, canonO, hb, hm, O.ren, D.renL, D.ren, cin, i1]
        have e2 : cDs obj [.v (.int .i64 s), .ref nm 0] = [.v (.int .i64 s), .ref [0, 1] 0] := by
          unfold cDs
          rw [hr]
          simp only [D.renL, D.ren, cin, i0]
        have hout : onceC.out [.box [.map [1, 1]], .map 0 es] [.v (.int .i64 s), .ref [0, 1] 0] = ⟨[(1, .map 0 (encSeen (addSeen (decSeen es) s)))], [], .v (.bool (!(decSeen es).contains s))⟩ := rfl
        have hpre : onceC.pre [.box [.map [1, 1]], .map 0 es] [.v (.int .i64 s), .ref [0, 1] 0] := ⟨decSeen es, s, by rw [hes], rfl⟩
        have e3 : (shut obj [nm, mm] && D.closL (inL [nm, mm]) [.v (.int .i64 s), .ref nm 0] && fresh obj t []) = true := by
          simp [shut, hb, hm, O.clos, D.closL, D.clos, inL, fresh]
        simp only [CSpec.toSpec, e1, e2, hr, hout, e3, hpre, hb, hm, and_self, putN, putU, D.ren, D.renL, O.ren, cout, List.getD_cons_zero, List.getD_cons_succ]
      · exact hok.elim
    · exact hok.elim
  · exact hok.elim
/-! a valid ledger -/
noncomputable def S117 : Spec := onceS
attribute [go_sem] S117

set_option maxHeartbeats 4000000 in
theorem k117 : SSound Tryz.prog 117 S117 := by
  refine onceS_sound ?_ (notYid _ (by decide))
  refine csound (nt := 12) (rs := [.tmp 3]) Tryz.func117 rfl (by rfl) (by kernel_rfl) (enter_of Tryz.func117 rfl (by kernel_rfl)) (notYid _ (by decide)) ?_
  rintro os ds ⟨ss, s, rfl, rfl⟩
  refine ⟨Nat.le_of_ble_eq_true rfl, ?_⟩
  have hout : onceC.out [.box [.map [1, 1]], .map 0 (encSeen ss)] [.v (vInt s), .ref [0, 1] 0] = ⟨[(1, .map 0 (encSeen (addSeen ss s)))], [], .v (.bool (!ss.contains s))⟩ := by
    simp only [onceC, decSeen_enc]
  rw [hout]
  refine cl_of ?_
  have hΓ := @no_sound Tryz.prog
  have hO1 : ∀ hs, OutC [0] (domOf [0] hs) (outH [.box [.map [1, 1]], .map 0 (encSeen ss)]) = True := fun hs => eq_true (outC_outs (by
    intro o ho dom hd
    simp only [List.mem_cons, List.not_mem_nil, or_false] at ho
    rcases ho with rfl | rfl
    · simp [O.clos, D.closL, D.clos, hd]
    · rfl) hs)
  have h0 : outH [.box [.map [1, 1]], .map 0 (encSeen ss)] [0, 1] = some (.box [.map [1, 1]]) := rfl
  have h1 : outH [.box [.map [1, 1]], .map 0 (encSeen ss)] [1, 1] = some (.map 0 (encSeen ss)) := rfl
  generalize hH : outH [.box [.map [1, 1]], .map 0 (encSeen ss)] = H at *
  have hO2 : ∀ hs es, OutC [0] (domOf [0] hs) (upd H [1, 1] (some (.map 0 es))) = True := fun hs es => eq_true (OutC_set rfl (by rw [hO1]; trivial))
  have hO3 : ∀ hs es, OutC [0] (domOf [0] hs) (fun nm => if nm = [1, 1] then some (.map 0 es) else H nm) = True := hO2
  repeat refine sq ?_
  refine rx hΓ [0,1] [] (fun K' hK => by simp only [go_sem, hO1]; (repeat (refine ⟨ob, ?_⟩)); exact hK _ (by simp only [go_sem, hO1]) (by simp only [go_sem, hO1] <;> rfl)) ?_
  repeat refine sq ?_
  refine rx hΓ [0,1,4] [] (fun K' hK => by simp only [go_sem, hO1, h0, h1, mget_seenD]; (repeat (refine ⟨ob, ?_⟩)); exact hK _ (by simp only [go_sem, hO1, h0, h1, mget_seenD]) (by simp only [go_sem, hO1, h0, h1, mget_seenD] <;> rfl)) ?_
  repeat refine sq ?_
  refine rx hΓ [4] [] (fun K' hK => by simp only [go_sem, hO1, hO2, hO3, h0, h1, mset_seen]; (repeat (refine ⟨ob, ?_⟩)); exact hK _ (by simp only [go_sem, hO1, hO2, hO3, h0, h1, mset_seen]) (by simp only [go_sem, hO1, hO2, hO3, h0, h1, mset_seen] <;> rfl)) ?_
  repeat refine sq ?_
  refine rx hΓ [3] [] (fun K' hK => by simp only [go_sem, hO1, hO2, hO3]; (repeat (refine ⟨ob, ?_⟩)); exact hK _ (by simp only [go_sem, hO1, hO2, hO3]) (by simp only [go_sem, hO1, hO2, hO3] <;> rfl)) ?_
  refine cl_ret ?_
  simp only [go_sem]
  exact ⟨h0, rfl⟩
noncomputable def K7 : List (Nat × Spec) := [(109, S109), (111, S111), (113, S113), (115, S115), (117, S117), (79, S79)]
theorem K7_sound : ∀ f s, tbl K7 f = some s → SSound Tryz.prog f s := tc k109 <| tc k111 <| tc k113 <| tc k115 <| tc k117 <| tc k79 <| tn
attribute [go_sem] K7

/-- What is seen when the first ones are. -/
def sn {α : Type} (pre : List Int) (f : α → Int) (l : List α) (i : Nat) : List Int := (l.take i).foldl (fun a x => a ++ [f x]) pre
theorem sn_eq {α : Type} (pre : List Int) (f : α → Int) (l : List α) (i : Nat) : sn pre f l i = pre ++ (l.take i).map f := by
  unfold sn
  generalize l.take i = k
  induction k generalizing pre with
  | nil => simp
  | cons a r ih => simp [ih]
theorem sn_succ {α : Type} {pre : List Int} {f : α → Int} {l : List α} {i : Nat} (h : i < l.length) (hc : (sn pre f l i).contains (f l[i]) = false) : addSeen (sn pre f l i) (f l[i]) = sn pre f l (i + 1) := by
  unfold addSeen
  rw [hc, sn_eq, sn_eq, List.take_add_one, List.getElem?_eq_getElem h]
  simp only [Bool.false_eq_true, if_false, Option.toList_some, List.map_append, List.map_cons, List.map_nil, List.append_assoc]
def lastOf (l : List Int) : Int := l.getD (l.length - 1) 0
def srcs (l : Led) : List Int := l.rs.map Rec.so ++ l.ts.map Ret.so ++ l.ss.map Sig.so
structure OkL (l : Led) : Prop where
  ps : allB papB Pap.id l.ps = true
  psn : l.ps.length ≤ 12
  rs : allB recB Rec.so l.rs = true
  rsn : l.rs.length ≤ 60
  ts : allB retB Ret.so l.ts = true
  tsn : l.ts.length ≤ 60
  ss : allB sigB Sig.so l.ss = true
  ssn : l.ss.length ≤ 60
  rl : ∀ j (h : j < l.rs.length), lastOf l.rs[j].lv ≤ lvOf l.ps l.rs[j].pa
  sl : ∀ j (h : j < l.ss.length), l.ss[j].le ≤ lvOf l.ps l.ss[j].pa
  nd : (srcs l).Nodup
open Classical in
noncomputable def okLB (l : Led) : Bool := decide (OkL l)
theorem okLB_iff {l : Led} : okLB l = true ↔ OkL l := by unfold okLB; exact @decide_eq_true_iff _ (Classical.propDecidable _)
noncomputable def chkI (l : Led) : Int := errI (okLB l) 24
theorem chkI_bad {l : Led} (h : ¬ OkL l) : chkI l = 24 := by unfold chkI; rw [bool_of okLB_iff h]; rfl
theorem chkI_good {l : Led} (h : OkL l) : chkI l = 0 := by unfold chkI; rw [okLB_iff.2 h]; rfl
def newTo {α : Type} (pre : List Int) (f : α → Int) (l : List α) (i : Nat) : Prop := ∀ j (h : j < l.length), j < i → (sn pre f l j).contains (f l[j]) = false
theorem newTo_succ {α : Type} {pre : List Int} {f : α → Int} {l : List α} {i : Nat} (h : newTo pre f l i) (hi : i < l.length) (hc : (sn pre f l i).contains (f l[i]) = false) : newTo pre f l (i + 1) := by
  intro j hj hji
  rcases Nat.lt_succ_iff_lt_or_eq.1 hji with h1 | rfl
  · exact h j hj h1
  · exact hc
theorem newTo_nodup {α : Type} {pre : List Int} {f : α → Int} {l : List α} (hp : pre.Nodup) : newTo pre f l l.length ↔ (pre ++ l.map f).Nodup := by
  constructor
  · intro h
    rw [List.nodup_append]
    refine ⟨hp, ?_, ?_⟩
    · rw [List.nodup_iff_pairwise_ne, List.pairwise_map, List.pairwise_iff_getElem]
      intro i j hi hj hij e
      have := h j hj hj
      rw [sn_eq] at this
      simp only [List.contains_append, Bool.or_eq_false_iff] at this
      have h2 := this.2
      have : (List.map f (List.take j l)).contains (f l[j]) = true := by
        rw [List.contains_iff_mem, List.mem_map]
        exact ⟨l[i], by rw [List.mem_take_iff_getElem]; exact ⟨i, by omega, rfl⟩, e⟩
      rw [h2] at this; cases this
    · intro a ha b hb e
      subst e
      obtain ⟨x, hx, rfl⟩ := List.mem_map.1 hb
      obtain ⟨j, hj, rfl⟩ := List.getElem_of_mem hx
      have := h j hj hj
      rw [sn_eq] at this
      simp only [List.contains_append, Bool.or_eq_false_iff] at this
      have h2 := this.1
      rw [List.contains_iff_mem.2 ha] at h2; cases h2
  · intro h j hj _
    rw [List.nodup_append] at h
    obtain ⟨_, h1, h2⟩ := h
    rw [sn_eq, Bool.eq_false_iff]
    intro hc
    rw [List.contains_iff_mem, List.mem_append] at hc
    rcases hc with hc | hc
    · exact h2 _ hc _ (List.mem_map_of_mem (List.getElem_mem hj)) rfl
    · obtain ⟨x, hx, e⟩ := List.mem_map.1 hc
      obtain ⟨i, hi, rfl⟩ := List.mem_take_iff_getElem.1 hx
      rw [List.nodup_iff_pairwise_ne, List.pairwise_map, List.pairwise_iff_getElem] at h1
      exact h1 i j (by omega) hj (by omega) e
theorem nodup_pre {α : Type} {pre : List Int} {f : α → Int} {l : List α} (h : (pre ++ l.map f).Nodup) : pre.Nodup := (List.nodup_append.1 h).1
def recTo (l : Led) (i : Nat) : Prop := ∀ j (h : j < l.rs.length), j < i → lastOf l.rs[j].lv ≤ lvOf l.ps l.rs[j].pa
def sigTo (l : Led) (i : Nat) : Prop := ∀ j (h : j < l.ss.length), j < i → l.ss[j].le ≤ lvOf l.ps l.ss[j].pa
theorem OkL_new {l : Led} (h : OkL l) : newTo [] Rec.so l.rs l.rs.length ∧ newTo (sn [] Rec.so l.rs l.rs.length) Ret.so l.ts l.ts.length ∧ newTo (sn (sn [] Rec.so l.rs l.rs.length) Ret.so l.ts l.ts.length) Sig.so l.ss l.ss.length := by
  have hn := h.nd
  unfold srcs at hn
  have e1 : sn [] Rec.so l.rs l.rs.length = l.rs.map Rec.so := by rw [sn_eq, List.take_length]; rfl
  have e2 : sn (sn [] Rec.so l.rs l.rs.length) Ret.so l.ts l.ts.length = l.rs.map Rec.so ++ l.ts.map Ret.so := by rw [sn_eq, e1, List.take_length]
  have n2 := nodup_pre hn
  have n1 := nodup_pre n2
  refine ⟨(newTo_nodup (by simp)).2 (by simpa using n1), ?_, ?_⟩
  · rw [e1]; exact (newTo_nodup n1).2 n2
  · rw [e2]; exact (newTo_nodup n2).2 hn
theorem OkL_of {l : Led} (h1 : newTo [] Rec.so l.rs l.rs.length) (h2 : newTo (sn [] Rec.so l.rs l.rs.length) Ret.so l.ts l.ts.length) (h3 : newTo (sn (sn [] Rec.so l.rs l.rs.length) Ret.so l.ts l.ts.length) Sig.so l.ss l.ss.length) : (srcs l).Nodup := by
  have e1 : sn [] Rec.so l.rs l.rs.length = l.rs.map Rec.so := by rw [sn_eq, List.take_length]; rfl
  have e2 : sn (sn [] Rec.so l.rs l.rs.length) Ret.so l.ts l.ts.length = l.rs.map Rec.so ++ l.ts.map Ret.so := by rw [sn_eq, e1, List.take_length]
  have n1 : (l.rs.map Rec.so).Nodup := by simpa using (newTo_nodup (pre := []) (by simp)).1 h1
  have n2 := (newTo_nodup n1).1 (by rw [e1] at h2; exact h2)
  exact (newTo_nodup n2).1 (by rw [e2] at h3; exact h3)
theorem bnot4 {a b c d : Bool} {p q r s : Prop} [Decidable p] [Decidable q] [Decidable r] [Decidable s] (h : (!(a && decide p) || !(b && decide q) || !(c && decide r) || !(d && decide s)) = false) : a = true ∧ p ∧ b = true ∧ q ∧ c = true ∧ r ∧ d = true ∧ s := by
  simp only [Bool.or_eq_false_iff, Bool.not_eq_false', Bool.and_eq_true, decide_eq_true_eq] at h
  obtain ⟨⟨⟨⟨h1, h2⟩, h3, h4⟩, h5, h6⟩, h7, h8⟩ := h
  exact ⟨h1, h2, h3, h4, h5, h6, h7, h8⟩
theorem allB_at {α : Type} {chk : α → Bool} {num : α → Int} {l : List α} (h : allB chk num l = true) {j : Nat} (hj : j < l.length) : chk l[j] = true := (allB_iff.1 h j hj hj).1
theorem recB_lv {r : Rec} (h : recB r = true) : 0 < r.lv.length := by
  unfold recB at h
  simp only [Bool.and_eq_true] at h
  exact (leavesB_iff.1 h.1.1.2).1
noncomputable def P37 : PSpec := p1 iL (fun _ => True) (fun l => vInt (chkI l)) true
noncomputable def S37 : Spec := P37.toSpec
attribute [go_sem] P37 S37

set_option maxHeartbeats 8000000 in
theorem s37 : PSound Tryz.prog 37 P37 := by
  refine w1 (rs := [.tmp 2]) Tryz.func37 Tryz.ntmps37 (by rfl) (by kernel_rfl) (by decide) (fun _ _ => rfl) ⟨_, rfl, lb rfl, fun l hp hw => ?_⟩
  have hP := mixedK
  simp only [iL, encL] at hw ⊢
  have hΓ := K7_sound
  repeat refine sq ?_
  refine rs hΓ [1] [[1, 0]] ?_
  repeat refine sq ?_
  refine rs hΓ [1,32] [[1, 0]] ?_
  repeat refine sq ?_
  refine cl_cond rfl rfl (fun hb => ?_) fun hb => ?_
  · skip
    repeat refine sq ?_
    have hbad : ¬ OkL l := by
      intro h
      rw [h.ps, h.rs, h.ts, h.ss] at hb
      have h1 := h.psn
      have h2 := h.rsn
      have h3 := h.tsn
      have h4 := h.ssn
      simp only [Bool.true_and, Bool.or_eq_true, Bool.not_eq_true', decide_eq_false_iff_not] at hb
      omega
    repeat refine sq ?_
    refine rs hΓ [2] [] ?_
    refine cl_ret ?_
    simp only [go_sem]
    rw [chkI_bad hbad]
  · skip
    repeat refine sq ?_
    obtain ⟨hps, hpn, hrs, hrn, hts, htn, hss, hsn⟩ := bnot4 hb
    have hsrt : srt Pap.id l.ps := okL_srt (allB_iff.1 hps)
    have hlr : l.rs.length ≤ maxLen := by unfold maxLen; omega
    have hlt_ : l.ts.length ≤ maxLen := by unfold maxLen; omega
    have hls : l.ss.length ≤ maxLen := by unfold maxLen; omega
    refine cl_skip ?_
    repeat refine sq ?_
    refine rs hΓ [1,3] [[1, 0],[3, 0],[33, 0]] ?_
    repeat refine sq ?_
    refine rs hΓ [1,4] [[1, 0],[3, 0],[33, 0]] ?_
    repeat refine sq ?_
    refine rs hΓ [1,4,36,37,38] [[1, 0],[3, 0],[33, 0]] ?_
    repeat refine sq ?_
    refine cl_block ?_
    repeat refine sq ?_
    refine cl_loop' (fun s : Nat => [(38, ⟨true, .v (vInt s)⟩)]) (fun s => [([33, 0], .map 0 (encSeen (sn [] Rec.so l.rs s)))]) (fun s => s ≤ l.rs.length ∧ newTo [] Rec.so l.rs s ∧ recTo l s) (fun s => l.rs.length - s) 0 ?_ ?_ ?_ ?_
    · exact ⟨Nat.zero_le _, fun j _ h => by omega, fun j _ h => by omega⟩
    · rfl
    · rfl
    rintro i ⟨hi, hR, hR'⟩
    simp only [go_sem]
    repeat refine sq ?_
    refine rs hΓ [1,4,36,37,38,39] [[1, 0],[3, 0],[33, 0]] ?_
    repeat refine sq ?_
    refine cl_cond rfl rfl (fun hb => ?_) fun hb => ?_
    · skip
      have hlt : i < l.rs.length := by simpa using hb
      have hlt' : (i : Int) < l.rs.length := by omega
      clear hb
      have hv := recB_lv (allB_at hrs hlt)
      have hvl : l.rs[i].lv.length ≤ maxLen := by have h0 := (leavesB_iff.1 (by have h := allB_at hrs hlt; unfold recB at h; simp only [Bool.and_eq_true] at h; exact h.1.1.2 : leavesB l.rs[i].lv = true)).2.1; unfold maxLen; omega
      have hwl := wrap_pred (by omega : ¬ l.rs[i].lv.length = 0) hvl
      have hq1 : ((l.rs[i].lv.length - 1 : Nat) : Int) < l.rs[i].lv.length := by omega
      have hq2 : l.rs[i].lv.length - 1 < l.rs[i].lv.length := by omega
      have hgl : (l.rs[i].lv.map vInt).getD (l.rs[i].lv.length - 1) default = vInt (lastOf l.rs[i].lv) := by unfold lastOf; rw [map_getD hq2, getD_at hq2]
      repeat refine sq ?_
      refine cl_skip ?_
      repeat refine sq ?_
      refine cl_block ?_
      repeat refine sq ?_
      refine rx hΓ [1,4,6,36,37,38] [[1, 0],[3, 0],[6, 0],[33, 0]] (fun K' hK => by simp only [go_sem, map_getD hlt, Int.toNat_natCast, Int.natCast_nonneg, hlt']; (repeat (refine ⟨ob, ?_⟩)); exact hK _ (by simp only [go_sem]) (by simp only [go_sem] <;> rfl)) ?_
      repeat refine sq ?_
      refine dx hΓ hP [[], [], [1], [0, 1, 2], [0, 1, 2, 3], [0, 1, 2, 3, 4], [0, 1, 2, 3, 4, 5], [0, 1, 2, 3, 4, 5, 6], [0, 1, 2, 3, 4, 5], [0, 1, 2, 3, 4, 5, 8], [0, 1, 2, 3, 4, 5, 8, 9], [0, 1, 2, 3, 4, 5, 8, 9, 10], [0, 1, 2, 3, 4, 5, 6, 7, 8, 9, 10, 11], [0, 1, 2, 3, 4, 5, 6, 7, 8, 9, 10, 11, 12], [0, 1, 2, 3, 4, 5], [0, 1, 2, 3, 4, 5, 14], [0, 1, 2, 3, 4, 5, 14, 15], [0, 1, 2, 3, 4, 5, 6, 7, 8, 9, 10, 11, 12, 13, 14, 15, 16], [0, 1, 2, 3, 4, 5, 6, 7, 8, 9, 10, 11, 12, 13, 14, 15, 16, 17]] [1,4,36,37,38,60] [[1, 0],[3, 0],[33, 0]] (by kernel_rfl) (fun K' hK => by simp only [go_sem, map_getD hlt, Int.toNat_natCast, Int.natCast_nonneg, hlt', hsrt, hwl, hgl, hq1]; (repeat (refine ⟨ob, ?_⟩)); (first | refine ⟨by rfl, ?_⟩ | skip); exact hK _ (by simp only [go_sem]) (by simp only [go_sem] <;> rfl)) ?_
      repeat refine sq ?_
      refine cl_cond rfl rfl (fun hb => ?_) fun hb => ?_
      · skip
        repeat refine sq ?_
        have hbad : ¬ OkL l := by
          intro h
          have h1 := (OkL_new h).1 i hlt hlt
          have h2 := h.rl i hlt
          rw [h1] at hb
          simp only [Bool.not_false, Bool.not_true, Bool.false_or, decide_eq_true_eq] at hb
          omega
        repeat refine sq ?_
        refine rx hΓ [2] [] (fun K' hK => by simp only [go_sem, map_getD hlt, Int.toNat_natCast, Int.natCast_nonneg, hlt']; (repeat (refine ⟨ob, ?_⟩)); exact hK _ (by simp only [go_sem]) (by simp only [go_sem] <;> rfl)) ?_
        refine cl_ret ?_
        simp only [go_sem]
        rw [chkI_bad hbad]
      · skip
        repeat refine sq ?_
        have hn1 : (sn [] Rec.so l.rs i).contains l.rs[i].so = false := by
          simp only [Bool.or_eq_false_iff, Bool.not_not] at hb
          exact hb.1
        have hn2 : lastOf l.rs[i].lv ≤ lvOf l.ps l.rs[i].pa := by
          simp only [Bool.or_eq_false_iff, decide_eq_false_iff_not] at hb
          omega
        rw [sn_succ hlt hn1]
        refine cl_skip ?_
        refine cl_nil ?_
        simp only [go_sem]
        refine kp [1,4,36,37,38] [[1, 0],[3, 0],[33, 0]] ?_
        repeat refine sq ?_
        refine cl_r hΓ fun K' hK => ?_
        simp only [go_sem, map_getD hlt, Int.toNat_natCast, Int.natCast_nonneg, hlt']
        repeat refine ⟨ob, ?_⟩
        refine hK _ ?_
        clear K' hK
        simp only [go_sem]
        refine ⟨i + 1, ⟨hlt, ?_⟩, by (show l.rs.length - (i + 1) < l.rs.length - i; omega), ?_⟩
        · skip
          exact ⟨newTo_succ hR hlt hn1, fun j hj hji => by
            rcases Nat.lt_succ_iff_lt_or_eq.1 hji with h1 | rfl
            · exact hR' j hj h1
            · exact hn2⟩
        refine weak_eq [1,4,36,37,38] [[1, 0],[3, 0],[33, 0]] ?_ ?_
        · simp only [go_sem, wrap_succ hlt hlr, Int.natCast_add, Int.natCast_one]
        · simp only [go_sem, wrap_succ hlt hlr, Int.natCast_add, Int.natCast_one]
    · skip
      have hge : i = l.rs.length := by
        have : ¬ (i : Int) < l.rs.length := by simpa using hb
        omega
      clear hb
      subst hge
      repeat refine sq ?_
      refine cl_exit ?_
      simp only [go_sem]
      refine kp [1,4] [[1, 0],[3, 0],[33, 0]] ?_
      repeat refine sq ?_
      refine rs hΓ [1,4,63,64,65] [[1, 0],[3, 0],[33, 0]] ?_
      repeat refine sq ?_
      refine cl_block ?_
      repeat refine sq ?_
      refine cl_loop' (fun s : Nat => [(65, ⟨true, .v (vInt s)⟩)]) (fun s => [([33, 0], .map 0 (encSeen (sn (sn [] Rec.so l.rs l.rs.length) Ret.so l.ts s)))]) (fun s => s ≤ l.ts.length ∧ newTo (sn [] Rec.so l.rs l.rs.length) Ret.so l.ts s) (fun s => l.ts.length - s) 0 ?_ ?_ ?_ ?_
      · exact ⟨Nat.zero_le _, fun j _ h => by omega⟩
      · rfl
      · rfl
      rintro i ⟨hi1, hR1⟩
      simp only [go_sem]
      repeat refine sq ?_
      refine rs hΓ [1,4,63,64,65,66] [[1, 0],[3, 0],[33, 0]] ?_
      repeat refine sq ?_
      refine cl_cond rfl rfl (fun hb => ?_) fun hb => ?_
      · skip
        have hlt1 : i < l.ts.length := by simpa using hb
        have hlt1' : (i : Int) < l.ts.length := by omega
        clear hb
        repeat refine sq ?_
        refine cl_skip ?_
        repeat refine sq ?_
        refine cl_block ?_
        repeat refine sq ?_
        refine rx hΓ [1,4,8,63,64,65] [[1, 0],[3, 0],[8, 0],[33, 0]] (fun K' hK => by simp only [go_sem, map_getD hlt1, Int.toNat_natCast, Int.natCast_nonneg, hlt1']; (repeat (refine ⟨ob, ?_⟩)); exact hK _ (by simp only [go_sem]) (by simp only [go_sem] <;> rfl)) ?_
        repeat refine sq ?_
        refine rx hΓ [1,4,63,64,65,73] [[1, 0],[3, 0],[33, 0]] (fun K' hK => by simp only [go_sem, map_getD hlt1, Int.toNat_natCast, Int.natCast_nonneg, hlt1']; (repeat (refine ⟨ob, ?_⟩)); exact hK _ (by simp only [go_sem]) (by simp only [go_sem] <;> rfl)) ?_
        repeat refine sq ?_
        refine cl_cond rfl rfl (fun hb => ?_) fun hb => ?_
        · skip
          repeat refine sq ?_
          have hbad : ¬ OkL l := by
            intro h
            have h1 := (OkL_new h).2.1 i hlt1 hlt1
            rw [h1] at hb
            cases hb
          repeat refine sq ?_
          refine rx hΓ [2] [] (fun K' hK => by simp only [go_sem, map_getD hlt1, Int.toNat_natCast, Int.natCast_nonneg, hlt1']; (repeat (refine ⟨ob, ?_⟩)); exact hK _ (by simp only [go_sem]) (by simp only [go_sem] <;> rfl)) ?_
          refine cl_ret ?_
          simp only [go_sem]
          rw [chkI_bad hbad]
        · skip
          repeat refine sq ?_
          have hn1 : (sn (sn [] Rec.so l.rs l.rs.length) Ret.so l.ts i).contains l.ts[i].so = false := by
            simpa only [Bool.not_not] using hb
          rw [sn_succ hlt1 hn1]
          refine cl_skip ?_
          refine cl_nil ?_
          simp only [go_sem]
          refine kp [1,4,63,64,65] [[1, 0],[3, 0],[33, 0]] ?_
          repeat refine sq ?_
          refine cl_r hΓ fun K' hK => ?_
          simp only [go_sem, map_getD hlt1, Int.toNat_natCast, Int.natCast_nonneg, hlt1']
          repeat refine ⟨ob, ?_⟩
          refine hK _ ?_
          clear K' hK
          simp only [go_sem]
          refine ⟨i + 1, ⟨hlt1, ?_⟩, by (show l.ts.length - (i + 1) < l.ts.length - i; omega), ?_⟩
          · skip
            exact newTo_succ hR1 hlt1 hn1
          refine weak_eq [1,4,63,64,65] [[1, 0],[3, 0],[33, 0]] ?_ ?_
          · simp only [go_sem, wrap_succ hlt1 hlt_, Int.natCast_add, Int.natCast_one]
          · simp only [go_sem, wrap_succ hlt1 hlt_, Int.natCast_add, Int.natCast_one]
      · skip
        have hge1 : i = l.ts.length := by
          have : ¬ (i : Int) < l.ts.length := by simpa using hb
          omega
        clear hb
        subst hge1
        repeat refine sq ?_
        refine cl_exit ?_
        simp only [go_sem]
        refine kp [1,4] [[1, 0],[3, 0],[33, 0]] ?_
        repeat refine sq ?_
        refine rs hΓ [1,4,76,77,78] [[1, 0],[3, 0],[33, 0]] ?_
        repeat refine sq ?_
        refine cl_block ?_
        repeat refine sq ?_
        refine cl_loop' (fun s : Nat => [(78, ⟨true, .v (vInt s)⟩)]) (fun s => [([33, 0], .map 0 (encSeen (sn (sn (sn [] Rec.so l.rs l.rs.length) Ret.so l.ts l.ts.length) Sig.so l.ss s)))]) (fun s => s ≤ l.ss.length ∧ newTo (sn (sn [] Rec.so l.rs l.rs.length) Ret.so l.ts l.ts.length) Sig.so l.ss s ∧ sigTo l s) (fun s => l.ss.length - s) 0 ?_ ?_ ?_ ?_
        · exact ⟨Nat.zero_le _, fun j _ h => by omega, fun j _ h => by omega⟩
        · rfl
        · rfl
        rintro i ⟨hi2, hR2, hR2'⟩
        simp only [go_sem]
        repeat refine sq ?_
        refine rs hΓ [1,4,76,77,78,79] [[1, 0],[3, 0],[33, 0]] ?_
        repeat refine sq ?_
        refine cl_cond rfl rfl (fun hb => ?_) fun hb => ?_
        · skip
          have hlt2 : i < l.ss.length := by simpa using hb
          have hlt2' : (i : Int) < l.ss.length := by omega
          clear hb
          repeat refine sq ?_
          refine cl_skip ?_
          repeat refine sq ?_
          refine cl_block ?_
          repeat refine sq ?_
          refine rx hΓ [1,4,10,76,77,78] [[1, 0],[3, 0],[10, 0],[33, 0]] (fun K' hK => by simp only [go_sem, map_getD hlt2, Int.toNat_natCast, Int.natCast_nonneg, hlt2']; (repeat (refine ⟨ob, ?_⟩)); exact hK _ (by simp only [go_sem]) (by simp only [go_sem] <;> rfl)) ?_
          repeat refine sq ?_
          refine dx hΓ hP [[], [], [1], [0, 1, 2], [0, 1, 2, 3], [0, 1, 2, 3, 4], [0, 1, 2, 3, 4, 5], [0, 1, 2, 3, 4, 5, 6], [0, 1, 2, 3, 4, 5], [0, 1, 2, 3, 4, 5, 8], [0, 1, 2, 3, 4, 5, 8, 9], [0, 1, 2, 3, 4, 5, 6, 7, 8, 9, 10], [0, 1, 2, 3, 4, 5, 6, 7, 8, 9, 10, 11]] [1,4,76,77,78,94] [[1, 0],[3, 0],[33, 0]] (by kernel_rfl) (fun K' hK => by simp only [go_sem, map_getD hlt2, Int.toNat_natCast, Int.natCast_nonneg, hlt2', hsrt]; (repeat (refine ⟨ob, ?_⟩)); (first | refine ⟨by rfl, ?_⟩ | skip); exact hK _ (by simp only [go_sem]) (by simp only [go_sem] <;> rfl)) ?_
          repeat refine sq ?_
          refine cl_cond rfl rfl (fun hb => ?_) fun hb => ?_
          · skip
            repeat refine sq ?_
            have hbad : ¬ OkL l := by
              intro h
              have h1 := (OkL_new h).2.2 i hlt2 hlt2
              have h2 := h.sl i hlt2
              rw [h1] at hb
              simp only [Bool.not_false, Bool.not_true, Bool.false_or, decide_eq_true_eq] at hb
              omega
            repeat refine sq ?_
            refine rx hΓ [2] [] (fun K' hK => by simp only [go_sem, map_getD hlt2, Int.toNat_natCast, Int.natCast_nonneg, hlt2']; (repeat (refine ⟨ob, ?_⟩)); exact hK _ (by simp only [go_sem]) (by simp only [go_sem] <;> rfl)) ?_
            refine cl_ret ?_
            simp only [go_sem]
            rw [chkI_bad hbad]
          · skip
            repeat refine sq ?_
            have hn1 : (sn (sn (sn [] Rec.so l.rs l.rs.length) Ret.so l.ts l.ts.length) Sig.so l.ss i).contains l.ss[i].so = false := by
              simp only [Bool.or_eq_false_iff, Bool.not_not] at hb
              exact hb.1
            have hn2 : l.ss[i].le ≤ lvOf l.ps l.ss[i].pa := by
              simp only [Bool.or_eq_false_iff, decide_eq_false_iff_not] at hb
              omega
            rw [sn_succ hlt2 hn1]
            refine cl_skip ?_
            refine cl_nil ?_
            simp only [go_sem]
            refine kp [1,4,76,77,78] [[1, 0],[3, 0],[33, 0]] ?_
            repeat refine sq ?_
            refine cl_r hΓ fun K' hK => ?_
            simp only [go_sem, map_getD hlt2, Int.toNat_natCast, Int.natCast_nonneg, hlt2']
            repeat refine ⟨ob, ?_⟩
            refine hK _ ?_
            clear K' hK
            simp only [go_sem]
            refine ⟨i + 1, ⟨hlt2, ?_⟩, by (show l.ss.length - (i + 1) < l.ss.length - i; omega), ?_⟩
            · skip
              exact ⟨newTo_succ hR2 hlt2 hn1, fun j hj hji => by
                rcases Nat.lt_succ_iff_lt_or_eq.1 hji with h1 | rfl
                · exact hR2' j hj h1
                · exact hn2⟩
            refine weak_eq [1,4,76,77,78] [[1, 0],[3, 0],[33, 0]] ?_ ?_
            · simp only [go_sem, wrap_succ hlt2 hls, Int.natCast_add, Int.natCast_one]
            · simp only [go_sem, wrap_succ hlt2 hls, Int.natCast_add, Int.natCast_one]
        · skip
          have hge2 : i = l.ss.length := by
            have : ¬ (i : Int) < l.ss.length := by simpa using hb
            omega
          clear hb
          subst hge2
          repeat refine sq ?_
          refine cl_exit ?_
          simp only [go_sem]
          refine kp [] [] ?_
          repeat refine sq ?_
          refine rs hΓ [2] [] ?_
          refine cl_ret ?_
          simp only [go_sem]
          rw [chkI_good ⟨hps, by omega, hrs, by omega, hts, by omega, hss, by omega, fun j h => hR' j h h, fun j h => hR2' j h h, OkL_of hR hR1 hR2⟩]
theorem k37 : SSound Tryz.prog 37 S37 := s37.sound
/-! a valid ledger, by the reference -/
theorem sn_next {α : Type} {pre : List Int} {f : α → Int} {l : List α} {i : Nat} (h : i < l.length) : sn pre f l (i + 1) = sn pre f l i ++ [f l[i]] := by
  rw [sn_eq, sn_eq, List.take_add_one, List.getElem?_eq_getElem h]
  simp only [Option.toList_some, List.map_append, List.map_cons, List.map_nil, List.append_assoc]
theorem sn_len {α : Type} {pre : List Int} {f : α → Int} {l : List α} {i : Nat} (h : i ≤ l.length) : (sn pre f l i).length = pre.length + i := by
  rw [sn_eq, List.length_append, List.length_map, List.length_take]; omega
theorem srcs_sn (l : Led) : sn (sn (sn [] Rec.so l.rs l.rs.length) Ret.so l.ts l.ts.length) Sig.so l.ss l.ss.length = srcs l := by
  simp only [sn_eq, List.take_length, List.nil_append, srcs]
def shortL (l : Led) : Prop := l.rs.length ≤ 60 ∧ l.ts.length ≤ 60 ∧ l.ss.length ≤ 60
noncomputable def P125 : PSpec := p1 iL (fun l => shortL l) (fun l => .sl ((srcs l).map vInt)) false
noncomputable def S125 : Spec := P125.toSpec
attribute [go_sem] P125 S125

set_option maxHeartbeats 4000000 in
theorem s125 : PSound Tryz.prog 125 P125 := by
  refine w1 (rs := [.tmp 2]) Tryz.func125 Tryz.ntmps125 (by rfl) (by kernel_rfl) (by decide) (fun h => by cases h) ⟨_, rfl, lb rfl, fun l hp hw => ?_⟩
  have hP := mixedK
  simp only [iL, encL] at hw ⊢
  have hΓ := @no_sound Tryz.prog
  obtain ⟨hn1, hn2, hn3⟩ := hp
  have hlr : l.rs.length ≤ maxLen := by unfold maxLen; omega
  have hlt_ : l.ts.length ≤ maxLen := by unfold maxLen; omega
  have hls : l.ss.length ≤ maxLen := by unfold maxLen; omega
  repeat refine sq ?_
  refine rs hΓ [1] [[1, 0]] ?_
  repeat refine sq ?_
  refine rs hΓ [1,3] [[1, 0],[22, 0],[38, 0],[54, 0]] ?_
  refine cl_weakM (weakM_ghostk 3 [22, 0] 1 (by simp only [go_sem]) (by simp only [go_sem]) [1,3] [[1, 0],[22, 0],[38, 0],[54, 0]] ?_ rfl) ?_
  · simp only [go_sem]
  simp only [go_sem]
  repeat refine sq ?_
  refine rs hΓ [1,3,4] [[1, 0],[22, 0],[38, 0],[54, 0]] ?_
  repeat refine sq ?_
  refine cl_block ?_
  repeat refine sq ?_
  refine cl_loop' (fun s : Nat => [(4, ⟨true, .v (vInt s)⟩), (3, ⟨true, .msl [22, 0] (sn [] Rec.so l.rs s).length⟩)]) (fun s => [([22, 0], .arr 1 ((sn [] Rec.so l.rs s).map vInt))]) (fun s => s ≤ l.rs.length) (fun s => l.rs.length - s) 0 ?_ ?_ ?_ ?_
  · exact Nat.zero_le _
  · rfl
  · rfl
  rintro i hi
  simp only [go_sem]
  repeat refine sq ?_
  refine rs hΓ [1,3,4,11] [[1, 0],[22, 0],[38, 0],[54, 0]] ?_
  repeat refine sq ?_
  refine cl_cond rfl rfl (fun hb => ?_) fun hb => ?_
  · skip
    have hlt : i < l.rs.length := by simpa using hb
    have hlt' : (i : Int) < l.rs.length := by omega
    clear hb
    have hsl : (sn [] Rec.so l.rs i).length = i := by rw [sn_len (by omega)]; simp
    repeat refine sq ?_
    refine cl_skip ?_
    repeat refine sq ?_
    refine cl_block ?_
    repeat refine sq ?_
    refine cl_r hΓ fun K' hK => ?_
    simp only [go_sem, map_getD hlt, Int.toNat_natCast, Int.natCast_nonneg, hlt']
    repeat refine ⟨ob, ?_⟩
    refine hK _ ?_
    clear K' hK
    simp only [go_sem]
    refine kp [1,3,4] [[1, 0],[22, 0],[38, 0],[54, 0]] ?_
    repeat refine sq ?_
    refine cl_r hΓ fun K' hK => ?_
    simp only [go_sem, map_getD hlt, Int.toNat_natCast, Int.natCast_nonneg, hlt']
    repeat refine ⟨ob, ?_⟩
    refine hK _ ?_
    clear K' hK
    simp only [go_sem]
    refine ⟨i + 1, hlt, by (show l.rs.length - (i + 1) < l.rs.length - i; omega), ?_⟩
    refine weak_eq [1,3,4] [[1, 0],[22, 0],[38, 0],[54, 0]] ?_ ?_
    · simp only [go_sem, wrap_succ hlt hlr, Int.natCast_add, Int.natCast_one, sn_next hlt, List.map_append, List.length_append, List.map_cons, List.map_nil, List.length_cons, List.length_nil]
    · simp only [go_sem, wrap_succ hlt hlr, Int.natCast_add, Int.natCast_one, sn_next hlt, List.map_append, List.length_append, List.map_cons, List.map_nil, List.length_cons, List.length_nil]
  · skip
    have hge : i = l.rs.length := by
      have : ¬ (i : Int) < l.rs.length := by simpa using hb
      omega
    clear hb
    subst hge
    repeat refine sq ?_
    refine cl_exit ?_
    simp only [go_sem]
    refine kp [1,3] [[1, 0],[22, 0],[38, 0],[54, 0]] ?_
    repeat refine sq ?_
    refine rs hΓ [1,3,5] [[1, 0],[22, 0],[38, 0],[54, 0]] ?_
    repeat refine sq ?_
    refine cl_block ?_
    repeat refine sq ?_
    refine cl_loop' (fun s : Nat => [(5, ⟨true, .v (vInt s)⟩), (3, ⟨true, .msl [22, 0] (sn (sn [] Rec.so l.rs l.rs.length) Ret.so l.ts s).length⟩)]) (fun s => [([22, 0], .arr 1 ((sn (sn [] Rec.so l.rs l.rs.length) Ret.so l.ts s).map vInt))]) (fun s => s ≤ l.ts.length) (fun s => l.ts.length - s) 0 ?_ ?_ ?_ ?_
    · exact Nat.zero_le _
    · rfl
    · rfl
    rintro i hi
    simp only [go_sem]
    repeat refine sq ?_
    refine rs hΓ [1,3,5,27] [[1, 0],[22, 0],[38, 0],[54, 0]] ?_
    repeat refine sq ?_
    refine cl_cond rfl rfl (fun hb => ?_) fun hb => ?_
    · skip
      have hlt1 : i < l.ts.length := by simpa using hb
      have hlt1' : (i : Int) < l.ts.length := by omega
      clear hb
      have hsl : (sn (sn [] Rec.so l.rs l.rs.length) Ret.so l.ts i).length = l.rs.length + i := by rw [sn_len (by omega), sn_len (Nat.le_refl _)]; simp
      repeat refine sq ?_
      refine cl_skip ?_
      repeat refine sq ?_
      refine cl_block ?_
      repeat refine sq ?_
      refine cl_r hΓ fun K' hK => ?_
      simp only [go_sem, map_getD hlt1, Int.toNat_natCast, Int.natCast_nonneg, hlt1']
      repeat refine ⟨ob, ?_⟩
      refine hK _ ?_
      clear K' hK
      simp only [go_sem]
      refine kp [1,3,5] [[1, 0],[22, 0],[38, 0],[54, 0]] ?_
      repeat refine sq ?_
      refine cl_r hΓ fun K' hK => ?_
      simp only [go_sem, map_getD hlt1, Int.toNat_natCast, Int.natCast_nonneg, hlt1']
      repeat refine ⟨ob, ?_⟩
      refine hK _ ?_
      clear K' hK
      simp only [go_sem]
      refine ⟨i + 1, hlt1, by (show l.ts.length - (i + 1) < l.ts.length - i; omega), ?_⟩
      refine weak_eq [1,3,5] [[1, 0],[22, 0],[38, 0],[54, 0]] ?_ ?_
      · simp only [go_sem, wrap_succ hlt1 hlt_, Int.natCast_add, Int.natCast_one, sn_next hlt1, List.map_append, List.length_append, List.map_cons, List.map_nil, List.length_cons, List.length_nil]
      · simp only [go_sem, wrap_succ hlt1 hlt_, Int.natCast_add, Int.natCast_one, sn_next hlt1, List.map_append, List.length_append, List.map_cons, List.map_nil, List.length_cons, List.length_nil]
    · skip
      have hge1 : i = l.ts.length := by
        have : ¬ (i : Int) < l.ts.length := by simpa using hb
        omega
      clear hb
      subst hge1
      repeat refine sq ?_
      refine cl_exit ?_
      simp only [go_sem]
      refine kp [1,3] [[1, 0],[22, 0],[38, 0],[54, 0]] ?_
      repeat refine sq ?_
      refine rs hΓ [1,3,6] [[1, 0],[22, 0],[38, 0],[54, 0]] ?_
      repeat refine sq ?_
      refine cl_block ?_
      repeat refine sq ?_
      refine cl_loop' (fun s : Nat => [(6, ⟨true, .v (vInt s)⟩), (3, ⟨true, .msl [22, 0] (sn (sn (sn [] Rec.so l.rs l.rs.length) Ret.so l.ts l.ts.length) Sig.so l.ss s).length⟩)]) (fun s => [([22, 0], .arr 1 ((sn (sn (sn [] Rec.so l.rs l.rs.length) Ret.so l.ts l.ts.length) Sig.so l.ss s).map vInt))]) (fun s => s ≤ l.ss.length) (fun s => l.ss.length - s) 0 ?_ ?_ ?_ ?_
      · exact Nat.zero_le _
      · rfl
      · rfl
      rintro i hi
      simp only [go_sem]
      repeat refine sq ?_
      refine rs hΓ [1,3,6,43] [[1, 0],[22, 0],[38, 0],[54, 0]] ?_
      repeat refine sq ?_
      refine cl_cond rfl rfl (fun hb => ?_) fun hb => ?_
      · skip
        have hlt2 : i < l.ss.length := by simpa using hb
        have hlt2' : (i : Int) < l.ss.length := by omega
        clear hb
        have hsl : (sn (sn (sn [] Rec.so l.rs l.rs.length) Ret.so l.ts l.ts.length) Sig.so l.ss i).length = l.rs.length + l.ts.length + i := by rw [sn_len (by omega), sn_len (Nat.le_refl _), sn_len (Nat.le_refl _)]; simp
        repeat refine sq ?_
        refine cl_skip ?_
        repeat refine sq ?_
        refine cl_block ?_
        repeat refine sq ?_
        refine cl_r hΓ fun K' hK => ?_
        simp only [go_sem, map_getD hlt2, Int.toNat_natCast, Int.natCast_nonneg, hlt2']
        repeat refine ⟨ob, ?_⟩
        refine hK _ ?_
        clear K' hK
        simp only [go_sem]
        refine kp [1,3,6] [[1, 0],[22, 0],[38, 0],[54, 0]] ?_
        repeat refine sq ?_
        refine cl_r hΓ fun K' hK => ?_
        simp only [go_sem, map_getD hlt2, Int.toNat_natCast, Int.natCast_nonneg, hlt2']
        repeat refine ⟨ob, ?_⟩
        refine hK _ ?_
        clear K' hK
        simp only [go_sem]
        refine ⟨i + 1, hlt2, by (show l.ss.length - (i + 1) < l.ss.length - i; omega), ?_⟩
        refine weak_eq [1,3,6] [[1, 0],[22, 0],[38, 0],[54, 0]] ?_ ?_
        · simp only [go_sem, wrap_succ hlt2 hls, Int.natCast_add, Int.natCast_one, sn_next hlt2, List.map_append, List.length_append, List.map_cons, List.map_nil, List.length_cons, List.length_nil]
        · simp only [go_sem, wrap_succ hlt2 hls, Int.natCast_add, Int.natCast_one, sn_next hlt2, List.map_append, List.length_append, List.map_cons, List.map_nil, List.length_cons, List.length_nil]
      · skip
        have hge2 : i = l.ss.length := by
          have : ¬ (i : Int) < l.ss.length := by simpa using hb
          omega
        clear hb
        subst hge2
        repeat refine sq ?_
        refine cl_exit ?_
        simp only [go_sem]
        refine kp [3] [[22, 0],[38, 0],[54, 0]] ?_
        repeat refine sq ?_
        refine rs hΓ [2] [[22, 0],[38, 0],[54, 0]] ?_
        refine cl_ret ?_
        simp only [go_sem]
        rw [srcs_sn]
theorem k125 : SSound Tryz.prog 125 S125 := s125.sound
noncomputable def P156 : PSpec := p1 iIs (fun _ => True) (fun l => .bool (decide l.Nodup)) true
noncomputable def S156 : Spec := P156.toSpec
attribute [go_sem] P156 S156

set_option maxHeartbeats 4000000 in
theorem s156 : PSound Tryz.prog 156 P156 := by
  refine w1 (rs := [.tmp 2]) Tryz.func156 Tryz.ntmps156 (by rfl) (by kernel_rfl) (by decide) (fun _ _ => rfl) ⟨_, rfl, lb rfl, fun l hp hw => ?_⟩
  have hP := mixedK
  simp only [iIs] at hw ⊢
  have hΓ := @no_sound Tryz.prog
  have hl : l.length ≤ maxLen := by have := hw.1.1; simpa using this
  repeat refine sq ?_
  refine rs hΓ [0] [] ?_
  repeat refine sq ?_
  refine rs hΓ [0,3] [] ?_
  repeat refine sq ?_
  refine cl_block ?_
  repeat refine sq ?_
  refine cl_loop' (fun s : Nat => [(3, ⟨true, .v (vInt s)⟩)]) (fun s => []) (fun s => s ≤ l.length ∧ ∀ a b (ha : a < l.length) (hb : b < l.length), a < s → b < a → l[b] ≠ l[a]) (fun s => l.length - s) 0 ?_ ?_ ?_ ?_
  · exact ⟨Nat.zero_le _, fun a b _ _ h => by omega⟩
  · rfl
  · rfl
  rintro i ⟨hi, hR⟩
  simp only [go_sem]
  repeat refine sq ?_
  refine rs hΓ [0,3,8] [] ?_
  repeat refine sq ?_
  refine cl_cond rfl rfl (fun hb => ?_) fun hb => ?_
  · skip
    have hlt : i < l.length := by simpa using hb
    have hlt' : (i : Int) < l.length := by omega
    clear hb
    repeat refine sq ?_
    refine cl_skip ?_
    repeat refine sq ?_
    refine cl_block ?_
    repeat refine sq ?_
    refine rx hΓ [0,3,4] [] (fun K' hK => by simp only [go_sem, map_getD hlt, Int.toNat_natCast, Int.natCast_nonneg, hlt']; (repeat (refine ⟨ob, ?_⟩)); exact hK _ (by simp only [go_sem]) (by simp only [go_sem] <;> rfl)) ?_
    repeat refine sq ?_
    refine cl_block ?_
    repeat refine sq ?_
    refine cl_loop' (fun s : Nat => [(4, ⟨true, .v (vInt s)⟩)]) (fun s => []) (fun s => s ≤ i ∧ ∀ b (hb : b < l.length), b < s → l[b] ≠ l[i]) (fun s => i - s) 0 ?_ ?_ ?_ ?_
    · exact ⟨Nat.zero_le _, fun b _ h => by omega⟩
    · rfl
    · rfl
    rintro k ⟨hi1, hR1⟩
    simp only [go_sem]
    repeat refine sq ?_
    refine rx hΓ [0,3,4,13] [] (fun K' hK => by simp only [go_sem, map_getD hlt, Int.toNat_natCast, Int.natCast_nonneg, hlt']; (repeat (refine ⟨ob, ?_⟩)); exact hK _ (by simp only [go_sem]) (by simp only [go_sem] <;> rfl)) ?_
    repeat refine sq ?_
    refine cl_cond rfl rfl (fun hb => ?_) fun hb => ?_
    · skip
      have hlt1 : k < i := by simpa using hb
      have hlt1' : (k : Int) < i := by omega
      clear hb
      have hk' : (k : Int) < l.length := by omega
      repeat refine sq ?_
      refine cl_skip ?_
      repeat refine sq ?_
      refine cl_block ?_
      repeat refine sq ?_
      refine dx hΓ hP [[], [], [0, 1], [0, 1, 2], [], [], [4, 5], [4, 5, 6], [0, 1, 2, 3, 4, 5, 6, 7]] [0,3,4,24] [] (by kernel_rfl) (fun K' hK => by simp only [go_sem, map_getD hlt, Int.toNat_natCast, Int.natCast_nonneg, hlt', map_getD hlt, map_getD (show k < l.length by omega), Int.toNat_natCast, Int.natCast_nonneg, hlt', hk']; (repeat (refine ⟨ob, ?_⟩)); (first | refine ⟨by rfl, ?_⟩ | skip); exact hK _ (by simp only [go_sem]) (by simp only [go_sem] <;> rfl)) ?_
      repeat refine sq ?_
      refine cl_cond rfl rfl (fun hb => ?_) fun hb => ?_
      · skip
        repeat refine sq ?_
        have hbad : ¬ l.Nodup := by
          intro h
          rw [List.nodup_iff_pairwise_ne, List.pairwise_iff_getElem] at h
          exact h k i (by omega) hlt hlt1 (by simpa using (by simpa using hb : l[i] = l[k]).symm)
        repeat refine sq ?_
        refine rx hΓ [2] [] (fun K' hK => by simp only [go_sem, map_getD hlt, Int.toNat_natCast, Int.natCast_nonneg, hlt', map_getD hlt, map_getD (show k < l.length by omega), Int.toNat_natCast, Int.natCast_nonneg, hlt', hk']; (repeat (refine ⟨ob, ?_⟩)); exact hK _ (by simp only [go_sem]) (by simp only [go_sem] <;> rfl)) ?_
        refine cl_ret ?_
        simp only [go_sem]
        simp [hbad]
      · skip
        repeat refine sq ?_
        refine cl_skip ?_
        refine cl_nil ?_
        simp only [go_sem]
        refine kp [0,3,4] [] ?_
        repeat refine sq ?_
        refine cl_r hΓ fun K' hK => ?_
        simp only [go_sem, map_getD hlt, Int.toNat_natCast, Int.natCast_nonneg, hlt', map_getD hlt, map_getD (show k < l.length by omega), Int.toNat_natCast, Int.natCast_nonneg, hlt', hk']
        repeat refine ⟨ob, ?_⟩
        refine hK _ ?_
        clear K' hK
        simp only [go_sem]
        refine ⟨k + 1, ⟨hlt1, ?_⟩, by (show i - (k + 1) < i - k; omega), ?_⟩
        · skip
          intro b hb2 hbk
          rcases Nat.lt_succ_iff_lt_or_eq.1 hbk with h1 | rfl
          · exact hR1 b hb2 h1
          · intro e; rw [e] at hb; simp at hb
        refine weak_eq [0,3,4] [] ?_ ?_
        · simp only [go_sem, wrap_succ hlt1 (by omega), Int.natCast_add, Int.natCast_one]
        · simp only [go_sem, wrap_succ hlt1 (by omega), Int.natCast_add, Int.natCast_one]
    · skip
      have hge1 : k = i := by
        have : ¬ (k : Int) < i := by simpa using hb
        omega
      clear hb
      skip
      repeat refine sq ?_
      refine cl_exit ?_
      simp only [go_sem]
      refine kp [0,3] [] ?_
      repeat refine sq ?_
      refine cl_r hΓ fun K' hK => ?_
      simp only [go_sem, map_getD hlt, Int.toNat_natCast, Int.natCast_nonneg, hlt']
      repeat refine ⟨ob, ?_⟩
      refine hK _ ?_
      clear K' hK
      simp only [go_sem]
      refine ⟨i + 1, ⟨hlt, ?_⟩, by (show l.length - (i + 1) < l.length - i; omega), ?_⟩
      · skip
        intro a b ha hb2 hai hba
        rcases Nat.lt_succ_iff_lt_or_eq.1 hai with h1 | rfl
        · exact hR a b ha hb2 h1 hba
        · exact hR1 b hb2 (by omega)
      refine weak_eq [0,3] [] ?_ ?_
      · simp only [go_sem, wrap_succ hlt hl, Int.natCast_add, Int.natCast_one]
      · simp only [go_sem, wrap_succ hlt hl, Int.natCast_add, Int.natCast_one]
  · skip
    have hge : i = l.length := by
      have : ¬ (i : Int) < l.length := by simpa using hb
      omega
    clear hb
    subst hge
    repeat refine sq ?_
    refine cl_exit ?_
    simp only [go_sem]
    refine kp [] [] ?_
    repeat refine sq ?_
    refine rs hΓ [2] [] ?_
    refine cl_ret ?_
    simp only [go_sem]
    have hgood : l.Nodup := by
      rw [List.nodup_iff_pairwise_ne, List.pairwise_iff_getElem]
      exact fun a b ha hb hab => hR b a hb ha hb hab
    simp [hgood]
theorem k156 : SSound Tryz.prog 156 S156 := s156.sound
noncomputable def K8a : List (Nat × Spec) := [(146, S146), (84, S84)]
theorem K8a_sound : ∀ f s, tbl K8a f = some s → SSound Tryz.prog f s := tc k146 <| tc k84 <| tn
attribute [go_sem] K8a

def isFol (l : Led) (pa le : Int) : Bool := inI le 1 (lvOf l.ps pa)
structure Fol where
  (pa le : Int)
  deriving Inhabited, DecidableEq
def encFo (f : Fol) : V := .agg [vInt f.pa, vInt f.le]
def decFo : V → Fol
  | .agg [.int _ a, .int _ b] => ⟨a, b⟩
  | _ => default
def iFo : En Fol := ⟨encFo, decFo⟩
attribute [go_sem] encFo decFo iFo

@[go_sem] theorem etaFo (p : Fol) : (⟨p.pa, p.le⟩ : Fol) = p := rfl
noncomputable def P100 : PSpec := p2 iL iFo (fun _ _ => True) (fun l f => .bool (isFol l f.pa f.le)) true
noncomputable def S100 : Spec := P100.toSpec
attribute [go_sem] P100 S100

theorem s100 : PSound Tryz.prog 100 P100 := by
  refine w2 (rs := [.tmp 4]) Tryz.func100 Tryz.ntmps100 (by rfl) (by kernel_rfl) (by decide) (fun _ _ _ => rfl) ⟨_, rfl, lb rfl, fun l f hp hw => ?_⟩
  have hP := mixedK
  simp only [iFo, iL, encFo, encL] at hw ⊢
  have hΓ := K8a_sound
  repeat refine sq ?_
  refine rs hΓ [2,3] [[2, 0],[3, 0]] ?_
  repeat refine sq ?_
  refine dx hΓ hP [[], [0], [], [], [3], [2, 3, 4], [0, 1, 2, 3, 4, 5], [0, 1, 2, 3, 4, 5, 6]] [4] [] (by kernel_rfl) (fun K' hK => by simp only [go_sem]; (repeat (refine ⟨ob, ?_⟩)); (first | refine ⟨by rfl, ?_⟩ | skip); exact hK _ (by simp only [go_sem]) (by simp only [go_sem] <;> rfl)) ?_
  refine cl_ret ?_
  simp only [go_sem]
  all_goals first | rfl | (simp; done) | (grind [isFol]; done)
theorem k100 : SSound Tryz.prog 100 S100 := s100.sound
/-! a valid ledger, by the reference: Check -/
noncomputable def K9 : List (Nat × Spec) := [(62, S62), (64, S64), (66, S66), (68, S68), (100, S100), (125, S125), (156, S156)]
theorem K9_sound : ∀ f s, tbl K9 f = some s → SSound Tryz.prog f s := tc k62 <| tc k64 <| tc k66 <| tc k68 <| tc k100 <| tc k125 <| tc k156 <| tn
attribute [go_sem] K9

theorem last_at (r : Rec) (hl : r.lv.length ≤ maxLen) : ∃ kd x, (r.lv.map vInt).getD (IntKind.i64.wrap ((r.lv.length : Int) - 1)).toNat default = .int kd x ∧
    (recB r = true → kd = .i64 ∧ x = lastOf r.lv ∧ 0 ≤ IntKind.i64.wrap ((r.lv.length : Int) - 1) ∧ IntKind.i64.wrap ((r.lv.length : Int) - 1) < r.lv.length) := by
  by_cases h : r.lv.length = 0
  · have e : r.lv = [] := List.length_eq_zero_iff.1 h
    refine ⟨default, default, ?_, fun hb => ?_⟩
    · rw [e]; rfl
    · have := recB_lv hb; omega
  · have hw := wrap_pred h hl
    have h2 : r.lv.length - 1 < r.lv.length := by omega
    refine ⟨.i64, lastOf r.lv, ?_, fun _ => ⟨rfl, rfl, ?_⟩⟩
    · rw [hw, Int.toNat_natCast, map_getD h2]
      unfold lastOf
      rw [getD_at h2]
    · rw [hw]; omega
theorem lastOf_pos {l : List Int} (h : leavesB l = true) : 1 ≤ lastOf l := by
  obtain ⟨h1, _, _, h4⟩ := leavesB_iff.1 h
  have h2 : l.length - 1 < l.length := by omega
  have := h4 _ h2
  unfold lastOf
  rw [getD_at h2]
  unfold inI at this
  simp only [Bool.and_eq_true, decide_eq_true_eq] at this
  exact this.1
theorem recB_lvs {r : Rec} (h : recB r = true) : leavesB r.lv = true := by
  unfold recB at h
  simp only [Bool.and_eq_true] at h
  exact h.1.1.2
theorem or_len {a b c d : Int} {n m o p : Int} (h : (decide (a > n) || decide (b > m) || decide (c > o) || decide (d > p)) = false) : a ≤ n ∧ b ≤ m ∧ c ≤ o ∧ d ≤ p := by
  simp only [Bool.or_eq_false_iff, decide_eq_false_iff_not] at h
  omega
noncomputable def P69 : PSpec := p1 iL (fun _ => True) (fun l => vInt (chkI l)) true
noncomputable def S69 : Spec := P69.toSpec
attribute [go_sem] P69 S69

set_option maxHeartbeats 8000000 in
theorem s69 : PSound Tryz.prog 69 P69 := by
  refine w1 (rs := [.tmp 2]) Tryz.func69 Tryz.ntmps69 (by rfl) (by kernel_rfl) (by decide) (fun _ _ => rfl) ⟨_, rfl, lb rfl, fun l hp hw => ?_⟩
  have hP := mixedK
  simp only [iL, encL] at hw ⊢
  have hΓ := K9_sound
  repeat refine sq ?_
  refine rs hΓ [1] [[1, 0]] ?_
  repeat refine sq ?_
  refine rs hΓ [1,30] [[1, 0]] ?_
  repeat refine sq ?_
  refine cl_cond rfl rfl (fun hb => ?_) fun hb => ?_
  · skip
    repeat refine sq ?_
    have hbad : ¬ OkL l := by
      intro h
      have h1 := h.psn
      have h2 := h.rsn
      have h3 := h.tsn
      have h4 := h.ssn
      simp only [Bool.or_eq_true, decide_eq_true_eq] at hb
      omega
    repeat refine sq ?_
    refine rs hΓ [2] [] ?_
    refine cl_ret ?_
    simp only [go_sem]
    rw [chkI_bad hbad]
  · skip
    repeat refine sq ?_
    obtain ⟨hpn, hrn, htn, hsn⟩ := or_len hb
    have hlp : l.ps.length ≤ maxLen := by unfold maxLen; omega
    have hlr : l.rs.length ≤ maxLen := by unfold maxLen; omega
    have hlt_ : l.ts.length ≤ maxLen := by unfold maxLen; omega
    have hls : l.ss.length ≤ maxLen := by unfold maxLen; omega
    have hsh : shortL l := ⟨by omega, by omega, by omega⟩
    clear hb
    refine cl_skip ?_
    repeat refine sq ?_
    refine rs hΓ [1,3] [[1, 0]] ?_
    repeat refine sq ?_
    refine cl_block ?_
    repeat refine sq ?_
    refine cl_loop' (fun s : Nat => [(3, ⟨true, .v (vInt s)⟩)]) (fun s => []) (fun s => s ≤ l.ps.length ∧ okL papB Pap.id l.ps s) (fun s => l.ps.length - s) 0 ?_ ?_ ?_ ?_
    · exact ⟨Nat.zero_le _, okL_zero⟩
    · rfl
    · rfl
    rintro i ⟨hi, hR⟩
    simp only [go_sem]
    repeat refine sq ?_
    refine rs hΓ [1,3,35] [[1, 0]] ?_
    repeat refine sq ?_
    refine cl_cond rfl rfl (fun hb => ?_) fun hb => ?_
    · skip
      have hlt : i < l.ps.length := by simpa using hb
      have hlt' : (i : Int) < l.ps.length := by omega
      clear hb
      obtain ⟨p, hp, hpl, hpos⟩ := prev_at hlt hlp
      repeat refine sq ?_
      refine cl_skip ?_
      repeat refine sq ?_
      refine cl_block ?_
      repeat refine sq ?_
      refine dx hΓ hP [[], [0], [], [0, 1, 2], [0, 1, 2, 3], [0, 1, 2, 3, 4], [0, 1, 2, 3, 4, 5], [0, 1, 2, 3, 4, 5, 6], [0, 1, 2, 3, 4, 5, 6, 7], [0, 1, 2, 3, 4, 5, 6, 7, 8], [0, 1, 2, 3, 4, 5, 6, 7, 8, 9], [0, 1, 2, 3, 4, 5, 6, 7, 8, 9, 10], [0, 1, 2, 3, 4, 5, 6, 7, 8, 9, 10, 11], [0, 1, 2, 3, 4, 5, 6, 7, 8, 9, 10], [0, 1, 2, 3, 4, 5, 6, 7, 8, 9, 10, 13], [0, 1, 2, 3, 4, 5, 6, 7, 8, 9, 10, 11, 12, 13, 14], [0, 1, 2, 3, 4, 5, 6, 7, 8, 9, 10, 11, 12, 13, 14, 15], [0, 1, 2, 3, 4, 5, 6, 7, 8, 9, 10, 11, 12, 13, 14, 15, 16], [0, 1, 2, 3, 4, 5, 6, 7, 8, 9, 10], [0, 1, 2, 3, 4, 5, 6, 7, 8, 9, 10, 18], [0, 1, 2, 3, 4, 5, 6, 7, 8, 9, 10], [0, 1, 2, 3, 4, 5, 6, 7, 8, 9, 10, 18, 19, 20], [0, 1, 2, 3, 4, 5, 6, 7, 8, 9, 10, 18, 19, 20, 21], [0, 1, 2, 3, 4, 5, 6, 7, 8, 9, 10, 18, 19, 20, 21, 22], [0, 1, 2, 3, 4, 5, 6, 7, 8, 9, 10, 11, 12, 13, 14, 15, 16, 17, 18, 19, 20, 21, 22, 23], [0, 1, 2, 3, 4, 5, 6, 7, 8, 9, 10, 11, 12, 13, 14, 15, 16, 17, 18, 19, 20, 21, 22, 23, 24], [0, 1, 2, 3, 4, 5, 6, 7, 8, 9, 10, 11, 12, 13, 14, 15, 16, 17, 18, 19, 20, 21, 22, 23, 24, 25]] [1,3,64] [[1, 0]] (by kernel_rfl) (fun K' hK => by simp only [go_sem, map_getD hlt, Int.toNat_natCast, Int.natCast_nonneg, hlt', hp, map_getD hpl, fun b => errI_ne b 20 (by decide)]; (repeat (refine ⟨by first | exact ob | (intro h; have := hpos (by simp_all); simp_all; done), ?_⟩)); (first | refine ⟨by rfl, ?_⟩ | skip); exact hK _ (by simp only [go_sem]) (by simp only [go_sem] <;> rfl)) ?_
      repeat refine sq ?_
      refine cl_cond rfl rfl (fun hb => ?_) fun hb => ?_
      · skip
        repeat refine sq ?_
        have hbad : ¬ OkL l := by
          intro h
          obtain ⟨h1, h2⟩ := allB_iff.1 h.ps i hlt hlt
          simp only [h1, Bool.not_true, Bool.false_or, Bool.and_eq_true, decide_eq_true_eq] at hb
          obtain ⟨e, _⟩ := hpos (by omega)
          subst e
          have := h2 (by omega)
          have := hb.2
          omega
        repeat refine sq ?_
        refine rx hΓ [2] [] (fun K' hK => by simp only [go_sem, map_getD hlt, Int.toNat_natCast, Int.natCast_nonneg, hlt']; (repeat (refine ⟨ob, ?_⟩)); exact hK _ (by simp only [go_sem]) (by simp only [go_sem] <;> rfl)) ?_
        refine cl_ret ?_
        simp only [go_sem]
        rw [chkI_bad hbad]
      · skip
        repeat refine sq ?_
        have hn : papB l.ps[i] = true ∧ (0 < i → Pap.id l.ps[i - 1] < Pap.id l.ps[i]) := by
          simp only [Bool.or_eq_false_iff, Bool.not_eq_false', Bool.and_eq_false_iff, decide_eq_false_iff_not] at hb
          refine ⟨hb.1, fun h => ?_⟩
          obtain ⟨e, _⟩ := hpos h
          subst e
          omega
        refine cl_skip ?_
        refine cl_nil ?_
        simp only [go_sem]
        refine kp [1,3] [[1, 0]] ?_
        repeat refine sq ?_
        refine cl_r hΓ fun K' hK => ?_
        simp only [go_sem, map_getD hlt, Int.toNat_natCast, Int.natCast_nonneg, hlt']
        repeat refine ⟨ob, ?_⟩
        refine hK _ ?_
        clear K' hK
        simp only [go_sem]
        refine ⟨i + 1, ⟨hlt, ?_⟩, by (show l.ps.length - (i + 1) < l.ps.length - i; omega), ?_⟩
        · skip
          exact okL_succ hR hlt hn
        refine weak_eq [1,3] [[1, 0]] ?_ ?_
        · simp only [go_sem, wrap_succ hlt hlp, Int.natCast_add, Int.natCast_one]
        · simp only [go_sem, wrap_succ hlt hlp, Int.natCast_add, Int.natCast_one]
    · skip
      have hge : i = l.ps.length := by
        have : ¬ (i : Int) < l.ps.length := by simpa using hb
        omega
      clear hb
      subst hge
      repeat refine sq ?_
      refine cl_exit ?_
      simp only [go_sem]
      refine kp [1] [[1, 0]] ?_
      repeat refine sq ?_
      refine rs hΓ [1,4] [[1, 0]] ?_
      repeat refine sq ?_
      refine cl_block ?_
      repeat refine sq ?_
      refine cl_loop' (fun s : Nat => [(4, ⟨true, .v (vInt s)⟩)]) (fun s => []) (fun s => s ≤ l.rs.length ∧ okL recB Rec.so l.rs s ∧ recTo l s) (fun s => l.rs.length - s) 0 ?_ ?_ ?_ ?_
      · exact ⟨Nat.zero_le _, okL_zero, fun j _ h => by omega⟩
      · rfl
      · rfl
      rintro i ⟨hi1, hR1, hR1'⟩
      simp only [go_sem]
      repeat refine sq ?_
      refine rs hΓ [1,4,69] [[1, 0]] ?_
      repeat refine sq ?_
      refine cl_cond rfl rfl (fun hb => ?_) fun hb => ?_
      · skip
        have hlt1 : i < l.rs.length := by simpa using hb
        have hlt1' : (i : Int) < l.rs.length := by omega
        clear hb
        obtain ⟨p, hp, hpl, hpos⟩ := prev_at hlt1 hlr
        have hvl : l.rs[i].lv.length ≤ maxLen := by
          have h1 := wfL_mem hw _ (List.mem_singleton.2 rfl)
          simp only [V.wf, V.wfL] at h1
          have h2 := wfL_mem h1.2.1.2 (encR l.rs[i]) (List.mem_map_of_mem (List.getElem_mem hlt1))
          simp only [encR, V.wf, V.wfL, List.length_map] at h2
          exact h2.2.2.2.1.1
        obtain ⟨kd, x, hgl, hlast⟩ := last_at l.rs[i] hvl
        repeat refine sq ?_
        refine cl_skip ?_
        repeat refine sq ?_
        refine cl_block ?_
        repeat refine sq ?_
        refine rx hΓ [1,4,5] [[1, 0],[5, 0]] (fun K' hK => by simp only [go_sem, map_getD hlt1, Int.toNat_natCast, Int.natCast_nonneg, hlt1']; (repeat (refine ⟨ob, ?_⟩)); exact hK _ (by simp only [go_sem]) (by simp only [go_sem] <;> rfl)) ?_
        repeat refine sq ?_
        refine dx hΓ hP [[], [0], [0, 1], [0, 1, 2], [0, 1, 2, 3], [0, 1, 2, 3, 4], [0, 1, 2, 3, 4, 5], [0, 1, 2, 3, 4, 5, 6], [0, 1, 2, 3, 4, 5, 6, 7], [0, 1, 2, 3, 4, 5, 6], [0, 1, 2, 3, 4, 5, 6, 9], [0, 1, 2, 3, 4, 5, 6, 7, 8, 9, 10], [0, 1, 2, 3, 4, 5, 6, 7, 8, 9, 10, 11], [0, 1, 2, 3, 4, 5, 6, 7, 8, 9, 10, 11, 12], [0, 1, 2, 3, 4, 5, 6], [0, 1, 2, 3, 4, 5, 6, 14], [0, 1, 2, 3, 4, 5, 6, 7, 8, 9, 10, 11, 12, 13, 14, 15], [0, 1, 2, 3, 4, 5, 6, 7, 8, 9, 10, 11, 12, 13, 14, 15, 16], [0, 1, 2, 3, 4, 5, 6, 7, 8, 9, 10, 11, 12, 13, 14, 15, 16, 17], [0, 1, 2, 3, 4, 5, 6, 7, 8, 9, 10, 11, 12, 13, 14, 15, 16, 17, 18], [0, 1, 2, 3, 4, 5, 6, 7, 8, 9, 10, 11, 12, 13, 14, 15, 16, 17, 18, 19], [0, 1, 2, 3, 4, 5, 6, 7, 8, 9, 10, 11, 12, 13, 14, 15, 16, 17, 18, 19], [0, 1, 2, 3, 4, 5, 6, 7, 8, 9, 10, 11, 12, 13, 14, 15, 16, 17, 18, 19, 21], [0, 1, 2, 3, 4, 5, 6, 7, 8, 9, 10, 11, 12, 13, 14, 15, 16, 17, 18, 19], [0, 1, 2, 3, 4, 5, 6, 7, 8, 9, 10, 11, 12, 13, 14, 15, 16, 17, 18, 19, 23], [0, 1, 2, 3, 4, 5, 6, 7, 8, 9, 10, 11, 12, 13, 14, 15, 16, 17, 18, 19], [0, 1, 2, 3, 4, 5, 6, 7, 8, 9, 10, 11, 12, 13, 14, 15, 16, 17, 18, 19, 25], [0, 1, 2, 3, 4, 5, 6, 7, 8, 9, 10, 11, 12, 13, 14, 15, 16, 17, 18, 19, 25, 26], [0, 1, 2, 3, 4, 5, 6, 7, 8, 9, 10, 11, 12, 13, 14, 15, 16, 17, 18, 19, 25, 26, 27], [0, 1, 2, 3, 4, 5, 6, 7, 8, 9, 10, 11, 12, 13, 14, 15, 16, 17, 18, 19, 23, 24, 25, 26, 27, 28], [0, 1, 2, 3, 4, 5, 6, 7, 8, 9, 10, 11, 12, 13, 14, 15, 16, 17, 18, 19, 23, 24, 25, 26, 27, 28, 29], [0, 1, 2, 3, 4, 5, 6, 7, 8, 9, 10, 11, 12, 13, 14, 15, 16, 17, 18, 19, 21, 22, 23, 24, 25, 26, 27, 28, 29, 30], [0, 1, 2, 3, 4, 5, 6, 7, 8, 9, 10, 11, 12, 13, 14, 15, 16, 17, 18, 19, 20, 21, 22, 23, 24, 25, 26, 27, 28, 29, 30, 31], [0, 1, 2, 3, 4, 5, 6, 7, 8, 9, 10, 11, 12, 13, 14, 15, 16, 17, 18, 19, 20, 21, 22, 23, 24, 25, 26, 27, 28, 29, 30, 31, 32], [0, 1, 2, 3, 4, 5, 6, 7, 8, 9, 10, 11, 12, 13, 14, 15, 16, 17, 18, 19, 20, 21, 22, 23, 24, 25, 26, 27, 28, 29, 30, 31, 32, 33]] [1,4,111] [[1, 0]] (by kernel_rfl) (fun K' hK => by simp only [go_sem, map_getD hlt1, Int.toNat_natCast, Int.natCast_nonneg, hlt1', hp, map_getD hpl, fun b => errI_ne b 21 (by decide), hgl]; (repeat (refine ⟨by first | exact ob | (intro h; have := hpos (by simp_all); simp_all; done) | (intro h; have := hlast (by simp_all); simp_all; done), ?_⟩)); (first | refine ⟨by rfl, ?_⟩ | skip); exact hK _ (by simp only [go_sem]) (by simp only [go_sem] <;> rfl)) ?_
        repeat refine sq ?_
        refine cl_cond rfl rfl (fun hb => ?_) fun hb => ?_
        · skip
          repeat refine sq ?_
          have hbad : ¬ OkL l := by
            intro h
            obtain ⟨h1, h2⟩ := allB_iff.1 h.rs i hlt1 hlt1
            obtain ⟨_, h4, _⟩ := hlast h1
            have h5 := h.rl i hlt1
            have h6 := lastOf_pos (recB_lvs h1)
            have h7 : isFol l l.rs[i].pa x = true := by unfold isFol inI; simp only [Bool.and_eq_true, decide_eq_true_eq]; omega
            simp only [h1, h7, Bool.not_true, Bool.false_or, Bool.or_false, Bool.and_eq_true, decide_eq_true_eq] at hb
            obtain ⟨e, _⟩ := hpos (by omega)
            subst e
            have := h2 (by omega)
            have := hb.2
            omega
          repeat refine sq ?_
          refine rx hΓ [2] [] (fun K' hK => by simp only [go_sem, map_getD hlt1, Int.toNat_natCast, Int.natCast_nonneg, hlt1']; (repeat (refine ⟨ob, ?_⟩)); exact hK _ (by simp only [go_sem]) (by simp only [go_sem] <;> rfl)) ?_
          refine cl_ret ?_
          simp only [go_sem]
          rw [chkI_bad hbad]
        · skip
          repeat refine sq ?_
          have hn : recB l.rs[i] = true ∧ (0 < i → Rec.so l.rs[i - 1] < Rec.so l.rs[i]) := by
            simp only [Bool.or_eq_false_iff, Bool.not_eq_false', Bool.and_eq_false_iff, decide_eq_false_iff_not] at hb
            refine ⟨hb.1.1, fun h => ?_⟩
            obtain ⟨e, _⟩ := hpos h
            subst e
            omega
          have hn2 : lastOf l.rs[i].lv ≤ lvOf l.ps l.rs[i].pa := by
            obtain ⟨_, h4, _⟩ := hlast hn.1
            simp only [Bool.or_eq_false_iff, Bool.not_eq_false'] at hb
            have := hb.2
            unfold isFol inI at this
            simp only [Bool.and_eq_true, decide_eq_true_eq] at this
            omega
          refine cl_skip ?_
          refine cl_nil ?_
          simp only [go_sem]
          refine kp [1,4] [[1, 0]] ?_
          repeat refine sq ?_
          refine cl_r hΓ fun K' hK => ?_
          simp only [go_sem, map_getD hlt1, Int.toNat_natCast, Int.natCast_nonneg, hlt1']
          repeat refine ⟨ob, ?_⟩
          refine hK _ ?_
          clear K' hK
          simp only [go_sem]
          refine ⟨i + 1, ⟨hlt1, ?_⟩, by (show l.rs.length - (i + 1) < l.rs.length - i; omega), ?_⟩
          · skip
            exact ⟨okL_succ hR1 hlt1 hn, fun j hj hji => by
              rcases Nat.lt_succ_iff_lt_or_eq.1 hji with h1 | rfl
              · exact hR1' j hj h1
              · exact hn2⟩
          refine weak_eq [1,4] [[1, 0]] ?_ ?_
          · simp only [go_sem, wrap_succ hlt1 hlr, Int.natCast_add, Int.natCast_one]
          · simp only [go_sem, wrap_succ hlt1 hlr, Int.natCast_add, Int.natCast_one]
      · skip
        have hge1 : i = l.rs.length := by
          have : ¬ (i : Int) < l.rs.length := by simpa using hb
          omega
        clear hb
        subst hge1
        repeat refine sq ?_
        refine cl_exit ?_
        simp only [go_sem]
        refine kp [1] [[1, 0]] ?_
        repeat refine sq ?_
        refine rs hΓ [1,6] [[1, 0]] ?_
        repeat refine sq ?_
        refine cl_block ?_
        repeat refine sq ?_
        refine cl_loop' (fun s : Nat => [(6, ⟨true, .v (vInt s)⟩)]) (fun s => []) (fun s => s ≤ l.ts.length ∧ okL retB Ret.so l.ts s) (fun s => l.ts.length - s) 0 ?_ ?_ ?_ ?_
        · exact ⟨Nat.zero_le _, okL_zero⟩
        · rfl
        · rfl
        rintro i ⟨hi2, hR2⟩
        simp only [go_sem]
        repeat refine sq ?_
        refine rs hΓ [1,6,116] [[1, 0]] ?_
        repeat refine sq ?_
        refine cl_cond rfl rfl (fun hb => ?_) fun hb => ?_
        · skip
          have hlt2 : i < l.ts.length := by simpa using hb
          have hlt2' : (i : Int) < l.ts.length := by omega
          clear hb
          obtain ⟨p, hp, hpl, hpos⟩ := prev_at hlt2 hlt_
          repeat refine sq ?_
          refine cl_skip ?_
          repeat refine sq ?_
          refine cl_block ?_
          repeat refine sq ?_
          refine dx hΓ hP [[], [0], [], [0, 1, 2], [0, 1, 2, 3], [0, 1, 2, 3, 4], [0, 1, 2, 3, 4, 5], [0, 1, 2, 3, 4, 5, 6], [0, 1, 2, 3, 4, 5, 6, 7], [0, 1, 2, 3, 4, 5, 6, 7, 8], [0, 1, 2, 3, 4, 5, 6, 7, 8, 9], [0, 1, 2, 3, 4, 5, 6, 7, 8, 9, 10], [0, 1, 2, 3, 4, 5, 6, 7, 8, 9, 10, 11], [0, 1, 2, 3, 4, 5, 6, 7, 8, 9, 10], [0, 1, 2, 3, 4, 5, 6, 7, 8, 9, 10, 13], [0, 1, 2, 3, 4, 5, 6, 7, 8, 9, 10, 11, 12, 13, 14], [0, 1, 2, 3, 4, 5, 6, 7, 8, 9, 10, 11, 12, 13, 14, 15], [0, 1, 2, 3, 4, 5, 6, 7, 8, 9, 10, 11, 12, 13, 14, 15, 16], [0, 1, 2, 3, 4, 5, 6, 7, 8, 9, 10], [0, 1, 2, 3, 4, 5, 6, 7, 8, 9, 10, 18], [0, 1, 2, 3, 4, 5, 6, 7, 8, 9, 10], [0, 1, 2, 3, 4, 5, 6, 7, 8, 9, 10, 18, 19, 20], [0, 1, 2, 3, 4, 5, 6, 7, 8, 9, 10, 18, 19, 20, 21], [0, 1, 2, 3, 4, 5, 6, 7, 8, 9, 10, 18, 19, 20, 21, 22], [0, 1, 2, 3, 4, 5, 6, 7, 8, 9, 10, 11, 12, 13, 14, 15, 16, 17, 18, 19, 20, 21, 22, 23], [0, 1, 2, 3, 4, 5, 6, 7, 8, 9, 10, 11, 12, 13, 14, 15, 16, 17, 18, 19, 20, 21, 22, 23, 24], [0, 1, 2, 3, 4, 5, 6, 7, 8, 9, 10, 11, 12, 13, 14, 15, 16, 17, 18, 19, 20, 21, 22, 23, 24, 25]] [1,6,145] [[1, 0]] (by kernel_rfl) (fun K' hK => by simp only [go_sem, map_getD hlt2, Int.toNat_natCast, Int.natCast_nonneg, hlt2', hp, map_getD hpl, fun b => errI_ne b 22 (by decide)]; (repeat (refine ⟨by first | exact ob | (intro h; have := hpos (by simp_all); simp_all; done), ?_⟩)); (first | refine ⟨by rfl, ?_⟩ | skip); exact hK _ (by simp only [go_sem]) (by simp only [go_sem] <;> rfl)) ?_
          repeat refine sq ?_
          refine cl_cond rfl rfl (fun hb => ?_) fun hb => ?_
          · skip
            repeat refine sq ?_
            have hbad : ¬ OkL l := by
              intro h
              obtain ⟨h1, h2⟩ := allB_iff.1 h.ts i hlt2 hlt2
              simp only [h1, Bool.not_true, Bool.false_or, Bool.and_eq_true, decide_eq_true_eq] at hb
              obtain ⟨e, _⟩ := hpos (by omega)
              subst e
              have := h2 (by omega)
              have := hb.2
              omega
            repeat refine sq ?_
            refine rx hΓ [2] [] (fun K' hK => by simp only [go_sem, map_getD hlt2, Int.toNat_natCast, Int.natCast_nonneg, hlt2']; (repeat (refine ⟨ob, ?_⟩)); exact hK _ (by simp only [go_sem]) (by simp only [go_sem] <;> rfl)) ?_
            refine cl_ret ?_
            simp only [go_sem]
            rw [chkI_bad hbad]
          · skip
            repeat refine sq ?_
            have hn : retB l.ts[i] = true ∧ (0 < i → Ret.so l.ts[i - 1] < Ret.so l.ts[i]) := by
              simp only [Bool.or_eq_false_iff, Bool.not_eq_false', Bool.and_eq_false_iff, decide_eq_false_iff_not] at hb
              refine ⟨hb.1, fun h => ?_⟩
              obtain ⟨e, _⟩ := hpos h
              subst e
              omega
            refine cl_skip ?_
            refine cl_nil ?_
            simp only [go_sem]
            refine kp [1,6] [[1, 0]] ?_
            repeat refine sq ?_
            refine cl_r hΓ fun K' hK => ?_
            simp only [go_sem, map_getD hlt2, Int.toNat_natCast, Int.natCast_nonneg, hlt2']
            repeat refine ⟨ob, ?_⟩
            refine hK _ ?_
            clear K' hK
            simp only [go_sem]
            refine ⟨i + 1, ⟨hlt2, ?_⟩, by (show l.ts.length - (i + 1) < l.ts.length - i; omega), ?_⟩
            · skip
              exact okL_succ hR2 hlt2 hn
            refine weak_eq [1,6] [[1, 0]] ?_ ?_
            · simp only [go_sem, wrap_succ hlt2 hlt_, Int.natCast_add, Int.natCast_one]
            · simp only [go_sem, wrap_succ hlt2 hlt_, Int.natCast_add, Int.natCast_one]
        · skip
          have hge2 : i = l.ts.length := by
            have : ¬ (i : Int) < l.ts.length := by simpa using hb
            omega
          clear hb
          subst hge2
          repeat refine sq ?_
          refine cl_exit ?_
          simp only [go_sem]
          refine kp [1] [[1, 0]] ?_
          repeat refine sq ?_
          refine rs hΓ [1,7] [[1, 0]] ?_
          repeat refine sq ?_
          refine cl_block ?_
          repeat refine sq ?_
          refine cl_loop' (fun s : Nat => [(7, ⟨true, .v (vInt s)⟩)]) (fun s => []) (fun s => s ≤ l.ss.length ∧ okL sigB Sig.so l.ss s ∧ sigTo l s) (fun s => l.ss.length - s) 0 ?_ ?_ ?_ ?_
          · exact ⟨Nat.zero_le _, okL_zero, fun j _ h => by omega⟩
          · rfl
          · rfl
          rintro i ⟨hi3, hR3, hR3'⟩
          simp only [go_sem]
          repeat refine sq ?_
          refine rs hΓ [1,7,150] [[1, 0]] ?_
          repeat refine sq ?_
          refine cl_cond rfl rfl (fun hb => ?_) fun hb => ?_
          · skip
            have hlt3 : i < l.ss.length := by simpa using hb
            have hlt3' : (i : Int) < l.ss.length := by omega
            clear hb
            obtain ⟨p, hp, hpl, hpos⟩ := prev_at hlt3 hls
            repeat refine sq ?_
            refine cl_skip ?_
            repeat refine sq ?_
            refine cl_block ?_
            repeat refine sq ?_
            refine rx hΓ [1,7,8] [[1, 0],[8, 0]] (fun K' hK => by simp only [go_sem, map_getD hlt3, Int.toNat_natCast, Int.natCast_nonneg, hlt3']; (repeat (refine ⟨ob, ?_⟩)); exact hK _ (by simp only [go_sem]) (by simp only [go_sem] <;> rfl)) ?_
            repeat refine sq ?_
            refine dx hΓ hP [[], [0], [0, 1], [0, 1, 2], [0, 1, 2, 3], [0, 1, 2, 3, 4], [0, 1, 2, 3, 4, 5], [0, 1, 2, 3, 4, 5, 6], [0, 1, 2, 3, 4, 5, 6, 7], [0, 1, 2, 3, 4, 5, 6], [0, 1, 2, 3, 4, 5, 6, 9], [0, 1, 2, 3, 4, 5, 6, 7, 8, 9, 10], [0, 1, 2, 3, 4, 5, 6, 7, 8, 9, 10, 11], [0, 1, 2, 3, 4, 5, 6, 7, 8, 9, 10, 11, 12], [0, 1, 2, 3, 4, 5, 6], [0, 1, 2, 3, 4, 5, 6, 14], [0, 1, 2, 3, 4, 5, 6, 7, 8, 9, 10, 11, 12, 13, 14, 15], [0, 1, 2, 3, 4, 5, 6, 7, 8, 9, 10, 11, 12, 13, 14, 15, 16], [0, 1, 2, 3, 4, 5, 6, 7, 8, 9, 10, 11, 12, 13, 14, 15, 16, 17], [0, 1, 2, 3, 4, 5, 6, 7, 8, 9, 10, 11, 12, 13, 14, 15, 16, 17, 18], [0, 1, 2, 3, 4, 5, 6, 7, 8, 9, 10, 11, 12, 13, 14, 15, 16, 17, 18, 19], [0, 1, 2, 3, 4, 5, 6, 7, 8, 9, 10, 11, 12, 13, 14, 15, 16, 17, 18, 19], [0, 1, 2, 3, 4, 5, 6, 7, 8, 9, 10, 11, 12, 13, 14, 15, 16, 17, 18, 19, 21], [0, 1, 2, 3, 4, 5, 6, 7, 8, 9, 10, 11, 12, 13, 14, 15, 16, 17, 18, 19], [0, 1, 2, 3, 4, 5, 6, 7, 8, 9, 10, 11, 12, 13, 14, 15, 16, 17, 18, 19, 23], [0, 1, 2, 3, 4, 5, 6, 7, 8, 9, 10, 11, 12, 13, 14, 15, 16, 17, 18, 19, 21, 22, 23, 24], [0, 1, 2, 3, 4, 5, 6, 7, 8, 9, 10, 11, 12, 13, 14, 15, 16, 17, 18, 19, 20, 21, 22, 23, 24, 25], [0, 1, 2, 3, 4, 5, 6, 7, 8, 9, 10, 11, 12, 13, 14, 15, 16, 17, 18, 19, 20, 21, 22, 23, 24, 25, 26], [0, 1, 2, 3, 4, 5, 6, 7, 8, 9, 10, 11, 12, 13, 14, 15, 16, 17, 18, 19, 20, 21, 22, 23, 24, 25, 26, 27]] [1,7,186] [[1, 0]] (by kernel_rfl) (fun K' hK => by simp only [go_sem, map_getD hlt3, Int.toNat_natCast, Int.natCast_nonneg, hlt3', hp, map_getD hpl, fun b => errI_ne b 23 (by decide)]; (repeat (refine ⟨by first | exact ob | (intro h; have := hpos (by simp_all); simp_all; done), ?_⟩)); (first | refine ⟨by rfl, ?_⟩ | skip); exact hK _ (by simp only [go_sem]) (by simp only [go_sem] <;> rfl)) ?_
            repeat refine sq ?_
            refine cl_cond rfl rfl (fun hb => ?_) fun hb => ?_
            · skip
              repeat refine sq ?_
              have hbad : ¬ OkL l := by
                intro h
                obtain ⟨h1, h2⟩ := allB_iff.1 h.ss i hlt3 hlt3
                have h5 := h.sl i hlt3
                have h6 : 1 ≤ l.ss[i].le := by unfold sigB inI at h1; simp only [Bool.and_eq_true, decide_eq_true_eq] at h1; omega
                have h7 : isFol l l.ss[i].pa l.ss[i].le = true := by unfold isFol inI; simp only [Bool.and_eq_true, decide_eq_true_eq]; omega
                simp only [h1, h7, Bool.not_true, Bool.false_or, Bool.or_false, Bool.and_eq_true, decide_eq_true_eq] at hb
                obtain ⟨e, _⟩ := hpos (by omega)
                subst e
                have := h2 (by omega)
                have := hb.2
                omega
              repeat refine sq ?_
              refine rx hΓ [2] [] (fun K' hK => by simp only [go_sem, map_getD hlt3, Int.toNat_natCast, Int.natCast_nonneg, hlt3']; (repeat (refine ⟨ob, ?_⟩)); exact hK _ (by simp only [go_sem]) (by simp only [go_sem] <;> rfl)) ?_
              refine cl_ret ?_
              simp only [go_sem]
              rw [chkI_bad hbad]
            · skip
              repeat refine sq ?_
              have hn : sigB l.ss[i] = true ∧ (0 < i → Sig.so l.ss[i - 1] < Sig.so l.ss[i]) := by
                simp only [Bool.or_eq_false_iff, Bool.not_eq_false', Bool.and_eq_false_iff, decide_eq_false_iff_not] at hb
                refine ⟨hb.1.1, fun h => ?_⟩
                obtain ⟨e, _⟩ := hpos h
                subst e
                omega
              have hn2 : l.ss[i].le ≤ lvOf l.ps l.ss[i].pa := by
                simp only [Bool.or_eq_false_iff, Bool.not_eq_false'] at hb
                have := hb.2
                unfold isFol inI at this
                simp only [Bool.and_eq_true, decide_eq_true_eq] at this
                omega
              refine cl_skip ?_
              refine cl_nil ?_
              simp only [go_sem]
              refine kp [1,7] [[1, 0]] ?_
              repeat refine sq ?_
              refine cl_r hΓ fun K' hK => ?_
              simp only [go_sem, map_getD hlt3, Int.toNat_natCast, Int.natCast_nonneg, hlt3']
              repeat refine ⟨ob, ?_⟩
              refine hK _ ?_
              clear K' hK
              simp only [go_sem]
              refine ⟨i + 1, ⟨hlt3, ?_⟩, by (show l.ss.length - (i + 1) < l.ss.length - i; omega), ?_⟩
              · skip
                exact ⟨okL_succ hR3 hlt3 hn, fun j hj hji => by
                  rcases Nat.lt_succ_iff_lt_or_eq.1 hji with h1 | rfl
                  · exact hR3' j hj h1
                  · exact hn2⟩
              refine weak_eq [1,7] [[1, 0]] ?_ ?_
              · simp only [go_sem, wrap_succ hlt3 hls, Int.natCast_add, Int.natCast_one]
              · simp only [go_sem, wrap_succ hlt3 hls, Int.natCast_add, Int.natCast_one]
          · skip
            have hge3 : i = l.ss.length := by
              have : ¬ (i : Int) < l.ss.length := by simpa using hb
              omega
            clear hb
            subst hge3
            repeat refine sq ?_
            refine cl_exit ?_
            simp only [go_sem]
            refine kp [1] [[1, 0]] ?_
            repeat refine sq ?_
            refine rx hΓ [190] [] (fun K' hK => by simp only [go_sem, hsh]; (repeat (refine ⟨ob, ?_⟩)); exact hK _ (by simp only [go_sem]) (by simp only [go_sem] <;> rfl)) ?_
            repeat refine sq ?_
            refine cl_cond rfl rfl (fun hb => ?_) fun hb => ?_
            · skip
              repeat refine sq ?_
              have hbad : ¬ OkL l := fun h => by have := h.nd; simp [this] at hb
              repeat refine sq ?_
              refine rs hΓ [2] [] ?_
              refine cl_ret ?_
              simp only [go_sem]
              rw [chkI_bad hbad]
            · skip
              repeat refine sq ?_
              have hgood : (srcs l).Nodup := by simpa using hb
              refine cl_skip ?_
              repeat refine sq ?_
              refine rs hΓ [2] [] ?_
              refine cl_ret ?_
              simp only [go_sem]
              rw [chkI_good ⟨allB_iff.2 hR, by omega, allB_iff.2 hR1, by omega, allB_iff.2 hR2, by omega, allB_iff.2 hR3, by omega, fun j h => hR1' j h h, fun j h => hR3' j h h, hgood⟩]
theorem k69 : SSound Tryz.prog 69 S69 := s69.sound
end Go.Eng
