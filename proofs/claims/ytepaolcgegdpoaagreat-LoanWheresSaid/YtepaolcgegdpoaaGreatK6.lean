import Derived.Test.YtepaolcgegdpoaaGreatK5
import Derived.Test.YtepaolcgegdpoaaGreatProg
/- Texts LW2 to LW14. -/
set_option linter.all false
namespace Go.Eng
open Go Go.Proofs
noncomputable section
def timesB (k u : Int) : Bool := dayB k && (u == 0 || (decide (k < u) && decide (u ≤ 100000)))
def K2 : List (Nat × Spec) := [(96, S96), (146, S146), (145, S145), (150, S150), (154, S154), (144, S144), (147, S147), (148, S148), (152, S152)]
theorem K2_sound : KS K2 := tc s96.sound <| tc s146.sound <| tc s145.sound <| tc s150.sound <| tc s154.sound <| tc s144.sound <| tc s147.sound <| tc s148.sound <| tc s152.sound <| tn
attribute [go_sem] K2
theorem timesB_wrap (k u : Int) : (dayB k && (u == 0 || inI u (IntKind.i64.wrap (k + 1)) 100000)) = timesB k u := by
 unfold timesB
 cases h : dayB k with
 | false => rfl
 | true =>
  unfold dayB inI at h
  simp only [Bool.and_eq_true, decide_eq_true_eq] at h
  rw [wrap_i64 (by omega) (by omega)]
  unfold inI
  simp only [Bool.true_and]
  congr 2
@[go_sem] def P151 : PSpec := p2 iI iI (fun _ _ => True) (fun a b => .bool (timesB a b)) true
@[go_sem] def S151 : Spec := P151.toSpec
theorem s151 : PSound Tryz.prog 151 P151 := by
 refine wd2 (rs := [.tmp 4]) Tryz.func151 Tryz.ntmps151 fun k u hp hw => ?_
 simp only [iI] at hw ⊢
 have hΓ := K2_sound
 repeat refine sq ?_
 refine rs hΓ [0,1] [] ?_
 repeat refine sq ?_
 refine rs hΓ [4] [] ?_
 refine cl_ret ?_
 simp only [go_sem]
 all_goals first | rfl | (simp; done) | (exact congrArg V.bool (timesB_wrap _ _); done)
@[go_sem] def P155 : PSpec := p2 iI iI (fun _ _ => True) (fun a b => .bool (timesB a b)) true
@[go_sem] def S155 : Spec := P155.toSpec
theorem s155 : PSound Tryz.prog 155 P155 := by
 refine wd2 (rs := [.tmp 4]) Tryz.func155 Tryz.ntmps155 fun k u hp hw => ?_
 simp only [iI] at hw ⊢
 have hΓ := K2_sound
 repeat refine sq ?_
 refine rs hΓ [0,1] [] ?_
 repeat refine sq ?_
 refine rs hΓ [4] [] ?_
 refine cl_ret ?_
 simp only [go_sem]
 all_goals first | rfl | (simp; done) | (grind [timesB]; done)
open Classical in
def risB (l : List Int) : Bool := decide (∀ j (h : j < l.length), 0 < j → l[j - 1] < l[j])
theorem risB_iff {l : List Int} : risB l = true ↔ ∀ j (h : j < l.length), 0 < j → l[j - 1] < l[j] := by unfold risB; exact decide_eq_true_iff
theorem risB_bad {l : List Int} {j : Nat} (h : j < l.length) (h0 : 0 < j) (hb : l[j - 1] ≥ l[j]) : risB l = false := by
 rw [Bool.eq_false_iff]
 intro k
 have := risB_iff.1 k j h h0
 omega
theorem wrap_pred' {i n : Nat} (h0 : 0 < i) (h : i ≤ n) (hn : n ≤ maxLen) : IntKind.i64.wrap ((i : Int) - 1) = ((i - 1 : Nat) : Int) := wrap_pred (by omega) (Nat.le_trans h hn)
@[go_sem] def P130 : PSpec := p1 iIs (fun _ => True) (fun l => .bool (risB l)) true
@[go_sem] def S130 : Spec := P130.toSpec
set_option maxHeartbeats 4000000 in
theorem s130 : PSound Tryz.prog 130 P130 := by
 refine wd1 (rs := [.tmp 2]) Tryz.func130 Tryz.ntmps130 fun l hp hw => ?_
 have hP := mixedK
 simp only [iIs] at hw ⊢
 have hΓ := @no_sound Tryz.prog
 have hl : l.length ≤ maxLen := by have := hw.1.1; simpa using this
 repeat refine sq ?_
 refine rs hΓ [0] [] ?_
 repeat refine sq ?_
 refine rs hΓ [0,3] [] ?_
 refine cl_block ?_
 refine cl_loop' (fun i : Nat => [(3, ⟨true, .v (vInt i)⟩)]) (fun i => []) (fun i => 0 < i ∧ ∀ j (h : j < l.length), j < i → 0 < j → l[j - 1] < l[j]) (fun i => l.length - i) 1 ?_ ?_ ?_ ?_
 ·exact ⟨Nat.one_pos, fun j h h1 h2 => by omega⟩
 ·rfl
 ·rfl
 rintro i ⟨h0, hz⟩
 simp only [go_sem]
 repeat refine sq ?_
 refine rs hΓ [0,3,7] [] ?_
 refine cnd (fun hb => ?_) fun hb => ?_
 ·have hlt : i < l.length := by simpa using hb
  have hlt' : (i : Int) < l.length := by omega
  have hwp := wrap_pred' h0 (Nat.le_of_lt hlt) hl
  have hq1 : (0 : Int) ≤ ((i - 1 : Nat) : Int) := by omega
  have hq2 : ((i - 1 : Nat) : Int) < l.length := by omega
  have hq3 : i - 1 < l.length := by omega
  refine cl_skip ?_
  repeat refine sq ?_
  refine cl_block ?_
  repeat refine sq ?_
  refine dx hΓ hP [[], [], [1], [0, 1, 2], u4, [], [], [5, 6], [5, 6, 7], u9] [0,3,19] [] (by kernel_rfl) (fun K' hK => by simp only [go_sem, hwp, map_getD hlt, map_getD hq3, tnI, nnI, hlt', hq2]; exact fd) ?_
  refine cnd (fun hb => ?_) fun hb => ?_
  ·repeat refine sq ?_
   refine rs hΓ [2] [] ?_
   refine cl_ret ?_
   simp only [go_sem]
   rw [risB_bad hlt h0 (by simpa using hb)]
  ·replace hb : l[i - 1] < l[i] := by simpa using hb
   refine cl_skip ?_
   refine cl_nil ?_
   simp only [go_sem]
   refine kp [0,3] [] ?_
   refine cl_r hΓ fun K' hK => ?_
   simp only [go_sem]
   repeat refine ⟨ob, ?_⟩
   refine hK _ ?_
   clear K' hK
   simp only [go_sem]
   refine ⟨i + 1, ⟨by omega, fun j h h1 h2 => ?_⟩, by omega, ?_⟩
   ·rcases Nat.lt_succ_iff_lt_or_eq.1 h1 with h3 | rfl
    ·exact hz j h h3 h2
    ·exact hb
   refine weak_eq [0,3] [] ?_ ?_ <;> simp only [go_sem, wrap_succ hlt hl, csI]
 ·have hge : l.length ≤ i := by
   have : ¬ (i : Int) < l.length := by simpa using hb
   omega
  refine cl_exit ?_
  simp only [go_sem]
  refine kp [] [] ?_
  repeat refine sq ?_
  refine rs hΓ [2] [] ?_
  refine cl_ret ?_
  simp only [go_sem]
  rw [risB_iff.2 fun j h h0 => hz j h (by omega) h0]
end
set_option maxHeartbeats 8000000
noncomputable section
def K3 : List (Nat × Spec) := [(130, S130), (145, S145), (146, S146), (96, S96)]
theorem K3_sound : KS K3 := tc s130.sound <| tc s145.sound <| tc s146.sound <| tc s96.sound <| tn
attribute [go_sem] K3
def leavesB (l : List Int) : Bool := decide (0 < l.length) && risB l && inI (l.getD 0 0) 1 30 && inI (l.getD (l.length - 1) 0) 1 30
@[go_sem] def P149 : PSpec := p1 iIs (fun _ => True) (fun l => .bool (leavesB l)) true
@[go_sem] def S149 : Spec := P149.toSpec
theorem s149 : PSound Tryz.prog 149 P149 := by
 refine wd1 (rs := [.tmp 2]) Tryz.func149 Tryz.ntmps149 fun l hp hw => ?_
 simp only [iIs] at hw ⊢
 have hΓ := K3_sound
 have hl : l.length ≤ maxLen := by have := hw.1.1; simpa using this
 by_cases h0 : l.length = 0
 ·have e0 : l = [] := List.length_eq_zero_iff.1 h0
  subst e0
  repeat refine sq ?_
  refine rs hΓ [0] [] ?_
  repeat refine sq ?_
  refine rs hΓ [2] [] ?_
  refine cl_ret ?_
  simp only [go_sem]
  rfl
 ·have hq : 0 < l.length := by omega
  have hq' : (0 : Int) < l.length := by omega
  have hp0 := wrap_pred h0 hl
  have hp1 : ((l.length - 1 : Nat) : Int) < l.length := by omega
  have hp2 : l.length - 1 < l.length := by omega
  have hp3 : (0 : Int) ≤ ((l.length - 1 : Nat) : Int) := by omega
  have hg0 : (l.map vInt).getD 0 default = vInt (l.getD 0 0) := by rw [map_getD hq, getD_at hq]
  have hg1 : (l.map vInt).getD (l.length - 1) default = vInt (l.getD (l.length - 1) 0) := by rw [map_getD hp2, getD_at hp2]
  have hd : decide ((l.length : Int) > 0) = true := by simpa using hq
  repeat refine sq ?_
  refine rs hΓ [0] [] ?_
  repeat refine sq ?_
  refine rx hΓ [2] [] (fun K' hK => by simp only [go_sem, hp0, hg0, hg1, tnI, Int.toNat_zero, nnI, hq', hp1, decide_true]; exact fn) ?_
  refine cl_ret ?_
  simp only [go_sem]
  have hq3 : decide (0 < l.length) = true := by simpa using hq
  simp only [leavesB, hq3, Bool.true_and, Bool.decide_and, Bool.decide_eq_true]
theorem prev_at {i n : Nat} (h : i < n) (hn : n ≤ maxLen) : ∃ p : Nat, (IntKind.i64.wrap ((i : Int) - 1)).toNat = p ∧ p < n ∧ (0 < i → p = i - 1 ∧ 0 ≤ IntKind.i64.wrap ((i : Int) - 1) ∧ IntKind.i64.wrap ((i : Int) - 1) < n) := by
 unfold maxLen at hn
 rcases Nat.eq_zero_or_pos i with rfl | hp
 ·exact ⟨0, by decide, h, fun h => by omega⟩
 ·have : IntKind.i64.wrap ((i : Int) - 1) = ((i - 1 : Nat) : Int) := by rw [wrap_i64 (by omega) (by omega)]; omega
  exact ⟨i - 1, by rw [this]; rfl, by omega, fun _ => ⟨rfl, by omega, by omega⟩⟩
theorem ris_ge {l : List Int} (hr : risB l = true) : ∀ (k j : Nat) (h : j + k < l.length), l[j] + k ≤ l[j + k]
 | 0, j, h => by simp
 | k + 1, j, h => by
  have h1 := ris_ge hr k j (by omega)
  have h2 := risB_iff.1 hr (j + k + 1) (by omega) (by omega)
  have e : j + k + 1 - 1 = j + k := by omega
  simp only [e] at h2
  show l[j] + ((k + 1 : Nat) : Int) ≤ l[j + k + 1]
  omega
theorem leavesB_iff {l : List Int} : leavesB l = true ↔ 0 < l.length ∧ l.length ≤ 30 ∧ risB l = true ∧ ∀ j (h : j < l.length), inI l[j] 1 30 = true := by
 unfold leavesB
 simp only [Bool.and_eq_true, decide_eq_true_eq]
 constructor
 ·rintro ⟨⟨⟨h1, h2⟩, h3⟩, h4⟩
  have hp2 : l.length - 1 < l.length := by omega
  rw [getD_at h1] at h3
  rw [getD_at hp2] at h4
  unfold inI at h3 h4 ⊢
  simp only [Bool.and_eq_true, decide_eq_true_eq] at h3 h4 ⊢
  have hlo : ∀ j (h : j < l.length), l[0] + j ≤ l[j] := fun j h => by
   have := ris_ge h2 j 0 (by omega)
   simpa using this
  have hhi : ∀ j (h : j < l.length), l[j] ≤ l[l.length - 1] := fun j h => by
   have := ris_ge h2 (l.length - 1 - j) j (by omega)
   have e : j + (l.length - 1 - j) = l.length - 1 := by omega
   simp only [e] at this
   omega
  refine ⟨h1, ?_, h2, fun j h => ?_⟩
  ·have := hlo _ hp2; omega
  ·have a := hlo j h; have b := hhi j h; omega
 ·rintro ⟨h1, h2, h3, h4⟩
  have hp2 : l.length - 1 < l.length := by omega
  refine ⟨⟨⟨h1, h3⟩, ?_⟩, ?_⟩
  ·rw [getD_at h1]; exact h4 0 h1
  ·rw [getD_at hp2]; exact h4 _ hp2
theorem bool_of {b : Bool} {p : Prop} (h : b = true ↔ p) (hn : ¬ p) : b = false := by
 cases b with
 | false => rfl
 | true => exact (hn (h.1 rfl)).elim
@[go_sem] def P153 : PSpec := p1 iIs (fun _ => True) (fun l => .bool (leavesB l)) true
@[go_sem] def S153 : Spec := P153.toSpec
theorem s153 : PSound Tryz.prog 153 P153 := by
 refine wd1 (rs := [.tmp 2]) Tryz.func153 Tryz.ntmps153 fun l hp hw => ?_
 have hP := mixedK
 simp only [iIs] at hw ⊢
 have hΓ := K3_sound
 have hl : l.length ≤ maxLen := by have := hw.1.1; simpa using this
 repeat refine sq ?_
 refine rs hΓ [0] [] ?_
 repeat refine sq ?_
 refine rs hΓ [0,3] [] ?_
 refine cl_block ?_
 refine cl_loop' (fun i : Nat => [(3, ⟨true, .v (vInt i)⟩)]) (fun i => []) (fun i => i ≤ l.length ∧ ∀ j (h : j < l.length), j < i → inI l[j] 1 30 = true ∧ (0 < j → l[j - 1] < l[j])) (fun i => l.length - i) 0 ?_ ?_ ?_ ?_
 ·exact ⟨Nat.zero_le _, fun j h h1 => by omega⟩
 ·rfl
 ·rfl
 rintro i ⟨h0, hz⟩
 simp only [go_sem]
 repeat refine sq ?_
 refine rs hΓ [0,3,7] [] ?_
 refine cnd (fun hb => ?_) fun hb => ?_
 ·have hlt : i < l.length := by simpa using hb
  have hlt' : (i : Int) < l.length := by omega
  obtain ⟨p, hp, hpl, hpos⟩ := prev_at hlt hl
  refine cl_skip ?_
  repeat refine sq ?_
  refine cl_block ?_
  repeat refine sq ?_
  refine dx hΓ hP [[], [], [0, 1], [0, 1, 2], u4, u5, u6, u7, u8, u9, u10, u10, [0, 1, 2, 3, 4, 5, 6, 7, 8, 9, 11], u13, u14, u10, u10, [0, 1, 2, 3, 4, 5, 6, 7, 8, 9, 15, 16], [0, 1, 2, 3, 4, 5, 6, 7, 8, 9, 15, 16, 17], u19, u20, u21] [0,3,31] [] (by kernel_rfl) (fun K' hK => by simp only [go_sem, hp, map_getD hlt, map_getD hpl, tnI, nnI, hlt']; (repeat (refine ⟨by first | exact ob | (intro h; have := hpos (by simp_all); simp_all; done), ?_⟩)); exact fd0) ?_
  refine cnd (fun hb => ?_) fun hb => ?_
  ·repeat refine sq ?_
   refine rs hΓ [2] [] ?_
   refine cl_ret ?_
   simp only [go_sem]
   rw [bool_of leavesB_iff]
   rintro ⟨_, _, h3, h4⟩
   have h5 := h4 i hlt
   have h6 := risB_iff.1 h3 i hlt
   simp only [h5, Bool.not_true, Bool.false_or, Bool.and_eq_true, decide_eq_true_eq] at hb
   obtain ⟨e, _⟩ := hpos (by omega)
   subst e
   have := h6 (by omega)
   omega
  ·have hn : inI l[i] 1 30 = true ∧ (0 < i → l[i - 1] < l[i]) := by
    simp only [Bool.or_eq_false_iff, Bool.not_eq_false', Bool.and_eq_false_iff, decide_eq_false_iff_not] at hb
    refine ⟨hb.1, fun h => ?_⟩
    obtain ⟨e, _⟩ := hpos h
    subst e
    omega
   refine cl_skip ?_
   refine cl_nil ?_
   simp only [go_sem]
   refine kp [0,3] [] ?_
   refine cl_r hΓ fun K' hK => ?_
   simp only [go_sem]
   repeat refine ⟨ob, ?_⟩
   refine hK _ ?_
   clear K' hK
   simp only [go_sem]
   refine ⟨i + 1, ⟨by omega, fun j h h1 => ?_⟩, by omega, ?_⟩
   ·rcases Nat.lt_succ_iff_lt_or_eq.1 h1 with h3 | rfl
    ·exact hz j h h3
    ·exact hn
   refine weak_eq [0,3] [] ?_ ?_ <;> simp only [go_sem, wrap_succ hlt hl, csI]
 ·have hge : l.length = i := by
   have : ¬ (i : Int) < l.length := by simpa using hb
   omega
  refine cl_exit ?_
  simp only [go_sem]
  refine kp [0] [] ?_
  repeat refine sq ?_
  refine rs hΓ [2] [] ?_
  refine cl_ret ?_
  simp only [go_sem]
  congr 1
  rw [Bool.eq_iff_iff, leavesB_iff]
  unfold inI
  simp only [Bool.and_eq_true, decide_eq_true_eq]
  constructor
  ·rintro ⟨h1, h2⟩
   exact ⟨by omega, by omega, risB_iff.2 fun j h h0 => (hz j h (by omega)).2 h0, fun j h => by have := (hz j h (by omega)).1; unfold inI at this; simpa using this⟩
  ·rintro ⟨h1, h2, _⟩
   omega
end
set_option maxHeartbeats 8000000
noncomputable section
def K4 : List (Nat × Spec) := [(96, S96), (144, S144), (145, S145), (146, S146), (147, S147), (148, S148), (149, S149), (150, S150), (151, S151), (152, S152), (153, S153), (154, S154), (155, S155)]
theorem K4_sound : KS K4 := tc s96.sound <| tc s144.sound <| tc s145.sound <| tc s146.sound <| tc s147.sound <| tc s148.sound <| tc s149.sound <| tc s150.sound <| tc s151.sound <| tc s152.sound <| tc s153.sound <| tc s154.sound <| tc s155.sound <| tn
attribute [go_sem] K4
def errI (b : Bool) (n : Int) : Int := if b then 0 else n
theorem errI_ne (b : Bool) (n : Int) (hn : n ≠ 0) : (errI b n != 0) = !b := by cases b <;> simp [errI, hn]
def papB (p : Pap) : Bool := inI p.id 1 999 && inI p.lv 1 30
def recB (r : Rec) : Bool := inI r.so 1 99999 && inI r.bo 1 99 && inI r.pa 1 999 && leavesB r.lv && dayB r.da && timesB r.kn r.un
def retB (r : Ret) : Bool := inI r.so 1 99999 && inI r.re 1 99999 && inI r.pe 1 99 && leavesB r.lv && inI r.lo 0 r.hi && dayB r.hi && timesB r.kn r.un
def sigB (s : Sig) : Bool := inI s.so 1 99999 && inI s.pe 0 99 && inI s.pa 1 999 && inI s.le 1 30 && dayB s.da && timesB s.kn s.un
@[go_sem] def P61 : PSpec := p1 iP (fun _ => True) (fun x => vInt (errI (papB x) 20)) true
@[go_sem] def S61 : Spec := P61.toSpec
theorem s61 : PSound Tryz.prog 61 P61 := by
 refine wd1 (rs := [.tmp 2]) Tryz.func61 Tryz.ntmps61 fun x hp hw => ?_
 simp only [iP, encP] at hw ⊢
 have hΓ := K4_sound
 repeat refine sq ?_
 refine rs hΓ [1] [[1, 0]] ?_
 repeat refine sq ?_
 refine rs hΓ [12] [] ?_
 repeat refine cl_seq ?_
 refine cnd (fun hb => ?_) fun hb => ?_
 ·repeat refine cl_seq ?_
  refine rs hΓ [2] [] ?_
  refine cl_ret ?_
  simp only [go_sem]
  all_goals first | rfl | (simp; done) | (grind [papB, errI]; done)
 ·repeat refine cl_seq ?_
  refine cl_skip ?_
  repeat refine sq ?_
  refine rs hΓ [2] [] ?_
  refine cl_ret ?_
  simp only [go_sem]
  all_goals first | rfl | (simp; done) | (grind [papB, errI]; done)
@[go_sem] def P62 : PSpec := p1 iP (fun _ => True) (fun x => vInt (errI (papB x) 20)) true
@[go_sem] def S62 : Spec := P62.toSpec
theorem s62 : PSound Tryz.prog 62 P62 := by
 refine wd1 (rs := [.tmp 2]) Tryz.func62 Tryz.ntmps62 fun x hp hw => ?_
 simp only [iP, encP] at hw ⊢
 have hΓ := K4_sound
 repeat refine sq ?_
 refine rs hΓ [1] [[1, 0]] ?_
 repeat refine sq ?_
 refine rs hΓ [12] [] ?_
 repeat refine cl_seq ?_
 refine cnd (fun hb => ?_) fun hb => ?_
 ·repeat refine cl_seq ?_
  refine rs hΓ [2] [] ?_
  refine cl_ret ?_
  simp only [go_sem]
  all_goals first | rfl | (simp; done) | (grind [papB, errI]; done)
 ·repeat refine cl_seq ?_
  refine cl_skip ?_
  repeat refine sq ?_
  refine rs hΓ [2] [] ?_
  refine cl_ret ?_
  simp only [go_sem]
  all_goals first | rfl | (simp; done) | (grind [papB, errI]; done)
@[go_sem] def P63 : PSpec := p1 iR (fun _ => True) (fun x => vInt (errI (recB x) 21)) true
@[go_sem] def S63 : Spec := P63.toSpec
theorem s63 : PSound Tryz.prog 63 P63 := by
 refine wd1 (rs := [.tmp 2]) Tryz.func63 Tryz.ntmps63 fun x hp hw => ?_
 simp only [iR, encR] at hw ⊢
 have hΓ := K4_sound
 repeat refine sq ?_
 refine rs hΓ [1] [[1, 0]] ?_
 repeat refine sq ?_
 refine rs hΓ [38] [] ?_
 repeat refine cl_seq ?_
 refine cnd (fun hb => ?_) fun hb => ?_
 ·repeat refine cl_seq ?_
  refine rs hΓ [2] [] ?_
  refine cl_ret ?_
  simp only [go_sem]
  all_goals first | rfl | (simp; done) | (grind [recB, errI]; done)
 ·repeat refine cl_seq ?_
  refine cl_skip ?_
  repeat refine sq ?_
  refine rs hΓ [2] [] ?_
  refine cl_ret ?_
  simp only [go_sem]
  all_goals first | rfl | (simp; done) | (grind [recB, errI]; done)
@[go_sem] def P64 : PSpec := p1 iR (fun _ => True) (fun x => vInt (errI (recB x) 21)) true
@[go_sem] def S64 : Spec := P64.toSpec
theorem s64 : PSound Tryz.prog 64 P64 := by
 refine wd1 (rs := [.tmp 2]) Tryz.func64 Tryz.ntmps64 fun x hp hw => ?_
 simp only [iR, encR] at hw ⊢
 have hΓ := K4_sound
 repeat refine sq ?_
 refine rs hΓ [1] [[1, 0]] ?_
 repeat refine sq ?_
 refine rs hΓ [38] [] ?_
 repeat refine cl_seq ?_
 refine cnd (fun hb => ?_) fun hb => ?_
 ·repeat refine cl_seq ?_
  refine rs hΓ [2] [] ?_
  refine cl_ret ?_
  simp only [go_sem]
  all_goals first | rfl | (simp; done) | (grind [recB, errI]; done)
 ·repeat refine cl_seq ?_
  refine cl_skip ?_
  repeat refine sq ?_
  refine rs hΓ [2] [] ?_
  refine cl_ret ?_
  simp only [go_sem]
  all_goals first | rfl | (simp; done) | (grind [recB, errI]; done)
@[go_sem] def P65 : PSpec := p1 iT (fun _ => True) (fun x => vInt (errI (retB x) 22)) true
@[go_sem] def S65 : Spec := P65.toSpec
theorem s65 : PSound Tryz.prog 65 P65 := by
 refine wd1 (rs := [.tmp 2]) Tryz.func65 Tryz.ntmps65 fun x hp hw => ?_
 simp only [iT, encT] at hw ⊢
 have hΓ := K4_sound
 repeat refine sq ?_
 refine rs hΓ [1] [[1, 0]] ?_
 repeat refine sq ?_
 refine rs hΓ [49] [] ?_
 repeat refine cl_seq ?_
 refine cnd (fun hb => ?_) fun hb => ?_
 ·repeat refine cl_seq ?_
  refine rs hΓ [2] [] ?_
  refine cl_ret ?_
  simp only [go_sem]
  all_goals first | rfl | (simp; done) | (grind [retB, errI]; done)
 ·repeat refine cl_seq ?_
  refine cl_skip ?_
  repeat refine sq ?_
  refine rs hΓ [2] [] ?_
  refine cl_ret ?_
  simp only [go_sem]
  all_goals first | rfl | (simp; done) | (grind [retB, errI]; done)
@[go_sem] def P67 : PSpec := p1 iS (fun _ => True) (fun x => vInt (errI (sigB x) 23)) true
@[go_sem] def S67 : Spec := P67.toSpec
theorem s67 : PSound Tryz.prog 67 P67 := by
 refine wd1 (rs := [.tmp 2]) Tryz.func67 Tryz.ntmps67 fun x hp hw => ?_
 simp only [iS, encS] at hw ⊢
 have hΓ := K4_sound
 repeat refine sq ?_
 refine rs hΓ [1] [[1, 0]] ?_
 repeat refine sq ?_
 refine rs hΓ [38] [] ?_
 repeat refine cl_seq ?_
 refine cnd (fun hb => ?_) fun hb => ?_
 ·repeat refine cl_seq ?_
  refine rs hΓ [2] [] ?_
  refine cl_ret ?_
  simp only [go_sem]
  all_goals first | rfl | (simp; done) | (grind [sigB, errI]; done)
 ·repeat refine cl_seq ?_
  refine cl_skip ?_
  repeat refine sq ?_
  refine rs hΓ [2] [] ?_
  refine cl_ret ?_
  simp only [go_sem]
  all_goals first | rfl | (simp; done) | (grind [sigB, errI]; done)
@[go_sem] def P68 : PSpec := p1 iS (fun _ => True) (fun x => vInt (errI (sigB x) 23)) true
@[go_sem] def S68 : Spec := P68.toSpec
theorem s68 : PSound Tryz.prog 68 P68 := by
 refine wd1 (rs := [.tmp 2]) Tryz.func68 Tryz.ntmps68 fun x hp hw => ?_
 simp only [iS, encS] at hw ⊢
 have hΓ := K4_sound
 repeat refine sq ?_
 refine rs hΓ [1] [[1, 0]] ?_
 repeat refine sq ?_
 refine rs hΓ [38] [] ?_
 repeat refine cl_seq ?_
 refine cnd (fun hb => ?_) fun hb => ?_
 ·repeat refine cl_seq ?_
  refine rs hΓ [2] [] ?_
  refine cl_ret ?_
  simp only [go_sem]
  all_goals first | rfl | (simp; done) | (grind [sigB, errI]; done)
 ·repeat refine cl_seq ?_
  refine cl_skip ?_
  repeat refine sq ?_
  refine rs hΓ [2] [] ?_
  refine cl_ret ?_
  simp only [go_sem]
  all_goals first | rfl | (simp; done) | (grind [sigB, errI]; done)
@[go_sem] def P66 : PSpec := p1 iT (fun _ => True) (fun x => vInt (errI (retB x) 22)) true
@[go_sem] def S66 : Spec := P66.toSpec
theorem s66 : PSound Tryz.prog 66 P66 := by
 refine wd1 (rs := [.tmp 2]) Tryz.func66 Tryz.ntmps66 fun x hp hw => ?_
 simp only [iT, encT] at hw ⊢
 have hΓ := K4_sound
 repeat refine sq ?_
 refine rs hΓ [1] [[1, 0]] ?_
 repeat refine sq ?_
 refine rs hΓ [1,32] [[1, 0]] ?_
 repeat refine cl_seq ?_
 refine cnd (fun hb => ?_) fun hb => ?_
 ·repeat refine cl_seq ?_
  refine rs hΓ [2] [] ?_
  refine cl_ret ?_
  simp only [go_sem]
  all_goals first | rfl | (simp; done) | (grind [errI, retB, inI, dayB]; done)
 ·repeat refine cl_seq ?_
  refine cl_skip ?_
  repeat refine sq ?_
  refine rs hΓ [51] [] ?_
  repeat refine cl_seq ?_
  refine cnd (fun hb => ?_) fun hb => ?_
  ·repeat refine cl_seq ?_
   refine rs hΓ [2] [] ?_
   refine cl_ret ?_
   simp only [go_sem]
   all_goals first | rfl | (simp; done) | (grind [errI, retB, inI, dayB]; done)
  ·repeat refine cl_seq ?_
   refine cl_skip ?_
   repeat refine sq ?_
   refine rs hΓ [2] [] ?_
   refine cl_ret ?_
   simp only [go_sem]
   all_goals first | rfl | (simp; done) | (grind [errI, retB, inI, dayB]; done)
@[go_sem] def P110 : PSpec := p1 iP (fun _ => True) (fun x => vInt x.id) true
@[go_sem] def S110 : Spec := P110.toSpec
theorem s110 : PSound Tryz.prog 110 P110 := by
 refine wd1 (rs := [.tmp 2]) Tryz.func110 Tryz.ntmps110 fun x hp hw => ?_
 simp only [iP, encP] at hw ⊢
 have hΓ := @no_sound Tryz.prog
 repeat refine sq ?_
 refine rs hΓ [1] [[1, 0]] ?_
 repeat refine sq ?_
 refine rs hΓ [2] [] ?_
 refine cl_ret ?_
 simp only [go_sem]
 all_goals exact fzI
@[go_sem] def P112 : PSpec := p1 iR (fun _ => True) (fun x => vInt x.so) true
@[go_sem] def S112 : Spec := P112.toSpec
theorem s112 : PSound Tryz.prog 112 P112 := by
 refine wd1 (rs := [.tmp 2]) Tryz.func112 Tryz.ntmps112 fun x hp hw => ?_
 simp only [iR, encR] at hw ⊢
 have hΓ := @no_sound Tryz.prog
 repeat refine sq ?_
 refine rs hΓ [1] [[1, 0]] ?_
 repeat refine sq ?_
 refine rs hΓ [2] [] ?_
 refine cl_ret ?_
 simp only [go_sem]
 all_goals exact fzI
@[go_sem] def P114 : PSpec := p1 iT (fun _ => True) (fun x => vInt x.so) true
@[go_sem] def S114 : Spec := P114.toSpec
theorem s114 : PSound Tryz.prog 114 P114 := by
 refine wd1 (rs := [.tmp 2]) Tryz.func114 Tryz.ntmps114 fun x hp hw => ?_
 simp only [iT, encT] at hw ⊢
 have hΓ := @no_sound Tryz.prog
 repeat refine sq ?_
 refine rs hΓ [1] [[1, 0]] ?_
 repeat refine sq ?_
 refine rs hΓ [2] [] ?_
 refine cl_ret ?_
 simp only [go_sem]
 all_goals exact fzI
@[go_sem] def P116 : PSpec := p1 iS (fun _ => True) (fun x => vInt x.so) true
@[go_sem] def S116 : Spec := P116.toSpec
theorem s116 : PSound Tryz.prog 116 P116 := by
 refine wd1 (rs := [.tmp 2]) Tryz.func116 Tryz.ntmps116 fun x hp hw => ?_
 simp only [iS, encS] at hw ⊢
 have hΓ := @no_sound Tryz.prog
 repeat refine sq ?_
 refine rs hΓ [1] [[1, 0]] ?_
 repeat refine sq ?_
 refine rs hΓ [2] [] ?_
 refine cl_ret ?_
 simp only [go_sem]
 all_goals exact fzI
end
set_option maxHeartbeats 8000000
noncomputable section
def K5 : List (Nat × Spec) := [(61, S61), (63, S63), (65, S65), (67, S67), (110, S110), (112, S112), (114, S114), (116, S116)]
theorem K5_sound : KS K5 := tc s61.sound <| tc s63.sound <| tc s65.sound <| tc s67.sound <| tc s110.sound <| tc s112.sound <| tc s114.sound <| tc s116.sound <| tn
attribute [go_sem] K5
def okL {α : Type} (chk : α → Bool) (num : α → Int) (l : List α) (n : Nat) : Prop := ∀ j (h : j < l.length), j < n → chk l[j] = true ∧ (0 < j → num l[j - 1] < num l[j])
open Classical in
def allB {α : Type} (chk : α → Bool) (num : α → Int) (l : List α) : Bool := decide (okL chk num l l.length)
theorem allB_iff {α : Type} {chk : α → Bool} {num : α → Int} {l : List α} : allB chk num l = true ↔ okL chk num l l.length := by unfold allB; exact @decide_eq_true_iff _ (Classical.propDecidable _)
theorem okL_zero {α : Type} {chk : α → Bool} {num : α → Int} {l : List α} : okL chk num l 0 := fun j _ h => by omega
theorem okL_succ {α : Type} {chk : α → Bool} {num : α → Int} {l : List α} {i : Nat} (h : okL chk num l i) (hi : i < l.length) (hc : chk l[i] = true ∧ (0 < i → num l[i - 1] < num l[i])) : okL chk num l (i + 1) := by
 intro j hj hji
 rcases Nat.lt_succ_iff_lt_or_eq.1 hji with h1 | rfl
 ·exact h j hj h1
 ·exact hc
@[go_sem] def P109 : PSpec := p4 (iSl iP) iI (iF 61) (iF 110) (fun _ _ _ _ => True) (fun l m _ _ => .bool (allB papB Pap.id l && decide ((l.length : Int) ≤ m))) true
@[go_sem] def S109 : Spec := P109.toSpec
theorem s109 : PSound Tryz.prog 109 P109 := by
 refine wd4 (rs := [.tmp 8]) Tryz.func109 Tryz.ntmps109 fun l m _ _ hp hw => ?_
 have hP := mixedK
 simp only [iF, iI, iP, iSl, iC] at hw ⊢
 have hΓ := K5_sound
 have hl : l.length ≤ maxLen := by have := hw.1.1; simpa using this
 repeat refine sq ?_
 refine rs hΓ [0,1,2,3] [] ?_
 repeat refine sq ?_
 refine rs hΓ [0,1,2,3,11,12,13] [] ?_
 refine cl_block ?_
 refine cl_loop'  (fun s : Nat => [(13, ⟨true, .v (vInt s)⟩)]) (fun s => []) (fun s => s ≤ l.length ∧ okL papB Pap.id l s) (fun s => l.length - s) 0 ?_ ?_ ?_ ?_
 ·exact ⟨Nat.zero_le _, okL_zero⟩
 ·rfl
 ·rfl
 rintro i ⟨hi, hR⟩
 simp only [go_sem]
 repeat refine sq ?_
 refine rs hΓ [0,1,2,3,11,12,13,14] [] ?_
 repeat refine sq ?_
 refine cnd (fun hb => ?_) fun hb => ?_
 ·have hlt : i < l.length := by simpa using hb
  have hlt' : (i : Int) < l.length := by omega
  clear hb
  obtain ⟨p, hp, hpl, hpos⟩ := prev_at hlt hl
  refine cl_skip ?_
  repeat refine sq ?_
  refine cl_block ?_
  repeat refine sq ?_
  refine rx hΓ [0,1,2,3,9,10,11,12,13] [[10, 0]] (fun K' hK => by simp only [go_sem, map_getD hlt, tnI, nnI, hlt']; exact fn) ?_
  repeat refine sq ?_
  refine dx hΓ hP [[], [], [0, 1], [0, 1, 2], u4, u5, u6, u7, u8, u8, u8, [0, 1, 2, 3, 4, 5, 6, 7, 10], [0, 1, 2, 3, 4, 5, 6, 7, 9, 10, 11], [0, 1, 2, 3, 4, 5, 6, 7, 9, 10, 11, 12], u14, u8, u8, u17, u18, u19, u20] [0,1,2,3,11,12,13,38] [] (by kernel_rfl) (fun K' hK => by simp only [go_sem, hp, map_getD hpl, fun b => errI_ne b 20 (by decide)]; (repeat (refine ⟨by first | exact ob | (intro h; have := hpos (by simp_all); simp_all; done), ?_⟩)); exact fd0) ?_
  refine cnd (fun hb => ?_) fun hb => ?_
  ·repeat refine sq ?_
   have hbad : allB papB Pap.id l = false := by
    rw [bool_of allB_iff]
    intro h
    obtain ⟨h1, h2⟩ := h i hlt hlt
    simp only [h1, Bool.not_true, Bool.false_or, Bool.and_eq_true, decide_eq_true_eq] at hb
    obtain ⟨e, _⟩ := hpos (by omega)
    subst e
    have := h2 (by omega)
    have := hb.2
    omega
   refine rs hΓ [8] [] ?_
   refine cl_ret ?_
   simp only [go_sem]
   rw [hbad]; rfl
  ·have hn : papB l[i] = true ∧ (0 < i → Pap.id l[i - 1] < Pap.id l[i]) := by
    simp only [Bool.or_eq_false_iff, Bool.not_eq_false', Bool.and_eq_false_iff, decide_eq_false_iff_not] at hb
    refine ⟨hb.1, fun h => ?_⟩
    obtain ⟨e, _⟩ := hpos h
    subst e
    omega
   refine cl_skip ?_
   refine cl_nil ?_
   simp only [go_sem]
   refine kp [0,1,2,3,11,12,13] [] ?_
   refine cl_r hΓ fun K' hK => ?_
   simp only [go_sem]
   repeat refine ⟨ob, ?_⟩
   refine hK _ ?_
   clear K' hK
   simp only [go_sem]
   refine ⟨i + 1, ⟨hlt, ?_⟩, by (show l.length - (i + 1) < l.length - i; omega), ?_⟩
   ·exact okL_succ hR hlt hn
   refine weak_eq [0,1,2,3,11,12,13] [] ?_ ?_ <;> simp only [go_sem, wrap_succ hlt hl, csI]
 ·have hge : i = l.length := by
   have : ¬ (i : Int) < l.length := by simpa using hb
   omega
  clear hb
  subst hge
  refine cl_exit ?_
  simp only [go_sem]
  refine kp [0,1] [] ?_
  repeat refine sq ?_
  refine rs hΓ [8] [] ?_
  refine cl_ret ?_
  simp only [go_sem]
  rw [allB_iff.2 hR]; rfl
@[go_sem] def P111 : PSpec := p4 (iSl iR) iI (iF 63) (iF 112) (fun _ _ _ _ => True) (fun l m _ _ => .bool (allB recB Rec.so l && decide ((l.length : Int) ≤ m))) true
@[go_sem] def S111 : Spec := P111.toSpec
theorem s111 : PSound Tryz.prog 111 P111 := by
 refine wd4 (rs := [.tmp 8]) Tryz.func111 Tryz.ntmps111 fun l m _ _ hp hw => ?_
 have hP := mixedK
 simp only [iF, iI, iR, iSl, iC] at hw ⊢
 have hΓ := K5_sound
 have hl : l.length ≤ maxLen := by have := hw.1.1; simpa using this
 repeat refine sq ?_
 refine rs hΓ [0,1,2,3] [] ?_
 repeat refine sq ?_
 refine rs hΓ [0,1,2,3,11,12,13] [] ?_
 refine cl_block ?_
 refine cl_loop'  (fun s : Nat => [(13, ⟨true, .v (vInt s)⟩)]) (fun s => []) (fun s => s ≤ l.length ∧ okL recB Rec.so l s) (fun s => l.length - s) 0 ?_ ?_ ?_ ?_
 ·exact ⟨Nat.zero_le _, okL_zero⟩
 ·rfl
 ·rfl
 rintro i ⟨hi, hR⟩
 simp only [go_sem]
 repeat refine sq ?_
 refine rs hΓ [0,1,2,3,11,12,13,14] [] ?_
 repeat refine sq ?_
 refine cnd (fun hb => ?_) fun hb => ?_
 ·have hlt : i < l.length := by simpa using hb
  have hlt' : (i : Int) < l.length := by omega
  clear hb
  obtain ⟨p, hp, hpl, hpos⟩ := prev_at hlt hl
  refine cl_skip ?_
  repeat refine sq ?_
  refine cl_block ?_
  repeat refine sq ?_
  refine rx hΓ [0,1,2,3,9,10,11,12,13] [[10, 0]] (fun K' hK => by simp only [go_sem, map_getD hlt, tnI, nnI, hlt']; exact fn) ?_
  repeat refine sq ?_
  refine dx hΓ hP [[], [], [0, 1], [0, 1, 2], u4, u5, u6, u7, u8, u8, u8, [0, 1, 2, 3, 4, 5, 6, 7, 10], [0, 1, 2, 3, 4, 5, 6, 7, 9, 10, 11], [0, 1, 2, 3, 4, 5, 6, 7, 9, 10, 11, 12], u14, u8, u8, u17, u18, u19, u20] [0,1,2,3,11,12,13,38] [] (by kernel_rfl) (fun K' hK => by simp only [go_sem, hp, map_getD hpl, fun b => errI_ne b 21 (by decide)]; (repeat (refine ⟨by first | exact ob | (intro h; have := hpos (by simp_all); simp_all; done), ?_⟩)); exact fd0) ?_
  refine cnd (fun hb => ?_) fun hb => ?_
  ·repeat refine sq ?_
   have hbad : allB recB Rec.so l = false := by
    rw [bool_of allB_iff]
    intro h
    obtain ⟨h1, h2⟩ := h i hlt hlt
    simp only [h1, Bool.not_true, Bool.false_or, Bool.and_eq_true, decide_eq_true_eq] at hb
    obtain ⟨e, _⟩ := hpos (by omega)
    subst e
    have := h2 (by omega)
    have := hb.2
    omega
   refine rs hΓ [8] [] ?_
   refine cl_ret ?_
   simp only [go_sem]
   rw [hbad]; rfl
  ·have hn : recB l[i] = true ∧ (0 < i → Rec.so l[i - 1] < Rec.so l[i]) := by
    simp only [Bool.or_eq_false_iff, Bool.not_eq_false', Bool.and_eq_false_iff, decide_eq_false_iff_not] at hb
    refine ⟨hb.1, fun h => ?_⟩
    obtain ⟨e, _⟩ := hpos h
    subst e
    omega
   refine cl_skip ?_
   refine cl_nil ?_
   simp only [go_sem]
   refine kp [0,1,2,3,11,12,13] [] ?_
   refine cl_r hΓ fun K' hK => ?_
   simp only [go_sem]
   repeat refine ⟨ob, ?_⟩
   refine hK _ ?_
   clear K' hK
   simp only [go_sem]
   refine ⟨i + 1, ⟨hlt, ?_⟩, by (show l.length - (i + 1) < l.length - i; omega), ?_⟩
   ·exact okL_succ hR hlt hn
   refine weak_eq [0,1,2,3,11,12,13] [] ?_ ?_ <;> simp only [go_sem, wrap_succ hlt hl, csI]
 ·have hge : i = l.length := by
   have : ¬ (i : Int) < l.length := by simpa using hb
   omega
  clear hb
  subst hge
  refine cl_exit ?_
  simp only [go_sem]
  refine kp [0,1] [] ?_
  repeat refine sq ?_
  refine rs hΓ [8] [] ?_
  refine cl_ret ?_
  simp only [go_sem]
  rw [allB_iff.2 hR]; rfl
@[go_sem] def P113 : PSpec := p4 (iSl iT) iI (iF 65) (iF 114) (fun _ _ _ _ => True) (fun l m _ _ => .bool (allB retB Ret.so l && decide ((l.length : Int) ≤ m))) true
@[go_sem] def S113 : Spec := P113.toSpec
theorem s113 : PSound Tryz.prog 113 P113 := by
 refine wd4 (rs := [.tmp 8]) Tryz.func113 Tryz.ntmps113 fun l m _ _ hp hw => ?_
 have hP := mixedK
 simp only [iF, iI, iSl, iT, iC] at hw ⊢
 have hΓ := K5_sound
 have hl : l.length ≤ maxLen := by have := hw.1.1; simpa using this
 repeat refine sq ?_
 refine rs hΓ [0,1,2,3] [] ?_
 repeat refine sq ?_
 refine rs hΓ [0,1,2,3,11,12,13] [] ?_
 refine cl_block ?_
 refine cl_loop'  (fun s : Nat => [(13, ⟨true, .v (vInt s)⟩)]) (fun s => []) (fun s => s ≤ l.length ∧ okL retB Ret.so l s) (fun s => l.length - s) 0 ?_ ?_ ?_ ?_
 ·exact ⟨Nat.zero_le _, okL_zero⟩
 ·rfl
 ·rfl
 rintro i ⟨hi, hR⟩
 simp only [go_sem]
 repeat refine sq ?_
 refine rs hΓ [0,1,2,3,11,12,13,14] [] ?_
 repeat refine sq ?_
 refine cnd (fun hb => ?_) fun hb => ?_
 ·have hlt : i < l.length := by simpa using hb
  have hlt' : (i : Int) < l.length := by omega
  clear hb
  obtain ⟨p, hp, hpl, hpos⟩ := prev_at hlt hl
  refine cl_skip ?_
  repeat refine sq ?_
  refine cl_block ?_
  repeat refine sq ?_
  refine rx hΓ [0,1,2,3,9,10,11,12,13] [[10, 0]] (fun K' hK => by simp only [go_sem, map_getD hlt, tnI, nnI, hlt']; exact fn) ?_
  repeat refine sq ?_
  refine dx hΓ hP [[], [], [0, 1], [0, 1, 2], u4, u5, u6, u7, u8, u8, u8, [0, 1, 2, 3, 4, 5, 6, 7, 10], [0, 1, 2, 3, 4, 5, 6, 7, 9, 10, 11], [0, 1, 2, 3, 4, 5, 6, 7, 9, 10, 11, 12], u14, u8, u8, u17, u18, u19, u20] [0,1,2,3,11,12,13,38] [] (by kernel_rfl) (fun K' hK => by simp only [go_sem, hp, map_getD hpl, fun b => errI_ne b 22 (by decide)]; (repeat (refine ⟨by first | exact ob | (intro h; have := hpos (by simp_all); simp_all; done), ?_⟩)); exact fd0) ?_
  refine cnd (fun hb => ?_) fun hb => ?_
  ·repeat refine sq ?_
   have hbad : allB retB Ret.so l = false := by
    rw [bool_of allB_iff]
    intro h
    obtain ⟨h1, h2⟩ := h i hlt hlt
    simp only [h1, Bool.not_true, Bool.false_or, Bool.and_eq_true, decide_eq_true_eq] at hb
    obtain ⟨e, _⟩ := hpos (by omega)
    subst e
    have := h2 (by omega)
    have := hb.2
    omega
   refine rs hΓ [8] [] ?_
   refine cl_ret ?_
   simp only [go_sem]
   rw [hbad]; rfl
  ·have hn : retB l[i] = true ∧ (0 < i → Ret.so l[i - 1] < Ret.so l[i]) := by
    simp only [Bool.or_eq_false_iff, Bool.not_eq_false', Bool.and_eq_false_iff, decide_eq_false_iff_not] at hb
    refine ⟨hb.1, fun h => ?_⟩
    obtain ⟨e, _⟩ := hpos h
    subst e
    omega
   refine cl_skip ?_
   refine cl_nil ?_
   simp only [go_sem]
   refine kp [0,1,2,3,11,12,13] [] ?_
   refine cl_r hΓ fun K' hK => ?_
   simp only [go_sem]
   repeat refine ⟨ob, ?_⟩
   refine hK _ ?_
   clear K' hK
   simp only [go_sem]
   refine ⟨i + 1, ⟨hlt, ?_⟩, by (show l.length - (i + 1) < l.length - i; omega), ?_⟩
   ·exact okL_succ hR hlt hn
   refine weak_eq [0,1,2,3,11,12,13] [] ?_ ?_ <;> simp only [go_sem, wrap_succ hlt hl, csI]
 ·have hge : i = l.length := by
   have : ¬ (i : Int) < l.length := by simpa using hb
   omega
  clear hb
  subst hge
  refine cl_exit ?_
  simp only [go_sem]
  refine kp [0,1] [] ?_
  repeat refine sq ?_
  refine rs hΓ [8] [] ?_
  refine cl_ret ?_
  simp only [go_sem]
  rw [allB_iff.2 hR]; rfl
@[go_sem] def P115 : PSpec := p4 (iSl iS) iI (iF 67) (iF 116) (fun _ _ _ _ => True) (fun l m _ _ => .bool (allB sigB Sig.so l && decide ((l.length : Int) ≤ m))) true
@[go_sem] def S115 : Spec := P115.toSpec
theorem s115 : PSound Tryz.prog 115 P115 := by
 refine wd4 (rs := [.tmp 8]) Tryz.func115 Tryz.ntmps115 fun l m _ _ hp hw => ?_
 have hP := mixedK
 simp only [iF, iI, iS, iSl, iC] at hw ⊢
 have hΓ := K5_sound
 have hl : l.length ≤ maxLen := by have := hw.1.1; simpa using this
 repeat refine sq ?_
 refine rs hΓ [0,1,2,3] [] ?_
 repeat refine sq ?_
 refine rs hΓ [0,1,2,3,11,12,13] [] ?_
 refine cl_block ?_
 refine cl_loop'  (fun s : Nat => [(13, ⟨true, .v (vInt s)⟩)]) (fun s => []) (fun s => s ≤ l.length ∧ okL sigB Sig.so l s) (fun s => l.length - s) 0 ?_ ?_ ?_ ?_
 ·exact ⟨Nat.zero_le _, okL_zero⟩
 ·rfl
 ·rfl
 rintro i ⟨hi, hR⟩
 simp only [go_sem]
 repeat refine sq ?_
 refine rs hΓ [0,1,2,3,11,12,13,14] [] ?_
 repeat refine sq ?_
 refine cnd (fun hb => ?_) fun hb => ?_
 ·have hlt : i < l.length := by simpa using hb
  have hlt' : (i : Int) < l.length := by omega
  clear hb
  obtain ⟨p, hp, hpl, hpos⟩ := prev_at hlt hl
  refine cl_skip ?_
  repeat refine sq ?_
  refine cl_block ?_
  repeat refine sq ?_
  refine rx hΓ [0,1,2,3,9,10,11,12,13] [[10, 0]] (fun K' hK => by simp only [go_sem, map_getD hlt, tnI, nnI, hlt']; exact fn) ?_
  repeat refine sq ?_
  refine dx hΓ hP [[], [], [0, 1], [0, 1, 2], u4, u5, u6, u7, u8, u8, u8, [0, 1, 2, 3, 4, 5, 6, 7, 10], [0, 1, 2, 3, 4, 5, 6, 7, 9, 10, 11], [0, 1, 2, 3, 4, 5, 6, 7, 9, 10, 11, 12], u14, u8, u8, u17, u18, u19, u20] [0,1,2,3,11,12,13,38] [] (by kernel_rfl) (fun K' hK => by simp only [go_sem, hp, map_getD hpl, fun b => errI_ne b 23 (by decide)]; (repeat (refine ⟨by first | exact ob | (intro h; have := hpos (by simp_all); simp_all; done), ?_⟩)); exact fd0) ?_
  refine cnd (fun hb => ?_) fun hb => ?_
  ·repeat refine sq ?_
   have hbad : allB sigB Sig.so l = false := by
    rw [bool_of allB_iff]
    intro h
    obtain ⟨h1, h2⟩ := h i hlt hlt
    simp only [h1, Bool.not_true, Bool.false_or, Bool.and_eq_true, decide_eq_true_eq] at hb
    obtain ⟨e, _⟩ := hpos (by omega)
    subst e
    have := h2 (by omega)
    have := hb.2
    omega
   refine rs hΓ [8] [] ?_
   refine cl_ret ?_
   simp only [go_sem]
   rw [hbad]; rfl
  ·have hn : sigB l[i] = true ∧ (0 < i → Sig.so l[i - 1] < Sig.so l[i]) := by
    simp only [Bool.or_eq_false_iff, Bool.not_eq_false', Bool.and_eq_false_iff, decide_eq_false_iff_not] at hb
    refine ⟨hb.1, fun h => ?_⟩
    obtain ⟨e, _⟩ := hpos h
    subst e
    omega
   refine cl_skip ?_
   refine cl_nil ?_
   simp only [go_sem]
   refine kp [0,1,2,3,11,12,13] [] ?_
   refine cl_r hΓ fun K' hK => ?_
   simp only [go_sem]
   repeat refine ⟨ob, ?_⟩
   refine hK _ ?_
   clear K' hK
   simp only [go_sem]
   refine ⟨i + 1, ⟨hlt, ?_⟩, by (show l.length - (i + 1) < l.length - i; omega), ?_⟩
   ·exact okL_succ hR hlt hn
   refine weak_eq [0,1,2,3,11,12,13] [] ?_ ?_ <;> simp only [go_sem, wrap_succ hlt hl, csI]
 ·have hge : i = l.length := by
   have : ¬ (i : Int) < l.length := by simpa using hb
   omega
  clear hb
  subst hge
  refine cl_exit ?_
  simp only [go_sem]
  refine kp [0,1] [] ?_
  repeat refine sq ?_
  refine rs hΓ [8] [] ?_
  refine cl_ret ?_
  simp only [go_sem]
  rw [allB_iff.2 hR]; rfl
end
set_option maxHeartbeats 8000000
noncomputable section
theorem mid_i64 {i j : Nat} (hi : i ≤ maxLen) (hj : j ≤ maxLen) : IntKind.i64.wrap ((IntKind.u64.wrap (IntKind.i64.wrap ((i : Int) + (j : Int)))).fdiv (2 ^ min (Int.toNat 1) 64)) = (((i + j) / 2 : Nat) : Int) := by
 unfold maxLen at hi hj
 have h1 : min (Int.toNat 1) 64 = 1 := by decide
 have h2 : IntKind.u64.wrap (IntKind.i64.wrap ((i : Int) + (j : Int))) = ((i + j : Nat) : Int) := by
  rw [IntKind.wrap_u64, IntKind.wrap_i64]
  omega
 rw [h1, h2]
 have h3 : (((i + j : Nat) : Int)).fdiv (2 ^ 1) = (((i + j) / 2 : Nat) : Int) := by
  rw [Int.fdiv_eq_ediv_of_nonneg _ (by decide)]
  omega
 rw [h3, wrap_i64 (by omega) (by omega)]
theorem cmpI_lt {a b : Int} : cmpI a b < 0 ↔ a < b := by
 unfold cmpI
 split
 ·simp [*]
 ·split <;> simp <;> omega
theorem cmpI_eq {a b : Int} : (cmpI a b == 0) = (a == b) := by
 unfold cmpI
 split
 ·have : a ≠ b := by omega
  simp [this]
 ·split
  ·have : a ≠ b := by omega
   simp [this]
  ·have : a = b := by omega
   simp [this]
def srt {α : Type} (num : α → Int) (l : List α) : Prop := ∀ i j (hi : i < l.length) (hj : j < l.length), i < j → num l[i] < num l[j]
theorem srt_of {α : Type} {num : α → Int} {l : List α} (h : ∀ j (h : j < l.length), 0 < j → num l[j - 1] < num l[j]) : srt num l := by
 intro i j hi hj hij
 induction j with
 | zero => omega
 | succ j ih =>
  have h1 := h (j + 1) hj (by omega)
  simp only [Nat.add_sub_cancel] at h1
  rcases Nat.lt_succ_iff_lt_or_eq.1 hij with h2 | rfl
  ·have := ih (by omega) h2; omega
  ·exact h1
theorem okL_srt {α : Type} {chk : α → Bool} {num : α → Int} {l : List α} (h : okL chk num l l.length) : srt num l := srt_of fun j hj h0 => (h j hj hj).2 h0
def lowN {α : Type} (num : α → Int) (l : List α) (x : Int) : Nat := (l.takeWhile fun y => decide (num y < x)).length
def hasN {α : Type} (num : α → Int) (l : List α) (x : Int) : Bool := l.any fun y => num y == x
theorem lowN_at {α : Type} {num : α → Int} {l : List α} {x : Int} {i : Nat} (hi : i ≤ l.length) (h1 : ∀ k (h : k < l.length), k < i → num l[k] < x) (h2 : ∀ k (h : k < l.length), i ≤ k → x ≤ num l[k]) : lowN num l x = i := by
 unfold lowN
 induction l generalizing i with
 | nil => simp at hi ⊢; omega
 | cons a r ih =>
  cases i with
  | zero =>
   have := h2 0 (by simp) (Nat.le_refl _)
   simp only [List.getElem_cons_zero] at this
   have hd : decide (num a < x) = false := by simp; omega
   simp [hd]
  | succ i =>
   have := h1 0 (by simp) (by omega)
   simp only [List.getElem_cons_zero] at this
   have hd : decide (num a < x) = true := by simp; omega
   simp only [List.takeWhile_cons, hd, if_true, List.length_cons]
   rw [ih (by simpa using hi) (fun k hk hki => by have := h1 (k + 1) (by simpa using hk) (by omega); simpa using this) (fun k hk hki => by have := h2 (k + 1) (by simpa using hk) (by omega); simpa using this)]
theorem hasN_iff {α : Type} {num : α → Int} {l : List α} {x : Int} : hasN num l x = true ↔ ∃ k, ∃ (h : k < l.length), num l[k] = x := by
 unfold hasN
 rw [List.any_eq_true]
 constructor
 ·rintro ⟨y, hy, h⟩
  obtain ⟨k, hk, rfl⟩ := List.getElem_of_mem hy
  exact ⟨k, hk, by simpa using h⟩
 ·rintro ⟨k, hk, h⟩
  exact ⟨_, List.getElem_mem hk, by simpa using h⟩
theorem hasN_at {α : Type} {num : α → Int} {l : List α} {x : Int} {i : Nat} (hs : srt num l) (hi : i < l.length) (h1 : ∀ k (h : k < l.length), k < i → num l[k] < x) (h2 : ∀ k (h : k < l.length), i ≤ k → x ≤ num l[k]) : hasN num l x = (num l[i] == x) := by
 rw [Bool.eq_iff_iff, hasN_iff]
 simp only [beq_iff_eq]
 constructor
 ·rintro ⟨k, hk, e⟩
  rcases Nat.lt_trichotomy k i with h3 | h3 | h3
  ·have := h1 k hk h3; omega
  ·subst h3; exact e
  ·have := hs i k hi hk h3
   have := h2 i hi (Nat.le_refl _)
   omega
 ·intro e
  exact ⟨i, hi, e⟩
theorem hasN_none {α : Type} {num : α → Int} {l : List α} {x : Int} (h1 : ∀ k (h : k < l.length), num l[k] < x) : hasN num l x = false := by
 rw [Bool.eq_false_iff]
 intro h
 obtain ⟨k, hk, e⟩ := hasN_iff.1 h
 have := h1 k hk
 omega
def K6a : List (Nat × Spec) := [(140, S140)]
theorem K6a_sound : KS K6a := tc s140.sound <| tn
attribute [go_sem] K6a
@[go_sem] def P169 : PSpec := p2 iP iI (fun _ _ => True) (fun p x => vInt (cmpI p.id x)) true
@[go_sem] def S169 : Spec := P169.toSpec
theorem s169 : PSound Tryz.prog 169 P169 := by
 refine wd2 (rs := [.tmp 4]) Tryz.func169 Tryz.ntmps169 fun p x hp hw => ?_
 simp only [iI, iP, encP] at hw ⊢
 have hΓ := K6a_sound
 repeat refine sq ?_
 refine rs hΓ [1,2] [[2, 0]] ?_
 repeat refine sq ?_
 refine rs hΓ [4] [] ?_
 refine cl_ret ?_
 simp only [go_sem]
 all_goals exact fzI
def K6b : List (Nat × Spec) := [(169, S169)]
theorem K6b_sound : KS K6b := tc s169.sound <| tn
attribute [go_sem] K6b
@[go_sem] def P168 : PSpec := p3 (iSl iP) iI (iF 169) (fun l _ _ => srt Pap.id l) (fun l x _ => .tup [vInt (lowN Pap.id l x), .bool (hasN Pap.id l x)]) true
@[go_sem] def S168 : Spec := P168.toSpec
set_option maxRecDepth 10000 in
theorem s168 : PSound Tryz.prog 168 P168 := by
 refine wd3 (rs := [.tmp 6, .tmp 7]) Tryz.func168 Tryz.ntmps168 fun l x _ hp hw => ?_
 simp only [iF, iI, iP, iSl, iC] at hw ⊢
 have hΓ := K6b_sound
 have hs := hp
 have hl : l.length ≤ maxLen := by have := hw.1.1; simpa using this
 repeat refine sq ?_
 refine rs hΓ [0,1,2] [] ?_
 repeat refine sq ?_
 refine rs hΓ [0,1,2,8] [] ?_
 repeat refine sq ?_
 refine rs hΓ [0,1,2,8,9,10] [] ?_
 repeat refine sq ?_
 refine cl_block ?_
 refine cl_loop' (fun ij : Nat × Nat => [(9, ⟨true, .v (vInt ij.1)⟩), (10, ⟨true, .v (vInt ij.2)⟩)]) (fun i => []) (fun ij => ij.1 ≤ ij.2 ∧ ij.2 ≤ l.length ∧ (∀ k (h : k < l.length), k < ij.1 → Pap.id l[k] < x) ∧ (∀ k (h : k < l.length), ij.2 ≤ k → x ≤ Pap.id l[k])) (fun ij => ij.2 - ij.1) (0, l.length) ?_ ?_ ?_ ?_
 ·exact ⟨Nat.zero_le _, Nat.le_refl _, fun k h hk => by omega, fun k h hk => by omega⟩
 ·rfl
 ·rfl
 rintro ⟨i, j⟩ ⟨hij, hjl, hlo, hhi⟩
 simp only [go_sem]
 repeat refine sq ?_
 refine rs hΓ [0,1,2,8,9,10,17] [] ?_
 refine cnd (fun hb => ?_) fun hb => ?_
 ·have hlt : i < j := by simpa using hb
  refine cl_skip ?_
  refine cl_block ?_
  repeat refine sq ?_
  refine rx hΓ [0,1,2,8,9,10,11] [] (fun K' hK => by simp only [go_sem, mid_i64 (show i ≤ maxLen by omega) (show j ≤ maxLen by omega)]; exact fn) ?_
  obtain ⟨h, hh⟩ : ∃ h, h = (i + j) / 2 := ⟨_, rfl⟩
  rw [← hh]
  have h1 : i ≤ h := by omega
  have h2 : h < j := by omega
  have h3 : h < l.length := by omega
  have h3' : (h : Int) < l.length := by omega
  repeat refine sq ?_
  refine rx hΓ [0,1,2,8,9,10,11,31] [] (fun K' hK => by simp only [go_sem, map_getD h3, tnI, nnI, h3']; exact fn) ?_
  refine cnd (fun hb => ?_) fun hb => ?_
  ·have hx : Pap.id l[h] < x := by simpa [cmpI_lt] using hb
   refine cl_r hΓ fun K' hK => ?_
   simp only [go_sem]
   repeat refine ⟨ob, ?_⟩
   refine hK _ ?_
   clear K' hK
   simp only [go_sem]
   refine ⟨(h + 1, j), ⟨by omega, hjl, fun k hk hkh => ?_, hhi⟩, by omega, ?_⟩
   ·rcases Nat.lt_succ_iff_lt_or_eq.1 hkh with h5 | h5
    ·have := hs k h hk h3 h5; omega
    ·subst h5; exact hx
   ·refine weak_eq [0,1,2,8,9,10] [] ?_ ?_ <;> simp only [go_sem, wrap_succ h3 hl, csI]
  ·have hx : x ≤ Pap.id l[h] := by
    have : ¬ Pap.id l[h] < x := by simpa [cmpI_lt] using hb
    omega
   refine cl_r hΓ fun K' hK => ?_
   simp only [go_sem]
   repeat refine ⟨ob, ?_⟩
   refine hK _ ?_
   clear K' hK
   simp only [go_sem]
   refine ⟨(i, h), ⟨by omega, by omega, hlo, fun k hk hkh => ?_⟩, by omega, ?_⟩
   ·rcases Nat.lt_or_eq_of_le hkh with h5 | h5
    ·have := hs h k h3 hk h5; omega
    ·subst h5; exact hx
   ·refine weak_eq [0,1,2,8,9,10] [] ?_ ?_ <;> simp only [go_sem]
 ·have he : i = j := by
   have : ¬ (i : Int) < j := by simpa using hb
   omega
  subst he
  refine cl_exit ?_
  simp only [go_sem]
  refine kp [0,1,2,8,9] [] ?_
  by_cases hin : i < l.length
  ·have hin' : (i : Int) < l.length := by omega
   repeat refine sq ?_
   refine rx hΓ [6,7] [] (fun K' hK => by simp only [go_sem, map_getD hin, tnI, nnI, hin']; exact fn) ?_
   refine cl_ret ?_
   simp only [go_sem]
   rw [lowN_at hjl hlo hhi, hasN_at hs hin hlo hhi]
   simp [cmpI_eq]
  ·have hil : i = l.length := by omega
   have hin' : ¬ (i : Int) < l.length := by omega
   obtain ⟨k0, n0, hdef⟩ : ∃ k0 n0, (l.map encP).getD i default = .int k0 n0 := by
    refine ⟨default, default, ?_⟩
    rw [List.getD_eq_getElem?_getD, List.getElem?_eq_none (by simp; omega)]
    rfl
   repeat refine sq ?_
   refine rx hΓ [6,7] [] (fun K' hK => by simp only [go_sem, hdef, tnI, nnI, hin']; exact fn) ?_
   refine cl_ret ?_
   simp only [go_sem]
   rw [lowN_at hjl hlo hhi, hasN_none fun k hk => hlo k hk (by omega)]
   simp
def lvOf (l : List Pap) (id : Int) : Int := match l.find? fun p => p.id == id with
 | some p => p.lv
 | none => 0
theorem lvOf_at {l : List Pap} {x : Int} {i : Nat} (hi : i < l.length) (h : l[i].id = x) (h1 : ∀ k (h : k < l.length), k < i → l[k].id ≠ x) : lvOf l x = l[i].lv := by
 unfold lvOf
 have : (l.find? fun p => p.id == x) = some l[i] := by
  rw [List.find?_eq_some_iff_getElem]
  exact ⟨by simpa using h, i, hi, rfl, fun j hj => by simpa using h1 j (by omega) hj⟩
 rw [this]
theorem lvOf_none {l : List Pap} {x : Int} (h1 : ∀ k (h : k < l.length), l[k].id ≠ x) : lvOf l x = 0 := by
 unfold lvOf
 have : (l.find? fun p => p.id == x) = none := by
  rw [List.find?_eq_none]
  intro p hp
  obtain ⟨k, hk, rfl⟩ := List.getElem_of_mem hp
  simpa using h1 k hk
 rw [this]
theorem low_found {l : List Pap} {x : Int} (hs : srt Pap.id l) (h : hasN Pap.id l x = true) : ∃ (h : lowN Pap.id l x < l.length), l[lowN Pap.id l x].lv = lvOf l x := by
 obtain ⟨k, hk, e⟩ := hasN_iff.1 h
 have e2 : lowN Pap.id l x = k := lowN_at (Nat.le_of_lt hk) (fun j hj hjk => by have := hs j k hj hk hjk; omega) (fun j hj hjk => by
  rcases Nat.lt_or_eq_of_le hjk with h | rfl
  ·have := hs k j hk hj h; omega
  ·omega)
 refine ⟨e2 ▸ hk, ?_⟩
 rw [lvOf_at hk e fun j hj hjk => by have := hs j k hj hk hjk; omega]
 congr
theorem low_none {l : List Pap} {x : Int} (h : hasN Pap.id l x = false) : lvOf l x = 0 := lvOf_none fun k hk e => by
 rw [hasN_iff.2 ⟨k, hk, e⟩] at h; cases h
def K6 : List (Nat × Spec) := [(168, S168)]
theorem K6_sound : KS K6 := tc s168.sound <| tn
attribute [go_sem] K6
@[go_sem] def P79 : PSpec := p2 iLp iI (fun l _ => srt Pap.id l.ps) (fun l x => vInt (lvOf l.ps x)) true
@[go_sem] def S79 : Spec := P79.toSpec
theorem s79 : PSound Tryz.prog 79 P79 := by
 refine wd2 (rs := [.tmp 4]) Tryz.func79 Tryz.ntmps79 fun l x hp hw => ?_
 simp only [iI, iLp, encLp] at hw ⊢
 have hΓ := K6_sound
 repeat refine sq ?_
 refine rs hΓ [0,1] [] ?_
 repeat refine sq ?_
 refine rx hΓ [0,5,6] [] (fun K' hK => by simp only [go_sem, hp]; exact fn) ?_
 repeat refine sq ?_
 refine rs hΓ [0,5,17] [] ?_
 refine cnd (fun hb => ?_) fun hb => ?_
 ·repeat refine sq ?_
  have hf : hasN Pap.id l.ps x = false := by simpa using hb
  refine rs hΓ [4] [] ?_
  refine cl_ret ?_
  simp only [go_sem]
  rw [low_none hf]
 ·have hf : hasN Pap.id l.ps x = true := by simpa using hb
  obtain ⟨hlow, hlv⟩ := low_found hp hf
  have hlow' : (lowN Pap.id l.ps x : Int) < l.ps.length := by omega
  refine cl_skip ?_
  repeat refine sq ?_
  refine rx hΓ [4] [] (fun K' hK => by simp only [go_sem, map_getD hlow, tnI, nnI, hlow']; exact fn) ?_
  refine cl_ret ?_
  simp only [go_sem]
  rw [hlv]
@[go_sem] def P84 : PSpec := p2 iL iI (fun _ _ => True) (fun l x => vInt (lvOf l.ps x)) true
@[go_sem] def S84 : Spec := P84.toSpec
theorem s84 : PSound Tryz.prog 84 P84 := by
 refine wd2 (rs := [.tmp 4]) Tryz.func84 Tryz.ntmps84 fun l x hp hw => ?_
 simp only [iI, iL, encL] at hw ⊢
 have hΓ := @no_sound Tryz.prog
 have hl : l.ps.length ≤ maxLen := by have := hw.1; simp [V.wfL, V.wf] at this; omega
 repeat refine sq ?_
 refine rs hΓ [1,2] [[2, 0]] ?_
 repeat refine sq ?_
 refine rs hΓ [1,2,5] [[2, 0]] ?_
 refine cl_block ?_
 refine cl_loop'  (fun s : Nat => [(5, ⟨true, .v (vInt s)⟩)]) (fun s => []) (fun s => s ≤ l.ps.length ∧ ∀ k (h : k < l.ps.length), k < s → l.ps[k].id ≠ x) (fun s => l.ps.length - s) 0 ?_ ?_ ?_ ?_
 ·exact ⟨Nat.zero_le _, by simp⟩
 ·rfl
 ·rfl
 rintro i ⟨hi, hR⟩
 simp only [go_sem]
 repeat refine sq ?_
 refine rs hΓ [1,2,5,10] [[2, 0]] ?_
 refine cnd (fun hb => ?_) fun hb => ?_
 ·have hlt : i < l.ps.length := by simpa using hb
  have hlt' : (i : Int) < l.ps.length := by omega
  clear hb
  refine cl_skip ?_
  repeat refine sq ?_
  refine cl_block ?_
  repeat refine sq ?_
  refine rx hΓ [1,2,5,20] [[2, 0]] (fun K' hK => by simp only [go_sem, map_getD hlt, tnI, nnI, hlt']; exact fn) ?_
  refine cnd (fun hb => ?_) fun hb => ?_
  ·repeat refine sq ?_
   refine rx hΓ [4] [] (fun K' hK => by simp only [go_sem, map_getD hlt, tnI, nnI, hlt']; exact fn) ?_
   refine cl_ret ?_
   simp only [go_sem]
   rw [lvOf_at hlt (by simpa using hb) hR]
  ·refine cl_skip ?_
   refine cl_nil ?_
   simp only [go_sem]
   refine kp [1,2,5] [[2, 0]] ?_
   refine cl_r hΓ fun K' hK => ?_
   simp only [go_sem]
   repeat refine ⟨ob, ?_⟩
   refine hK _ ?_
   clear K' hK
   simp only [go_sem]
   refine ⟨i + 1, ⟨hlt, ?_⟩, by (show l.ps.length - (i + 1) < l.ps.length - i; omega), ?_⟩
   ·intro k hk hki
    rcases Nat.lt_succ_iff_lt_or_eq.1 hki with h5 | rfl
    ·exact hR k hk h5
    ·simpa using hb
   refine weak_eq [1,2,5] [[2, 0]] ?_ ?_ <;> simp only [go_sem, wrap_succ hlt hl, csI]
 ·have hge : i = l.ps.length := by
   have : ¬ (i : Int) < l.ps.length := by simpa using hb
   omega
  clear hb
  subst hge
  refine cl_exit ?_
  simp only [go_sem]
  refine kp [] [] ?_
  repeat refine sq ?_
  refine rs hΓ [4] [] ?_
  refine cl_ret ?_
  simp only [go_sem]
  rw [lvOf_none fun k hk => hR k hk hk]
end
end Go.Eng
set_option linter.unusedVariables false
namespace Go.Eng
open Go Go.Proofs Go.RowKit Go.Lib Go.Shelf
end Go.Eng
set_option linter.unusedVariables false
namespace Go.Eng
open Go Go.Proofs Go.RowKit Go.Lib Go.Shelf
set_option maxHeartbeats 2000000 in
set_option maxRecDepth 100000 in
theorem clone132_nil (n c : Nat) (w : World) : Calls Tryz.prog 132 #[.slice none n c] w fun e w' => e = .returned (.slice none 0 0) ∧ w' = w := by
 have mixed : Tryz.prog.follows Departure.mixedOrders = true := by kernel_rfl
 have qT : ∀ (w : World) (a : Option Addr) (n c n' c' : Nat), (binOp .eql 29 (.slice a n c) (.slice none n' c')).run Tryz.prog w = .ok (.bool a.isNone) w := fun w a n c n' c' => Lib.run_eql_slice_nil w _ _ a n c n' c' Tryz.underlying29
 go_enter Tryz.func132, Tryz.ntmps132
 go_wp2
 go_ret
 exact ⟨rfl, rfl⟩
set_option maxHeartbeats 2000000 in
set_option maxRecDepth 100000 in
theorem clone132_some (a : Addr) (n c : Nat) (w : World) (v' : Value) (w' : World)
  (hrun : ∀ ty, (Builtin.append_ #[29, 29] ty #[.slice (some ⟨w.heap.size, 0, none⟩) 0 0, .slice (some a) n c]).run Tryz.prog (w.alloc (.cells #[] 81)) = .ok v' w') :
  Calls Tryz.prog 132 #[.slice (some a) n c] w fun e w1 => e = .returned v' ∧ w1 = w' := by
 have mixed : Tryz.prog.follows Departure.mixedOrders = true := by kernel_rfl
 have qT : ∀ (w : World) (a : Option Addr) (n c n' c' : Nat), (binOp .eql 29 (.slice a n c) (.slice none n' c')).run Tryz.prog w = .ok (.bool a.isNone) w := fun w a n c n' c' => Lib.run_eql_slice_nil w _ _ a n c n' c' Tryz.underlying29
 go_enter Tryz.func132, Tryz.ntmps132
 go_wp2_with (at_builtin; refine Lib.wpList_append_run _ rfl _ _ _ _ rfl _ _ rfl rfl _ _ (hrun _) ?_)
 go_ret
 exact ⟨rfl, rfl⟩
set_option maxHeartbeats 2000000 in
set_option maxRecDepth 100000 in
theorem clone176_nil (n c : Nat) (w : World) : Calls Tryz.prog 176 #[.slice none n c] w fun e w' => e = .returned (.slice none 0 0) ∧ w' = w := by
 have mixed : Tryz.prog.follows Departure.mixedOrders = true := by kernel_rfl
 have qT : ∀ (w : World) (a : Option Addr) (n c n' c' : Nat), (binOp .eql 26 (.slice a n c) (.slice none n' c')).run Tryz.prog w = .ok (.bool a.isNone) w := fun w a n c n' c' => Lib.run_eql_slice_nil w _ _ a n c n' c' Tryz.underlying26
 go_enter Tryz.func176, Tryz.ntmps176
 go_wp2
 go_ret
 exact ⟨rfl, rfl⟩
set_option maxHeartbeats 2000000 in
set_option maxRecDepth 100000 in
theorem clone176_some (a : Addr) (n c : Nat) (w : World) (v' : Value) (w' : World)
  (hrun : ∀ ty, (Builtin.append_ #[26, 26] ty #[.slice (some ⟨w.heap.size, 0, none⟩) 0 0, .slice (some a) n c]).run Tryz.prog (w.alloc (.cells #[] 46)) = .ok v' w') :
  Calls Tryz.prog 176 #[.slice (some a) n c] w fun e w1 => e = .returned v' ∧ w1 = w' := by
 have mixed : Tryz.prog.follows Departure.mixedOrders = true := by kernel_rfl
 have qT : ∀ (w : World) (a : Option Addr) (n c n' c' : Nat), (binOp .eql 26 (.slice a n c) (.slice none n' c')).run Tryz.prog w = .ok (.bool a.isNone) w := fun w a n c n' c' => Lib.run_eql_slice_nil w _ _ a n c n' c' Tryz.underlying26
 go_enter Tryz.func176, Tryz.ntmps176
 go_wp2_with (at_builtin; refine Lib.wpList_append_run _ rfl _ _ _ _ rfl _ _ rfl rfl _ _ (hrun _) ?_)
 go_ret
 exact ⟨rfl, rfl⟩
set_option maxHeartbeats 2000000 in
set_option maxRecDepth 100000 in
theorem clone177_nil (n c : Nat) (w : World) : Calls Tryz.prog 177 #[.slice none n c] w fun e w' => e = .returned (.slice none 0 0) ∧ w' = w := by
 have mixed : Tryz.prog.follows Departure.mixedOrders = true := by kernel_rfl
 have qT : ∀ (w : World) (a : Option Addr) (n c n' c' : Nat), (binOp .eql 27 (.slice a n c) (.slice none n' c')).run Tryz.prog w = .ok (.bool a.isNone) w := fun w a n c n' c' => Lib.run_eql_slice_nil w _ _ a n c n' c' Tryz.underlying27
 go_enter Tryz.func177, Tryz.ntmps177
 go_wp2
 go_ret
 exact ⟨rfl, rfl⟩
set_option maxHeartbeats 2000000 in
set_option maxRecDepth 100000 in
theorem clone177_some (a : Addr) (n c : Nat) (w : World) (v' : Value) (w' : World)
  (hrun : ∀ ty, (Builtin.append_ #[27, 27] ty #[.slice (some ⟨w.heap.size, 0, none⟩) 0 0, .slice (some a) n c]).run Tryz.prog (w.alloc (.cells #[] 36)) = .ok v' w') :
  Calls Tryz.prog 177 #[.slice (some a) n c] w fun e w1 => e = .returned v' ∧ w1 = w' := by
 have mixed : Tryz.prog.follows Departure.mixedOrders = true := by kernel_rfl
 have qT : ∀ (w : World) (a : Option Addr) (n c n' c' : Nat), (binOp .eql 27 (.slice a n c) (.slice none n' c')).run Tryz.prog w = .ok (.bool a.isNone) w := fun w a n c n' c' => Lib.run_eql_slice_nil w _ _ a n c n' c' Tryz.underlying27
 go_enter Tryz.func177, Tryz.ntmps177
 go_wp2_with (at_builtin; refine Lib.wpList_append_run _ rfl _ _ _ _ rfl _ _ rfl rfl _ _ (hrun _) ?_)
 go_ret
 exact ⟨rfl, rfl⟩
set_option maxHeartbeats 2000000 in
set_option maxRecDepth 100000 in
theorem clone178_nil (n c : Nat) (w : World) : Calls Tryz.prog 178 #[.slice none n c] w fun e w' => e = .returned (.slice none 0 0) ∧ w' = w := by
 have mixed : Tryz.prog.follows Departure.mixedOrders = true := by kernel_rfl
 have qT : ∀ (w : World) (a : Option Addr) (n c n' c' : Nat), (binOp .eql 28 (.slice a n c) (.slice none n' c')).run Tryz.prog w = .ok (.bool a.isNone) w := fun w a n c n' c' => Lib.run_eql_slice_nil w _ _ a n c n' c' Tryz.underlying28
 go_enter Tryz.func178, Tryz.ntmps178
 go_wp2
 go_ret
 exact ⟨rfl, rfl⟩
set_option maxHeartbeats 2000000 in
set_option maxRecDepth 100000 in
theorem clone178_some (a : Addr) (n c : Nat) (w : World) (v' : Value) (w' : World)
  (hrun : ∀ ty, (Builtin.append_ #[28, 28] ty #[.slice (some ⟨w.heap.size, 0, none⟩) 0 0, .slice (some a) n c]).run Tryz.prog (w.alloc (.cells #[] 40)) = .ok v' w') :
  Calls Tryz.prog 178 #[.slice (some a) n c] w fun e w1 => e = .returned v' ∧ w1 = w' := by
 have mixed : Tryz.prog.follows Departure.mixedOrders = true := by kernel_rfl
 have qT : ∀ (w : World) (a : Option Addr) (n c n' c' : Nat), (binOp .eql 28 (.slice a n c) (.slice none n' c')).run Tryz.prog w = .ok (.bool a.isNone) w := fun w a n c n' c' => Lib.run_eql_slice_nil w _ _ a n c n' c' Tryz.underlying28
 go_enter Tryz.func178, Tryz.ntmps178
 go_wp2_with (at_builtin; refine Lib.wpList_append_run _ rfl _ _ _ _ rfl _ _ rfl rfl _ _ (hrun _) ?_)
 go_ret
 exact ⟨rfl, rfl⟩
set_option maxHeartbeats 2000000 in
set_option maxRecDepth 100000 in
theorem clone179_nil (n c : Nat) (w : World) : Calls Tryz.prog 179 #[.slice none n c] w fun e w' => e = .returned (.slice none 0 0) ∧ w' = w := by
 have mixed : Tryz.prog.follows Departure.mixedOrders = true := by kernel_rfl
 have qT : ∀ (w : World) (a : Option Addr) (n c n' c' : Nat), (binOp .eql 32 (.slice a n c) (.slice none n' c')).run Tryz.prog w = .ok (.bool a.isNone) w := fun w a n c n' c' => Lib.run_eql_slice_nil w _ _ a n c n' c' Tryz.underlying32
 go_enter Tryz.func179, Tryz.ntmps179
 go_wp2
 go_ret
 exact ⟨rfl, rfl⟩
set_option maxHeartbeats 2000000 in
set_option maxRecDepth 100000 in
theorem clone179_some (a : Addr) (n c : Nat) (w : World) (v' : Value) (w' : World)
  (hrun : ∀ ty, (Builtin.append_ #[32, 32] ty #[.slice (some ⟨w.heap.size, 0, none⟩) 0 0, .slice (some a) n c]).run Tryz.prog (w.alloc (.cells #[] 3)) = .ok v' w') :
  Calls Tryz.prog 179 #[.slice (some a) n c] w fun e w1 => e = .returned v' ∧ w1 = w' := by
 have mixed : Tryz.prog.follows Departure.mixedOrders = true := by kernel_rfl
 have qT : ∀ (w : World) (a : Option Addr) (n c n' c' : Nat), (binOp .eql 32 (.slice a n c) (.slice none n' c')).run Tryz.prog w = .ok (.bool a.isNone) w := fun w a n c n' c' => Lib.run_eql_slice_nil w _ _ a n c n' c' Tryz.underlying32
 go_enter Tryz.func179, Tryz.ntmps179
 go_wp2_with (at_builtin; refine Lib.wpList_append_run _ rfl _ _ _ _ rfl _ _ rfl rfl _ _ (hrun _) ?_)
 go_ret
 exact ⟨rfl, rfl⟩
def Z81 : Value := .agg #[.int .i64 0, .int .i64 0, .int .i64 0, .int .i64 0, .int .i64 0, .int .i64 0, .int .i64 0]
def Z46 : Value := .agg #[.int .i64 0, .int .i64 0]
def Z36 : Value := .agg #[.int .i64 0, .int .i64 0, .int .i64 0, .slice none 0 0, .int .i64 0, .int .i64 0, .int .i64 0]
def Z40 : Value := .agg #[.int .i64 0, .int .i64 0, .int .i64 0, .slice none 0 0, .int .i64 0, .int .i64 0, .int .i64 0, .int .i64 0]
theorem notYid (n : Nat) (h : n < 1000000000) : n ≠ yid := by unfold yid; omega
theorem clone132 : CloneLaw Tryz.prog 132 29 81 7 56 Z81 :=
 ⟨by kernel_rfl, by kernel_rfl, notYid _ (by decide), enter_of Tryz.func132 (by rfl) (by kernel_rfl), clone132_nil, clone132_some⟩
theorem clone176 : CloneLaw Tryz.prog 176 26 46 2 16 Z46 :=
 ⟨by kernel_rfl, by kernel_rfl, notYid _ (by decide), enter_of Tryz.func176 (by rfl) (by kernel_rfl), clone176_nil, clone176_some⟩
theorem clone177 : CloneLaw Tryz.prog 177 27 36 7 72 Z36 :=
 ⟨by kernel_rfl, by kernel_rfl, notYid _ (by decide), enter_of Tryz.func177 (by rfl) (by kernel_rfl), clone177_nil, clone177_some⟩
theorem clone178 : CloneLaw Tryz.prog 178 28 40 8 80 Z40 :=
 ⟨by kernel_rfl, by kernel_rfl, notYid _ (by decide), enter_of Tryz.func178 (by rfl) (by kernel_rfl), clone178_nil, clone178_some⟩
theorem clone179 : CloneLaw Tryz.prog 179 32 3 1 8 (.int .i64 0) :=
 ⟨by kernel_rfl, by kernel_rfl, notYid _ (by decide), enter_of Tryz.func179 (by rfl) (by kernel_rfl), clone179_nil, clone179_some⟩
open Go Go.Proofs
def encSeen (l : List Int) : List (V × V) := l.map fun s => (vInt s, .bool true)
def decSeen (es : List (V × V)) : List Int := es.map fun q => decI q.1
@[go_sem] theorem decSeen_enc (l : List Int) : decSeen (encSeen l) = l := by
 unfold decSeen encSeen
 rw [List.map_map]
 exact List.map_id _
def addSeen (l : List Int) (s : Int) : List Int := if l.contains s then l else l ++ [s]
theorem mget_seen (l : List Int) (s : Int) : mget (encSeen l) (vInt s) = if l.contains s then some (.bool true) else none := by
 induction l with
 | nil => rfl
 | cons a r ih =>
  show (if keq (vInt a) (vInt s) = true then some (V.bool true) else mget (encSeen r) (vInt s)) = _
  rw [ih]
  by_cases h : a = s
  ·subst h; simp [keq]
  ·have h' : (a == s) = false := by simpa using h
   have h'' : (s == a) = false := by simpa using fun e => h e.symm
   have h3 : ¬ s = a := fun e => h e.symm
   simp [keq, h', h3]
theorem mget_seenD (l : List Int) (s : Int) : (mget (encSeen l) (vInt s)).getD (.bool false) = .bool (l.contains s) := by
 rw [mget_seen]
 cases l.contains s <;> rfl
theorem mset_seen (l : List Int) (s : Int) : mset (encSeen l) (vInt s) (.bool true) = encSeen (addSeen l s) := by
 induction l with
 | nil => rfl
 | cons a r ih =>
  show (if keq (vInt a) (vInt s) = true then (vInt s, V.bool true) :: encSeen r else (vInt a, V.bool true) :: mset (encSeen r) (vInt s) (.bool true)) = _
  rw [ih]
  unfold addSeen
  by_cases h : a = s
  ·subst h; simp [keq, encSeen]
  ·have h' : (a == s) = false := by simpa using h
   have h'' : (s == a) = false := by simpa using fun e => h e.symm
   simp only [keq, h', Bool.false_eq_true, if_false, List.contains_cons, h'', Bool.false_or]
   split <;> rfl
def onceF (obj : Name → Option O) (_ : Name) : List D → List Name
 | [_, .ref nm _] => nm :: (match obj nm with | some (.box [.map mm]) => [mm] | _ => [])
 | _ => []
def onceA (obj : Name → Option O) (_ : Name) : List D → R
 | [.v (.int .i64 s), .ref nm 0] => match obj nm with
  | some (.box [.map mm]) => match obj mm with
   | some (.map 0 es) => ⟨(mm == nm) = false ∧ encSeen (decSeen es) = es, .v (.bool (!(decSeen es).contains s)), upd obj mm (some (.map 0 (encSeen (addSeen (decSeen es) s))))⟩
   | _ => .bad obj
  | _ => .bad obj
 | _ => .bad obj
def onceS : Spec := ⟨onceA, onceF, onceF⟩
theorem onceS_near : onceS.Near := by
 refine near_fw fun obj obj2 t ds ha => ?_
 unfold onceF at ha ⊢
 split
 ·rename_i d nm off
  simp only at ha
  have h1 : obj2 nm = obj nm := ha nm (by simp)
  refine ⟨by rw [h1], ?_⟩
  have hno : ∀ wr, Agr wr obj obj2 → Like (R.bad obj) (R.bad obj2) obj obj2 wr := fun wr h => .none wr h
  unfold onceA
  split
  ·rename_i s nm' e
   simp only [List.cons.injEq, D.ref.injEq, and_true] at e
   obtain ⟨_, rfl, rfl⟩ := e
   simp only [h1]
   split at ha
   ·rename_i mm hm
    have h2 : obj2 mm = obj mm := ha mm (by simp)
    simp only [h2]
    split
    ·exact .one (by simp) ha
    ·exact hno _ ha
   ·exact hno _ ha
  ·exact hno _ ha
 ·refine ⟨rfl, ?_⟩
  rename_i hds
  unfold onceA
  split
  ·exact (hds _ _ _ rfl).elim
  ·exact .none _ (fun _ h => by cases h)
attribute [go_sem] onceS onceA
def onceC : CSpec where
 pre := fun os ds => ∃ (ss : List Int) (s : Int), os = [.box [.map [1, 1]], .map 0 (encSeen ss)] ∧ ds = [.v (vInt s), .ref [0, 1] 0]
 out := fun os ds => match os, ds with
  | [_, .map _ es], [.v (.int _ s), _] => ⟨[(1, .map 0 (encSeen (addSeen (decSeen es) s)))], [], .v (.bool (!(decSeen es).contains s))⟩
  | _, _ => ⟨[], [], .any⟩
theorem onceS_sound {f : FuncId} (h : SSound Tryz.prog f onceC.toSpec) (hne : f ≠ yid) : SSound Tryz.prog f onceS := by
 refine ssound_eq h onceS_near hne fun obj t ds hok => ?_
 change (onceA obj t ds).ok at hok
 refine ⟨ds, rfl, fun _ _ _ _ h => h, ?_⟩
 show _ ∧ _ = (onceA obj t ds).d ∧ _ = (onceA obj t ds).obj
 unfold onceA at hok ⊢
 split at hok
 ·rename_i s nm
  split at hok
  ·rename_i mm hb
   split at hok
   ·rename_i es hm
    obtain ⟨hne', hes⟩ := hok
    have hmn : mm ≠ nm := by simpa using hne'
    have hbe : (nm == mm) = false := by simpa using fun e => hmn e.symm
    have hr : reach obj [.v (.int .i64 s), .ref nm 0] = [nm, mm] := by
     unfold reach
     show reachL obj (2997 + 1 + 1 + 1) [nm] [] = [nm, mm]
     simp only [reachL, inL, List.any_nil, Bool.false_eq_true, if_false, hb, namesO, namesL, namesD, List.nil_append, List.append_nil, List.any_cons, hbe, Bool.or_false, hm, List.cons_append]
    have i0 : idx [nm, mm] nm = 0 := by simp [idx]
    have i1 : idx [nm, mm] mm = 1 := by simp [idx, Ne.symm hmn]
    have e1 : cOs obj [.v (.int .i64 s), .ref nm 0] = [.box [.map [1, 1]], .map 0 es] := by
     unfold cOs
     rw [hr]
     simp only [List.map_cons, List.map_nil, canonO, hb, hm, O.ren, D.renL, D.ren, cin, i1]
    have e2 : cDs obj [.v (.int .i64 s), .ref nm 0] = [.v (.int .i64 s), .ref [0, 1] 0] := by
     unfold cDs
     rw [hr]
     simp only [D.renL, D.ren, cin, i0]
    have hout : onceC.out [.box [.map [1, 1]], .map 0 es] [.v (.int .i64 s), .ref [0, 1] 0] = ⟨[(1, .map 0 (encSeen (addSeen (decSeen es) s)))], [], .v (.bool (!(decSeen es).contains s))⟩ := rfl
    have hpre : onceC.pre [.box [.map [1, 1]], .map 0 es] [.v (.int .i64 s), .ref [0, 1] 0] := ⟨decSeen es, s, by rw [hes], rfl⟩
    have e3 : (shut obj [nm, mm] && D.closL (inL [nm, mm]) [.v (.int .i64 s), .ref nm 0] && fresh obj t []) = true := by
     simp [shut, hb, hm, O.clos, D.closL, D.clos, inL, fresh]
    simp only [CSpec.toSpec, e1, e2, hr, hout, e3, hpre, and_self, putN, putU, D.ren, O.ren, List.getD_cons_zero, List.getD_cons_succ]
   ·exact hok.elim
  ·exact hok.elim
 ·exact hok.elim
set_option maxHeartbeats 8000000
noncomputable section
def S117 : Spec := onceS
attribute [go_sem] S117
theorem k117 : SSound Tryz.prog 117 S117 := by
 refine onceS_sound ?_ (notYid _ (by decide))
 refine csound (nt := 12) (rs := [.tmp 3]) Tryz.func117 rfl (by rfl) (by kernel_rfl) (enter_of Tryz.func117 rfl (by kernel_rfl)) (notYid _ (by decide)) ?_
 rintro os ds ⟨ss, s, rfl, rfl⟩
 refine ⟨Nat.le_of_ble_eq_true rfl, ?_⟩
 have hout : onceC.out [.box [.map [1, 1]], .map 0 (encSeen ss)] [.v (vInt s), .ref [0, 1] 0] = ⟨[(1, .map 0 (encSeen (addSeen ss s)))], [], .v (.bool (!ss.contains s))⟩ := by
  simp only [onceC, decSeen_enc]
 rw [hout]
 refine cl_of ?_
 have hΓ := @no_sound Tryz.prog
 have hO1 : ∀ hs, OutC [0] (domOf [0] hs) (outH [.box [.map [1, 1]], .map 0 (encSeen ss)]) = True := fun hs => eq_true (outC_outs (by
  intro o ho dom hd
  simp only [List.mem_cons, List.not_mem_nil, or_false] at ho
  rcases ho with rfl | rfl
  ·simp [O.clos, D.closL, D.clos, hd]
  ·rfl) hs)
 have h0 : outH [.box [.map [1, 1]], .map 0 (encSeen ss)] [0, 1] = some (.box [.map [1, 1]]) := rfl
 have h1 : outH [.box [.map [1, 1]], .map 0 (encSeen ss)] [1, 1] = some (.map 0 (encSeen ss)) := rfl
 generalize hH : outH [.box [.map [1, 1]], .map 0 (encSeen ss)] = H at *
 have hO2 : ∀ hs es, OutC [0] (domOf [0] hs) (upd H [1, 1] (some (.map 0 es))) = True := fun hs es => eq_true (OutC_set rfl (by rw [hO1]; trivial))
 have hO3 : ∀ hs es, OutC [0] (domOf [0] hs) (fun nm => if nm = [1, 1] then some (.map 0 es) else H nm) = True := hO2
 repeat refine sq ?_
 refine rx hΓ [0,1] [] (fun K' hK => by simp only [go_sem]; (repeat (refine ⟨ob, ?_⟩)); exact hK _ (by simp only [go_sem, hO1]) (by simp only [go_sem] <;> rfl)) ?_
 repeat refine sq ?_
 refine rx hΓ [0,1,4] [] (fun K' hK => by simp only [go_sem, h0, h1, mget_seenD]; (repeat (refine ⟨ob, ?_⟩)); exact hK _ (by simp only [go_sem, hO1]) (by simp only [go_sem] <;> rfl)) ?_
 repeat refine sq ?_
 refine rx hΓ [4] [] (fun K' hK => by simp only [go_sem, h0, h1, mset_seen]; (repeat (refine ⟨ob, ?_⟩)); exact hK _ (by simp only [go_sem, hO2]) (by simp only [go_sem] <;> rfl)) ?_
 repeat refine sq ?_
 refine rx hΓ [3] [] (fun K' hK => by simp only [go_sem]; (repeat (refine ⟨ob, ?_⟩)); exact hK _ (by simp only [go_sem, hO3]) (by simp only [go_sem] <;> rfl)) ?_
 refine cl_ret ?_
 simp only [go_sem]
 exact ⟨h0, rfl⟩
def K7 : List (Nat × Spec) := [(109, S109), (111, S111), (113, S113), (115, S115), (117, S117), (79, S79)]
theorem K7_sound : KS K7 := tc s109.sound <| tc s111.sound <| tc s113.sound <| tc s115.sound <| tc k117 <| tc s79.sound <| tn
attribute [go_sem] K7
def sn {α : Type} (pre : List Int) (f : α → Int) (l : List α) (i : Nat) : List Int := (l.take i).foldl (fun a x => a ++ [f x]) pre
theorem sn_eq {α : Type} (pre : List Int) (f : α → Int) (l : List α) (i : Nat) : sn pre f l i = pre ++ (l.take i).map f := by
 unfold sn
 generalize l.take i = k
 induction k generalizing pre with
 | nil => simp
 | cons a r ih => simp [ih]
theorem sn_succ {α : Type} {pre : List Int} {f : α → Int} {l : List α} {i : Nat} (h : i < l.length) (hc : (sn pre f l i).contains (f l[i]) = false) : addSeen (sn pre f l i) (f l[i]) = sn pre f l (i + 1) := by
 unfold addSeen
 rw [hc, sn_eq, sn_eq, List.take_add_one, List.getElem?_eq_getElem h]
 simp only [Bool.false_eq_true, if_false, Option.toList_some, List.map_append, List.map_cons, List.map_nil, List.append_assoc]
def lastOf (l : List Int) : Int := l.getD (l.length - 1) 0
def srcs (l : Led) : List Int := l.rs.map Rec.so ++ l.ts.map Ret.so ++ l.ss.map Sig.so
structure OkL (l : Led) : Prop where
 ps : allB papB Pap.id l.ps = true
 psn : l.ps.length ≤ 12
 rs : allB recB Rec.so l.rs = true
 rsn : l.rs.length ≤ 60
 ts : allB retB Ret.so l.ts = true
 tsn : l.ts.length ≤ 60
 ss : allB sigB Sig.so l.ss = true
 ssn : l.ss.length ≤ 60
 rl : ∀ j (h : j < l.rs.length), lastOf l.rs[j].lv ≤ lvOf l.ps l.rs[j].pa
 sl : ∀ j (h : j < l.ss.length), l.ss[j].le ≤ lvOf l.ps l.ss[j].pa
 nd : (srcs l).Nodup
open Classical in
def okLB (l : Led) : Bool := decide (OkL l)
theorem okLB_iff {l : Led} : okLB l = true ↔ OkL l := by unfold okLB; exact @decide_eq_true_iff _ (Classical.propDecidable _)
def chkI (l : Led) : Int := errI (okLB l) 24
theorem chkI_bad {l : Led} (h : ¬ OkL l) : chkI l = 24 := by unfold chkI; rw [bool_of okLB_iff h]; rfl
theorem chkI_good {l : Led} (h : OkL l) : chkI l = 0 := by unfold chkI; rw [okLB_iff.2 h]; rfl
def newTo {α : Type} (pre : List Int) (f : α → Int) (l : List α) (i : Nat) : Prop := ∀ j (h : j < l.length), j < i → (sn pre f l j).contains (f l[j]) = false
theorem newTo_succ {α : Type} {pre : List Int} {f : α → Int} {l : List α} {i : Nat} (h : newTo pre f l i) (hi : i < l.length) (hc : (sn pre f l i).contains (f l[i]) = false) : newTo pre f l (i + 1) := by
 intro j hj hji
 rcases Nat.lt_succ_iff_lt_or_eq.1 hji with h1 | rfl
 ·exact h j hj h1
 ·exact hc
theorem newTo_nodup {α : Type} {pre : List Int} {f : α → Int} {l : List α} (hp : pre.Nodup) : newTo pre f l l.length ↔ (pre ++ l.map f).Nodup := by
 constructor
 ·intro h
  rw [List.nodup_append]
  refine ⟨hp, ?_, ?_⟩
  ·rw [List.nodup_iff_pairwise_ne, List.pairwise_map, List.pairwise_iff_getElem]
   intro i j hi hj hij e
   have := h j hj hj
   rw [sn_eq] at this
   simp only [List.contains_append, Bool.or_eq_false_iff] at this
   have h2 := this.2
   have : (List.map f (List.take j l)).contains (f l[j]) = true := by
    rw [List.contains_iff_mem, List.mem_map]
    exact ⟨l[i], by rw [List.mem_take_iff_getElem]; exact ⟨i, by omega, rfl⟩, e⟩
   rw [h2] at this; cases this
  ·intro a ha b hb e
   subst e
   obtain ⟨x, hx, rfl⟩ := List.mem_map.1 hb
   obtain ⟨j, hj, rfl⟩ := List.getElem_of_mem hx
   have := h j hj hj
   rw [sn_eq] at this
   simp only [List.contains_append, Bool.or_eq_false_iff] at this
   have h2 := this.1
   rw [List.contains_iff_mem.2 ha] at h2; cases h2
 ·intro h j hj _
  rw [List.nodup_append] at h
  obtain ⟨_, h1, h2⟩ := h
  rw [sn_eq, Bool.eq_false_iff]
  intro hc
  rw [List.contains_iff_mem, List.mem_append] at hc
  rcases hc with hc | hc
  ·exact h2 _ hc _ (List.mem_map_of_mem (List.getElem_mem hj)) rfl
  ·obtain ⟨x, hx, e⟩ := List.mem_map.1 hc
   obtain ⟨i, hi, rfl⟩ := List.mem_take_iff_getElem.1 hx
   rw [List.nodup_iff_pairwise_ne, List.pairwise_map, List.pairwise_iff_getElem] at h1
   exact h1 i j (by omega) hj (by omega) e
theorem nodup_pre {α : Type} {pre : List Int} {f : α → Int} {l : List α} (h : (pre ++ l.map f).Nodup) : pre.Nodup := (List.nodup_append.1 h).1
def recTo (l : Led) (i : Nat) : Prop := ∀ j (h : j < l.rs.length), j < i → lastOf l.rs[j].lv ≤ lvOf l.ps l.rs[j].pa
def sigTo (l : Led) (i : Nat) : Prop := ∀ j (h : j < l.ss.length), j < i → l.ss[j].le ≤ lvOf l.ps l.ss[j].pa
theorem OkL_new {l : Led} (h : OkL l) : newTo [] Rec.so l.rs l.rs.length ∧ newTo (sn [] Rec.so l.rs l.rs.length) Ret.so l.ts l.ts.length ∧ newTo (sn (sn [] Rec.so l.rs l.rs.length) Ret.so l.ts l.ts.length) Sig.so l.ss l.ss.length := by
 have hn := h.nd
 unfold srcs at hn
 have e1 : sn [] Rec.so l.rs l.rs.length = l.rs.map Rec.so := by rw [sn_eq, List.take_length]; rfl
 have e2 : sn (sn [] Rec.so l.rs l.rs.length) Ret.so l.ts l.ts.length = l.rs.map Rec.so ++ l.ts.map Ret.so := by rw [sn_eq, e1, List.take_length]
 have n2 := nodup_pre hn
 have n1 := nodup_pre n2
 refine ⟨(newTo_nodup (by simp)).2 (by simpa using n1), ?_, ?_⟩
 ·rw [e1]; exact (newTo_nodup n1).2 n2
 ·rw [e2]; exact (newTo_nodup n2).2 hn
theorem OkL_of {l : Led} (h1 : newTo [] Rec.so l.rs l.rs.length) (h2 : newTo (sn [] Rec.so l.rs l.rs.length) Ret.so l.ts l.ts.length) (h3 : newTo (sn (sn [] Rec.so l.rs l.rs.length) Ret.so l.ts l.ts.length) Sig.so l.ss l.ss.length) : (srcs l).Nodup := by
 have e1 : sn [] Rec.so l.rs l.rs.length = l.rs.map Rec.so := by rw [sn_eq, List.take_length]; rfl
 have e2 : sn (sn [] Rec.so l.rs l.rs.length) Ret.so l.ts l.ts.length = l.rs.map Rec.so ++ l.ts.map Ret.so := by rw [sn_eq, e1, List.take_length]
 have n1 : (l.rs.map Rec.so).Nodup := by simpa using (newTo_nodup (pre := []) (by simp)).1 h1
 have n2 := (newTo_nodup n1).1 (by rw [e1] at h2; exact h2)
 exact (newTo_nodup n2).1 (by rw [e2] at h3; exact h3)
theorem bnot4 {a b c d : Bool} {p q r s : Prop} [Decidable p] [Decidable q] [Decidable r] [Decidable s] (h : (!(a && decide p) || !(b && decide q) || !(c && decide r) || !(d && decide s)) = false) : a = true ∧ p ∧ b = true ∧ q ∧ c = true ∧ r ∧ d = true ∧ s := by
 simp only [Bool.or_eq_false_iff, Bool.not_eq_false', Bool.and_eq_true, decide_eq_true_eq] at h
 obtain ⟨⟨⟨⟨h1, h2⟩, h3, h4⟩, h5, h6⟩, h7, h8⟩ := h
 exact ⟨h1, h2, h3, h4, h5, h6, h7, h8⟩
theorem allB_at {α : Type} {chk : α → Bool} {num : α → Int} {l : List α} (h : allB chk num l = true) {j : Nat} (hj : j < l.length) : chk l[j] = true := (allB_iff.1 h j hj hj).1
theorem recB_lv {r : Rec} (h : recB r = true) : 0 < r.lv.length := by
 unfold recB at h
 simp only [Bool.and_eq_true] at h
 exact (leavesB_iff.1 h.1.1.2).1
@[go_sem] def P37 : PSpec := p1 iL (fun _ => True) (fun l => vInt (chkI l)) true
@[go_sem] def S37 : Spec := P37.toSpec
theorem s37 : PSound Tryz.prog 37 P37 := by
 refine wd1 (rs := [.tmp 2]) Tryz.func37 Tryz.ntmps37 fun l hp hw => ?_
 have hP := mixedK
 simp only [iL, encL] at hw ⊢
 have hΓ := K7_sound
 repeat refine sq ?_
 refine rs hΓ [1] [[1, 0]] ?_
 repeat refine sq ?_
 refine rs hΓ [1,32] [[1, 0]] ?_
 refine cnd (fun hb => ?_) fun hb => ?_
 ·repeat refine sq ?_
  have hbad : ¬ OkL l := by
   intro h
   rw [h.ps, h.rs, h.ts, h.ss] at hb
   have h1 := h.psn
   have h2 := h.rsn
   have h3 := h.tsn
   have h4 := h.ssn
   simp only [Bool.true_and, Bool.or_eq_true, Bool.not_eq_true', decide_eq_false_iff_not] at hb
   omega
  refine rs hΓ [2] [] ?_
  refine cl_ret ?_
  simp only [go_sem]
  rw [chkI_bad hbad]
 ·obtain ⟨hps, hpn, hrs, hrn, hts, htn, hss, hsn⟩ := bnot4 hb
  have hsrt : srt Pap.id l.ps := okL_srt (allB_iff.1 hps)
  have hlr : l.rs.length ≤ maxLen := by unfold maxLen; omega
  have hlt_ : l.ts.length ≤ maxLen := by unfold maxLen; omega
  have hls : l.ss.length ≤ maxLen := by unfold maxLen; omega
  refine cl_skip ?_
  repeat refine sq ?_
  refine rs hΓ [1,3] [[1, 0],[3, 0],[33, 0]] ?_
  repeat refine sq ?_
  refine rs hΓ [1,4] [[1, 0],[3, 0],[33, 0]] ?_
  repeat refine sq ?_
  refine rs hΓ [1,4,36,37,38] [[1, 0],[3, 0],[33, 0]] ?_
  refine cl_block ?_
  refine cl_loop'  (fun s : Nat => [(38, ⟨true, .v (vInt s)⟩)]) (fun s => [([33, 0], .map 0 (encSeen (sn [] Rec.so l.rs s)))]) (fun s => s ≤ l.rs.length ∧ newTo [] Rec.so l.rs s ∧ recTo l s) (fun s => l.rs.length - s) 0 ?_ ?_ ?_ ?_
  ·exact ⟨Nat.zero_le _, fun j _ h => by omega, fun j _ h => by omega⟩
  ·rfl
  ·rfl
  rintro i ⟨hi, hR, hR'⟩
  simp only [go_sem]
  repeat refine sq ?_
  refine rs hΓ [1,4,36,37,38,39] [[1, 0],[3, 0],[33, 0]] ?_
  repeat refine sq ?_
  refine cnd (fun hb => ?_) fun hb => ?_
  ·have hlt : i < l.rs.length := by simpa using hb
   have hlt' : (i : Int) < l.rs.length := by omega
   clear hb
   have hv := recB_lv (allB_at hrs hlt)
   have hvl : l.rs[i].lv.length ≤ maxLen := by have h0 := (leavesB_iff.1 (by have h := allB_at hrs hlt; unfold recB at h; simp only [Bool.and_eq_true] at h; exact h.1.1.2 : leavesB l.rs[i].lv = true)).2.1; unfold maxLen; omega
   have hwl := wrap_pred (by omega : ¬ l.rs[i].lv.length = 0) hvl
   have hq1 : ((l.rs[i].lv.length - 1 : Nat) : Int) < l.rs[i].lv.length := by omega
   have hq2 : l.rs[i].lv.length - 1 < l.rs[i].lv.length := by omega
   have hgl : (l.rs[i].lv.map vInt).getD (l.rs[i].lv.length - 1) default = vInt (lastOf l.rs[i].lv) := by unfold lastOf; rw [map_getD hq2, getD_at hq2]
   refine cl_skip ?_
   repeat refine sq ?_
   refine cl_block ?_
   repeat refine sq ?_
   refine rx hΓ [1,4,6,36,37,38] [[1, 0],[3, 0],[6, 0],[33, 0]] (fun K' hK => by simp only [go_sem, map_getD hlt, tnI, nnI, hlt']; exact fn) ?_
   repeat refine sq ?_
   refine dx hΓ hP [[], [], [1], [0, 1, 2], u4, u5, u6, u7, u6, [0, 1, 2, 3, 4, 5, 8], [0, 1, 2, 3, 4, 5, 8, 9], [0, 1, 2, 3, 4, 5, 8, 9, 10], u12, u13, u6, [0, 1, 2, 3, 4, 5, 14], [0, 1, 2, 3, 4, 5, 14, 15], u17, u18] [1,4,36,37,38,60] [[1, 0],[3, 0],[33, 0]] (by kernel_rfl) (fun K' hK => by simp only [go_sem, tnI, nnI, hsrt, hwl, hgl, hq1]; exact fd) ?_
   refine cnd (fun hb => ?_) fun hb => ?_
   ·repeat refine sq ?_
    have hbad : ¬ OkL l := by
     intro h
     have h1 := (OkL_new h).1 i hlt hlt
     have h2 := h.rl i hlt
     rw [h1] at hb
     simp only [Bool.not_false, Bool.not_true, Bool.false_or, decide_eq_true_eq] at hb
     omega
    refine rs hΓ [2] [] ?_
    refine cl_ret ?_
    simp only [go_sem]
    rw [chkI_bad hbad]
   ·have hn1 : (sn [] Rec.so l.rs i).contains l.rs[i].so = false := by
     simp only [Bool.or_eq_false_iff, Bool.not_not] at hb
     exact hb.1
    have hn2 : lastOf l.rs[i].lv ≤ lvOf l.ps l.rs[i].pa := by
     simp only [Bool.or_eq_false_iff, decide_eq_false_iff_not] at hb
     omega
    rw [sn_succ hlt hn1]
    refine cl_skip ?_
    refine cl_nil ?_
    simp only [go_sem]
    refine kp [1,4,36,37,38] [[1, 0],[3, 0],[33, 0]] ?_
    refine cl_r hΓ fun K' hK => ?_
    simp only [go_sem]
    repeat refine ⟨ob, ?_⟩
    refine hK _ ?_
    clear K' hK
    simp only [go_sem]
    refine ⟨i + 1, ⟨hlt, ?_⟩, by (show l.rs.length - (i + 1) < l.rs.length - i; omega), ?_⟩
    ·exact ⟨newTo_succ hR hlt hn1, fun j hj hji => by
      rcases Nat.lt_succ_iff_lt_or_eq.1 hji with h1 | rfl
      ·exact hR' j hj h1
      ·exact hn2⟩
    refine weak_eq [1,4,36,37,38] [[1, 0],[3, 0],[33, 0]] ?_ ?_ <;> simp only [go_sem, wrap_succ hlt hlr, csI]
  ·have hge : i = l.rs.length := by
    have : ¬ (i : Int) < l.rs.length := by simpa using hb
    omega
   clear hb
   subst hge
   refine cl_exit ?_
   simp only [go_sem]
   refine kp [1,4] [[1, 0],[3, 0],[33, 0]] ?_
   repeat refine sq ?_
   refine rs hΓ [1,4,63,64,65] [[1, 0],[3, 0],[33, 0]] ?_
   refine cl_block ?_
   refine cl_loop'  (fun s : Nat => [(65, ⟨true, .v (vInt s)⟩)]) (fun s => [([33, 0], .map 0 (encSeen (sn (sn [] Rec.so l.rs l.rs.length) Ret.so l.ts s)))]) (fun s => s ≤ l.ts.length ∧ newTo (sn [] Rec.so l.rs l.rs.length) Ret.so l.ts s) (fun s => l.ts.length - s) 0 ?_ ?_ ?_ ?_
   ·exact ⟨Nat.zero_le _, fun j _ h => by omega⟩
   ·rfl
   ·rfl
   rintro i ⟨hi1, hR1⟩
   simp only [go_sem]
   repeat refine sq ?_
   refine rs hΓ [1,4,63,64,65,66] [[1, 0],[3, 0],[33, 0]] ?_
   repeat refine sq ?_
   refine cnd (fun hb => ?_) fun hb => ?_
   ·have hlt1 : i < l.ts.length := by simpa using hb
    have hlt1' : (i : Int) < l.ts.length := by omega
    clear hb
    refine cl_skip ?_
    repeat refine sq ?_
    refine cl_block ?_
    repeat refine sq ?_
    refine rx hΓ [1,4,8,63,64,65] [[1, 0],[3, 0],[8, 0],[33, 0]] (fun K' hK => by simp only [go_sem, map_getD hlt1, tnI, nnI, hlt1']; exact fn) ?_
    repeat refine sq ?_
    refine rs hΓ [1,4,63,64,65,73] [[1, 0],[3, 0],[33, 0]] ?_
    refine cnd (fun hb => ?_) fun hb => ?_
    ·repeat refine sq ?_
     have hbad : ¬ OkL l := by
      intro h
      have h1 := (OkL_new h).2.1 i hlt1 hlt1
      rw [h1] at hb
      cases hb
     refine rs hΓ [2] [] ?_
     refine cl_ret ?_
     simp only [go_sem]
     rw [chkI_bad hbad]
    ·have hn1 : (sn (sn [] Rec.so l.rs l.rs.length) Ret.so l.ts i).contains l.ts[i].so = false := by
      simpa only [Bool.not_not] using hb
     rw [sn_succ hlt1 hn1]
     refine cl_skip ?_
     refine cl_nil ?_
     simp only [go_sem]
     refine kp [1,4,63,64,65] [[1, 0],[3, 0],[33, 0]] ?_
     refine cl_r hΓ fun K' hK => ?_
     simp only [go_sem]
     repeat refine ⟨ob, ?_⟩
     refine hK _ ?_
     clear K' hK
     simp only [go_sem]
     refine ⟨i + 1, ⟨hlt1, ?_⟩, by (show l.ts.length - (i + 1) < l.ts.length - i; omega), ?_⟩
     ·exact newTo_succ hR1 hlt1 hn1
     refine weak_eq [1,4,63,64,65] [[1, 0],[3, 0],[33, 0]] ?_ ?_ <;> simp only [go_sem, wrap_succ hlt1 hlt_, csI]
   ·have hge1 : i = l.ts.length := by
     have : ¬ (i : Int) < l.ts.length := by simpa using hb
     omega
    clear hb
    subst hge1
    refine cl_exit ?_
    simp only [go_sem]
    refine kp [1,4] [[1, 0],[3, 0],[33, 0]] ?_
    repeat refine sq ?_
    refine rs hΓ [1,4,76,77,78] [[1, 0],[3, 0],[33, 0]] ?_
    refine cl_block ?_
    refine cl_loop'  (fun s : Nat => [(78, ⟨true, .v (vInt s)⟩)]) (fun s => [([33, 0], .map 0 (encSeen (sn (sn (sn [] Rec.so l.rs l.rs.length) Ret.so l.ts l.ts.length) Sig.so l.ss s)))]) (fun s => s ≤ l.ss.length ∧ newTo (sn (sn [] Rec.so l.rs l.rs.length) Ret.so l.ts l.ts.length) Sig.so l.ss s ∧ sigTo l s) (fun s => l.ss.length - s) 0 ?_ ?_ ?_ ?_
    ·exact ⟨Nat.zero_le _, fun j _ h => by omega, fun j _ h => by omega⟩
    ·rfl
    ·rfl
    rintro i ⟨hi2, hR2, hR2'⟩
    simp only [go_sem]
    repeat refine sq ?_
    refine rs hΓ [1,4,76,77,78,79] [[1, 0],[3, 0],[33, 0]] ?_
    repeat refine sq ?_
    refine cnd (fun hb => ?_) fun hb => ?_
    ·have hlt2 : i < l.ss.length := by simpa using hb
     have hlt2' : (i : Int) < l.ss.length := by omega
     clear hb
     refine cl_skip ?_
     repeat refine sq ?_
     refine cl_block ?_
     repeat refine sq ?_
     refine rx hΓ [1,4,10,76,77,78] [[1, 0],[3, 0],[10, 0],[33, 0]] (fun K' hK => by simp only [go_sem, map_getD hlt2, tnI, nnI, hlt2']; exact fn) ?_
     repeat refine sq ?_
     refine dx hΓ hP [[], [], [1], [0, 1, 2], u4, u5, u6, u7, u6, [0, 1, 2, 3, 4, 5, 8], [0, 1, 2, 3, 4, 5, 8, 9], u11, u12] [1,4,76,77,78,94] [[1, 0],[3, 0],[33, 0]] (by kernel_rfl) (fun K' hK => by simp only [go_sem, hsrt]; exact fd) ?_
     refine cnd (fun hb => ?_) fun hb => ?_
     ·repeat refine sq ?_
      have hbad : ¬ OkL l := by
       intro h
       have h1 := (OkL_new h).2.2 i hlt2 hlt2
       have h2 := h.sl i hlt2
       rw [h1] at hb
       simp only [Bool.not_false, Bool.not_true, Bool.false_or, decide_eq_true_eq] at hb
       omega
      refine rs hΓ [2] [] ?_
      refine cl_ret ?_
      simp only [go_sem]
      rw [chkI_bad hbad]
     ·have hn1 : (sn (sn (sn [] Rec.so l.rs l.rs.length) Ret.so l.ts l.ts.length) Sig.so l.ss i).contains l.ss[i].so = false := by
       simp only [Bool.or_eq_false_iff, Bool.not_not] at hb
       exact hb.1
      have hn2 : l.ss[i].le ≤ lvOf l.ps l.ss[i].pa := by
       simp only [Bool.or_eq_false_iff, decide_eq_false_iff_not] at hb
       omega
      rw [sn_succ hlt2 hn1]
      refine cl_skip ?_
      refine cl_nil ?_
      simp only [go_sem]
      refine kp [1,4,76,77,78] [[1, 0],[3, 0],[33, 0]] ?_
      refine cl_r hΓ fun K' hK => ?_
      simp only [go_sem]
      repeat refine ⟨ob, ?_⟩
      refine hK _ ?_
      clear K' hK
      simp only [go_sem]
      refine ⟨i + 1, ⟨hlt2, ?_⟩, by (show l.ss.length - (i + 1) < l.ss.length - i; omega), ?_⟩
      ·exact ⟨newTo_succ hR2 hlt2 hn1, fun j hj hji => by
        rcases Nat.lt_succ_iff_lt_or_eq.1 hji with h1 | rfl
        ·exact hR2' j hj h1
        ·exact hn2⟩
      refine weak_eq [1,4,76,77,78] [[1, 0],[3, 0],[33, 0]] ?_ ?_ <;> simp only [go_sem, wrap_succ hlt2 hls, csI]
    ·have hge2 : i = l.ss.length := by
      have : ¬ (i : Int) < l.ss.length := by simpa using hb
      omega
     clear hb
     subst hge2
     refine cl_exit ?_
     simp only [go_sem]
     refine kp [] [] ?_
     repeat refine sq ?_
     refine rs hΓ [2] [] ?_
     refine cl_ret ?_
     simp only [go_sem]
     rw [chkI_good ⟨hps, by omega, hrs, by omega, hts, by omega, hss, by omega, fun j h => hR' j h h, fun j h => hR2' j h h, OkL_of hR hR1 hR2⟩]
end
set_option maxHeartbeats 8000000
noncomputable section
theorem sn_next {α : Type} {pre : List Int} {f : α → Int} {l : List α} {i : Nat} (h : i < l.length) : sn pre f l (i + 1) = sn pre f l i ++ [f l[i]] := by
 rw [sn_eq, sn_eq, List.take_add_one, List.getElem?_eq_getElem h]
 simp only [Option.toList_some, List.map_append, List.map_cons, List.map_nil, List.append_assoc]
theorem sn_len {α : Type} {pre : List Int} {f : α → Int} {l : List α} {i : Nat} (h : i ≤ l.length) : (sn pre f l i).length = pre.length + i := by
 rw [sn_eq, List.length_append, List.length_map, List.length_take]; omega
theorem srcs_sn (l : Led) : sn (sn (sn [] Rec.so l.rs l.rs.length) Ret.so l.ts l.ts.length) Sig.so l.ss l.ss.length = srcs l := by
 simp only [sn_eq, List.take_length, List.nil_append, srcs]
def shortL (l : Led) : Prop := l.rs.length ≤ 60 ∧ l.ts.length ≤ 60 ∧ l.ss.length ≤ 60
@[go_sem] def P125 : PSpec := p1 iL (fun l => shortL l) (fun l => .sl ((srcs l).map vInt)) false
@[go_sem] def S125 : Spec := P125.toSpec
theorem s125 : PSound Tryz.prog 125 P125 := by
 refine wd1 (rs := [.tmp 2]) Tryz.func125 Tryz.ntmps125 fun l hp hw => ?_
 simp only [iL, encL] at hw ⊢
 have hΓ := @no_sound Tryz.prog
 obtain ⟨hn1, hn2, hn3⟩ := hp
 have hlr : l.rs.length ≤ maxLen := by unfold maxLen; omega
 have hlt_ : l.ts.length ≤ maxLen := by unfold maxLen; omega
 have hls : l.ss.length ≤ maxLen := by unfold maxLen; omega
 repeat refine sq ?_
 refine rs hΓ [1] [[1, 0]] ?_
 repeat refine sq ?_
 refine rs hΓ [1,3] [[1, 0],[22, 0],[38, 0],[54, 0]] ?_
 refine cl_weakM (weakM_ghostk 3 [22, 0] 1 (by simp only [go_sem]) (by simp only [go_sem]) [1,3] [[1, 0],[22, 0],[38, 0],[54, 0]] ?_ rfl) ?_
 ·simp only [go_sem]
 simp only [go_sem]
 repeat refine sq ?_
 refine rs hΓ [1,3,4] [[1, 0],[22, 0],[38, 0],[54, 0]] ?_
 refine cl_block ?_
 refine cl_loop'  (fun s : Nat => [(4, ⟨true, .v (vInt s)⟩), (3, ⟨true, .msl [22, 0] (sn [] Rec.so l.rs s).length⟩)]) (fun s => [([22, 0], .arr 1 ((sn [] Rec.so l.rs s).map vInt))]) (fun s => s ≤ l.rs.length) (fun s => l.rs.length - s) 0 ?_ ?_ ?_ ?_
 ·exact Nat.zero_le _
 ·rfl
 ·rfl
 rintro i hi
 simp only [go_sem]
 repeat refine sq ?_
 refine rs hΓ [1,3,4,11] [[1, 0],[22, 0],[38, 0],[54, 0]] ?_
 refine cnd (fun hb => ?_) fun hb => ?_
 ·have hlt : i < l.rs.length := by simpa using hb
  have hlt' : (i : Int) < l.rs.length := by omega
  clear hb
  have hsl : (sn [] Rec.so l.rs i).length = i := by rw [sn_len (by omega)]; simp
  refine cl_skip ?_
  repeat refine sq ?_
  refine cl_block ?_
  refine cl_r hΓ fun K' hK => ?_
  simp only [go_sem, map_getD hlt, tnI, nnI, hlt']
  repeat refine ⟨ob, ?_⟩
  refine hK _ ?_
  clear K' hK
  simp only [go_sem]
  refine kp [1,3,4] [[1, 0],[22, 0],[38, 0],[54, 0]] ?_
  refine cl_r hΓ fun K' hK => ?_
  simp only [go_sem]
  repeat refine ⟨ob, ?_⟩
  refine hK _ ?_
  clear K' hK
  simp only [go_sem]
  refine ⟨i + 1, hlt, by (show l.rs.length - (i + 1) < l.rs.length - i; omega), ?_⟩
  refine weak_eq [1,3,4] [[1, 0],[22, 0],[38, 0],[54, 0]] ?_ ?_ <;> simp only [go_sem, wrap_succ hlt hlr, csI, sn_next hlt, List.map_append, List.length_append, List.map_cons, List.map_nil, List.length_cons, List.length_nil]
 ·have hge : i = l.rs.length := by
   have : ¬ (i : Int) < l.rs.length := by simpa using hb
   omega
  clear hb
  subst hge
  refine cl_exit ?_
  simp only [go_sem]
  refine kp [1,3] [[1, 0],[22, 0],[38, 0],[54, 0]] ?_
  repeat refine sq ?_
  refine rs hΓ [1,3,5] [[1, 0],[22, 0],[38, 0],[54, 0]] ?_
  refine cl_block ?_
  refine cl_loop'  (fun s : Nat => [(5, ⟨true, .v (vInt s)⟩), (3, ⟨true, .msl [22, 0] (sn (sn [] Rec.so l.rs l.rs.length) Ret.so l.ts s).length⟩)]) (fun s => [([22, 0], .arr 1 ((sn (sn [] Rec.so l.rs l.rs.length) Ret.so l.ts s).map vInt))]) (fun s => s ≤ l.ts.length) (fun s => l.ts.length - s) 0 ?_ ?_ ?_ ?_
  ·exact Nat.zero_le _
  ·rfl
  ·rfl
  rintro i hi
  simp only [go_sem]
  repeat refine sq ?_
  refine rs hΓ [1,3,5,27] [[1, 0],[22, 0],[38, 0],[54, 0]] ?_
  refine cnd (fun hb => ?_) fun hb => ?_
  ·have hlt1 : i < l.ts.length := by simpa using hb
   have hlt1' : (i : Int) < l.ts.length := by omega
   clear hb
   have hsl : (sn (sn [] Rec.so l.rs l.rs.length) Ret.so l.ts i).length = l.rs.length + i := by rw [sn_len (by omega), sn_len (Nat.le_refl _)]; simp
   refine cl_skip ?_
   repeat refine sq ?_
   refine cl_block ?_
   refine cl_r hΓ fun K' hK => ?_
   simp only [go_sem, map_getD hlt1, tnI, nnI, hlt1']
   repeat refine ⟨ob, ?_⟩
   refine hK _ ?_
   clear K' hK
   simp only [go_sem]
   refine kp [1,3,5] [[1, 0],[22, 0],[38, 0],[54, 0]] ?_
   refine cl_r hΓ fun K' hK => ?_
   simp only [go_sem]
   repeat refine ⟨ob, ?_⟩
   refine hK _ ?_
   clear K' hK
   simp only [go_sem]
   refine ⟨i + 1, hlt1, by (show l.ts.length - (i + 1) < l.ts.length - i; omega), ?_⟩
   refine weak_eq [1,3,5] [[1, 0],[22, 0],[38, 0],[54, 0]] ?_ ?_ <;> simp only [go_sem, wrap_succ hlt1 hlt_, csI, sn_next hlt1, List.map_append, List.length_append, List.map_cons, List.map_nil, List.length_cons, List.length_nil]
  ·have hge1 : i = l.ts.length := by
    have : ¬ (i : Int) < l.ts.length := by simpa using hb
    omega
   clear hb
   subst hge1
   refine cl_exit ?_
   simp only [go_sem]
   refine kp [1,3] [[1, 0],[22, 0],[38, 0],[54, 0]] ?_
   repeat refine sq ?_
   refine rs hΓ [1,3,6] [[1, 0],[22, 0],[38, 0],[54, 0]] ?_
   refine cl_block ?_
   refine cl_loop'  (fun s : Nat => [(6, ⟨true, .v (vInt s)⟩), (3, ⟨true, .msl [22, 0] (sn (sn (sn [] Rec.so l.rs l.rs.length) Ret.so l.ts l.ts.length) Sig.so l.ss s).length⟩)]) (fun s => [([22, 0], .arr 1 ((sn (sn (sn [] Rec.so l.rs l.rs.length) Ret.so l.ts l.ts.length) Sig.so l.ss s).map vInt))]) (fun s => s ≤ l.ss.length) (fun s => l.ss.length - s) 0 ?_ ?_ ?_ ?_
   ·exact Nat.zero_le _
   ·rfl
   ·rfl
   rintro i hi
   simp only [go_sem]
   repeat refine sq ?_
   refine rs hΓ [1,3,6,43] [[1, 0],[22, 0],[38, 0],[54, 0]] ?_
   refine cnd (fun hb => ?_) fun hb => ?_
   ·have hlt2 : i < l.ss.length := by simpa using hb
    have hlt2' : (i : Int) < l.ss.length := by omega
    clear hb
    have hsl : (sn (sn (sn [] Rec.so l.rs l.rs.length) Ret.so l.ts l.ts.length) Sig.so l.ss i).length = l.rs.length + l.ts.length + i := by rw [sn_len (by omega), sn_len (Nat.le_refl _), sn_len (Nat.le_refl _)]; simp
    refine cl_skip ?_
    repeat refine sq ?_
    refine cl_block ?_
    refine cl_r hΓ fun K' hK => ?_
    simp only [go_sem, map_getD hlt2, tnI, nnI, hlt2']
    repeat refine ⟨ob, ?_⟩
    refine hK _ ?_
    clear K' hK
    simp only [go_sem]
    refine kp [1,3,6] [[1, 0],[22, 0],[38, 0],[54, 0]] ?_
    refine cl_r hΓ fun K' hK => ?_
    simp only [go_sem]
    repeat refine ⟨ob, ?_⟩
    refine hK _ ?_
    clear K' hK
    simp only [go_sem]
    refine ⟨i + 1, hlt2, by (show l.ss.length - (i + 1) < l.ss.length - i; omega), ?_⟩
    refine weak_eq [1,3,6] [[1, 0],[22, 0],[38, 0],[54, 0]] ?_ ?_ <;> simp only [go_sem, wrap_succ hlt2 hls, csI, sn_next hlt2, List.map_append, List.length_append, List.map_cons, List.map_nil, List.length_cons, List.length_nil]
   ·have hge2 : i = l.ss.length := by
     have : ¬ (i : Int) < l.ss.length := by simpa using hb
     omega
    clear hb
    subst hge2
    refine cl_exit ?_
    simp only [go_sem]
    refine kp [3] [[22, 0],[38, 0],[54, 0]] ?_
    repeat refine sq ?_
    refine rs hΓ [2] [[22, 0],[38, 0],[54, 0]] ?_
    refine cl_ret ?_
    simp only [go_sem]
    rw [srcs_sn]
@[go_sem] def P156 : PSpec := p1 iIs (fun _ => True) (fun l => .bool (decide l.Nodup)) true
@[go_sem] def S156 : Spec := P156.toSpec
theorem s156 : PSound Tryz.prog 156 P156 := by
 refine wd1 (rs := [.tmp 2]) Tryz.func156 Tryz.ntmps156 fun l hp hw => ?_
 have hP := mixedK
 simp only [iIs] at hw ⊢
 have hΓ := @no_sound Tryz.prog
 have hl : l.length ≤ maxLen := by have := hw.1.1; simpa using this
 repeat refine sq ?_
 refine rs hΓ [0] [] ?_
 repeat refine sq ?_
 refine rs hΓ [0,3] [] ?_
 refine cl_block ?_
 refine cl_loop'  (fun s : Nat => [(3, ⟨true, .v (vInt s)⟩)]) (fun s => []) (fun s => s ≤ l.length ∧ ∀ a b (ha : a < l.length) (hb : b < l.length), a < s → b < a → l[b] ≠ l[a]) (fun s => l.length - s) 0 ?_ ?_ ?_ ?_
 ·exact ⟨Nat.zero_le _, fun a b _ _ h => by omega⟩
 ·rfl
 ·rfl
 rintro i ⟨hi, hR⟩
 simp only [go_sem]
 repeat refine sq ?_
 refine rs hΓ [0,3,8] [] ?_
 refine cnd (fun hb => ?_) fun hb => ?_
 ·have hlt : i < l.length := by simpa using hb
  have hlt' : (i : Int) < l.length := by omega
  clear hb
  refine cl_skip ?_
  repeat refine sq ?_
  refine cl_block ?_
  repeat refine sq ?_
  refine rx hΓ [0,3,4] [] (fun K' hK => by simp only [go_sem, hlt']; exact fn) ?_
  refine cl_block ?_
  refine cl_loop'  (fun s : Nat => [(4, ⟨true, .v (vInt s)⟩)]) (fun s => []) (fun s => s ≤ i ∧ ∀ b (hb : b < l.length), b < s → l[b] ≠ l[i]) (fun s => i - s) 0 ?_ ?_ ?_ ?_
  ·exact ⟨Nat.zero_le _, fun b _ h => by omega⟩
  ·rfl
  ·rfl
  rintro k ⟨hi1, hR1⟩
  simp only [go_sem]
  repeat refine sq ?_
  refine rs hΓ [0,3,4,13] [] ?_
  refine cnd (fun hb => ?_) fun hb => ?_
  ·have hlt1 : k < i := by simpa using hb
   have hlt1' : (k : Int) < i := by omega
   clear hb
   have hk' : (k : Int) < l.length := by omega
   refine cl_skip ?_
   repeat refine sq ?_
   refine cl_block ?_
   repeat refine sq ?_
   refine dx hΓ hP [[], [], [0, 1], [0, 1, 2], [], [], [4, 5], [4, 5, 6], u8] [0,3,4,24] [] (by kernel_rfl) (fun K' hK => by simp only [go_sem, tnI, nnI, map_getD hlt, map_getD (show k < l.length by omega), tnI, nnI, hlt', hk']; exact fd) ?_
   refine cnd (fun hb => ?_) fun hb => ?_
   ·repeat refine sq ?_
    have hbad : ¬ l.Nodup := by
     intro h
     rw [List.nodup_iff_pairwise_ne, List.pairwise_iff_getElem] at h
     exact h k i (by omega) hlt hlt1 (by simpa using (by simpa using hb : l[i] = l[k]).symm)
    refine rs hΓ [2] [] ?_
    refine cl_ret ?_
    simp only [go_sem]
    simp [hbad]
   ·refine cl_skip ?_
    refine cl_nil ?_
    simp only [go_sem]
    refine kp [0,3,4] [] ?_
    refine cl_r hΓ fun K' hK => ?_
    simp only [go_sem]
    repeat refine ⟨ob, ?_⟩
    refine hK _ ?_
    clear K' hK
    simp only [go_sem]
    refine ⟨k + 1, ⟨hlt1, ?_⟩, by (show i - (k + 1) < i - k; omega), ?_⟩
    ·intro b hb2 hbk
     rcases Nat.lt_succ_iff_lt_or_eq.1 hbk with h1 | rfl
     ·exact hR1 b hb2 h1
     ·intro e; rw [e] at hb; simp at hb
    refine weak_eq [0,3,4] [] ?_ ?_ <;> simp only [go_sem, wrap_succ hlt1 (by omega), csI]
  ·have hge1 : k = i := by
    have : ¬ (k : Int) < i := by simpa using hb
    omega
   clear hb
   skip
   refine cl_exit ?_
   simp only [go_sem]
   refine kp [0,3] [] ?_
   refine cl_r hΓ fun K' hK => ?_
   simp only [go_sem]
   repeat refine ⟨ob, ?_⟩
   refine hK _ ?_
   clear K' hK
   simp only [go_sem]
   refine ⟨i + 1, ⟨hlt, ?_⟩, by (show l.length - (i + 1) < l.length - i; omega), ?_⟩
   ·intro a b ha hb2 hai hba
    rcases Nat.lt_succ_iff_lt_or_eq.1 hai with h1 | rfl
    ·exact hR a b ha hb2 h1 hba
    ·exact hR1 b hb2 (by omega)
   refine weak_eq [0,3] [] ?_ ?_ <;> simp only [go_sem, wrap_succ hlt hl, csI]
 ·have hge : i = l.length := by
   have : ¬ (i : Int) < l.length := by simpa using hb
   omega
  clear hb
  subst hge
  refine cl_exit ?_
  simp only [go_sem]
  refine kp [] [] ?_
  repeat refine sq ?_
  refine rs hΓ [2] [] ?_
  refine cl_ret ?_
  simp only [go_sem]
  have hgood : l.Nodup := by
   rw [List.nodup_iff_pairwise_ne, List.pairwise_iff_getElem]
   exact fun a b ha hb hab => hR b a hb ha hb hab
  simp [hgood]
def K8a : List (Nat × Spec) := [(146, S146), (84, S84)]
theorem K8a_sound : KS K8a := tc s146.sound <| tc s84.sound <| tn
attribute [go_sem] K8a
def isFol (l : Led) (pa le : Int) : Bool := inI le 1 (lvOf l.ps pa)
structure Fol where
 (pa le : Int)
 deriving Inhabited, DecidableEq
def encFo (f : Fol) : V := .agg [vInt f.pa, vInt f.le]
def decFo : V → Fol
 | .agg [.int _ a, .int _ b] => ⟨a, b⟩
 | _ => default
def iFo : En Fol := ⟨encFo, decFo⟩
attribute [go_sem] encFo decFo iFo
@[go_sem] theorem etaFo (p : Fol) : (⟨p.pa, p.le⟩ : Fol) = p := rfl
@[go_sem] def P100 : PSpec := p2 iL iFo (fun _ _ => True) (fun l f => .bool (isFol l f.pa f.le)) true
@[go_sem] def S100 : Spec := P100.toSpec
theorem s100 : PSound Tryz.prog 100 P100 := by
 refine wd2 (rs := [.tmp 4]) Tryz.func100 Tryz.ntmps100 fun l f hp hw => ?_
 have hP := mixedK
 simp only [iFo, iL, encFo, encL] at hw ⊢
 have hΓ := K8a_sound
 repeat refine sq ?_
 refine rs hΓ [2,3] [[2, 0],[3, 0]] ?_
 repeat refine sq ?_
 refine dx hΓ hP [[], [0], [], [], [3], [2, 3, 4], u6, u7] [4] [] (by kernel_rfl) (fun K' hK => by simp only [go_sem]; exact fd) ?_
 refine cl_ret ?_
 simp only [go_sem]
 all_goals first | rfl | (simp; done) | (grind [isFol]; done)
end
noncomputable section
def K9 : List (Nat × Spec) := [(62, S62), (64, S64), (66, S66), (68, S68), (100, S100), (125, S125), (156, S156)]
theorem K9_sound : KS K9 := tc s62.sound <| tc s64.sound <| tc s66.sound <| tc s68.sound <| tc s100.sound <| tc s125.sound <| tc s156.sound <| tn
attribute [go_sem] K9
theorem last_at (r : Rec) (hl : r.lv.length ≤ maxLen) : ∃ kd x, (r.lv.map vInt).getD (IntKind.i64.wrap ((r.lv.length : Int) - 1)).toNat default = .int kd x ∧
  (recB r = true → kd = .i64 ∧ x = lastOf r.lv ∧ 0 ≤ IntKind.i64.wrap ((r.lv.length : Int) - 1) ∧ IntKind.i64.wrap ((r.lv.length : Int) - 1) < r.lv.length) := by
 by_cases h : r.lv.length = 0
 ·have e : r.lv = [] := List.length_eq_zero_iff.1 h
  refine ⟨default, default, ?_, fun hb => ?_⟩
  ·rw [e]; rfl
  ·have := recB_lv hb; omega
 ·have hw := wrap_pred h hl
  have h2 : r.lv.length - 1 < r.lv.length := by omega
  refine ⟨.i64, lastOf r.lv, ?_, fun _ => ⟨rfl, rfl, ?_⟩⟩
  ·rw [hw, tnI, map_getD h2]
   unfold lastOf
   rw [getD_at h2]
  ·rw [hw]; omega
theorem lastOf_pos {l : List Int} (h : leavesB l = true) : 1 ≤ lastOf l := by
 obtain ⟨h1, _, _, h4⟩ := leavesB_iff.1 h
 have h2 : l.length - 1 < l.length := by omega
 have := h4 _ h2
 unfold lastOf
 rw [getD_at h2]
 unfold inI at this
 simp only [Bool.and_eq_true, decide_eq_true_eq] at this
 exact this.1
theorem recB_lvs {r : Rec} (h : recB r = true) : leavesB r.lv = true := by
 unfold recB at h
 simp only [Bool.and_eq_true] at h
 exact h.1.1.2
theorem or_len {a b c d : Int} {n m o p : Int} (h : (decide (a > n) || decide (b > m) || decide (c > o) || decide (d > p)) = false) : a ≤ n ∧ b ≤ m ∧ c ≤ o ∧ d ≤ p := by
 simp only [Bool.or_eq_false_iff, decide_eq_false_iff_not] at h
 omega
@[go_sem] def P69 : PSpec := p1 iL (fun _ => True) (fun l => vInt (chkI l)) true
@[go_sem] def S69 : Spec := P69.toSpec
set_option maxHeartbeats 8000000 in
theorem s69 : PSound Tryz.prog 69 P69 := by
 refine wd1 (rs := [.tmp 2]) Tryz.func69 Tryz.ntmps69 fun l hp hw => ?_
 have hP := mixedK
 simp only [iL, encL] at hw ⊢
 have hΓ := K9_sound
 repeat refine sq ?_
 refine rs hΓ [1] [[1, 0]] ?_
 repeat refine sq ?_
 refine rs hΓ [1,30] [[1, 0]] ?_
 refine cnd (fun hb => ?_) fun hb => ?_
 ·repeat refine sq ?_
  have hbad : ¬ OkL l := by
   intro h
   have h1 := h.psn
   have h2 := h.rsn
   have h3 := h.tsn
   have h4 := h.ssn
   simp only [Bool.or_eq_true, decide_eq_true_eq] at hb
   omega
  refine rs hΓ [2] [] ?_
  refine cl_ret ?_
  simp only [go_sem]
  rw [chkI_bad hbad]
 ·obtain ⟨hpn, hrn, htn, hsn⟩ := or_len hb
  have hlp : l.ps.length ≤ maxLen := by unfold maxLen; omega
  have hlr : l.rs.length ≤ maxLen := by unfold maxLen; omega
  have hlt_ : l.ts.length ≤ maxLen := by unfold maxLen; omega
  have hls : l.ss.length ≤ maxLen := by unfold maxLen; omega
  have hsh : shortL l := ⟨by omega, by omega, by omega⟩
  clear hb
  refine cl_skip ?_
  repeat refine sq ?_
  refine rs hΓ [1,3] [[1, 0]] ?_
  refine cl_block ?_
  refine cl_loop'  (fun s : Nat => [(3, ⟨true, .v (vInt s)⟩)]) (fun s => []) (fun s => s ≤ l.ps.length ∧ okL papB Pap.id l.ps s) (fun s => l.ps.length - s) 0 ?_ ?_ ?_ ?_
  ·exact ⟨Nat.zero_le _, okL_zero⟩
  ·rfl
  ·rfl
  rintro i ⟨hi, hR⟩
  simp only [go_sem]
  repeat refine sq ?_
  refine rs hΓ [1,3,35] [[1, 0]] ?_
  refine cnd (fun hb => ?_) fun hb => ?_
  ·have hlt : i < l.ps.length := by simpa using hb
   have hlt' : (i : Int) < l.ps.length := by omega
   clear hb
   obtain ⟨p, hp, hpl, hpos⟩ := prev_at hlt hlp
   refine cl_skip ?_
   repeat refine sq ?_
   refine cl_block ?_
   repeat refine sq ?_
   refine dx hΓ hP [[], [0], [], [0, 1, 2], u4, u5, u6, u7, u8, u9, u10, u11, u12, u11, [0, 1, 2, 3, 4, 5, 6, 7, 8, 9, 10, 13], u15, u16, u17, u11, [0, 1, 2, 3, 4, 5, 6, 7, 8, 9, 10, 18], u11, [0, 1, 2, 3, 4, 5, 6, 7, 8, 9, 10, 18, 19, 20], [0, 1, 2, 3, 4, 5, 6, 7, 8, 9, 10, 18, 19, 20, 21], [0, 1, 2, 3, 4, 5, 6, 7, 8, 9, 10, 18, 19, 20, 21, 22], u24, u25, u26] [1,3,64] [[1, 0]] (by kernel_rfl) (fun K' hK => by simp only [go_sem, map_getD hlt, tnI, nnI, hlt', hp, map_getD hpl, fun b => errI_ne b 20 (by decide)]; (repeat (refine ⟨by first | exact ob | (intro h; have := hpos (by simp_all); simp_all; done), ?_⟩)); exact fd0) ?_
   refine cnd (fun hb => ?_) fun hb => ?_
   ·repeat refine sq ?_
    have hbad : ¬ OkL l := by
     intro h
     obtain ⟨h1, h2⟩ := allB_iff.1 h.ps i hlt hlt
     simp only [h1, Bool.not_true, Bool.false_or, Bool.and_eq_true, decide_eq_true_eq] at hb
     obtain ⟨e, _⟩ := hpos (by omega)
     subst e
     have := h2 (by omega)
     have := hb.2
     omega
    refine rs hΓ [2] [] ?_
    refine cl_ret ?_
    simp only [go_sem]
    rw [chkI_bad hbad]
   ·have hn : papB l.ps[i] = true ∧ (0 < i → Pap.id l.ps[i - 1] < Pap.id l.ps[i]) := by
     simp only [Bool.or_eq_false_iff, Bool.not_eq_false', Bool.and_eq_false_iff, decide_eq_false_iff_not] at hb
     refine ⟨hb.1, fun h => ?_⟩
     obtain ⟨e, _⟩ := hpos h
     subst e
     omega
    refine cl_skip ?_
    refine cl_nil ?_
    simp only [go_sem]
    refine kp [1,3] [[1, 0]] ?_
    refine cl_r hΓ fun K' hK => ?_
    simp only [go_sem]
    repeat refine ⟨ob, ?_⟩
    refine hK _ ?_
    clear K' hK
    simp only [go_sem]
    refine ⟨i + 1, ⟨hlt, ?_⟩, by (show l.ps.length - (i + 1) < l.ps.length - i; omega), ?_⟩
    ·exact okL_succ hR hlt hn
    refine weak_eq [1,3] [[1, 0]] ?_ ?_ <;> simp only [go_sem, wrap_succ hlt hlp, csI]
  ·have hge : i = l.ps.length := by
    have : ¬ (i : Int) < l.ps.length := by simpa using hb
    omega
   clear hb
   subst hge
   refine cl_exit ?_
   simp only [go_sem]
   refine kp [1] [[1, 0]] ?_
   repeat refine sq ?_
   refine rs hΓ [1,4] [[1, 0]] ?_
   refine cl_block ?_
   refine cl_loop'  (fun s : Nat => [(4, ⟨true, .v (vInt s)⟩)]) (fun s => []) (fun s => s ≤ l.rs.length ∧ okL recB Rec.so l.rs s ∧ recTo l s) (fun s => l.rs.length - s) 0 ?_ ?_ ?_ ?_
   ·exact ⟨Nat.zero_le _, okL_zero, fun j _ h => by omega⟩
   ·rfl
   ·rfl
   rintro i ⟨hi1, hR1, hR1'⟩
   simp only [go_sem]
   repeat refine sq ?_
   refine rs hΓ [1,4,69] [[1, 0]] ?_
   refine cnd (fun hb => ?_) fun hb => ?_
   ·have hlt1 : i < l.rs.length := by simpa using hb
    have hlt1' : (i : Int) < l.rs.length := by omega
    clear hb
    obtain ⟨p, hp, hpl, hpos⟩ := prev_at hlt1 hlr
    have hvl : l.rs[i].lv.length ≤ maxLen := by
     have h1 := wfL_mem hw _ (List.mem_singleton.2 rfl)
     simp only [V.wf, V.wfL] at h1
     have h2 := wfL_mem h1.2.1.2 (encR l.rs[i]) (List.mem_map_of_mem (List.getElem_mem hlt1))
     simp only [encR, V.wf, V.wfL, List.length_map] at h2
     exact h2.2.2.2.1.1
    obtain ⟨kd, x, hgl, hlast⟩ := last_at l.rs[i] hvl
    refine cl_skip ?_
    repeat refine sq ?_
    refine cl_block ?_
    repeat refine sq ?_
    refine rx hΓ [1,4,5] [[1, 0],[5, 0]] (fun K' hK => by simp only [go_sem, map_getD hlt1, tnI, nnI, hlt1']; exact fn) ?_
    repeat refine sq ?_
    refine dx hΓ hP [[], [0], [0, 1], [0, 1, 2], u4, u5, u6, u7, u8, u7, [0, 1, 2, 3, 4, 5, 6, 9], u11, u12, u13, u7, [0, 1, 2, 3, 4, 5, 6, 14], u16, u17, u18, u19, u20, u20, [0, 1, 2, 3, 4, 5, 6, 7, 8, 9, 10, 11, 12, 13, 14, 15, 16, 17, 18, 19, 21], u20, [0, 1, 2, 3, 4, 5, 6, 7, 8, 9, 10, 11, 12, 13, 14, 15, 16, 17, 18, 19, 23], u20, [0, 1, 2, 3, 4, 5, 6, 7, 8, 9, 10, 11, 12, 13, 14, 15, 16, 17, 18, 19, 25], [0, 1, 2, 3, 4, 5, 6, 7, 8, 9, 10, 11, 12, 13, 14, 15, 16, 17, 18, 19, 25, 26], [0, 1, 2, 3, 4, 5, 6, 7, 8, 9, 10, 11, 12, 13, 14, 15, 16, 17, 18, 19, 25, 26, 27], [0, 1, 2, 3, 4, 5, 6, 7, 8, 9, 10, 11, 12, 13, 14, 15, 16, 17, 18, 19, 23, 24, 25, 26, 27, 28], [0, 1, 2, 3, 4, 5, 6, 7, 8, 9, 10, 11, 12, 13, 14, 15, 16, 17, 18, 19, 23, 24, 25, 26, 27, 28, 29], [0, 1, 2, 3, 4, 5, 6, 7, 8, 9, 10, 11, 12, 13, 14, 15, 16, 17, 18, 19, 21, 22, 23, 24, 25, 26, 27, 28, 29, 30], u32, u33, u34] [1,4,111] [[1, 0]] (by kernel_rfl) (fun K' hK => by simp only [go_sem, hp, map_getD hpl, fun b => errI_ne b 21 (by decide), hgl]; (repeat (refine ⟨by first | exact ob | (intro h; have := hpos (by simp_all); simp_all; done) | (intro h; have := hlast (by simp_all); simp_all; done), ?_⟩)); exact fd0) ?_
    refine cnd (fun hb => ?_) fun hb => ?_
    ·repeat refine sq ?_
     have hbad : ¬ OkL l := by
      intro h
      obtain ⟨h1, h2⟩ := allB_iff.1 h.rs i hlt1 hlt1
      obtain ⟨_, h4, _⟩ := hlast h1
      have h5 := h.rl i hlt1
      have h6 := lastOf_pos (recB_lvs h1)
      have h7 : isFol l l.rs[i].pa x = true := by unfold isFol inI; simp only [Bool.and_eq_true, decide_eq_true_eq]; omega
      simp only [h1, h7, Bool.not_true, Bool.false_or, Bool.or_false, Bool.and_eq_true, decide_eq_true_eq] at hb
      obtain ⟨e, _⟩ := hpos (by omega)
      subst e
      have := h2 (by omega)
      have := hb.2
      omega
     refine rs hΓ [2] [] ?_
     refine cl_ret ?_
     simp only [go_sem]
     rw [chkI_bad hbad]
    ·have hn : recB l.rs[i] = true ∧ (0 < i → Rec.so l.rs[i - 1] < Rec.so l.rs[i]) := by
      simp only [Bool.or_eq_false_iff, Bool.not_eq_false', Bool.and_eq_false_iff, decide_eq_false_iff_not] at hb
      refine ⟨hb.1.1, fun h => ?_⟩
      obtain ⟨e, _⟩ := hpos h
      subst e
      omega
     have hn2 : lastOf l.rs[i].lv ≤ lvOf l.ps l.rs[i].pa := by
      obtain ⟨_, h4, _⟩ := hlast hn.1
      simp only [Bool.or_eq_false_iff, Bool.not_eq_false'] at hb
      have := hb.2
      unfold isFol inI at this
      simp only [Bool.and_eq_true, decide_eq_true_eq] at this
      omega
     refine cl_skip ?_
     refine cl_nil ?_
     simp only [go_sem]
     refine kp [1,4] [[1, 0]] ?_
     refine cl_r hΓ fun K' hK => ?_
     simp only [go_sem]
     repeat refine ⟨ob, ?_⟩
     refine hK _ ?_
     clear K' hK
     simp only [go_sem]
     refine ⟨i + 1, ⟨hlt1, ?_⟩, by (show l.rs.length - (i + 1) < l.rs.length - i; omega), ?_⟩
     ·exact ⟨okL_succ hR1 hlt1 hn, fun j hj hji => by
       rcases Nat.lt_succ_iff_lt_or_eq.1 hji with h1 | rfl
       ·exact hR1' j hj h1
       ·exact hn2⟩
     refine weak_eq [1,4] [[1, 0]] ?_ ?_ <;> simp only [go_sem, wrap_succ hlt1 hlr, csI]
   ·have hge1 : i = l.rs.length := by
     have : ¬ (i : Int) < l.rs.length := by simpa using hb
     omega
    clear hb
    subst hge1
    refine cl_exit ?_
    simp only [go_sem]
    refine kp [1] [[1, 0]] ?_
    repeat refine sq ?_
    refine rs hΓ [1,6] [[1, 0]] ?_
    refine cl_block ?_
    refine cl_loop'  (fun s : Nat => [(6, ⟨true, .v (vInt s)⟩)]) (fun s => []) (fun s => s ≤ l.ts.length ∧ okL retB Ret.so l.ts s) (fun s => l.ts.length - s) 0 ?_ ?_ ?_ ?_
    ·exact ⟨Nat.zero_le _, okL_zero⟩
    ·rfl
    ·rfl
    rintro i ⟨hi2, hR2⟩
    simp only [go_sem]
    repeat refine sq ?_
    refine rs hΓ [1,6,116] [[1, 0]] ?_
    refine cnd (fun hb => ?_) fun hb => ?_
    ·have hlt2 : i < l.ts.length := by simpa using hb
     have hlt2' : (i : Int) < l.ts.length := by omega
     clear hb
     obtain ⟨p, hp, hpl, hpos⟩ := prev_at hlt2 hlt_
     refine cl_skip ?_
     repeat refine sq ?_
     refine cl_block ?_
     repeat refine sq ?_
     refine dx hΓ hP [[], [0], [], [0, 1, 2], u4, u5, u6, u7, u8, u9, u10, u11, u12, u11, [0, 1, 2, 3, 4, 5, 6, 7, 8, 9, 10, 13], u15, u16, u17, u11, [0, 1, 2, 3, 4, 5, 6, 7, 8, 9, 10, 18], u11, [0, 1, 2, 3, 4, 5, 6, 7, 8, 9, 10, 18, 19, 20], [0, 1, 2, 3, 4, 5, 6, 7, 8, 9, 10, 18, 19, 20, 21], [0, 1, 2, 3, 4, 5, 6, 7, 8, 9, 10, 18, 19, 20, 21, 22], u24, u25, u26] [1,6,145] [[1, 0]] (by kernel_rfl) (fun K' hK => by simp only [go_sem, map_getD hlt2, tnI, nnI, hlt2', hp, map_getD hpl, fun b => errI_ne b 22 (by decide)]; (repeat (refine ⟨by first | exact ob | (intro h; have := hpos (by simp_all); simp_all; done), ?_⟩)); exact fd0) ?_
     refine cnd (fun hb => ?_) fun hb => ?_
     ·repeat refine sq ?_
      have hbad : ¬ OkL l := by
       intro h
       obtain ⟨h1, h2⟩ := allB_iff.1 h.ts i hlt2 hlt2
       simp only [h1, Bool.not_true, Bool.false_or, Bool.and_eq_true, decide_eq_true_eq] at hb
       obtain ⟨e, _⟩ := hpos (by omega)
       subst e
       have := h2 (by omega)
       have := hb.2
       omega
      refine rs hΓ [2] [] ?_
      refine cl_ret ?_
      simp only [go_sem]
      rw [chkI_bad hbad]
     ·have hn : retB l.ts[i] = true ∧ (0 < i → Ret.so l.ts[i - 1] < Ret.so l.ts[i]) := by
       simp only [Bool.or_eq_false_iff, Bool.not_eq_false', Bool.and_eq_false_iff, decide_eq_false_iff_not] at hb
       refine ⟨hb.1, fun h => ?_⟩
       obtain ⟨e, _⟩ := hpos h
       subst e
       omega
      refine cl_skip ?_
      refine cl_nil ?_
      simp only [go_sem]
      refine kp [1,6] [[1, 0]] ?_
      refine cl_r hΓ fun K' hK => ?_
      simp only [go_sem]
      repeat refine ⟨ob, ?_⟩
      refine hK _ ?_
      clear K' hK
      simp only [go_sem]
      refine ⟨i + 1, ⟨hlt2, ?_⟩, by (show l.ts.length - (i + 1) < l.ts.length - i; omega), ?_⟩
      ·exact okL_succ hR2 hlt2 hn
      refine weak_eq [1,6] [[1, 0]] ?_ ?_ <;> simp only [go_sem, wrap_succ hlt2 hlt_, csI]
    ·have hge2 : i = l.ts.length := by
      have : ¬ (i : Int) < l.ts.length := by simpa using hb
      omega
     clear hb
     subst hge2
     refine cl_exit ?_
     simp only [go_sem]
     refine kp [1] [[1, 0]] ?_
     repeat refine sq ?_
     refine rs hΓ [1,7] [[1, 0]] ?_
     refine cl_block ?_
     refine cl_loop'  (fun s : Nat => [(7, ⟨true, .v (vInt s)⟩)]) (fun s => []) (fun s => s ≤ l.ss.length ∧ okL sigB Sig.so l.ss s ∧ sigTo l s) (fun s => l.ss.length - s) 0 ?_ ?_ ?_ ?_
     ·exact ⟨Nat.zero_le _, okL_zero, fun j _ h => by omega⟩
     ·rfl
     ·rfl
     rintro i ⟨hi3, hR3, hR3'⟩
     simp only [go_sem]
     repeat refine sq ?_
     refine rs hΓ [1,7,150] [[1, 0]] ?_
     refine cnd (fun hb => ?_) fun hb => ?_
     ·have hlt3 : i < l.ss.length := by simpa using hb
      have hlt3' : (i : Int) < l.ss.length := by omega
      clear hb
      obtain ⟨p, hp, hpl, hpos⟩ := prev_at hlt3 hls
      refine cl_skip ?_
      repeat refine sq ?_
      refine cl_block ?_
      repeat refine sq ?_
      refine rx hΓ [1,7,8] [[1, 0],[8, 0]] (fun K' hK => by simp only [go_sem, map_getD hlt3, tnI, nnI, hlt3']; exact fn) ?_
      repeat refine sq ?_
      refine dx hΓ hP [[], [0], [0, 1], [0, 1, 2], u4, u5, u6, u7, u8, u7, [0, 1, 2, 3, 4, 5, 6, 9], u11, u12, u13, u7, [0, 1, 2, 3, 4, 5, 6, 14], u16, u17, u18, u19, u20, u20, [0, 1, 2, 3, 4, 5, 6, 7, 8, 9, 10, 11, 12, 13, 14, 15, 16, 17, 18, 19, 21], u20, [0, 1, 2, 3, 4, 5, 6, 7, 8, 9, 10, 11, 12, 13, 14, 15, 16, 17, 18, 19, 23], [0, 1, 2, 3, 4, 5, 6, 7, 8, 9, 10, 11, 12, 13, 14, 15, 16, 17, 18, 19, 21, 22, 23, 24], u26, u27, u28] [1,7,186] [[1, 0]] (by kernel_rfl) (fun K' hK => by simp only [go_sem, hp, map_getD hpl, fun b => errI_ne b 23 (by decide)]; (repeat (refine ⟨by first | exact ob | (intro h; have := hpos (by simp_all); simp_all; done), ?_⟩)); exact fd0) ?_
      refine cnd (fun hb => ?_) fun hb => ?_
      ·repeat refine sq ?_
       have hbad : ¬ OkL l := by
        intro h
        obtain ⟨h1, h2⟩ := allB_iff.1 h.ss i hlt3 hlt3
        have h5 := h.sl i hlt3
        have h6 : 1 ≤ l.ss[i].le := by unfold sigB inI at h1; simp only [Bool.and_eq_true, decide_eq_true_eq] at h1; omega
        have h7 : isFol l l.ss[i].pa l.ss[i].le = true := by unfold isFol inI; simp only [Bool.and_eq_true, decide_eq_true_eq]; omega
        simp only [h1, h7, Bool.not_true, Bool.false_or, Bool.or_false, Bool.and_eq_true, decide_eq_true_eq] at hb
        obtain ⟨e, _⟩ := hpos (by omega)
        subst e
        have := h2 (by omega)
        have := hb.2
        omega
       refine rs hΓ [2] [] ?_
       refine cl_ret ?_
       simp only [go_sem]
       rw [chkI_bad hbad]
      ·have hn : sigB l.ss[i] = true ∧ (0 < i → Sig.so l.ss[i - 1] < Sig.so l.ss[i]) := by
        simp only [Bool.or_eq_false_iff, Bool.not_eq_false', Bool.and_eq_false_iff, decide_eq_false_iff_not] at hb
        refine ⟨hb.1.1, fun h => ?_⟩
        obtain ⟨e, _⟩ := hpos h
        subst e
        omega
       have hn2 : l.ss[i].le ≤ lvOf l.ps l.ss[i].pa := by
        simp only [Bool.or_eq_false_iff, Bool.not_eq_false'] at hb
        have := hb.2
        unfold isFol inI at this
        simp only [Bool.and_eq_true, decide_eq_true_eq] at this
        omega
       refine cl_skip ?_
       refine cl_nil ?_
       simp only [go_sem]
       refine kp [1,7] [[1, 0]] ?_
       refine cl_r hΓ fun K' hK => ?_
       simp only [go_sem]
       repeat refine ⟨ob, ?_⟩
       refine hK _ ?_
       clear K' hK
       simp only [go_sem]
       refine ⟨i + 1, ⟨hlt3, ?_⟩, by (show l.ss.length - (i + 1) < l.ss.length - i; omega), ?_⟩
       ·exact ⟨okL_succ hR3 hlt3 hn, fun j hj hji => by
         rcases Nat.lt_succ_iff_lt_or_eq.1 hji with h1 | rfl
         ·exact hR3' j hj h1
         ·exact hn2⟩
       refine weak_eq [1,7] [[1, 0]] ?_ ?_ <;> simp only [go_sem, wrap_succ hlt3 hls, csI]
     ·have hge3 : i = l.ss.length := by
       have : ¬ (i : Int) < l.ss.length := by simpa using hb
       omega
      clear hb
      subst hge3
      refine cl_exit ?_
      simp only [go_sem]
      refine kp [1] [[1, 0]] ?_
      repeat refine sq ?_
      refine rx hΓ [190] [] (fun K' hK => by simp only [go_sem, hsh]; exact fn) ?_
      refine cnd (fun hb => ?_) fun hb => ?_
      ·repeat refine sq ?_
       have hbad : ¬ OkL l := fun h => by have := h.nd; simp [this] at hb
       refine rs hΓ [2] [] ?_
       refine cl_ret ?_
       simp only [go_sem]
       rw [chkI_bad hbad]
      ·have hgood : (srcs l).Nodup := by simpa using hb
       refine cl_skip ?_
       repeat refine sq ?_
       refine rs hΓ [2] [] ?_
       refine cl_ret ?_
       simp only [go_sem]
       rw [chkI_good ⟨allB_iff.2 hR, by omega, allB_iff.2 hR1, by omega, allB_iff.2 hR2, by omega, allB_iff.2 hR3, by omega, fun j h => hR1' j h h, fun j h => hR3' j h h, hgood⟩]
end
set_option maxHeartbeats 8000000
noncomputable section
theorem eqV3 (d : Nat) (a b : Int) : eqV Tryz.prog (d + 1) 3 (vInt a) (vInt b) = some (a == b) := by
 simp only [eqV, Tryz.underlying3, if_true]
theorem held46 : Tryz.prog.stoodInHeld 46 = false := by kernel_rfl
theorem guard46 : Tryz.prog.eqGuardType Tryz.prog.depth 46 = false := by kernel_rfl
theorem eqV46 (d : Nat) (a b a' b' : Int) : eqV Tryz.prog (d + 2) 46 (.agg [vInt a, vInt b]) (.agg [vInt a', vInt b']) = some (a == a' && b == b') := by
 unfold eqV
 simp only [Tryz.underlying46, held46, Bool.false_eq_true, if_false, eqFs, partV, ta3, List.getElem?_cons_zero, List.getElem?_cons_succ, eqV3]
 cases a == a' <;> cases b == b' <;> rfl
@[go_sem] theorem aEqS46 (obj : Name → Option O) (op : BinOp) (a b a' b' : Int) : aEqS Tryz.prog obj op 46 (.agg [vInt a, vInt b]) (.agg [vInt a', vInt b']) =
  ⟨op = .eql ∨ op = .neq, .v (.bool (if op = .eql then (a == a' && b == b') else !(a == a' && b == b'))), obj⟩ := by
 unfold aEqS
 rw [show Op.maxDepth = 9998 + 2 from rfl, eqV46]
 simp only [guard46, true_and]
theorem held56 : Tryz.prog.stoodInHeld 56 = false := by kernel_rfl
theorem guard56 : Tryz.prog.eqGuardType Tryz.prog.depth 56 = false := by kernel_rfl
theorem eqV56 (d : Nat) (a b a' b' : Int) : eqV Tryz.prog (d + 2) 56 (.agg [vInt a, vInt b]) (.agg [vInt a', vInt b']) = some (a == a' && b == b') := by
 unfold eqV
 simp only [Tryz.underlying56, held56, Bool.false_eq_true, if_false, eqFs, partV, ta3, List.getElem?_cons_zero, List.getElem?_cons_succ, eqV3]
 cases a == a' <;> cases b == b' <;> rfl
@[go_sem] theorem aEqS56 (obj : Name → Option O) (op : BinOp) (a b a' b' : Int) : aEqS Tryz.prog obj op 56 (.agg [vInt a, vInt b]) (.agg [vInt a', vInt b']) =
  ⟨op = .eql ∨ op = .neq, .v (.bool (if op = .eql then (a == a' && b == b') else !(a == a' && b == b'))), obj⟩ := by
 unfold aEqS
 rw [show Op.maxDepth = 9998 + 2 from rfl, eqV56]
 simp only [guard56, true_and]
theorem held38 : Tryz.prog.stoodInHeld 38 = false := by kernel_rfl
theorem guard38 : Tryz.prog.eqGuardType Tryz.prog.depth 38 = false := by kernel_rfl
theorem eqV38 (d : Nat) (a b a' b' : Int) : eqV Tryz.prog (d + 2) 38 (.agg [vInt a, vInt b]) (.agg [vInt a', vInt b']) = some (a == a' && b == b') := by
 unfold eqV
 simp only [Tryz.underlying38, held38, Bool.false_eq_true, if_false, eqFs, partV, ta3, List.getElem?_cons_zero, List.getElem?_cons_succ, eqV3]
 cases a == a' <;> cases b == b' <;> rfl
@[go_sem] theorem aEqS38 (obj : Name → Option O) (op : BinOp) (a b a' b' : Int) : aEqS Tryz.prog obj op 38 (.agg [vInt a, vInt b]) (.agg [vInt a', vInt b']) =
  ⟨op = .eql ∨ op = .neq, .v (.bool (if op = .eql then (a == a' && b == b') else !(a == a' && b == b'))), obj⟩ := by
 unfold aEqS
 rw [show Op.maxDepth = 9998 + 2 from rfl, eqV38]
 simp only [guard38, true_and]
theorem held81 : Tryz.prog.stoodInHeld 81 = false := by kernel_rfl
theorem guard81 : Tryz.prog.eqGuardType Tryz.prog.depth 81 = false := by kernel_rfl
theorem eqV81 (k : Nat) (a b c d e f g a' b' c' d' e' f' g' : Int) : eqV Tryz.prog (k + 2) 81 (.agg [vInt a, vInt b, vInt c, vInt d, vInt e, vInt f, vInt g]) (.agg [vInt a', vInt b', vInt c', vInt d', vInt e', vInt f', vInt g']) =
  some (a == a' && (b == b' && (c == c' && (d == d' && (e == e' && (f == f' && g == g')))))) := by
 unfold eqV
 simp only [Tryz.underlying81, held81, Bool.false_eq_true, if_false, eqFs, partV, ta3, List.getElem?_cons_zero, List.getElem?_cons_succ, eqV3]
 cases a == a' <;> cases b == b' <;> cases c == c' <;> cases d == d' <;> cases e == e' <;> cases f == f' <;> cases g == g' <;> rfl
@[go_sem] theorem aEqS81 (obj : Name → Option O) (op : BinOp) (a b c d e f g a' b' c' d' e' f' g' : Int) : aEqS Tryz.prog obj op 81 (.agg [vInt a, vInt b, vInt c, vInt d, vInt e, vInt f, vInt g]) (.agg [vInt a', vInt b', vInt c', vInt d', vInt e', vInt f', vInt g']) =
  ⟨op = .eql ∨ op = .neq, .v (.bool (if op = .eql then (a == a' && (b == b' && (c == c' && (d == d' && (e == e' && (f == f' && g == g')))))) else !(a == a' && (b == b' && (c == c' && (d == d' && (e == e' && (f == f' && g == g')))))))), obj⟩ := by
 unfold aEqS
 rw [show Op.maxDepth = 9998 + 2 from rfl, eqV81]
 simp only [guard81, true_and]
def sameTo {α : Type} (a b : List α) (n : Nat) : Prop := ∀ j (h : j < a.length) (h' : j < b.length), j < n → a[j] = b[j]
theorem sameTo_succ {α : Type} {a b : List α} {i : Nat} (h : sameTo a b i) (hi : ∀ (h : i < a.length) (h' : i < b.length), a[i] = b[i]) : sameTo a b (i + 1) := by
 intro j hj hj' hji
 rcases Nat.lt_succ_iff_lt_or_eq.1 hji with h1 | rfl
 ·exact h j hj hj' h1
 ·exact hi hj hj'
theorem sameTo_end {α : Type} {a b : List α} (hl : a.length = b.length) (h : sameTo a b a.length) : a = b := List.ext_getElem hl fun j h1 h2 => h j h1 h2 h1
theorem has_iff {l : List Int} {n : Int} : l.contains n = true ↔ ∃ k, ∃ (h : k < l.length), l[k] = n := by
 rw [List.contains_iff_mem]
 constructor
 ·intro h
  obtain ⟨k, hk, e⟩ := List.getElem_of_mem h
  exact ⟨k, hk, e⟩
 ·rintro ⟨k, hk, rfl⟩
  exact List.getElem_mem hk
@[go_sem] def P15 : PSpec := p2 iIs iI (fun _ _ => True) (fun l n => .bool (l.contains n)) true
@[go_sem] def S15 : Spec := P15.toSpec
theorem s15 : PSound Tryz.prog 15 P15 := by
 refine wd2 (rs := [.tmp 4]) Tryz.func15 Tryz.ntmps15 fun l n hp hw => ?_
 simp only [iI, iIs] at hw ⊢
 have hΓ := @no_sound Tryz.prog
 have hl : l.length ≤ maxLen := by have := hw.1.1; simpa using this
 repeat refine sq ?_
 refine rs hΓ [0,1] [] ?_
 repeat refine sq ?_
 refine rs hΓ [0,1,5] [] ?_
 refine cl_block ?_
 refine cl_loop'  (fun s : Nat => [(5, ⟨true, .v (vInt s)⟩)]) (fun s => []) (fun s => s ≤ l.length ∧ ∀ k (h : k < l.length), k < s → l[k] ≠ n) (fun s => l.length - s) 0 ?_ ?_ ?_ ?_
 ·exact ⟨Nat.zero_le _, by simp⟩
 ·rfl
 ·rfl
 rintro i ⟨hi, hR⟩
 simp only [go_sem]
 repeat refine sq ?_
 refine rs hΓ [0,1,5,9] [] ?_
 refine cnd (fun hb => ?_) fun hb => ?_
 ·have hlt : i < l.length := by simpa using hb
  have hlt' : (i : Int) < l.length := by omega
  clear hb
  refine cl_skip ?_
  repeat refine sq ?_
  refine cl_block ?_
  repeat refine sq ?_
  refine rx hΓ [0,1,5,17] [] (fun K' hK => by simp only [go_sem, map_getD hlt, tnI, nnI, hlt']; exact fn) ?_
  refine cnd (fun hb => ?_) fun hb => ?_
  ·repeat refine sq ?_
   refine rs hΓ [4] [] ?_
   refine cl_ret ?_
   simp only [go_sem]
   rw [has_iff.2 ⟨i, hlt, by simpa using hb⟩]
  ·refine cl_skip ?_
   refine cl_nil ?_
   simp only [go_sem]
   refine kp [0,1,5] [] ?_
   refine cl_r hΓ fun K' hK => ?_
   simp only [go_sem]
   repeat refine ⟨ob, ?_⟩
   refine hK _ ?_
   clear K' hK
   simp only [go_sem]
   refine ⟨i + 1, ⟨hlt, ?_⟩, by (show l.length - (i + 1) < l.length - i; omega), ?_⟩
   ·intro k hk hki
    rcases Nat.lt_succ_iff_lt_or_eq.1 hki with h5 | rfl
    ·exact hR k hk h5
    ·simpa using hb
   refine weak_eq [0,1,5] [] ?_ ?_ <;> simp only [go_sem, wrap_succ hlt hl, csI]
 ·have hge : i = l.length := by
   have : ¬ (i : Int) < l.length := by simpa using hb
   omega
  clear hb
  subst hge
  refine cl_exit ?_
  simp only [go_sem]
  refine kp [] [] ?_
  repeat refine sq ?_
  refine rs hΓ [4] [] ?_
  refine cl_ret ?_
  simp only [go_sem]
  rw [bool_of has_iff (fun ⟨k, hk, e⟩ => hR k hk hk e)]
@[go_sem] def P24 : PSpec := p2 iIs iIs (fun _ _ => True) (fun a b => .bool (decide (a = b))) true
@[go_sem] def S24 : Spec := P24.toSpec
theorem s24 : PSound Tryz.prog 24 P24 := by
 refine wd2 (rs := [.tmp 4]) Tryz.func24 Tryz.ntmps24 fun a b hp hw => ?_
 have hP := mixedK
 simp only [iIs] at hw ⊢
 have hΓ := @no_sound Tryz.prog
 have hl : a.length ≤ maxLen := by have := hw.1.1; simpa using this
 repeat refine sq ?_
 refine rs hΓ [0,1] [] ?_
 repeat refine sq ?_
 refine rs hΓ [0,1,10] [] ?_
 refine cnd (fun hb => ?_) fun hb => ?_
 ·repeat refine sq ?_
  have hbad : a ≠ b := by
   rintro rfl
   simp at hb
  refine rs hΓ [4] [] ?_
  refine cl_ret ?_
  simp only [go_sem]
  rw [decide_eq_false hbad]
 ·have hab : a.length = b.length := by
   have : (a.length : Int) = b.length := by simpa using hb
   omega
  clear hb
  refine cl_skip ?_
  repeat refine sq ?_
  refine rs hΓ [0,1,5] [] ?_
  refine cl_block ?_
  refine cl_loop'  (fun s : Nat => [(5, ⟨true, .v (vInt s)⟩)]) (fun s => []) (fun s => s ≤ a.length ∧ sameTo a b s) (fun s => a.length - s) 0 ?_ ?_ ?_ ?_
  ·exact ⟨Nat.zero_le _, fun j _ _ h => by omega⟩
  ·rfl
  ·rfl
  rintro i ⟨hi, hR⟩
  simp only [go_sem]
  repeat refine sq ?_
  refine rs hΓ [0,1,5,14] [] ?_
  refine cnd (fun hb => ?_) fun hb => ?_
  ·have hlt : i < a.length := by simpa using hb
   have hlt' : (i : Int) < a.length := by omega
   clear hb
   have hlb' : (i : Int) < b.length := by omega
   have hlb : i < b.length := by omega
   refine cl_skip ?_
   repeat refine sq ?_
   refine cl_block ?_
   repeat refine sq ?_
   refine dx hΓ hP [[], [], [0, 1], [0, 1, 2], [], [], [4, 5], [4, 5, 6], u8] [0,1,5,25] [] (by kernel_rfl) (fun K' hK => by simp only [go_sem, map_getD hlt, map_getD (show i < b.length by omega), tnI, nnI, hlt', hlb']; exact fd) ?_
   refine cnd (fun hb => ?_) fun hb => ?_
   ·repeat refine sq ?_
    have hbad : a ≠ b := by
     rintro rfl
     simp at hb
    refine rs hΓ [4] [] ?_
    refine cl_ret ?_
    simp only [go_sem]
    rw [decide_eq_false hbad]
   ·refine cl_skip ?_
    refine cl_nil ?_
    simp only [go_sem]
    refine kp [0,1,5] [] ?_
    refine cl_r hΓ fun K' hK => ?_
    simp only [go_sem]
    repeat refine ⟨ob, ?_⟩
    refine hK _ ?_
    clear K' hK
    simp only [go_sem]
    refine ⟨i + 1, ⟨hlt, ?_⟩, by (show a.length - (i + 1) < a.length - i; omega), ?_⟩
    ·exact sameTo_succ hR fun _ _ => by simpa using hb
    refine weak_eq [0,1,5] [] ?_ ?_ <;> simp only [go_sem, wrap_succ hlt hl, csI]
  ·have hge : i = a.length := by
    have : ¬ (i : Int) < a.length := by simpa using hb
    omega
   clear hb
   subst hge
   refine cl_exit ?_
   simp only [go_sem]
   refine kp [] [] ?_
   repeat refine sq ?_
   refine rs hΓ [4] [] ?_
   refine cl_ret ?_
   simp only [go_sem]
   rw [decide_eq_true (sameTo_end hab hR)]
def K10a : List (Nat × Spec) := [(24, S24)]
attribute [go_sem] K10a
def K10 : List (Nat × Spec) := []
attribute [go_sem] K10
end
noncomputable section
theorem PSound.conv {P : Program} {f : FuncId} {s s' : PSpec} (h : PSound P f s) (hf : s'.flat = s.flat) (hp : ∀ xs, s'.pre xs → s.pre xs ∧ s'.fn xs = s.fn xs) : PSound P f s' := by
 refine ⟨h.ne, h.enter, fun hfl xs hx => ?_, fun m w xs args hm hx hpre => ?_⟩
 ·rw [(hp xs hx).2]; exact h.flat (hf ▸ hfl) xs (hp xs hx).1
 ·rw [(hp xs hpre).2]; exact h.calls m w xs args hm hx (hp xs hpre).1
def S132 : Spec := cloneG Tryz.prog 29
theorem k132 : SSound Tryz.prog 132 S132 := cloneG_sound clone132
attribute [go_sem] S132
def K11 : List (Nat × Spec) := [(132, S132)]
attribute [go_sem] K11
def copNew (l : Led) : List (Name × O) := [([8, 0], .arr 2 (l.ps.map encP)), ([11, 0], .arr 7 (l.rs.map encR)), ([14, 0], .arr 8 (l.ts.map encT)), ([17, 0], .arr 7 (l.ss.map encS))]
def copD (l : Led) : D := .agg [.msl [8, 0] l.ps.length, .msl [11, 0] l.rs.length, .msl [14, 0] l.ts.length, .msl [17, 0] l.ss.length]
attribute [go_sem] copNew copD
theorem okP (l : List Pap) : ∀ y ∈ l.map encP, y.cells.length = 2 ∧ y.okc = true := by
 intro y hy; obtain ⟨x, _, rfl⟩ := List.mem_map.1 hy; exact ⟨rfl, rfl⟩
theorem okR (l : List Rec) : ∀ y ∈ l.map encR, y.cells.length = 7 ∧ y.okc = true := by
 intro y hy; obtain ⟨x, _, rfl⟩ := List.mem_map.1 hy; exact ⟨rfl, rfl⟩
theorem okT (l : List Ret) : ∀ y ∈ l.map encT, y.cells.length = 8 ∧ y.okc = true := by
 intro y hy; obtain ⟨x, _, rfl⟩ := List.mem_map.1 hy; exact ⟨rfl, rfl⟩
theorem okS (l : List Sig) : ∀ y ∈ l.map encS, y.cells.length = 7 ∧ y.okc = true := by
 intro y hy; obtain ⟨x, _, rfl⟩ := List.mem_map.1 hy; exact ⟨rfl, rfl⟩
theorem okI (l : List Int) : ∀ y ∈ l.map vInt, y.cells.length = 1 ∧ y.okc = true := by
 intro y hy; obtain ⟨x, _, rfl⟩ := List.mem_map.1 hy; exact ⟨rfl, rfl⟩
theorem obx {p : Prop} (h : p := by first | exact okP _ | exact okR _ | exact okT _ | exact okS _ | exact okI _ | ((repeat' apply And.intro) <;> first | rfl | omega | (unfold maxLen; omega) | trivial | decide | exact okP _ | exact okR _ | exact okT _ | exact okS _ | exact okI _) | exact ob) : p := h
theorem rsx {P : Program} {Γ : FuncId → Option Spec} (hΓ : ∀ f s, Γ f = some s → SSound P f s) {id : Nat} {l : List Oper} {c : Code} {r : List Code} {σ τ : S} {K : Exit → S → Prop} (ks : List Nat) (ns : List Name) (h : CL P (c :: r) τ K)
  (h' : ∀ K' : S → Prop, (∀ σ', clS ks ns σ' → keepS ks ns σ' = τ → K' σ') → Reg P Γ l.toArray l σ K' := by intro K' hK; simp only [go_sem]; (repeat (refine ⟨obx, ?_⟩)); exact hK _ (by simp only [go_sem]) (by simp only [go_sem] <;> rfl)) : CL P (.region id l.toArray false :: c :: r) σ K :=
 cl_rs hΓ ks ns fun K' hK => h' K' fun σ' hc he => hK σ' hc (he ▸ h)
theorem fnx {p : Prop} (h : p := by (repeat (refine ⟨obx, ?_⟩)); exact hK _ (by simp only [go_sem]) (by simp only [go_sem] <;> rfl)) : p := h
theorem fdx {p : Prop} (h : p := by (repeat (refine ⟨obx, ?_⟩)); (first | refine ⟨by rfl, ?_⟩ | skip); exact hK _ (by simp only [go_sem]) (by simp only [go_sem] <;> rfl)) : p := h
end
noncomputable section
def iClo : En (Nat × Int) := ⟨fun g => .clo (.func g.1) [] [.ptr [vInt g.2]], fun v => match v with | .clo (.func g) _ [.ptr [.int _ s]] => (g, s) | _ => default⟩
def iPi : En Int := ⟨fun s => .ptr [vInt s], fun v => match v with | .ptr [.int _ s] => s | _ => 0⟩
attribute [go_sem] iClo iPi
@[go_sem] def P171 : PSpec := p2 iR iPi (fun _ _ => True) (fun x s => .bool (x.so == s)) true
@[go_sem] def S171 : Spec := P171.toSpec
theorem s171 : PSound Tryz.prog 171 P171 := by
 refine wd2 (rs := [.tmp 3]) Tryz.func171 Tryz.ntmps171 fun x s hp hw => ?_
 simp only [iPi, iR, encR] at hw ⊢
 have hΓ := @no_sound Tryz.prog
 repeat refine sq ?_
 refine rsx hΓ [1,2] [[2, 0]] ?_
 repeat refine sq ?_
 refine rsx hΓ [3] [] ?_
 refine cl_ret ?_
 simp only [go_sem]
 all_goals exact fzI
@[go_sem] def P167 : PSpec := p2 iR iPi (fun _ _ => True) (fun x s => .bool (x.so == s)) true
@[go_sem] def S167 : Spec := P167.toSpec
theorem s167 : PSound Tryz.prog 167 P167 := by
 refine wd2 (rs := [.tmp 3]) Tryz.func167 Tryz.ntmps167 fun x s hp hw => ?_
 simp only [iPi, iR, encR] at hw ⊢
 have hΓ := @no_sound Tryz.prog
 repeat refine sq ?_
 refine rsx hΓ [1,2] [[2, 0]] ?_
 repeat refine sq ?_
 refine rsx hΓ [3] [] ?_
 refine cl_ret ?_
 simp only [go_sem]
 all_goals exact fzI
@[go_sem] def P92 : PSpec := p2 iS iPi (fun _ _ => True) (fun x s => .bool (x.so == s)) true
@[go_sem] def S92 : Spec := P92.toSpec
theorem s92 : PSound Tryz.prog 92 P92 := by
 refine wd2 (rs := [.tmp 3]) Tryz.func92 Tryz.ntmps92 fun x s hp hw => ?_
 simp only [iPi, iS, encS] at hw ⊢
 have hΓ := @no_sound Tryz.prog
 repeat refine sq ?_
 refine rsx hΓ [1,2] [[2, 0]] ?_
 repeat refine sq ?_
 refine rsx hΓ [3] [] ?_
 refine cl_ret ?_
 simp only [go_sem]
 all_goals exact fzI
def idxF {α : Type} (p : α → Bool) (l : List α) : Int := if l.any p then (l.findIdx p : Int) else -1
theorem idxF_at {α : Type} {p : α → Bool} {l : List α} {i : Nat} (h : i < l.length) (hp : p l[i] = true) (hn : ∀ k (hk : k < l.length), k < i → p l[k] = false) : idxF p l = i := by
 unfold idxF
 rw [if_pos (List.any_eq_true.2 ⟨_, List.getElem_mem h, hp⟩)]
 congr 1
 rw [List.findIdx_eq h]
 exact ⟨hp, fun j hj => hn j (by omega) hj⟩
theorem idxF_none {α : Type} {p : α → Bool} {l : List α} (hn : ∀ k (hk : k < l.length), p l[k] = false) : idxF p l = -1 := by
 unfold idxF
 rw [if_neg]
 intro h
 obtain ⟨x, hx, hp⟩ := List.any_eq_true.1 h
 obtain ⟨k, hk, rfl⟩ := List.getElem_of_mem hx
 rw [hn k hk] at hp; cases hp
theorem idxF_ge {α : Type} (p : α → Bool) (l : List α) : decide (idxF p l ≥ 0) = l.any p := by
 unfold idxF
 cases l.any p with
 | true => simp
 | false => simp
def K12a : List (Nat × Spec) := [(171, S171), (167, S167)]
theorem K12a_sound : KS K12a := tc s171.sound <| tc s167.sound <| tn
attribute [go_sem] K12a
def K12c : FuncId → Option Spec := tbl K12a
theorem K12c_sound : ∀ f s, K12c f = some s → SSound Tryz.prog f s := K12a_sound
@[go_sem] theorem S167_171 : S167 = S171 := rfl
@[go_sem] def P166 : PSpec := p2 (iSl iR) iClo (fun _ g => g.1 = 171 ∨ g.1 = 167) (fun l g => vInt (idxF (fun x => Rec.so x == g.2) l)) true
@[go_sem] def S166 : Spec := P166.toSpec
set_option maxHeartbeats 4000000 in
theorem s166 : PSound Tryz.prog 166 P166 := by
 refine wd2 (rs := [.tmp 4]) Tryz.func166 Tryz.ntmps166 fun l g hp hw => ?_
 simp only [iClo, iR, iSl] at hw ⊢
 have hΓ := K12c_sound
 have hl : l.length ≤ maxLen := by have := hw.1.1; simpa using this
 obtain ⟨g, s_⟩ := g
 try simp only [iClo] at hw hp ⊢
 have hg : K12c g = some S171 := by rcases hp with rfl | rfl <;> rfl
 have hgy : ¬ g = 1000000000 := by omega
 repeat refine sq ?_
 refine rsx hΓ [0,1] [] ?_
 repeat refine sq ?_
 refine rsx hΓ [0,1,7,8] [] ?_
 refine cl_block ?_
 refine cl_loop'  (fun s : Nat => [(8, ⟨true, .v (vInt s)⟩)]) (fun s => []) (fun s => s ≤ l.length ∧ ∀ k (h : k < l.length), k < s → (fun x : Rec => Rec.so x == s_) l[k] = false) (fun s => l.length - s) 0 ?_ ?_ ?_ ?_
 ·exact ⟨Nat.zero_le _, by simp⟩
 ·rfl
 ·rfl
 rintro i ⟨hi, hR⟩
 simp only [go_sem]
 repeat refine sq ?_
 refine rsx hΓ [0,1,7,8,9] [] ?_
 repeat refine sq ?_
 refine cnd (fun hb => ?_) fun hb => ?_
 ·have hlt : i < l.length := by simpa using hb
  have hlt' : (i : Int) < l.length := by omega
  clear hb
  refine cl_skip ?_
  repeat refine sq ?_
  refine cl_block ?_
  repeat refine sq ?_
  refine rx hΓ [0,1,5,7,8] [] (fun K' hK => by simp only [go_sem, hlt']; exact fnx) ?_
  repeat refine sq ?_
  refine rx hΓ [0,1,5,7,8,16] [] (fun K' hK => by simp only [go_sem, map_getD hlt, tnI, nnI, hlt', hg, hgy]; exact fnx) ?_
  refine cnd (fun hb => ?_) fun hb => ?_
  ·repeat refine sq ?_
   refine rsx hΓ [4] [] ?_
   refine cl_ret ?_
   simp only [go_sem]
   rw [idxF_at (p := fun x => Rec.so x == s_) hlt (by simpa using hb) hR]
  ·refine cl_skip ?_
   refine cl_nil ?_
   simp only [go_sem]
   refine kp [0,1,7,8] [] ?_
   refine cl_r hΓ fun K' hK => ?_
   simp only [go_sem]
   repeat (refine ⟨obx, ?_⟩)
   refine hK _ ?_
   clear K' hK
   simp only [go_sem]
   refine ⟨i + 1, ⟨hlt, ?_⟩, by (show l.length - (i + 1) < l.length - i; omega), ?_⟩
   ·intro k hk hki
    rcases Nat.lt_succ_iff_lt_or_eq.1 hki with h5 | rfl
    ·exact hR k hk h5
    ·simpa using hb
   refine weak_eq [0,1,7,8] [] ?_ ?_ <;> simp only [go_sem, wrap_succ hlt hl, csI]
 ·have hge : i = l.length := by
   have : ¬ (i : Int) < l.length := by simpa using hb
   omega
  clear hb
  subst hge
  refine cl_exit ?_
  simp only [go_sem]
  refine kp [] [] ?_
  repeat refine sq ?_
  refine rsx hΓ [4] [] ?_
  refine cl_ret ?_
  simp only [go_sem]
  rw [idxF_none (p := fun x => Rec.so x == s_) fun k hk => hR k hk hk]
@[go_sem] def P181 : PSpec := p2 (iSl iS) iClo (fun _ g => g.1 = 175) (fun l g => vInt (idxF (fun x => Sig.so x == g.2) l)) true
@[go_sem] def S181 : Spec := P181.toSpec
def K12b : List (Nat × Spec) := [(166, S166), (181, S181)]
attribute [go_sem] K12b
def K12 : List (Nat × Spec) := []
attribute [go_sem] K12
end
noncomputable section
attribute [go_sem] insSpec
def K13 : List (Nat × Spec) := [(37, S37), (67, S67), (79, S79)]
attribute [go_sem] K13
theorem chkI_ne (l : Led) : (chkI l != 0) = !okLB l := errI_ne _ _ (by decide)
end
noncomputable section
def K14 : List (Nat × Spec) := [(69, S69), (68, S68), (100, S100), (125, S125), (15, S15)]
attribute [go_sem] K14
end
end Go.Eng
