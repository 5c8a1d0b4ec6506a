import Derived.Test.YtofamdkaipongaaGreatK5
/- Texts KW3 to KW3. -/
set_option linter.all false
namespace Go.Eng
open Go Go.Proofs
def pItem (g : Int → Int → Bool) : PSpec := ⟨fun xs => ∃ a b, xs = [.agg [vInt a, vInt b]], fun xs => match xs with | [.agg [.int _ a, .int _ b]] => .bool (g a b) | _ => .bool false, true⟩
theorem pItem_flat {g : Int → Int → Bool} : (pItem g).flat = true → ∀ xs, (pItem g).pre xs → ((pItem g).fn xs).flat = true := by
 rintro _ xs ⟨a, b, rfl⟩; rfl
def pItems (g : Int → Int → Int → Int → V) : PSpec := ⟨fun xs => ∃ a b c d, xs = [.agg [vInt a, vInt b], .agg [vInt c, vInt d]], fun xs => match xs with | [.agg [.int _ a, .int _ b], .agg [.int _ c, .int _ d]] => g a b c d | _ => .bool false, true⟩
theorem pItems_flat {g : Int → Int → Int → Int → V} (hg : ∀ a b c d, (g a b c d).flat = true) : (pItems g).flat = true → ∀ xs, (pItems g).pre xs → ((pItems g).fn xs).flat = true := by
 rintro _ xs ⟨a, b, c, d, rfl⟩; exact hg a b c d
def pRange : PSpec := ⟨fun xs => ∃ a b c d, xs = [.agg [vInt a, vInt b], vInt c, vInt d], fun xs => match xs with | [.agg [.int _ a, .int _ b], .int _ lo, .int _ hi] => .bool (decide (lo ≤ a) && decide (a ≤ b) && decide (b ≤ hi)) | _ => .bool false, true⟩
theorem pRange_flat : pRange.flat = true → ∀ xs, pRange.pre xs → (pRange.fn xs).flat = true := by
 rintro _ xs ⟨a, b, c, d, rfl⟩; rfl
def pII (g : Int → Int → V) : PSpec := ⟨fun xs => ∃ a b, xs = [vInt a, vInt b], fun xs => match xs with | [.int _ a, .int _ b] => g a b | _ => .bool false, true⟩
theorem pII_flat {g : Int → Int → V} (hg : ∀ a b, (g a b).flat = true) : (pII g).flat = true → ∀ xs, (pII g).pre xs → ((pII g).fn xs).flat = true := by
 rintro _ xs ⟨a, b, rfl⟩; exact hg a b
attribute [go_sem] pItem pItems pRange pII
def K2b : FuncId → Option Spec := fun f => match f with
 | 97 => some (pD fun d => .bool (isDeedB d)).toSpec
 | f => K2 f
theorem K2b_sound : ∀ f s, K2b f = some s → SSound Tryz.prog f s := by
 intro f s h
 unfold K2b at h
 split at h
 ·cases h; exact s97.sound
 ·exact K2_sound _ _ h
@[go_sem] theorem K2b_97 : K2b 97 = some (pD fun d => .bool (isDeedB d)).toSpec := rfl
theorem s98 : PSound Tryz.prog 98 (pItem fun a b => inI a 0 5 && inI b 0 9999) := by
 refine psoundB (rs := [.tmp 2]) Tryz.func98 Tryz.ntmps98 (by rfl) (by kernel_rfl) (by decide) pItem_flat ⟨_, rfl, ?_⟩
 rintro xs ⟨a, b, rfl⟩ _
 refine ⟨lb rfl, ?_⟩
 have hΓ := K2_sound
 have hP := mixedK
 repeat refine sq ?_
 refine rs hΓ [1] [[1, 0]] ?_
 repeat refine sq ?_
 refine rs hΓ [2] [] ?_
 refine cl_ret ?_
 simp only [go_sem]
 all_goals first | rfl | (simp; done) | (grind; done)
theorem s99 : PSound Tryz.prog 99 pRange := by
 refine psoundB (rs := [.tmp 6]) Tryz.func99 Tryz.ntmps99 (by rfl) (by kernel_rfl) (by decide) pRange_flat ⟨_, rfl, ?_⟩
 rintro xs ⟨a, b, c, d, rfl⟩ _
 refine ⟨lb rfl, ?_⟩
 have hΓ := K2_sound
 have hP := mixedK
 repeat refine sq ?_
 refine rs hΓ [1,2,3] [[3, 0]] ?_
 repeat refine sq ?_
 refine rs hΓ [6] [] ?_
 refine cl_ret ?_
 simp only [go_sem]
 all_goals first | rfl | (simp; done) | (grind; done)
def beforeB (a b c d : Int) : Bool := decide (a < c) || (a == c && decide (b < d))
theorem s68 : PSound Tryz.prog 68 (pItems fun a b c d => .bool (beforeB a b c d)) := by
 refine psoundB (rs := [.tmp 4]) Tryz.func68 Tryz.ntmps68 (by rfl) (by kernel_rfl) (by decide) (pItems_flat fun _ _ _ _ => rfl) ⟨_, rfl, ?_⟩
 rintro xs ⟨a, b, c, d, rfl⟩ _
 refine ⟨lb rfl, ?_⟩
 have hΓ := K2_sound
 have hP := mixedK
 repeat refine sq ?_
 refine rs hΓ [2,3] [[2, 0],[3, 0]] ?_
 repeat refine sq ?_
 refine rs hΓ [4] [] ?_
 refine cl_ret ?_
 simp only [go_sem]
 all_goals first | rfl | (simp; done) | (grind [beforeB]; done)
def lastsB (k u : Int) : Bool := inI k 0 100000 && (u == 0 || (decide (k < u) && inI u 0 100000))
theorem s100 : PSound Tryz.prog 100 (pII fun k u => .bool (lastsB k u)) := by
 refine psoundB (rs := [.tmp 4]) Tryz.func100 Tryz.ntmps100 (by rfl) (by kernel_rfl) (by decide) (pII_flat fun _ _ => rfl) ⟨_, rfl, ?_⟩
 rintro xs ⟨a, b, rfl⟩ _
 refine ⟨lb rfl, ?_⟩
 have hΓ := K2_sound
 have hP := mixedK
 repeat refine sq ?_
 refine rs hΓ [0,1] [] ?_
 repeat refine sq ?_
 refine rs hΓ [4] [] ?_
 refine cl_ret ?_
 simp only [go_sem]
 all_goals first | rfl | (simp; done) | (grind [lastsB]; done)
def cmpI (a b : Int) : Int := if a < b then -1 else if b < a then 1 else 0
theorem s95 : PSound Tryz.prog 95 (pII fun a b => vInt (cmpI a b)) := by
 refine psoundB (rs := [.tmp 4]) Tryz.func95 Tryz.ntmps95 (by rfl) (by kernel_rfl) (by decide) (pII_flat fun _ _ => rfl) ⟨_, rfl, ?_⟩
 rintro xs ⟨a, b, rfl⟩ _
 refine ⟨lb rfl, ?_⟩
 have hΓ := K1_sound
 have hP := mixedK
 repeat refine sq ?_
 refine rs hΓ [0,1] [] ?_
 repeat refine sq ?_
 refine rs hΓ [0,1,5] [] ?_
 repeat refine sq ?_
 refine rs hΓ [0,1,5,6] [] ?_
 repeat refine sq ?_
 refine rs hΓ [0,1,6,11] [] ?_
 repeat refine sq ?_
 refine cl_cond rfl rfl (fun hb => ?_) fun hb => ?_
 ·repeat refine sq ?_
  refine rs hΓ [12] [] ?_
  repeat refine sq ?_
  refine cl_cond rfl rfl (fun hb => ?_) fun hb => ?_
  ·repeat refine sq ?_
   refine rs hΓ [4] [] ?_
   refine cl_ret ?_
   simp only [go_sem]
   all_goals first | rfl | (simp; done) | (grind [cmpI]; done)
  ·repeat refine sq ?_
   refine cl_skip ?_
   repeat refine sq ?_
   refine rs hΓ [4] [] ?_
   refine cl_ret ?_
   simp only [go_sem]
   all_goals first | rfl | (simp; done) | (grind [cmpI]; done)
 ·repeat refine sq ?_
  refine cl_skip ?_
  repeat refine sq ?_
  refine rs hΓ [0,1,13] [] ?_
  repeat refine sq ?_
  refine cl_cond rfl rfl (fun hb => ?_) fun hb => ?_
  ·repeat refine sq ?_
   refine rs hΓ [4] [] ?_
   refine cl_ret ?_
   simp only [go_sem]
   all_goals first | rfl | (simp; done) | (grind [cmpI]; done)
  ·repeat refine sq ?_
   refine cl_skip ?_
   repeat refine sq ?_
   refine rs hΓ [0,1,16] [] ?_
   repeat refine sq ?_
   refine cl_cond rfl rfl (fun hb => ?_) fun hb => ?_
   ·repeat refine sq ?_
    refine rs hΓ [4] [] ?_
    refine cl_ret ?_
    simp only [go_sem]
    all_goals first | rfl | (simp; done) | (grind [cmpI]; done)
   ·repeat refine sq ?_
    refine cl_skip ?_
    repeat refine sq ?_
    refine rs hΓ [19] [] ?_
    repeat refine sq ?_
    refine cl_cond rfl rfl (fun hb => ?_) fun hb => ?_
    ·repeat refine sq ?_
     refine rs hΓ [4] [] ?_
     refine cl_ret ?_
     simp only [go_sem]
     all_goals first | rfl | (simp; done) | (grind [cmpI]; done)
    ·repeat refine sq ?_
     refine cl_skip ?_
     repeat refine sq ?_
     refine rs hΓ [4] [] ?_
     refine cl_ret ?_
     simp only [go_sem]
     all_goals first | rfl | (simp; done) | (grind [cmpI]; done)
def K3 : FuncId → Option Spec := fun f => match f with
 | 98 => some (pItem fun a b => inI a 0 5 && inI b 0 9999).toSpec
 | 99 => some pRange.toSpec
 | 68 => some (pItems fun a b c d => .bool (beforeB a b c d)).toSpec
 | 100 => some (pII fun k u => .bool (lastsB k u)).toSpec
 | 95 => some (pII fun a b => vInt (cmpI a b)).toSpec
 | f => K2b f
theorem K3_sound : ∀ f s, K3 f = some s → SSound Tryz.prog f s := by
 intro f s h
 unfold K3 at h
 split at h
 ·cases h; exact s98.sound
 ·cases h; exact s99.sound
 ·cases h; exact s68.sound
 ·cases h; exact s100.sound
 ·cases h; exact s95.sound
 ·exact K2b_sound _ _ h
@[go_sem] theorem K3_98 : K3 98 = some (pItem fun a b => inI a 0 5 && inI b 0 9999).toSpec := rfl
@[go_sem] theorem K3_99 : K3 99 = some pRange.toSpec := rfl
@[go_sem] theorem K3_68 : K3 68 = some (pItems fun a b c d => .bool (beforeB a b c d)).toSpec := rfl
@[go_sem] theorem K3_100 : K3 100 = some (pII fun k u => .bool (lastsB k u)).toSpec := rfl
@[go_sem] theorem K3_95 : K3 95 = some (pII fun a b => vInt (cmpI a b)).toSpec := rfl
@[go_sem] theorem K3_97 : K3 97 = some (pD fun d => .bool (isDeedB d)).toSpec := rfl
@[go_sem] theorem K3_79 : K3 79 = some pIn.toSpec := rfl
def rDeedB (d : Deed) : Bool :=
 (if d.ki = 1 ∨ d.ki = 2 then d.lo == 0 && inI d.pe 1 99 else if d.ki = 3 ∨ d.ki = 4 then inI d.lo 1 3 && inI d.pe 1 99 else if d.ki = 5 ∨ d.ki = 6 then inI d.lo 1 3 && d.pe == 0 else false) &&
  (inI d.pa 0 5 && inI d.no 0 9999) && (decide (0 ≤ d.dl) && decide (d.dl ≤ d.dh) && decide (d.dh ≤ 100000)) && lastsB d.kn d.un
theorem cl_blockJ {P : Program} {id : Nat} {c c2 : Code} {r : List Code} {σ : S} {K : Exit → S → Prop} {ι : Type} (Q : ι → Prop) (τ : ι → S) (h1 : ∀ i, Q i → CL P (c2 :: r) (τ i) K)
  (h2 : CL P [c] σ (blockK id (thenK (fun σ' => ∃ i, Q i ∧ WeakM σ' (τ i)) K))) : CL P (.block id c :: c2 :: r) σ K := by
 refine cw_block (CW.mono (cl_of h2) fun e σ' hk => ?_)
 have key : ∀ e σ', thenK (fun σ' => ∃ i, Q i ∧ WeakM σ' (τ i)) K e σ' → thenK (fun σ' => CL P (c2 :: r) σ' K) K e σ' := fun e σ' h => by
  cases e with
  | normal =>
   obtain ⟨i, hq, hw⟩ := h
   exact cl_weakM hw (h1 i hq)
  | _ => exact h
 cases e with
 | exit id' =>
  unfold blockK at hk ⊢
  simp only at hk ⊢
  split
  ·rename_i h; rw [if_pos h] at hk; exact key _ _ hk
  ·rename_i h; rw [if_neg h] at hk; exact key _ _ hk
 | normal => exact key .normal σ' hk
 | _ => exact hk
set_option maxHeartbeats 4000000 in
theorem s38 : PSound Tryz.prog 38 (pD fun d => vInt (if rDeedB d then 0 else 10)) := by
 refine psoundB (rs := [.tmp 2]) Tryz.func38 Tryz.ntmps38 (by rfl) (by kernel_rfl) (by decide) (pD_flat fun _ => rfl) ⟨_, rfl, ?_⟩
 rintro xs ⟨⟨pa, no, ki, lo, pe, dl, dh, kn, un⟩, rfl⟩ _
 refine ⟨lb rfl, ?_⟩
 have hΓ := K3_sound
 have hP := mixedK
 repeat refine sq ?_
 refine rs hΓ [1] [[1, 0]] ?_
 repeat refine sq ?_
 refine rs hΓ [1,3] [[1, 0]] ?_
 repeat refine sq ?_
 refine rs hΓ [1,3,4] [[1, 0]] ?_
 repeat refine sq ?_
 refine rs hΓ [1,3,4,12] [[1, 0]] ?_
 have e0 : ∀ n : Int, ki ≠ n → (ki == n) = false := fun n h => by simpa using h
 repeat refine sq ?_
 refine cl_blockJ (fun b : Bool × Bool => (if ki = 1 ∨ ki = 2 then lo == 0 && inI pe 1 99 else if ki = 3 ∨ ki = 4 then inI lo 1 3 && inI pe 1 99 else if ki = 5 ∨ ki = 6 then inI lo 1 3 && pe == 0 else false) = (b.1 && b.2)) (fun b => mkS 54 [0] (fun _ => none) [(1, ⟨true, .ref [1, 0] 0⟩), (3, ⟨true, .v (.bool b.1)⟩), (4, ⟨true, .v (.bool b.2)⟩)] [([1, 0], .box [.v (vInt pa), .v (vInt no), .v (vInt ki), .v (vInt lo), .v (vInt pe), .v (vInt dl), .v (vInt dh), .v (vInt kn), .v (vInt un)])]) ?_ ?_
 ·rintro ⟨b1, b2⟩ hq
  repeat refine sq ?_
  refine rs hΓ [53] [] ?_
  repeat refine sq ?_
  refine cl_cond rfl rfl (fun hb => ?_) fun hb => ?_
  ·repeat refine sq ?_
   refine rs hΓ [2] [] ?_
   refine cl_ret ?_
   simp only [go_sem]
   grind [rDeedB]
  ·repeat refine sq ?_
   refine cl_skip ?_
   repeat refine sq ?_
   refine rs hΓ [2] [] ?_
   refine cl_ret ?_
   simp only [go_sem]
   grind [rDeedB]
 by_cases k1 : ki = 1
 ·have e1 : (ki == 1) = true := by simpa using k1
  have e2 := e0 2 (by omega)
  have e3 := e0 3 (by omega)
  have e4 := e0 4 (by omega)
  have e5 := e0 5 (by omega)
  have e6 := e0 6 (by omega)
  repeat refine sq ?_
  refine rx hΓ [1,3,4,12,13] [[1, 0]] (fun K' hK => by simp only [go_sem, e1, e2, e3, e4, e5, e6]; exact fin) ?_
  repeat refine sq ?_
  refine cl_cond rfl rfl (fun _ => ?_) (fun hb => by cases hb)
  repeat refine sq ?_
  refine cl_skip ?_
  repeat refine sq ?_
  refine cl_cond rfl rfl (fun _ => ?_) (fun hb => by cases hb)
  repeat refine sq ?_
  refine cl_r hΓ fun K' hK => ?_
  simp only [go_sem, e1, e2, e3, e4, e5, e6]
  repeat refine ⟨ob, ?_⟩
  refine hK _ ?_
  clear K' hK
  simp only [go_sem]
  refine ⟨(lo == 0, inI pe 1 99), ?_, weakM_keep [1,3,4] [[1, 0]] ?_ ?_⟩
  rotate_left
  ·simp only [go_sem]
  ·simp only [go_sem, e1, e2, e3, e4, e5, e6]
  grind
 have e1 := e0 1 k1
 by_cases k2 : ki = 2
 ·have e2 : (ki == 2) = true := by simpa using k2
  have e3 := e0 3 (by omega)
  have e4 := e0 4 (by omega)
  have e5 := e0 5 (by omega)
  have e6 := e0 6 (by omega)
  repeat refine sq ?_
  refine rx hΓ [1,3,4,12,13] [[1, 0]] (fun K' hK => by simp only [go_sem, e1, e2, e3, e4, e5, e6]; exact fin) ?_
  repeat refine sq ?_
  refine cl_cond rfl rfl (fun hb => by cases hb) (fun _ => ?_)
  repeat refine sq ?_
  refine rx hΓ [1,3,4,12,13] [[1, 0]] (fun K' hK => by simp only [go_sem, e1, e2, e3, e4, e5, e6]; exact fin) ?_
  repeat refine sq ?_
  refine cl_cond rfl rfl (fun _ => ?_) (fun hb => by cases hb)
  repeat refine sq ?_
  refine cl_r hΓ fun K' hK => ?_
  simp only [go_sem, e1, e2, e3, e4, e5, e6]
  repeat refine ⟨ob, ?_⟩
  refine hK _ ?_
  clear K' hK
  simp only [go_sem]
  refine ⟨(lo == 0, inI pe 1 99), ?_, weakM_keep [1,3,4] [[1, 0]] ?_ ?_⟩
  rotate_left
  ·simp only [go_sem]
  ·simp only [go_sem, e1, e2, e3, e4, e5, e6]
  grind
 have e2 := e0 2 k2
 by_cases k3 : ki = 3
 ·have e3 : (ki == 3) = true := by simpa using k3
  have e4 := e0 4 (by omega)
  have e5 := e0 5 (by omega)
  have e6 := e0 6 (by omega)
  repeat refine sq ?_
  refine rx hΓ [1,3,4,12,13] [[1, 0]] (fun K' hK => by simp only [go_sem, e1, e2, e3, e4, e5, e6]; exact fin) ?_
  repeat refine sq ?_
  refine cl_cond rfl rfl (fun hb => by cases hb) (fun _ => ?_)
  repeat refine sq ?_
  refine rx hΓ [1,3,4,12,13] [[1, 0]] (fun K' hK => by simp only [go_sem, e1, e2, e3, e4, e5, e6]; exact fin) ?_
  repeat refine sq ?_
  refine cl_cond rfl rfl (fun hb => by cases hb) (fun _ => ?_)
  repeat refine sq ?_
  refine rx hΓ [1,3,4,12,19] [[1, 0]] (fun K' hK => by simp only [go_sem, e1, e2, e3, e4, e5, e6]; exact fin) ?_
  repeat refine sq ?_
  refine cl_cond rfl rfl (fun _ => ?_) (fun hb => by cases hb)
  repeat refine sq ?_
  refine cl_skip ?_
  repeat refine sq ?_
  refine cl_cond rfl rfl (fun _ => ?_) (fun hb => by cases hb)
  repeat refine sq ?_
  refine cl_skip ?_
  refine cl_nil ?_
  refine ⟨(inI lo 1 3, inI pe 1 99), ?_, weakM_keep [1,3,4] [[1, 0]] ?_ ?_⟩
  rotate_left
  ·simp only [go_sem]
  ·simp only [go_sem, e1, e2, e3, e4, e5, e6]
  grind
 have e3 := e0 3 k3
 by_cases k4 : ki = 4
 ·have e4 : (ki == 4) = true := by simpa using k4
  have e5 := e0 5 (by omega)
  have e6 := e0 6 (by omega)
  repeat refine sq ?_
  refine rx hΓ [1,3,4,12,13] [[1, 0]] (fun K' hK => by simp only [go_sem, e1, e2, e3, e4, e5, e6]; exact fin) ?_
  repeat refine sq ?_
  refine cl_cond rfl rfl (fun hb => by cases hb) (fun _ => ?_)
  repeat refine sq ?_
  refine rx hΓ [1,3,4,12,13] [[1, 0]] (fun K' hK => by simp only [go_sem, e1, e2, e3, e4, e5, e6]; exact fin) ?_
  repeat refine sq ?_
  refine cl_cond rfl rfl (fun hb => by cases hb) (fun _ => ?_)
  repeat refine sq ?_
  refine rx hΓ [1,3,4,12,19] [[1, 0]] (fun K' hK => by simp only [go_sem, e1, e2, e3, e4, e5, e6]; exact fin) ?_
  repeat refine sq ?_
  refine cl_cond rfl rfl (fun hb => by cases hb) (fun _ => ?_)
  repeat refine sq ?_
  refine rx hΓ [1,3,4,12,19] [[1, 0]] (fun K' hK => by simp only [go_sem, e1, e2, e3, e4, e5, e6]; exact fin) ?_
  repeat refine sq ?_
  refine cl_cond rfl rfl (fun _ => ?_) (fun hb => by cases hb)
  repeat refine sq ?_
  refine cl_skip ?_
  refine cl_nil ?_
  refine ⟨(inI lo 1 3, inI pe 1 99), ?_, weakM_keep [1,3,4] [[1, 0]] ?_ ?_⟩
  rotate_left
  ·simp only [go_sem]
  ·simp only [go_sem, e1, e2, e3, e4, e5, e6]
  grind
 have e4 := e0 4 k4
 by_cases k5 : ki = 5
 ·have e5 : (ki == 5) = true := by simpa using k5
  have e6 := e0 6 (by omega)
  repeat refine sq ?_
  refine rx hΓ [1,3,4,12,13] [[1, 0]] (fun K' hK => by simp only [go_sem, e1, e2, e3, e4, e5, e6]; exact fin) ?_
  repeat refine sq ?_
  refine cl_cond rfl rfl (fun hb => by cases hb) (fun _ => ?_)
  repeat refine sq ?_
  refine rx hΓ [1,3,4,12,13] [[1, 0]] (fun K' hK => by simp only [go_sem, e1, e2, e3, e4, e5, e6]; exact fin) ?_
  repeat refine sq ?_
  refine cl_cond rfl rfl (fun hb => by cases hb) (fun _ => ?_)
  repeat refine sq ?_
  refine rx hΓ [1,3,4,12,19] [[1, 0]] (fun K' hK => by simp only [go_sem, e1, e2, e3, e4, e5, e6]; exact fin) ?_
  repeat refine sq ?_
  refine cl_cond rfl rfl (fun hb => by cases hb) (fun _ => ?_)
  repeat refine sq ?_
  refine rx hΓ [1,3,4,12,19] [[1, 0]] (fun K' hK => by simp only [go_sem, e1, e2, e3, e4, e5, e6]; exact fin) ?_
  repeat refine sq ?_
  refine cl_cond rfl rfl (fun hb => by cases hb) (fun _ => ?_)
  repeat refine sq ?_
  refine rx hΓ [1,3,4,12,22] [[1, 0]] (fun K' hK => by simp only [go_sem, e1, e2, e3, e4, e5, e6]; exact fin) ?_
  repeat refine sq ?_
  refine cl_cond rfl rfl (fun _ => ?_) (fun hb => by cases hb)
  repeat refine sq ?_
  refine cl_skip ?_
  repeat refine sq ?_
  refine cl_cond rfl rfl (fun _ => ?_) (fun hb => by cases hb)
  repeat refine sq ?_
  refine cl_r hΓ fun K' hK => ?_
  simp only [go_sem, e1, e2, e3, e4, e5, e6]
  repeat refine ⟨ob, ?_⟩
  refine hK _ ?_
  clear K' hK
  simp only [go_sem]
  refine ⟨(inI lo 1 3, pe == 0), ?_, weakM_keep [1,3,4] [[1, 0]] ?_ ?_⟩
  rotate_left
  ·simp only [go_sem]
  ·simp only [go_sem, e1, e2, e3, e4, e5, e6]
  grind
 have e5 := e0 5 k5
 by_cases k6 : ki = 6
 ·have e6 : (ki == 6) = true := by simpa using k6
  repeat refine sq ?_
  refine rx hΓ [1,3,4,12,13] [[1, 0]] (fun K' hK => by simp only [go_sem, e1, e2, e3, e4, e5, e6]; exact fin) ?_
  repeat refine sq ?_
  refine cl_cond rfl rfl (fun hb => by cases hb) (fun _ => ?_)
  repeat refine sq ?_
  refine rx hΓ [1,3,4,12,13] [[1, 0]] (fun K' hK => by simp only [go_sem, e1, e2, e3, e4, e5, e6]; exact fin) ?_
  repeat refine sq ?_
  refine cl_cond rfl rfl (fun hb => by cases hb) (fun _ => ?_)
  repeat refine sq ?_
  refine rx hΓ [1,3,4,12,19] [[1, 0]] (fun K' hK => by simp only [go_sem, e1, e2, e3, e4, e5, e6]; exact fin) ?_
  repeat refine sq ?_
  refine cl_cond rfl rfl (fun hb => by cases hb) (fun _ => ?_)
  repeat refine sq ?_
  refine rx hΓ [1,3,4,12,19] [[1, 0]] (fun K' hK => by simp only [go_sem, e1, e2, e3, e4, e5, e6]; exact fin) ?_
  repeat refine sq ?_
  refine cl_cond rfl rfl (fun hb => by cases hb) (fun _ => ?_)
  repeat refine sq ?_
  refine rx hΓ [1,3,4,12,22] [[1, 0]] (fun K' hK => by simp only [go_sem, e1, e2, e3, e4, e5, e6]; exact fin) ?_
  repeat refine sq ?_
  refine cl_cond rfl rfl (fun hb => by cases hb) (fun _ => ?_)
  repeat refine sq ?_
  refine rx hΓ [1,3,4,12,22] [[1, 0]] (fun K' hK => by simp only [go_sem, e1, e2, e3, e4, e5, e6]; exact fin) ?_
  repeat refine sq ?_
  refine cl_cond rfl rfl (fun _ => ?_) (fun hb => by cases hb)
  repeat refine sq ?_
  refine cl_r hΓ fun K' hK => ?_
  simp only [go_sem, e1, e2, e3, e4, e5, e6]
  repeat refine ⟨ob, ?_⟩
  refine hK _ ?_
  clear K' hK
  simp only [go_sem]
  refine ⟨(inI lo 1 3, pe == 0), ?_, weakM_keep [1,3,4] [[1, 0]] ?_ ?_⟩
  rotate_left
  ·simp only [go_sem]
  ·simp only [go_sem, e1, e2, e3, e4, e5, e6]
  grind
 have e6 := e0 6 k6
 repeat refine sq ?_
 refine rx hΓ [1,3,4,12,13] [[1, 0]] (fun K' hK => by simp only [go_sem, e1, e2, e3, e4, e5, e6]; exact fin) ?_
 repeat refine sq ?_
 refine cl_cond rfl rfl (fun hb => by cases hb) (fun _ => ?_)
 repeat refine sq ?_
 refine rx hΓ [1,3,4,12,13] [[1, 0]] (fun K' hK => by simp only [go_sem, e1, e2, e3, e4, e5, e6]; exact fin) ?_
 repeat refine sq ?_
 refine cl_cond rfl rfl (fun hb => by cases hb) (fun _ => ?_)
 repeat refine sq ?_
 refine rx hΓ [1,3,4,12,19] [[1, 0]] (fun K' hK => by simp only [go_sem, e1, e2, e3, e4, e5, e6]; exact fin) ?_
 repeat refine sq ?_
 refine cl_cond rfl rfl (fun hb => by cases hb) (fun _ => ?_)
 repeat refine sq ?_
 refine rx hΓ [1,3,4,12,19] [[1, 0]] (fun K' hK => by simp only [go_sem, e1, e2, e3, e4, e5, e6]; exact fin) ?_
 repeat refine sq ?_
 refine cl_cond rfl rfl (fun hb => by cases hb) (fun _ => ?_)
 repeat refine sq ?_
 refine rx hΓ [1,3,4,12,22] [[1, 0]] (fun K' hK => by simp only [go_sem, e1, e2, e3, e4, e5, e6]; exact fin) ?_
 repeat refine sq ?_
 refine cl_cond rfl rfl (fun hb => by cases hb) (fun _ => ?_)
 repeat refine sq ?_
 refine rx hΓ [1,3,4,12,22] [[1, 0]] (fun K' hK => by simp only [go_sem, e1, e2, e3, e4, e5, e6]; exact fin) ?_
 repeat refine sq ?_
 refine cl_cond rfl rfl (fun hb => by cases hb) (fun _ => ?_)
 repeat refine sq ?_
 refine rs hΓ [2] [] ?_
 refine cl_ret ?_
 simp only [go_sem]
 grind [rDeedB]
end Go.Eng
