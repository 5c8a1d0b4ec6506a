import Derived.Test.YtofamdkaipongaaGreatK6
import Derived.Laws.Bits64
import Derived.Shelf.Spec.SlicesInsertGrow
import Derived.Test.YtofamdkaipongaaGreatProg
/- Texts KW4 to EngB. -/
set_option linter.all false
namespace Go.Eng
open Go Go.Proofs
def orI (l : List Int) : Int := (l.find? (fun x => x != 0)).getD 0
def pOr : PSpec := ⟨fun xs => ∃ l : List Int, xs = [.sl (l.map vInt)], fun xs => match xs with | [.sl l] => vInt (orI (l.map fun v => match v with | .int _ n => n | _ => 0)) | _ => .bool false, true⟩
theorem pOr_flat : pOr.flat = true → ∀ xs, pOr.pre xs → (pOr.fn xs).flat = true := by
 rintro _ xs ⟨l, rfl⟩; rfl
theorem pOr_fn (l : List Int) : pOr.fn [.sl (l.map vInt)] = vInt (orI l) := by
 simp only [pOr, List.map_map]
 congr 2
 conv => rhs; rw [← List.map_id l]
 rfl
theorem orI_at {l : List Int} {i : Nat} (h : ∀ j (h : j < l.length), j < i → l[j] = 0) (hi : i < l.length) (hne : l[i] ≠ 0) : orI l = l[i] := by
 unfold orI
 induction l generalizing i with
 | nil => simp at hi
 | cons a r ih =>
  cases i with
  | zero => simp only [List.getElem_cons_zero] at hne ⊢; simp [hne]
  | succ i =>
   have h0 : a = 0 := h 0 (by simp) (by omega)
   simp only [List.getElem_cons_succ] at hne ⊢
   simp only [h0, List.find?_cons]
   exact ih (fun j hj hji => by have := h (j + 1) (by simpa using hj) (by omega); simpa using this) (by simpa using hi) hne
theorem orI_none {l : List Int} (h : ∀ j (h : j < l.length), l[j] = 0) : orI l = 0 := by
 unfold orI
 have : l.find? (fun x => x != 0) = none := by
  rw [List.find?_eq_none]
  intro x hx
  obtain ⟨j, hj, rfl⟩ := List.getElem_of_mem hx
  simp [h j hj]
 rw [this]; rfl
set_option maxHeartbeats 1000000 in
theorem s152 : PSound Tryz.prog 152 pOr := by
 refine psoundB (rs := [.tmp 2]) Tryz.func152 Tryz.ntmps152 (by rfl) (by kernel_rfl) (by decide) pOr_flat ⟨_, rfl, ?_⟩
 rintro xs ⟨l, rfl⟩ hw
 have hl : l.length ≤ maxLen := by have := hw.1.1; simpa using this
 refine ⟨lb rfl, ?_⟩
 rw [pOr_fn]
 have hΓ := K1_sound
 repeat refine sq ?_
 refine rs hΓ [0] [] ?_
 repeat refine sq ?_
 refine rs hΓ [0,3] [] ?_
 repeat refine sq ?_
 refine rs hΓ [3,6,7,8] [] ?_
 repeat refine sq ?_
 refine cl_block ?_
 repeat refine sq ?_
 refine cl_loop' (fun i : Nat => [(8, ⟨true, .v (vInt i)⟩)]) (fun i => []) (fun i => i ≤ l.length ∧ ∀ j (h : j < l.length), j < i → l[j] = 0) (fun i => l.length - i) 0 ?_ ?_ ?_ ?_
 ·exact ⟨Nat.zero_le _, fun j h hj => by omega⟩
 ·rfl
 ·rfl
 rintro i ⟨hi, hz⟩
 simp only [go_sem]
 repeat refine sq ?_
 refine rs hΓ [3,6,7,8,9] [] ?_
 repeat refine sq ?_
 refine cl_cond rfl rfl (fun hb => ?_) fun hb => ?_
 ·have hlt : i < l.length := by simpa using hb
  have hlt' : (i : Int) < l.length := by omega
  repeat refine sq ?_
  refine cl_skip ?_
  repeat refine sq ?_
  refine cl_block ?_
  repeat refine sq ?_
  refine rx hΓ [3,5,6,7,8] [] (fun K' hK => by simp only [go_sem, map_getD hlt, Int.toNat_natCast, Int.natCast_nonneg, hlt']; exact fin) ?_
  repeat refine sq ?_
  refine rs hΓ [3,5,6,7,8,14] [] ?_
  repeat refine sq ?_
  refine cl_cond rfl rfl (fun he => ?_) (fun he => ?_)
  ·repeat refine sq ?_
   refine rs hΓ [2] [] ?_
   refine cl_ret ?_
   simp only [go_sem]
   rw [orI_at hz hlt (by simpa using he)]
  ·repeat refine sq ?_
   refine cl_skip ?_
   refine cl_nil ?_
   simp only [go_sem]
   refine cl_keep [3,6,7,8] [] ?_ ?_ <;> simp only [go_sem]
   repeat refine sq ?_
   refine cl_r hΓ fun K' hK => ?_
   simp only [go_sem]
   repeat refine ⟨ob, ?_⟩
   refine hK _ ?_
   clear K' hK
   simp only [go_sem]
   refine ⟨i + 1, ⟨by omega, fun j h hj => ?_⟩, by omega, ?_⟩
   ·rcases Nat.lt_succ_iff_lt_or_eq.1 hj with h' | h'
    ·exact hz j h h'
    ·subst h'; simpa using he
   ·refine weak_eq [3,6,7,8] [] ?_ ?_ <;> simp only [go_sem, wrap_succ hlt hl, Int.natCast_add, Int.natCast_one]
 ·repeat refine sq ?_
  have hge : i = l.length := by
   have : ¬ (i : Int) < l.length := by simpa using hb
   omega
  refine cl_exit ?_
  simp only [go_sem]
  refine cl_keep [3] [] ?_ ?_ <;> simp only [go_sem]
  repeat refine sq ?_
  refine rs hΓ [2] [] ?_
  refine cl_ret ?_
  simp only [go_sem]
  rw [orI_none fun j hj => hz j hj (by omega)]
def K4 : FuncId → Option Spec := fun f => match f with
 | 152 => some pOr.toSpec
 | f => K3 f
theorem K4_sound : ∀ f s, K4 f = some s → SSound Tryz.prog f s := by
 intro f s h
 unfold K4 at h
 split at h
 ·cases h; exact s152.sound
 ·exact K3_sound _ _ h
@[go_sem] theorem K4_152 : K4 152 = some pOr.toSpec := rfl
@[go_sem] theorem K4_95 : K4 95 = some (pII fun a b => vInt (cmpI a b)).toSpec := rfl
attribute [go_sem] pOr
def cmpIt (a b c d : Int) : Int := orI [cmpI a c, cmpI b d]
theorem s102 : PSound Tryz.prog 102 (pItems fun a b c d => vInt (cmpIt a b c d)) := by
 refine psoundB (rs := [.tmp 4]) Tryz.func102 Tryz.ntmps102 (by rfl) (by kernel_rfl) (by decide) (pItems_flat fun _ _ _ _ => rfl) ⟨_, rfl, ?_⟩
 rintro xs ⟨a, b, c, d, rfl⟩ _
 refine ⟨lb rfl, ?_⟩
 have hΓ := K4_sound
 have hP := mixedK
 repeat refine sq ?_
 refine rs hΓ [2,3] [[2, 0],[3, 0]] ?_
 repeat refine sq ?_
 refine cl_ds hΓ hP [[], [0], [], [2], [0, 1, 2, 3], [], [5], [], [7], [0, 1, 2, 3, 4, 5, 6, 7, 8], [0, 1, 2, 3, 4, 5, 6, 7, 8, 9], [0, 1, 2, 3, 4, 5, 6, 7, 8, 9, 10], [0, 1, 2, 3, 4, 5, 6, 7, 8, 9, 10, 11]] [4] [] (by kernel_rfl) fun K' hK => ?_
 simp only [go_sem]
 repeat refine ⟨ob, ?_⟩
 first | refine ⟨by rfl, ?_⟩ | skip
 refine hK _ ?_ ?_ <;> clear K' hK <;> simp only [go_sem]
 refine cl_ret ?_
 simp only [go_sem]
 all_goals first | rfl | (simp; done) | (simp_all; done)
def K5 : FuncId → Option Spec := fun f => match f with
 | 102 => some (pItems fun a b c d => vInt (cmpIt a b c d)).toSpec
 | f => K4 f
theorem K5_sound : ∀ f s, K5 f = some s → SSound Tryz.prog f s := by
 intro f s h
 unfold K5 at h
 split at h
 ·cases h; exact s102.sound
 ·exact K4_sound _ _ h
@[go_sem] theorem K5_102 : K5 102 = some (pItems fun a b c d => vInt (cmpIt a b c d)).toSpec := rfl
def pDD (g : Deed → Deed → V) : PSpec := ⟨fun xs => ∃ d e, xs = [encD d, encD e], fun xs => match xs with
 | [.agg [.int _ a, .int _ b, .int _ c, .int _ d, .int _ e, .int _ f, .int _ g', .int _ h, .int _ i], .agg [.int _ a', .int _ b', .int _ c', .int _ d', .int _ e', .int _ f', .int _ g'', .int _ h', .int _ i']] => g ⟨a, b, c, d, e, f, g', h, i⟩ ⟨a', b', c', d', e', f', g'', h', i'⟩ | _ => .bool false, true⟩
theorem pDD_flat {g : Deed → Deed → V} (hg : ∀ d e, (g d e).flat = true) : (pDD g).flat = true → ∀ xs, (pDD g).pre xs → ((pDD g).fn xs).flat = true := by
 rintro _ xs ⟨d, e, rfl⟩; exact hg d e
attribute [go_sem] pDD
def cmpD (a b : Deed) : Int := cmpIt a.pa a.no b.pa b.no
theorem s101 : PSound Tryz.prog 101 (pDD fun d e => vInt (cmpD d e)) := by
 refine psoundB (rs := [.tmp 4]) Tryz.func101 Tryz.ntmps101 (by rfl) (by kernel_rfl) (by decide) (pDD_flat fun _ _ => rfl) ⟨_, rfl, ?_⟩
 rintro xs ⟨⟨pa, no, ki, lo, pe, dl, dh, kn, un⟩, ⟨pa', no', ki', lo', pe', dl', dh', kn', un'⟩, rfl⟩ _
 refine ⟨lb rfl, ?_⟩
 have hΓ := K5_sound
 have hP := mixedK
 repeat refine sq ?_
 refine rs hΓ [2,3] [[2, 0],[3, 0]] ?_
 repeat refine sq ?_
 refine rs hΓ [4] [] ?_
 refine cl_ret ?_
 simp only [go_sem]
 all_goals first | rfl | (simp; done) | (simp_all; done)
def decD (v : V) : Deed := match v with
 | .agg [.int _ a, .int _ b, .int _ c, .int _ d, .int _ e, .int _ f, .int _ g, .int _ h, .int _ i] => ⟨a, b, c, d, e, f, g, h, i⟩
 | _ => ⟨0, 0, 0, 0, 0, 0, 0, 0, 0⟩
theorem decD_enc (d : Deed) : decD (encD d) = d := rfl
theorem decD_map (l : List Deed) : (l.map encD).map decD = l := by
 rw [List.map_map]
 conv => rhs; rw [← List.map_id l]
 rfl
def pLD (g : List Deed → V) (fl : Bool) : PSpec := ⟨fun xs => ∃ l : List Deed, xs = [.sl (l.map encD)], fun xs => match xs with | [.sl l] => g (l.map decD) | _ => .bool false, fl⟩
theorem pLD_fn (g : List Deed → V) (fl : Bool) (l : List Deed) : (pLD g fl).fn [.sl (l.map encD)] = g l := by
 simp only [pLD, decD_map]
theorem pLD_flat {g : List Deed → V} {fl : Bool} (hg : ∀ l, (g l).flat = true) : (pLD g fl).flat = true → ∀ xs, (pLD g fl).pre xs → ((pLD g fl).fn xs).flat = true := by
 rintro _ xs ⟨l, rfl⟩; rw [pLD_fn]; exact hg l
def K6 : FuncId → Option Spec := fun f => match f with
 | 101 => some (pDD fun d e => vInt (cmpD d e)).toSpec
 | 38 => some (pD fun d => vInt (if rDeedB d then 0 else 10)).toSpec
 | f => K5 f
theorem K6_sound : ∀ f s, K6 f = some s → SSound Tryz.prog f s := by
 intro f s h
 unfold K6 at h
 split at h
 ·cases h; exact s101.sound
 ·cases h; exact s38.sound
 ·exact K5_sound _ _ h
@[go_sem] theorem K6_101 : K6 101 = some (pDD fun d e => vInt (cmpD d e)).toSpec := rfl
@[go_sem] theorem K6_38 : K6 38 = some (pD fun d => vInt (if rDeedB d then 0 else 10)).toSpec := rfl
@[go_sem] theorem K6_97 : K6 97 = some (pD fun d => .bool (isDeedB d)).toSpec := rfl
@[go_sem] theorem K6_68 : K6 68 = some (pItems fun a b c d => .bool (beforeB a b c d)).toSpec := rfl
def okD (l : List Deed) (i : Nat) : Prop := ∀ j (h : j < l.length), j < i → isDeedB l[j] = true ∧ (0 < j → cmpD l[j - 1] l[j] < 0)
open Classical in
noncomputable def checkI (l : List Deed) : Int := if okD l l.length ∧ l.length ≤ 60 then 0 else 11
theorem checkI_bad {l : List Deed} {i : Nat} (h : i < l.length) (hb : isDeedB l[i] = true → 0 < i ∧ cmpD l[i - 1] l[i] ≥ 0) : checkI l = 11 := by
 unfold checkI
 rw [if_neg]
 rintro ⟨h1, _⟩
 obtain ⟨h2, h3⟩ := h1 i h h
 obtain ⟨h4, h5⟩ := hb h2
 have := h3 h4
 omega
theorem checkI_long {l : List Deed} (h : 60 < l.length) : checkI l = 11 := by
 unfold checkI
 rw [if_neg (fun h' => by omega)]
theorem checkI_good {l : List Deed} (h : okD l l.length) (h' : l.length ≤ 60) : checkI l = 0 := by
 unfold checkI
 rw [if_pos ⟨h, h'⟩]
theorem okD_next {l : List Deed} {i : Nat} (h : okD l i) (h' : ∀ h : i < l.length, isDeedB l[i] = true ∧ (0 < i → cmpD l[i - 1] l[i] < 0)) : okD l (i + 1) := by
 intro j hj hji
 rcases Nat.lt_succ_iff_lt_or_eq.1 hji with h1 | h1
 ·exact h j hj h1
 ·subst h1; exact h' hj
set_option maxHeartbeats 4000000 in
theorem s39 : PSound Tryz.prog 39 (pLD (fun l => vInt (checkI l)) true) := by
 refine psoundB (rs := [.tmp 2]) Tryz.func39 Tryz.ntmps39 (by rfl) (by kernel_rfl) (by decide) (pLD_flat fun _ => rfl) ⟨_, rfl, ?_⟩
 rintro xs ⟨l, rfl⟩ hw
 have hl : l.length ≤ maxLen := by have := hw.1.1; simpa using this
 refine ⟨lb rfl, ?_⟩
 rw [pLD_fn]
 have hΓ := K6_sound
 have hP := mixedK
 repeat refine sq ?_
 refine rs hΓ [0] [] ?_
 repeat refine sq ?_
 refine rs hΓ [0,5,6,7] [] ?_
 repeat refine sq ?_
 refine cl_block ?_
 repeat refine sq ?_
 refine cl_loop' (fun i : Nat => [(7, ⟨true, .v (vInt i)⟩)]) (fun i => []) (fun i => i ≤ l.length ∧ okD l i) (fun i => l.length - i) 0 ?_ ?_ ?_ ?_
 ·exact ⟨Nat.zero_le _, fun j h hj => by omega⟩
 ·rfl
 ·rfl
 rintro i ⟨hi, hz⟩
 simp only [go_sem]
 repeat refine sq ?_
 refine rs hΓ [0,5,6,7,8] [] ?_
 repeat refine sq ?_
 refine cl_cond rfl rfl (fun hb => ?_) fun hb => ?_
 ·have hlt : i < l.length := by simpa using hb
  have hlt' : (i : Int) < l.length := by omega
  repeat refine sq ?_
  refine cl_skip ?_
  repeat refine sq ?_
  refine cl_block ?_
  repeat refine sq ?_
  refine rx hΓ [0,3,4,5,6,7] [[4, 0]] (fun K' hK => by simp only [go_sem, map_getD hlt, Int.toNat_natCast, Int.natCast_nonneg, hlt']; exact fin) ?_
  obtain ⟨p, hp, hpl, hpos⟩ : ∃ p : Nat, (IntKind.i64.wrap ((i : Int) - 1)).toNat = p ∧ p < l.length ∧ (0 < i → p = i - 1 ∧ 0 ≤ IntKind.i64.wrap ((i : Int) - 1) ∧ IntKind.i64.wrap ((i : Int) - 1) < l.length) := by
   unfold maxLen at hl
   rcases Nat.eq_zero_or_pos i with rfl | hp
   ·exact ⟨0, by decide, hlt, fun h => by omega⟩
   ·have : IntKind.i64.wrap ((i : Int) - 1) = ((i - 1 : Nat) : Int) := by rw [wrap_i64 (by omega) (by omega)]; omega
    exact ⟨i - 1, by rw [this]; rfl, by omega, fun _ => ⟨rfl, by omega, by omega⟩⟩
  repeat refine sq ?_
  refine cl_ds hΓ hP [[], [0], [0, 1], [0, 1, 2], [0, 1, 2, 3], [0, 1, 2, 3, 4], [0, 1, 2, 3, 4, 5], [0, 1, 2, 3, 4, 5, 6], [0, 1, 2, 3, 4, 5, 6], [0, 1, 2, 3, 4, 5, 6, 8], [0, 1, 2, 3, 4, 5, 6, 7, 8, 9], [0, 1, 2, 3, 4, 5, 6, 7, 8, 9, 10], [0, 1, 2, 3, 4, 5, 6], [0, 1, 2, 3, 4, 5, 6, 7, 8, 9, 10, 11, 12], [0, 1, 2, 3, 4, 5, 6, 7, 8, 9, 10, 11, 12, 13], [0, 1, 2, 3, 4, 5, 6, 7, 8, 9, 10, 11, 12, 13, 14], [0, 1, 2, 3, 4, 5, 6, 7, 8, 9, 10, 11, 12, 13, 14, 15]] [0,5,6,7,28] [] (by kernel_rfl) fun K' hK => ?_
  simp only [go_sem, hp, map_getD hpl]
  repeat (refine ⟨by first | exact ob | (intro h; have := hpos (by simp_all); simp_all; done), ?_⟩)
  first | refine ⟨by rfl, ?_⟩ | skip
  refine hK _ ?_ ?_ <;> clear K' hK <;> simp only [go_sem, hp, map_getD hpl]
  have hcmp : 0 < i → l[p] = l[i - 1] := fun h => by obtain ⟨h1, _⟩ := hpos h; subst h1; rfl
  repeat refine sq ?_
  refine cl_cond rfl rfl (fun hb => ?_) fun hb => ?_
  ·repeat refine sq ?_
   refine rs hΓ [2] [] ?_
   refine cl_ret ?_
   simp only [go_sem]
   rw [checkI_bad hlt (by
    intro hd
    replace hb : (!isDeedB l[i] || (decide ((i : Int) > 0) && decide (cmpD l[p] l[i] ≥ 0))) = true := hb
    rw [hd] at hb
    simp only [Bool.not_true, Bool.false_or, Bool.and_eq_true, decide_eq_true_eq] at hb
    have h0 : 0 < i := by omega
    rw [hcmp h0] at hb
    exact ⟨h0, hb.2⟩)]
  ·replace hb : (!isDeedB l[i] || (decide ((i : Int) > 0) && decide (cmpD l[p] l[i] ≥ 0))) = false := hb
   have hnext : okD l (i + 1) := okD_next hz (by
    intro _
    cases hd : isDeedB l[i] with
    | false => rw [hd] at hb; simp at hb
    | true =>
     refine ⟨rfl, fun h0 => ?_⟩
     rw [hd, hcmp h0] at hb
     simp only [Bool.not_true, Bool.false_or, Bool.and_eq_false_iff, decide_eq_false_iff_not] at hb
     omega)
   clear hb
   repeat refine sq ?_
   refine cl_skip ?_
   refine cl_nil ?_
   simp only [go_sem]
   refine cl_keep [0,5,6,7] [] ?_ ?_ <;> simp only [go_sem]
   repeat refine sq ?_
   refine cl_r hΓ fun K' hK => ?_
   simp only [go_sem]
   repeat refine ⟨ob, ?_⟩
   refine hK _ ?_
   clear K' hK
   simp only [go_sem]
   refine ⟨i + 1, ⟨by omega, hnext⟩, by omega, ?_⟩
   refine weak_eq [0,5,6,7] [] ?_ ?_ <;> simp only [go_sem, wrap_succ hlt hl, Int.natCast_add, Int.natCast_one]
 ·have hge : i = l.length := by
   have : ¬ (i : Int) < l.length := by simpa using hb
   omega
  subst hge
  repeat refine sq ?_
  refine cl_exit ?_
  simp only [go_sem]
  refine cl_keep [0] [] ?_ ?_ <;> simp only [go_sem]
  repeat refine sq ?_
  refine rs hΓ [32] [] ?_
  repeat refine sq ?_
  refine cl_cond rfl rfl (fun hb => ?_) fun hb => ?_
  ·repeat refine sq ?_
   refine rs hΓ [2] [] ?_
   refine cl_ret ?_
   simp only [go_sem]
   rw [checkI_long (by simp at hb; omega)]
  ·repeat refine sq ?_
   refine cl_skip ?_
   repeat refine sq ?_
   refine rs hΓ [2] [] ?_
   refine cl_ret ?_
   simp only [go_sem]
   rw [checkI_good hz (by simp at hb; omega)]
def okR (l : List Deed) (i : Nat) : Prop := ∀ j (h : j < l.length), j < i → rDeedB l[j] = true ∧ (0 < j → beforeB l[j - 1].pa l[j - 1].no l[j].pa l[j].no = true)
open Classical in
noncomputable def rcheckI (l : List Deed) : Int := if okR l l.length ∧ l.length ≤ 60 then 0 else 11
theorem rcheckI_bad {l : List Deed} {i : Nat} (h : i < l.length) (hb : rDeedB l[i] = true → 0 < i ∧ beforeB l[i - 1].pa l[i - 1].no l[i].pa l[i].no = false) : rcheckI l = 11 := by
 unfold rcheckI
 rw [if_neg]
 rintro ⟨h1, _⟩
 obtain ⟨h2, h3⟩ := h1 i h h
 obtain ⟨h4, h5⟩ := hb h2
 have := h3 h4
 rw [h5] at this; cases this
theorem rcheckI_long {l : List Deed} (h : 60 < l.length) : rcheckI l = 11 := by
 unfold rcheckI
 rw [if_neg (fun h' => by omega)]
theorem rcheckI_good {l : List Deed} (h : okR l l.length) (h' : l.length ≤ 60) : rcheckI l = 0 := by
 unfold rcheckI
 rw [if_pos ⟨h, h'⟩]
theorem okR_next {l : List Deed} {i : Nat} (h : okR l i) (h' : ∀ h : i < l.length, rDeedB l[i] = true ∧ (0 < i → beforeB l[i - 1].pa l[i - 1].no l[i].pa l[i].no = true)) : okR l (i + 1) := by
 intro j hj hji
 rcases Nat.lt_succ_iff_lt_or_eq.1 hji with h1 | h1
 ·exact h j hj h1
 ·subst h1; exact h' hj
theorem ite10 (b : Bool) : ((if b = true then (0 : Int) else 10) != 0) = !b := by cases b <;> rfl
set_option maxHeartbeats 4000000 in
theorem s16 : PSound Tryz.prog 16 (pLD (fun l => vInt (rcheckI l)) true) := by
 refine psoundB (rs := [.tmp 2]) Tryz.func16 Tryz.ntmps16 (by rfl) (by kernel_rfl) (by decide) (pLD_flat fun _ => rfl) ⟨_, rfl, ?_⟩
 rintro xs ⟨l, rfl⟩ hw
 have hl : l.length ≤ maxLen := by have := hw.1.1; simpa using this
 refine ⟨lb rfl, ?_⟩
 rw [pLD_fn]
 have hΓ := K6_sound
 have hP := mixedK
 repeat refine sq ?_
 refine rs hΓ [0] [] ?_
 repeat refine sq ?_
 refine rs hΓ [0,7] [] ?_
 repeat refine sq ?_
 refine cl_cond rfl rfl (fun hb => ?_) fun hb => ?_
 ·repeat refine sq ?_
  refine rs hΓ [2] [] ?_
  refine cl_ret ?_
  simp only [go_sem]
  rw [rcheckI_long (by simp at hb; omega)]
 have hle : l.length ≤ 60 := by simp at hb; omega
 clear hb
 repeat refine sq ?_
 refine cl_skip ?_
 repeat refine sq ?_
 refine rs hΓ [0,8,9,10] [] ?_
 repeat refine sq ?_
 refine cl_block ?_
 repeat refine sq ?_
 refine cl_loop' (fun i : Nat => [(10, ⟨true, .v (vInt i)⟩)]) (fun i => []) (fun i => i ≤ l.length ∧ okR l i) (fun i => l.length - i) 0 ?_ ?_ ?_ ?_
 ·exact ⟨Nat.zero_le _, fun j h hj => by omega⟩
 ·rfl
 ·rfl
 rintro i ⟨hi, hz⟩
 simp only [go_sem]
 repeat refine sq ?_
 refine rs hΓ [0,8,9,10,11] [] ?_
 repeat refine sq ?_
 refine cl_cond rfl rfl (fun hb => ?_) fun hb => ?_
 ·have hlt : i < l.length := by simpa using hb
  have hlt' : (i : Int) < l.length := by omega
  repeat refine sq ?_
  refine cl_skip ?_
  repeat refine sq ?_
  refine cl_block ?_
  repeat refine sq ?_
  refine rx hΓ [0,3,4,8,9,10] [[4, 0]] (fun K' hK => by simp only [go_sem, map_getD hlt, Int.toNat_natCast, Int.natCast_nonneg, hlt']; exact fin) ?_
  obtain ⟨p, hp, hpl, hpos⟩ : ∃ p : Nat, (IntKind.i64.wrap ((i : Int) - 1)).toNat = p ∧ p < l.length ∧ (0 < i → p = i - 1 ∧ 0 ≤ IntKind.i64.wrap ((i : Int) - 1) ∧ IntKind.i64.wrap ((i : Int) - 1) < l.length) := by
   unfold maxLen at hl
   rcases Nat.eq_zero_or_pos i with rfl | hp
   ·exact ⟨0, by decide, hlt, fun h => by omega⟩
   ·have : IntKind.i64.wrap ((i : Int) - 1) = ((i - 1 : Nat) : Int) := by rw [wrap_i64 (by omega) (by omega)]; omega
    exact ⟨i - 1, by rw [this]; rfl, by omega, fun _ => ⟨rfl, by omega, by omega⟩⟩
  repeat refine sq ?_
  refine cl_ds hΓ hP [[], [0], [0, 1], [0, 1, 2], [0, 1, 2, 3], [0, 1, 2, 3, 4], [0, 1, 2, 3, 4, 5], [0, 1, 2, 3, 4, 5, 6], [0, 1, 2, 3, 4, 5, 6], [0, 1, 2, 3, 4, 5, 6, 8], [0, 1, 2, 3, 4, 5, 6, 7, 8, 9], [0, 1, 2, 3, 4, 5, 6, 7, 8, 9, 10], [0, 1, 2, 3, 4, 5, 6, 7, 8, 9, 10, 11], [0, 1, 2, 3, 4, 5, 6], [0, 1, 2, 3, 4, 5, 6, 13], [0, 1, 2, 3, 4, 5, 6, 7, 8, 9, 10, 11, 12, 13, 14], [0, 1, 2, 3, 4, 5, 6, 7, 8, 9, 10, 11, 12, 13, 14, 15], [0, 1, 2, 3, 4, 5, 6, 7, 8, 9, 10, 11, 12, 13, 14, 15, 16], [0, 1, 2, 3, 4, 5, 6, 7, 8, 9, 10, 11, 12, 13, 14, 15, 16, 17]] [0,8,9,10,33] [] (by kernel_rfl) fun K' hK => ?_
  simp only [go_sem, hp, map_getD hpl, ite10]
  repeat (refine ⟨by first | exact ob | (intro h; have := hpos (by simp_all); simp_all; done), ?_⟩)
  first | refine ⟨by rfl, ?_⟩ | skip
  refine hK _ ?_ ?_ <;> clear K' hK <;> simp only [go_sem, hp, map_getD hpl, ite10]
  have hcmp : 0 < i → l[p] = l[i - 1] := fun h => by obtain ⟨h1, _⟩ := hpos h; subst h1; rfl
  repeat refine sq ?_
  refine cl_cond rfl rfl (fun hb => ?_) fun hb => ?_
  ·repeat refine sq ?_
   refine rs hΓ [2] [] ?_
   refine cl_ret ?_
   simp only [go_sem]
   rw [rcheckI_bad hlt (by
    intro hd
    replace hb : (!rDeedB l[i] || (decide ((i : Int) > 0) && !beforeB l[p].pa l[p].no l[i].pa l[i].no)) = true := hb
    rw [hd] at hb
    simp only [Bool.not_true, Bool.false_or, Bool.and_eq_true, decide_eq_true_eq, Bool.not_eq_true'] at hb
    have h0 : 0 < i := by omega
    rw [hcmp h0] at hb
    exact ⟨h0, hb.2⟩)]
  ·replace hb : (!rDeedB l[i] || (decide ((i : Int) > 0) && !beforeB l[p].pa l[p].no l[i].pa l[i].no)) = false := hb
   have hnext : okR l (i + 1) := okR_next hz (by
    intro _
    cases hd : rDeedB l[i] with
    | false => rw [hd] at hb; simp at hb
    | true =>
     refine ⟨rfl, fun h0 => ?_⟩
     rw [hd, hcmp h0] at hb
     have h1 : decide ((i : Int) > 0) = true := by simp; omega
     rw [h1] at hb
     simpa using hb)
   clear hb
   repeat refine sq ?_
   refine cl_skip ?_
   refine cl_nil ?_
   simp only [go_sem]
   refine cl_keep [0,8,9,10] [] ?_ ?_ <;> simp only [go_sem]
   repeat refine sq ?_
   refine cl_r hΓ fun K' hK => ?_
   simp only [go_sem]
   repeat refine ⟨ob, ?_⟩
   refine hK _ ?_
   clear K' hK
   simp only [go_sem]
   refine ⟨i + 1, ⟨by omega, hnext⟩, by omega, ?_⟩
   refine weak_eq [0,8,9,10] [] ?_ ?_ <;> simp only [go_sem, wrap_succ hlt hl, Int.natCast_add, Int.natCast_one]
 ·have hge : i = l.length := by
   have : ¬ (i : Int) < l.length := by simpa using hb
   omega
  subst hge
  repeat refine sq ?_
  refine cl_exit ?_
  simp only [go_sem]
  refine cl_keep [] [] ?_ ?_ <;> simp only [go_sem]
  repeat refine sq ?_
  refine rs hΓ [2] [] ?_
  refine cl_ret ?_
  simp only [go_sem]
  rw [rcheckI_good hz hle]
def eqDB (a b c d e f g h i a' b' c' d' e' f' g' h' i' : Int) : Bool := (a == a' && b == b') && c == c' && d == d' && e == e' && (f == f' && g == g') && h == h' && i == i'
theorem held35 : Tryz.prog.stoodInHeld 35 = false := by kernel_rfl
theorem held31 : Tryz.prog.stoodInHeld 31 = false := by kernel_rfl
theorem held33 : Tryz.prog.stoodInHeld 33 = false := by kernel_rfl
theorem guard35 : Tryz.prog.eqGuardType Tryz.prog.depth 35 = false := by kernel_rfl
theorem guard31 : Tryz.prog.eqGuardType Tryz.prog.depth 31 = false := by kernel_rfl
theorem eqV3 (d : Nat) (a b : Int) : eqV Tryz.prog (d + 1) 3 (vInt a) (vInt b) = some (a == b) := by
 simp only [eqV, Tryz.underlying3, if_true]
theorem eqV31 (d : Nat) (a b a' b' : Int) : eqV Tryz.prog (d + 2) 31 (.agg [vInt a, vInt b]) (.agg [vInt a', vInt b']) = some (a == a' && b == b') := by
 unfold eqV
 simp only [Tryz.underlying31, held31, Bool.false_eq_true, if_false, eqFs, partV, ta3, List.getElem?_cons_zero, List.getElem?_cons_succ, eqV3]
 cases a == a' <;> cases b == b' <;> rfl
theorem eqV33 (d : Nat) (a b a' b' : Int) : eqV Tryz.prog (d + 2) 33 (.agg [vInt a, vInt b]) (.agg [vInt a', vInt b']) = some (a == a' && b == b') := by
 unfold eqV
 simp only [Tryz.underlying33, held33, Bool.false_eq_true, if_false, eqFs, partV, ta3, List.getElem?_cons_zero, List.getElem?_cons_succ, eqV3]
 cases a == a' <;> cases b == b' <;> rfl
theorem eqV35 (k : Nat) (a b c d e f g h i a' b' c' d' e' f' g' h' i' : Int) : eqV Tryz.prog (k + 3) 35 (.agg [vInt a, vInt b, vInt c, vInt d, vInt e, vInt f, vInt g, vInt h, vInt i]) (.agg [vInt a', vInt b', vInt c', vInt d', vInt e', vInt f', vInt g', vInt h', vInt i']) =
  some (eqDB a b c d e f g h i a' b' c' d' e' f' g' h' i') := by
 unfold eqV
 have p31 : ∀ (x y : V) (r : List V), partV Tryz.prog 31 (x :: y :: r) 0 = some (.agg [x, y]) := by
  intro x y r
  simp [partV, ta31]
 have p33 : ∀ (x0 x1 x2 x3 x4 x5 x6 x7 x8 : V), partV Tryz.prog 33 [x0, x1, x2, x3, x4, x5, x6, x7, x8] 5 = some (.agg [x5, x6]) := by
  intro x0 x1 x2 x3 x4 x5 x6 x7 x8
  simp [partV, ta33]
 simp only [Tryz.underlying35, held35, Bool.false_eq_true, if_false, eqFs, p31, p33, eqV31, eqV33]
 simp only [partV, ta3, List.getElem?_cons_zero, List.getElem?_cons_succ, eqV3]
 unfold eqDB
 cases a == a' <;> cases b == b' <;> cases c == c' <;> cases d == d' <;> cases e == e' <;> cases f == f' <;> cases g == g' <;> cases h == h' <;> cases i == i' <;> rfl
@[go_sem] theorem aEqS35 (obj : Name → Option O) (op : BinOp) (a b c d e f g h i a' b' c' d' e' f' g' h' i' : Int) : aEqS Tryz.prog obj op 35 (.agg [vInt a, vInt b, vInt c, vInt d, vInt e, vInt f, vInt g, vInt h, vInt i]) (.agg [vInt a', vInt b', vInt c', vInt d', vInt e', vInt f', vInt g', vInt h', vInt i']) =
  ⟨op = .eql ∨ op = .neq, .v (.bool (if op = .eql then eqDB a b c d e f g h i a' b' c' d' e' f' g' h' i' else !eqDB a b c d e f g h i a' b' c' d' e' f' g' h' i')), obj⟩ := by
 unfold aEqS
 rw [show Op.maxDepth = 9997 + 3 from rfl, eqV35]
 simp only [guard35, true_and]
@[go_sem] theorem aEqS31 (obj : Name → Option O) (op : BinOp) (a b a' b' : Int) : aEqS Tryz.prog obj op 31 (.agg [vInt a, vInt b]) (.agg [vInt a', vInt b']) =
  ⟨op = .eql ∨ op = .neq, .v (.bool (if op = .eql then (a == a' && b == b') else !(a == a' && b == b'))), obj⟩ := by
 unfold aEqS
 rw [show Op.maxDepth = 9998 + 2 from rfl, eqV31]
 simp only [guard31, true_and]
def decI (v : V) : Int := match v with | .int _ n => n | _ => 0
theorem decI_map (l : List Int) : (l.map vInt).map decI = l := by
 rw [List.map_map]
 conv => rhs; rw [← List.map_id l]
 rfl
deriving instance DecidableEq for Deed
@[go_sem] theorem ta192 : tAgg Tryz.prog 192 = some (false, 1) := by kernel_rfl
@[go_sem] theorem ti192 : tInt Tryz.prog 192 = some .u64 := by kernel_rfl
@[go_sem] theorem tz192 : tZero Tryz.prog 192 = some (.int .u64 0) := by kernel_rfl
def lowI (l : List Int) (x : Int) : Nat := (l.takeWhile fun y => decide (y < x)).length
def hasI (l : List Int) (x : Int) : Bool := l.contains x
def pBsI : PSpec := ⟨fun xs => ∃ (l : List Int) (x : Int), xs = [.sl (l.map vInt), vInt x, .clo (.func 95) [] []] ∧ l.Pairwise (· < ·), fun xs => match xs with | [.sl l, .int _ x, _] => .tup [vInt (lowI (l.map decI) x), .bool (hasI (l.map decI) x)] | _ => .bool false, true⟩
theorem mid_i64 {i j : Nat} (hi : i ≤ maxLen) (hj : j ≤ maxLen) : IntKind.i64.wrap ((IntKind.u64.wrap (IntKind.i64.wrap ((i : Int) + (j : Int)))).fdiv (2 ^ min (Int.toNat 1) 64)) = (((i + j) / 2 : Nat) : Int) := by
 unfold maxLen at hi hj
 have h1 : min (Int.toNat 1) 64 = 1 := by decide
 have h2 : IntKind.u64.wrap (IntKind.i64.wrap ((i : Int) + (j : Int))) = ((i + j : Nat) : Int) := by
  rw [IntKind.wrap_u64, IntKind.wrap_i64]
  omega
 rw [h1, h2]
 have h3 : (((i + j : Nat) : Int)).fdiv (2 ^ 1) = (((i + j) / 2 : Nat) : Int) := by
  rw [Int.fdiv_eq_ediv_of_nonneg _ (by decide)]
  omega
 rw [h3, wrap_i64 (by omega) (by omega)]
@[go_sem] theorem K6_95 : K6 95 = some (pII fun a b => vInt (cmpI a b)).toSpec := rfl
theorem cmpI_lt {a b : Int} : cmpI a b < 0 ↔ a < b := by
 unfold cmpI
 split
 ·simp [*]
 ·split <;> simp <;> omega
theorem cmpI_eq {a b : Int} : (cmpI a b == 0) = (a == b) := by
 unfold cmpI
 split
 ·have : a ≠ b := by omega
  simp [this]
 ·split
  ·have : a ≠ b := by omega
   simp [this]
  ·have : a = b := by omega
   simp [this]
theorem lowI_at {l : List Int} {x : Int} {i : Nat} (hi : i ≤ l.length) (h1 : ∀ k (h : k < l.length), k < i → l[k] < x) (h2 : ∀ k (h : k < l.length), i ≤ k → x ≤ l[k]) : lowI l x = i := by
 unfold lowI
 induction l generalizing i with
 | nil => simp at hi ⊢; omega
 | cons a r ih =>
  cases i with
  | zero =>
   have := h2 0 (by simp) (Nat.le_refl _)
   simp only [List.getElem_cons_zero] at this
   have hd : decide (a < x) = false := by simp; omega
   simp [hd]
  | succ i =>
   have := h1 0 (by simp) (by omega)
   simp only [List.getElem_cons_zero] at this
   have hd : decide (a < x) = true := by simp; omega
   simp only [List.takeWhile_cons, hd, if_true, List.length_cons]
   rw [ih (by simpa using hi) (fun k hk hki => by have := h1 (k + 1) (by simpa using hk) (by omega); simpa using this) (fun k hk hki => by have := h2 (k + 1) (by simpa using hk) (by omega); simpa using this)]
theorem hasI_at {l : List Int} {x : Int} {i : Nat} (hs : l.Pairwise (· < ·)) (hi : i < l.length) (h1 : ∀ k (h : k < l.length), k < i → l[k] < x) (h2 : ∀ k (h : k < l.length), i ≤ k → x ≤ l[k]) : hasI l x = (l[i] == x) := by
 unfold hasI
 rw [Bool.eq_iff_iff]
 simp only [List.contains_iff_mem, beq_iff_eq]
 constructor
 ·intro h
  obtain ⟨k, hk, e⟩ := List.getElem_of_mem h
  rcases Nat.lt_trichotomy k i with h3 | h3 | h3
  ·have := h1 k hk h3; omega
  ·subst h3; exact e
  ·have := List.pairwise_iff_getElem.1 hs i k hi hk h3
   have := h2 i hi (Nat.le_refl _)
   omega
 ·rintro rfl; exact List.getElem_mem hi
theorem hasI_none {l : List Int} {x : Int} (h1 : ∀ k (h : k < l.length), l[k] < x) : hasI l x = false := by
 unfold hasI
 rw [Bool.eq_false_iff]
 intro h
 obtain ⟨k, hk, e⟩ := List.getElem_of_mem (List.contains_iff_mem.1 h)
 have := h1 k hk
 omega
set_option maxRecDepth 10000 in
set_option maxHeartbeats 4000000 in
theorem w148 (l : List Int) (x : Int) (hs : l.Pairwise (· < ·)) (hl : l.length ≤ maxLen) :
  ∃ c, Tryz.f148.body = some c ∧ CL Tryz.prog [c] (mkS 49 [0] (fun _ => none) (argsL 0 [.sl (l.map vInt), vInt x, .clo (.func 95) [] []]) []) (retK Tryz.prog [.tmp 6, .tmp 7] (.tup [vInt (lowI l x), .bool (hasI l x)])) := by
 refine ⟨_, rfl, ?_⟩
 have hΓ := K6_sound
 have hP := mixedK
 repeat refine sq ?_
 refine rs hΓ [0,1,2] [] ?_
 repeat refine sq ?_
 refine rs hΓ [0,1,2,8] [] ?_
 repeat refine sq ?_
 refine rs hΓ [0,1,2,8,9,10] [] ?_
 repeat refine sq ?_
 refine cl_block ?_
 repeat refine sq ?_
 refine cl_loop' (fun ij : Nat × Nat => [(9, ⟨true, .v (vInt ij.1)⟩), (10, ⟨true, .v (vInt ij.2)⟩)]) (fun i => []) (fun ij => ij.1 ≤ ij.2 ∧ ij.2 ≤ l.length ∧ (∀ k (h : k < l.length), k < ij.1 → l[k] < x) ∧ (∀ k (h : k < l.length), ij.2 ≤ k → x ≤ l[k])) (fun ij => ij.2 - ij.1) (0, l.length) ?_ ?_ ?_ ?_
 ·exact ⟨Nat.zero_le _, Nat.le_refl _, fun k h hk => by omega, fun k h hk => by omega⟩
 ·rfl
 ·rfl
 rintro ⟨i, j⟩ ⟨hij, hjl, hlo, hhi⟩
 simp only [go_sem]
 repeat refine sq ?_
 refine rs hΓ [0,1,2,8,9,10,17] [] ?_
 repeat refine sq ?_
 refine cl_cond rfl rfl (fun hb => ?_) fun hb => ?_
 ·have hlt : i < j := by simpa using hb
  repeat refine sq ?_
  refine cl_skip ?_
  repeat refine sq ?_
  refine cl_block ?_
  repeat refine sq ?_
  refine rx hΓ [0,1,2,8,9,10,11] [] (fun K' hK => by simp only [go_sem, mid_i64 (show i ≤ maxLen by omega) (show j ≤ maxLen by omega)]; exact fin) ?_
  obtain ⟨h, hh⟩ : ∃ h, h = (i + j) / 2 := ⟨_, rfl⟩
  rw [← hh]
  have h1 : i ≤ h := by omega
  have h2 : h < j := by omega
  have h3 : h < l.length := by omega
  have h3' : (h : Int) < l.length := by omega
  repeat refine sq ?_
  refine rx hΓ [0,1,2,8,9,10,11,31] [] (fun K' hK => by simp only [go_sem, map_getD h3, Int.toNat_natCast, Int.natCast_nonneg, h3']; exact fin) ?_
  repeat refine sq ?_
  refine cl_cond rfl rfl (fun hb => ?_) fun hb => ?_
  ·have hx : l[h] < x := by simpa [cmpI_lt] using hb
   repeat refine sq ?_
   refine cl_r hΓ fun K' hK => ?_
   simp only [go_sem]
   repeat refine ⟨ob, ?_⟩
   refine hK _ ?_
   clear K' hK
   simp only [go_sem]
   refine ⟨(h + 1, j), ⟨by omega, hjl, fun k hk hkh => ?_, hhi⟩, by omega, ?_⟩
   ·rcases Nat.lt_succ_iff_lt_or_eq.1 hkh with h5 | h5
    ·have := List.pairwise_iff_getElem.1 hs k h hk h3 h5; omega
    ·subst h5; exact hx
   ·refine weak_eq [0,1,2,8,9,10] [] ?_ ?_ <;> simp only [go_sem, wrap_succ h3 hl, Int.natCast_add, Int.natCast_one]
  ·have hx : x ≤ l[h] := by
    have : ¬ l[h] < x := by simpa [cmpI_lt] using hb
    omega
   repeat refine sq ?_
   refine cl_r hΓ fun K' hK => ?_
   simp only [go_sem]
   repeat refine ⟨ob, ?_⟩
   refine hK _ ?_
   clear K' hK
   simp only [go_sem]
   refine ⟨(i, h), ⟨by omega, by omega, hlo, fun k hk hkh => ?_⟩, by omega, ?_⟩
   ·rcases Nat.lt_or_eq_of_le hkh with h5 | h5
    ·have := List.pairwise_iff_getElem.1 hs h k h3 hk h5; omega
    ·subst h5; exact hx
   ·refine weak_eq [0,1,2,8,9,10] [] ?_ ?_ <;> simp only [go_sem]
 ·have he : i = j := by
   have : ¬ (i : Int) < j := by simpa using hb
   omega
  subst he
  repeat refine sq ?_
  refine cl_exit ?_
  simp only [go_sem]
  refine cl_keep [0,1,2,8,9] [] ?_ ?_ <;> simp only [go_sem]
  by_cases hin : i < l.length
  ·have hin' : (i : Int) < l.length := by omega
   repeat refine sq ?_
   refine rx hΓ [6,7] [] (fun K' hK => by simp only [go_sem, map_getD hin, Int.toNat_natCast, Int.natCast_nonneg, hin']; exact fin) ?_
   refine cl_ret ?_
   simp only [go_sem]
   rw [lowI_at hjl hlo hhi, hasI_at hs hin hlo hhi]
   simp [cmpI_eq]
  ·have hil : i = l.length := by omega
   have hin' : ¬ (i : Int) < l.length := by omega
   obtain ⟨k0, n0, hdef⟩ : ∃ k0 n0, (l.map vInt).getD i default = .int k0 n0 := by
    refine ⟨default, default, ?_⟩
    rw [List.getD_eq_getElem?_getD, List.getElem?_eq_none (by simp; omega)]
    rfl
   repeat refine sq ?_
   refine rx hΓ [6,7] [] (fun K' hK => by simp only [go_sem, hdef, Int.toNat_natCast, Int.natCast_nonneg, hin']; exact fin) ?_
   refine cl_ret ?_
   simp only [go_sem]
   rw [lowI_at hjl hlo hhi, hasI_none fun k hk => hlo k hk (by omega)]
   simp
theorem pBsI_flat : pBsI.flat = true → ∀ xs, pBsI.pre xs → (pBsI.fn xs).flat = true := by
 rintro _ xs ⟨l, x, rfl, _⟩; rfl
theorem s148 : PSound Tryz.prog 148 pBsI := by
 refine psoundB (rs := [.tmp 6, .tmp 7]) Tryz.func148 Tryz.ntmps148 (by rfl) (by kernel_rfl) (by decide) pBsI_flat ?_
 obtain ⟨c, hc, _⟩ := w148 [] 0 (by simp) (by simp [maxLen])
 refine ⟨c, hc, ?_⟩
 rintro xs ⟨l, x, rfl, hs⟩ hw
 have hl : l.length ≤ maxLen := by have := hw.1.1; simpa using this
 refine ⟨lb rfl, ?_⟩
 obtain ⟨c', hc', h⟩ := w148 l x hs hl
 rw [hc] at hc'
 cases hc'
 have e : pBsI.fn [.sl (l.map vInt), vInt x, .clo (.func 95) [] []] = .tup [vInt (lowI l x), .bool (hasI l x)] := by
  simp only [pBsI, decI_map]
 rw [e]
 exact h
def ltD (a b : Deed) : Prop := a.pa < b.pa ∨ (a.pa = b.pa ∧ a.no < b.no)
instance (a b : Deed) : Decidable (ltD a b) := by unfold ltD; infer_instance
theorem ltD_trans {a b c : Deed} (h : ltD a b) (k : ltD b c) : ltD a c := by unfold ltD at *; omega
theorem orI_two (a b : Int) : orI [a, b] = if a = 0 then b else a := by
 unfold orI
 by_cases h : a = 0
 ·by_cases k : b = 0 <;> simp [h, k]
 ·simp [h]
theorem cmpD_lt {a b : Deed} : cmpD a b < 0 ↔ ltD a b := by
 unfold cmpD cmpIt ltD
 rw [orI_two]
 unfold cmpI
 split <;> split <;> (try split) <;> omega
def lowD (l : List Deed) (x : Deed) : Nat := (l.takeWhile fun y => decide (ltD y x)).length
def hasD (l : List Deed) (x : Deed) : Bool := match l[lowD l x]? with | some y => cmpD y x == 0 | none => false
def pBsD : PSpec := ⟨fun xs => ∃ (l : List Deed) (x : Deed), xs = [.sl (l.map encD), encD x, .clo (.func 101) [] []] ∧ l.Pairwise ltD, fun xs => match xs with | [.sl l, x, _] => .tup [vInt (lowD (l.map decD) (decD x)), .bool (hasD (l.map decD) (decD x))] | _ => .bool false, true⟩
open Go Go.Proofs Go.RowKit Go.Lib
theorem run_copy_cellsK {P : Program} (k : Nat) (w : World) (dT sT ty elem : TypeId) (b o dLen dCap : Nat) (a : Addr) (sLen sCap : Nat) (cs : List Value)
  (hu : P.underlying dT = some (.slice elem)) (hs : ∀ w, (Go.sizeOf elem).run P w = .ok k w) (hn : cs.length = Nat.min sLen dLen * k)
  (hsrc : ∀ j v, cs[j]? = some v → w.cell? (a.add j) = some v) (hc : ∀ j, j < cs.length → (w.cell? ⟨b, o + j, none⟩).isSome = true) (hf : ∀ j, j < cs.length → w.frozen? ⟨b, o + j, none⟩ = false) (h1 : ∀ v ∈ cs, v.oneCell' = true) :
  (Builtin.copy_ #[dT, sT] ty #[.slice (some ⟨b, o, none⟩) dLen dCap, .slice (some a) sLen sCap]).run P w = .ok (goInt (Nat.min sLen dLen)) (w.setCells b o cs) := by
 have hl := run_loadCells_list (P := P) w a cs hsrc
 have hst := run_storeCells_cells (P := P) b o cs 0 w (by simpa using hc) (by simpa using hf) h1
 simp [Builtin.copy_, run_underlying hu, Builtin.lenOf, Builtin.firstCells, hs, ← hn, hl, hst]
theorem run_overlaps_apart' {P : Program} (w : World) (tS tR e : TypeId) (ht : P.underlying tS = some (.slice e)) (size : Nat) (hz : ∀ w, (Go.sizeOf e).run P w = .ok size w)
  (a b : Addr) (la ca lb cb : Nat) (hne : a.block ≠ b.block) (tA tB : TypeId) (kA kB : Nat)
  (hsa : w.shape? a.block = some (tA, kA)) (hsb : w.shape? b.block = some (tB, kB)) (hkA : kA ≠ 0)
  (hfb : w.frozen? b = false) (hfe : w.frozen? { block := b.block, off := kB } = false) :
  (Extern.SlicesOverlaps.overlaps #[tS, tS] #[tR] #[.slice (some a) la ca, .slice (some b) lb cb]).run P w = .ok (.bool false) w := by
 have hnb : (a.block != b.block) = true := by simpa using hne
 have hnb' : (a.block == b.block) = false := by simpa using hne
 change Sem.run P (α := Value) (do
  let some t := (#[tS, tS] : Array TypeId)[0]? | stuck "slices.overlaps: no parameter types"
  let .slice elem ← underlying t | stuck "slices.overlaps: slice type expected"
  let size ← sizeOf elem
  match (some a : Option Addr), (some b : Option Addr) with
  | some a, some b =>
   if la = 0 ∨ lb = 0 ∨ size = 0 then pure (Value.bool false)
   else if a.block != b.block && (← frozen a) && (← frozen b) then unsupported .addressObserved
   else do
    if a.block != b.block then do
     noView a; noView b
     if ← mayBeOne a b then return Value.bool ((← choose (.extern "sameAddr.stringBytes" 2)) == 1)
    pure (Value.bool (a.block == b.block && a.off < b.off + lb * size && b.off < a.off + la * size))
  | _, _ => pure (Value.bool false)) w = _
 by_cases h0 : la = 0 ∨ lb = 0 ∨ size = 0
 ·simp [run_underlying ht, hz, h0]
 ·cases kA with
  | zero => exact absurd rfl hkA
  | succ kA =>
   by_cases hfa : w.frozen? a = true
   ·simp [run_underlying ht, hz, h0, hnb, hnb', frozen, noView, viewAt, mayBeOne, stringish, shape, Sem.run, hsa, hsb, hfb, hfe, hfa]
   ·have hfa' : w.frozen? a = false := by simpa using hfa
    by_cases hfc : w.frozen? { block := a.block, off := kA + 1 } = true
    ·simp [run_underlying ht, hz, h0, hnb, hnb', frozen, noView, viewAt, mayBeOne, stringish, shape, Sem.run, hsa, hsb, hfb, hfe, hfa', hfc]
    ·have hfc' : w.frozen? { block := a.block, off := kA + 1 } = false := by simpa using hfc
     simp [run_underlying ht, hz, h0, hnb, hnb', frozen, noView, viewAt, mayBeOne, stringish, shape, Sem.run, hsa, hsb, hfb, hfe, hfa', hfc']
end Go.Eng
set_option linter.unusedVariables false
namespace Go.Eng
open Go Go.Proofs Go.RowKit Go.Lib Go.Shelf
set_option maxHeartbeats 4000000 in
set_option maxRecDepth 100000 in
theorem ins162_shift (b off n c i vb voff m vc : Nat) (cs vs : List Value) (w : World) (hi : i < n) (hm : 0 < m) (hroom : n + m ≤ c) (hc63 : c ≤ 9223372036854775807) (hvb : vb ≠ b)
  (hcl : cs.length = n * 9) (hvl : vs.length = m * 9)
  (hcs : ∀ j v, cs[j]? = some v → w.cell? ⟨b, off + j, none⟩ = some v) (hsp : ∀ j, j < (n + m) * 9 → (w.cell? ⟨b, off + j, none⟩).isSome = true) (hfz : ∀ j, w.frozen? ⟨b, j, none⟩ = false)
  (hvs : ∀ j v, vs[j]? = some v → w.cell? ⟨vb, voff + j, none⟩ = some v) (h1c : ∀ v ∈ cs, v.oneCell' = true) (h1v : ∀ v ∈ vs, v.oneCell' = true)
  (tA tB : TypeId) (kA kB : Nat) (hsa : w.shape? vb = some (tA, kA)) (hsb : w.shape? b = some (tB, kB)) (hkA : kA ≠ 0) :
  Calls Tryz.prog 162 #[.slice (some ⟨b, off, none⟩) n c, .int .i64 i, .slice (some ⟨vb, voff, none⟩) m vc] w fun e w' =>
   e = .returned (.slice (some ⟨b, off, none⟩) (n + m) c) ∧ w' = (w.drew.setCells b (off + (i + m) * 9) (cs.drop (i * 9))).setCells b (off + i * 9) vs := by
 have mixed : Tryz.prog.follows Departure.mixedOrders = true := by kernel_rfl
 have hz1 : ¬ ((m : Int) = 0) := by omega
 have hz2 : ¬ ((i : Int) = (n : Int)) := by omega
 have hov : ∀ lb cb, (callFunc 178 #[.slice (some ⟨vb, voff, none⟩) m vc, .slice (some ⟨b, off + (i + m) * 9, none⟩) lb cb]).run Tryz.prog w = .ok (.value (.bool false)) w := fun lb cb => by
  rw [run_callFunc_extern Tryz.func178 (by kernel_rfl) (by kernel_rfl) (by kernel_rfl) (e := Extern.SlicesOverlaps.overlaps #[22, 22] #[4]) (by kernel_rfl),
   run_overlaps_apart' w 22 4 35 Tryz.underlying22 9 Tryz.sizeOf35 ⟨vb, voff, none⟩ ⟨b, off + (i + m) * 9, none⟩ m vc lb cb hvb tA tB kA kB hsa hsb hkA (hfz _) (hfz _)]
  rfl
 have hdl : (cs.drop (i * 9)).length = (n - i) * 9 := by rw [List.length_drop, hcl]; try omega
 have hw1 : IntKind.i64.wrap ((i : Int) + (m : Int)) = (i : Int) + (m : Int) := by rw [IntKind.wrap_i64]; omega
 have hb1 : (0 : Int) ≤ (i : Int) + (m : Int) := by omega
 have hin : i ≤ n := by omega
 have htn : ((i : Int) + (m : Int)).toNat = i + m := by omega
 have hb2 : ¬ (c = i + m) := by omega
 have hb3 : (i : Int) ≤ (n : Int) + (m : Int) := by omega
 have hb4 : ¬ (c = i) := by omega
 have hmin1 : Nat.min (n + m - i) (n + m - (i + m)) = n - i := by simp only [Nat.min_def]; split <;> omega
 have hcp1 : ∀ ty dc sc, (Builtin.copy_ #[22, 22] ty #[.slice (some ⟨b, off + (i + m) * 9, none⟩) (n + m - (i + m)) dc, .slice (some ⟨b, off + i * 9, none⟩) (n + m - i) sc]).run Tryz.prog w.drew = .ok (goInt (n - i : Nat)) (w.drew.setCells b (off + (i + m) * 9) (cs.drop (i * 9))) := fun ty dc sc => by
  have h := run_copy_cellsK (P := Tryz.prog) 9 w.drew 22 22 ty 35 b (off + (i + m) * 9) (n + m - (i + m)) dc ⟨b, off + i * 9, none⟩ (n + m - i) sc (cs.drop (i * 9)) Tryz.underlying22 Tryz.sizeOf35 (by rw [hdl, hmin1])
   (fun j v hj => by rw [Addr.add_lit, Nat.add_assoc]; exact hcs (i * 9 + j) v (by rwa [List.getElem?_drop] at hj))
   (fun j hj => by rw [Nat.add_assoc]; exact hsp _ (by omega)) (fun j hj => by exact hfz _) (fun v hv => h1c v (List.mem_of_mem_drop hv))
  rw [hmin1] at h
  exact h
 obtain ⟨W1, hW1⟩ : ∃ W1, W1 = w.drew.setCells b (off + (i + m) * 9) (cs.drop (i * 9)) := ⟨_, rfl⟩
 have hsp1 : ∀ k, k < (n + m) * 9 → (W1.cell? ⟨b, off + k, none⟩).isSome = true := fun k hk => by
  rw [hW1]
  exact isSome_setCells b _ _ _ (fun j hj => by rw [Nat.add_assoc]; exact hsp _ (by omega)) _ (hsp k hk)
 have hmin2 : Nat.min m (n + m - i) = m := by simp only [Nat.min_def]; split <;> omega
 have hcp2 : ∀ (W : World), (∀ x, W.cell? x = W1.cell? x) → (∀ x, W.frozen? x = W1.frozen? x) → ∀ ty dc, (Builtin.copy_ #[22, 22] ty #[.slice (some ⟨b, off + i * 9, none⟩) (n + m - i) dc, .slice (some ⟨vb, voff, none⟩) m vc]).run Tryz.prog W = .ok (goInt m) (W.setCells b (off + i * 9) vs) := fun W hWc hWf ty dc => by
  have h := run_copy_cellsK (P := Tryz.prog) 9 W 22 22 ty 35 b (off + i * 9) (n + m - i) dc ⟨vb, voff, none⟩ m vc vs Tryz.underlying22 Tryz.sizeOf35 (by rw [hmin2, hvl])
   (fun j v hj => by
    rw [Addr.add_lit, hWc, hW1, World.cell?_setCells_out b _ _ _ _ (fun h _ => absurd h hvb)]
    exact hvs j v hj)
   (fun j hj => by rw [hWc, Nat.add_assoc]; exact hsp1 _ (by omega)) (fun j hj => by rw [hWf, hW1, World.frozen?_setCells]; exact hfz _) h1v
  rw [hmin2] at h
  exact h
 rw [← hW1] at hcp1
 go_enter Tryz.func162, Tryz.ntmps162
 go_wp2_with (simp only [hov])
 go_region_law_o (refine step_copy_runI rfl _ _ 22 22 rfl _ _ (by simp [Act.eval, Act.put]) (by simp [Act.eval, Act.put]) (hcp1 _ _ _) ?_)
 go_wp2_with (at_builtin; refine wpList_copy_runI _ rfl _ _ 22 22 rfl _ _ rfl rfl (hcp2 _ (fun _ => rfl) (fun _ => rfl) _ _) ?_)
 go_ret
 first | exact ⟨rfl, rfl⟩ | exact ⟨rfl, by rw [hW1]⟩
set_option maxHeartbeats 4000000 in
set_option maxRecDepth 100000 in
theorem ins162_grow (b off n c i vb voff m vc : Nat) (cs vs : List Value) (w : World) (hi : i < n) (hm : 0 < m) (hnc : n ≤ c) (hroom : c < n + m) (hbig : (n + m) * 72 ≤ 140737488355328)
  (hcl : cs.length = n * 9) (hvl : vs.length = m * 9)
  (hcs : ∀ j v, cs[j]? = some v → w.cell? ⟨b, off + j, none⟩ = some v)
  (hvs : ∀ j v, vs[j]? = some v → w.cell? ⟨vb, voff + j, none⟩ = some v) (h1c : ∀ v ∈ cs, v.oneCell' = true) (h1v : ∀ v ∈ vs, v.oneCell' = true) :
  Calls Tryz.prog 162 #[.slice (some ⟨b, off, none⟩) n c, .int .i64 i, .slice (some ⟨vb, voff, none⟩) m vc] w fun e w' =>
   e = .returned (.slice (some ⟨w.heap.size, 0, none⟩) (n + m) (grownCap w (n + m) c 35)) ∧
   w' = (((w.alloc (.cells ((cs.take (i * 9)).toArray ++ Builtin.zeroCells (.agg #[.int .i64 0, .int .i64 0, .int .i64 0, .int .i64 0, .int .i64 0, .int .i64 0, .int .i64 0, .int .i64 0, .int .i64 0] : Value).cells (n + m - i) ++ Builtin.zeroCells (.agg #[.int .i64 0, .int .i64 0, .int .i64 0, .int .i64 0, .int .i64 0, .int .i64 0, .int .i64 0, .int .i64 0, .int .i64 0] : Value).cells (grownCap w (n + m) c 35 - (n + m))) 35)).drew.setCells w.heap.size (i * 9) vs).drew).setCells w.heap.size ((i + m) * 9) (cs.drop (i * 9)) := by
 have mixed : Tryz.prog.follows Departure.mixedOrders = true := by kernel_rfl
 have hTE : tElem Tryz.prog 22 = some (35, 9, 72) := by kernel_rfl
 have hTZ : tZero Tryz.prog 35 = some (.agg #[.int .i64 0, .int .i64 0, .int .i64 0, .int .i64 0, .int .i64 0, .int .i64 0, .int .i64 0, .int .i64 0, .int .i64 0]) := by kernel_rfl
 obtain ⟨i0, hi0, hz0, hzs, hzb⟩ : ∃ i0, Tryz.prog.info? 35 = some i0 ∧ i0.zero = some (.agg #[.int .i64 0, .int .i64 0, .int .i64 0, .int .i64 0, .int .i64 0, .int .i64 0, .int .i64 0, .int .i64 0, .int .i64 0]) ∧ i0.size = 9 ∧ i0.bytes = 72 := by
  obtain ⟨hu, i0, h1, h2, h3⟩ := tElem_spec hTE
  refine ⟨i0, h1, ?_, h2, h3⟩
  unfold tZero at hTZ
  rw [h1] at hTZ
  exact hTZ
 have hz1 : ¬ ((m : Int) = 0) := by omega
 have hz2 : ¬ ((i : Int) = (n : Int)) := by omega
 have hz3 : (c : Int) < (n : Int) + (m : Int) := by omega
 have hbw : b < w.heap.size := block_lt_of_cell (hcs 0 _ (List.getElem?_eq_getElem (by omega)))
 have hvw : vb < w.heap.size := block_lt_of_cell (hvs 0 _ (List.getElem?_eq_getElem (by omega)))
 have hkk : (n : Int) + (m : Int) - (i : Int) = ((n + m - i : Nat) : Int) := by omega
 have hik : i + (n + m - i) = n + m := by omega
 have hold : (Builtin.firstCells i0.size i (.slice (some ⟨b, off, none⟩) i c)).run Tryz.prog w.drew = .ok (cs.take (i * 9)).toArray w.drew := by
  rw [hzs]
  exact run_firstCells_some w.drew 9 i ⟨b, off, none⟩ i c (cs.take (i * 9)) (by rw [List.length_take]; omega) (fun j v hj => by
   rw [Addr.add_lit]
   rw [List.getElem?_take] at hj
   split at hj
   ·exact hcs j v hj
   ·cases hj)
 have hrz : ∀ ty, (Builtin.append_ #[22, 3] ty #[.slice (some ⟨b, off, none⟩) i c, .int .i64 ((n : Int) + (m : Int) - (i : Int))]).run Tryz.prog w =
   .ok (.slice (some ⟨w.heap.size, 0, none⟩) (n + m) (grownCap w (n + m) c 35)) (w.drew.alloc (.cells ((cs.take (i * 9)).toArray ++ Builtin.zeroCells (.agg #[.int .i64 0, .int .i64 0, .int .i64 0, .int .i64 0, .int .i64 0, .int .i64 0, .int .i64 0, .int .i64 0, .int .i64 0] : Value).cells (n + m - i) ++ Builtin.zeroCells (.agg #[.int .i64 0, .int .i64 0, .int .i64 0, .int .i64 0, .int .i64 0, .int .i64 0, .int .i64 0, .int .i64 0, .int .i64 0] : Value).cells (grownCap w (n + m) c 35 - (n + m))) 35)) := fun ty => by
  have h := Lib.run_append_grow_zeros w 22 3 ty 35 i0 _ .i64 .i64 Tryz.underlying22 Tryz.underlying3 hi0 hz0 (some ⟨b, off, none⟩) i c (cs.take (i * 9)) hold (n + m - i) (by omega) (by omega) (by omega) (by omega) (by rw [hzb]; omega) (by rw [hzb, hik]; exact growslice_fits hroom hbig)
  rw [hik] at h
  rw [hkk]
  exact h
 obtain ⟨G, hG⟩ : ∃ G, G = grownCap w (n + m) c 35 := ⟨_, rfl⟩
 obtain ⟨ROW, hROW⟩ : ∃ ROW : Array Value, ROW = (cs.take (i * 9)).toArray ++ Builtin.zeroCells (.agg #[.int .i64 0, .int .i64 0, .int .i64 0, .int .i64 0, .int .i64 0, .int .i64 0, .int .i64 0, .int .i64 0, .int .i64 0] : Value).cells (n + m - i) ++ Builtin.zeroCells (.agg #[.int .i64 0, .int .i64 0, .int .i64 0, .int .i64 0, .int .i64 0, .int .i64 0, .int .i64 0, .int .i64 0, .int .i64 0] : Value).cells (G - (n + m)) := ⟨_, rfl⟩
 rw [← hG] at hrz ⊢
 rw [← hROW] at hrz ⊢
 have hRl : (n + m) * 9 ≤ ROW.size := by
  rw [hROW]
  simp [Builtin.zeroCells, Value.cells]
  omega
 obtain ⟨W1, hW1⟩ : ∃ W1, W1 = w.drew.alloc (.cells ROW 35) := ⟨_, rfl⟩
 rw [← hW1] at hrz
 have hN : ∀ j, j < (n + m) * 9 → (W1.cell? ⟨w.heap.size, j, none⟩).isSome = true := fun j hj => by
  rw [hW1, World.cell?_alloc_at (w := w.drew) ROW _ w.heap.size j rfl, Array.getElem?_eq_getElem (by omega)]; rfl
 have hNf : ∀ j, W1.frozen? ⟨w.heap.size, j, none⟩ = false := fun j => by rw [hW1]; exact World.frozen?_alloc_at (w := w.drew) ROW _ w.heap.size j rfl
 have hOb : ∀ j v, w.cell? ⟨b, j, none⟩ = some v → W1.cell? ⟨b, j, none⟩ = some v := fun j v h => by rw [hW1, World.cell?_alloc_past (w := w.drew) _ b j hbw]; exact h
 have hOv : ∀ j v, w.cell? ⟨vb, j, none⟩ = some v → W1.cell? ⟨vb, j, none⟩ = some v := fun j v h => by rw [hW1, World.cell?_alloc_past (w := w.drew) _ vb j hvw]; exact h
 have hmin2 : Nat.min m (n + m - i) = m := by simp only [Nat.min_def]; split <;> omega
 have hmin1 : Nat.min (n - i) (n + m - (i + m)) = n - i := by simp only [Nat.min_def]; split <;> omega
 have hcpA : ∀ (W : World), (∀ x, W.cell? x = W1.cell? x) → (∀ x, W.frozen? x = W1.frozen? x) → ∀ ty dc, (Builtin.copy_ #[22, 22] ty #[.slice (some ⟨w.heap.size, i * 9, none⟩) (n + m - i) dc, .slice (some ⟨vb, voff, none⟩) m vc]).run Tryz.prog W = .ok (goInt m) (W.setCells w.heap.size (i * 9) vs) := fun W hWc hWf ty dc => by
  have h := run_copy_cellsK (P := Tryz.prog) 9 W 22 22 ty 35 w.heap.size (i * 9) (n + m - i) dc ⟨vb, voff, none⟩ m vc vs Tryz.underlying22 Tryz.sizeOf35 (by rw [hmin2, hvl])
   (fun j v hj => by rw [Addr.add_lit, hWc]; exact hOv _ v (hvs j v hj))
   (fun j hj => by rw [hWc]; exact hN _ (by omega)) (fun j hj => by rw [hWf]; exact hNf _) h1v
  rw [hmin2] at h
  exact h
 have hGn : n + m ≤ G := by rw [hG]; exact grownCap_ge w _ _ _
 have hG63 : G ≤ 9223372036854775807 := by
  have := grownCap_le_maxLen w (n + m) c 35 (by unfold maxLen; omega)
  rw [← hG] at this
  unfold maxLen at this
  omega
 have hGi : ¬ (G = i) := by omega
 have hGim : ¬ (G = i + m) := by omega
 have hci : ¬ (c = i) := by omega
 have hbN : b ≠ w.heap.size := by omega
 have hdl : (cs.drop (i * 9)).length = (n - i) * 9 := by rw [List.length_drop, hcl]; try omega
 have hcpB : ∀ (W : World), (∀ x, W.cell? x = (W1.setCells w.heap.size (i * 9) vs).cell? x) → (∀ x, W.frozen? x = (W1.setCells w.heap.size (i * 9) vs).frozen? x) → ∀ ty dc sc, (Builtin.copy_ #[22, 22] ty #[.slice (some ⟨w.heap.size, (i + m) * 9, none⟩) (n + m - (i + m)) dc, .slice (some ⟨b, off + i * 9, none⟩) (n - i) sc]).run Tryz.prog W = .ok (goInt (n - i : Nat)) (W.setCells w.heap.size ((i + m) * 9) (cs.drop (i * 9))) := fun W hWc hWf ty dc sc => by
  have h := run_copy_cellsK (P := Tryz.prog) 9 W 22 22 ty 35 w.heap.size ((i + m) * 9) (n + m - (i + m)) dc ⟨b, off + i * 9, none⟩ (n - i) sc (cs.drop (i * 9)) Tryz.underlying22 Tryz.sizeOf35 (by rw [hdl, hmin1])
   (fun j v hj => by
    rw [Addr.add_lit, hWc, World.cell?_setCells_out _ _ _ _ _ (fun h _ => absurd h hbN), Nat.add_assoc]
    exact hOb _ v (hcs (i * 9 + j) v (by rwa [List.getElem?_drop] at hj)))
   (fun j hj => by rw [hWc]; exact isSome_setCells _ _ _ _ (fun t ht => hN _ (by omega)) _ (hN _ (by omega)))
   (fun j hj => by rw [hWf, World.frozen?_setCells]; exact hNf _) (fun v hv => h1c v (List.mem_of_mem_drop hv))
  rw [hmin1] at h
  exact h
 subst hW1
 have hE1 : ∀ x, ((w.alloc (.cells ROW 35)).drew).cell? x = (w.drew.alloc (.cells ROW 35)).cell? x := fun x => rfl
 have hE2 : ∀ x, ((w.alloc (.cells ROW 35)).drew).frozen? x = (w.drew.alloc (.cells ROW 35)).frozen? x := fun x => rfl
 have hF1 : ∀ x, (((w.alloc (.cells ROW 35)).drew.setCells w.heap.size (i * 9) vs).drew).cell? x = ((w.drew.alloc (.cells ROW 35)).setCells w.heap.size (i * 9) vs).cell? x := fun x => rfl
 have hF2 : ∀ x, (((w.alloc (.cells ROW 35)).drew.setCells w.heap.size (i * 9) vs).drew).frozen? x = ((w.drew.alloc (.cells ROW 35)).setCells w.heap.size (i * 9) vs).frozen? x := fun x => rfl
 have hw1 : IntKind.i64.wrap ((i : Int) + (m : Int)) = (i : Int) + (m : Int) := by rw [IntKind.wrap_i64]; omega
 have hb1 : (0 : Int) ≤ (i : Int) + (m : Int) := by omega
 have hin : i ≤ n := by omega
 have htn : ((i : Int) + (m : Int)).toNat = i + m := by omega
 have hb3 : (i : Int) ≤ (n : Int) := by omega
 clear hkk hik hold hROW hG hRl
 go_enter Tryz.func162, Tryz.ntmps162
 go_wp2_with (first
  | (at_builtin; refine Lib.wpList_append_run _ rfl _ _ _ _ rfl _ _ rfl rfl _ _ (hrz _) ?_)
  | (at_builtin; refine wpList_copy_runI _ rfl _ _ 22 22 rfl _ _ rfl rfl (hcpA _ hE1 hE2 _ _) ?_)
  | (at_builtin; refine wpList_copy_runI _ rfl _ _ 22 22 rfl _ _ rfl rfl (hcpB _ (fun _ => rfl) (fun _ => rfl) _ _ _) ?_))
 go_region_law_o (refine step_copy_runI rfl _ _ 22 22 rfl (.slice (some ⟨w.heap.size, (i + m) * 9, none⟩) (n + m - (i + m)) (G - (i + m))) (.slice (some ⟨b, off + i * 9, none⟩) (n - i) (c - i)) (by simp [Act.eval, Act.put]) (by simp [Act.eval, Act.put]) (hcpB _ hF1 hF2 3 (G - (i + m)) (c - i)) ?_)
 go_wp2
 go_ret
 exact ⟨rfl, rfl⟩
set_option maxHeartbeats 4000000 in
set_option maxRecDepth 100000 in
theorem ins162_last (base : Option Addr) (n c vb voff m vc : Nat) (w : World) (v' : Value) (w' : World) (hm : 0 < m) (hn : n ≤ c) (hc63 : c ≤ 9223372036854775807)
  (hrun : ∀ ty, (Builtin.append_ #[22, 22] ty #[.slice base n c, .slice (some ⟨vb, voff, none⟩) m vc]).run Tryz.prog w = .ok v' w') :
  Calls Tryz.prog 162 #[.slice base n c, .int .i64 n, .slice (some ⟨vb, voff, none⟩) m vc] w fun e w1 => e = .returned v' ∧ w1 = w' := by
 have mixed : Tryz.prog.follows Departure.mixedOrders = true := by kernel_rfl
 have hz1 : ¬ ((m : Int) = 0) := by omega
 go_enter Tryz.func162, Tryz.ntmps162
 cases base with
 | none =>
  go_wp2_with (at_builtin; refine Lib.wpList_append_run _ rfl _ _ _ _ rfl _ _ rfl rfl _ _ (hrun _) ?_)
  all_goals (go_ret; exact ⟨rfl, rfl⟩)
 | some a =>
  obtain ⟨ab, ao, asp⟩ := a
  go_wp2_with (at_builtin; refine Lib.wpList_append_run _ rfl _ _ _ _ rfl _ _ rfl rfl _ _ (hrun _) ?_)
  all_goals (go_ret; exact ⟨rfl, rfl⟩)
set_option maxHeartbeats 4000000 in
set_option maxRecDepth 100000 in
theorem ins149_shift (b off n c i vb voff m vc : Nat) (cs vs : List Value) (w : World) (hi : i < n) (hm : 0 < m) (hroom : n + m ≤ c) (hc63 : c ≤ 9223372036854775807) (hvb : vb ≠ b)
  (hcl : cs.length = n) (hvl : vs.length = m)
  (hcs : ∀ j v, cs[j]? = some v → w.cell? ⟨b, off + j, none⟩ = some v) (hsp : ∀ j, j < n + m → (w.cell? ⟨b, off + j, none⟩).isSome = true) (hfz : ∀ j, w.frozen? ⟨b, j, none⟩ = false)
  (hvs : ∀ j v, vs[j]? = some v → w.cell? ⟨vb, voff + j, none⟩ = some v) (h1c : ∀ v ∈ cs, v.oneCell' = true) (h1v : ∀ v ∈ vs, v.oneCell' = true)
  (tA tB : TypeId) (kA kB : Nat) (hsa : w.shape? vb = some (tA, kA)) (hsb : w.shape? b = some (tB, kB)) (hkA : kA ≠ 0) :
  Calls Tryz.prog 149 #[.slice (some ⟨b, off, none⟩) n c, .int .i64 i, .slice (some ⟨vb, voff, none⟩) m vc] w fun e w' =>
   e = .returned (.slice (some ⟨b, off, none⟩) (n + m) c) ∧ w' = (w.drew.setCells b (off + (i + m)) (cs.drop (i))).setCells b (off + i) vs := by
 have mixed : Tryz.prog.follows Departure.mixedOrders = true := by kernel_rfl
 have hz1 : ¬ ((m : Int) = 0) := by omega
 have hz2 : ¬ ((i : Int) = (n : Int)) := by omega
 have hov : ∀ lb cb, (callFunc 168 #[.slice (some ⟨vb, voff, none⟩) m vc, .slice (some ⟨b, off + (i + m), none⟩) lb cb]).run Tryz.prog w = .ok (.value (.bool false)) w := fun lb cb => by
  rw [run_callFunc_extern Tryz.func168 (by kernel_rfl) (by kernel_rfl) (by kernel_rfl) (e := Extern.SlicesOverlaps.overlaps #[39, 39] #[4]) (by kernel_rfl),
   run_overlaps_apart' w 39 4 3 Tryz.underlying39 1 Tryz.sizeOf3 ⟨vb, voff, none⟩ ⟨b, off + (i + m), none⟩ m vc lb cb hvb tA tB kA kB hsa hsb hkA (hfz _) (hfz _)]
  rfl
 have hdl : (cs.drop (i)).length = n - i := by rw [List.length_drop, hcl]; try omega
 have hw1 : IntKind.i64.wrap ((i : Int) + (m : Int)) = (i : Int) + (m : Int) := by rw [IntKind.wrap_i64]; omega
 have hb1 : (0 : Int) ≤ (i : Int) + (m : Int) := by omega
 have hin : i ≤ n := by omega
 have htn : ((i : Int) + (m : Int)).toNat = i + m := by omega
 have hb2 : ¬ (c = i + m) := by omega
 have hb3 : (i : Int) ≤ (n : Int) + (m : Int) := by omega
 have hb4 : ¬ (c = i) := by omega
 have hmin1 : Nat.min (n + m - i) (n + m - (i + m)) = n - i := by simp only [Nat.min_def]; split <;> omega
 have hcp1 : ∀ ty dc sc, (Builtin.copy_ #[39, 39] ty #[.slice (some ⟨b, off + (i + m), none⟩) (n + m - (i + m)) dc, .slice (some ⟨b, off + i, none⟩) (n + m - i) sc]).run Tryz.prog w.drew = .ok (goInt (n - i : Nat)) (w.drew.setCells b (off + (i + m)) (cs.drop (i))) := fun ty dc sc => by
  have h := run_copy_cellsK (P := Tryz.prog) 1 w.drew 39 39 ty 3 b (off + (i + m)) (n + m - (i + m)) dc ⟨b, off + i, none⟩ (n + m - i) sc (cs.drop (i)) Tryz.underlying39 Tryz.sizeOf3 (by rw [hdl, hmin1]; omega)
   (fun j v hj => by rw [Addr.add_lit, Nat.add_assoc]; exact hcs (i + j) v (by rwa [List.getElem?_drop] at hj))
   (fun j hj => by rw [Nat.add_assoc]; exact hsp _ (by omega)) (fun j hj => by exact hfz _) (fun v hv => h1c v (List.mem_of_mem_drop hv))
  rw [hmin1] at h
  exact h
 obtain ⟨W1, hW1⟩ : ∃ W1, W1 = w.drew.setCells b (off + (i + m)) (cs.drop (i)) := ⟨_, rfl⟩
 have hsp1 : ∀ k, k < n + m → (W1.cell? ⟨b, off + k, none⟩).isSome = true := fun k hk => by
  rw [hW1]
  exact isSome_setCells b _ _ _ (fun j hj => by rw [Nat.add_assoc]; exact hsp _ (by omega)) _ (hsp k hk)
 have hmin2 : Nat.min m (n + m - i) = m := by simp only [Nat.min_def]; split <;> omega
 have hcp2 : ∀ (W : World), (∀ x, W.cell? x = W1.cell? x) → (∀ x, W.frozen? x = W1.frozen? x) → ∀ ty dc, (Builtin.copy_ #[39, 39] ty #[.slice (some ⟨b, off + i, none⟩) (n + m - i) dc, .slice (some ⟨vb, voff, none⟩) m vc]).run Tryz.prog W = .ok (goInt m) (W.setCells b (off + i) vs) := fun W hWc hWf ty dc => by
  have h := run_copy_cellsK (P := Tryz.prog) 1 W 39 39 ty 3 b (off + i) (n + m - i) dc ⟨vb, voff, none⟩ m vc vs Tryz.underlying39 Tryz.sizeOf3 (by rw [hmin2, hvl]; omega)
   (fun j v hj => by
    rw [Addr.add_lit, hWc, hW1, World.cell?_setCells_out b _ _ _ _ (fun h _ => absurd h hvb)]
    exact hvs j v hj)
   (fun j hj => by rw [hWc, Nat.add_assoc]; exact hsp1 _ (by omega)) (fun j hj => by rw [hWf, hW1, World.frozen?_setCells]; exact hfz _) h1v
  rw [hmin2] at h
  exact h
 rw [← hW1] at hcp1
 go_enter Tryz.func149, Tryz.ntmps149
 go_wp2_with (simp only [hov])
 go_region_law_o (refine step_copy_runI rfl _ _ 39 39 rfl _ _ (by simp [Act.eval, Act.put]) (by simp [Act.eval, Act.put]) (hcp1 _ _ _) ?_)
 go_wp2_with (at_builtin; refine wpList_copy_runI _ rfl _ _ 39 39 rfl _ _ rfl rfl (hcp2 _ (fun _ => rfl) (fun _ => rfl) _ _) ?_)
 go_ret
 first | exact ⟨rfl, rfl⟩ | exact ⟨rfl, by rw [hW1]⟩
set_option maxHeartbeats 4000000 in
set_option maxRecDepth 100000 in
theorem ins149_grow (b off n c i vb voff m vc : Nat) (cs vs : List Value) (w : World) (hi : i < n) (hm : 0 < m) (hnc : n ≤ c) (hroom : c < n + m) (hbig : (n + m) * 8 ≤ 140737488355328)
  (hcl : cs.length = n) (hvl : vs.length = m)
  (hcs : ∀ j v, cs[j]? = some v → w.cell? ⟨b, off + j, none⟩ = some v)
  (hvs : ∀ j v, vs[j]? = some v → w.cell? ⟨vb, voff + j, none⟩ = some v) (h1c : ∀ v ∈ cs, v.oneCell' = true) (h1v : ∀ v ∈ vs, v.oneCell' = true) :
  Calls Tryz.prog 149 #[.slice (some ⟨b, off, none⟩) n c, .int .i64 i, .slice (some ⟨vb, voff, none⟩) m vc] w fun e w' =>
   e = .returned (.slice (some ⟨w.heap.size, 0, none⟩) (n + m) (grownCap w (n + m) c 3)) ∧
   w' = (((w.alloc (.cells ((cs.take (i)).toArray ++ Builtin.zeroCells (.int .i64 0 : Value).cells (n + m - i) ++ Builtin.zeroCells (.int .i64 0 : Value).cells (grownCap w (n + m) c 3 - (n + m))) 3)).drew.setCells w.heap.size (i) vs).drew).setCells w.heap.size ((i + m)) (cs.drop (i)) := by
 have mixed : Tryz.prog.follows Departure.mixedOrders = true := by kernel_rfl
 have hTE : tElem Tryz.prog 39 = some (3, 1, 8) := by kernel_rfl
 have hTZ : tZero Tryz.prog 3 = some (.int .i64 0) := by kernel_rfl
 obtain ⟨i0, hi0, hz0, hzs, hzb⟩ : ∃ i0, Tryz.prog.info? 3 = some i0 ∧ i0.zero = some (.int .i64 0) ∧ i0.size = 1 ∧ i0.bytes = 8 := by
  obtain ⟨hu, i0, h1, h2, h3⟩ := tElem_spec hTE
  refine ⟨i0, h1, ?_, h2, h3⟩
  unfold tZero at hTZ
  rw [h1] at hTZ
  exact hTZ
 have hz1 : ¬ ((m : Int) = 0) := by omega
 have hz2 : ¬ ((i : Int) = (n : Int)) := by omega
 have hz3 : (c : Int) < (n : Int) + (m : Int) := by omega
 have hbw : b < w.heap.size := block_lt_of_cell (hcs 0 _ (List.getElem?_eq_getElem (by omega)))
 have hvw : vb < w.heap.size := block_lt_of_cell (hvs 0 _ (List.getElem?_eq_getElem (by omega)))
 have hkk : (n : Int) + (m : Int) - (i : Int) = ((n + m - i : Nat) : Int) := by omega
 have hik : i + (n + m - i) = n + m := by omega
 have hold : (Builtin.firstCells i0.size i (.slice (some ⟨b, off, none⟩) i c)).run Tryz.prog w.drew = .ok (cs.take (i)).toArray w.drew := by
  rw [hzs]
  exact run_firstCells_some w.drew 1 i ⟨b, off, none⟩ i c (cs.take (i)) (by rw [List.length_take]; omega) (fun j v hj => by
   rw [Addr.add_lit]
   rw [List.getElem?_take] at hj
   split at hj
   ·exact hcs j v hj
   ·cases hj)
 have hrz : ∀ ty, (Builtin.append_ #[39, 3] ty #[.slice (some ⟨b, off, none⟩) i c, .int .i64 ((n : Int) + (m : Int) - (i : Int))]).run Tryz.prog w =
   .ok (.slice (some ⟨w.heap.size, 0, none⟩) (n + m) (grownCap w (n + m) c 3)) (w.drew.alloc (.cells ((cs.take (i)).toArray ++ Builtin.zeroCells (.int .i64 0 : Value).cells (n + m - i) ++ Builtin.zeroCells (.int .i64 0 : Value).cells (grownCap w (n + m) c 3 - (n + m))) 3)) := fun ty => by
  have h := Lib.run_append_grow_zeros w 39 3 ty 3 i0 _ .i64 .i64 Tryz.underlying39 Tryz.underlying3 hi0 hz0 (some ⟨b, off, none⟩) i c (cs.take (i)) hold (n + m - i) (by omega) (by omega) (by omega) (by omega) (by rw [hzb]; omega) (by rw [hzb, hik]; exact growslice_fits hroom hbig)
  rw [hik] at h
  rw [hkk]
  exact h
 obtain ⟨G, hG⟩ : ∃ G, G = grownCap w (n + m) c 3 := ⟨_, rfl⟩
 obtain ⟨ROW, hROW⟩ : ∃ ROW : Array Value, ROW = (cs.take (i)).toArray ++ Builtin.zeroCells (.int .i64 0 : Value).cells (n + m - i) ++ Builtin.zeroCells (.int .i64 0 : Value).cells (G - (n + m)) := ⟨_, rfl⟩
 rw [← hG] at hrz ⊢
 rw [← hROW] at hrz ⊢
 have hRl : n + m ≤ ROW.size := by
  rw [hROW]
  simp [Builtin.zeroCells, Value.cells]
  omega
 obtain ⟨W1, hW1⟩ : ∃ W1, W1 = w.drew.alloc (.cells ROW 3) := ⟨_, rfl⟩
 rw [← hW1] at hrz
 have hN : ∀ j, j < n + m → (W1.cell? ⟨w.heap.size, j, none⟩).isSome = true := fun j hj => by
  rw [hW1, World.cell?_alloc_at (w := w.drew) ROW _ w.heap.size j rfl, Array.getElem?_eq_getElem (by omega)]; rfl
 have hNf : ∀ j, W1.frozen? ⟨w.heap.size, j, none⟩ = false := fun j => by rw [hW1]; exact World.frozen?_alloc_at (w := w.drew) ROW _ w.heap.size j rfl
 have hOb : ∀ j v, w.cell? ⟨b, j, none⟩ = some v → W1.cell? ⟨b, j, none⟩ = some v := fun j v h => by rw [hW1, World.cell?_alloc_past (w := w.drew) _ b j hbw]; exact h
 have hOv : ∀ j v, w.cell? ⟨vb, j, none⟩ = some v → W1.cell? ⟨vb, j, none⟩ = some v := fun j v h => by rw [hW1, World.cell?_alloc_past (w := w.drew) _ vb j hvw]; exact h
 have hmin2 : Nat.min m (n + m - i) = m := by simp only [Nat.min_def]; split <;> omega
 have hmin1 : Nat.min (n - i) (n + m - (i + m)) = n - i := by simp only [Nat.min_def]; split <;> omega
 have hcpA : ∀ (W : World), (∀ x, W.cell? x = W1.cell? x) → (∀ x, W.frozen? x = W1.frozen? x) → ∀ ty dc, (Builtin.copy_ #[39, 39] ty #[.slice (some ⟨w.heap.size, i, none⟩) (n + m - i) dc, .slice (some ⟨vb, voff, none⟩) m vc]).run Tryz.prog W = .ok (goInt m) (W.setCells w.heap.size (i) vs) := fun W hWc hWf ty dc => by
  have h := run_copy_cellsK (P := Tryz.prog) 1 W 39 39 ty 3 w.heap.size (i) (n + m - i) dc ⟨vb, voff, none⟩ m vc vs Tryz.underlying39 Tryz.sizeOf3 (by rw [hmin2, hvl]; omega)
   (fun j v hj => by rw [Addr.add_lit, hWc]; exact hOv _ v (hvs j v hj))
   (fun j hj => by rw [hWc]; exact hN _ (by omega)) (fun j hj => by rw [hWf]; exact hNf _) h1v
  rw [hmin2] at h
  exact h
 have hGn : n + m ≤ G := by rw [hG]; exact grownCap_ge w _ _ _
 have hG63 : G ≤ 9223372036854775807 := by
  have := grownCap_le_maxLen w (n + m) c 3 (by unfold maxLen; omega)
  rw [← hG] at this
  unfold maxLen at this
  omega
 have hGi : ¬ (G = i) := by omega
 have hGim : ¬ (G = i + m) := by omega
 have hci : ¬ (c = i) := by omega
 have hbN : b ≠ w.heap.size := by omega
 have hdl : (cs.drop (i)).length = n - i := by rw [List.length_drop, hcl]; try omega
 have hcpB : ∀ (W : World), (∀ x, W.cell? x = (W1.setCells w.heap.size (i) vs).cell? x) → (∀ x, W.frozen? x = (W1.setCells w.heap.size (i) vs).frozen? x) → ∀ ty dc sc, (Builtin.copy_ #[39, 39] ty #[.slice (some ⟨w.heap.size, (i + m), none⟩) (n + m - (i + m)) dc, .slice (some ⟨b, off + i, none⟩) (n - i) sc]).run Tryz.prog W = .ok (goInt (n - i : Nat)) (W.setCells w.heap.size ((i + m)) (cs.drop (i))) := fun W hWc hWf ty dc sc => by
  have h := run_copy_cellsK (P := Tryz.prog) 1 W 39 39 ty 3 w.heap.size ((i + m)) (n + m - (i + m)) dc ⟨b, off + i, none⟩ (n - i) sc (cs.drop (i)) Tryz.underlying39 Tryz.sizeOf3 (by rw [hdl, hmin1]; omega)
   (fun j v hj => by
    rw [Addr.add_lit, hWc, World.cell?_setCells_out _ _ _ _ _ (fun h _ => absurd h hbN), Nat.add_assoc]
    exact hOb _ v (hcs (i + j) v (by rwa [List.getElem?_drop] at hj)))
   (fun j hj => by rw [hWc]; exact isSome_setCells _ _ _ _ (fun t ht => hN _ (by omega)) _ (hN _ (by omega)))
   (fun j hj => by rw [hWf, World.frozen?_setCells]; exact hNf _) (fun v hv => h1c v (List.mem_of_mem_drop hv))
  rw [hmin1] at h
  exact h
 subst hW1
 have hE1 : ∀ x, ((w.alloc (.cells ROW 3)).drew).cell? x = (w.drew.alloc (.cells ROW 3)).cell? x := fun x => rfl
 have hE2 : ∀ x, ((w.alloc (.cells ROW 3)).drew).frozen? x = (w.drew.alloc (.cells ROW 3)).frozen? x := fun x => rfl
 have hF1 : ∀ x, (((w.alloc (.cells ROW 3)).drew.setCells w.heap.size (i) vs).drew).cell? x = ((w.drew.alloc (.cells ROW 3)).setCells w.heap.size (i) vs).cell? x := fun x => rfl
 have hF2 : ∀ x, (((w.alloc (.cells ROW 3)).drew.setCells w.heap.size (i) vs).drew).frozen? x = ((w.drew.alloc (.cells ROW 3)).setCells w.heap.size (i) vs).frozen? x := fun x => rfl
 have hw1 : IntKind.i64.wrap ((i : Int) + (m : Int)) = (i : Int) + (m : Int) := by rw [IntKind.wrap_i64]; omega
 have hb1 : (0 : Int) ≤ (i : Int) + (m : Int) := by omega
 have hin : i ≤ n := by omega
 have htn : ((i : Int) + (m : Int)).toNat = i + m := by omega
 have hb3 : (i : Int) ≤ (n : Int) := by omega
 clear hkk hik hold hROW hG hRl
 go_enter Tryz.func149, Tryz.ntmps149
 go_wp2_with (first
  | (at_builtin; refine Lib.wpList_append_run _ rfl _ _ _ _ rfl _ _ rfl rfl _ _ (hrz _) ?_)
  | (at_builtin; refine wpList_copy_runI _ rfl _ _ 39 39 rfl _ _ rfl rfl (hcpA _ hE1 hE2 _ _) ?_)
  | (at_builtin; refine wpList_copy_runI _ rfl _ _ 39 39 rfl _ _ rfl rfl (hcpB _ (fun _ => rfl) (fun _ => rfl) _ _ _) ?_))
 go_region_law_o (refine step_copy_runI rfl _ _ 39 39 rfl (.slice (some ⟨w.heap.size, (i + m), none⟩) (n + m - (i + m)) (G - (i + m))) (.slice (some ⟨b, off + i, none⟩) (n - i) (c - i)) (by simp [Act.eval, Act.put]) (by simp [Act.eval, Act.put]) (hcpB _ hF1 hF2 3 (G - (i + m)) (c - i)) ?_)
 go_wp2
 go_ret
 exact ⟨rfl, rfl⟩
set_option maxHeartbeats 4000000 in
set_option maxRecDepth 100000 in
theorem ins149_last (base : Option Addr) (n c vb voff m vc : Nat) (w : World) (v' : Value) (w' : World) (hm : 0 < m) (hn : n ≤ c) (hc63 : c ≤ 9223372036854775807)
  (hrun : ∀ ty, (Builtin.append_ #[39, 39] ty #[.slice base n c, .slice (some ⟨vb, voff, none⟩) m vc]).run Tryz.prog w = .ok v' w') :
  Calls Tryz.prog 149 #[.slice base n c, .int .i64 n, .slice (some ⟨vb, voff, none⟩) m vc] w fun e w1 => e = .returned v' ∧ w1 = w' := by
 have mixed : Tryz.prog.follows Departure.mixedOrders = true := by kernel_rfl
 have hz1 : ¬ ((m : Int) = 0) := by omega
 go_enter Tryz.func149, Tryz.ntmps149
 cases base with
 | none =>
  go_wp2_with (at_builtin; refine Lib.wpList_append_run _ rfl _ _ _ _ rfl _ _ rfl rfl _ _ (hrun _) ?_)
  all_goals (go_ret; exact ⟨rfl, rfl⟩)
 | some a =>
  obtain ⟨ab, ao, asp⟩ := a
  go_wp2_with (at_builtin; refine Lib.wpList_append_run _ rfl _ _ _ _ rfl _ _ rfl rfl _ _ (hrun _) ?_)
  all_goals (go_ret; exact ⟨rfl, rfl⟩)
open Go
def DoneX (G : Ghost) (φ : Name → Loc) (σ : S) (a : Act) (r : R) (v : Value) (w' : World) : Prop :=
 ∃ φ' m', Conc G φ' m' { σ with obj := r.obj } a w' ∧ RepD φ' r.obj m' r.d v ∧ Ext φ φ' σ.obj r.obj
set_option maxHeartbeats 4000000 in
theorem s_appendX {P : Program} {G : Ghost} {φ : Name → Loc} {m : Mem} {σ : S} {a : Act} {w : World} (hC : Conc G φ m σ a w) {t : Name} {T1 T2 ty : TypeId} {s x : D} {us ux : Value}
    (hs : RepD φ σ.obj m s us) (hx : RepD φ σ.obj m x ux) (hok : (aAppend P σ.obj t T1 T2 s x).ok) :
    ∃ v w', (Builtin.append_ #[T1, T2] ty #[us, ux]).run P w = .ok v w' ∧ DoneX G φ σ a (aAppend P σ.obj t T1 T2 s x) v w' := by
  unfold aAppend at hok ⊢
  split at hok
  · rename_i e sz by_ p hT1 hT2
    obtain ⟨e2, sz2, by2⟩ := p
    obtain ⟨hu1, i, hi, hisz, hiby⟩ := tElem_spec hT1
    obtain ⟨hu2, _⟩ := tElem_spec hT2
    split at hok
    · rename_i z hz
      have hzi : i.zero = some z := by unfold tZero at hz; simpa [hi] using hz
      have grown : ∀ (base : Option Addr) (l1 : List V) (cap : Nat) (row1 : Nat → Nat → Value), us = .slice base l1.length cap →
          cap < l1.length + (srcL σ.obj x).2.length →
          (srcL σ.obj x).1 → (∀ y ∈ (srcL σ.obj x).2, y.cells.length = sz ∧ y.okc = true) → z.cells.size = sz → (l1.length + (srcL σ.obj x).2.length) * by_ ≤ 140737488355328 →
          l1.length + (srcL σ.obj x).2.length ≤ maxLen →
          (∀ i (h : i < l1.length), l1[i].cells.length = sz) → (∀ i (h : i < l1.length), ∀ x ∈ l1[i].cells, x.one = true) →
          (Builtin.firstCells i.size l1.length us).run P w.drew = .ok (rowOf row1 l1.length sz).toArray w.drew →
          (∀ i j (h : i < l1.length) (h' : j < l1[i].cells.length), RepV m l1[i].cells[j] (row1 i j)) →
          ∃ w' cap' arr, (Builtin.append_ #[T1, T2] ty #[us, ux]).run P w = .ok (.slice (some ⟨w.heap.size, 0, none⟩) (l1.length + (srcL σ.obj x).2.length) cap') w' ∧
            w' = { w with heap := w.heap.push (.cells arr e), drawn := w.drawn + 1 } ∧
            ∀ φ' obj', SatO φ' obj' m (.arr sz (l1 ++ (srcL σ.obj x).2)) ⟨w.heap.size, 0, cap', false, none⟩ w' := by
        intro base l1 cap row1 hval hlt h1 h2 h3 h4 h5 h6 h6' hfirst hrow1
        obtain ⟨b2, cap2, c2, hux, r⟩ := reads_src hC hx h1 (fun y hy => (h2 y hy).1)
        have hsrc := r.src (P := P) hu2
        rw [← hux] at hsrc
        have hones2 := r.oneV
        have hn : 0 < l1.length + (srcL σ.obj x).2.length := by omega
        have hcapS := nextslicecap_le (old := cap) (need := l1.length + (srcL σ.obj x).2.length) hlt
        subst hval
        have hrun := run_append_grow_src (P := P) w T1 T2 ty e i z hu1 hi hzi base l1.length cap (rowOf row1 l1.length sz) hfirst ux (srcL σ.obj x).2.length
          (rowOf c2 (srcL σ.obj x).2.length sz) (by rw [hisz]; exact hsrc) hlt (by unfold maxLen at h5; omega)
          (by rw [hiby]; calc _ ≤ 2 * (l1.length + (srcL σ.obj x).2.length) * by_ := Nat.mul_le_mul_right _ hcapS
              _ = 2 * ((l1.length + (srcL σ.obj x).2.length) * by_) := by rw [Nat.mul_assoc]
              _ ≤ _ := by omega)
        refine ⟨_, _, _, hrun, rfl, fun φ' obj' => ?_⟩
        have hge := grownCap_ge w (l1.length + (srcL σ.obj x).2.length) cap e
        have hle := grownCap_le_maxLen w (l1.length + (srcL σ.obj x).2.length) cap e h5
        generalize grownCap w (l1.length + (srcL σ.obj x).2.length) cap e = gc at *
        refine satO_grown (w' := { w with heap := w.heap.push _, drawn := w.drawn + 1 }) (T := e) (us := _) (by show (w.heap.push _)[w.heap.size]? = _; simp; rfl) hge hle ?_ h6 h6' (fun k hk => (h2 _ (List.getElem_mem hk)).1) hones2 ?_ ?_
        · simp only [Array.size_append, List.size_toArray, List.length_append, rowOf_len, Builtin.zeroCells, Array.size_map, Array.size_range, h3]
          have : l1.length * sz + (srcL σ.obj x).2.length * sz + (gc - (l1.length + (srcL σ.obj x).2.length)) * sz = gc * sz := by
            rw [← Nat.add_mul, ← Nat.add_mul]; congr 1; omega
          omega
        · intro q j hq hj
          have hjs : j < sz := by rw [← h6 q hq]; exact hj
          refine ⟨row1 q j, ?_, hrow1 q j hq hj⟩
          have hlt' : q * sz + j < l1.length * sz := by
            have : (q + 1) * sz ≤ l1.length * sz := Nat.mul_le_mul_right _ (by omega)
            rw [Nat.add_mul, Nat.one_mul] at this; omega
          rw [Array.getElem?_append_left (by simp [rowOf_len]; omega)]
          rw [List.getElem?_toArray, List.getElem?_append_left (by rw [rowOf_len]; omega)]
          exact rowOf_get row1 hq hjs
        · intro q j hq hj
          have hjs : j < sz := by rw [← (h2 _ (List.getElem_mem hq)).1]; exact hj
          refine ⟨c2 q j, ?_, r.rep q j hq hj⟩
          have hlt' : q * sz + j < (srcL σ.obj x).2.length * sz := by
            have : (q + 1) * sz ≤ (srcL σ.obj x).2.length * sz := Nat.mul_le_mul_right _ (by omega)
            rw [Nat.add_mul, Nat.one_mul] at this; omega
          have e9 : (l1.length + q) * sz + j = l1.length * sz + (q * sz + j) := by rw [Nat.add_mul]; omega
          rw [e9, Array.getElem?_append_left (by simp [rowOf_len]; omega)]
          rw [List.getElem?_toArray, List.getElem?_append_right (by rw [rowOf_len]; omega), rowOf_len, Nat.add_sub_cancel_left]
          exact rowOf_get c2 hq hjs
      split at hok
      ·
        obtain ⟨h1, h2, h3, h4, h5, h6⟩ := hok
        try simp only [hT1, hT2, hz]
        cases hs with
        | nilsl base =>
        by_cases hl : (srcL σ.obj x).2 = []
        · obtain ⟨b2, cap2, c2, hux, r⟩ := reads_src hC hx h1 (fun y hy => (h2 y hy).1)
          have hsrc := r.src (P := P) hu2
          rw [← hux] at hsrc
          rw [hl] at hsrc ⊢
          refine ⟨.slice base 0 0, w, ?_, ?_⟩
          · simp only [List.length_nil] at hsrc
            have e0 : rowOf c2 0 sz = [] := by simp [rowOf]
            rw [e0] at hsrc
            have hc := hsrc.cells
            rw [← hisz] at hc
            cases base with
            | none => simp [Builtin.append_, run_underlying hu1, run_underlying hu2, sizeOf, typeInfo, hi, hsrc.len, hc]
            | some ad => simp [Builtin.append_, run_underlying hu1, run_underlying hu2, sizeOf, typeInfo, hi, hsrc.len, hc, storeCells]
          · have hx' := Ext.new (φ := φ) h6 ⟨0, 0, 0, true, base⟩ (.arr sz [])
            refine ⟨upd φ (nmO t) ⟨0, 0, 0, true, base⟩, m, hC.chg (w' := w) (nmO t) (.arr sz []) ⟨0, 0, 0, true, base⟩ hx' ⟨rfl, rfl, rfl, Nat.le_refl _⟩ (fun _ _ _ => rfl)
              (fun h => by cases h) (.inl ⟨rfl, rfl⟩), ?_, hx'⟩
            refine .msl _ _ _ ⟨_, _, upd_same _ _ _, rfl, by simp, fun _ => ?_⟩ rfl
            rw [upd_same]; rfl
        · have hpos := len_pos hl
          obtain ⟨w', cap', arr, hrun, hw', hsat⟩ := grown base [] 0 (fun _ _ => undef) rfl (by simpa using hpos) h1 h2 h3 (by simpa using h4) (by simpa using h5) (fun i h => by simp at h) (fun i h => by simp at h)
            (by
              have e0 : rowOf (fun _ _ => undef) ([] : List V).length sz = [] := by simp [rowOf]
              rw [e0]
              cases base with
              | none => simp [Builtin.firstCells]
              | some ad => simp [Builtin.firstCells, loadCells, loadCellsFrom]) (fun i j h => by simp at h)
          refine ⟨_, _, hrun, ?_⟩
          subst hw'
          have hx' := Ext.new (φ := φ) h6 ⟨w.heap.size, 0, cap', false, none⟩ (.arr sz (srcL σ.obj x).2)
          refine ⟨upd φ (nmO t) ⟨w.heap.size, 0, cap', false, none⟩, m, hC.chg (nmO t) _ ⟨w.heap.size, 0, cap', false, none⟩ hx' ⟨rfl, rfl, rfl, by show w.heap.size ≤ (w.heap.push _).size; simp⟩
            (fun b hb _ => heap_push_lt hb) (fun _ => .inl (Nat.le_refl _)) (hsat _ _), ?_, hx'⟩
          refine .msl _ _ _ ⟨_, _, upd_same _ _ _, rfl, by simp, fun _ => ?_⟩ rfl
          rw [upd_same]
          simp [Loc.slice]
      · rename_i nm k
        split at hok
        · rename_i s' l hnm
          obtain ⟨h1, h2, h3, h4, h5, h6, h7⟩ := hok
          subst h7
          simp only [hT1, hT2, hz, hnm]
          cases hs with
          | msl _ _ _ hs hu' =>
          obtain ⟨o, n, hnm', hlen, hk, hval⟩ := hs
          rw [hnm] at hnm'; cases hnm'
          simp only [O.len?, Option.some.injEq] at hlen
          subst hlen
          have e9 := hval h6
          subst e9
          subst h6
          by_cases hl : (srcL σ.obj x).2 = [] ∧ (φ nm).nul = true
          · obtain ⟨hl, hnul⟩ := hl
            have hlnil : l = [] := by
              rcases hC.objs nm _ hnm with ⟨_, h⟩ | ⟨h, _⟩
              · exact h
              · rw [hnul] at h; cases h
            subst hlnil
            obtain ⟨b2, cap2, c2, hux, r⟩ := reads_src hC hx h1 (fun y hy => (h2 y hy).1)
            have hsrc := r.src (P := P) hu2
            rw [← hux] at hsrc
            rw [hl] at hsrc ⊢
            simp only [Loc.slice, hnul, if_true]
            refine ⟨.slice (φ nm).nb 0 0, w, ?_, ?_⟩
            · simp only [List.length_nil] at hsrc
              have e0 : rowOf c2 0 s' = [] := by simp [rowOf]
              rw [e0] at hsrc
              have hc := hsrc.cells
              rw [← hisz] at hc
              cases (φ nm).nb with
              | none => simp [Builtin.append_, run_underlying hu1, run_underlying hu2, sizeOf, typeInfo, hi, hsrc.len, hc]
              | some ad => simp [Builtin.append_, run_underlying hu1, run_underlying hu2, sizeOf, typeInfo, hi, hsrc.len, hc, storeCells]
            · refine ⟨φ, m, ?_, ?_, ?_⟩
              · have : upd σ.obj nm (some (.arr s' ([] ++ []))) = σ.obj := by
                  have := upd_id σ.obj nm
                  rw [hnm] at this
                  simpa using this
                simp only [this]
                exact hC
              · refine .msl _ _ _ ⟨_, _, upd_same _ _ _, rfl, by simp, fun _ => ?_⟩ rfl
                simp [Loc.slice, hnul]
              · have : upd σ.obj nm (some (.arr s' ([] ++ []))) = σ.obj := by
                  have := upd_id σ.obj nm
                  rw [hnm] at this
                  simpa using this
                simp only [this]
                exact Ext.refl _ _
          · obtain ⟨b2, cap2, c2, hux, r⟩ := reads_src hC hx h1 (fun y hy => (h2 y hy).1)
            have hsrc := r.src (P := P) hu2
            rw [← hux] at hsrc
            rcases hC.objs nm _ hnm with ⟨hnul, hlnil⟩ | ⟨g0, g1, g2, g3, g4, us', T', f, g5, g6, g7, g8⟩
            · subst hlnil
              have hne : (srcL σ.obj x).2 ≠ [] := fun e => hl ⟨e, hnul⟩
              have hpos := len_pos hne
              simp only [Loc.slice, hnul, if_true] at grown ⊢
              obtain ⟨w', cap', arr, hrun, hw', hsat⟩ := grown (φ nm).nb [] 0 (fun _ _ => undef) rfl (by simpa using hpos) h1 h2 h3 h4 h5 (fun i h => by simp at h) (fun i h => by simp at h)
                (by
                  have e0 : rowOf (fun _ _ => undef) ([] : List V).length s' = [] := by simp [rowOf]
                  rw [e0]
                  cases (φ nm).nb with
                  | none => simp [Builtin.firstCells]
                  | some ad => simp [Builtin.firstCells, loadCells, loadCellsFrom]) (fun i j h => by simp at h)
              refine ⟨_, _, hrun, ?_⟩
              subst hw'
              have hx' := Ext.grow (φ := φ) (o' := .arr s' ([] ++ (srcL σ.obj x).2)) hnm rfl rfl (by simpa using hpos) ⟨w.heap.size, 0, cap', false, none⟩
              refine ⟨upd φ nm ⟨w.heap.size, 0, cap', false, none⟩, m, hC.chg nm _ ⟨w.heap.size, 0, cap', false, none⟩ hx' ⟨rfl, rfl, rfl, by show w.heap.size ≤ (w.heap.push _).size; simp⟩
                (fun b hb _ => heap_push_lt hb) (fun _ => .inl (Nat.le_refl _)) (hsat _ _), ?_, hx'⟩
              refine .msl _ _ _ ⟨_, _, upd_same _ _ _, rfl, by simp, fun _ => ?_⟩ rfl
              rw [upd_same]
              simp [Loc.slice]
            · have hblk : (φ nm).blk < w.heap.size := (Array.getElem?_eq_some_iff.1 g5).1
              simp only [Loc.slice, g0, Bool.false_eq_true, if_false] at grown ⊢
              by_cases hroom : l.length + (srcL σ.obj x).2.length ≤ (φ nm).cap
              ·
                have hmulr : (l.length + (srcL σ.obj x).2.length) * s' ≤ (φ nm).cap * s' := Nat.mul_le_mul_right _ hroom
                rw [Nat.add_mul] at hmulr
                obtain ⟨us2, k1, k2, k3⟩ := run_storeCells_run P (φ nm).blk ((φ nm).off + l.length * s') T' f g6 (rowOf c2 (srcL σ.obj x).2.length s') 0 us' w g5 (by rw [rowOf_len]; omega)
                  (fun v hv => by
                    have := hsrc.one v hv
                    cases v <;> simp_all [oneC, Value.oneCell'])
                refine ⟨.slice (some ⟨(φ nm).blk, (φ nm).off, none⟩) (l.length + (srcL σ.obj x).2.length) (φ nm).cap, wset w (φ nm).blk (.cells us2 T' f), ?_, ?_⟩
                · have hc := hsrc.cells
                  rw [← hisz] at hc k3
                  simp [Builtin.append_, run_underlying hu1, run_underlying hu2, sizeOf, typeInfo, hi, hsrc.len, hc, hroom, addr_add, k3]
                · have hspec : SatO (upd φ nm (φ nm)) (upd σ.obj nm (some (.arr s' (l ++ (srcL σ.obj x).2)))) m (.arr s' (l ++ (srcL σ.obj x).2)) (φ nm) (wset w (φ nm).blk (.cells us2 T' f)) := by
                    refine .inr ⟨g0, by simpa using hroom, g2, fun q hq => ?_, fun q hq => ?_, us2, T', f, wset_same hblk, g6, by rw [k1]; exact g7, fun q j hq hj => ?_⟩
                    · by_cases h : q < l.length
                      · rw [List.getElem_append_left h]; exact g3 q h
                      · rw [List.getElem_append_right (by omega)]; exact (h2 _ (List.getElem_mem _)).1
                    · by_cases h : q < l.length
                      · rw [List.getElem_append_left h]; exact g4 q h
                      · rw [List.getElem_append_right (by omega)]
                        exact r.oneV _ _
                    · rw [k2]
                      simp only [Nat.add_zero, rowOf_len]
                      by_cases h : q < l.length
                      · simp only [List.getElem_append_left h] at hj ⊢
                        have hjs : j < s' := by rw [← g3 q h]; exact hj
                        have hlt' : q * s' + j < l.length * s' := by
                          have : (q + 1) * s' ≤ l.length * s' := Nat.mul_le_mul_right _ (by omega)
                          rw [Nat.add_mul, Nat.one_mul] at this; omega
                        rw [if_neg (by omega)]
                        exact g8 q j h hj
                      · simp only [List.getElem_append_right (show l.length ≤ q by omega)] at hj ⊢
                        have hql : q - l.length < (srcL σ.obj x).2.length := by simp at hq; omega
                        have hjs : j < s' := by rw [← (h2 _ (List.getElem_mem hql)).1]; exact hj
                        have hlt' : (q - l.length) * s' + j < (srcL σ.obj x).2.length * s' := by
                          have : (q - l.length + 1) * s' ≤ (srcL σ.obj x).2.length * s' := Nat.mul_le_mul_right _ (by omega)
                          rw [Nat.add_mul, Nat.one_mul] at this; omega
                        have e10 : q * s' = l.length * s' + (q - l.length) * s' := by rw [← Nat.add_mul]; congr 1; omega
                        rw [if_pos (by omega)]
                        refine ⟨c2 (q - l.length) j, ?_, r.rep _ _ hql hj⟩
                        rw [show (φ nm).off + q * s' + j - ((φ nm).off + l.length * s') = (q - l.length) * s' + j by omega]
                        exact rowOf_get c2 hql hjs
                  by_cases hl2 : (srcL σ.obj x).2 = []
                  · have hx' := Ext.same (φ := φ) (o' := .arr s' (l ++ (srcL σ.obj x).2)) hnm (by simp [O.len?, hl2]) rfl
                    have := hC.chg (w' := wset w (φ nm).blk (.cells us2 T' f)) nm (.arr s' (l ++ (srcL σ.obj x).2)) (φ nm) hx' ⟨rfl, rfl, rfl, by simp [wset]⟩
                      (fun b hb hn => wset_ne (by rcases hn with h | h; · rw [g0] at h; cases h
                                                  · exact h))
                      (fun _ => .inr ⟨⟨_, hnm, rfl, g0⟩, rfl⟩) hspec
                    refine ⟨_, m, this, ?_, hx'⟩
                    refine .msl _ _ _ ⟨_, _, upd_same _ _ _, rfl, by simp, fun _ => ?_⟩ rfl
                    rw [upd_same]
                    simp [Loc.slice, g0]
                  · have hpos := len_pos hl2
                    have hx' := Ext.grow (φ := φ) (o' := .arr s' (l ++ (srcL σ.obj x).2)) hnm rfl rfl (by simp; omega) (φ nm)
                    have := hC.chg (w' := wset w (φ nm).blk (.cells us2 T' f)) nm (.arr s' (l ++ (srcL σ.obj x).2)) (φ nm) hx' ⟨rfl, rfl, rfl, by simp [wset]⟩
                      (fun b hb hn => wset_ne (by rcases hn with h | h; · rw [g0] at h; cases h
                                                  · exact h))
                      (fun _ => .inr ⟨⟨_, hnm, rfl, g0⟩, rfl⟩) hspec
                    refine ⟨_, m, this, ?_, hx'⟩
                    refine .msl _ _ _ ⟨_, _, upd_same _ _ _, rfl, by simp, fun _ => ?_⟩ rfl
                    rw [upd_same]
                    simp [Loc.slice, g0]
              ·
                have hpos : 0 < (srcL σ.obj x).2.length := by omega
                have hcl : ∀ i j, i < l.length → j < s' → w.cell? ⟨(φ nm).blk, (φ nm).off + i * s' + j, none⟩ = some ((us'[(φ nm).off + i * s' + j]?).getD undef) := by
                  intro i j hi hj
                  obtain ⟨c, x1, x2⟩ := g8 i j hi (by rw [g3]; exact hj)
                  rw [cell?_of g5, x1]; rfl
                obtain ⟨w', cap', arr, hrun, hw', hsat⟩ := grown (some ⟨(φ nm).blk, (φ nm).off, none⟩) l (φ nm).cap (fun i j => (us'[(φ nm).off + i * s' + j]?).getD undef) rfl (by omega) h1 h2 h3 h4 h5 g3 g4
                  (by
                    have := run_firstCells_some (P := P) w.drew i.size l.length ⟨(φ nm).blk, (φ nm).off, none⟩ l.length (φ nm).cap (rowOf (fun i j => (us'[(φ nm).off + i * s' + j]?).getD undef) l.length s')
                      (by rw [rowOf_len, hisz]) (by intro j v hv; simpa using rowOf_cell hcl j v hv)
                    exact this)
                  (fun i j hi hj => by
                    obtain ⟨c, x1, x2⟩ := g8 i j hi hj
                    rw [x1]; exact x2)
                refine ⟨_, _, hrun, ?_⟩
                subst hw'
                have hx' := Ext.grow (φ := φ) (o' := .arr s' (l ++ (srcL σ.obj x).2)) hnm rfl rfl (by simp; omega) ⟨w.heap.size, 0, cap', false, none⟩
                refine ⟨upd φ nm ⟨w.heap.size, 0, cap', false, none⟩, m, hC.chg nm _ ⟨w.heap.size, 0, cap', false, none⟩ hx' ⟨rfl, rfl, rfl, by show w.heap.size ≤ (w.heap.push _).size; simp⟩
                  (fun b hb _ => heap_push_lt hb) (fun _ => .inl (Nat.le_refl _)) (hsat _ _), ?_, hx'⟩
                refine .msl _ _ _ ⟨_, _, upd_same _ _ _, rfl, by simp, fun _ => ?_⟩ rfl
                rw [upd_same]
                simp [Loc.slice]
        · exact hok.elim
      · exact hok.elim
    · exact hok.elim
  · exact hok.elim
open Go Go.RowKit
structure InsLaw (P : Program) (F T E K BY : Nat) (Z : Value) : Prop where
 tE : tElem P T = some (E, K, BY)
 tZ : tZero P E = some Z
 zK : Z.cells.size = K
 pos : 0 < K
 ne : F ≠ yid
 enter : ∀ args w, (callFunc F args).run P w = .ok (.enter F args) w
 shift : ∀ (b off n c i vb voff m vc : Nat) (cs vs : List Value) (w : World), i < n → 0 < m → n + m ≤ c → c ≤ 9223372036854775807 → vb ≠ b → cs.length = n * K → vs.length = m * K →
  (∀ j v, cs[j]? = some v → w.cell? ⟨b, off + j, none⟩ = some v) → (∀ j, j < (n + m) * K → (w.cell? ⟨b, off + j, none⟩).isSome = true) → (∀ j, w.frozen? ⟨b, j, none⟩ = false) →
  (∀ j v, vs[j]? = some v → w.cell? ⟨vb, voff + j, none⟩ = some v) → (∀ v ∈ cs, v.oneCell' = true) → (∀ v ∈ vs, v.oneCell' = true) →
  ∀ (tA tB : TypeId) (kA kB : Nat), w.shape? vb = some (tA, kA) → w.shape? b = some (tB, kB) → kA ≠ 0 →
  Calls P F #[.slice (some ⟨b, off, none⟩) n c, .int .i64 i, .slice (some ⟨vb, voff, none⟩) m vc] w fun e w' =>
   e = .returned (.slice (some ⟨b, off, none⟩) (n + m) c) ∧ w' = (w.drew.setCells b (off + (i + m) * K) (cs.drop (i * K))).setCells b (off + i * K) vs
 grow : ∀ (b off n c i vb voff m vc : Nat) (cs vs : List Value) (w : World), i < n → 0 < m → n ≤ c → c < n + m → (n + m) * BY ≤ 140737488355328 → cs.length = n * K → vs.length = m * K →
  (∀ j v, cs[j]? = some v → w.cell? ⟨b, off + j, none⟩ = some v) → (∀ j v, vs[j]? = some v → w.cell? ⟨vb, voff + j, none⟩ = some v) → (∀ v ∈ cs, v.oneCell' = true) → (∀ v ∈ vs, v.oneCell' = true) →
  Calls P F #[.slice (some ⟨b, off, none⟩) n c, .int .i64 i, .slice (some ⟨vb, voff, none⟩) m vc] w fun e w' =>
   e = .returned (.slice (some ⟨w.heap.size, 0, none⟩) (n + m) (grownCap w (n + m) c E)) ∧
   w' = (((w.alloc (.cells ((cs.take (i * K)).toArray ++ Builtin.zeroCells Z.cells (n + m - i) ++ Builtin.zeroCells Z.cells (grownCap w (n + m) c E - (n + m))) E)).drew.setCells w.heap.size (i * K) vs).drew).setCells w.heap.size ((i + m) * K) (cs.drop (i * K))
 last : ∀ (base : Option Addr) (n c vb voff m vc : Nat) (w : World) (v' : Value) (w' : World), 0 < m → n ≤ c → c ≤ 9223372036854775807 →
  (∀ ty, (Builtin.append_ #[T, T] ty #[.slice base n c, .slice (some ⟨vb, voff, none⟩) m vc]).run P w = .ok v' w') →
  Calls P F #[.slice base n c, .int .i64 n, .slice (some ⟨vb, voff, none⟩) m vc] w fun e w1 => e = .returned v' ∧ w1 = w'
theorem wset_id {w : World} {b : Nat} {o : Obj} (h : w.heap[b]? = some o) : wset w b o = w := by
 unfold wset
 have : w.heap.setIfInBounds b o = w.heap := by
  apply Array.ext_getElem?
  intro i
  by_cases e : i = b
  ·subst e
   have hb := (Array.getElem?_eq_some_iff.1 h).1
   simp [hb, h]
   rw [Array.getElem?_eq_getElem hb] at h
   exact (Option.some.inj h).symm
  ·rw [Array.getElem?_setIfInBounds_ne (fun h => e h.symm)]
 rw [this]
theorem setCells_heap (b : Nat) (T : TypeId) (f : Nat × Nat) : ∀ (vs : List Value) (o : Nat) (w : World) (us : Array Value), w.heap[b]? = some (.cells us T f) →
  ∃ us', w.setCells b o vs = wset w b (.cells us' T f) ∧ us'.size = us.size ∧ ∀ k, k < us.size → us'[k]? = if o ≤ k ∧ k < o + vs.length then vs[k - o]? else us[k]?
 | [], o, w, us, h => ⟨us, (wset_id h).symm, rfl, fun k _ => by simp; intro h1 h2; omega⟩
 | v :: r, o, w, us, h => by
  have hb := (Array.getElem?_eq_some_iff.1 h).1
  have e1 : w.setCell ⟨b, o, none⟩ v = wset w b (.cells (us.setIfInBounds o v) T f) := setCell_wset h v
  obtain ⟨us', k1, k2, k3⟩ := setCells_heap b T f r (o + 1) (wset w b (.cells (us.setIfInBounds o v) T f)) (us.setIfInBounds o v) (wset_same hb)
  refine ⟨us', ?_, by rw [k2]; simp, fun k hk => ?_⟩
  ·show (w.setCell ⟨b, o, none⟩ v).setCells b (o + 1) r = _
   rw [e1, k1, wset_wset]
  ·rw [k3 k (by simpa using hk)]
   by_cases e : k = o
   ·subst e
    rw [if_neg (by omega), if_pos (by simp)]
    simp [hk]
   ·rw [Array.getElem?_setIfInBounds_ne (fun h => e h.symm)]
    simp only [List.length_cons]
    by_cases h1 : o + 1 ≤ k ∧ k < o + 1 + r.length
    ·rw [if_pos h1, if_pos (by omega), show k - o = (k - (o + 1)) + 1 by omega]; simp
    ·rw [if_neg h1, if_neg (by omega)]
theorem ins_get {l vs : List V} {i q : Nat} (hi : i ≤ l.length) (hq : q < (l.take i ++ vs ++ l.drop i).length) :
  (q < i ∧ ∃ h : q < l.length, (l.take i ++ vs ++ l.drop i)[q] = l[q]) ∨ (i ≤ q ∧ q < i + vs.length ∧ ∃ h : q - i < vs.length, (l.take i ++ vs ++ l.drop i)[q] = vs[q - i]) ∨
   (i + vs.length ≤ q ∧ ∃ h : q - vs.length < l.length, (l.take i ++ vs ++ l.drop i)[q] = l[q - vs.length]) := by
 have hlen : (l.take i).length = i := by simp; omega
 by_cases h1 : q < i
 ·refine .inl ⟨h1, by omega, ?_⟩
  rw [List.getElem_append_left (by simp; omega), List.getElem_append_left (by omega), List.getElem_take]
 ·by_cases h2 : q < i + vs.length
  ·refine .inr (.inl ⟨by omega, h2, by omega, ?_⟩)
   rw [List.getElem_append_left (by simp; omega), List.getElem_append_right (by omega)]
   congr 1
   omega
  ·have hq' := hq
   simp only [List.length_append, List.length_take, List.length_drop] at hq'
   refine .inr (.inr ⟨by omega, by omega, ?_⟩)
   rw [List.getElem_append_right (by simp; omega), List.getElem_drop]
   congr 1
   simp
   omega
def aInsert (P : Program) (obj : Name → Option O) (t : Name) (T : TypeId) (s i x : D) : R :=
 match i with
 | .v (.int .i64 n) => match x with
  | .v (.sl vs) => match s with
   | .nilsl => ⟨(aAppend P obj t T T .nilsl (.v (.sl vs))).ok ∧ n = 0 ∧ vs ≠ [], (aAppend P obj t T T .nilsl (.v (.sl vs))).d, (aAppend P obj t T T .nilsl (.v (.sl vs))).obj⟩
   | .msl nm k => match obj nm with
    | some (.arr sz l) => match Nat.beq n.toNat l.length with
     | true => ⟨(aAppend P obj t T T (.msl nm k) (.v (.sl vs))).ok ∧ 0 ≤ n ∧ vs ≠ [], (aAppend P obj t T T (.msl nm k) (.v (.sl vs))).d, (aAppend P obj t T T (.msl nm k) (.v (.sl vs))).obj⟩
     | false => ⟨(aAppend P obj t T T (.msl nm k) (.v (.sl vs))).ok ∧ 0 ≤ n ∧ n.toNat < l.length ∧ vs ≠ [], .msl nm (l.length + vs.length), upd obj nm (some (.arr sz (l.take n.toNat ++ vs ++ l.drop n.toNat)))⟩
    | _ => .bad obj
   | _ => .bad obj
  | _ => .bad obj
 | _ => .bad obj
def insSpec (P : Program) (T : TypeId) : Spec where
 app obj t ds := match ds with | [s, i, x] => aInsert P obj t T s i x | _ => .bad obj
 foot obj t ds := match ds with | [s, i, x] => tops s ++ tops x ++ [nmO t] | _ => []
 wrt obj t ds := match ds with | [s, i, x] => tops s ++ tops x ++ [nmO t] | _ => []
theorem like_insert {P : Program} {obj obj2 : Name → Option O} {t : Name} {T : TypeId} {s i x : D} (h : Agr (tops s ++ tops x ++ [nmO t]) obj obj2) :
  Like (aInsert P obj t T s i x) (aInsert P obj2 t T s i x) obj obj2 (tops s ++ tops x ++ [nmO t]) := by
 unfold aInsert
 split
 ·rename_i n
  split
  ·rename_i vs
   have L := fun s h => like_append (P := P) (obj := obj) (obj2 := obj2) (t := t) (T1 := T) (T2 := T) (s := s) (x := .v (.sl vs)) h
   split
   ·have l := L .nilsl h
    exact ⟨by rw [l.ok], l.d, l.eff, l.frame⟩
   ·rename_i nm k
    have l := L (.msl nm k) h
    have h' : obj2 nm = obj nm := h nm (by simp [tops])
    simp only [h']
    split
    ·rename_i sz l' hl'
     split
     ·exact ⟨by rw [l.ok], l.d, l.eff, l.frame⟩
     ·have l2 : Like ⟨True, D.msl nm (l'.length + vs.length), upd obj nm (some (.arr sz (l'.take n.toNat ++ vs ++ l'.drop n.toNat)))⟩ ⟨True, D.msl nm (l'.length + vs.length), upd obj2 nm (some (.arr sz (l'.take n.toNat ++ vs ++ l'.drop n.toNat)))⟩ obj obj2 (tops (.msl nm k) ++ tops (.v (.sl vs)) ++ [nmO t]) := .one (by simp [tops]) h
      exact ⟨by rw [l.ok], l2.d, l2.eff, l2.frame⟩
    ·exact .none _ h
   ·exact .none _ h
  ·exact .none _ h
 ·exact .none _ h
theorem insSpec_near (P : Program) (T : TypeId) : (insSpec P T).Near := by
 refine ⟨fun obj obj2 t ds h => ?_, fun obj obj2 t ds h => rfl, fun obj t ds nm hn => hn, fun obj obj2 t ds h => rfl⟩
 simp only [insSpec] at h ⊢
 split
 ·exact like_insert h
 ·exact .same rfl rfl rfl rfl
theorem mul_le_of {K a b : Nat} (h : a < b) : a * K + K ≤ b * K := by
 have := Nat.mul_le_mul_right K (show a + 1 ≤ b by omega)
 rwa [Nat.add_mul, Nat.one_mul] at this
theorem ins_cells {m : Mem} {l vs : List V} {i K o : Nat} {c1 c2 : Nat → Nat → Value} {us : Array Value} (hi : i ≤ l.length)
  (h1 : ∀ q j (h : q < l.length) (h' : j < l[q].cells.length), RepV m l[q].cells[j] (c1 q j)) (h2 : ∀ q j (h : q < vs.length) (h' : j < vs[q].cells.length), RepV m vs[q].cells[j] (c2 q j))
  (s1 : ∀ q (h : q < l.length), l[q].cells.length = K) (s2 : ∀ q (h : q < vs.length), vs[q].cells.length = K)
  (ha : ∀ q j, q < i → j < K → us[o + q * K + j]? = some (c1 q j))
  (hb : ∀ q j, q < vs.length → j < K → us[o + (i + q) * K + j]? = some (c2 q j))
  (hc : ∀ q j, i ≤ q → q < l.length → j < K → us[o + (vs.length + q) * K + j]? = some (c1 q j)) :
  ∀ q j (h : q < (l.take i ++ vs ++ l.drop i).length) (h' : j < (l.take i ++ vs ++ l.drop i)[q].cells.length), ∃ c, us[o + q * K + j]? = some c ∧ RepV m (l.take i ++ vs ++ l.drop i)[q].cells[j] c := by
 intro q j h h'
 rcases ins_get hi h with ⟨e1, e2, e3⟩ | ⟨e1, e1', e2, e3⟩ | ⟨e1, e2, e3⟩
 ·simp only [e3] at h' ⊢
  exact ⟨_, ha q j e1 (by rw [← s1 q e2]; exact h'), h1 q j e2 h'⟩
 ·simp only [e3] at h' ⊢
  refine ⟨_, ?_, h2 _ j e2 h'⟩
  have := hb (q - i) j e2 (by rw [← s2 _ e2]; exact h')
  rwa [show i + (q - i) = q by omega] at this
 ·simp only [e3] at h' ⊢
  refine ⟨_, ?_, h1 _ j e2 h'⟩
  have := hc (q - vs.length) j (by omega) e2 (by rw [← s1 _ e2]; exact h')
  rwa [show vs.length + (q - vs.length) = q by omega] at this
theorem ins_size {l vs : List V} {i K : Nat} (hi : i ≤ l.length) (s1 : ∀ q (h : q < l.length), l[q].cells.length = K) (s2 : ∀ q (h : q < vs.length), vs[q].cells.length = K) :
  ∀ q (h : q < (l.take i ++ vs ++ l.drop i).length), (l.take i ++ vs ++ l.drop i)[q].cells.length = K := by
 intro q h
 rcases ins_get hi h with ⟨_, e2, e3⟩ | ⟨_, _, e2, e3⟩ | ⟨_, e2, e3⟩ <;> rw [e3]
 ·exact s1 _ _
 ·exact s2 _ _
 ·exact s1 _ _
theorem ins_one {l vs : List V} {i : Nat} (hi : i ≤ l.length) (s1 : ∀ q (h : q < l.length), ∀ x ∈ l[q].cells, x.one = true) (s2 : ∀ q (h : q < vs.length), ∀ x ∈ vs[q].cells, x.one = true) :
  ∀ q (h : q < (l.take i ++ vs ++ l.drop i).length), ∀ x ∈ (l.take i ++ vs ++ l.drop i)[q].cells, x.one = true := by
 intro q h
 rcases ins_get hi h with ⟨_, e2, e3⟩ | ⟨_, _, e2, e3⟩ | ⟨_, e2, e3⟩ <;> rw [e3]
 ·exact s1 _ _
 ·exact s2 _ _
 ·exact s1 _ _
set_option maxHeartbeats 1000000 in
theorem ins_sound {P : Program} {F T E K BY : Nat} {Z : Value} (L : InsLaw P F T E K BY Z) : SSound P F (insSpec P T) := by
  refine ⟨insSpec_near P T, fun _ => L.enter, fun _ G φ m σ a w hC t ds us _ hl hr hok => ?_, fun e => (L.ne e).elim⟩
  simp only [insSpec] at hok ⊢
  split at hok
  case h_2 => exact hok.elim
  rename_i s i x
  simp only [List.length_cons, List.length_nil] at hl
  have r0 := hr 0 (by simp) (by omega)
  have r1 := hr 1 (by simp) (by omega)
  have r2 := hr 2 (by simp) (by omega)
  simp only [List.getElem_cons_zero, List.getElem_cons_succ] at r0 r1 r2
  have hus : us = #[us[0], us[1], us[2]] := by
    apply Array.ext
    · simp; omega
    · intro j h1 h2
      have : j = 0 ∨ j = 1 ∨ j = 2 := by omega
      rcases this with rfl | rfl | rfl <;> rfl
  rw [hus]
  generalize us[0] = u0 at r0
  generalize us[1] = u1 at r1
  generalize us[2] = u2 at r2
  clear hus hr hl us
  simp only [aInsert] at hok ⊢
  split at hok
  case h_2 => exact hok.elim
  rename_i n
  cases r1 with
  | v _ _ r1 =>
  cases r1 with
  | int _ _ =>
  split at hok
  case h_2 => exact hok.elim
  rename_i vs
  have hx := r2
  cases r2 with
  | v _ _ r2 =>
  have fin : ∀ (u : Value) (base : Option Addr) (k c : Nat) (s : D), u = .slice base k c → k ≤ c → c ≤ 9223372036854775807 → n = (k : Int) → RepD φ σ.obj m s u → vs ≠ [] → (aAppend P σ.obj t T T s (.v (.sl vs))).ok →
      Calls P F #[u, .int .i64 n, u2] w fun e w' => ∃ v φ' m', e = .returned v ∧ Conc G φ' m' { σ with obj := (aAppend P σ.obj t T T s (.v (.sl vs))).obj } a w' ∧
        RepD φ' (aAppend P σ.obj t T T s (.v (.sl vs))).obj m' (aAppend P σ.obj t T T s (.v (.sl vs))).d v ∧ Ext φ φ' σ.obj (aAppend P σ.obj t T T s (.v (.sl vs))).obj := by
    intro u base k c s hu hkc hc hn hs hne hap
    obtain ⟨v, w', h1, φ', m', h2, h3, h4⟩ := s_appendX (ty := 0) hC hs hx hap
    subst hu
    subst hn
    cases r2 with
    | slnil => exact (hne rfl).elim
    | sl _ vb vo vc sz c2 hn2 hl2 hcap2 hs2 hc2 hr2 ho2 =>
    refine (L.last base k c vb vo vs.length vc w v w' (List.length_pos_iff.2 hne) hkc hc fun ty => ?_).mono ?_
    · rw [← h1]; rfl
    · rintro e w1 ⟨rfl, rfl⟩
      exact ⟨v, φ', m', rfl, h2, h3, h4⟩
  split at hok
  ·
    obtain ⟨h1, h2, h3⟩ := hok
    have r0' := r0
    cases r0 with
    | nilsl base => exact fin _ base 0 0 .nilsl rfl (Nat.le_refl _) (by omega) h2 r0' h3 h1
  · rename_i nm k
    split at hok
    case h_2 => exact hok.elim
    rename_i sz l hnm
    have r0' := r0
    cases r0 with
    | msl _ _ _ hh hu' =>
    obtain ⟨o, nn, hnm', hlen, hk, hval⟩ := hh
    rw [hnm] at hnm'; cases hnm'
    simp only [O.len?, Option.some.injEq] at hlen
    subst hlen
    split at hok
    ·
      rename_i hb
      obtain ⟨h1, h2, h3⟩ := hok
      have hb' := Nat.eq_of_beq_eq_true hb
      have hkl : k = l.length := by
        simp only [aAppend, L.tE, L.tZ, hnm] at h1
        exact h1.2.2.2.2.2.1
      have hv := hval hkl
      simp only [hb]
      subst hkl
      rcases hC.objs nm _ hnm with ⟨hnul, hlnil⟩ | ⟨g0, g1, g2, _⟩
      · subst hlnil
        refine fin u0 (φ nm).nb 0 0 _ ?_ (Nat.le_refl _) (by omega) (by simp at hb'; omega) r0' h3 h1
        rw [hv]; simp [Loc.slice, hnul]
      · refine fin u0 _ l.length (φ nm).cap _ (by rw [hv]; simp only [Loc.slice, g0]; rfl) g1 (by unfold maxLen at g2; omega) (by omega) r0' h3 h1
    ·
      rename_i hb
      obtain ⟨h1, h2, h3, h4⟩ := hok
      simp only [hb]
      simp only [aAppend, L.tE, L.tZ, hnm, srcL] at h1
      obtain ⟨_, q1, _, q3, q4, hkl, hszK⟩ := h1
      subst hkl
      subst hszK
      have hv := hval rfl
      obtain ⟨i, rfl⟩ : ∃ i : Nat, n = (i : Int) := ⟨n.toNat, by omega⟩
      simp only [Int.toNat_natCast] at h3 ⊢
      have hmpos : 0 < vs.length := List.length_pos_iff.2 h4
      cases r2 with
      | slnil => exact (h4 rfl).elim
      | sl _ vb vo vc sz2 c2 hn2 hl2 hcap2 hs2 hc2 hr2 ho2 =>
      have hsz2 : sz2 = sz := by rw [← hs2 0 hmpos]; exact (q1 _ (List.getElem_mem _)).1
      subst hsz2
      rcases hC.objs nm _ hnm with ⟨hnul, hlnil⟩ | ⟨g0, g1, g2, g3, g4, us', T', f, g5, g6, g7, g8⟩
      · subst hlnil; simp at h3
      have hblk : (φ nm).blk < w.heap.size := (Array.getElem?_eq_some_iff.1 g5).1
      have hu0 : u0 = .slice (some ⟨(φ nm).blk, (φ nm).off, none⟩) l.length (φ nm).cap := by rw [hv]; simp only [Loc.slice, g0]; rfl
      subst hu0
      have hholds : holds φ σ.obj nm := ⟨_, hnm, rfl, g0⟩
      generalize hb0 : (φ nm).blk = b at *
      generalize ho0 : (φ nm).off = off at *
      generalize hc0 : (φ nm).cap = cap at *
      have hin : i ≤ l.length := by omega
      obtain ⟨c1, hc1⟩ : ∃ c1 : Nat → Nat → Value, ∀ q j, q < l.length → j < sz2 → us'[off + q * sz2 + j]? = some (c1 q j) := ⟨fun q j => (us'[off + q * sz2 + j]?).getD undef, fun q j hq hj => by
        obtain ⟨c, x1, _⟩ := g8 q j hq (by rw [g3]; exact hj)
        simp only [x1, Option.getD_some]⟩
      have hr1 : ∀ q j (h : q < l.length) (h' : j < l[q].cells.length), RepV m l[q].cells[j] (c1 q j) := fun q j h h' => by
        obtain ⟨c, x1, x2⟩ := g8 q j h h'
        have := hc1 q j h (by rw [← g3 q h]; exact h')
        rw [x1] at this; cases this; exact x2
      have hcell1 : ∀ j v, (rowOf c1 l.length sz2)[j]? = some v → w.cell? ⟨b, off + j, none⟩ = some v := fun j v hjv => by
        have := rowOf_cell (w := w) (c := c1) (n := l.length) (sz := sz2) (blk := b) (o := off) (fun q j hq hj => by rw [cell?_of g5]; exact hc1 q j hq hj) j v hjv
        rwa [addr_add] at this
      have hcell2 : ∀ j v, (rowOf c2 vs.length sz2)[j]? = some v → w.cell? ⟨vb, vo + j, none⟩ = some v := fun j v hjv => by
        have := rowOf_cell (w := w) (c := c2) (n := vs.length) (sz := sz2) (blk := vb) (o := vo) (fun q j hq hj => hC.mem _ _ _ (hc2 q j hq hj)) j v hjv
        rwa [addr_add] at this
      have hone1 : ∀ v ∈ rowOf c1 l.length sz2, v.oneCell' = true := by
        intro v hv
        simp only [rowOf, List.mem_map, List.mem_range] at hv
        obtain ⟨k, hk, rfl⟩ := hv
        obtain ⟨d1, d2⟩ := div_lt_of hk
        exact oneC_oneCell' ((hr1 _ _ d1 (by rw [g3]; exact d2)).one (g4 _ d1 _ (List.getElem_mem _)))
      have hone2 : ∀ v ∈ rowOf c2 vs.length sz2, v.oneCell' = true := by
        intro v hv
        simp only [rowOf, List.mem_map, List.mem_range] at hv
        obtain ⟨k, hk, rfl⟩ := hv
        obtain ⟨d1, d2⟩ := div_lt_of hk
        exact oneC_oneCell' ((hr2 _ _ d1 (by rw [hs2]; exact d2)).one (ho2 _ d1 _ (List.getElem_mem _)))
      have hpos := L.pos
      have hvb0 : m vb (vo + 0 * sz2 + 0) = some (c2 0 0) := hc2 0 0 hmpos hpos
      have hvb : vb ≠ b := by
        rintro rfl
        have := hC.apart nm hholds (vo + 0 * sz2 + 0)
        rw [hb0, hvb0] at this; cases this
      have hwv := hC.mem _ _ _ hvb0
      have hx' : ∀ p, Ext φ (upd φ nm p) σ.obj (upd σ.obj nm (some (.arr sz2 (l.take i ++ vs ++ l.drop i)))) := fun p => Ext.grow hnm rfl rfl (by simp; omega) p
      have hlen' : (l.take i ++ vs ++ l.drop i).length = l.length + vs.length := by simp; omega
      have hd : ∀ (p : Loc) (v : Value), p.slice (l.length + vs.length) = v → oneC v = true → RepD (upd φ nm p) (upd σ.obj nm (some (.arr sz2 (l.take i ++ vs ++ l.drop i)))) m (.msl nm (l.length + vs.length)) v := by
        intro p v hv hone
        refine .msl _ _ _ ⟨_, _, upd_same _ _ _, rfl, by rw [hlen']; exact Nat.le_refl _, fun _ => ?_⟩ hone
        rw [upd_same]; exact hv.symm
      have hs2' : ∀ q (h : q < vs.length), vs[q].cells.length = sz2 := hs2
      by_cases hroom : l.length + vs.length ≤ cap
      ·
        obtain ⟨T2, us2, f2, hv2⟩ : ∃ T2 us2 f2, w.heap[vb]? = some (.cells us2 T2 f2) ∧ 0 < us2.size := by
          unfold World.cell? at hwv
          simp only at hwv
          cases hh : w.heap[vb]? with
          | none => simp [hh] at hwv
          | some o =>
            cases o with
            | cells us2 T2 f2 =>
              refine ⟨T2, us2, f2, rfl, ?_⟩
              simp [hh] at hwv
              have := (Array.getElem?_eq_some_iff.1 hwv).1
              omega
            | _ => simp [hh] at hwv
        have hmulr : (l.length + vs.length) * sz2 ≤ cap * sz2 := Nat.mul_le_mul_right _ hroom
        refine (L.shift b off l.length cap i vb vo vs.length vc (rowOf c1 l.length sz2) (rowOf c2 vs.length sz2) w h3 hmpos hroom (by unfold maxLen at g2; omega) hvb (rowOf_len _ _ _) (rowOf_len _ _ _)
          hcell1 (fun j hj => by rw [cell?_of g5, Array.getElem?_eq_getElem (by omega)]; rfl) (fun j => by
            unfold World.frozen?
            simp only [g5]
            obtain ⟨f1, f2⟩ := f
            simp only at g6
            subst g6
            simp
            try omega) hcell2 hone1 hone2 T2 T' us2.size us'.size (by unfold World.shape?; rw [hv2.1]) (by unfold World.shape?; rw [g5]) (by have := hv2.2; omega)).mono ?_
        rintro e w' ⟨rfl, rfl⟩
        obtain ⟨us3, k1, k2, k3⟩ := setCells_heap b T' f ((rowOf c1 l.length sz2).drop (i * sz2)) (off + (i + vs.length) * sz2) w.drew us' g5
        obtain ⟨us4, k4, k5, k6⟩ := setCells_heap b T' f (rowOf c2 vs.length sz2) (off + i * sz2) (wset w.drew b (.cells us3 T' f)) us3 (wset_same hblk)
        rw [k1, k4, wset_wset]
        have hil : i * sz2 ≤ l.length * sz2 := Nat.mul_le_mul_right _ hin
        simp only [Nat.add_mul] at k3 hmulr
        have hget : ∀ k, k < us'.size → us4[k]? = if off + i * sz2 ≤ k ∧ k < off + i * sz2 + vs.length * sz2 then (rowOf c2 vs.length sz2)[k - (off + i * sz2)]? else
            if off + (i * sz2 + vs.length * sz2) ≤ k ∧ k < off + (i * sz2 + vs.length * sz2) + (l.length * sz2 - i * sz2) then (rowOf c1 l.length sz2)[i * sz2 + (k - (off + (i * sz2 + vs.length * sz2)))]? else us'[k]? := by
          intro k hk
          rw [k6 k (by rw [k2]; exact hk), k3 k hk]
          simp only [rowOf_len, List.length_drop, List.getElem?_drop]
        refine ⟨_, upd φ nm (φ nm), m, rfl, hC.chg (w' := wset w.drew b (.cells us4 T' f)) nm _ (φ nm) (hx' _) ⟨rfl, rfl, rfl, by rw [wset_size]; exact Nat.le_refl _⟩
          (fun b' hb' hn => by
            rw [wset_ne (by rcases hn with h | h; · rw [g0] at h; cases h
                            · rw [← hb0]; exact h)]
            rfl) (fun _ => .inr ⟨hholds, rfl⟩) ?_, hd _ _ (by simp [Loc.slice, g0, hb0, ho0, hc0]) rfl, hx' _⟩
        refine .inr ⟨g0, by rw [hlen', hc0]; exact hroom, by rw [hc0]; exact g2, ins_size hin g3 hs2', ins_one hin g4 ho2, us4, T', f, by rw [hb0]; exact wset_same hblk, g6, by rw [k5, k2, ho0, hc0]; exact g7, ?_⟩
        rw [ho0]
        refine ins_cells hin hr1 hr2 g3 hs2' (fun q j hq hj => ?_) (fun q j hq hj => ?_) (fun q j hq hq' hj => ?_)
        · have hm1 := mul_le_of (K := sz2) hq
          rw [hget _ (by omega), if_neg (by omega), if_neg (by omega)]
          exact hc1 q j (by omega) hj
        · have hm1 := mul_le_of (K := sz2) hq
          have e1 : (i + q) * sz2 = i * sz2 + q * sz2 := Nat.add_mul _ _ _
          rw [hget _ (by omega), if_pos (by omega), show off + (i + q) * sz2 + j - (off + i * sz2) = q * sz2 + j by omega]
          exact rowOf_get c2 hq hj
        · have hm1 := mul_le_of (K := sz2) hq'
          have hm2 : i * sz2 ≤ q * sz2 := Nat.mul_le_mul_right _ hq
          have e1 : (vs.length + q) * sz2 = vs.length * sz2 + q * sz2 := Nat.add_mul _ _ _
          rw [hget _ (by omega), if_neg (by omega), if_pos (by omega), show i * sz2 + (off + (vs.length + q) * sz2 + j - (off + (i * sz2 + vs.length * sz2))) = q * sz2 + j by omega]
          exact rowOf_get c1 hq' hj
      ·
        refine (L.grow b off l.length cap i vb vo vs.length vc (rowOf c1 l.length sz2) (rowOf c2 vs.length sz2) w h3 hmpos g1 (by omega) q3 (rowOf_len _ _ _) (rowOf_len _ _ _) hcell1 hcell2 hone1 hone2).mono ?_
        rintro e w' ⟨rfl, rfl⟩
        have hG := grownCap_ge w (l.length + vs.length) cap E
        have hG2 := grownCap_le_maxLen w (l.length + vs.length) cap E q4
        generalize grownCap w (l.length + vs.length) cap E = G at *
        obtain ⟨ROW, hROW⟩ : ∃ ROW, ROW = ((rowOf c1 l.length sz2).take (i * sz2)).toArray ++ Builtin.zeroCells Z.cells (l.length + vs.length - i) ++ Builtin.zeroCells Z.cells (G - (l.length + vs.length)) := ⟨_, rfl⟩
        rw [← hROW]
        have hil : i * sz2 ≤ l.length * sz2 := Nat.mul_le_mul_right _ hin
        have hRs : ROW.size = G * sz2 := by
          rw [hROW]
          simp only [Array.size_append, List.size_toArray, List.length_take, rowOf_len, Builtin.zeroCells, Array.size_map, Array.size_range, L.zK, Nat.min_eq_left hil, ← Nat.add_mul]
          congr 1
          omega
        have hRg : ∀ k, k < i * sz2 → ROW[k]? = (rowOf c1 l.length sz2)[k]? := by
          intro k hk
          have h1 : (List.take (i * sz2) (rowOf c1 l.length sz2)).toArray.size = i * sz2 := by simp [rowOf_len, Nat.min_eq_left hil]
          rw [hROW, Array.getElem?_append_left (by rw [Array.size_append, h1]; omega), Array.getElem?_append_left (by rw [h1]; exact hk)]
          simp [List.getElem?_take, hk]
        have hp0 : ((w.alloc (.cells ROW E)).drew).heap[w.heap.size]? = some (.cells ROW E (0, 0)) := heap_push_new
        obtain ⟨us3, k1, k2, k3⟩ := setCells_heap w.heap.size E (0, 0) (rowOf c2 vs.length sz2) (i * sz2) ((w.alloc (.cells ROW E)).drew) ROW hp0
        have hlt : w.heap.size < ((w.alloc (.cells ROW E)).drew).heap.size := by show w.heap.size < (w.heap.push _).size; simp
        rw [k1]
        obtain ⟨us4, k4, k5, k6⟩ := setCells_heap w.heap.size E (0, 0) ((rowOf c1 l.length sz2).drop (i * sz2)) ((i + vs.length) * sz2) (wset ((w.alloc (.cells ROW E)).drew) w.heap.size (.cells us3 E (0, 0))).drew us3 (wset_same hlt)
        rw [k4]
        have hGm : (l.length + vs.length) * sz2 ≤ G * sz2 := Nat.mul_le_mul_right _ hG
        simp only [Nat.add_mul] at k6 hGm
        have hget : ∀ k, k < G * sz2 → us4[k]? = if i * sz2 + vs.length * sz2 ≤ k ∧ k < i * sz2 + vs.length * sz2 + (l.length * sz2 - i * sz2) then (rowOf c1 l.length sz2)[i * sz2 + (k - (i * sz2 + vs.length * sz2))]? else
            if i * sz2 ≤ k ∧ k < i * sz2 + vs.length * sz2 then (rowOf c2 vs.length sz2)[k - i * sz2]? else ROW[k]? := by
          intro k hk
          rw [k6 k (by rw [k2, hRs]; exact hk), k3 k (by rw [hRs]; exact hk)]
          simp only [rowOf_len, List.length_drop, List.getElem?_drop]
        have hsz4 : us4.size = G * sz2 := by rw [k5, k2, hRs]
        refine ⟨_, upd φ nm ⟨w.heap.size, 0, G, false, none⟩, m, rfl, hC.chg (w' := wset (wset ((w.alloc (.cells ROW E)).drew) w.heap.size (.cells us3 E (0, 0))).drew w.heap.size (.cells us4 E (0, 0))) nm _ ⟨w.heap.size, 0, G, false, none⟩ (hx' _) ⟨rfl, rfl, rfl, ?_⟩
          (fun b' hb' _ => ?_) (fun _ => .inl (Nat.le_refl _)) ?_, hd _ _ (by simp [Loc.slice]) rfl, hx' _⟩
        · have : w.heap.size ≤ ((w.alloc (.cells ROW E)).drew).heap.size := by omega
          simpa [wset, World.drew] using this
        · rw [wset_ne (by omega)]
          show (wset ((w.alloc (.cells ROW E)).drew) w.heap.size (.cells us3 E (0, 0))).heap[b']? = _
          rw [wset_ne (by omega)]
          exact heap_push_lt hb'
        · refine .inr ⟨rfl, by rw [hlen']; exact hG, hG2, ins_size hin g3 hs2', ins_one hin g4 ho2, us4, E, (0, 0), wset_same (by show w.heap.size < (wset ((w.alloc (.cells ROW E)).drew) w.heap.size (.cells us3 E (0, 0))).heap.size; rw [wset_size]; exact hlt), rfl, by rw [hsz4]; simp, ?_⟩
          refine ins_cells (o := 0) hin hr1 hr2 g3 hs2' (fun q j hq hj => ?_) (fun q j hq hj => ?_) (fun q j hq hq' hj => ?_)
          · have hm1 := mul_le_of (K := sz2) hq
            rw [hget _ (by omega), if_neg (by omega), if_neg (by omega), hRg _ (by omega)]
            simp only [Nat.zero_add]
            exact rowOf_get c1 (by omega) hj
          · have hm1 := mul_le_of (K := sz2) hq
            have e1 : (i + q) * sz2 = i * sz2 + q * sz2 := Nat.add_mul _ _ _
            rw [hget _ (by omega), if_neg (by omega), if_pos (by omega), show 0 + (i + q) * sz2 + j - i * sz2 = q * sz2 + j by omega]
            exact rowOf_get c2 hq hj
          · have hm1 := mul_le_of (K := sz2) hq'
            have hm2 : i * sz2 ≤ q * sz2 := Nat.mul_le_mul_right _ hq
            have e1 : (vs.length + q) * sz2 = vs.length * sz2 + q * sz2 := Nat.add_mul _ _ _
            rw [hget _ (by omega), if_pos (by omega), show i * sz2 + (0 + (vs.length + q) * sz2 + j - (i * sz2 + vs.length * sz2)) = q * sz2 + j by omega]
            exact rowOf_get c1 hq' hj
  · exact hok.elim
structure CloneLaw (P : Program) (F T E K BY : Nat) (Z : Value) : Prop where
 tE : tElem P T = some (E, K, BY)
 tZ : tZero P E = some Z
 ne : F ≠ yid
 enter : ∀ args w, (callFunc F args).run P w = .ok (.enter F args) w
 nil : ∀ (n c : Nat) (w : World), Calls P F #[.slice none n c] w fun e w' => e = .returned (.slice none 0 0) ∧ w' = w
 some : ∀ (a : Addr) (n c : Nat) (w : World) (v' : Value) (w' : World),
  (∀ ty, (Builtin.append_ #[T, T] ty #[.slice (some ⟨w.heap.size, 0, none⟩) 0 0, .slice (some a) n c]).run P (w.alloc (.cells #[] E)) = .ok v' w') →
  Calls P F #[.slice (some a) n c] w fun e w1 => e = .returned v' ∧ w1 = w'
def aClone (P : Program) (obj : Name → Option O) (t : Name) (T : TypeId) (x : D) : R :=
 match (srcL obj x).2 with
 | [] => ⟨(srcL obj x).1, .nilsl, obj⟩
 | _ :: _ => aAppend P obj t T T .nilsl x
def cloneSpec (P : Program) (T : TypeId) : Spec where
 app obj t ds := match ds with | [x] => aClone P obj t T x | _ => .bad obj
 foot obj t ds := match ds with | [x] => tops .nilsl ++ tops x ++ [nmO t] | _ => []
 wrt obj t ds := match ds with | [x] => tops .nilsl ++ tops x ++ [nmO t] | _ => []
theorem like_clone {P : Program} {obj obj2 : Name → Option O} {t : Name} {T : TypeId} {x : D} (h : Agr (tops .nilsl ++ tops x ++ [nmO t]) obj obj2) :
  Like (aClone P obj t T x) (aClone P obj2 t T x) obj obj2 (tops .nilsl ++ tops x ++ [nmO t]) := by
 have h2 : srcL obj2 x = srcL obj x := srcL_like fun nm hn => h nm (by simp [hn])
 have l := like_append (P := P) (obj := obj) (obj2 := obj2) (t := t) (T1 := T) (T2 := T) (s := .nilsl) (x := x) h
 unfold aClone
 rw [h2]
 split
 ·have l0 : Like ⟨True, D.nilsl, obj⟩ ⟨True, D.nilsl, obj2⟩ obj obj2 (tops .nilsl ++ tops x ++ [nmO t]) := ⟨rfl, rfl, fun nm => by
   show obj2 nm = if _ then obj nm else obj2 nm
   split
   ·exact h nm (by assumption)
   ·rfl, fun _ _ => rfl⟩
  exact ⟨rfl, l0.d, l0.eff, l0.frame⟩
 ·exact l
theorem cloneSpec_near (P : Program) (T : TypeId) : (cloneSpec P T).Near := by
 refine ⟨fun obj obj2 t ds h => ?_, fun obj obj2 t ds h => rfl, fun obj t ds nm hn => hn, fun obj obj2 t ds h => rfl⟩
 simp only [cloneSpec] at h ⊢
 split
 ·exact like_clone h
 ·exact .same rfl rfl rfl rfl
theorem clone_sound {P : Program} {F T E K BY : Nat} {Z : Value} (L : CloneLaw P F T E K BY Z) : SSound P F (cloneSpec P T) := by
 refine ⟨cloneSpec_near P T, fun _ => L.enter, fun _ G φ m σ a w hC t ds us _ hl hr hok => ?_, fun e => (L.ne e).elim⟩
 simp only [cloneSpec] at hok ⊢
 split at hok
 case h_2 => exact hok.elim
 rename_i x
 simp only [List.length_cons, List.length_nil] at hl
 have r0 := hr 0 (by simp) (by omega)
 simp only [List.getElem_cons_zero] at r0
 have hus : us = #[us[0]] := by
  apply Array.ext
  ·simp; omega
  ·intro j h1 h2
   have : j = 0 := by omega
   subst this; rfl
 rw [hus]
 generalize us[0] = u0 at r0
 clear hus hr hl us
 obtain ⟨hu, i, hi, his, _⟩ := tElem_spec L.tE
 have hsrc1 : (srcL σ.obj x).1 := by
  unfold aClone at hok
  split at hok
  ·exact hok
  ·simp only [aAppend, L.tE, L.tZ] at hok
   exact hok.1
 have hval : ∃ base n c, u0 = .slice base n c ∧ ((srcL σ.obj x).2 = [] → n = 0) ∧ (base = none → (srcL σ.obj x).2 = []) := by
  unfold srcL at hsrc1 ⊢
  split at hsrc1
  ·rename_i l
   cases r0 with
   | v _ _ r0 =>
   cases r0 with
   | slnil a cap => exact ⟨a, 0, cap, rfl, fun _ => rfl, fun _ => rfl⟩
   | sl _ b o cap sz c hn _ _ _ _ _ _ => exact ⟨_, _, _, rfl, fun h => (hn h).elim, fun h => by cases h⟩
  ·cases r0 with
   | nilsl a => exact ⟨a, 0, 0, rfl, fun _ => rfl, fun _ => rfl⟩
  ·rename_i nm k
   have lenk : ∀ (l : List V) (o : O), σ.obj nm = some o → o.len? = some l.length → k = l.length → (∀ (h : (φ nm).nul = true), l = []) →
     ∃ base n c, u0 = .slice base n c ∧ (l = [] → n = 0) ∧ (base = none → l = []) := by
    intro l o ho hlen hk hnul
    cases r0 with
    | msl _ _ _ hh _ =>
    obtain ⟨o', n, ho', hlen', _, hv⟩ := hh
    rw [ho] at ho'; cases ho'
    rw [hlen] at hlen'; cases hlen'
    rw [hv hk]
    unfold Loc.slice
    cases hn : (φ nm).nul with
    | true => exact ⟨_, _, _, rfl, fun _ => rfl, fun _ => hnul hn⟩
    | false => exact ⟨_, _, _, rfl, fun h => by rw [hk, h]; rfl, fun h => by cases h⟩
   split at hsrc1
   ·rename_i s l ho
    refine lenk l _ ho rfl hsrc1 fun hn => ?_
    rcases hC.objs nm _ ho with ⟨_, h⟩ | ⟨h, _⟩
    ·exact h
    ·rw [hn] at h; cases h
   ·rename_i s l ho
    refine lenk l _ ho rfl hsrc1 fun hn => ?_
    rcases hC.objs nm _ ho with ⟨_, h⟩ | ⟨h, _⟩
    ·exact h
    ·rw [hn] at h; cases h
   ·exact hsrc1.elim
  ·exact hsrc1.elim
 obtain ⟨base, n, c, rfl, hn0, hbn⟩ := hval
 cases base with
 | none =>
  have he := hbn rfl
  refine (L.nil n c w).mono ?_
  rintro e w' ⟨rfl, rfl⟩
  unfold aClone
  rw [he]
  exact ⟨_, φ, m, rfl, hC, .nilsl _, .refl _ _⟩
 | some ad =>
  obtain ⟨m1, hm1, hC1, _⟩ := hC.immNew #[] E
  have hx1 : RepD φ σ.obj m1 x (.slice (some ad) n c) := r0.ext hm1 (Ext.refl _ _)
  cases hl : (srcL σ.obj x).2 with
  | nil =>
   have hn := hn0 hl
   subst hn
   refine (L.some ad 0 c w (.slice (some ⟨w.heap.size, 0, none⟩) 0 0) (w.alloc (.cells #[] E)) fun ty => ?_).mono ?_
   ·simp [Builtin.append_, run_underlying hu, sizeOf, typeInfo, hi, Builtin.lenOf, Builtin.firstCells, loadCells, loadCellsFrom, storeCells]
   ·rintro e w' ⟨rfl, rfl⟩
    unfold aClone
    rw [hl]
    exact ⟨_, φ, m1, rfl, hC1, .nilsl _, .refl _ _⟩
  | cons y r =>
   have hap : (aAppend P σ.obj t T T .nilsl x).ok := by
    unfold aClone at hok
    rw [hl] at hok
    exact hok
   obtain ⟨v, w', h1, φ', m', h2, h3, h4⟩ := s_appendX (ty := 0) hC1 (.nilsl (some ⟨w.heap.size, 0, none⟩)) hx1 hap
   refine (L.some ad n c w v w' fun ty => ?_).mono ?_
   ·rw [← h1]; rfl
   ·rintro e w1 ⟨rfl, rfl⟩
    unfold aClone
    rw [hl]
    exact ⟨v, φ', m', rfl, h2, h3, h4⟩
def bClone (P : Program) (obj : Name → Option O) (t : Name) (T : TypeId) (x : D) : Bool :=
 match (srcL obj x).2 with
 | [] => bSrc obj x
 | _ :: _ => bAppend P obj t T T .nilsl x
theorem bClone_ok {P : Program} {obj : Name → Option O} {t : Name} {T : TypeId} {x : D} (h : bClone P obj t T x = true) : (aClone P obj t T x).ok := by
 unfold bClone at h
 unfold aClone
 split at h
 ·exact bSrc_ok h
 ·exact bAppend_ok h
def bInsert (P : Program) (obj : Name → Option O) (t : Name) (T : TypeId) (s i x : D) : Bool :=
 match i with
 | .v (.int .i64 n) => match x with
  | .v (.sl vs) => match s with
   | .nilsl => bAppend P obj t T T .nilsl (.v (.sl vs)) && iLe n 0 && iLe 0 n && !vs.isEmpty
   | .msl nm k => match obj nm with
    | some (.arr sz l) => match Nat.beq n.toNat l.length with
     | true => bAppend P obj t T T (.msl nm k) (.v (.sl vs)) && iLe 0 n && !vs.isEmpty
     | false => bAppend P obj t T T (.msl nm k) (.v (.sl vs)) && iLe 0 n && nLt n.toNat l.length && !vs.isEmpty
    | _ => false
   | _ => false
  | _ => false
 | _ => false
theorem bInsert_ok {P : Program} {obj : Name → Option O} {t : Name} {T : TypeId} {s i x : D} (h : bInsert P obj t T s i x = true) : (aInsert P obj t T s i x).ok := by
 have hne : ∀ {vs : List V}, (!vs.isEmpty) = true → vs ≠ [] := by intro vs h e; subst e; simp at h
 unfold bInsert at h
 unfold aInsert
 split at h
 ·split at h
  ·split at h
   ·simp only [Bool.and_eq_true] at h
    exact ⟨bAppend_ok h.1.1.1, by have := iLe_ok h.1.1.2; have := iLe_ok h.1.2; omega, hne h.2⟩
   ·split at h
    ·split at h
     ·rename_i hb
      simp only [Bool.and_eq_true] at h
      simp only [*]
      exact ⟨bAppend_ok h.1.1, iLe_ok h.1.2, hne h.2⟩
     ·simp only [Bool.and_eq_true] at h
      simp only [*]
      exact ⟨bAppend_ok h.1.1.1, iLe_ok h.1.1.2, nLt_ok h.1.2, hne h.2⟩
    ·cases h
   ·cases h
  ·cases h
 ·cases h
theorem run_rW {s : Spec} {obj : Name → Option O} {t : Name} {ds : List D} {b : Bool} {r : R} {W : List Name} {x : RunR} (h : rW b r W W = some x) (hs : s.app obj t ds = r) (hF : s.foot obj t ds = W) (hW : s.wrt obj t ds = W)
  (hb : b = true → r.ok) (hfr : ∀ nm, nm ∉ W → r.obj nm = obj nm) :
  (s.app obj t ds).ok ∧ (s.app obj t ds).d = x.d ∧ s.foot obj t ds = x.foot ∧ s.wrt obj t ds = x.wrt ∧ ∀ tbl, lookT tbl = obj → lookT (x.tf tbl) = (s.app obj t ds).obj := by
 cases b with
 | false => cases h
 | true =>
  simp only [rW, cond_true, Option.some.injEq] at h
  subst h
  rw [hs, hF, hW]
  refine ⟨hb rfl, rfl, rfl, rfl, fun tbl htbl => ?_⟩
  funext nm
  show lookT (applyW tbl W r.obj) nm = _
  rw [lookT_applyW]
  split
  ·rfl
  ·rename_i hn
   rw [htbl, hfr nm hn]
noncomputable def insB (P : Program) (T : TypeId) : SpecB where
 spec := insSpec P T
 run obj t ds := match ds with
  | [s, i, x] => rW (bInsert P obj t T s i x) (aInsert P obj t T s i x) (tops s ++ tops x ++ [nmO t]) (tops s ++ tops x ++ [nmO t])
  | _ => none
 ok := by
  intro obj t ds r hr
  split at hr
  ·exact run_rW (s := insSpec P T) hr rfl rfl rfl bInsert_ok (like_insert fun _ _ => rfl).frame
  ·cases hr
noncomputable def cloneB (P : Program) (T : TypeId) : SpecB where
 spec := cloneSpec P T
 run obj t ds := match ds with
  | [x] => rW (bClone P obj t T x) (aClone P obj t T x) (tops .nilsl ++ tops x ++ [nmO t]) (tops .nilsl ++ tops x ++ [nmO t])
  | _ => none
 ok := by
  intro obj t ds r hr
  split at hr
  ·exact run_rW (s := cloneSpec P T) hr rfl rfl rfl bClone_ok (like_clone fun _ _ => rfl).frame
  ·cases hr
end Go.Eng
set_option linter.unusedVariables false
namespace Go.Eng
open Go Go.Proofs Go.RowKit Go.Lib Go.Shelf
set_option maxHeartbeats 2000000 in
set_option maxRecDepth 100000 in
theorem clone76_nil (n c : Nat) (w : World) : Calls Tryz.prog 76 #[.slice none n c] w fun e w' => e = .returned (.slice none 0 0) ∧ w' = w := by
 have mixed : Tryz.prog.follows Departure.mixedOrders = true := by kernel_rfl
 have qT : ∀ (w : World) (a : Option Addr) (n c n' c' : Nat), (binOp .eql 22 (.slice a n c) (.slice none n' c')).run Tryz.prog w = .ok (.bool a.isNone) w := fun w a n c n' c' => Lib.run_eql_slice_nil w _ _ a n c n' c' Tryz.underlying22
 go_enter Tryz.func76, Tryz.ntmps76
 go_wp2
 go_ret
 exact ⟨rfl, rfl⟩
set_option maxHeartbeats 2000000 in
set_option maxRecDepth 100000 in
theorem clone76_some (a : Addr) (n c : Nat) (w : World) (v' : Value) (w' : World)
  (hrun : ∀ ty, (Builtin.append_ #[22, 22] ty #[.slice (some ⟨w.heap.size, 0, none⟩) 0 0, .slice (some a) n c]).run Tryz.prog (w.alloc (.cells #[] 35)) = .ok v' w') :
  Calls Tryz.prog 76 #[.slice (some a) n c] w fun e w1 => e = .returned v' ∧ w1 = w' := by
 have mixed : Tryz.prog.follows Departure.mixedOrders = true := by kernel_rfl
 have qT : ∀ (w : World) (a : Option Addr) (n c n' c' : Nat), (binOp .eql 22 (.slice a n c) (.slice none n' c')).run Tryz.prog w = .ok (.bool a.isNone) w := fun w a n c n' c' => Lib.run_eql_slice_nil w _ _ a n c n' c' Tryz.underlying22
 go_enter Tryz.func76, Tryz.ntmps76
 go_wp2_with (at_builtin; refine Lib.wpList_append_run _ rfl _ _ _ _ rfl _ _ rfl rfl _ _ (hrun _) ?_)
 go_ret
 exact ⟨rfl, rfl⟩
def Z9 : Value := .agg #[.int .i64 0, .int .i64 0, .int .i64 0, .int .i64 0, .int .i64 0, .int .i64 0, .int .i64 0, .int .i64 0, .int .i64 0]
theorem notYid (n : Nat) (h : n < 1000000000) : n ≠ yid := by unfold yid; omega
theorem ins162 : InsLaw Tryz.prog 162 22 35 9 72 Z9 :=
 ⟨by kernel_rfl, by kernel_rfl, by kernel_rfl, by decide, notYid _ (by decide), enter_of Tryz.func162 (by rfl) (by kernel_rfl),
  ins162_shift, ins162_grow, ins162_last⟩
theorem ins149 : InsLaw Tryz.prog 149 39 3 1 8 (.int .i64 0) :=
 ⟨by kernel_rfl, by kernel_rfl, by kernel_rfl, by decide, notYid _ (by decide), enter_of Tryz.func149 (by rfl) (by kernel_rfl),
  by simpa only [Nat.mul_one] using @ins149_shift, by simpa only [Nat.mul_one] using @ins149_grow, ins149_last⟩
theorem clone76 : CloneLaw Tryz.prog 76 22 35 9 72 Z9 :=
 ⟨by kernel_rfl, by kernel_rfl, notYid _ (by decide), enter_of Tryz.func76 (by rfl) (by kernel_rfl), clone76_nil, clone76_some⟩
open Go Go.Proofs
structure Plain {α : Type} (rd : α → D) : Prop where
 names : ∀ x c k nm, namesL [.msl nm k, rd x, .v c] = [nm]
 ren : ∀ f x, (rd x).ren f = rd x
 clos : ∀ dom x, D.clos dom (rd x) = true
def putC {α : Type} (sz : Nat) (g : FuncId) (enc : α → V) (dec : V → α) (rd : α → D) (un : D → α) (f : List α → α → List α) (pre : List α → α → Prop) : CSpec where
 pre := fun os ds => ∃ l x, os = [.arr sz (l.map enc)] ∧ ds = [.msl [0, 1] l.length, rd x, .v (.clo (.func g) [] [])] ∧ pre l x
 out := fun os ds => match os, ds with
  | [.arr _ l], [_, x, _] => ⟨[(0, .arr sz ((f (l.map dec) (un x)).map enc))], [], .msl [0, 1] (f (l.map dec) (un x)).length⟩
  | _, _ => default
theorem putC_out {α : Type} {sz : Nat} {g : FuncId} {enc : α → V} {dec : V → α} {rd : α → D} {un : D → α} {f : List α → α → List α} {pre : List α → α → Prop} (hd : ∀ l : List α, (l.map enc).map dec = l) (hu : ∀ x, un (rd x) = x) (l : List α) (x : α) :
  (putC sz g enc dec rd un f pre).out [.arr sz (l.map enc)] [.msl [0, 1] l.length, rd x, .v (.clo (.func g) [] [])] = ⟨[(0, .arr sz ((f l x).map enc))], [], .msl [0, 1] (f l x).length⟩ := by
 simp only [putC, hd, hu]
theorem putC_app {α : Type} {sz : Nat} {g : FuncId} {enc : α → V} {dec : V → α} {rd : α → D} {un : D → α} {f : List α → α → List α} {pre : List α → α → Prop} (hd : ∀ l : List α, (l.map enc).map dec = l) (hu : ∀ x, un (rd x) = x) (hp : Plain rd)
  {obj : Name → Option O} {t nm : Name} {l : List α} {x : α} (ho : obj nm = some (.arr sz (l.map enc))) (h : pre l x) :
  (putC sz g enc dec rd un f pre).toSpec.app obj t [.msl nm l.length, rd x, .v (.clo (.func g) [] [])] = ⟨True, .msl nm (f l x).length, upd obj nm (some (.arr sz ((f l x).map enc)))⟩ := by
 have hr : reach obj [.msl nm l.length, rd x, .v (.clo (.func g) [] [])] = [nm] := by
  unfold reach
  rw [hp.names]
  show reachL obj (2998 + 1 + 1) [nm] [] = [nm]
  simp only [reachL, inL, List.any_nil, Bool.false_eq_true, if_false, ho]
  rfl
 have h1 : cOs obj [.msl nm l.length, rd x, .v (.clo (.func g) [] [])] = [.arr sz (l.map enc)] := by
  unfold cOs
  rw [hr]
  simp only [List.map_cons, List.map_nil, canonO, ho, O.ren]
 have h2 : cDs obj [.msl nm l.length, rd x, .v (.clo (.func g) [] [])] = [.msl [0, 1] l.length, rd x, .v (.clo (.func g) [] [])] := by
  unfold cDs
  rw [hr]
  simp [D.renL, D.ren, hp.ren, cin, idx]
 simp only [CSpec.toSpec, h1, h2, hr, putC_out hd hu]
 have e1 : (shut obj [nm] && D.closL (inL [nm]) [.msl nm l.length, rd x, .v (.clo (.func g) [] [])] && fresh obj t []) = true := by
  simp [shut, ho, O.clos, D.closL, D.clos, hp.clos, inL, fresh]
 have e2 : (putC sz g enc dec rd un f pre).pre [.arr sz (l.map enc)] [.msl [0, 1] l.length, rd x, .v (.clo (.func g) [] [])] := ⟨l, x, rfl, rfl, h⟩
 rw [e1]
 simp only [e2, putU, putN, List.getD_cons_zero, O.ren, D.ren, cout, and_self]
def putI (l : List Int) (x : Int) : List Int := if hasI l x then l else l.take (lowI l x) ++ [x] ++ l.drop (lowI l x)
def rdI (n : Int) : D := .v (vInt n)
def unI (d : D) : Int := match d with | .v (.int _ n) => n | _ => 0
theorem plainI : Plain rdI := ⟨fun _ _ _ _ => rfl, fun _ _ => rfl, fun _ _ => rfl⟩
noncomputable def sPutI : Spec := (putC 1 95 vInt decI rdI unI putI fun l _ => l.Pairwise (· < ·) ∧ l.length < 1000000).toSpec
theorem sPutI_app {obj : Name → Option O} {t nm : Name} {k : Nat} {l : List Int} {x : Int} (ho : obj nm = some (.arr 1 (l.map vInt))) (hk : k = l.length) (hs : l.Pairwise (· < ·)) (hl : l.length < 1000000) :
  sPutI.app obj t [.msl nm k, .v (vInt x), .v (.clo (.func 95) [] [])] = ⟨True, .msl nm (putI l x).length, upd obj nm (some (.arr 1 ((putI l x).map vInt)))⟩ := by
 subst hk
 exact putC_app (x := x) decI_map (fun _ => rfl) plainI ho ⟨hs, hl⟩
def sBsI : Spec := pBsI.toSpec
def sBsD : Spec := pBsD.toSpec
noncomputable def K7 : FuncId → Option Spec := fun f => match f with
 | 148 => some sBsI
 | 149 => some (insSpec Tryz.prog 39)
 | 76 => some (cloneSpec Tryz.prog 22)
 | f => K6 f
theorem K7_sound : ∀ f s, K7 f = some s → SSound Tryz.prog f s := by
 intro f s h
 unfold K7 at h
 split at h
 ·cases h; exact s148.sound
 ·cases h; exact ins_sound ins149
 ·cases h; exact clone_sound clone76
 ·exact K6_sound _ _ h
@[go_sem] theorem K7_148 : K7 148 = some sBsI := rfl
@[go_sem] theorem K7_149 : K7 149 = some (insSpec Tryz.prog 39) := rfl
@[go_sem] theorem K7_76 : K7 76 = some (cloneSpec Tryz.prog 22) := rfl
theorem pBsI_app {obj : Name → Option O} {t nm : Name} {k sz : Nat} {l : List Int} {n : Int} {L : List V} (hL : L = l.map vInt) (ho : obj nm = some (.arr sz L)) (hk : k = L.length) (hs : l.Pairwise (· < ·)) :
  sBsI.app obj t [.msl nm k, .v (vInt n), .v (.clo (.func 95) [] [])] = ⟨True, .v (.tup [vInt (lowI l n), .bool (hasI l n)]), obj⟩ := by
 subst hL; subst hk
 simp only [sBsI, PSpec.toSpec, pBsI, frzL, frz, ho, decI_map, if_true]
 congr 1
 simp only [true_and, eq_iff_iff, iff_true]
 all_goals first | trivial | exact ⟨l, n, rfl, hs⟩ | exact ⟨by trivial, l, n, rfl, hs⟩ | skip
theorem ins_app {P : Program} {T e sz by_ : Nat} {z : Value} {obj : Name → Option O} {t nm : Name} {k i : Nat} {L : List V} {x : V} (hT : tElem P T = some (e, sz, by_)) (hz : tZero P e = some z) (hzs : z.cells.size = sz)
  (hx : x.cells.length = sz ∧ x.okc = true) (hb : (L.length + 1) * by_ ≤ 140737488355328) (hm : L.length + 1 ≤ maxLen) (ho : obj nm = some (.arr sz L)) (hk : k = L.length) (hi : i ≤ L.length) :
  (insSpec P T).app obj t [.msl nm k, .v (.int .i64 (i : Int)), .v (.sl [x])] = ⟨(insSpec P T).app obj t [.msl nm k, .v (.int .i64 (i : Int)), .v (.sl [x])] |>.ok, .msl nm (L.length + 1), upd obj nm (some (.arr sz (L.take i ++ [x] ++ L.drop i)))⟩ ∧
  ((insSpec P T).app obj t [.msl nm k, .v (.int .i64 (i : Int)), .v (.sl [x])]).ok := by
 subst hk
 have hap : (aAppend P obj t T T (.msl nm L.length) (.v (.sl [x]))) = ⟨(aAppend P obj t T T (.msl nm L.length) (.v (.sl [x]))).ok, .msl nm (L.length + 1), upd obj nm (some (.arr sz (L ++ [x])))⟩ ∧ (aAppend P obj t T T (.msl nm L.length) (.v (.sl [x]))).ok := by
  simp only [aAppend, hT, hz, ho, srcL, List.length_singleton, true_and]
  refine ⟨?_, hzs, hb, hm, trivial⟩
  intro y hy
  simp only [List.mem_singleton] at hy
  subst hy; exact hx
 simp only [insSpec, aInsert, ho, Int.toNat_natCast]
 by_cases he : i = L.length
 ·have hb : Nat.beq i L.length = true := by simp [he]
  simp only [hb]
  refine ⟨?_, hap.2, by omega, by simp⟩
  rw [hap.1]
  simp [he]
 ·have hb : Nat.beq i L.length = false := by
   cases h : Nat.beq i L.length with
   | false => rfl
   | true => exact (he (Nat.eq_of_beq_eq_true h)).elim
  simp only [hb, List.length_singleton]
  exact ⟨trivial, hap.2, by omega, by omega, by simp⟩
theorem R.eta_of {r : R} {d : D} {obj : Name → Option O} (h : r = ⟨r.ok, d, obj⟩ ∧ r.ok) : r = ⟨True, d, obj⟩ := by
 obtain ⟨h1, h2⟩ := h
 rw [h1]; simp [h2]
theorem lowI_le (l : List Int) (x : Int) : lowI l x ≤ l.length := by
 unfold lowI
 exact (List.takeWhile_prefix _).length_le
set_option maxRecDepth 10000 in
set_option maxHeartbeats 4000000 in
theorem s94 : SSound Tryz.prog 94 sPutI := by
 unfold sPutI
 refine csound (nt := 23) (rs := [.tmp 6]) Tryz.func94 rfl (by rfl) (by kernel_rfl) (enter_of Tryz.func94 rfl (by kernel_rfl)) (notYid _ (by decide)) ?_
 rintro os ds ⟨l, n, rfl, rfl, hs, hlen⟩
 refine ⟨lb rfl, cl_of ?_⟩
 rw [putC_out decI_map (fun _ => rfl)]
 unfold rdI
 have hΓ := K7_sound
 have hP := mixedK
 have hbs := fun obj t ho => pBsI_app (sz := 1) (obj := obj) (t := t) (nm := [0, 1]) (n := n) (k := l.length) (L := l.map vInt) rfl ho (by simp) hs
 have hlow := lowI_le l n
 have hins := fun obj t ho => R.eta_of (ins_app (obj := obj) (t := t) (nm := [0, 1]) (k := l.length) (i := lowI l n) (L := l.map vInt) (x := vInt n) te39 tz3 rfl ⟨rfl, rfl⟩ (by simp; omega) (by simp [maxLen]; omega) ho (by simp) (by simpa using hlow))
 simp only [List.length_map] at hins
 obtain ⟨H, hH, hH0, hO1, hO2⟩ := outH_one 1 (l.map vInt)
 rw [← hH]
 clear hH
 repeat refine sq ?_
 refine cl_rs hΓ [0,1,2] [] fun K' hK => ?_
 simp only [go_sem, hO1, hO2, hH0]
 repeat refine ⟨ob, ?_⟩
 refine hK _ ?_ ?_ <;> clear K' hK <;> simp only [go_sem, hO1, hO2, hH0]
 repeat refine sq ?_
 refine cl_rs hΓ [0,1,7,8] [] fun K' hK => ?_
 simp only [go_sem, hO1, hO2, hH0, hbs]
 repeat refine ⟨ob, ?_⟩
 refine hK _ ?_ ?_ <;> clear K' hK <;> simp only [go_sem, hO1, hO2, hH0, hbs]
 repeat refine sq ?_
 refine cl_rs hΓ [0,1,7,16] [] fun K' hK => ?_
 simp only [go_sem, hO1, hO2, hH0]
 repeat refine ⟨ob, ?_⟩
 refine hK _ ?_ ?_ <;> clear K' hK <;> simp only [go_sem, hO1, hO2, hH0]
 repeat refine sq ?_
 refine cl_cond rfl rfl (fun hb => ?_) fun hb => ?_
 ·repeat refine sq ?_
  refine cl_rs hΓ [6] [] fun K' hK => ?_
  simp only [go_sem, hO1, hO2, hH0]
  repeat refine ⟨ob, ?_⟩
  refine hK _ ?_ ?_ <;> clear K' hK <;> simp only [go_sem, hO1, hO2, hH0]
  refine cl_ret ?_
  simp only [go_sem, hO1, hO2, hH0, putI, hb]
  all_goals first | rfl | (simp; done) | (simp [List.map_take, List.map_drop]; omega)
 ·repeat refine sq ?_
  refine cl_skip ?_
  repeat refine sq ?_
  refine cl_rs hΓ [6] [] fun K' hK => ?_
  simp only [go_sem, hO1, hO2, hH0, hins]
  repeat refine ⟨ob, ?_⟩
  refine hK _ ?_ ?_ <;> clear K' hK <;> simp only [go_sem, hO1, hO2, hH0, hins]
  refine cl_ret ?_
  simp only [go_sem, hO1, hO2, hH0, putI, hb]
  all_goals first | rfl | (simp; done) | (simp [List.map_take, List.map_drop]; omega)
def rdD (d : Deed) : D := .agg [.v (vInt d.pa), .v (vInt d.no), .v (vInt d.ki), .v (vInt d.lo), .v (vInt d.pe), .v (vInt d.dl), .v (vInt d.dh), .v (vInt d.kn), .v (vInt d.un)]
def atD : List Deed → Deed → Option Deed
 | [], _ => none
 | a :: r, x => if ltD a x then atD r x else if cmpD a x = 0 then some a else none
theorem inI_iff {n lo hi : Int} : inI n lo hi = true ↔ lo ≤ n ∧ n ≤ hi := by unfold inI; simp
theorem rDeed_eq (d : Deed) : rDeedB d = isDeedB d := by
 obtain ⟨pa, no, ki, lo, pe, dl, dh, kn, un⟩ := d
 unfold rDeedB isDeedB lastsB
 simp only
 generalize (if ki = 1 ∨ ki = 2 then lo == 0 && inI pe 1 99 else if ki = 3 ∨ ki = 4 then inI lo 1 3 && inI pe 1 99 else if ki = 5 ∨ ki = 6 then inI lo 1 3 && pe == 0 else false) = K
 by_cases hk : inI kn 0 100000 = true
 ·have hk' := inI_iff.1 hk
  rw [wrap_i64 (x := kn + 1) (by omega) (by omega), Bool.eq_iff_iff]
  simp only [Bool.and_eq_true, Bool.or_eq_true, decide_eq_true_eq, inI_iff, beq_iff_eq]
  constructor
  ·rintro ⟨⟨⟨h1, h2⟩, h3⟩, h4⟩
   refine ⟨?_, h1⟩
   grind
  ·rintro ⟨h, h1⟩
   refine ⟨⟨⟨h1, ?_⟩, ?_⟩, ?_⟩ <;> grind
 ·rw [Bool.eq_iff_iff]
  simp only [Bool.and_eq_true, Bool.or_eq_true, decide_eq_true_eq, beq_iff_eq]
  constructor
  ·rintro ⟨⟨⟨h1, h2⟩, h3⟩, h4⟩
   exact (hk (by grind)).elim
  ·rintro ⟨h, h1⟩
   exact (hk (by grind)).elim
theorem before_iff {a b : Deed} : beforeB a.pa a.no b.pa b.no = true ↔ ltD a b := by
 unfold beforeB ltD
 simp
theorem okR_iff (l : List Deed) (i : Nat) : okR l i ↔ okD l i := by
 unfold okR okD
 simp only [rDeed_eq, before_iff, cmpD_lt]
theorem check_eq (l : List Deed) : rcheckI l = checkI l := by
 have e : okR l l.length = okD l l.length := propext (okR_iff l l.length)
 unfold rcheckI checkI
 rw [e]
def okL (l : List Deed) : Prop := l.Pairwise ltD ∧ (∀ d ∈ l, isDeedB d = true) ∧ l.length ≤ 60
theorem pairwise_next {α : Type} {r : α → α → Prop} (ht : ∀ a b c, r a b → r b c → r a c) : ∀ {l : List α}, (∀ j (h : j < l.length), 0 < j → r l[j - 1] l[j]) → l.Pairwise r
 | [], _ => .nil
 | [a], _ => by simp
 | a :: b :: s, h => by
  have hb : (b :: s).Pairwise r := pairwise_next ht fun j hj h0 => by
   have := h (j + 1) (by simpa using hj) (by omega)
   obtain ⟨k, rfl⟩ : ∃ k, j = k + 1 := ⟨j - 1, by omega⟩
   simpa using this
  rw [List.pairwise_cons]
  refine ⟨fun y hy => ?_, hb⟩
  have hab : r a b := by have := h 1 (by simp) (by omega); simpa using this
  rcases List.mem_cons.1 hy with rfl | hy
  ·exact hab
  ·exact ht _ _ _ hab ((List.pairwise_cons.1 hb).1 y hy)
theorem check_ok {l : List Deed} (h : okD l l.length ∧ l.length ≤ 60) : okL l := by
 obtain ⟨h, hl⟩ := h
 have h1 : l.Pairwise ltD := by
  refine pairwise_next (r := ltD) (fun a b c h k => ltD_trans h k) fun j hj h0 => ?_
  have h2 := (h j hj hj).2 h0
  exact cmpD_lt.1 h2
 refine ⟨h1, fun d hd => ?_, hl⟩
 obtain ⟨j, hj, rfl⟩ := List.getElem_of_mem hd
 exact (h j hj hj).1
theorem check_or (l : List Deed) : checkI l = 0 ∧ okL l ∨ checkI l = 11 := by
 unfold checkI
 split
 ·rename_i h
  exact .inl ⟨rfl, check_ok h⟩
 ·exact .inr rfl
theorem okD_of {l : List Deed} (h : okL l) : okD l l.length ∧ l.length ≤ 60 := by
 refine ⟨fun j hj _ => ⟨h.2.1 _ (List.getElem_mem hj), fun h0 => cmpD_lt.2 (List.pairwise_iff_getElem.1 h.1 (j - 1) j (by omega) hj (by omega))⟩, h.2.2⟩
theorem check_zero {l : List Deed} : checkI l = 0 ↔ okL l := by
 constructor
 ·intro h
  rcases check_or l with h' | h'
  ·exact h'.2
  ·rw [h'] at h; cases h
 ·intro h
  unfold checkI
  rw [if_pos (okD_of h)]
def insI : List Int → Int → List Int
 | [], x => [x]
 | a :: r, x => if a < x then a :: insI r x else if a = x then a :: r else x :: a :: r
theorem lowI_cons (a : Int) (r : List Int) (x : Int) : lowI (a :: r) x = if a < x then lowI r x + 1 else 0 := by
 unfold lowI
 by_cases h : a < x <;> simp [h]
theorem putI_ins : ∀ {l : List Int} (x : Int), l.Pairwise (· < ·) → putI l x = insI l x
 | [], x, _ => rfl
 | a :: r, x, hs => by
  rw [List.pairwise_cons] at hs
  have ih := putI_ins (l := r) x hs.2
  unfold putI hasI at ih ⊢
  rw [lowI_cons]
  unfold insI
  by_cases h : a < x
  ·have hne : a ≠ x := by omega
   have : (x == a) = false := by simp; omega
   simp only [h, if_true, List.take_succ_cons, List.drop_succ_cons, List.contains_cons, this, Bool.false_or]
   rw [← ih]
   split <;> simp
  ·by_cases e : a = x
   ·subst e
    simp
   ·have hx : (a :: r).contains x = false := by
     rw [Bool.eq_false_iff, ne_eq, List.contains_iff_mem]
     intro hm
     rcases List.mem_cons.1 hm with rfl | hm
     ·exact e rfl
     ·have := hs.1 x hm; omega
    simp only [hx, h, e, if_false, Bool.false_eq_true, List.take_zero, List.drop_zero]
    rfl
theorem mem_insI : ∀ {l : List Int} {x y : Int}, y ∈ insI l x → y = x ∨ y ∈ l
 | [], x, y, h => by simpa [insI] using h
 | a :: r, x, y, h => by
  unfold insI at h
  split at h
  ·rcases List.mem_cons.1 h with h | h
   ·exact .inr (by simp [h])
   ·rcases mem_insI h with h | h
    ·exact .inl h
    ·exact .inr (by simp [h])
  ·split at h
   ·exact .inr h
   ·rcases List.mem_cons.1 h with h | h
    ·exact .inl h
    ·exact .inr h
theorem insI_sorted : ∀ {l : List Int} {x : Int}, l.Pairwise (· < ·) → (insI l x).Pairwise (· < ·)
 | [], x, _ => by simp [insI]
 | a :: r, x, h => by
  unfold insI
  rw [List.pairwise_cons] at h
  split
  ·rename_i hax
   rw [List.pairwise_cons]
   refine ⟨fun y hy => ?_, insI_sorted h.2⟩
   rcases mem_insI hy with rfl | hy
   ·exact hax
   ·exact h.1 y hy
  ·split
   ·exact List.pairwise_cons.2 h
   ·rw [List.pairwise_cons]
    refine ⟨fun y hy => ?_, List.pairwise_cons.2 h⟩
    rcases List.mem_cons.1 hy with rfl | hy
    ·omega
    ·have := h.1 y hy; omega
theorem insI_len : ∀ (l : List Int) (x : Int), (insI l x).length ≤ l.length + 1
 | [], x => by simp [insI]
 | a :: r, x => by
  have := insI_len r x
  unfold insI
  split
  ·simp only [List.length_cons]; omega
  ·split <;> simp
theorem enc_ok (l : List Deed) : ∀ x ∈ l.map encD, (match x with | V.agg l => l | x => [x]).length = 9 ∧ (match x with | V.tup _ => false | _ => true) = true := by
 intro x hx
 obtain ⟨y, _, rfl⟩ := List.mem_map.1 hx
 exact ⟨rfl, rfl⟩
def pLen (P : List Deed → Prop) (f : List Deed → V) : PSpec := ⟨fun xs => ∃ l : List Deed, xs = [.sl (l.map encD)] ∧ P l, fun xs => match xs with | [.sl l] => f (l.map decD) | _ => .bool false, false⟩
theorem pLen_fn (P : List Deed → Prop) (f : List Deed → V) (l : List Deed) : (pLen P f).fn [.sl (l.map encD)] = f l := by
 simp only [pLen, decD_map]
noncomputable def sChk : Spec := (pLD (fun l => vInt (checkI l)) true).toSpec
theorem s39' : SSound Tryz.prog 39 sChk := s39.sound
theorem sChk_app {obj : Name → Option O} {t : Name} {l : List Deed} : sChk.app obj t [.v (.sl (l.map encD))] = ⟨True, .v (vInt (checkI l)), obj⟩ := by
 simp only [sChk, PSpec.toSpec, frzL, frz, pLD_fn]
 congr 1
 simp only [eq_iff_iff, iff_true]
 exact ⟨⟨trivial, trivial⟩, l, rfl⟩
theorem enc_okI (l : List Int) : ∀ x ∈ l.map vInt, (match x with | V.agg l => l | x => [x]).length = 1 ∧ (match x with | V.tup _ => false | _ => true) = true := by
 intro x hx
 obtain ⟨y, _, rfl⟩ := List.mem_map.1 hx
 exact ⟨rfl, rfl⟩
noncomputable def sRChk : Spec := (pLD (fun l => vInt (checkI l)) true).toSpec
theorem s16' : SSound Tryz.prog 16 sRChk := by
 have e : (fun l => vInt (rcheckI l)) = (fun l => vInt (checkI l)) := funext fun l => by rw [check_eq]
 have := s16.sound
 rw [e] at this
 exact this
theorem sRChk_app {obj : Name → Option O} {t : Name} {l : List Deed} : sRChk.app obj t [.v (.sl (l.map encD))] = ⟨True, .v (vInt (checkI l)), obj⟩ := sChk_app
open Go
def aBuildM (P : Program) (obj : Name → Option O) (t : Name) (T : TypeId) (n : Nat) (parts : List (Nat × D)) : R :=
 match tElem P T with
 | some (e, sz, _) =>
  ⟨parts.map (·.1) = List.range n ∧ (frzL (frz 4) obj (parts.map (·.2))).ok ∧ (∀ x ∈ (frzL (frz 4) obj (parts.map (·.2))).xs, x.cells.length = sz ∧ x.okc = true) ∧
    n * sz ≤ 16777216 ∧ sz ≠ 0 ∧ (tZero P e).isSome = true ∧ 0 < n ∧ (frzL (frz 4) obj (parts.map (·.2))).obj (nmO t) = none,
   .msl (nmO t) n, upd (frzL (frz 4) obj (parts.map (·.2))).obj (nmO t) (some (.arr sz (frzL (frz 4) obj (parts.map (·.2))).xs))⟩
 | none => .bad obj
def aopM (P : Program) (Γ : FuncId → Option Spec) (σ : S) (t : Name) : Op → R
 | .buildSlice T n ps => aBuildM P σ.obj t T n (ps.toList.map fun p => (p.1, opD σ p.2))
 | o => aop P Γ σ t o
def stepM (P : Program) (Γ : FuncId → Option Spec) (ops : Array Oper) (σ : S) (o : Oper) : S :=
 ⟨σ.nt, match o.dst with
  | some t => upd σ.env t ⟨gOf ops σ o, (aopM P Γ σ ((σ.base + t) :: σ.pre) o.op).d⟩
  | none => σ.env, if gOf ops σ o = true then (aopM P Γ σ ((σ.base + o.dst.getD 0) :: σ.pre) o.op).obj else σ.obj, σ.pre, σ.base⟩
def oblM (P : Program) (Γ : FuncId → Option Spec) (ops : Array Oper) (σ : S) (o : Oper) : Prop :=
 gOk ops σ o ∧ (match o.dst with | some t => t < σ.nt | none => True) ∧ (gOf ops σ o = true → opConds σ o.op = true ∧ (aopM P Γ σ ((σ.base + o.dst.getD 0) :: σ.pre) o.op).ok)
def RegM (P : Program) (Γ : FuncId → Option Spec) (ops : Array Oper) : List Oper → S → (S → Prop) → Prop
 | [], σ, K => K σ
 | o :: r, σ, K => oblM P Γ ops σ o ∧ RegM P Γ ops r (stepM P Γ ops σ o) K
attribute [go_sem] RegM oblM stepM aopM aBuildM List.cons_beq_cons
end Go.Eng
