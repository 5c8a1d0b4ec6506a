import Derived.Test.YtofamdkaipongaaGreatK18
/- Texts KW86 to KW61. -/
set_option linter.all false
namespace Go.Eng
open Go Go.Proofs
set_option maxRecDepth 10000
theorem s176 : PSound Tryz.prog 176 ⟨fun xs => ∃ (l : List Int) (v : Int), xs = [.sl (l.map vInt), vInt v], fun xs => match xs with | [.sl l, .int _ v] => vInt (firstII (fun x => v == x) (l.map decI)) | _ => .bool false, true⟩ := by
 refine psoundB (rs := [.tmp 4]) Tryz.func176 Tryz.ntmps176 (by rfl) (by kernel_rfl) (by decide) (by rintro _ xs ⟨l, v, rfl⟩; rfl) ⟨_, rfl, ?_⟩
 rintro xs ⟨l, v, rfl⟩ hw
 have hl : l.length ≤ maxLen := by have := hw.1.1; simpa using this
 refine ⟨lb rfl, ?_⟩
 simp only [decI_map]
 have hΓ := K0n_sound
 repeat refine sq ?_
 refine rs hΓ [0,1] [] ?_
 repeat refine sq ?_
 refine rs hΓ [0,1,7,8] [] ?_
 repeat refine sq ?_
 refine cl_block ?_
 repeat refine sq ?_
 refine cl_loop' (fun s : Nat => [(8, ⟨true, .v (vInt s)⟩)]) (fun s => []) (fun s => s ≤ l.length ∧ ∀ j (h : j < l.length), j < s → (v == l[j]) = false) (fun s => l.length - s) 0 ?_ ?_ ?_ ?_
 ·exact ⟨Nat.zero_le _, fun j h hj => by omega⟩
 ·rfl
 ·rfl
 rintro i ⟨hi, hz⟩
 simp only [go_sem]
 repeat refine sq ?_
 refine rs hΓ [0,1,7,8,9] [] ?_
 repeat refine sq ?_
 refine cl_cond rfl rfl (fun hb => ?_) fun hb => ?_
 ·have hlt : i < l.length := by simpa using hb
  have hlt' : (i : Int) < l.length := by omega
  clear hb
  repeat refine sq ?_
  refine cl_skip ?_
  repeat refine sq ?_
  refine cl_block ?_
  repeat refine sq ?_
  refine rs hΓ [0,1,5,7,8] [] ?_
  repeat refine sq ?_
  refine rx hΓ [0,1,5,7,8,16] [] (fun K' hK => by simp only [go_sem, map_getD hlt, Int.toNat_natCast, Int.natCast_nonneg, hlt']; exact fin) ?_
  repeat refine sq ?_
  refine cl_cond rfl rfl (fun hb => ?_) fun hb => ?_
  ·repeat refine sq ?_
   refine rs hΓ [4] [] ?_
   refine cl_ret ?_
   simp only [go_sem]
   have hf : l.findIdx (fun x => v == x) = i := by
    rw [List.findIdx_eq hlt]
    exact ⟨hb, fun j hj => hz j (by omega) hj⟩
   unfold firstII
   rw [hf, if_pos hlt]
  ·have hn : (v == l[i]) = false := hb
   clear hb
   repeat refine sq ?_
   refine cl_skip ?_
   refine cl_nil ?_
   simp only [go_sem]
   refine cl_keep [0,1,7,8] [] ?_ ?_ <;> simp only [go_sem]
   repeat refine sq ?_
   refine cl_r hΓ fun K' hK => ?_
   simp only [go_sem]
   repeat refine ⟨ob, ?_⟩
   refine hK _ ?_
   clear K' hK
   simp only [go_sem]
   refine ⟨i + 1, ⟨by omega, fun j h hj => ?_⟩, by omega, ?_⟩
   ·rcases Nat.lt_succ_iff_lt_or_eq.1 hj with h1 | h1
    ·exact hz j h h1
    ·subst h1; exact hn
   refine weak_eq [0,1,7,8] [] ?_ ?_ <;> simp only [go_sem, wrap_succ hlt hl, Int.natCast_add, Int.natCast_one]
 ·have hge : i = l.length := by
   have : ¬ (i : Int) < l.length := by simpa using hb
   omega
  subst hge
  clear hb
  repeat refine sq ?_
  refine cl_exit ?_
  simp only [go_sem]
  refine cl_keep [] [] ?_ ?_ <;> simp only [go_sem]
  repeat refine sq ?_
  refine rs hΓ [4] [] ?_
  refine cl_ret ?_
  simp only [go_sem]
  have hf : ¬ l.findIdx (fun x => v == x) < l.length := by
   rw [List.findIdx_lt_length]
   rintro ⟨x, hx, hpx⟩
   obtain ⟨j, hj, rfl⟩ := List.getElem_of_mem hx
   rw [hz j hj hj] at hpx; cases hpx
  unfold firstII
  rw [if_neg hf]
def pLV (f : List Int → Int → V) : PSpec := ⟨fun xs => ∃ (l : List Int) (v : Int), xs = [.sl (l.map vInt), vInt v], fun xs => match xs with | [.sl l, .int _ v] => f (l.map decI) v | _ => .bool false, true⟩
theorem pLV_fn (f : List Int → Int → V) (l : List Int) (v : Int) : (pLV f).fn [.sl (l.map vInt), vInt v] = f l v := by
 simp only [pLV, decI_map]
noncomputable def sLV (f : List Int → Int → V) : Spec := (pLV f).toSpec
theorem sLV_app {f : List Int → Int → V} {obj : Name → Option O} {t : Name} {l : List Int} {v : Int} : (sLV f).app obj t [.v (.sl (l.map vInt)), .v (vInt v)] = ⟨True, .v (f l v), obj⟩ := by
 simp only [sLV, PSpec.toSpec, frzL, frz, pLV_fn, ite_self]
 simp only [pLV, if_true]
 congr 1
 simp only [eq_iff_iff, iff_true]
 exact ⟨⟨trivial, trivial, trivial⟩, l, v, rfl⟩
noncomputable def K86 : FuncId → Option Spec := fun f => match f with
 | 176 => some (sLV fun l v => vInt (firstII (fun x => v == x) l))
 | 109 => some (pInt isPersB)
 | _ => none
theorem K86_sound : ∀ f s, K86 f = some s → SSound Tryz.prog f s := by
 intro f s h
 unfold K86 at h
 split at h
 ·cases h; exact s176.sound
 ·cases h; exact s109.sound
 ·cases h
@[go_sem] theorem K86_176 : K86 176 = some (sLV fun l v => vInt (firstII (fun x => v == x) l)) := rfl
@[go_sem] theorem K86_109 : K86 109 = some (pInt isPersB) := rfl
theorem s157 : PSound Tryz.prog 157 (pLV fun l v => .bool (l.any fun x => v == x)) := by
 refine psoundB (rs := [.tmp 4]) Tryz.func157 Tryz.ntmps157 (by rfl) (by kernel_rfl) (by decide) (by rintro _ xs ⟨l, v, rfl⟩; rfl) ⟨_, rfl, ?_⟩
 rintro xs ⟨l, v, rfl⟩ hw
 refine ⟨lb rfl, ?_⟩
 rw [pLV_fn]
 have hΓ := K86_sound
 repeat refine sq ?_
 refine rs hΓ [0,1] [] ?_
 repeat refine sq ?_
 refine rx hΓ [4] [] (fun K' hK => by simp only [go_sem, sLV_app, firstII_any]; exact fin) ?_
 exact rt
def persOk (l : List Int) (i : Nat) : Prop := ∀ j (h : j < l.length), j < i → isPersB l[j] = true ∧ (0 < j → l[j - 1] < l[j])
noncomputable def areB (l : List Int) : Bool := by classical exact decide (persOk l l.length ∧ l.length ≤ 12)
def pIs (f : List Int → V) : PSpec := ⟨fun xs => ∃ l : List Int, xs = [.sl (l.map vInt)], fun xs => match xs with | [.sl l] => f (l.map decI) | _ => .bool false, true⟩
theorem pIs_fn (f : List Int → V) (l : List Int) : (pIs f).fn [.sl (l.map vInt)] = f l := by
 simp only [pIs, decI_map]
set_option maxHeartbeats 4000000 in
theorem s126 : PSound Tryz.prog 126 (pIs fun l => .bool (areB l)) := by
 refine psoundB (rs := [.tmp 2]) Tryz.func126 Tryz.ntmps126 (by rfl) (by kernel_rfl) (by decide) (by rintro _ xs ⟨l, rfl⟩; rfl) ⟨_, rfl, ?_⟩
 rintro xs ⟨l, rfl⟩ hw
 have hl : l.length ≤ maxLen := by have := hw.1.1; simpa using this
 refine ⟨lb rfl, ?_⟩
 rw [pIs_fn]
 have hΓ := K86_sound
 have hin := fun (g : Int → Bool) (obj : Name → Option O) (t : Name) (n : Int) => pInt_app (g := g) (obj := obj) (t := t) (n := n)
 repeat refine sq ?_
 refine rs hΓ [0] [] ?_
 repeat refine sq ?_
 refine rs hΓ [0,5,6,7] [] ?_
 repeat refine sq ?_
 refine cl_block ?_
 repeat refine sq ?_
 refine cl_loop' (fun s : Nat => [(7, ⟨true, .v (vInt s)⟩)]) (fun s => []) (fun s => s ≤ l.length ∧ persOk l s) (fun s => l.length - s) 0 ?_ ?_ ?_ ?_
 ·exact ⟨Nat.zero_le _, fun j h hj => by omega⟩
 ·rfl
 ·rfl
 rintro i ⟨hi, hz⟩
 simp only [go_sem]
 repeat refine sq ?_
 refine rs hΓ [0,5,6,7,8] [] ?_
 repeat refine sq ?_
 refine cl_cond rfl rfl (fun hb => ?_) fun hb => ?_
 ·have hlt : i < l.length := by simpa using hb
  have hlt' : (i : Int) < l.length := by omega
  clear hb
  repeat refine sq ?_
  refine cl_skip ?_
  repeat refine sq ?_
  refine cl_block ?_
  repeat refine sq ?_
  refine rx hΓ [0,3,4,5,6,7] [] (fun K' hK => by simp only [go_sem, map_getD hlt, Int.toNat_natCast, Int.natCast_nonneg, hlt']; exact fin) ?_
  obtain ⟨c, hc⟩ : ∃ c : Bool, c = (!isPersB l[i] || (decide (0 < i) && decide (l.getD (i - 1) 0 ≥ l[i]))) := ⟨_, rfl⟩
  repeat refine sq ?_
  refine cl_rw hΓ (mkS 32 [0] (fun _ => none) [(0, ⟨true, .v (.sl (l.map vInt))⟩), (5, ⟨true, .v (.sl (l.map vInt))⟩), (6, ⟨true, .v (vInt l.length)⟩), (7, ⟨true, .v (vInt i)⟩), (27, ⟨true, .v (.bool c)⟩)] []) ?_ fun K' hK => ?_
  rotate_left
  ·cases hp : isPersB l[i] with
   | false =>
    have hct : c = true := by rw [hc, hp]; rfl
    simp only [go_sem, hin, hp]
    repeat refine ⟨ob, ?_⟩
    refine hK _ (weakM_keep [0, 5, 6, 7, 27] [] ?_ ?_)
    ·simp only [go_sem]
    ·simp only [go_sem, hct]
   | true =>
    by_cases h0 : i = 0
    ·have hct : c = false := by rw [hc, hp]; simp [h0]
     have e0 : decide ((i : Int) > 0) = false := by simp [h0]
     simp only [go_sem, hin, hp, e0]
     repeat refine ⟨ob, ?_⟩
     refine hK _ (weakM_keep [0, 5, 6, 7, 27] [] ?_ ?_)
     ·simp only [go_sem]
     ·simp only [go_sem, hct]
    ·have h1 : i - 1 < l.length := by omega
     have h1' : ((i - 1 : Nat) : Int) < l.length := by omega
     have e0 : decide ((i : Int) > 0) = true := by simp; omega
     have hct : decide (l[i - 1] ≥ l[i]) = c := by rw [hc, hp]; simp [List.getD_eq_getElem?_getD, h1]; intro; omega
     simp only [go_sem, hin, hp, e0, wrap_pred h0 (show i ≤ maxLen by omega), map_getD h1, Int.toNat_natCast, Int.natCast_nonneg, h1', hct]
     repeat refine ⟨ob, ?_⟩
     refine hK _ (weakM_keep [0, 5, 6, 7, 27] [] ?_ ?_)
     ·simp only [go_sem]
     ·simp only [go_sem, hct]
  repeat refine sq ?_
  refine cl_cond rfl rfl (fun hb => ?_) fun hb => ?_
  ·repeat refine sq ?_
   refine rs hΓ [2] [] ?_
   refine cl_ret ?_
   simp only [go_sem]
   have hno : ¬ (persOk l l.length ∧ l.length ≤ 12) := by
    rintro ⟨h1, _⟩
    obtain ⟨h2, h3⟩ := h1 i hlt hlt
    rw [hb] at hc
    rw [h2] at hc
    simp only [Bool.not_true, Bool.false_or, Bool.true_eq, Bool.and_eq_true, decide_eq_true_eq] at hc
    have h4 := h3 hc.1
    have h5 : i - 1 < l.length := by omega
    rw [List.getD_eq_getElem?_getD, List.getElem?_eq_getElem h5, Option.getD_some] at hc
    omega
   unfold areB
   simp [hno]
  ·have hnext : persOk l (i + 1) := fun j h hj => by
    rcases Nat.lt_succ_iff_lt_or_eq.1 hj with h1 | h1
    ·exact hz j h h1
    ·subst h1
     rw [hb] at hc
     cases hp : isPersB l[j] with
     | false => rw [hp] at hc; simp at hc
     | true =>
      refine ⟨rfl, fun h0 => ?_⟩
      have h5 : j - 1 < l.length := by omega
      rw [hp, List.getD_eq_getElem?_getD, List.getElem?_eq_getElem h5, Option.getD_some] at hc
      simp [h0] at hc
      exact hc
   clear hb
   repeat refine sq ?_
   refine cl_skip ?_
   refine cl_nil ?_
   simp only [go_sem]
   refine cl_keep [0,5,6,7] [] ?_ ?_ <;> simp only [go_sem]
   repeat refine sq ?_
   refine cl_r hΓ fun K' hK => ?_
   simp only [go_sem]
   repeat refine ⟨ob, ?_⟩
   refine hK _ ?_
   clear K' hK
   simp only [go_sem]
   refine ⟨i + 1, ⟨by omega, hnext⟩, by omega, ?_⟩
   refine weak_eq [0,5,6,7] [] ?_ ?_ <;> simp only [go_sem, wrap_succ hlt hl, Int.natCast_add, Int.natCast_one]
 ·have hge : i = l.length := by
   have : ¬ (i : Int) < l.length := by simpa using hb
   omega
  subst hge
  clear hb
  repeat refine sq ?_
  refine cl_exit ?_
  simp only [go_sem]
  refine cl_keep [0] [] ?_ ?_ <;> simp only [go_sem]
  repeat refine sq ?_
  refine rs hΓ [2] [] ?_
  refine cl_ret ?_
  simp only [go_sem]
  unfold areB
  have : ((l.length : Int) ≤ 12) ↔ l.length ≤ 12 := by omega
  simp [hz, this]
@[go_sem] theorem ta186 : tAgg Tryz.prog 186 = some (false, 1) := by kernel_rfl
@[go_sem] theorem tl186 : tLen Tryz.prog 186 = some 2 := by kernel_rfl
@[go_sem] theorem tz186 : tZero Tryz.prog 186 = some (.map none) := by kernel_rfl
@[go_sem] theorem tm186 : tMap Tryz.prog 186 = some (0, 4) := by kernel_rfl
def seenM (hs : List Int) : List (V × V) := hs.map fun h => (vInt h, .bool true)
theorem mget_seen (hs : List Int) (h : Int) : mget (seenM hs) (vInt h) = if hs.any (fun x => x == h) then some (.bool true) else none := by
 induction hs with
 | nil => rfl
 | cons a r ih =>
  unfold seenM at ih ⊢
  simp only [List.map_cons, mget, keq, List.any_cons]
  by_cases e : (a == h) = true
  ·simp [e]
  ·have e' : (a == h) = false := by simpa using e
   simp only [e', Bool.false_or, Bool.false_eq_true, if_false]
   exact ih
theorem mset_seen {hs : List Int} {h : Int} (hn : hs.any (fun x => x == h) = false) : mset (seenM hs) (vInt h) (.bool true) = seenM (hs ++ [h]) := by
 induction hs with
 | nil => rfl
 | cons a r ih =>
  simp only [List.any_cons, Bool.or_eq_false_iff] at hn
  unfold seenM at ih ⊢
  simp only [List.map_cons, List.cons_append, mset, keq, hn.1, Bool.false_eq_true, if_false, ih hn.2]
def badK (L : List Sta) (ps : List Int) (i : Nat) : Bool := (L.getD i zeroS).h == 0 || ((L.take i).any fun x => x.h == (L.getD i zeroS).h) || !(ps.any fun x => (L.getD i zeroS).n == x)
def threeB (L : List Sta) (ps : List Int) : Bool := (List.range 3).all fun i => !badK L ps i
def encW (a b c p q r : Int) (x y z : Sta) : V := .agg [vInt a, vInt b, vInt c, vInt p, vInt q, vInt r, vInt x.h, vInt x.n, .bool x.o, vInt y.h, vInt y.n, .bool y.o, vInt z.h, vInt z.n, .bool z.o]
def pThree : PSpec := ⟨fun xs => ∃ (a b c p q r : Int) (x y z : Sta) (ps : List Int), xs = [encW a b c p q r x y z, .sl (ps.map vInt)],
 fun xs => match xs with | [.agg [_, _, _, _, _, _, .int _ a, .int _ b, .bool c, .int _ d, .int _ e, .bool f, .int _ g, .int _ h, .bool i], .sl ps] => .bool (threeB [⟨a, b, c⟩, ⟨d, e, f⟩, ⟨g, h, i⟩] (ps.map decI)) | _ => .bool false, true⟩
theorem pThree_fn (a b c p q r : Int) (x y z : Sta) (ps : List Int) : pThree.fn [encW a b c p q r x y z, .sl (ps.map vInt)] = .bool (threeB [x, y, z] ps) := by
 simp only [pThree, encW, decI_map]
noncomputable def K87 : FuncId → Option Spec := fun f => match f with
 | 157 => some (sLV fun l v => .bool (l.any fun x => v == x))
 | _ => none
theorem K87_sound : ∀ f s, K87 f = some s → SSound Tryz.prog f s := by
 intro f s h
 unfold K87 at h
 split at h
 ·cases h; exact s157.sound
 ·cases h
@[go_sem] theorem K87_157 : K87 157 = some (sLV fun l v => .bool (l.any fun x => v == x)) := rfl
theorem three_no {L : List Sta} {ps : List Int} {i : Nat} (hi : i < 3) (h : badK L ps i = true) : threeB L ps = false := by
 unfold threeB
 rw [List.all_eq_false]
 exact ⟨i, List.mem_range.2 hi, by rw [h]; decide⟩
theorem three_yes {L : List Sta} {ps : List Int} (h : ∀ j, j < 3 → badK L ps j = false) : threeB L ps = true := by
 unfold threeB
 rw [List.all_eq_true]
 intro i hi
 rw [h i (List.mem_range.1 hi)]
 rfl
set_option maxHeartbeats 8000000 in
theorem s122 : PSound Tryz.prog 122 pThree := by
 refine psoundB (rs := [.tmp 4]) Tryz.func122 Tryz.ntmps122 (by rfl) (by kernel_rfl) (by decide) (by rintro _ xs ⟨a, b, c, p, q, r, x, y, z, ps, rfl⟩; rw [pThree_fn]; rfl) ⟨_, rfl, ?_⟩
 rintro xs ⟨a, b, c, p, q, r, ⟨x1, x2, x3⟩, ⟨y1, y2, y3⟩, ⟨z1, z2, z3⟩, ps, rfl⟩ hw
 refine ⟨lb rfl, ?_⟩
 rw [pThree_fn]
 simp only [encW]
 have hΓ := K87_sound
 have hP := mixedK
 repeat refine sq ?_
 refine rx hΓ [1,2] [[2, 0]] (fun K' hK => by simp only [go_sem, tz152]; exact fin) ?_
 repeat refine sq ?_
 refine rx hΓ [1,2,5] [[2, 0],[8, 0]] (fun K' hK => by simp only [go_sem, keyIs]; exact fin) ?_
 repeat refine sq ?_
 refine rx hΓ [1,5,10,11] [[8, 0]] (fun K' hK => by simp only [go_sem, tp150, Nat.reduceLeDiff, Nat.le_refl]; exact fin) ?_
 obtain ⟨L, hL⟩ : ∃ L : List Sta, L = [⟨x1, x2, x3⟩, ⟨y1, y2, y3⟩, ⟨z1, z2, z3⟩] := ⟨_, rfl⟩
 rw [← hL]
 repeat refine sq ?_
 refine cl_block ?_
 repeat refine sq ?_
 refine cl_loop' (fun s : Nat => [(11, ⟨true, .v (vInt s)⟩)]) (fun s => [([8, 0], .map 0 (seenM ((L.take s).map (·.h))))]) (fun s => s ≤ 3 ∧ ∀ j, j < s → badK L ps j = false) (fun s => 3 - s) 0 ?_ ?_ ?_ ?_
 ·exact ⟨Nat.zero_le _, fun j hj => by omega⟩
 ·rfl
 ·rfl
 rintro i ⟨hi, hz⟩
 simp only [go_sem]
 repeat refine sq ?_
 refine rs hΓ [1,5,10,11,12] [[8, 0]] ?_
 repeat refine sq ?_
 refine cl_cond rfl rfl (fun hb => ?_) fun hb => ?_
 ·have hlt : i < 3 := by
   have : (i : Int) < 3 := by simpa using hb
   omega
  have hws : IntKind.i64.wrap ((i : Int) + 1) = ((i + 1 : Nat) : Int) := wrap_succ (n := 3) hlt (by unfold maxLen; omega)
  clear hb
  repeat refine sq ?_
  refine cl_skip ?_
  repeat refine sq ?_
  refine cl_block ?_
  repeat refine sq ?_
  obtain ⟨h, n, o, hs⟩ : ∃ h n o, L.getD i zeroS = ⟨h, n, o⟩ := ⟨_, _, _, rfl⟩
  refine cl_rw hΓ (mkS 34 [0] (fun _ => none) [(1, ⟨true, .v (.sl (ps.map vInt))⟩), (5, ⟨true, .map [8, 0]⟩), (7, ⟨true, .ref [7, 0] 0⟩), (10, ⟨true, .agg [.v (vInt x1), .v (vInt x2), .v (.bool x3), .v (vInt y1), .v (vInt y2), .v (.bool y3), .v (vInt z1), .v (vInt z2), .v (.bool z3)]⟩), (11, ⟨true, .v (vInt i)⟩)] [([7, 0], .box [.v (vInt h), .v (vInt n), .v (.bool o)]), ([8, 0], .map 0 (seenM ((L.take i).map (·.h))))]) ?_ fun K' hK => ?_
  rotate_left
  ·have hi3 : i = 0 ∨ i = 1 ∨ i = 2 := by omega
   have h3 : (i : Int) < 3 := by omega
   generalize hsm : seenM ((L.take i).map (·.h)) = sm at hK ⊢
   rcases hi3 with rfl | rfl | rfl
   all_goals
    rw [hL] at hs
    simp only [List.getD_cons_zero, List.getD_cons_succ, Sta.mk.injEq] at hs
    obtain ⟨rfl, rfl, rfl⟩ := hs
    simp only [go_sem, tz137, tp137, Nat.reduceLeDiff, Nat.le_refl, Int.toNat_natCast, Int.natCast_nonneg, h3]
    repeat refine ⟨ob, ?_⟩
    refine hK _ (weakM_keep [1, 5, 7, 10, 11] [[7, 0], [8, 0]] ?_ ?_)
    ·simp only [go_sem]
    ·simp only [go_sem]
  have hA : ((L.take i).map (·.h)).any (fun x => x == h) = (L.take i).any (fun x => x.h == h) := by rw [List.any_map]; rfl
  have hbk : badK L ps i = ((h == 0) || ((L.take i).any fun x => x.h == h) || !(ps.any fun x => n == x)) := by unfold badK; rw [hs]
  rw [← hA] at hbk
  have hmg := mget_seen ((L.take i).map (·.h)) h
  repeat refine sq ?_
  refine cl_rw hΓ (mkS 34 [0] (fun _ => none) [(1, ⟨true, .v (.sl (ps.map vInt))⟩), (5, ⟨true, .map [8, 0]⟩), (7, ⟨true, .ref [7, 0] 0⟩), (10, ⟨true, .agg [.v (vInt x1), .v (vInt x2), .v (.bool x3), .v (vInt y1), .v (vInt y2), .v (.bool y3), .v (vInt z1), .v (vInt z2), .v (.bool z3)]⟩), (11, ⟨true, .v (vInt i)⟩), (29, ⟨true, .v (.bool (badK L ps i))⟩)] [([7, 0], .box [.v (vInt h), .v (vInt n), .v (.bool o)]), ([8, 0], .map 0 (seenM ((L.take i).map (·.h))))]) ?_ fun K' hK => ?_
  rotate_left
  ·generalize badK L ps i = bk at hbk hK
   cases h0 : (h == 0) <;> cases h1 : ((L.take i).map (·.h)).any (fun x => x == h)
   all_goals
    rw [h1] at hmg
    simp only [if_true, Bool.false_eq_true, if_false] at hmg
    simp only [h0, h1, Bool.true_or, Bool.or_true, Bool.false_or, Bool.or_false] at hbk
    simp only [go_sem, h0, hmg, keyIs, tz4, sLV_app, Option.getD_some, Option.getD_none]
    repeat refine ⟨ob, ?_⟩
    refine hK _ (weakM_keep [1, 5, 7, 10, 11, 29] [[7, 0], [8, 0]] ?_ ?_)
    ·simp only [go_sem]
    ·simp only [go_sem, hbk]
  repeat refine sq ?_
  refine cl_cond rfl rfl (fun hb => ?_) fun hb => ?_
  ·repeat refine sq ?_
   rw [three_no hlt hb]
   repeat refine sq ?_
   refine rs hΓ [4] [] ?_
   exact rt
  ·have hns : ((L.take i).map (·.h)).any (fun x => x == h) = false := by
    rw [hb] at hbk
    cases h1 : ((L.take i).map (·.h)).any (fun x => x == h) with
    | false => rfl
    | true => rw [h1] at hbk; simp at hbk
   have hms := mset_seen hns
   have hLi : i < L.length := by rw [hL]; exact hlt
   have hLg : L[i] = ⟨h, n, o⟩ := by rw [← hs, List.getD_eq_getElem?_getD, List.getElem?_eq_getElem hLi]; rfl
   repeat refine sq ?_
   refine cl_skip ?_
   repeat refine sq ?_
   refine cl_r hΓ fun K' hK => ?_
   simp only [go_sem, keyIs, hms]
   repeat refine ⟨ob, ?_⟩
   refine hK _ ?_
   clear K' hK
   simp only [go_sem]
   refine cl_keep [1,5,10,11] [[8, 0]] ?_ ?_ <;> simp only [go_sem]
   repeat refine sq ?_
   refine cl_r hΓ fun K' hK => ?_
   simp only [go_sem]
   repeat refine ⟨ob, ?_⟩
   refine hK _ ?_
   clear K' hK
   simp only [go_sem]
   refine ⟨i + 1, ⟨by omega, fun j hj => ?_⟩, by omega, ?_⟩
   ·rcases Nat.lt_succ_iff_lt_or_eq.1 hj with h1 | h1
    ·exact hz j h1
    ·subst h1; exact hb
   have htk : (L.take (i + 1)).map (·.h) = (L.take i).map (·.h) ++ [h] := by
    rw [List.take_add_one, List.getElem?_eq_getElem hLi, hLg]
    simp
   rw [htk]
   refine weak_eq [1,5,10,11] [[8, 0]] ?_ ?_ <;> simp only [go_sem, hws, Int.natCast_add, Int.natCast_one]
 ·have hge : i = 3 := by
   have : ¬ (i : Int) < 3 := by simpa using hb
   omega
  subst hge
  clear hb
  repeat refine sq ?_
  refine cl_exit ?_
  simp only [go_sem]
  refine cl_keep [] [] ?_ ?_ <;> simp only [go_sem]
  rw [three_yes hz]
  repeat refine sq ?_
  refine rs hΓ [4] [] ?_
  exact rt
theorem cl_label {P : Program} {l : Nat} {r : List Code} {σ : S} {K : Exit → S → Prop} (h : CL P r σ K) : CL P (.label l :: r) σ K := by
 cases r with
 | nil => exact cw_label h
 | cons c r => exact cw_label h
def wl (c : List Deed) (day : Int) (k : Nat) : Nat := k % nT c 3 day
def wj (c : List Deed) (day : Int) (k : Nat) : Nat := k / nT c 3 day % nT c 2 day
def wi (c : List Deed) (day : Int) (k : Nat) : Nat := k / nT c 3 day / nT c 2 day
def wN (c : List Deed) (day : Int) : Nat := nT c 1 day * (nT c 2 day * nT c 3 day)
theorem w_split {a b m i j l : Nat} (hj : j < a) (hl : l < b) (hm : m = i * (a * b) + j * b + l) : m % b = l ∧ m / b % a = j ∧ m / b / a = i := by
 have e : m = b * (a * i + j) + l := by
  rw [hm, Nat.mul_add, ← Nat.mul_assoc b a i, Nat.mul_comm b a, Nat.mul_comm (a * b) i, Nat.mul_comm b j]
 have h1 : m / b = a * i + j := by rw [e, Nat.mul_add_div (by omega), Nat.div_eq_of_lt hl]; rfl
 refine ⟨by rw [e, Nat.mul_add_mod, Nat.mod_eq_of_lt hl], ?_, ?_⟩
 ·rw [h1, Nat.mul_add_mod, Nat.mod_eq_of_lt hj]
 ·rw [h1, Nat.mul_add_div (by omega), Nat.div_eq_of_lt hj]; rfl
theorem w_lt {c : List Deed} {day : Int} {k : Nat} (h : k < wN c day) : wi c day k < nT c 1 day ∧ wj c day k < nT c 2 day ∧ wl c day k < nT c 3 day := by
 unfold wN at h
 have h3 : 0 < nT c 3 day := by
  rcases Nat.eq_zero_or_pos (nT c 3 day) with e | e
  ·rw [e] at h; simp at h
  ·exact e
 have h2 : 0 < nT c 2 day := by
  rcases Nat.eq_zero_or_pos (nT c 2 day) with e | e
  ·rw [e] at h; simp at h
  ·exact e
 refine ⟨?_, Nat.mod_lt _ h2, Nat.mod_lt _ h3⟩
 unfold wi
 rw [Nat.div_lt_iff_lt_mul h2, Nat.div_lt_iff_lt_mul h3, Nat.mul_assoc]
 exact h
theorem w_join (c : List Deed) (day : Int) (k : Nat) : k = nT c 3 day * (nT c 2 day * wi c day k + wj c day k) + wl c day k := by
 unfold wi wj wl
 rw [Nat.div_add_mod, Nat.div_add_mod]
theorem kT_inj {c : List Deed} {l day : Int} {i j : Nat} (hi : i < nT c l day) (hj : j < nT c l day) (h : kT c l day i = kT c l day j) : i = j := by
 unfold kT at h
 unfold nT at hi hj
 rw [List.getD_eq_getElem?_getD, List.getD_eq_getElem?_getD, List.getElem?_eq_getElem hi, List.getElem?_eq_getElem hj, Option.getD_some, Option.getD_some] at h
 exact (List.getElem_inj (List.nodup_range.filter _)).1 h
def wX (c : List Deed) (day : Int) (k : Nat) : Sta := sT c 1 day (wi c day k)
def wY (c : List Deed) (day : Int) (k : Nat) : Sta := sT c 2 day (wj c day k)
def wZ (c : List Deed) (day : Int) (k : Nat) : Sta := sT c 3 day (wl c day k)
def wA (c : List Deed) (day : Int) (k : Nat) : Nat := kT c 1 day (wi c day k)
def wB (c : List Deed) (day : Int) (k : Nat) : Nat := kT c 2 day (wj c day k)
def wC (c : List Deed) (day : Int) (k : Nat) : Nat := kT c 3 day (wl c day k)
def wVals (c : List Deed) (day : Int) (k : Nat) : List D := [wayD (wA c day k) (wB c day k) (wC c day k) (wX c day k) (wY c day k) (wZ c day k)]
theorem wVals_inj {c : List Deed} {day : Int} : ∀ s s', s < wN c day → s' < wN c day → wVals c day s = wVals c day s' → s = s' := by
 intro s s' h h' e
 obtain ⟨h1, h2, h3⟩ := w_lt h
 obtain ⟨k1, k2, k3⟩ := w_lt h'
 simp only [wVals, wayD, List.cons.injEq, D.agg.injEq, D.v.injEq, vInt, V.int.injEq, true_and, and_true] at e
 obtain ⟨e1, e2, e3, _⟩ := e
 have f1 := kT_inj h1 k1 (by unfold wA at e1; omega)
 have f2 := kT_inj h2 k2 (by unfold wB at e2; omega)
 have f3 := kT_inj h3 k3 (by unfold wC at e3; omega)
 rw [w_join c day s, w_join c day s', f1, f2, f3]
theorem wVals_at {c : List Deed} {day : Int} {i j l : Nat} (hj : j < nT c 2 day) (hl : l < nT c 3 day) : wVals c day (0 + i * (nT c 2 day * nT c 3 day) + j * nT c 3 day + l) = [wayD (kT c 1 day i) (kT c 2 day j) (kT c 3 day l) (sT c 1 day i) (sT c 2 day j) (sT c 3 day l)] := by
 obtain ⟨h1, h2, h3⟩ := w_split (i := i) hj hl (m := 0 + i * (nT c 2 day * nT c 3 day) + j * nT c 3 day + l) (by rw [Nat.zero_add])
 simp only [wVals, wA, wB, wC, wX, wY, wZ, wi, wj, wl, h1, h2, h3]
def offA (c : List Deed) (day : Int) (x : Sta) (inn : Bool) : Int × Bool := offFind (thrL c 0 x.h) inn day
def goodW (c : List Deed) (day : Int) (ps : List Int) (k : Nat) : Bool := threeB [wX c day k, wY c day k, wZ c day k] ps && (offA c day (wX c day k) true).2 && (offA c day (wY c day k) true).2 && (offA c day (wZ c day k) true).2
def cellsW (a b d p q r : Int) (x y z : Sta) : List D := [.v (vInt a), .v (vInt b), .v (vInt d), .v (vInt p), .v (vInt q), .v (vInt r), .v (vInt x.h), .v (vInt x.n), .v (.bool x.o), .v (vInt y.h), .v (vInt y.n), .v (.bool y.o), .v (vInt z.h), .v (vInt z.n), .v (.bool z.o)]
def cells0 : List D := cellsW 0 0 0 0 0 0 zeroS zeroS zeroS
def lawFam (c : List Deed) (day : Int) (ps : List Int) (s : Nat) : List O :=
 match s with
 | 0 => [.box cells0, .box [.v (.bool false)]]
 | k + 1 => if goodW c day ps k then [.box (cellsW (wA c day k) (wB c day k) (wC c day k) (offA c day (wX c day k) true).1 (offA c day (wY c day k) true).1 (offA c day (wZ c day k) true).1 (wX c day k) (wY c day k) (wZ c day k)), .box [.v (.bool true)]] else [.box cells0, .box [.v (.bool false)]]
def enL (c : List Deed) (day : Int) (ps : List Int) (a b : Name) : List E :=
 (List.range 40).map (ofL eAny [(2, ⟨true, .v (.ptr [.sl (c.map encD), vInt day])⟩), (3, ⟨true, .v (.ptr [.sl (ps.map vInt)])⟩), (4, ⟨true, .ref a 0⟩), (5, ⟨true, .ref b 0⟩), (12, ⟨true, .v (.clo (.func 177) [] [.ptr [.sl (c.map encD), vInt day]])⟩)])
noncomputable def cdL : Array Tmp × Code × Code := rngOf Tryz.f127
noncomputable def lawLp (c : List Deed) (day : Int) (ps : List Int) : Lp where
 m := 2
 env := fun Ls => enL c day ps (Ls.getD 0 []) (Ls.getD 1 [])
 fam := fun _ s => lawFam c day ps s
 ps := cdL.1.toList
 asg := cdL.2.1
 body := cdL.2.2
 n := wN c day
 vals := wVals c day
 st := fun k => if goodW c day ps k then some .ret else none
 fu := 100
theorem lawFam_cases (c : List Deed) (day : Int) (ps : List Int) (s : Nat) : ∃ (a b d p q r : Int) (x y z : Sta) (t : Bool), lawFam c day ps s = [.box (cellsW a b d p q r x y z), .box [.v (.bool t)]] := by
 cases s with
 | zero => exact ⟨_, _, _, _, _, _, _, _, _, _, rfl⟩
 | succ s =>
  simp only [lawFam]
  split
  ·exact ⟨_, _, _, _, _, _, _, _, _, _, rfl⟩
  ·exact ⟨_, _, _, _, _, _, _, _, _, _, rfl⟩
theorem lawLp_ok (c : List Deed) (day : Int) (ps : List Int) : (lawLp c day ps).Ok where
 len := fun Ls s _ => by obtain ⟨a, b, d, p, q, r, x, y, z, t, h⟩ := lawFam_cases c day ps s; simp only [lawLp, h]; rfl
 renE := fun f Ls h => by obtain ⟨a, b, rfl⟩ := two_names h; rfl
 renF := fun f Ls s h => by obtain ⟨a, b, d, p, q, r, x, y, z, t, h⟩ := lawFam_cases c day ps s; simp only [lawLp, h]; rfl
 reach := fun Ls s obj acc k h hn hd hF => by
  obtain ⟨a, b, rfl⟩ := two_names h
  obtain ⟨a', b', d, p, q, r, x, y, z, t, hf⟩ := lawFam_cases c day ps s
  simp only [lawLp, hf] at hF
  obtain ⟨h1, h2, _⟩ := hF
  have hab : a ≠ b := by simpa using hn
  show reachL obj (k + 100) _ acc = _
  have e : namesL (((lawLp c day ps).env [a, b]).map (·.d)) = [a, b] := rfl
  rw [e, show k + 100 = (k + 98) + 1 + 1 by omega, reachL_new (hd a (by simp)) h1]
  have h3 : b ∉ acc ++ [a] := by simp only [List.mem_append, List.mem_singleton, not_or]; exact ⟨hd b (by simp), hab.symm⟩
  show reachL obj (k + 98 + 1) [b] _ = _
  rw [reachL_new h3 h2]
  show reachL obj (k + 97 + 1) [] _ = _
  simp [reachL]
 closE := fun dom Ls h hd => by
  obtain ⟨a, b, rfl⟩ := two_names h
  have h1 := hd a (by simp)
  have h2 := hd b (by simp)
  simp [lawLp, enL, List.range, List.range.loop, ofL, D.closL, D.clos, eAny, h1, h2]
 closF := fun dom Ls s h hd o ho => by
  obtain ⟨a', b', d, p, q, r, x, y, z, t, hf⟩ := lawFam_cases c day ps s
  simp only [lawLp, hf, List.mem_cons, List.not_mem_nil, or_false] at ho
  rcases ho with rfl | rfl <;> rfl
 psz := fun Ls h => by rfl
 args := fun s => by rfl
 fuel := (show (100 : Nat) ≤ 2000 by decide)
 vnam := fun _ => rfl
 vcl := fun _ _ => rfl
 vren := fun _ _ => rfl
 inj := wVals_inj
def cnt (s k : Nat) (v : Int) : Int := if k < s then v else 0
@[go_sem] theorem cnt_0 (k : Nat) (v : Int) : cnt 0 k v = 0 := rfl
@[go_sem] theorem cnt_10 (v : Int) : cnt 1 0 v = v := rfl
@[go_sem] theorem cnt_11 (v : Int) : cnt 1 1 v = 0 := rfl
@[go_sem] theorem cnt_12 (v : Int) : cnt 1 2 v = 0 := rfl
@[go_sem] theorem cnt_20 (v : Int) : cnt 2 0 v = v := rfl
@[go_sem] theorem cnt_21 (v : Int) : cnt 2 1 v = v := rfl
@[go_sem] theorem cnt_22 (v : Int) : cnt 2 2 v = 0 := rfl
@[go_sem] theorem cnt_30 (v : Int) : cnt 3 0 v = v := rfl
@[go_sem] theorem cnt_31 (v : Int) : cnt 3 1 v = v := rfl
@[go_sem] theorem cnt_32 (v : Int) : cnt 3 2 v = v := rfl
noncomputable def sThree : Spec := pThree.toSpec
theorem sThree_app {obj : Name → Option O} {t : Name} {a b d p q r x1 x2 y1 y2 z1 z2 : Int} {x3 y3 z3 : Bool} {ps : List Int} :
  sThree.app obj t [.agg [.v (vInt a), .v (vInt b), .v (vInt d), .v (vInt p), .v (vInt q), .v (vInt r), .v (vInt x1), .v (vInt x2), .v (.bool x3), .v (vInt y1), .v (vInt y2), .v (.bool y3), .v (vInt z1), .v (vInt z2), .v (.bool z3)], .v (.sl (ps.map vInt))] = ⟨True, .v (.bool (threeB [⟨x1, x2, x3⟩, ⟨y1, y2, y3⟩, ⟨z1, z2, z3⟩] ps)), obj⟩ := by
 have e : frzL (frz 6) obj [.agg [.v (vInt a), .v (vInt b), .v (vInt d), .v (vInt p), .v (vInt q), .v (vInt r), .v (vInt x1), .v (vInt x2), .v (.bool x3), .v (vInt y1), .v (vInt y2), .v (.bool y3), .v (vInt z1), .v (vInt z2), .v (.bool z3)], .v (.sl (ps.map vInt))] = ⟨True, [encW a b d p q r ⟨x1, x2, x3⟩ ⟨y1, y2, y3⟩ ⟨z1, z2, z3⟩, .sl (ps.map vInt)], obj⟩ := by
  simp [frzL, frz, D.one, V.one, encW]
 simp only [sThree, PSpec.toSpec, e, pThree_fn]
 simp only [pThree, if_true]
 congr 1
 simp only [eq_iff_iff, iff_true]
 exact ⟨trivial, _, _, _, _, _, _, ⟨x1, x2, x3⟩, ⟨y1, y2, y3⟩, ⟨z1, z2, z3⟩, _, rfl⟩
noncomputable def sOff : Spec := pOff.toSpec
theorem sOff_app {obj : Name → Option O} {t : Name} {c : List Deed} {day pe : Int} {inn : Bool} (hl : c.length ≤ 60) (hk : ∀ d ∈ c, kindOk d) :
  sOff.app obj t [.v (.agg [.sl (c.map encD), vInt day]), .v (vInt pe), .v (.bool inn)] = ⟨True, .v (.tup [vInt (offFind (thrL c 0 pe) inn day).1, .bool (offFind (thrL c 0 pe) inn day).2]), obj⟩ := by
 simp only [sOff, PSpec.toSpec, frzL, frz, pOff_fn]
 simp only [pOff, if_true]
 congr 1
 simp only [eq_iff_iff, iff_true]
 exact ⟨⟨trivial, trivial, trivial, trivial⟩, c, day, pe, inn, rfl, hl, hk⟩
noncomputable def K89 : FuncId → Option Spec := fun f => match f with
 | 122 => some sThree
 | 159 => some sOff
 | _ => none
theorem K89_sound : ∀ f s, K89 f = some s → SSound Tryz.prog f s := by
 intro f s h
 unfold K89 at h
 split at h
 ·cases h; exact s122.sound
 ·cases h; exact s159.sound
 ·cases h
@[go_sem] theorem K89_122 : K89 122 = some sThree := rfl
@[go_sem] theorem K89_159 : K89 159 = some sOff := rfl
theorem cl_rwE {P : Program} {Γ : FuncId → Option Spec} (hΓ : ∀ f s, Γ f = some s → SSound P f s) {id : Nat} {l : List Oper} {c : Code} {r : List Code} {σ : S} {K K1 : Exit → S → Prop} (τ : S)
  (hn : ∀ σ', CL P (c :: r) σ' K1 → K .normal σ') (h : CL P (c :: r) τ K1) (h' : ∀ K' : S → Prop, (∀ σ', WeakM σ' τ → K' σ') → Reg P Γ l.toArray l σ K') : CL P [.region id l.toArray false] σ K :=
 cl_r hΓ fun K' hK => h' K' fun σ' hw => hK σ' (hn σ' (cl_weakM hw h))
set_option maxHeartbeats 16000000 in
theorem lawLp_y {c : List Deed} (hl60 : c.length ≤ 60) (hkc : ∀ d ∈ c, kindOk d) (day : Int) (ps : List Int) : SSound Tryz.prog yid (lawLp c day ps).y.toSpec := by
 refine Lp.y_sound (lawLp_ok c day ps) fun k hk hj => ?_
 have hΓ := K89_sound
 have hP := mixedK
 have hst : (lawLp c day ps).st k = if goodW c day ps k then some .ret else none := rfl
 have hf1 : (lawLp c day ps).fam (LR 2) (k + 1) = if goodW c day ps k then [.box (cellsW (wA c day k) (wB c day k) (wC c day k) (offA c day (wX c day k) true).1 (offA c day (wY c day k) true).1 (offA c day (wZ c day k) true).1 (wX c day k) (wY c day k) (wZ c day k)), .box [.v (.bool true)]] else [.box cells0, .box [.v (.bool false)]] := rfl
 have hf0 : (lawLp c day ps).fam (LR 2) k = [.box cells0, .box [.v (.bool false)]] := by
  cases k with
  | zero => rfl
  | succ s =>
   have h1 : (if goodW c day ps s then some Code.ret else none) = none := hj s (by omega)
   have h2 : goodW c day ps s = false := by
    cases hg : goodW c day ps s with
    | false => rfl
    | true => rw [hg] at h1; cases h1
   show lawFam c day ps (s + 1) = _
   simp only [lawFam, h2]
   rfl
 have hvl : (lawLp c day ps).vals k = [wayD (wA c day k) (wB c day k) (wC c day k) (wX c day k) (wY c day k) (wZ c day k)] := rfl
 have hm : (lawLp c day ps).m = 2 := rfl
 have hen : (lawLp c day ps).env (LR 2) = enL c day ps [0, 1] [1, 1] := rfl
 have hcd : cdL = (_, _, _) := rfl
 have hps : (lawLp c day ps).ps = [13] := rfl
 have hasg : (lawLp c day ps).asg = cdL.2.1 := rfl
 have hbody : (lawLp c day ps).body = cdL.2.2 := rfl
 have hgd : goodW c day ps k = (threeB [wX c day k, wY c day k, wZ c day k] ps && (offA c day (wX c day k) true).2 && (offA c day (wY c day k) true).2 && (offA c day (wZ c day k) true).2) := rfl
 rw [hm, hf0, hf1, hst, hvl, hen, hps, hasg, hbody, hcd]
 dsimp only
 generalize goodW c day ps k = gd at hgd ⊢
 generalize wA c day k = wa at *
 generalize wB c day k = wb at *
 generalize wC c day k = wc at *
 generalize wX c day k = x at *
 generalize wY c day k = y at *
 generalize wZ c day k = z at *
 clear hf0 hf1 hst hvl hm hen hps hasg hbody hj hk hcd
 have hF : objAll (outH [.box cells0, .box [.v (.bool false)]]) (LR 2) [.box cells0, .box [.v (.bool false)]] := outH_all
 have hO : ∀ hs, OutC [0] (domOf [0] hs) (outH [.box cells0, .box [.v (.bool false)]]) = True := fun hs => eq_true (outC_outs (fun o ho dom hd => by
  simp only [List.mem_cons, List.not_mem_nil, or_false] at ho
  rcases ho with rfl | rfl <;> rfl) hs)
 generalize outH [.box cells0, .box [.v (.bool false)]] = H at hF hO ⊢
 obtain ⟨hH0, hH1, _⟩ := hF
 obtain ⟨f, hf⟩ : ∃ f : Sta → Int × Bool, ∀ x, f x = offA c day x true := ⟨_, fun _ => rfl⟩
 have hoff := fun (obj : Name → Option O) (t : Name) (x1 x2 : Int) (x3 : Bool) => (sOff_app (obj := obj) (t := t) (day := day) (pe := x1) (inn := true) hl60 hkc).trans (show _ = (⟨True, .v (.tup [vInt (f ⟨x1, x2, x3⟩).1, .bool (f ⟨x1, x2, x3⟩).2]), obj⟩ : R) by rw [hf]; rfl)
 simp only [← hf] at hgd ⊢
 clear hf
 obtain ⟨x1, x2, x3⟩ := x
 obtain ⟨y1, y2, y3⟩ := y
 obtain ⟨z1, z2, z3⟩ := z
 simp only [wayD, cellsW, cells0, zeroS] at *
 refine cw_weak (weak_to 40 [0] H [(2, ⟨true, .v (.ptr [.sl (c.map encD), vInt day])⟩), (3, ⟨true, .v (.ptr [.sl (ps.map vInt)])⟩), (4, ⟨true, .ref [0, 1] 0⟩), (5, ⟨true, .ref [1, 1] 0⟩), (13, ⟨true, .agg [.v (vInt wa), .v (vInt wb), .v (vInt wc), .v (vInt 0), .v (vInt 0), .v (vInt 0), .v (vInt x1), .v (vInt x2), .v (.bool x3), .v (vInt y1), .v (vInt y2), .v (.bool y3), .v (vInt z1), .v (vInt z2), .v (.bool z3)]⟩)] [] rfl rfl (fun _ _ => rfl) ?_ (by simp) ?_ ?_) ?_
 ·intro q hq
  simp only [List.mem_cons, List.not_mem_nil, or_false] at hq
  rcases hq with rfl | rfl | rfl | rfl | rfl <;> rfl
 ·simp [D.clos, D.closL, domOf, own]
 ·rw [hO]; trivial
 refine cl_of ?_
 refine cl_r hΓ fun K' hK => ?_
 simp only [go_sem, tp152, tz152]
 refine ⟨Nat.le_refl _, ?_⟩
 refine hK _ ?_
 clear K' hK
 refine (cw_keep [2, 3, 4, 5, 6] [[6, 0]] ?_ ?_ : CW _ _ _ _)
 ·simp only [go_sem, hO]
 refine cl_of ?_
 simp only [go_sem]
 refine cl_block ?_
 repeat refine sq ?_
 refine cl_rs hΓ [2,4,5,6,17] [[6, 0]] fun K' hK => ?_
 simp only [go_sem, hO, sThree_app]
 repeat refine ⟨ob, ?_⟩
 refine hK _ ?_ ?_ <;> clear K' hK <;> simp only [go_sem, hO, sThree_app]
 obtain ⟨L, hL⟩ : ∃ L : List Sta, L = [⟨x1, x2, x3⟩, ⟨y1, y2, y3⟩, ⟨z1, z2, z3⟩] := ⟨_, rfl⟩
 have hLf : gd = (threeB L ps && (f (L.getD 0 zeroS)).2 && (f (L.getD 1 zeroS)).2 && (f (L.getD 2 zeroS)).2) := by rw [hgd, hL]; rfl
 clear hgd
 rw [← hL]
 repeat refine sq ?_
 refine cl_cond rfl rfl (fun hb => ?_) fun hb => ?_
 ·have hg0 : gd = false := by
   have : threeB L ps = false := by simpa using hb
   rw [hLf, this]; rfl
  subst hg0
  simp only [Bool.false_eq_true, if_false]
  refine cl_exit ?_
  simp only [go_sem]
  refine cl_nil ?_
  exact ⟨rfl, hH0, hH1, trivial⟩
 have h3 : threeB L ps = true := by simpa using hb
 rw [h3, Bool.true_and] at hLf
 repeat refine sq ?_
 refine cl_skip ?_
 repeat refine sq ?_
 refine cl_rs hΓ [2,4,5,6,19,20] [[6, 0]] fun K' hK => ?_
 simp only [go_sem, hO, tp150, tf152_2]
 repeat refine ⟨ob, ?_⟩
 refine hK _ ?_ ?_ <;> clear K' hK <;> simp only [go_sem, hO, tp150, tf152_2]
 repeat refine sq ?_
 refine cl_block ?_
 repeat refine sq ?_
 refine cl_loop' (fun s : Nat => [(20, ⟨true, .v (vInt s)⟩)]) (fun s => [([6, 0], .box [.v (vInt wa), .v (vInt wb), .v (vInt wc), .v (vInt (cnt s 0 (f ⟨x1, x2, x3⟩).1)), .v (vInt (cnt s 1 (f ⟨y1, y2, y3⟩).1)), .v (vInt (cnt s 2 (f ⟨z1, z2, z3⟩).1)), .v (vInt x1), .v (vInt x2), .v (.bool x3), .v (vInt y1), .v (vInt y2), .v (.bool y3), .v (vInt z1), .v (vInt z2), .v (.bool z3)])]) (fun s => s ≤ 3 ∧ ∀ j, j < s → (f (L.getD j zeroS)).2 = true) (fun s => 3 - s) 0 ?_ ?_ ?_ ?_
 ·exact ⟨Nat.zero_le _, fun j hj => by omega⟩
 ·rfl
 ·rfl
 rintro i ⟨hi, hz⟩
 simp only [go_sem]
 repeat refine sq ?_
 refine cl_rs hΓ [2,4,5,6,19,20,21] [[6, 0]] fun K' hK => ?_
 simp only [go_sem, hO]
 repeat refine ⟨ob, ?_⟩
 refine hK _ ?_ ?_ <;> clear K' hK <;> simp only [go_sem, hO]
 repeat refine sq ?_
 refine cl_cond rfl rfl (fun hb => ?_) fun hb => ?_
 ·have hlt : i < 3 := by
   have : (i : Int) < 3 := by simpa using hb
   omega
  have hws : IntKind.i64.wrap ((i : Int) + 1) = ((i + 1 : Nat) : Int) := wrap_succ (n := 3) hlt (by unfold maxLen; omega)
  clear hb
  repeat refine sq ?_
  refine cl_skip ?_
  repeat refine sq ?_
  refine cl_block ?_
  repeat refine sq ?_
  obtain ⟨h, n, o, hs⟩ : ∃ h n o, L.getD i zeroS = ⟨h, n, o⟩ := ⟨_, _, _, rfl⟩
  have hi3 : i = 0 ∨ i = 1 ∨ i = 2 := by omega
  refine cl_rw hΓ (mkS 40 [0] H [(2, ⟨true, .v (.ptr [.sl (c.map encD), vInt day])⟩), (4, ⟨true, .ref [0, 1] 0⟩), (5, ⟨true, .ref [1, 1] 0⟩), (6, ⟨true, .ref [6, 0] 0⟩), (7, ⟨true, .v (vInt i)⟩), (8, ⟨true, .ref [8, 0] 0⟩), (19, ⟨true, .agg [.v (vInt x1), .v (vInt x2), .v (.bool x3), .v (vInt y1), .v (vInt y2), .v (.bool y3), .v (vInt z1), .v (vInt z2), .v (.bool z3)]⟩), (20, ⟨true, .v (vInt i)⟩)] [([6, 0], .box [.v (vInt wa), .v (vInt wb), .v (vInt wc), .v (vInt (cnt i 0 (f ⟨x1, x2, x3⟩).1)), .v (vInt (cnt i 1 (f ⟨y1, y2, y3⟩).1)), .v (vInt (cnt i 2 (f ⟨z1, z2, z3⟩).1)), .v (vInt x1), .v (vInt x2), .v (.bool x3), .v (vInt y1), .v (vInt y2), .v (.bool y3), .v (vInt z1), .v (vInt z2), .v (.bool z3)]), ([8, 0], .box [.v (vInt h), .v (vInt n), .v (.bool o)])]) ?_ fun K' hK => ?_
  rotate_left
  ·have h3 : (i : Int) < 3 := by omega
   clear hLf hz
   rcases hi3 with rfl | rfl | rfl
   all_goals
    rw [hL] at hs
    simp only [List.getD_cons_zero, List.getD_cons_succ, Sta.mk.injEq] at hs
    obtain ⟨rfl, rfl, rfl⟩ := hs
    simp only [go_sem, tz137, tp137, Nat.reduceLeDiff, Nat.le_refl, Int.toNat_natCast, Int.natCast_nonneg, h3]
    repeat refine ⟨ob, ?_⟩
    refine hK _ (weakM_keep [2, 4, 5, 6, 7, 8, 19, 20] [[6, 0], [8, 0]] ?_ ?_)
    ·simp only [go_sem, hO]
    ·simp only [go_sem]
  have ho := fun (obj : Name → Option O) (t : Name) => hoff obj t h n o
  repeat refine sq ?_
  refine cl_rs hΓ [2,4,5,6,7,9,10,19,20] [[6, 0]] fun K' hK => ?_
  simp only [go_sem, hO, ho]
  repeat refine ⟨ob, ?_⟩
  refine hK _ ?_ ?_ <;> clear K' hK <;> simp only [go_sem, hO, ho]
  repeat refine sq ?_
  refine cl_rs hΓ [2,4,5,6,7,9,19,20,32] [[6, 0]] fun K' hK => ?_
  simp only [go_sem, hO]
  repeat refine ⟨ob, ?_⟩
  refine hK _ ?_ ?_ <;> clear K' hK <;> simp only [go_sem, hO]
  repeat refine sq ?_
  refine cl_cond rfl rfl (fun hb => ?_) fun hb => ?_
  ·have hg0 : gd = false := by
    have h5 : (f (L.getD i zeroS)).2 = false := by rw [hs]; simpa using hb
    rcases hi3 with rfl | rfl | rfl <;> (rw [hLf, h5]; simp)
   subst hg0
   simp only [Bool.false_eq_true, if_false]
   refine cl_exit ?_
   simp only [go_sem]
   refine cl_nil ?_
   exact ⟨rfl, hH0, hH1, trivial⟩
  ·have h5 : (f (L.getD i zeroS)).2 = true := by rw [hs]; simpa using hb
   repeat refine sq ?_
   refine cl_skip ?_
   refine cl_rwE hΓ (mkS 40 [0] H [(2, ⟨true, .v (.ptr [.sl (c.map encD), vInt day])⟩), (4, ⟨true, .ref [0, 1] 0⟩), (5, ⟨true, .ref [1, 1] 0⟩), (6, ⟨true, .ref [6, 0] 0⟩), (19, ⟨true, .agg [.v (vInt x1), .v (vInt x2), .v (.bool x3), .v (vInt y1), .v (vInt y2), .v (.bool y3), .v (vInt z1), .v (vInt z2), .v (.bool z3)]⟩), (20, ⟨true, .v (vInt i)⟩)] [([6, 0], .box [.v (vInt wa), .v (vInt wb), .v (vInt wc), .v (vInt (cnt (i + 1) 0 (f ⟨x1, x2, x3⟩).1)), .v (vInt (cnt (i + 1) 1 (f ⟨y1, y2, y3⟩).1)), .v (vInt (cnt (i + 1) 2 (f ⟨z1, z2, z3⟩).1)), .v (vInt x1), .v (vInt x2), .v (.bool x3), .v (vInt y1), .v (vInt y2), .v (.bool y3), .v (vInt z1), .v (vInt z2), .v (.bool z3)])]) (fun _ h => h) ?_ fun K' hK => ?_
   rotate_left
   ·have h3 : (i : Int) < 3 := by omega
    clear hLf hz hb h5 ho
    rcases hi3 with rfl | rfl | rfl
    all_goals
     rw [hL] at hs
     simp only [List.getD_cons_zero, List.getD_cons_succ, Sta.mk.injEq] at hs
     obtain ⟨rfl, rfl, rfl⟩ := hs
     simp only [go_sem, tf152_1, tr51, tp51, Nat.reduceLeDiff, Nat.le_refl, Int.toNat_natCast, Int.natCast_nonneg, h3]
     repeat refine ⟨ob, ?_⟩
     refine hK _ (weakM_keep [2, 4, 5, 6, 19, 20] [[6, 0]] ?_ ?_)
     ·simp only [go_sem, hO]
     ·simp only [go_sem]
   repeat refine sq ?_
   refine cl_r hΓ fun K' hK => ?_
   simp only [go_sem]
   repeat refine ⟨ob, ?_⟩
   refine hK _ ?_
   clear K' hK
   simp only [go_sem]
   refine ⟨i + 1, ⟨by omega, fun j hj => ?_⟩, by omega, ?_⟩
   ·rcases Nat.lt_succ_iff_lt_or_eq.1 hj with h1 | h1
    ·exact hz j h1
    ·subst h1; exact h5
   refine weak_eq [2,4,5,6,19,20] [[6, 0]] ?_ ?_
   ·simp only [go_sem, hO, hws, Int.natCast_add, Int.natCast_one]
   ·simp only [go_sem, hO, hws, Int.natCast_add, Int.natCast_one]
 ·have hge : i = 3 := by
   have : ¬ (i : Int) < 3 := by simpa using hb
   omega
  subst hge
  clear hb
  have hg1 : gd = true := by rw [hLf, hz 0 (by omega), hz 1 (by omega), hz 2 (by omega)]; rfl
  subst hg1
  simp only [if_true]
  repeat refine sq ?_
  refine cl_exit ?_
  simp only [go_sem]
  refine cl_keep [4,5,6] [[6, 0]] ?_ ?_
  ·simp only [go_sem, hO]
  simp only [go_sem, hO]
  have hO2 : ∀ hs b, OutC [0] (domOf [0] hs) (upd (upd H [0, 1] (some (.box (cellsW wa wb wc (f ⟨x1, x2, x3⟩).1 (f ⟨y1, y2, y3⟩).1 (f ⟨z1, z2, z3⟩).1 ⟨x1, x2, x3⟩ ⟨y1, y2, y3⟩ ⟨z1, z2, z3⟩)))) [1, 1] (some (.box [.v b]))) = True := fun hs b => eq_true (OutC_set rfl (OutC_set rfl ((hO hs).symm ▸ trivial)))
  simp only [cellsW] at hO2
  repeat refine sq ?_
  refine cl_rs hΓ [] [] fun K' hK => ?_
  simp only [go_sem, hO2, hH0, hH1, OutC_ifu2, mkS_ifu2]
  repeat refine ⟨ob, ?_⟩
  refine hK _ ?_ ?_ <;> clear K' hK <;> simp only [go_sem, hO2, hH0, hH1, OutC_ifu2, mkS_ifu2]
  refine cl_ret ?_
  exact ⟨rfl, rfl, rfl, trivial⟩
theorem cl_scope {P : Program} {c : Code} {r : List Code} {σ : S} {K : Exit → S → Prop} (hng : ∀ l σ', ¬ K (.goto l) σ') (h : CL P [c] σ (thenK (fun σ' => CL P r σ' K) K)) : CL P (.scope c :: r) σ K :=
 cw_scope (fun l σ' h => hng l σ' h) (CW.mono h fun e σ' hk => by cases e <;> exact hk)
def pWays : PSpec := ⟨fun xs => ∃ (c : List Deed) (day : Int), xs = [.agg [.sl (c.map encD), vInt day]],
 fun xs => match xs with | [.agg [.sl c, .int _ day]] => .clo (.func 177) [] [.ptr [.sl c, vInt day]] | _ => .bool false, false⟩
theorem pWays_fn (c : List Deed) (day : Int) : pWays.fn [.agg [.sl (c.map encD), vInt day]] = .clo (.func 177) [] [.ptr [.sl (c.map encD), vInt day]] := rfl
theorem s158 : PSound Tryz.prog 158 pWays := by
 refine psoundB (rs := [.tmp 2]) Tryz.func158 Tryz.ntmps158 (by rfl) (by kernel_rfl) (by decide) (fun h => by cases h) ⟨_, rfl, ?_⟩
 rintro xs ⟨c, day, rfl⟩ hw
 refine ⟨lb rfl, ?_⟩
 rw [pWays_fn]
 have hΓ := K0n_sound
 repeat refine sq ?_
 refine rs hΓ [1,2] [[1, 0]] ?_
 repeat refine sq ?_
 refine rs hΓ [2] [[1, 0]] ?_
 refine cl_ret ?_
 simp only [go_sem]
 all_goals first | done | rfl | exact ⟨by decide, rfl⟩ | exact ⟨by decide, trivial⟩
noncomputable def sWays : Spec := pWays.toSpec
theorem frzL_cons {F : (Name → Option O) → D → FR} {obj : Name → Option O} {a : D} {r : List D} {x : V} {xs : List V} (h1 : F obj a = ⟨True, x, obj⟩) (h2 : frzL F obj r = ⟨True, xs, obj⟩) : frzL F obj (a :: r) = ⟨True, x :: xs, obj⟩ := by
 simp only [frzL, h1, h2]
 simp
theorem frz_op1 (obj : Name → Option O) (c : List Deed) (day : Int) : frz 6 obj (.agg [.v (.sl (c.map encD)), .v (vInt day)]) = ⟨True, .agg [.sl (c.map encD), vInt day], obj⟩ := by
 simp [frz, frzL, D.one, V.one]
theorem frz_op {obj : Name → Option O} {c : List Deed} {day : Int} {r : List D} {xs : List V} (h : frzL (frz 6) obj r = ⟨True, xs, obj⟩) : frzL (frz 6) obj (.agg [.v (.sl (c.map encD)), .v (vInt day)] :: r) = ⟨True, .agg [.sl (c.map encD), vInt day] :: xs, obj⟩ :=
 frzL_cons (frz_op1 obj c day) h
theorem sWays_app {obj : Name → Option O} {t : Name} {c : List Deed} {day : Int} :
  sWays.app obj t [.agg [.v (.sl (c.map encD)), .v (vInt day)]] = ⟨True, .v (.clo (.func 177) [] [.ptr [.sl (c.map encD), vInt day]]), obj⟩ := by
 simp only [sWays, PSpec.toSpec, frz_op (r := []) (xs := []) (obj := obj) (by simp [frzL]), pWays_fn]
 simp only [pWays, Bool.false_eq_true, if_false]
 congr 1
 simp only [eq_iff_iff, iff_true]
 exact ⟨trivial, c, day, rfl⟩
def lawW (c : List Deed) (day : Int) (ps : List Int) : V × Bool := match (List.range (wN c day)).find? (goodW c day ps) with
 | some k => (encW (wA c day k) (wB c day k) (wC c day k) (offA c day (wX c day k) true).1 (offA c day (wY c day k) true).1 (offA c day (wZ c day k) true).1 (wX c day k) (wY c day k) (wZ c day k), true)
 | none => (encW 0 0 0 0 0 0 zeroS zeroS zeroS, false)
theorem find_congr {α : Type} {p q : α → Bool} (h : ∀ x, p x = q x) (l : List α) : l.find? p = l.find? q := by rw [show p = q from funext h]
theorem lawLp_end (c : List Deed) (day : Int) (ps : List Int) : ∃ (a b d p q r : Int) (x y z : Sta) (t : Bool),
  (lawLp c day ps).fam [] (lawLp c day ps).e = [.box (cellsW a b d p q r x y z), .box [.v (.bool t)]] ∧
  (lawLp c day ps).pd = (if t then some .ret else none) ∧ lawW c day ps = (encW a b d p q r x y z, t) ∧ (t = false → lawW c day ps = (encW 0 0 0 0 0 0 zeroS zeroS zeroS, false)) := by
 have hst : ∀ s, (lawLp c day ps).st s = if goodW c day ps s then some .ret else none := fun _ => rfl
 have hso : ∀ s, ((lawLp c day ps).st s).isSome = goodW c day ps s := fun s => by
  rw [hst]
  cases goodW c day ps s <;> rfl
 have hfm : ∀ s, (lawLp c day ps).fam [] s = lawFam c day ps s := fun _ => rfl
 unfold Lp.e Lp.pd lawW
 rw [find_congr hso]
 have hn : (lawLp c day ps).n = wN c day := rfl
 rw [hn]
 cases hf : (List.range (wN c day)).find? (goodW c day ps) with
 | none =>
  refine ⟨0, 0, 0, 0, 0, 0, zeroS, zeroS, zeroS, false, ?_, rfl, rfl, fun _ => rfl⟩
  dsimp only
  rw [hfm]
  cases hl : wN c day with
  | zero => rfl
  | succ s =>
   have := List.find?_eq_none.1 hf s (List.mem_range.2 (by omega))
   simp only [lawFam, if_neg this]
   rfl
 | some k =>
  have hg : goodW c day ps k = true := List.find?_some hf
  refine ⟨_, _, _, _, _, _, _, _, _, true, ?_, ?_, rfl, fun h => by cases h⟩
  ·dsimp only
   rw [hfm]
   simp only [lawFam, hg, if_true]
  ·dsimp only
   rw [hst, hg]
def pLaw : PSpec := ⟨fun xs => ∃ (c : List Deed) (day : Int) (ps : List Int), xs = [.agg [.sl (c.map encD), vInt day], .sl (ps.map vInt)] ∧ c.length ≤ 60 ∧ ∀ d ∈ c, kindOk d,
 fun xs => match xs with | [.agg [.sl c, .int _ day], .sl ps] => .tup [(lawW (c.map decD) day (ps.map decI)).1, .bool (lawW (c.map decD) day (ps.map decI)).2] | _ => .bool false, true⟩
theorem pLaw_fn (c : List Deed) (day : Int) (ps : List Int) : pLaw.fn [.agg [.sl (c.map encD), vInt day], .sl (ps.map vInt)] = .tup [(lawW c day ps).1, .bool (lawW c day ps).2] := by
 simp only [pLaw, decD_map, decI_map]
theorem encW_unit (c : List Deed) (day : Int) (ps : List Int) : ∃ (a b d p q r : Int) (x y z : Sta), (lawW c day ps).1 = encW a b d p q r x y z := by
 unfold lawW
 split
 ·exact ⟨_, _, _, _, _, _, _, _, _, rfl⟩
 ·exact ⟨_, _, _, _, _, _, _, _, _, rfl⟩
set_option maxHeartbeats 8000000 in
theorem s127 : PSound Tryz.prog 127 pLaw := by
 refine psoundB (rs := [.cell 4 152, .cell 5 4]) Tryz.func127 Tryz.ntmps127 (by rfl) (by kernel_rfl) (by decide) (by rintro _ xs ⟨c, day, ps, rfl, _⟩; rw [pLaw_fn]; obtain ⟨a, b, d, p, q, r, x, y, z, h⟩ := encW_unit c day ps; rw [h]; rfl) ⟨_, rfl, ?_⟩
 rintro xs ⟨c, day, ps, rfl, hl, hk⟩ hw
 refine ⟨lb rfl, ?_⟩
 rw [pLaw_fn]
 obtain ⟨Γ, hΓ, h158, h177⟩ : ∃ Γ : FuncId → Option Spec, (∀ f s, Γ f = some s → SSound Tryz.prog f s) ∧ Γ 158 = some sWays ∧ Γ 177 = some ((lawLp c day ps).it [.ptr [.sl (c.map encD), vInt day]]).toSpec := by
  refine ⟨fun f => match f with | 158 => some sWays | 177 => some ((lawLp c day ps).it [.ptr [.sl (c.map encD), vInt day]]).toSpec | _ => none, ?_, rfl, rfl⟩
  intro f s h
  dsimp only at h
  split at h
  ·cases h; exact s158.sound
  ·cases h; exact iter177 (lawLp_ok c day ps) (show (100 : Nat) ≤ 1900 by decide) (lawLp_y hl hk day ps) hl hk day rfl (fun i j l _ hj hl' => wVals_at hj hl')
  ·cases h
 have hP := mixedK
 repeat refine sq ?_
 refine rx hΓ [2,3,4,5] [[2, 0],[3, 0],[4, 0],[5, 0]] (fun K' hK => by simp only [go_sem, tz152, tz4]; exact fin) ?_
 refine cl_scope (fun l σ' h => h.elim) ?_
 repeat refine sq ?_
 refine cl_label ?_
 repeat refine sq ?_
 refine rx hΓ [2,3,4,5,12] [[2, 0],[3, 0],[4, 0],[5, 0]] (fun K' hK => by simp only [go_sem, h158, sWays_app]; exact fin) ?_
 refine cl_weakM (σ' := mkS 40 [0] (fun _ => none) [(2, ⟨true, .v (.ptr [.sl (c.map encD), vInt day])⟩), (3, ⟨true, .ref [3, 0] 0⟩), (4, ⟨true, .ref [4, 0] 0⟩), (5, ⟨true, .ref [5, 0] 0⟩), (12, ⟨true, .v (.clo (.func 177) [] [.ptr [.sl (c.map encD), vInt day]])⟩)] [([3, 0], .box [.v (.sl (ps.map vInt))]), ([4, 0], .box cells0), ([5, 0], .box [.v (.bool false)])]) (weakM_frzk 2 (.ref [2, 0] 0) (by simp only [go_sem]) (by simp only [go_sem]) [2, 3, 4, 5, 12] [[3, 0],[4, 0],[5, 0]] ?_ ?_) ?_
 ·simp only [go_sem]
 ·simp only [go_sem]
  rfl
 refine cl_weakM (σ' := mkS 40 [0] (fun _ => none) [(2, ⟨true, .v (.ptr [.sl (c.map encD), vInt day])⟩), (3, ⟨true, .v (.ptr [.sl (ps.map vInt)])⟩), (4, ⟨true, .ref [4, 0] 0⟩), (5, ⟨true, .ref [5, 0] 0⟩), (12, ⟨true, .v (.clo (.func 177) [] [.ptr [.sl (c.map encD), vInt day]])⟩)] [([4, 0], .box cells0), ([5, 0], .box [.v (.bool false)])]) (weakM_frzk 3 (.ref [3, 0] 0) (by simp only [go_sem]) (by simp only [go_sem]) [2, 3, 4, 5, 12] [[4, 0],[5, 0]] ?_ ?_) ?_
 ·simp only [go_sem]
  try rfl
 ·simp only [go_sem]
 repeat refine sq ?_
 refine cl_block ?_
 repeat refine sq ?_
 refine cl_iter hΓ (lawLp_ok c day ps) 30 31 (f := 177) (Ls := [[4, 0], [5, 0]]) rfl rfl (by decide) h177 rfl rfl rfl rfl rfl rfl (by decide) (show ([30, 0] : Name) ∉ [[4, 0], [5, 0]] by decide) ⟨rfl, rfl, trivial⟩ fun o => ?_
 obtain ⟨a, b, d, p, q, r, ⟨x1, x2, x3⟩, ⟨y1, y2, y3⟩, ⟨z1, z2, z3⟩, t, hfe, hpd, hW, hW0⟩ := lawLp_end c day ps
 have hfe' : (lawLp c day ps).fam [[4, 0], [5, 0]] (lawLp c day ps).e = _ := hfe
 rw [hpd, hfe']
 simp only [cellsW]
 cases t with
 | true =>
  rw [hW]
  show blockK 0 _ .ret _
  simp only [go_sem, setLs, pdK, encW, tz152, tp152, Nat.reduceLeDiff, Nat.le_refl]
 | false =>
  rw [hW0 rfl]
  have hpn : (if false = true then some Code.ret else none) = none := rfl
  rw [hpn]
  simp only [pdK, thenK]
  refine cl_nil ?_
  show CL Tryz.prog (_ :: _) _ _
  refine cl_keep [4,5] [[4, 0],[5, 0]] ?_ ?_ <;> simp only [go_sem, setLs]
  repeat refine sq ?_
  refine rx hΓ [4,5] [[4, 0],[5, 0]] (fun K' hK => by simp only [go_sem, tz152]; exact fin) ?_
  refine cl_ret ?_
  simp only [go_sem, encW, tz152, tp152, zeroS, Nat.reduceLeDiff, Nat.le_refl]
theorem OutC_ifu3 (p : Name) (dom : Name → Bool) (F H : Name → Option O) (x y z : Name) (o q r : Option O) :
  OutC p dom (upd (upd (upd (fun nm => if own p nm = true then F nm else H nm) x o) y q) z r) = OutC p dom (upd (upd (upd H x o) y q) z r) :=
 OutC_congr fun nm hn => upd_cong (upd_cong (upd_cong (by simp [hn])))
theorem mkS_ifu3 (n : Nat) (p : Name) (F H : Name → Option O) (x y z : Name) (o q r : Option O) (l : List (Nat × E)) (h : List (Name × O)) :
  mkS n p (upd (upd (upd (fun nm => if own p nm = true then F nm else H nm) x o) y q) z r) l h = mkS n p (upd (upd (upd H x o) y q) z r) l h :=
 mkS_same fun nm hn => upd_cong (upd_cong (upd_cong (by simp [hn])))
theorem three_names {Ls : List Name} (h : Ls.length = 3) : ∃ a b c, Ls = [a, b, c] := by
 match Ls, h with
 | [a, b, c], _ => exact ⟨a, b, c, rfl⟩
def threeW (c : List Deed) (day : Int) (k : Nat) : List Sta := [wX c day k, wY c day k, wZ c day k]
def badW (c : List Deed) (day : Int) (ps : List Int) (k : Nat) : Bool := !threeB (threeW c day k) ps || (threeW c day k).any fun x => (offA c day x false).2
def holdW (c : List Deed) (day : Int) (ps : List Int) (k : Nat) : Int := if threeB (threeW c day k) ps then (((threeW c day k).find? fun x => (offA c day x false).2).getD zeroS).h else 0
def unFam (c : List Deed) (day : Int) (ps : List Int) (s : Nat) : List O :=
 match s with
 | 0 => [.box cells0, .box [.v (vInt 0)], .box [.v (.bool false)]]
 | k + 1 => if badW c day ps k then [.box (cellsW (wA c day k) (wB c day k) (wC c day k) 0 0 0 (wX c day k) (wY c day k) (wZ c day k)), .box [.v (vInt (holdW c day ps k))], .box [.v (.bool true)]] else [.box cells0, .box [.v (vInt 0)], .box [.v (.bool false)]]
def enU (c : List Deed) (day : Int) (ps : List Int) (a b d : Name) : List E :=
 (List.range 38).map (ofL eAny [(2, ⟨true, .v (.ptr [.sl (c.map encD), vInt day])⟩), (3, ⟨true, .v (.ptr [.sl (ps.map vInt)])⟩), (4, ⟨true, .ref a 0⟩), (5, ⟨true, .ref b 0⟩), (6, ⟨true, .ref d 0⟩), (13, ⟨true, .v (.clo (.func 177) [] [.ptr [.sl (c.map encD), vInt day]])⟩)])
noncomputable def cdU : Array Tmp × Code × Code := rngOf Tryz.f128
noncomputable def unLp (c : List Deed) (day : Int) (ps : List Int) : Lp where
 m := 3
 env := fun Ls => enU c day ps (Ls.getD 0 []) (Ls.getD 1 []) (Ls.getD 2 [])
 fam := fun _ s => unFam c day ps s
 ps := cdU.1.toList
 asg := cdU.2.1
 body := cdU.2.2
 n := wN c day
 vals := wVals c day
 st := fun k => if badW c day ps k then some .ret else none
 fu := 100
theorem unFam_cases (c : List Deed) (day : Int) (ps : List Int) (s : Nat) : ∃ (a b d p q r : Int) (x y z : Sta) (h : Int) (t : Bool), unFam c day ps s = [.box (cellsW a b d p q r x y z), .box [.v (vInt h)], .box [.v (.bool t)]] := by
 cases s with
 | zero => exact ⟨_, _, _, _, _, _, _, _, _, _, _, rfl⟩
 | succ s =>
  simp only [unFam]
  split
  ·exact ⟨_, _, _, _, _, _, _, _, _, _, _, rfl⟩
  ·exact ⟨_, _, _, _, _, _, _, _, _, _, _, rfl⟩
theorem unLp_ok (c : List Deed) (day : Int) (ps : List Int) : (unLp c day ps).Ok where
 len := fun Ls s _ => by obtain ⟨a, b, d, p, q, r, x, y, z, u, t, h⟩ := unFam_cases c day ps s; simp only [unLp, h]; rfl
 renE := fun f Ls h => by obtain ⟨a, b, d, rfl⟩ := three_names h; rfl
 renF := fun f Ls s h => by obtain ⟨a, b, d, p, q, r, x, y, z, u, t, h⟩ := unFam_cases c day ps s; simp only [unLp, h]; rfl
 reach := fun Ls s obj acc k h hn hd hF => by
  obtain ⟨a, b, d, rfl⟩ := three_names h
  obtain ⟨a', b', d', p, q, r, x, y, z, u, t, hf⟩ := unFam_cases c day ps s
  simp only [unLp, hf] at hF
  obtain ⟨h1, h2, h3, _⟩ := hF
  simp only [List.nodup_cons, List.mem_cons, List.not_mem_nil, or_false, not_or, List.nodup_nil, and_true, not_false_eq_true] at hn
  obtain ⟨⟨hab, had⟩, hbd⟩ := hn
  show reachL obj (k + 100) _ acc = _
  have e : namesL (((unLp c day ps).env [a, b, d]).map (·.d)) = [a, b, d] := rfl
  rw [e, show k + 100 = (k + 97) + 1 + 1 + 1 by omega, reachL_new (hd a (by simp)) h1]
  have h4 : b ∉ acc ++ [a] := by simp only [List.mem_append, List.mem_singleton, not_or]; exact ⟨hd b (by simp), fun e => hab e.symm⟩
  show reachL obj (k + 97 + 1 + 1) [b, d] _ = _
  rw [reachL_new h4 h2]
  have h5 : d ∉ acc ++ [a] ++ [b] := by simp only [List.mem_append, List.mem_singleton, not_or]; exact ⟨⟨hd d (by simp), fun e => had e.symm⟩, fun e => hbd e.symm⟩
  show reachL obj (k + 97 + 1) [d] _ = _
  rw [reachL_new h5 h3]
  show reachL obj (k + 96 + 1) [] _ = _
  simp [reachL]
 closE := fun dom Ls h hd => by
  obtain ⟨a, b, d, rfl⟩ := three_names h
  have h1 := hd a (by simp)
  have h2 := hd b (by simp)
  have h3 := hd d (by simp)
  simp [unLp, enU, List.range, List.range.loop, ofL, D.closL, D.clos, eAny, h1, h2, h3]
 closF := fun dom Ls s h hd o ho => by
  obtain ⟨a', b', d', p, q, r, x, y, z, u, t, hf⟩ := unFam_cases c day ps s
  simp only [unLp, hf, List.mem_cons, List.not_mem_nil, or_false] at ho
  rcases ho with rfl | rfl | rfl <;> rfl
 psz := fun Ls h => by rfl
 args := fun s => by rfl
 fuel := (show (100 : Nat) ≤ 2000 by decide)
 vnam := fun _ => rfl
 vcl := fun _ _ => rfl
 vren := fun _ _ => rfl
 inj := wVals_inj
theorem hit_at {f : Sta → Int × Bool} {L : List Sta} {i : Nat} (hi : i < L.length) (hz : ∀ j, j < i → (f (L.getD j zeroS)).2 = false) (h : (f (L.getD i zeroS)).2 = true) :
  L.find? (fun x => (f x).2) = some (L.getD i zeroS) ∧ L.any (fun x => (f x).2) = true := by
 have hg : ∀ j (hj : j < L.length), L.getD j zeroS = L[j] := fun j hj => by rw [List.getD_eq_getElem?_getD, List.getElem?_eq_getElem hj]; rfl
 rw [hg i hi] at h ⊢
 refine ⟨?_, List.any_eq_true.2 ⟨_, List.getElem_mem hi, h⟩⟩
 rw [List.find?_eq_some_iff_getElem]
 refine ⟨h, i, hi, rfl, fun j hj => ?_⟩
 have h2 := hz j hj
 rw [hg j (by omega)] at h2
 rw [h2]
 rfl
theorem no_hit {f : Sta → Int × Bool} {L : List Sta} (hz : ∀ j, j < L.length → (f (L.getD j zeroS)).2 = false) : L.any (fun x => (f x).2) = false := by
 rw [List.any_eq_false]
 intro x hx
 obtain ⟨j, hj, rfl⟩ := List.mem_iff_getElem.1 hx
 have := hz j hj
 rw [List.getD_eq_getElem?_getD, List.getElem?_eq_getElem hj, Option.getD_some] at this
 rw [this]
 decide
set_option maxHeartbeats 16000000 in
theorem unLp_y {c : List Deed} (hl60 : c.length ≤ 60) (hkc : ∀ d ∈ c, kindOk d) (day : Int) (ps : List Int) : SSound Tryz.prog yid (unLp c day ps).y.toSpec := by
 refine Lp.y_sound (unLp_ok c day ps) fun k hk hj => ?_
 have hΓ := K89_sound
 have hP := mixedK
 have hst : (unLp c day ps).st k = if badW c day ps k then some .ret else none := rfl
 have hf1 : (unLp c day ps).fam (LR 3) (k + 1) = if badW c day ps k then [.box (cellsW (wA c day k) (wB c day k) (wC c day k) 0 0 0 (wX c day k) (wY c day k) (wZ c day k)), .box [.v (vInt (holdW c day ps k))], .box [.v (.bool true)]] else [.box cells0, .box [.v (vInt 0)], .box [.v (.bool false)]] := rfl
 have hf0 : (unLp c day ps).fam (LR 3) k = [.box cells0, .box [.v (vInt 0)], .box [.v (.bool false)]] := by
  cases k with
  | zero => rfl
  | succ s =>
   have h1 : (if badW c day ps s then some Code.ret else none) = none := hj s (by omega)
   have h2 : badW c day ps s = false := by
    cases hg : badW c day ps s with
    | false => rfl
    | true => rw [hg] at h1; cases h1
   show unFam c day ps (s + 1) = _
   simp only [unFam, h2]
   rfl
 have hvl : (unLp c day ps).vals k = [wayD (wA c day k) (wB c day k) (wC c day k) (wX c day k) (wY c day k) (wZ c day k)] := rfl
 have hm : (unLp c day ps).m = 3 := rfl
 have hen : (unLp c day ps).env (LR 3) = enU c day ps [0, 1] [1, 1] [2, 1] := rfl
 have hcd : cdU = (_, _, _) := rfl
 have hps : (unLp c day ps).ps = [14] := rfl
 have hasg : (unLp c day ps).asg = cdU.2.1 := rfl
 have hbody : (unLp c day ps).body = cdU.2.2 := rfl
 obtain ⟨f, hf⟩ : ∃ f : Sta → Int × Bool, ∀ x, f x = offA c day x false := ⟨_, fun _ => rfl⟩
 have hgd : badW c day ps k = (!threeB [wX c day k, wY c day k, wZ c day k] ps || [wX c day k, wY c day k, wZ c day k].any fun x => (f x).2) := by simp only [hf]; rfl
 have hhd : holdW c day ps k = if threeB [wX c day k, wY c day k, wZ c day k] ps then (([wX c day k, wY c day k, wZ c day k].find? fun x => (f x).2).getD zeroS).h else 0 := by simp only [hf]; rfl
 rw [hm, hf0, hf1, hst, hvl, hen, hps, hasg, hbody, hcd]
 dsimp only
 generalize badW c day ps k = gd at hgd ⊢
 generalize holdW c day ps k = hd at hhd ⊢
 generalize wA c day k = wa at *
 generalize wB c day k = wb at *
 generalize wC c day k = wc at *
 generalize wX c day k = x at *
 generalize wY c day k = y at *
 generalize wZ c day k = z at *
 clear hf0 hf1 hst hvl hm hen hps hasg hbody hj hk hcd
 have hF : objAll (outH [.box cells0, .box [.v (vInt 0)], .box [.v (.bool false)]]) (LR 3) [.box cells0, .box [.v (vInt 0)], .box [.v (.bool false)]] := outH_all
 have hO : ∀ hs, OutC [0] (domOf [0] hs) (outH [.box cells0, .box [.v (vInt 0)], .box [.v (.bool false)]]) = True := fun hs => eq_true (outC_outs (fun o ho dom hd => by
  simp only [List.mem_cons, List.not_mem_nil, or_false] at ho
  rcases ho with rfl | rfl | rfl <;> rfl) hs)
 generalize outH [.box cells0, .box [.v (vInt 0)], .box [.v (.bool false)]] = H at hF hO ⊢
 obtain ⟨hH0, hH1, hH2, _⟩ := hF
 have hoff := fun (obj : Name → Option O) (t : Name) (x1 x2 : Int) (x3 : Bool) => (sOff_app (obj := obj) (t := t) (day := day) (pe := x1) (inn := false) hl60 hkc).trans (show _ = (⟨True, .v (.tup [vInt (f ⟨x1, x2, x3⟩).1, .bool (f ⟨x1, x2, x3⟩).2]), obj⟩ : R) by rw [hf]; rfl)
 clear hf
 obtain ⟨x1, x2, x3⟩ := x
 obtain ⟨y1, y2, y3⟩ := y
 obtain ⟨z1, z2, z3⟩ := z
 simp only [wayD, cellsW, cells0, zeroS] at *
 have hzs : (⟨0, 0, false⟩ : Sta) = zeroS := rfl
 rw [hzs] at hhd
 refine cw_weak (weak_to 38 [0] H [(2, ⟨true, .v (.ptr [.sl (c.map encD), vInt day])⟩), (3, ⟨true, .v (.ptr [.sl (ps.map vInt)])⟩), (4, ⟨true, .ref [0, 1] 0⟩), (5, ⟨true, .ref [1, 1] 0⟩), (6, ⟨true, .ref [2, 1] 0⟩), (14, ⟨true, .agg [.v (vInt wa), .v (vInt wb), .v (vInt wc), .v (vInt 0), .v (vInt 0), .v (vInt 0), .v (vInt x1), .v (vInt x2), .v (.bool x3), .v (vInt y1), .v (vInt y2), .v (.bool y3), .v (vInt z1), .v (vInt z2), .v (.bool z3)]⟩)] [] rfl rfl (fun _ _ => rfl) ?_ (by simp) ?_ ?_) ?_
 ·intro q hq
  simp only [List.mem_cons, List.not_mem_nil, or_false] at hq
  rcases hq with rfl | rfl | rfl | rfl | rfl | rfl <;> rfl
 ·simp [D.clos, D.closL, domOf, own]
 ·rw [hO]; trivial
 refine cl_of ?_
 refine cl_r hΓ fun K' hK => ?_
 simp only [go_sem, tp152, tz152]
 refine ⟨Nat.le_refl _, ?_⟩
 refine hK _ ?_
 clear K' hK
 refine (cw_keep [2, 3, 4, 5, 6, 7] [[7, 0]] ?_ ?_ : CW _ _ _ _)
 ·simp only [go_sem, hO]
 refine cl_of ?_
 simp only [go_sem]
 refine cl_block ?_
 repeat refine sq ?_
 refine cl_rs hΓ [2,4,5,6,7,18] [[7, 0]] fun K' hK => ?_
 simp only [go_sem, hO, sThree_app]
 repeat refine ⟨ob, ?_⟩
 refine hK _ ?_ ?_ <;> clear K' hK <;> simp only [go_sem, hO, sThree_app]
 obtain ⟨L, hL⟩ : ∃ L : List Sta, L = [⟨x1, x2, x3⟩, ⟨y1, y2, y3⟩, ⟨z1, z2, z3⟩] := ⟨_, rfl⟩
 rw [← hL] at hgd hhd ⊢
 have hLl : L.length = 3 := by rw [hL]; rfl
 repeat refine sq ?_
 have hO2 : ∀ hs a b, OutC [0] (domOf [0] hs) (upd (upd (upd H [0, 1] (some (.box [D.v (vInt wa), .v (vInt wb), .v (vInt wc), .v (vInt 0), .v (vInt 0), .v (vInt 0), .v (vInt x1), .v (vInt x2), .v (.bool x3), .v (vInt y1), .v (vInt y2), .v (.bool y3), .v (vInt z1), .v (vInt z2), .v (.bool z3)]))) [1, 1] (some (.box [.v a]))) [2, 1] (some (.box [.v b]))) = True := fun hs a b => eq_true (OutC_set rfl (OutC_set rfl (OutC_set rfl ((hO hs).symm ▸ trivial))))
 refine cl_cond rfl rfl (fun hb => ?_) fun hb => ?_
 ·have h3 : threeB L ps = false := by simpa using hb
  have hg0 : gd = true := by rw [hgd, h3]; rfl
  have hd0 : hd = 0 := by rw [hhd, h3]; rfl
  subst hg0 hd0
  simp only [if_true]
  repeat refine sq ?_
  refine cl_rs hΓ [] [] fun K' hK => ?_
  simp only [go_sem, hO2, hH0, hH1, hH2, OutC_ifu3, mkS_ifu3]
  repeat refine ⟨ob, ?_⟩
  refine hK _ ?_ ?_ <;> clear K' hK <;> simp only [go_sem, hO2, hH0, hH1, hH2, OutC_ifu3, mkS_ifu3]
  refine cl_ret ?_
  exact ⟨rfl, rfl, rfl, rfl, trivial⟩
 have h3 : threeB L ps = true := by simpa using hb
 rw [h3, Bool.not_true, Bool.false_or] at hgd
 rw [h3, if_pos rfl] at hhd
 repeat refine sq ?_
 refine cl_skip ?_
 repeat refine sq ?_
 refine cl_rs hΓ [2,4,5,6,7,21,22] [[7, 0]] fun K' hK => ?_
 simp only [go_sem, hO, tp150, tf152_2]
 repeat refine ⟨ob, ?_⟩
 refine hK _ ?_ ?_ <;> clear K' hK <;> simp only [go_sem, hO, tp150, tf152_2]
 repeat refine sq ?_
 refine cl_block ?_
 repeat refine sq ?_
 refine cl_loop' (fun s : Nat => [(22, ⟨true, .v (vInt s)⟩)]) (fun s => []) (fun s => s ≤ 3 ∧ ∀ j, j < s → (f (L.getD j zeroS)).2 = false) (fun s => 3 - s) 0 ?_ ?_ ?_ ?_
 ·exact ⟨Nat.zero_le _, fun j hj => by omega⟩
 ·rfl
 ·rfl
 rintro i ⟨hi, hz⟩
 simp only [go_sem]
 repeat refine sq ?_
 refine cl_rs hΓ [2,4,5,6,7,21,22,23] [[7, 0]] fun K' hK => ?_
 simp only [go_sem, hO]
 repeat refine ⟨ob, ?_⟩
 refine hK _ ?_ ?_ <;> clear K' hK <;> simp only [go_sem, hO]
 repeat refine sq ?_
 refine cl_cond rfl rfl (fun hb => ?_) fun hb => ?_
 ·have hlt : i < 3 := by
   have : (i : Int) < 3 := by simpa using hb
   omega
  have hws : IntKind.i64.wrap ((i : Int) + 1) = ((i + 1 : Nat) : Int) := wrap_succ (n := 3) hlt (by unfold maxLen; omega)
  clear hb
  repeat refine sq ?_
  refine cl_skip ?_
  repeat refine sq ?_
  refine cl_block ?_
  repeat refine sq ?_
  obtain ⟨h, n, o, hs⟩ : ∃ h n o, L.getD i zeroS = ⟨h, n, o⟩ := ⟨_, _, _, rfl⟩
  have hi3 : i = 0 ∨ i = 1 ∨ i = 2 := by omega
  refine cl_rw hΓ (mkS 38 [0] H [(2, ⟨true, .v (.ptr [.sl (c.map encD), vInt day])⟩), (4, ⟨true, .ref [0, 1] 0⟩), (5, ⟨true, .ref [1, 1] 0⟩), (6, ⟨true, .ref [2, 1] 0⟩), (7, ⟨true, .ref [7, 0] 0⟩), (9, ⟨true, .ref [9, 0] 0⟩), (21, ⟨true, .agg [.v (vInt x1), .v (vInt x2), .v (.bool x3), .v (vInt y1), .v (vInt y2), .v (.bool y3), .v (vInt z1), .v (vInt z2), .v (.bool z3)]⟩), (22, ⟨true, .v (vInt i)⟩)] [([7, 0], .box [.v (vInt wa), .v (vInt wb), .v (vInt wc), .v (vInt 0), .v (vInt 0), .v (vInt 0), .v (vInt x1), .v (vInt x2), .v (.bool x3), .v (vInt y1), .v (vInt y2), .v (.bool y3), .v (vInt z1), .v (vInt z2), .v (.bool z3)]), ([9, 0], .box [.v (vInt h), .v (vInt n), .v (.bool o)])]) ?_ fun K' hK => ?_
  rotate_left
  ·have h3 : (i : Int) < 3 := by omega
   clear hgd hhd hz
   rcases hi3 with rfl | rfl | rfl
   all_goals
    rw [hL] at hs
    simp only [List.getD_cons_zero, List.getD_cons_succ, Sta.mk.injEq] at hs
    obtain ⟨rfl, rfl, rfl⟩ := hs
    simp only [go_sem, tz137, tp137, Nat.reduceLeDiff, Nat.le_refl, Int.toNat_natCast, Int.natCast_nonneg, h3]
    repeat refine ⟨ob, ?_⟩
    refine hK _ (weakM_keep [2, 4, 5, 6, 7, 9, 21, 22] [[7, 0], [9, 0]] ?_ ?_)
    ·simp only [go_sem, hO]
    ·simp only [go_sem]
  have ho := fun (obj : Name → Option O) (t : Name) => hoff obj t h n o
  repeat refine sq ?_
  refine cl_rs hΓ [2,4,5,6,7,9,11,21,22] [[7, 0],[9, 0]] fun K' hK => ?_
  simp only [go_sem, hO, ho]
  repeat refine ⟨ob, ?_⟩
  refine hK _ ?_ ?_ <;> clear K' hK <;> simp only [go_sem, hO, ho]
  repeat refine sq ?_
  refine cl_rs hΓ [2,4,5,6,7,9,21,22,32] [[7, 0],[9, 0]] fun K' hK => ?_
  simp only [go_sem, hO]
  repeat refine ⟨ob, ?_⟩
  refine hK _ ?_ ?_ <;> clear K' hK <;> simp only [go_sem, hO]
  repeat refine sq ?_
  refine cl_cond rfl rfl (fun hb => ?_) fun hb => ?_
  ·have h5 : (f (L.getD i zeroS)).2 = true := by rw [hs]; simpa using hb
   obtain ⟨h6, h7⟩ := hit_at (f := f) (by rw [hLl]; exact hlt) hz h5
   have hg0 : gd = true := by rw [hgd, h7]
   have hd0 : hd = h := by rw [hhd, h6, Option.getD_some, hs]
   subst hg0 hd0
   simp only [if_true]
   repeat refine sq ?_
   refine cl_ds hΓ hP [[], [], [1], [0], [0, 1, 2, 3], [0, 1, 2, 3, 4]] [] [] (by kernel_rfl) fun K' hK => ?_
   simp only [go_sem, hO2, hH0, hH1, hH2, OutC_ifu3, mkS_ifu3]
   refine ⟨by decide, by decide, by decide, by decide, by decide, by rfl, ?_⟩
   refine hK _ ?_ ?_
   ·simp only [go_sem, hO2, OutC_ifu3]
   simp only [go_sem, hH0, hH1, hH2, mkS_ifu3]
   refine cl_ret ?_
   exact ⟨rfl, rfl, rfl, rfl, trivial⟩
  ·have h5 : (f (L.getD i zeroS)).2 = false := by rw [hs]; simpa using hb
   refine cl_skip ?_
   refine cl_nil ?_
   show CL Tryz.prog (_ :: _) _ _
   repeat refine sq ?_
   refine cl_r hΓ fun K' hK => ?_
   simp only [go_sem]
   repeat refine ⟨ob, ?_⟩
   refine hK _ ?_
   clear K' hK
   simp only [go_sem]
   refine ⟨i + 1, ⟨by omega, fun j hj => ?_⟩, by omega, ?_⟩
   ·rcases Nat.lt_succ_iff_lt_or_eq.1 hj with h1 | h1
    ·exact hz j h1
    ·subst h1; exact h5
   refine weak_eq [2,4,5,6,7,21,22] [[7, 0]] ?_ ?_
   ·simp only [go_sem, hO, hws, Int.natCast_add, Int.natCast_one]
   ·simp only [go_sem, hO, hws, Int.natCast_add, Int.natCast_one]
 ·have hge : i = 3 := by
   have : ¬ (i : Int) < 3 := by simpa using hb
   omega
  subst hge
  clear hb
  have hg0 : gd = false := by rw [hgd]; exact no_hit (f := f) fun j hj => hz j (by rw [hLl] at hj; exact hj)
  subst hg0
  simp only [Bool.false_eq_true, if_false]
  repeat refine sq ?_
  refine cl_exit ?_
  simp only [go_sem]
  refine cl_nil ?_
  exact ⟨rfl, hH0, hH1, hH2, trivial⟩
def unW (c : List Deed) (day : Int) (ps : List Int) : V × Int × Bool := match (List.range (wN c day)).find? (badW c day ps) with
 | some k => (encW (wA c day k) (wB c day k) (wC c day k) 0 0 0 (wX c day k) (wY c day k) (wZ c day k), holdW c day ps k, true)
 | none => (encW 0 0 0 0 0 0 zeroS zeroS zeroS, 0, false)
theorem unLp_end (c : List Deed) (day : Int) (ps : List Int) : ∃ (a b d p q r : Int) (x y z : Sta) (h : Int) (t : Bool),
  (unLp c day ps).fam [] (unLp c day ps).e = [.box (cellsW a b d p q r x y z), .box [.v (vInt h)], .box [.v (.bool t)]] ∧
  (unLp c day ps).pd = (if t then some .ret else none) ∧ unW c day ps = (encW a b d p q r x y z, h, t) ∧ (t = false → unW c day ps = (encW 0 0 0 0 0 0 zeroS zeroS zeroS, 0, false)) := by
 have hst : ∀ s, (unLp c day ps).st s = if badW c day ps s then some .ret else none := fun _ => rfl
 have hso : ∀ s, ((unLp c day ps).st s).isSome = badW c day ps s := fun s => by
  rw [hst]
  cases badW c day ps s <;> rfl
 have hfm : ∀ s, (unLp c day ps).fam [] s = unFam c day ps s := fun _ => rfl
 unfold Lp.e Lp.pd unW
 rw [find_congr hso]
 have hn : (unLp c day ps).n = wN c day := rfl
 rw [hn]
 cases hf : (List.range (wN c day)).find? (badW c day ps) with
 | none =>
  refine ⟨0, 0, 0, 0, 0, 0, zeroS, zeroS, zeroS, 0, false, ?_, rfl, rfl, fun _ => rfl⟩
  dsimp only
  rw [hfm]
  cases hl : wN c day with
  | zero => rfl
  | succ s =>
   have := List.find?_eq_none.1 hf s (List.mem_range.2 (by omega))
   simp only [unFam, if_neg this]
   rfl
 | some k =>
  have hg : badW c day ps k = true := List.find?_some hf
  refine ⟨_, _, _, _, _, _, _, _, _, _, true, ?_, ?_, rfl, fun h => by cases h⟩
  ·dsimp only
   rw [hfm]
   simp only [unFam, hg, if_true]
  ·dsimp only
   rw [hst, hg]
def pUn : PSpec := ⟨fun xs => ∃ (c : List Deed) (day : Int) (ps : List Int), xs = [.agg [.sl (c.map encD), vInt day], .sl (ps.map vInt)] ∧ c.length ≤ 60 ∧ ∀ d ∈ c, kindOk d,
 fun xs => match xs with | [.agg [.sl c, .int _ day], .sl ps] => .tup [(unW (c.map decD) day (ps.map decI)).1, vInt (unW (c.map decD) day (ps.map decI)).2.1, .bool (unW (c.map decD) day (ps.map decI)).2.2] | _ => .bool false, true⟩
theorem pUn_fn (c : List Deed) (day : Int) (ps : List Int) : pUn.fn [.agg [.sl (c.map encD), vInt day], .sl (ps.map vInt)] = .tup [(unW c day ps).1, vInt (unW c day ps).2.1, .bool (unW c day ps).2.2] := by
 simp only [pUn, decD_map, decI_map]
theorem unW_unit (c : List Deed) (day : Int) (ps : List Int) : ∃ (a b d p q r : Int) (x y z : Sta), (unW c day ps).1 = encW a b d p q r x y z := by
 unfold unW
 split
 ·exact ⟨_, _, _, _, _, _, _, _, _, rfl⟩
 ·exact ⟨_, _, _, _, _, _, _, _, _, rfl⟩
set_option maxHeartbeats 8000000 in
theorem s128 : PSound Tryz.prog 128 pUn := by
 refine psoundB (rs := [.cell 4 152, .cell 5 3, .cell 6 4]) Tryz.func128 Tryz.ntmps128 (by rfl) (by kernel_rfl) (by decide) (by rintro _ xs ⟨c, day, ps, rfl, _⟩; rw [pUn_fn]; obtain ⟨a, b, d, p, q, r, x, y, z, h⟩ := unW_unit c day ps; rw [h]; rfl) ⟨_, rfl, ?_⟩
 rintro xs ⟨c, day, ps, rfl, hl, hk⟩ hw
 refine ⟨lb rfl, ?_⟩
 rw [pUn_fn]
 obtain ⟨Γ, hΓ, h158, h177⟩ : ∃ Γ : FuncId → Option Spec, (∀ f s, Γ f = some s → SSound Tryz.prog f s) ∧ Γ 158 = some sWays ∧ Γ 177 = some ((unLp c day ps).it [.ptr [.sl (c.map encD), vInt day]]).toSpec := by
  refine ⟨fun f => match f with | 158 => some sWays | 177 => some ((unLp c day ps).it [.ptr [.sl (c.map encD), vInt day]]).toSpec | _ => none, ?_, rfl, rfl⟩
  intro f s h
  dsimp only at h
  split at h
  ·cases h; exact s158.sound
  ·cases h; exact iter177 (unLp_ok c day ps) (show (100 : Nat) ≤ 1900 by decide) (unLp_y hl hk day ps) hl hk day rfl (fun i j l _ hj hl' => wVals_at hj hl')
  ·cases h
 have hP := mixedK
 repeat refine sq ?_
 refine rx hΓ [2,3,4,5,6] [[2, 0],[3, 0],[4, 0],[5, 0],[6, 0]] (fun K' hK => by simp only [go_sem, tz152, tz4, tz3]; exact fin) ?_
 repeat refine sq ?_
 refine rx hΓ [2,3,4,5,6,13] [[2, 0],[3, 0],[4, 0],[5, 0],[6, 0]] (fun K' hK => by simp only [go_sem, h158, sWays_app]; exact fin) ?_
 refine cl_weakM (σ' := mkS 38 [0] (fun _ => none) [(2, ⟨true, .v (.ptr [.sl (c.map encD), vInt day])⟩), (3, ⟨true, .ref [3, 0] 0⟩), (4, ⟨true, .ref [4, 0] 0⟩), (5, ⟨true, .ref [5, 0] 0⟩), (6, ⟨true, .ref [6, 0] 0⟩), (13, ⟨true, .v (.clo (.func 177) [] [.ptr [.sl (c.map encD), vInt day]])⟩)] [([3, 0], .box [.v (.sl (ps.map vInt))]), ([4, 0], .box cells0), ([5, 0], .box [.v (vInt 0)]), ([6, 0], .box [.v (.bool false)])]) (weakM_frzk 2 (.ref [2, 0] 0) (by simp only [go_sem]) (by simp only [go_sem]) [2, 3, 4, 5, 6, 13] [[3, 0],[4, 0],[5, 0],[6, 0]] ?_ ?_) ?_
 ·simp only [go_sem]
 ·simp only [go_sem]
  rfl
 refine cl_weakM (σ' := mkS 38 [0] (fun _ => none) [(2, ⟨true, .v (.ptr [.sl (c.map encD), vInt day])⟩), (3, ⟨true, .v (.ptr [.sl (ps.map vInt)])⟩), (4, ⟨true, .ref [4, 0] 0⟩), (5, ⟨true, .ref [5, 0] 0⟩), (6, ⟨true, .ref [6, 0] 0⟩), (13, ⟨true, .v (.clo (.func 177) [] [.ptr [.sl (c.map encD), vInt day]])⟩)] [([4, 0], .box cells0), ([5, 0], .box [.v (vInt 0)]), ([6, 0], .box [.v (.bool false)])]) (weakM_frzk 3 (.ref [3, 0] 0) (by simp only [go_sem]) (by simp only [go_sem]) [2, 3, 4, 5, 6, 13] [[4, 0],[5, 0],[6, 0]] ?_ ?_) ?_
 ·simp only [go_sem]
  try rfl
 ·simp only [go_sem]
 repeat refine sq ?_
 refine cl_block ?_
 repeat refine sq ?_
 refine cl_iter hΓ (unLp_ok c day ps) 30 31 (f := 177) (Ls := [[4, 0], [5, 0], [6, 0]]) rfl rfl (by decide) h177 rfl rfl rfl rfl rfl rfl (by decide) (show ([30, 0] : Name) ∉ [[4, 0], [5, 0], [6, 0]] by decide) ⟨rfl, rfl, rfl, trivial⟩ fun o => ?_
 obtain ⟨a, b, d, p, q, r, ⟨x1, x2, x3⟩, ⟨y1, y2, y3⟩, ⟨z1, z2, z3⟩, h, t, hfe, hpd, hW, hW0⟩ := unLp_end c day ps
 have hfe' : (unLp c day ps).fam [[4, 0], [5, 0], [6, 0]] (unLp c day ps).e = _ := hfe
 rw [hpd, hfe']
 simp only [cellsW]
 cases t with
 | true =>
  rw [hW]
  show blockK 0 _ .ret _
  simp only [go_sem, setLs, pdK, encW, tz152, tp152, Nat.reduceLeDiff, Nat.le_refl]
 | false =>
  rw [hW0 rfl]
  have hpn : (if false = true then some Code.ret else none) = none := rfl
  rw [hpn]
  simp only [pdK, thenK]
  refine cl_nil ?_
  show CL Tryz.prog (_ :: _) _ _
  refine cl_keep [4,5,6] [[4, 0],[5, 0],[6, 0]] ?_ ?_ <;> simp only [go_sem, setLs]
  repeat refine sq ?_
  refine rx hΓ [4,5,6] [[4, 0],[5, 0],[6, 0]] (fun K' hK => by simp only [go_sem, tz152]; exact fin) ?_
  refine cl_ret ?_
  simp only [go_sem, encW, tz152, tp152, zeroS, Nat.reduceLeDiff, Nat.le_refl]
def ansW (c : List Deed) (day : Int) (ps : List Int) : Int := if !(unW c day ps).2.2 then 1 else if !(lawW c day ps).2 then 0 else 2
noncomputable def sLaw : Spec := pLaw.toSpec
theorem sLaw_app {obj : Name → Option O} {t : Name} {c : List Deed} {day : Int} {ps : List Int} (hl : c.length ≤ 60) (hk : ∀ d ∈ c, kindOk d) :
  sLaw.app obj t [.agg [.v (.sl (c.map encD)), .v (vInt day)], .v (.sl (ps.map vInt))] = ⟨True, .v (.tup [(lawW c day ps).1, .bool (lawW c day ps).2]), obj⟩ := by
 simp only [sLaw, PSpec.toSpec, frz_op (r := [.v (.sl (ps.map vInt))]) (xs := [.sl (ps.map vInt)]) (obj := obj) (by simp [frzL, frz]), pLaw_fn]
 simp only [pLaw, if_true]
 congr 1
 simp only [eq_iff_iff, iff_true]
 exact ⟨trivial, c, day, ps, rfl, hl, hk⟩
noncomputable def sUn : Spec := pUn.toSpec
theorem sUn_app {obj : Name → Option O} {t : Name} {c : List Deed} {day : Int} {ps : List Int} (hl : c.length ≤ 60) (hk : ∀ d ∈ c, kindOk d) :
  sUn.app obj t [.agg [.v (.sl (c.map encD)), .v (vInt day)], .v (.sl (ps.map vInt))] = ⟨True, .v (.tup [(unW c day ps).1, vInt (unW c day ps).2.1, .bool (unW c day ps).2.2]), obj⟩ := by
 simp only [sUn, PSpec.toSpec, frz_op (r := [.v (.sl (ps.map vInt))]) (xs := [.sl (ps.map vInt)]) (obj := obj) (by simp [frzL, frz]), pUn_fn]
 simp only [pUn, if_true]
 congr 1
 simp only [eq_iff_iff, iff_true]
 exact ⟨trivial, c, day, ps, rfl, hl, hk⟩
def pAnsW : PSpec := ⟨fun xs => ∃ (c : List Deed) (day : Int) (ps : List Int), xs = [.agg [.sl (c.map encD), vInt day], .sl (ps.map vInt)] ∧ c.length ≤ 60 ∧ ∀ d ∈ c, kindOk d,
 fun xs => match xs with | [.agg [.sl c, .int _ day], .sl ps] => vInt (ansW (c.map decD) day (ps.map decI)) | _ => .bool false, true⟩
theorem pAnsW_fn (c : List Deed) (day : Int) (ps : List Int) : pAnsW.fn [.agg [.sl (c.map encD), vInt day], .sl (ps.map vInt)] = vInt (ansW c day ps) := by
 simp only [pAnsW, decD_map, decI_map]
noncomputable def K92 : FuncId → Option Spec := fun f => match f with
 | 127 => some sLaw
 | 128 => some sUn
 | _ => none
theorem K92_sound : ∀ f s, K92 f = some s → SSound Tryz.prog f s := by
 intro f s h
 unfold K92 at h
 split at h
 ·cases h; exact s127.sound
 ·cases h; exact s128.sound
 ·cases h
@[go_sem] theorem K92_127 : K92 127 = some sLaw := rfl
@[go_sem] theorem K92_128 : K92 128 = some sUn := rfl
set_option maxHeartbeats 4000000 in
theorem s84 : PSound Tryz.prog 84 pAnsW := by
 refine psoundB (rs := [.tmp 4]) Tryz.func84 Tryz.ntmps84 (by rfl) (by kernel_rfl) (by decide) (by rintro _ xs ⟨c, day, ps, rfl, _⟩; rw [pAnsW_fn]; rfl) ⟨_, rfl, ?_⟩
 rintro xs ⟨c, day, ps, rfl, hl, hk⟩ hw
 refine ⟨lb rfl, ?_⟩
 rw [pAnsW_fn]
 obtain ⟨a, b, d, p, q, r, ⟨x1, x2, x3⟩, ⟨y1, y2, y3⟩, ⟨z1, z2, z3⟩, hlw⟩ := encW_unit c day ps
 obtain ⟨a', b', d', p', q', r', ⟨x1', x2', x3'⟩, ⟨y1', y2', y3'⟩, ⟨z1', z2', z3'⟩, hun⟩ := unW_unit c day ps
 simp only [encW] at hlw hun
 have hla := fun (obj : Name → Option O) (t : Name) => sLaw_app (obj := obj) (t := t) (day := day) (ps := ps) hl hk
 have hua := fun (obj : Name → Option O) (t : Name) => sUn_app (obj := obj) (t := t) (day := day) (ps := ps) hl hk
 rw [hlw] at hla
 rw [hun] at hua
 have han : ansW c day ps = if !(unW c day ps).2.2 then 1 else if !(lawW c day ps).2 then 0 else 2 := rfl
 rw [han]
 have hΓ := K92_sound
 have hP := mixedK
 repeat refine sq ?_
 refine rx hΓ [1,2] [[2, 0]] (fun K' hK => by simp only [go_sem, tz152]; exact fin) ?_
 repeat refine sq ?_
 refine rx hΓ [1,2,6] [[2, 0]] (fun K' hK => by simp only [go_sem, tz152, tp152, hla, Nat.reduceLeDiff, Nat.le_refl]; exact fin) ?_
 repeat refine sq ?_
 refine rx hΓ [6,9] [] (fun K' hK => by simp only [go_sem, tz152, tp152, hua, Nat.reduceLeDiff, Nat.le_refl]; exact fin) ?_
 generalize (unW c day ps).2.2 = uu
 generalize (lawW c day ps).2 = ll
 repeat refine sq ?_
 refine cl_block ?_
 repeat refine sq ?_
 refine rs hΓ [6,23] [] ?_
 repeat refine sq ?_
 refine cl_cond rfl rfl (fun hb => ?_) fun hb => ?_
 ·rw [if_pos hb]
  repeat refine sq ?_
  refine rs hΓ [4] [] ?_
  exact rt
 have hb' : ¬ (!uu) = true := by rw [hb]; decide
 rw [if_neg hb']
 repeat refine sq ?_
 refine rs hΓ [26] [] ?_
 repeat refine sq ?_
 refine cl_cond rfl rfl (fun hb => ?_) fun hb => ?_
 ·rw [if_pos hb]
  repeat refine sq ?_
  refine rs hΓ [4] [] ?_
  exact rt
 have hb'' : ¬ (!ll) = true := by rw [hb]; decide
 rw [if_neg hb'']
 refine cl_skip ?_
 refine cl_nil ?_
 show CL Tryz.prog (_ :: _) _ _
 repeat refine sq ?_
 refine rs hΓ [4] [] ?_
 exact rt
noncomputable def openE (l : List Deed) (ps : List Int) (day k : Int) : Int := if checkI l = 0 then (if areB ps = true then daysI l [day, k] else 16) else checkI l
noncomputable def openV (l : List Deed) (ps : List Int) (day k : Int) : V := if openE l ps day k = 0 then .tup [.agg [.sl ((countL l k).map encD), vInt day], vInt 0] else .tup [.agg [.sl [], vInt 0], vInt (openE l ps day k)]
def pLPI (f : List Deed → List Int → Int → Int → V) (fl : Bool) : PSpec := ⟨fun xs => ∃ (l : List Deed) (ps : List Int) (a b : Int), xs = [.sl (l.map encD), .sl (ps.map vInt), vInt a, vInt b], fun xs => match xs with | [.sl l, .sl ps, .int _ a, .int _ b] => f (l.map decD) (ps.map decI) a b | _ => .bool false, fl⟩
theorem pLPI_fn (f : List Deed → List Int → Int → Int → V) (fl : Bool) (l : List Deed) (ps : List Int) (a b : Int) : (pLPI f fl).fn [.sl (l.map encD), .sl (ps.map vInt), vInt a, vInt b] = f l ps a b := by
 simp only [pLPI, decD_map, decI_map]
noncomputable def sLPI (f : List Deed → List Int → Int → Int → V) (fl : Bool) : Spec := (pLPI f fl).toSpec
theorem sLPI_app {f : List Deed → List Int → Int → Int → V} {fl : Bool} {obj : Name → Option O} {t : Name} {l : List Deed} {ps : List Int} {a b : Int} : (sLPI f fl).app obj t [.v (.sl (l.map encD)), .v (.sl (ps.map vInt)), .v (vInt a), .v (vInt b)] = ⟨True, .v (f l ps a b), obj⟩ := by
 simp only [sLPI, PSpec.toSpec, frzL, frz, pLPI_fn, ite_self]
 congr 1
 simp only [eq_iff_iff, iff_true]
 exact ⟨⟨trivial, trivial, trivial, trivial, trivial⟩, l, ps, a, b, rfl⟩
noncomputable def sAre : Spec := (pIs fun l => .bool (areB l)).toSpec
theorem sAre_app {obj : Name → Option O} {t : Name} {l : List Int} : sAre.app obj t [.v (.sl (l.map vInt))] = ⟨True, .v (.bool (areB l)), obj⟩ := by
 simp only [sAre, PSpec.toSpec, frzL, frz, pIs_fn, ite_self]
 simp only [pIs, if_true]
 congr 1
 simp only [eq_iff_iff, iff_true]
 exact ⟨⟨trivial, trivial⟩, l, rfl⟩
noncomputable def K93 : FuncId → Option Spec := fun f => match f with
 | 39 => some sChk
 | 126 => some sAre
 | 70 => some sDaysI
 | 81 => some (sLI okL (fun l k => .sl ((countL l k).map encD)) false)
 | _ => none
theorem K93_sound : ∀ f s, K93 f = some s → SSound Tryz.prog f s := by
 intro f s h
 unfold K93 at h
 split at h
 ·cases h; exact s39'
 ·cases h; exact s126.sound
 ·cases h; exact s70.sound
 ·cases h; exact s81.sound
 ·cases h
@[go_sem] theorem K93_39 : K93 39 = some sChk := rfl
@[go_sem] theorem K93_126 : K93 126 = some sAre := rfl
@[go_sem] theorem K93_70 : K93 70 = some sDaysI := rfl
@[go_sem] theorem K93_81 : K93 81 = some (sLI okL (fun l k => .sl ((countL l k).map encD)) false) := rfl
set_option maxHeartbeats 8000000 in
theorem s82 : PSound Tryz.prog 82 (pLPI openV false) := by
 refine psoundB (rs := [.cell 8 111, .tmp 9]) Tryz.func82 Tryz.ntmps82 (by rfl) (by kernel_rfl) (by decide) (fun h => by cases h) ⟨_, rfl, ?_⟩
 rintro xs ⟨l, ps, day, k, rfl⟩ hw
 refine ⟨lb rfl, ?_⟩
 rw [pLPI_fn]
 have hΓ := K93_sound
 repeat refine sq ?_
 refine rx hΓ [0,1,2,3,8] [[8, 0]] (fun K' hK => by simp only [go_sem, tz111, tp111]; exact fin) ?_
 repeat refine sq ?_
 refine rx hΓ [0,1,2,3,8,10] [[8, 0]] (fun K' hK => by simp only [go_sem, sChk_app]; exact fin) ?_
 repeat refine sq ?_
 refine rs hΓ [0,1,2,3,8,10,15] [[8, 0]] ?_
 repeat refine sq ?_
 refine cl_cond rfl rfl (fun hb => ?_) fun hb => ?_
 ·repeat refine sq ?_
  have hn : ¬ checkI l = 0 := by simpa using hb
  have hv : openV l ps day k = .tup [.agg [.sl [], vInt 0], vInt (checkI l)] := by unfold openV openE; rw [if_neg hn, if_neg hn]
  rw [hv]
  repeat refine sq ?_
  refine rx hΓ [8,9] [[8, 0]] (fun K' hK => by simp only [go_sem, tz111, tp111, Nat.reduceLeDiff, Nat.le_refl]; exact fin) ?_
  refine cl_ret ?_
  simp only [go_sem, tz111, tp111, Nat.reduceLeDiff, Nat.le_refl]
 have hz : checkI l = 0 := by simpa using hb
 repeat refine sq ?_
 refine cl_skip ?_
 repeat refine sq ?_
 refine rx hΓ [0,1,2,3,8,20] [[8, 0]] (fun K' hK => by simp only [go_sem, sAre_app]; exact fin) ?_
 repeat refine sq ?_
 refine cl_cond rfl rfl (fun hb => ?_) fun hb => ?_
 ·repeat refine sq ?_
  have hn : ¬ areB ps = true := by simpa using hb
  have hv : openV l ps day k = .tup [.agg [.sl [], vInt 0], vInt 16] := by unfold openV openE; rw [if_pos hz, if_neg hn, if_neg (by decide)]
  rw [hv]
  repeat refine sq ?_
  refine rx hΓ [8,9] [[8, 0]] (fun K' hK => by simp only [go_sem, tz111, tp111, Nat.reduceLeDiff, Nat.le_refl]; exact fin) ?_
  refine cl_ret ?_
  simp only [go_sem, tz111, tp111, Nat.reduceLeDiff, Nat.le_refl]
 have har : areB ps = true := by simpa using hb
 repeat refine sq ?_
 refine cl_skip ?_
 repeat refine sq ?_
 refine rx hΓ [0,2,3,8,11] [[8, 0]] (fun K' hK => by simp only [go_sem, sDaysI_two]; exact fin) ?_
 repeat refine sq ?_
 refine rs hΓ [0,2,3,8,11,28] [[8, 0]] ?_
 repeat refine sq ?_
 refine cl_cond rfl rfl (fun hb => ?_) fun hb => ?_
 ·repeat refine sq ?_
  have hn : ¬ daysI l [day, k] = 0 := by simpa using hb
  have hv : openV l ps day k = .tup [.agg [.sl [], vInt 0], vInt (daysI l [day, k])] := by unfold openV openE; rw [if_pos hz, if_pos har, if_neg hn]
  rw [hv]
  repeat refine sq ?_
  refine rx hΓ [8,9] [[8, 0]] (fun K' hK => by simp only [go_sem, tz111, tp111, Nat.reduceLeDiff, Nat.le_refl]; exact fin) ?_
  refine cl_ret ?_
  simp only [go_sem, tz111, tp111, Nat.reduceLeDiff, Nat.le_refl]
 have hdz : daysI l [day, k] = 0 := by simpa using hb
 have hok := days_ok hdz
 have hc := fun (obj : Name → Option O) (t : Name) (f : List Deed → Int → V) (fl : Bool) => sLI_app (P := okL) (f := f) (fl := fl) (obj := obj) (t := t) (k := k) hok
 have hv : openV l ps day k = .tup [.agg [.sl ((countL l k).map encD), vInt day], vInt 0] := by unfold openV openE; rw [if_pos hz, if_pos har, if_pos hdz]
 rw [hv]
 repeat refine sq ?_
 refine cl_skip ?_
 repeat refine sq ?_
 refine rx hΓ [8,9] [[8, 0]] (fun K' hK => by simp only [go_sem, tz111, tp111, hc, Nat.reduceLeDiff, Nat.le_refl]; exact fin) ?_
 refine cl_ret ?_
 simp only [go_sem, tz111, tp111, Nat.reduceLeDiff, Nat.le_refl]
noncomputable def sAnsW : Spec := pAnsW.toSpec
theorem sAnsW_app {obj : Name → Option O} {t : Name} {c : List Deed} {day : Int} {ps : List Int} (hl : c.length ≤ 60) (hk : ∀ d ∈ c, kindOk d) :
  sAnsW.app obj t [.agg [.v (.sl (c.map encD)), .v (vInt day)], .v (.sl (ps.map vInt))] = ⟨True, .v (vInt (ansW c day ps)), obj⟩ := by
 simp only [sAnsW, PSpec.toSpec, frz_op (r := [.v (.sl (ps.map vInt))]) (xs := [.sl (ps.map vInt)]) (obj := obj) (by simp [frzL, frz]), pAnsW_fn]
 simp only [pAnsW, if_true]
 congr 1
 simp only [eq_iff_iff, iff_true]
 exact ⟨trivial, c, day, ps, rfl, hl, hk⟩
noncomputable def lwE (l : List Deed) (ps : List Int) (day k : Int) : Int := if openE l ps day k = 0 then (if (confP (countL l k)).isSome then 13 else 0) else openE l ps day k
noncomputable def lwA (l : List Deed) (ps : List Int) (day k : Int) : Int := if lwE l ps day k = 0 then ansW (countL l k) day ps else 0
theorem openE_ok {l : List Deed} {ps : List Int} {day k : Int} (h : openE l ps day k = 0) : checkI l = 0 ∧ areB ps = true ∧ daysI l [day, k] = 0 := by
 unfold openE at h
 by_cases h1 : checkI l = 0
 ·rw [if_pos h1] at h
  by_cases h2 : areB ps = true
  ·rw [if_pos h2] at h; exact ⟨h1, h2, h⟩
  ·rw [if_neg h2] at h; cases h
 ·rw [if_neg h1] at h; exact (h1 h).elim
noncomputable def K94 : FuncId → Option Spec := fun f => match f with
 | 82 => some (sLPI openV false)
 | 83 => some (sLI okL contV false)
 | 84 => some sAnsW
 | _ => none
theorem K94_sound : ∀ f s, K94 f = some s → SSound Tryz.prog f s := by
 intro f s h
 unfold K94 at h
 split at h
 ·cases h; exact s82.sound
 ·cases h; exact s83.sound
 ·cases h; exact s84.sound
 ·cases h
@[go_sem] theorem K94_82 : K94 82 = some (sLPI openV false) := rfl
@[go_sem] theorem K94_83 : K94 83 = some (sLI okL contV false) := rfl
@[go_sem] theorem K94_84 : K94 84 = some sAnsW := rfl
set_option maxHeartbeats 8000000 in
theorem s28 : PSound Tryz.prog 28 (pLPI (fun l ps day k => .tup [vInt (lwA l ps day k), vInt (lwE l ps day k)]) true) := by
 refine psoundB (rs := [.tmp 8, .tmp 9]) Tryz.func28 Tryz.ntmps28 (by rfl) (by kernel_rfl) (by decide) (by rintro _ xs ⟨l, ps, a, b, rfl⟩; rw [pLPI_fn]; rfl) ⟨_, rfl, ?_⟩
 rintro xs ⟨l, ps, day, k, rfl⟩ hw
 refine ⟨lb rfl, ?_⟩
 rw [pLPI_fn]
 have hΓ := K94_sound
 repeat refine sq ?_
 refine rs hΓ [0,1,2,3] [] ?_
 by_cases ho : openE l ps day k = 0
 ·obtain ⟨hz, har, hdz⟩ := openE_ok ho
  have hov : openV l ps day k = .tup [.agg [.sl ((countL l k).map encD), vInt day], vInt 0] := by unfold openV; rw [if_pos ho]
  have hok := days_ok hdz
  have hlen : (countL l k).length ≤ 60 := by have := countL_len l k; have := hok.2.2; omega
  have hkc : ∀ d ∈ countL l k, kindOk d := fun d hd => kind_of (countL_valid hok k d hd)
  have hc := fun (obj : Name → Option O) (t : Name) (f : List Deed → Int → V) (fl : Bool) => sLI_app (P := okL) (f := f) (fl := fl) (obj := obj) (t := t) (k := k) hok
  have haw := fun (obj : Name → Option O) (t : Name) => sAnsW_app (obj := obj) (t := t) (day := day) (ps := ps) hlen hkc
  repeat refine sq ?_
  refine rx hΓ [0,1,3,10,11] [[10, 0]] (fun K' hK => by simp only [go_sem, sLPI_app, hov, tz111, tp111, Nat.reduceLeDiff, Nat.le_refl]; exact fin) ?_
  repeat refine sq ?_
  refine rs hΓ [0,1,3,10,23] [[10, 0]] ?_
  repeat refine sq ?_
  refine cl_cond rfl rfl (fun hb => ?_) fun hb => ?_
  ·simp at hb
  repeat refine sq ?_
  refine cl_skip ?_
  by_cases hcf : (confP (countL l k)).isSome = true
  ·have he : contV l k = .tup [.sl [], vInt 13] := by unfold contV; rw [if_pos hcf]
   have hE : lwE l ps day k = 13 := by unfold lwE; rw [if_pos ho, if_pos hcf]
   have hA : lwA l ps day k = 0 := by unfold lwA; rw [hE]; rfl
   rw [hE, hA]
   repeat refine sq ?_
   refine rx hΓ [1,10,13] [[10, 0]] (fun K' hK => by simp only [go_sem, hc, he]; exact fin) ?_
   repeat refine sq ?_
   refine rs hΓ [1,10,13,32] [[10, 0]] ?_
   repeat refine sq ?_
   refine cl_cond rfl rfl (fun hb => ?_) fun hb => ?_
   ·repeat refine sq ?_
    refine rs hΓ [8,9] [] ?_
    exact rt
   ·simp at hb
  ·have he : contV l k = .tup [.sl ((countL l k).map encD), vInt 0] := by unfold contV; rw [if_neg hcf]
   have hE : lwE l ps day k = 0 := by unfold lwE; rw [if_pos ho, if_neg hcf]
   have hA : lwA l ps day k = ansW (countL l k) day ps := by unfold lwA; rw [hE]; rfl
   rw [hE, hA]
   repeat refine sq ?_
   refine rx hΓ [1,10,13] [[10, 0]] (fun K' hK => by simp only [go_sem, hc, he]; exact fin) ?_
   repeat refine sq ?_
   refine rs hΓ [1,10,13,32] [[10, 0]] ?_
   repeat refine sq ?_
   refine cl_cond rfl rfl (fun hb => ?_) fun hb => ?_
   ·simp at hb
   repeat refine sq ?_
   refine cl_skip ?_
   repeat refine sq ?_
   refine rx hΓ [8,9] [] (fun K' hK => by simp only [go_sem, haw, tz111, tp111]; exact fin) ?_
   exact rt
 ·have hov : openV l ps day k = .tup [.agg [.sl [], vInt 0], vInt (openE l ps day k)] := by unfold openV; rw [if_neg ho]
  have hE : lwE l ps day k = openE l ps day k := by unfold lwE; rw [if_neg ho]
  have hA : lwA l ps day k = 0 := by unfold lwA; rw [hE, if_neg ho]
  rw [hE, hA]
  repeat refine sq ?_
  refine rx hΓ [11] [] (fun K' hK => by simp only [go_sem, sLPI_app, hov, tz111, tp111, Nat.reduceLeDiff, Nat.le_refl]; exact fin) ?_
  repeat refine sq ?_
  refine rs hΓ [11,23] [] ?_
  repeat refine sq ?_
  refine cl_cond rfl rfl (fun hb => ?_) fun hb => ?_
  ·repeat refine sq ?_
   refine rs hΓ [8,9] [] ?_
   exact rt
  ·have hn : openE l ps day k = 0 := by simpa using hb
   exact (ho hn).elim
noncomputable def K95 : FuncId → Option Spec := fun f => match f with
 | 79 => some sIn
 | _ => none
theorem K95_sound : ∀ f s, K95 f = some s → SSound Tryz.prog f s := by
 intro f s h
 unfold K95 at h
 split at h
 ·cases h; exact s79.sound
 ·cases h
@[go_sem] theorem K95_79 : K95 79 = some sIn := rfl
set_option maxHeartbeats 4000000 in
theorem s26 : PSound Tryz.prog 26 (pIs fun l => .bool (areB l)) := by
 refine psoundB (rs := [.tmp 2]) Tryz.func26 Tryz.ntmps26 (by rfl) (by kernel_rfl) (by decide) (by rintro _ xs ⟨l, rfl⟩; rfl) ⟨_, rfl, ?_⟩
 rintro xs ⟨l, rfl⟩ hw
 have hl : l.length ≤ maxLen := by have := hw.1.1; simpa using this
 refine ⟨lb rfl, ?_⟩
 rw [pIs_fn]
 have hΓ := K95_sound
 repeat refine sq ?_
 refine rs hΓ [0] [] ?_
 repeat refine sq ?_
 refine rs hΓ [0,5,6,7] [] ?_
 repeat refine sq ?_
 refine cl_block ?_
 repeat refine sq ?_
 refine cl_loop' (fun s : Nat => [(7, ⟨true, .v (vInt s)⟩)]) (fun s => []) (fun s => s ≤ l.length ∧ persOk l s) (fun s => l.length - s) 0 ?_ ?_ ?_ ?_
 ·exact ⟨Nat.zero_le _, fun j h hj => by omega⟩
 ·rfl
 ·rfl
 rintro i ⟨hi, hz⟩
 simp only [go_sem]
 repeat refine sq ?_
 refine rs hΓ [0,5,6,7,8] [] ?_
 repeat refine sq ?_
 refine cl_cond rfl rfl (fun hb => ?_) fun hb => ?_
 ·have hlt : i < l.length := by simpa using hb
  have hlt' : (i : Int) < l.length := by omega
  clear hb
  repeat refine sq ?_
  refine cl_skip ?_
  repeat refine sq ?_
  refine cl_block ?_
  repeat refine sq ?_
  refine rx hΓ [0,3,4,5,6,7] [] (fun K' hK => by simp only [go_sem, map_getD hlt, Int.toNat_natCast, Int.natCast_nonneg, hlt']; exact fin) ?_
  obtain ⟨c, hc⟩ : ∃ c : Bool, c = (!isPersB l[i] || (decide (0 < i) && decide (l.getD (i - 1) 0 ≥ l[i]))) := ⟨_, rfl⟩
  repeat refine sq ?_
  refine cl_rw hΓ (mkS 32 [0] (fun _ => none) [(0, ⟨true, .v (.sl (l.map vInt))⟩), (5, ⟨true, .v (.sl (l.map vInt))⟩), (6, ⟨true, .v (vInt l.length)⟩), (7, ⟨true, .v (vInt i)⟩), (27, ⟨true, .v (.bool c)⟩)] []) ?_ fun K' hK => ?_
  rotate_left
  ·cases hp : isPersB l[i] with
   | false =>
    have hct : c = true := by rw [hc, hp]; rfl
    simp only [go_sem, sIn_app, (show inI l[i] 1 99 = _ from hp)]
    repeat refine ⟨ob, ?_⟩
    refine hK _ (weakM_keep [0, 5, 6, 7, 27] [] ?_ ?_)
    ·simp only [go_sem]
    ·simp only [go_sem, hct]
   | true =>
    by_cases h0 : i = 0
    ·have hct : c = false := by rw [hc, hp]; simp [h0]
     have e0 : decide ((i : Int) > 0) = false := by simp [h0]
     simp only [go_sem, sIn_app, (show inI l[i] 1 99 = _ from hp), e0]
     repeat refine ⟨ob, ?_⟩
     refine hK _ (weakM_keep [0, 5, 6, 7, 27] [] ?_ ?_)
     ·simp only [go_sem]
     ·simp only [go_sem, hct]
    ·have h1 : i - 1 < l.length := by omega
     have h1' : ((i - 1 : Nat) : Int) < l.length := by omega
     have e0 : decide ((i : Int) > 0) = true := by simp; omega
     have hct : decide (l[i - 1] ≥ l[i]) = c := by rw [hc, hp]; simp [List.getD_eq_getElem?_getD, h1]; intro; omega
     simp only [go_sem, sIn_app, (show inI l[i] 1 99 = _ from hp), e0, wrap_pred h0 (show i ≤ maxLen by omega), map_getD h1, Int.toNat_natCast, Int.natCast_nonneg, h1', hct]
     repeat refine ⟨ob, ?_⟩
     refine hK _ (weakM_keep [0, 5, 6, 7, 27] [] ?_ ?_)
     ·simp only [go_sem]
     ·simp only [go_sem, hct]
  repeat refine sq ?_
  refine cl_cond rfl rfl (fun hb => ?_) fun hb => ?_
  ·repeat refine sq ?_
   refine rs hΓ [2] [] ?_
   refine cl_ret ?_
   simp only [go_sem]
   have hno : ¬ (persOk l l.length ∧ l.length ≤ 12) := by
    rintro ⟨h1, _⟩
    obtain ⟨h2, h3⟩ := h1 i hlt hlt
    rw [hb] at hc
    rw [h2] at hc
    simp only [Bool.not_true, Bool.false_or, Bool.true_eq, Bool.and_eq_true, decide_eq_true_eq] at hc
    have h4 := h3 hc.1
    have h5 : i - 1 < l.length := by omega
    rw [List.getD_eq_getElem?_getD, List.getElem?_eq_getElem h5, Option.getD_some] at hc
    omega
   unfold areB
   simp [hno]
  ·have hnext : persOk l (i + 1) := fun j h hj => by
    rcases Nat.lt_succ_iff_lt_or_eq.1 hj with h1 | h1
    ·exact hz j h h1
    ·subst h1
     rw [hb] at hc
     cases hp : isPersB l[j] with
     | false => rw [hp] at hc; simp at hc
     | true =>
      refine ⟨rfl, fun h0 => ?_⟩
      have h5 : j - 1 < l.length := by omega
      rw [hp, List.getD_eq_getElem?_getD, List.getElem?_eq_getElem h5, Option.getD_some] at hc
      simp [h0] at hc
      exact hc
   clear hb
   repeat refine sq ?_
   refine cl_skip ?_
   refine cl_nil ?_
   simp only [go_sem]
   refine cl_keep [0,5,6,7] [] ?_ ?_ <;> simp only [go_sem]
   repeat refine sq ?_
   refine cl_r hΓ fun K' hK => ?_
   simp only [go_sem]
   repeat refine ⟨ob, ?_⟩
   refine hK _ ?_
   clear K' hK
   simp only [go_sem]
   refine ⟨i + 1, ⟨by omega, hnext⟩, by omega, ?_⟩
   refine weak_eq [0,5,6,7] [] ?_ ?_ <;> simp only [go_sem, wrap_succ hlt hl, Int.natCast_add, Int.natCast_one]
 ·have hge : i = l.length := by
   have : ¬ (i : Int) < l.length := by simpa using hb
   omega
  subst hge
  clear hb
  repeat refine sq ?_
  refine cl_exit ?_
  simp only [go_sem]
  refine cl_keep [0] [] ?_ ?_ <;> simp only [go_sem]
  repeat refine sq ?_
  refine rs hΓ [2] [] ?_
  refine cl_ret ?_
  simp only [go_sem]
  unfold areB
  have : ((l.length : Int) ≤ 12) ↔ l.length ≤ 12 := by omega
  simp [hz, this]
noncomputable def whoR (f : Sta → Int) (l : List Deed) (lock day k : Int) : List Int := if lockE l lock day k [] = 0 then whoL f (thrL (countL l k) lock 0) day else []
noncomputable def ansR (p : Sta → Bool) (l : List Deed) (lock pe day k : Int) : Int := if lockE l lock day k [pe] = 0 then ansP p (thrL (countL l k) lock 0) day else 0
theorem day_pos {l : List Deed} {day k : Int} (h : daysI l [day, k] = 0) : 0 ≤ day := by
 unfold daysI at h
 split at h
 ·split at h
  ·cases h
  ·rename_i h2
   simp only [List.any_cons, List.any_nil, Bool.or_false, Bool.or_eq_true, Bool.not_eq_true', not_or, Bool.not_eq_false] at h2
   have h3 := h2.1
   unfold isDayB at h3
   exact (inI_iff.1 h3).1
 ·rename_i h1; exact (h1 h).elim
def fW (g : Nat) (s : Sta) : Int := if g = 92 then s.h else s.n
def pWho : PSpec := ⟨fun xs => ∃ (t : List Deed) (day : Int) (g : Nat), xs = [.sl (t.map encD), vInt day, .clo (.func g) [] []] ∧ (g = 92 ∨ g = 93) ∧ t.length ≤ 60 ∧ ∀ d ∈ t, kindOk d, fun xs => match xs with | [.sl t, .int _ day, .clo (.func g) _ _] => .sl ((whoL (fW g) (t.map decD) day).map vInt) | _ => .bool false, false⟩
theorem pWho_fn (t : List Deed) (day : Int) (g : Nat) : pWho.fn [.sl (t.map encD), vInt day, .clo (.func g) [] []] = .sl ((whoL (fW g) t day).map vInt) := by
 simp only [pWho, decD_map]
noncomputable def sWho : Spec := pWho.toSpec
theorem sWho_app {obj : Name → Option O} {tm : Name} {t : List Deed} {day : Int} {g : Nat} (hg : g = 92 ∨ g = 93) (hl : t.length ≤ 60) (hk : ∀ d ∈ t, kindOk d) :
  sWho.app obj tm [.v (.sl (t.map encD)), .v (vInt day), .v (.clo (.func g) [] [])] = ⟨True, .v (.sl ((whoL (fW g) t day).map vInt)), obj⟩ := by
 simp only [sWho, PSpec.toSpec, frzL, frz, pWho_fn, ite_self]
 congr 1
 simp only [eq_iff_iff, iff_true]
 exact ⟨⟨trivial, trivial, trivial, trivial⟩, t, day, g, rfl, hg, hl, hk⟩
def pG (g : Nat) (caps : List V) : Sta → Bool := match g, caps with
 | 106, [.ptr [.int _ k]] => fun s => s.h == k
 | 108, [.ptr [.int _ k]] => fun s => s.n == k
 | _, _ => fun s => s.o
def famP (g : Nat) (caps : List V) : Prop := (g = 106 ∧ ∃ k, caps = [.ptr [vInt k]]) ∨ (g = 108 ∧ ∃ k, caps = [.ptr [vInt k]]) ∨ (g = 111 ∧ caps = [])
def pAns : PSpec := ⟨fun xs => ∃ (t : List Deed) (day : Int) (g : Nat) (caps : List V), xs = [.sl (t.map encD), vInt day, .clo (.func g) [] caps] ∧ famP g caps ∧ t.length ≤ 60 ∧ ∀ d ∈ t, kindOk d, fun xs => match xs with | [.sl t, .int _ day, .clo (.func g) _ caps] => vInt (ansP (pG g caps) (t.map decD) day) | _ => .bool false, true⟩
theorem pAns_fn (t : List Deed) (day : Int) (g : Nat) (caps : List V) : pAns.fn [.sl (t.map encD), vInt day, .clo (.func g) [] caps] = vInt (ansP (pG g caps) t day) := by
 simp only [pAns, decD_map]
noncomputable def sAns : Spec := pAns.toSpec
theorem sAns_in {obj : Name → Option O} {tm : Name} {t : List Deed} {day : Int} (hl : t.length ≤ 60) (hk : ∀ d ∈ t, kindOk d) :
  sAns.app obj tm [.v (.sl (t.map encD)), .v (vInt day), .v (.clo (.func 111) [] [])] = ⟨True, .v (vInt (ansP (fun s => s.o) t day)), obj⟩ := by
 simp only [sAns, PSpec.toSpec, frzL, frz, pAns_fn, ite_self]
 show R.mk _ _ _ = _
 congr 1
 simp only [eq_iff_iff, iff_true]
 exact ⟨⟨trivial, trivial, trivial, trivial⟩, t, day, 111, [], rfl, .inr (.inr ⟨rfl, rfl⟩), hl, hk⟩
theorem sAns_by {obj : Name → Option O} {tm b : Name} {t : List Deed} {day k : Int} {g : Nat} (hg : g = 106 ∨ g = 108) (ho : obj b = some (.box [.v (vInt k)])) (hl : t.length ≤ 60) (hk : ∀ d ∈ t, kindOk d) :
  sAns.app obj tm [.v (.sl (t.map encD)), .v (vInt day), .clo (.func g) [] [.ref b 0]] = ⟨True, .v (vInt (ansP (if g = 106 then fun s => s.h == k else fun s => s.n == k) t day)), obj⟩ := by
 have e : frzL (frz 6) obj [.v (.sl (t.map encD)), .v (vInt day), .clo (.func g) [] [.ref b 0]] = ⟨True, [.sl (t.map encD), vInt day, .clo (.func g) [] [.ptr [vInt k]]], upd obj b (some (.fbox [vInt k]))⟩ := by
  simp only [frzL, frzC, frzV, frzB1 ho]
  simp
 simp only [sAns, PSpec.toSpec, e, pAns_fn]
 rcases hg with rfl | rfl
 ·simp only [pAns, if_true]
  congr 1
  simp only [eq_iff_iff, iff_true]
  exact ⟨trivial, t, day, 106, [.ptr [vInt k]], rfl, .inl ⟨rfl, k, rfl⟩, hl, hk⟩
 ·simp only [pAns, if_true]
  congr 1
  simp only [eq_iff_iff, iff_true]
  exact ⟨trivial, t, day, 108, [.ptr [vInt k]], rfl, .inr (.inl ⟨rfl, k, rfl⟩), hl, hk⟩
noncomputable def inE (l : List Deed) (pe day k : Int) : Int := if checkI l = 0 then (if isPersB pe then askE l day k else 16) else checkI l
noncomputable def inR (l : List Deed) (pe day k : Int) : Int := if inE l pe day k = 0 then offI (countL l k) pe day else 0
@[go_sem] theorem ta123 : tAgg Tryz.prog 123 = some (false, 1) := by kernel_rfl
@[go_sem] theorem ta138 : tAgg Tryz.prog 138 = some (false, 1) := by kernel_rfl
def rngC : Code → Option (Array Tmp × Code × Code)
 | .seq a b => match rngC a with | some x => some x | none => rngC b
 | .block _ b => rngC b
 | .rangeFunc _ ps a b => some (ps, a, b)
 | _ => none
def codeIs (fn : Func) (ps : List Nat) (asg body : Code) : Prop := ∃ p, fn.body.bind rngC = some (p, asg, body) ∧ p.toList = ps
def evW (g : Nat) (c : V) (B : Name) : List E := (List.range 21).map (ofL eAny [(5, ⟨true, .v (.ptr [.clo (.func g) [] []])⟩), (7, ⟨true, .ref B 0⟩), (12, ⟨true, .v c⟩)])
theorem evW_ren (f : Name → Name) (g : Nat) (c : V) (B : Name) : (evW g c B).map (E.ren f) = evW g c (f B) := rfl
def gW (env : List E) : Nat := match (env.getD 5 eAny).d with | .v (.ptr [.clo (.func g) _ _]) => g | _ => 0
theorem gW_ev (g : Nat) (c : V) (B : Name) : gW (evW g c B) = g := rfl
def outW (f : Sta → Int) (L : List V) (s : V) : List Int := match s with | .agg [.int _ h, .int _ n, .bool o] => insI (L.map decI) (f ⟨h, n, o⟩) | _ => []
theorem outW_eq (f : Sta → Int) (l : List Int) (s : Sta) : outW f (l.map vInt) (encS s) = insI l (f s) := by
 simp only [outW, encS, decI_map]
def yW : YSpec where
 pre := fun env ps asg body os ds => ∃ (g : Nat) (c : V) (l : List Int) (n : Int) (s : Sta), (g = 92 ∨ g = 93) ∧ env = evW g c [0, 1] ∧ codeIs Tryz.f91 ps asg body ∧ os = [.box [.msl [1, 1] l.length], .arr 1 (l.map vInt)] ∧ l.Pairwise (· < ·) ∧ l.length < 1000 ∧ ds = [.v (vInt n), .v (encS s)]
 out := fun env _ _ _ os ds => match os, ds with
  | [_, .arr _ L], [_, .v s] => (⟨[(0, .box [.msl [1, 1] (outW (fW (gW env)) L s).length]), (1, .arr 1 ((outW (fW (gW env)) L s).map vInt))], [], .v (.bool true)⟩, none)
  | _, _ => (⟨[], [], .any⟩, none)
theorem yW_out (g : Nat) (c : V) (B : Name) (ps : List Nat) (asg body : Code) (x : O) (y : D) (l : List Int) (s : Sta) :
  yW.out (evW g c B) ps asg body [x, .arr 1 (l.map vInt)] [y, .v (encS s)] = (⟨[(0, .box [.msl [1, 1] (insI l (fW g s)).length]), (1, .arr 1 ((insI l (fW g s)).map vInt))], [], .v (.bool true)⟩, none) := by
 simp only [yW, gW_ev, outW_eq]
noncomputable def sS1 (f : Sta → V) : Spec := (pS1 f).toSpec
theorem sS1_app {f : Sta → V} {obj : Name → Option O} {t : Name} {h n : Int} {o : Bool} : (sS1 f).app obj t [.agg [.v (vInt h), .v (vInt n), .v (.bool o)]] = ⟨True, .v (f ⟨h, n, o⟩), obj⟩ := by
 have e : frzL (frz 6) obj [.agg [.v (vInt h), .v (vInt n), .v (.bool o)]] = ⟨True, [encS ⟨h, n, o⟩], obj⟩ := by
  simp [frzL, frz, D.one, V.one, encS]
 simp only [sS1, PSpec.toSpec, e]
 simp only [pS1, encS, if_true]
 congr 1
 simp only [eq_iff_iff, iff_true]
 exact ⟨trivial, ⟨h, n, o⟩, rfl⟩
noncomputable def K56 : FuncId → Option Spec := fun f => match f with
 | 92 => some (sS1 fun s => vInt s.h)
 | 93 => some (sS1 fun s => vInt s.n)
 | 94 => some sPutI
 | _ => none
theorem K56_sound : ∀ f s, K56 f = some s → SSound Tryz.prog f s := by
 intro f s h
 unfold K56 at h
 split at h
 ·cases h; exact s92.sound
 ·cases h; exact s93.sound
 ·cases h; exact s94
 ·cases h
@[go_sem] theorem K56_94 : K56 94 = some sPutI := rfl
theorem K56_g {g : Nat} (h : g = 92 ∨ g = 93) : K56 g = some (sS1 fun s => vInt (fW g s)) ∧ ¬ g = 1000000000 := by
 rcases h with rfl | rfl
 ·exact ⟨rfl, by decide⟩
 ·exact ⟨rfl, by decide⟩
set_option maxHeartbeats 4000000 in
theorem sYW : SSound Tryz.prog yid yW.toSpec := by
 refine yield_run ?_
 rintro env ps asg body os ds ⟨g, c, l, n, s, hg, rfl, ⟨p, hp, rfl⟩, rfl, hs, hl, rfl⟩ _
 have e : Tryz.f91.body.bind rngC = some (_, _, _) := rfl
 rw [e] at hp
 obtain ⟨rfl, rfl, rfl⟩ : _ ∧ _ ∧ _ := by simpa using hp
 clear hp e
 have hΓ := K56_sound
 have hP := mixedK
 obtain ⟨hk, hy⟩ := K56_g hg
 rw [yW_out]
 generalize hos : [O.box [.msl [1, 1] l.length], .arr 1 (l.map vInt)] = os
 have hO : ∀ hs, OutC [0] (domOf [0] hs) (outH os) = True := by
  subst hos
  refine fun hs => eq_true (outC_outs ?_ hs)
  intro o ho dom hd
  simp only [List.mem_cons, List.not_mem_nil, or_false] at ho
  rcases ho with rfl | rfl
  ·simp [O.clos, D.closL, D.clos, hd]
  ·rfl
 have hH0 : outH os [0, 1] = some (.box [.msl [1, 1] l.length]) := by subst hos; rfl
 have hH1 : outH os [1, 1] = some (.arr 1 (l.map vInt)) := by subst hos; rfl
 obtain ⟨H, hH⟩ : ∃ H, outH os = H := ⟨_, rfl⟩
 rw [hH] at hH0 hH1
 simp only [hH] at hO
 have hE : ∀ o σ, σ.obj [0, 1] = some (.box [.msl [1, 1] (insI l o).length]) → σ.obj [1, 1] = some (.arr 1 ((insI l o).map vInt)) →
   endC os ⟨[(0, .box [.msl [1, 1] (insI l o).length]), (1, .arr 1 ((insI l o).map vInt))], [], .v (.bool true)⟩ σ := by
  intro o σ h1 h2
  subst hos
  refine ⟨⟨h1, h2, trivial⟩, trivial, ?_⟩
  simp [D.clos, D.closL, O.clos, domC, distinct]
 have hput := fun obj t x (ho : obj [1, 1] = _) => sPutI_app (obj := obj) (t := t) (nm := [1, 1]) (k := l.length) (l := l) (x := x) ho rfl hs (by omega)
 obtain ⟨h, n', o⟩ := s
 simp only [encS, hH]
 refine cw_weak (weak_to 21 [0] H [(5, ⟨true, .v (.ptr [.clo (.func g) [] []])⟩), (7, ⟨true, .ref [0, 1] 0⟩), (14, ⟨true, .v (.agg [vInt h, vInt n', .bool o])⟩)] [] rfl rfl (fun _ _ => rfl) ?_ (by simp) ?_ ?_) ?_
 ·intro q hq
  simp only [List.mem_cons, List.not_mem_nil, or_false] at hq
  rcases hq with rfl | rfl | rfl <;> rfl
 ·simp [D.clos, domOf, own]
 ·rw [hO]; trivial
 refine cl_of ?_
 refine cl_r hΓ fun K' hK => ?_
 simp only [go_sem, tp137, tz137]
 refine ⟨Nat.le_refl _, ?_⟩
 refine hK _ ?_
 clear K' hK
 refine (cw_keep [5, 7, 9] [[9, 0]] ?_ ?_ : CW _ _ _ _)
 ·simp only [go_sem, hO]
 refine cl_of ?_
 simp only [go_sem]
 refine cl_block ?_
 repeat refine sq ?_
 refine cl_d hΓ hP [[], [], [], [1, 2], [0, 1, 2, 3], [0, 1, 2, 3, 4]] (by kernel_rfl) fun K' hK => ?_
 simp only [go_sem, hH0, hH1, hk, hy, sS1_app, hput, putI_ins _ hs]
 repeat refine ⟨ob, ?_⟩
 first | refine ⟨by rfl, ?_⟩ | skip
 refine hK _ ?_
 clear K' hK
 simp only [go_sem]
 refine cl_nil ?_
 exact ⟨rfl, hE _ _ rfl rfl⟩
theorem setU3 (obj : Name → Option O) (x y z : O) : setU obj [x, y, z] = upd (upd (upd obj [1, 1] (some y)) [2, 1] (some z)) [0, 1] (some x) := by
 funext nm
 unfold setU
 by_cases h0 : nm = [0, 1]
 ·subst h0; rfl
 by_cases h1 : nm = [1, 1]
 ·subst h1; rfl
 by_cases h2 : nm = [2, 1]
 ·subst h2; rfl
 rw [upd_ne _ _ _ h0, upd_ne _ _ _ h2, upd_ne _ _ _ h1]
 cases hx : isOut nm with
 | false => rw [outH_not hx]
 | true =>
  obtain ⟨i, rfl⟩ := isOut_iff.1 hx
  match i, h0, h1, h2 with
  | 0, h0, _, _ => exact (h0 rfl).elim
  | 1, _, h1, _ => exact (h1 rfl).elim
  | 2, _, _, h2 => exact (h2 rfl).elim
  | _ + 3, _, _, _ => rfl
theorem evW_names (g : Nat) (c : V) (B : Name) (a b : V) : namesL (roots (evW g c B) [.v a, .v b]) = [B] := rfl
theorem evW_names' (g : Nat) (c : V) (B : Name) : namesL ((evW g c B).map (·.d)) = [B] := rfl
theorem evW_cl (dom : Name → Bool) (g : Nat) (c : V) (B : Name) (a b : V) (h : dom B = true) : D.closL dom (roots (evW g c B) [.v a, .v b]) = true := by
 unfold roots evW
 simp [List.range, List.range.loop, ofL, D.closL, D.clos, eAny, h]
theorem reachW {obj : Name → Option O} {B A : Name} {ds : List D} {k : Nat} {sz : Nat} {L : List V} (hn : namesL ds = [B]) (hBA : (B == A) = false) (hB : obj B = some (.box [.msl A k])) (hA : obj A = some (.arr sz L)) : reach obj ds = [B, A] := by
 unfold reach
 rw [hn]
 show reachL obj (2997 + 1 + 1 + 1) [B] [] = [B, A]
 simp only [reachL, inL, List.any_nil, Bool.false_eq_true, if_false, hB, hA, namesO, namesL, namesD, List.nil_append, List.append_nil, List.any_cons, hBA, Bool.or_self, List.cons_append]
def IW (g : Nat) (c : V) (asg body : Code) (l : List Int) : List O := [.loop (evW g c [1, 1]) [13, 14] asg body .ready none, .box [.msl [2, 1] l.length], .arr 1 (l.map vInt)]
theorem yW_app {g : Nat} {c : V} {asg body : Code} {l : List Int} {n : Int} {s : Sta} (hg : g = 92 ∨ g = 93) (hc : codeIs Tryz.f91 [13, 14] asg body) (hs : l.Pairwise (· < ·)) (hl : l.length < 1000)
  (obj : Name → Option O) (tm : Name) (h : ∀ nm, isOut nm = true → obj nm = outH (IW g c asg body l) nm) :
  yW.toSpec.app obj tm [.yld [0, 1], .v (vInt n), .v (encS s)] = ⟨True, .v (.bool true), setU obj (IW g c asg body (insI l (fW g s)))⟩ := by
 have h0 : obj [0, 1] = some (.loop (evW g c [1, 1]) [13, 14] asg body .ready none) := h _ rfl
 have h1 : obj [1, 1] = some (.box [.msl [2, 1] l.length]) := h _ rfl
 have h2 : obj [2, 1] = some (.arr 1 (l.map vInt)) := h _ rfl
 have hr : reach obj (roots (evW g c [1, 1]) [.v (vInt n), .v (encS s)]) = [[1, 1], [2, 1]] := reachW (evW_names g c [1, 1] (vInt n) (encS s)) rfl h1 h2
 have e1 : cOs obj (roots (evW g c [1, 1]) [.v (vInt n), .v (encS s)]) = [.box [.msl [1, 1] l.length], .arr 1 (l.map vInt)] := by
  unfold cOs
  rw [hr]
  simp only [List.map_cons, List.map_nil, canonO, h1, h2, O.ren, D.renL, D.ren]
  rfl
 have e2 : yEnv obj (evW g c [1, 1]) [.v (vInt n), .v (encS s)] = evW g c [0, 1] := by
  unfold yEnv
  rw [hr, evW_ren]
  rfl
 have e3 : yDs obj (evW g c [1, 1]) [.v (vInt n), .v (encS s)] = [.v (vInt n), .v (encS s)] := rfl
 have e4 : yW.o obj (evW g c [1, 1]) [13, 14] asg body [.v (vInt n), .v (encS s)] = (⟨[(0, .box [.msl [1, 1] (insI l (fW g s)).length]), (1, .arr 1 ((insI l (fW g s)).map vInt))], [], .v (.bool true)⟩, none) := by
  unfold YSpec.o
  rw [e1, e2, e3, yW_out]
 have hpre : yW.pre (evW g c [0, 1]) [13, 14] asg body [.box [.msl [1, 1] l.length], .arr 1 (l.map vInt)] [.v (vInt n), .v (encS s)] := ⟨g, c, l, n, s, hg, rfl, hc, rfl, hs, hl, rfl⟩
 have hcl := evW_cl (inL [[1, 1], [2, 1]]) g c [1, 1] (vInt n) (encS s) rfl
 simp only [YSpec.toSpec, h0, e1, e2, e3, e4, hr, hcl]
 have e5 : (shut obj [[1, 1], [2, 1]] && true && fresh obj tm [] && !inL [[1, 1], [2, 1]] [0, 1] && decide ([D.v (vInt n), .v (encS s)].length = [13, 14].length) && [13, 14].all fun p => decide (p < (evW g c [1, 1]).length)) = true := by
  have : shut obj [[1, 1], [2, 1]] = true := by
   simp only [shut, List.all_cons, List.all_nil, h1, h2, O.clos, D.closL, D.clos]
   rfl
  rw [this]
  rfl
 rw [e5]
 unfold IW
 rw [setU3]
 simp only [hpre, and_self, Option.isNone_none, if_true, putN, putU]
 rfl
noncomputable def K57 : FuncId → Option Spec := fun f => match f with
 | 166 => some sMay
 | 167 => some sAft
 | 1000000000 => some yW.toSpec
 | _ => none
theorem K57_sound : ∀ f s, K57 f = some s → SSound Tryz.prog f s := by
 intro f s h
 unfold K57 at h
 split at h
 ·cases h; exact s166.sound
 ·cases h; exact s167.sound
 ·cases h; exact sYW
 ·cases h
theorem IW_clos (g : Nat) (c : V) (asg body : Code) (l : List Int) : ∀ o ∈ IW g c asg body l, ∀ dom : Name → Bool, (∀ i, dom [i, 1] = true) → O.clos dom o = true := by
 intro o ho dom hd
 simp only [IW, List.mem_cons, List.not_mem_nil, or_false] at ho
 rcases ho with rfl | rfl | rfl
 ·simp [O.clos, evW, List.range, List.range.loop, ofL, D.clos, D.closL, eAny, hd]
 ·simp [O.clos, D.closL, D.clos, hd]
 ·rfl
def cW : CSpec where
 pre := fun os ds => ∃ (g : Nat) (c : V) (t : List Deed) (day : Int) (asg body : Code), (g = 92 ∨ g = 93) ∧ codeIs Tryz.f91 [13, 14] asg body ∧ t.length ≤ 60 ∧ (∀ d ∈ t, kindOk d) ∧ os = IW g c asg body [] ∧ ds = [.yld [0, 1], .v (.ptr [.sl (t.map encD)]), .v (.ptr [vInt day])]
 out := fun os ds => match os, ds with
  | [.loop env _ _ _ _ _, _, _], [_, .v (.ptr [.sl l]), .v (.ptr [.int _ day])] => ⟨[(1, .box [.msl [2, 1] (whoL (fW (gW env)) (l.map decD) day).length]), (2, .arr 1 ((whoL (fW (gW env)) (l.map decD) day).map vInt))], [], .tup []⟩
  | _, _ => ⟨[], [], .any⟩
theorem cW_out (g : Nat) (c : V) (asg body : Code) (l : List Int) (t : List Deed) (day : Int) (x : D) : cW.out (IW g c asg body l) [x, .v (.ptr [.sl (t.map encD)]), .v (.ptr [vInt day])] =
  ⟨[(1, .box [.msl [2, 1] (whoL (fW g) t day).length]), (2, .arr 1 ((whoL (fW g) t day).map vInt))], [], .tup []⟩ := by
 simp only [cW, IW, gW_ev, decD_map]
theorem s165W : SSound Tryz.prog 165 cW.toSpec := by
 refine csound (nt := 25) (rs := []) Tryz.func165 rfl (by rfl) (by kernel_rfl) (enter_of Tryz.func165 rfl (by kernel_rfl)) (notYid _ (by decide)) ?_
 rintro os ds ⟨g, c, t, day, asg, body, hg, hc, hl, hk, rfl, rfl⟩
 refine ⟨lb rfl, ?_⟩
 rw [cW_out]
 obtain ⟨c', hc', h⟩ := w165 K57_sound (sY := yW.toSpec) rfl rfl rfl (t := t) (day := day) hl hk (I := fun s => IW g c asg body (whoTo (fW g) t day s)) (b := fun _ => true) (fun _ => rfl) (fun s => IW_clos g c asg body _)
  (fun s _ hm => by simp only [whoTo_next, hm]; rfl)
  (fun s hs hm _ obj tm ho => by
   have h1 := whoTo_ok (fW g) t day s
   have h2 := yW_app (n := s) (s := stA t s) hg hc h1.1 (by omega) obj tm ho
   rw [h2]
   simp only [whoTo_next, hm, if_true])
 have hc2 : ∀ c2, Tryz.f165.body = some c2 → c2 = c' := fun c2 h2 => by rw [h2] at hc'; exact Option.some.inj hc'
 rw [← hc2 _ rfl] at h
 refine CW.mono (cl_of h) ?_
 rintro e σ ⟨he, hob⟩
 have hen : endN (fun s => mayB t s day && !true) (t.length + 1) = t.length + 1 := endN_none fun s _ => by simp
 rw [hen] at hob
 have fin : (resAll Tryz.prog σ []).ok ∧ (resAll Tryz.prog σ []).d = .tup [] ∧ endC (IW g c asg body []) ⟨[(1, .box [.msl [2, 1] (whoL (fW g) t day).length]), (2, .arr 1 ((whoL (fW g) t day).map vInt))], [], .tup []⟩ σ := by
  refine ⟨fun r hr => by simp at hr, rfl, ⟨hob 0, hob 1, hob 2, trivial⟩, trivial, ?_⟩
  simp [D.clos, D.closL, O.clos, domC, distinct, IW]
 rcases he with rfl | rfl
 ·exact fin
 ·exact fin
theorem reachW3 {obj : Name → Option O} {R B A : Name} {ds : List D} {k sz : Nat} {L : List V} {env : List E} {ps : List Nat} {a b : Code} {st : LoopState} {pd : Option Code} (hn : namesL ds = [R]) (hR : obj R = some (.loop env ps a b st pd)) (he : namesL (env.map (·.d)) = [B])
  (hRB : (R == B) = false) (hRA : (R == A) = false) (hBA : (B == A) = false) (hB : obj B = some (.box [.msl A k])) (hA : obj A = some (.arr sz L)) : reach obj ds = [R, B, A] := by
 unfold reach
 rw [hn]
 show reachL obj (2996 + 1 + 1 + 1 + 1) [R] [] = [R, B, A]
 simp only [reachL, inL, List.any_nil, Bool.false_eq_true, if_false, hR, hB, hA, namesO, he, namesL, namesD, List.nil_append, List.append_nil, List.any_cons, hRB, hRA, hBA, Bool.or_self, List.cons_append]
theorem cW_app {g : Nat} {c : V} {t : List Deed} {day : Int} {asg body : Code} (hg : g = 92 ∨ g = 93) (hc : codeIs Tryz.f91 [13, 14] asg body) (hl : t.length ≤ 60) (hk : ∀ d ∈ t, kindOk d) {obj : Name → Option O} {tm R B A : Name}
  (hRB : R ≠ B) (hRA : R ≠ A) (hBA : B ≠ A) (hR : obj R = some (.loop (evW g c B) [13, 14] asg body .ready none)) (hB : obj B = some (.box [.msl A 0])) (hA : obj A = some (.arr 1 [])) :
  cW.toSpec.app obj tm [.yld R, .v (.ptr [.sl (t.map encD)]), .v (.ptr [vInt day])] = ⟨True, .tup [], upd (upd obj B (some (.box [.msl A (whoL (fW g) t day).length]))) A (some (.arr 1 ((whoL (fW g) t day).map vInt)))⟩ := by
 have b1 : (R == B) = false := by simpa using hRB
 have b2 : (R == A) = false := by simpa using hRA
 have b3 : (B == A) = false := by simpa using hBA
 have hr : reach obj [.yld R, .v (.ptr [.sl (t.map encD)]), .v (.ptr [vInt day])] = [R, B, A] := reachW3 rfl hR (evW_names' g c B) b1 b2 b3 hB hA
 have i0 : idx [R, B, A] R = 0 := by simp [idx]
 have i1 : idx [R, B, A] B = 1 := by simp [idx, hRB]
 have i2 : idx [R, B, A] A = 2 := by simp [idx, hRA, hBA]
 have e1 : cOs obj [.yld R, .v (.ptr [.sl (t.map encD)]), .v (.ptr [vInt day])] = IW g c asg body [] := by
  unfold cOs
  rw [hr]
  simp only [List.map_cons, List.map_nil, canonO, hR, hB, hA, O.ren, D.renL, D.ren, evW_ren, cin, i0, i1, i2]
  rfl
 have e2 : cDs obj [.yld R, .v (.ptr [.sl (t.map encD)]), .v (.ptr [vInt day])] = [.yld [0, 1], .v (.ptr [.sl (t.map encD)]), .v (.ptr [vInt day])] := by
  unfold cDs
  rw [hr]
  simp only [D.renL, D.ren, cin, i0]
 have hpre : cW.pre (IW g c asg body []) [.yld [0, 1], .v (.ptr [.sl (t.map encD)]), .v (.ptr [vInt day])] := ⟨g, c, t, day, asg, body, hg, hc, hl, hk, rfl, rfl⟩
 have e3 : (shut obj [R, B, A] && D.closL (inL [R, B, A]) [.yld R, .v (.ptr [.sl (t.map encD)]), .v (.ptr [vInt day])] && fresh obj tm []) = true := by
  have : shut obj [R, B, A] = true := by
   simp [shut, hR, hB, hA, O.clos, D.closL, D.clos, inL, evW, List.range, List.range.loop, ofL, eAny]
  rw [this]
  simp [D.closL, D.clos, inL, fresh]
 simp only [CSpec.toSpec, e1, e2, hr, cW_out, e3, hpre, and_self, putN, putU, D.ren, D.renL, O.ren, cout, List.getD_cons_zero, List.getD_cons_succ]
noncomputable def K65 : FuncId → Option Spec := fun f => match f with
 | 147 => some (sLI (fun _ => True) (fun l k => .clo (.func 165) [] [.ptr [.sl (l.map encD)], .ptr [vInt k]]) false)
 | 165 => some cW.toSpec
 | _ => none
theorem K65_sound : ∀ f s, K65 f = some s → SSound Tryz.prog f s := by
 intro f s h
 unfold K65 at h
 split at h
 ·cases h; exact s147.sound
 ·cases h; exact s165W
 ·cases h
@[go_sem] theorem K65_147 : K65 147 = some (sLI (fun _ => True) (fun l k => .clo (.func 165) [] [.ptr [.sl (l.map encD)], .ptr [vInt k]]) false) := rfl
theorem s91 : PSound Tryz.prog 91 pWho := by
 refine psoundB (rs := [.tmp 6]) Tryz.func91 Tryz.ntmps91 (by rfl) (by kernel_rfl) (by decide) (fun h => by cases h) ⟨_, rfl, ?_⟩
 rintro xs ⟨t, day, g, rfl, hg, hl, hk⟩ hw
 refine ⟨lb rfl, ?_⟩
 rw [pWho_fn]
 have hΓ := K65_sound
 have hst := fun (obj : Name → Option O) (tm : Name) (f : List Deed → Int → V) (fl : Bool) => sLI_app (P := fun _ => True) (f := f) (fl := fl) (obj := obj) (t := tm) (l := t) (k := day) trivial
 repeat refine sq ?_
 refine rs hΓ [0,1,5] [[5, 0]] ?_
 refine cl_weakM (σ' := mkS 21 [0] (fun _ => none) [(0, ⟨true, .v (.sl (t.map encD))⟩), (1, ⟨true, .v (vInt day)⟩), (5, ⟨true, .v (.ptr [.clo (.func g) [] []])⟩)] []) (weakM_frzk 5 (.ref [5, 0] 0) (by simp only [go_sem]) (by simp only [go_sem]) [0, 1, 5] [] ?_ ?_) ?_
 ·simp only [go_sem]
 ·simp only [go_sem]
 repeat refine sq ?_
 refine rs hΓ [0,1,5,7] [[7, 0]] ?_
 repeat refine sq ?_
 refine rx hΓ [5,7,12] [[7, 0]] (fun K' hK => by simp only [go_sem, hst]; exact fin) ?_
 repeat refine sq ?_
 refine cl_block ?_
 repeat refine sq ?_
 refine cl_weakM (σ' := mkS 21 [0] (fun _ => none) [(5, ⟨true, .v (.ptr [.clo (.func g) [] []])⟩), (7, ⟨true, .ref [7, 0] 0⟩), (12, ⟨true, .v (.clo (.func 165) [] [.ptr [.sl (t.map encD)], .ptr [vInt day]])⟩)] [([7, 0], .box [.msl [32, 0] 0]), ([32, 0], .arr 1 [])]) (weakM_ghostB [7, 0] [32, 0] 1 (by simp only [go_sem]) (by simp only [go_sem]) [5, 7, 12] [[7, 0], [32, 0]] ?_ ?_) ?_
 ·simp only [go_sem]
 ·simp only [go_sem]
 have happ := fun (obj : Name → Option O) (asg body : Code) (hc : codeIs Tryz.f91 [13, 14] asg body) => cW_app (c := .clo (.func 165) [] [.ptr [.sl (t.map encD)], .ptr [vInt day]]) (t := t) (day := day) hg hc hl hk (obj := obj) (tm := [31, 0]) (R := [30, 0]) (B := [7, 0]) (A := [32, 0]) (by decide) (by decide) (by decide)
 refine cl_rangeFuncR hΓ 30 31 (f := 165) (s := cW.toSpec) rfl rfl (by decide) rfl rfl (happ _ _ _ ⟨_, rfl, rfl⟩ rfl rfl rfl) rfl ?_
 refine cl_nil ?_
 show CL Tryz.prog (_ :: _) _ _
 refine cl_keep [7] [[7, 0],[32, 0]] ?_ ?_ <;> simp only [go_sem]
 repeat refine sq ?_
 refine rs hΓ [6] [[32, 0]] ?_
 exact rt
def evA (g : Nat) (caps : List V) (c : V) (Y N : Name) : List E := (List.range 35).map (ofL eAny [(5, ⟨true, .v (.ptr [.clo (.func g) [] caps])⟩), (7, ⟨true, .ref Y 0⟩), (8, ⟨true, .ref N 0⟩), (13, ⟨true, .v c⟩)])
theorem evA_ren (f : Name → Name) (g : Nat) (caps : List V) (c : V) (Y N : Name) : (evA g caps c Y N).map (E.ren f) = evA g caps c (f Y) (f N) := rfl
def gA (env : List E) : Sta → Bool := match (env.getD 5 eAny).d with | .v (.ptr [.clo (.func g) _ caps]) => pG g caps | _ => fun _ => false
theorem gA_ev (g : Nat) (caps : List V) (c : V) (Y N : Name) : gA (evA g caps c Y N) = pG g caps := rfl
def outA (f : Sta → Bool) (s : V) : Bool := match s with | .agg [.int _ h, .int _ n, .bool o] => f ⟨h, n, o⟩ | _ => false
theorem outA_eq (f : Sta → Bool) (s : Sta) : outA f (encS s) = f s := rfl
def yA : YSpec where
 pre := fun env ps asg body os ds => ∃ (g : Nat) (caps : List V) (c : V) (y n : Bool) (m : Int) (s : Sta), famP g caps ∧ env = evA g caps c [0, 1] [1, 1] ∧ codeIs Tryz.f105 ps asg body ∧ os = [.box [.v (.bool y)], .box [.v (.bool n)]] ∧ ds = [.v (vInt m), .v (encS s)]
 out := fun env _ _ _ os ds => match os, ds with
  | [.box [.v (.bool y)], .box [.v (.bool n)]], [_, .v s] => (⟨[(0, .box [.v (.bool (y || outA (gA env) s))]), (1, .box [.v (.bool (n || !outA (gA env) s))])], [], .v (.bool true)⟩, none)
  | _, _ => (⟨[], [], .any⟩, none)
theorem yA_out (g : Nat) (caps : List V) (c : V) (Y N : Name) (ps : List Nat) (asg body : Code) (y n : Bool) (x : D) (s : Sta) :
  yA.out (evA g caps c Y N) ps asg body [.box [.v (.bool y)], .box [.v (.bool n)]] [x, .v (encS s)] = (⟨[(0, .box [.v (.bool (y || pG g caps s))]), (1, .box [.v (.bool (n || !pG g caps s))])], [], .v (.bool true)⟩, none) := by
 simp only [yA, gA_ev, outA_eq]
noncomputable def sSp (f : Sta → Int → V) : Spec := (pSp f).toSpec
theorem sSp_app {f : Sta → Int → V} {obj : Name → Option O} {t : Name} {h n k : Int} {o : Bool} : (sSp f).app obj t [.agg [.v (vInt h), .v (vInt n), .v (.bool o)], .v (.ptr [vInt k])] = ⟨True, .v (f ⟨h, n, o⟩ k), obj⟩ := by
 have e : frzL (frz 6) obj [.agg [.v (vInt h), .v (vInt n), .v (.bool o)], .v (.ptr [vInt k])] = ⟨True, [encS ⟨h, n, o⟩, .ptr [vInt k]], obj⟩ := by
  simp [frzL, frz, D.one, V.one, encS]
 simp only [sSp, PSpec.toSpec, e]
 simp only [pSp, encS, if_true]
 congr 1
 simp only [eq_iff_iff, iff_true]
 exact ⟨trivial, ⟨h, n, o⟩, k, rfl⟩
noncomputable def K66 : FuncId → Option Spec := fun f => match f with
 | 106 => some (sSp fun s k => .bool (s.h == k))
 | 108 => some (sSp fun s k => .bool (s.n == k))
 | 111 => some (sS1 fun s => .bool s.o)
 | _ => none
theorem K66_sound : ∀ f s, K66 f = some s → SSound Tryz.prog f s := by
 intro f s h
 unfold K66 at h
 split at h
 ·cases h; exact s106.sound
 ·cases h; exact s108.sound
 ·cases h; exact s111.sound
 ·cases h
theorem K66_g {g : Nat} {caps : List V} (h : famP g caps) : ∃ sG, K66 g = some sG ∧ ¬ g = 1000000000 ∧ ∀ (obj : Name → Option O) (t : Name) (h n : Int) (o : Bool), sG.app obj t (.agg [.v (vInt h), .v (vInt n), .v (.bool o)] :: caps.map .v) = ⟨True, .v (.bool (pG g caps ⟨h, n, o⟩)), obj⟩ ∧ sG.foot obj t (.agg [.v (vInt h), .v (vInt n), .v (.bool o)] :: caps.map .v) = [] ∧ sG.wrt obj t (.agg [.v (vInt h), .v (vInt n), .v (.bool o)] :: caps.map .v) = [] := by
 rcases h with ⟨rfl, k, rfl⟩ | ⟨rfl, k, rfl⟩ | ⟨rfl, rfl⟩
 ·exact ⟨_, rfl, by decide, fun obj t h n o => ⟨sSp_app, rfl, rfl⟩⟩
 ·exact ⟨_, rfl, by decide, fun obj t h n o => ⟨sSp_app, rfl, rfl⟩⟩
 ·exact ⟨_, rfl, by decide, fun obj t h n o => ⟨sS1_app, rfl, rfl⟩⟩
set_option maxHeartbeats 4000000 in
theorem sYA : SSound Tryz.prog yid yA.toSpec := by
 refine yield_run ?_
 rintro env ps asg body os ds ⟨g, caps, c, y, n, m, s, hg, rfl, ⟨p, hp, rfl⟩, rfl, rfl⟩ _
 have e : Tryz.f105.body.bind rngC = some (_, _, _) := rfl
 rw [e] at hp
 obtain ⟨rfl, rfl, rfl⟩ : _ ∧ _ ∧ _ := by simpa using hp
 clear hp e
 have hΓ := K66_sound
 have hP := mixedK
 obtain ⟨sG, hk, hy, happ⟩ := K66_g hg
 rw [yA_out]
 generalize hos : [O.box [.v (.bool y)], .box [.v (.bool n)]] = os
 have hO : ∀ hs, OutC [0] (domOf [0] hs) (outH os) = True := by
  subst hos
  refine fun hs => eq_true (outC_outs ?_ hs)
  intro o ho dom hd
  simp only [List.mem_cons, List.not_mem_nil, or_false] at ho
  rcases ho with rfl | rfl <;> rfl
 have hH0 : outH os [0, 1] = some (.box [.v (.bool y)]) := by subst hos; rfl
 have hH1 : outH os [1, 1] = some (.box [.v (.bool n)]) := by subst hos; rfl
 obtain ⟨H, hH⟩ : ∃ H, outH os = H := ⟨_, rfl⟩
 rw [hH] at hH0 hH1
 simp only [hH] at hO
 have hE : ∀ b b' σ, σ.obj [0, 1] = some (.box [.v (.bool b)]) → σ.obj [1, 1] = some (.box [.v (.bool b')]) →
   endC os ⟨[(0, .box [.v (.bool b)]), (1, .box [.v (.bool b')])], [], .v (.bool true)⟩ σ := by
  intro b b' σ h1 h2
  subst hos
  refine ⟨⟨h1, h2, trivial⟩, trivial, ?_⟩
  simp [D.clos, D.closL, O.clos, domC, distinct]
 obtain ⟨h, n', o⟩ := s
 have hap := fun (obj : Name → Option O) (t : Name) => (happ obj t h n' o).1
 have hft := fun (obj : Name → Option O) (t : Name) => (happ obj t h n' o).2.1
 have hwt := fun (obj : Name → Option O) (t : Name) => (happ obj t h n' o).2.2
 clear happ
 generalize pG g caps ⟨h, n', o⟩ = pb at *
 simp only [encS, hH]
 refine cw_weak (weak_to 35 [0] H [(5, ⟨true, .v (.ptr [.clo (.func g) [] caps])⟩), (7, ⟨true, .ref [0, 1] 0⟩), (8, ⟨true, .ref [1, 1] 0⟩), (15, ⟨true, .v (.agg [vInt h, vInt n', .bool o])⟩)] [] rfl rfl (fun _ _ => rfl) ?_ (by simp) ?_ ?_) ?_
 ·intro q hq
  simp only [List.mem_cons, List.not_mem_nil, or_false] at hq
  rcases hq with rfl | rfl | rfl | rfl <;> rfl
 ·simp [D.clos, domOf, own]
 ·rw [hO]; trivial
 refine cl_of ?_
 refine cl_r hΓ fun K' hK => ?_
 simp only [go_sem, tp137, tz137]
 refine ⟨Nat.le_refl _, ?_⟩
 refine hK _ ?_
 clear K' hK
 refine (cw_keep [5, 7, 8, 10] [[10, 0]] ?_ ?_ : CW _ _ _ _)
 ·simp only [go_sem, hO]
 refine cl_of ?_
 simp only [go_sem]
 refine cl_block ?_
 cases y <;> cases n
 all_goals
  repeat refine sq ?_
  refine cl_d hΓ hP [[], [0], [0, 1], [0, 1], [0, 1, 2, 3], [0, 1, 2, 3, 4], [], [0, 1, 2, 3, 4, 6], [0, 1, 2, 3, 4, 6, 7], [0, 1, 2, 3, 4, 6, 7], [0, 1, 2, 3, 4, 6, 7, 8, 9], [0, 1, 2, 3, 4, 6, 7, 8, 9, 10], [0, 1, 2, 3, 4, 6, 7, 8, 9, 10, 11], [0, 1, 2, 3, 4, 5, 6, 7, 8, 9, 10], [0, 1, 2, 3, 4, 5, 6, 7, 8, 9, 10, 11, 12, 13]] (by kernel_rfl) fun K' hK => ?_
  simp only [go_sem, hH0, hH1, hk, hy, hap, hft, hwt]
  repeat refine ⟨ob, ?_⟩
  first | refine ⟨by rfl, ?_⟩ | skip
  refine hK _ ?_
  clear K' hK
  simp only [go_sem]
  refine cl_nil ?_
  exact ⟨rfl, hE _ _ _ rfl rfl⟩
theorem evA_names (g : Nat) (caps : List V) (c : V) (Y N : Name) (a b : V) : namesL (roots (evA g caps c Y N) [.v a, .v b]) = [Y, N] := rfl
theorem evA_names' (g : Nat) (caps : List V) (c : V) (Y N : Name) : namesL ((evA g caps c Y N).map (·.d)) = [Y, N] := rfl
theorem evA_cl (dom : Name → Bool) (g : Nat) (caps : List V) (c : V) (Y N : Name) (a b : V) (h : dom Y = true) (h' : dom N = true) : D.closL dom (roots (evA g caps c Y N) [.v a, .v b]) = true := by
 unfold roots evA
 simp [List.range, List.range.loop, ofL, D.closL, D.clos, eAny, h, h']
theorem reachA {obj : Name → Option O} {Y N : Name} {ds : List D} {y n : Bool} (hn : namesL ds = [Y, N]) (hYN : (Y == N) = false) (hY : obj Y = some (.box [.v (.bool y)])) (hN : obj N = some (.box [.v (.bool n)])) : reach obj ds = [Y, N] := by
 unfold reach
 rw [hn]
 show reachL obj (2997 + 1 + 1 + 1) [Y, N] [] = [Y, N]
 simp only [reachL, inL, List.any_nil, Bool.false_eq_true, if_false, hY, hN, namesO, namesL, namesD, List.nil_append, List.append_nil, List.any_cons, hYN, Bool.or_self, List.cons_append]
def IA (g : Nat) (caps : List V) (c : V) (asg body : Code) (y n : Bool) : List O := [.loop (evA g caps c [1, 1] [2, 1]) [14, 15] asg body .ready none, .box [.v (.bool y)], .box [.v (.bool n)]]
theorem yA_app {g : Nat} {caps : List V} {c : V} {asg body : Code} {y n : Bool} {m : Int} {s : Sta} (hg : famP g caps) (hc : codeIs Tryz.f105 [14, 15] asg body)
  (obj : Name → Option O) (tm : Name) (h : ∀ nm, isOut nm = true → obj nm = outH (IA g caps c asg body y n) nm) :
  yA.toSpec.app obj tm [.yld [0, 1], .v (vInt m), .v (encS s)] = ⟨True, .v (.bool true), setU obj (IA g caps c asg body (y || pG g caps s) (n || !pG g caps s))⟩ := by
 have h0 : obj [0, 1] = some (.loop (evA g caps c [1, 1] [2, 1]) [14, 15] asg body .ready none) := h _ rfl
 have h1 : obj [1, 1] = some (.box [.v (.bool y)]) := h _ rfl
 have h2 : obj [2, 1] = some (.box [.v (.bool n)]) := h _ rfl
 have hr : reach obj (roots (evA g caps c [1, 1] [2, 1]) [.v (vInt m), .v (encS s)]) = [[1, 1], [2, 1]] := reachA (evA_names g caps c [1, 1] [2, 1] (vInt m) (encS s)) rfl h1 h2
 have e1 : cOs obj (roots (evA g caps c [1, 1] [2, 1]) [.v (vInt m), .v (encS s)]) = [.box [.v (.bool y)], .box [.v (.bool n)]] := by
  unfold cOs
  rw [hr]
  simp only [List.map_cons, List.map_nil, canonO, h1, h2, O.ren, D.renL, D.ren]
 have e2 : yEnv obj (evA g caps c [1, 1] [2, 1]) [.v (vInt m), .v (encS s)] = evA g caps c [0, 1] [1, 1] := by
  unfold yEnv
  rw [hr, evA_ren]
  rfl
 have e3 : yDs obj (evA g caps c [1, 1] [2, 1]) [.v (vInt m), .v (encS s)] = [.v (vInt m), .v (encS s)] := rfl
 have e4 : yA.o obj (evA g caps c [1, 1] [2, 1]) [14, 15] asg body [.v (vInt m), .v (encS s)] = (⟨[(0, .box [.v (.bool (y || pG g caps s))]), (1, .box [.v (.bool (n || !pG g caps s))])], [], .v (.bool true)⟩, none) := by
  unfold YSpec.o
  rw [e1, e2, e3, yA_out]
 have hpre : yA.pre (evA g caps c [0, 1] [1, 1]) [14, 15] asg body [.box [.v (.bool y)], .box [.v (.bool n)]] [.v (vInt m), .v (encS s)] := ⟨g, caps, c, y, n, m, s, hg, rfl, hc, rfl, rfl⟩
 have hcl := evA_cl (inL [[1, 1], [2, 1]]) g caps c [1, 1] [2, 1] (vInt m) (encS s) rfl rfl
 simp only [YSpec.toSpec, h0, e1, e2, e3, e4, hr, hcl]
 have e5 : (shut obj [[1, 1], [2, 1]] && true && fresh obj tm [] && !inL [[1, 1], [2, 1]] [0, 1] && decide ([D.v (vInt m), .v (encS s)].length = [14, 15].length) && [14, 15].all fun p => decide (p < (evA g caps c [1, 1] [2, 1]).length)) = true := by
  have : shut obj [[1, 1], [2, 1]] = true := by
   simp only [shut, List.all_cons, List.all_nil, h1, h2, O.clos, D.closL, D.clos]
   rfl
  rw [this]
  rfl
 rw [e5]
 unfold IA
 rw [setU3]
 simp only [hpre, and_self, Option.isNone_none, if_true, putN, putU]
 rfl
noncomputable def K67 : FuncId → Option Spec := fun f => match f with
 | 166 => some sMay
 | 167 => some sAft
 | 1000000000 => some yA.toSpec
 | _ => none
theorem K67_sound : ∀ f s, K67 f = some s → SSound Tryz.prog f s := by
 intro f s h
 unfold K67 at h
 split at h
 ·cases h; exact s166.sound
 ·cases h; exact s167.sound
 ·cases h; exact sYA
 ·cases h
theorem IA_clos (g : Nat) (caps : List V) (c : V) (asg body : Code) (y n : Bool) : ∀ o ∈ IA g caps c asg body y n, ∀ dom : Name → Bool, (∀ i, dom [i, 1] = true) → O.clos dom o = true := by
 intro o ho dom hd
 simp only [IA, List.mem_cons, List.not_mem_nil, or_false] at ho
 rcases ho with rfl | rfl | rfl
 ·simp [O.clos, evA, List.range, List.range.loop, ofL, D.clos, D.closL, eAny, hd]
 ·rfl
 ·rfl
def cA : CSpec where
 pre := fun os ds => ∃ (g : Nat) (caps : List V) (c : V) (t : List Deed) (day : Int) (asg body : Code), famP g caps ∧ codeIs Tryz.f105 [14, 15] asg body ∧ t.length ≤ 60 ∧ (∀ d ∈ t, kindOk d) ∧ os = IA g caps c asg body false false ∧ ds = [.yld [0, 1], .v (.ptr [.sl (t.map encD)]), .v (.ptr [vInt day])]
 out := fun os ds => match os, ds with
  | [.loop env _ _ _ _ _, _, _], [_, .v (.ptr [.sl l]), .v (.ptr [.int _ day])] => ⟨[(1, .box [.v (.bool (yesTo (gA env) (l.map decD) day (l.length + 1)))]), (2, .box [.v (.bool (noTo (gA env) (l.map decD) day (l.length + 1)))])], [], .tup []⟩
  | _, _ => ⟨[], [], .any⟩
theorem cA_out (g : Nat) (caps : List V) (c : V) (asg body : Code) (y n : Bool) (t : List Deed) (day : Int) (x : D) : cA.out (IA g caps c asg body y n) [x, .v (.ptr [.sl (t.map encD)]), .v (.ptr [vInt day])] =
  ⟨[(1, .box [.v (.bool (yesTo (pG g caps) t day (t.length + 1)))]), (2, .box [.v (.bool (noTo (pG g caps) t day (t.length + 1)))])], [], .tup []⟩ := by
 simp only [cA, IA, gA_ev, decD_map, List.length_map]
theorem s165A : SSound Tryz.prog 165 cA.toSpec := by
 refine csound (nt := 25) (rs := []) Tryz.func165 rfl (by rfl) (by kernel_rfl) (enter_of Tryz.func165 rfl (by kernel_rfl)) (notYid _ (by decide)) ?_
 rintro os ds ⟨g, caps, c, t, day, asg, body, hg, hc, hl, hk, rfl, rfl⟩
 refine ⟨lb rfl, ?_⟩
 rw [cA_out]
 obtain ⟨c', hc', h⟩ := w165 K67_sound (sY := yA.toSpec) rfl rfl rfl (t := t) (day := day) hl hk (I := fun s => IA g caps c asg body (yesTo (pG g caps) t day s) (noTo (pG g caps) t day s)) (b := fun _ => true) (fun _ => rfl) (fun s => IA_clos g caps c asg body _ _)
  (fun s _ hm => by simp only [yesTo_next, noTo_next, hm]; rfl)
  (fun s hs hm _ obj tm ho => by
   have h2 := yA_app (m := s) (s := stA t s) hg hc obj tm ho
   rw [h2]
   simp only [yesTo_next, noTo_next, hm, if_true])
 have hc2 : ∀ c2, Tryz.f165.body = some c2 → c2 = c' := fun c2 h2 => by rw [h2] at hc'; exact Option.some.inj hc'
 rw [← hc2 _ rfl] at h
 refine CW.mono (cl_of h) ?_
 rintro e σ ⟨he, hob⟩
 have hen : endN (fun s => mayB t s day && !true) (t.length + 1) = t.length + 1 := endN_none fun s _ => by simp
 rw [hen] at hob
 have fin : (resAll Tryz.prog σ []).ok ∧ (resAll Tryz.prog σ []).d = .tup [] ∧ endC (IA g caps c asg body false false) ⟨[(1, .box [.v (.bool (yesTo (pG g caps) t day (t.length + 1)))]), (2, .box [.v (.bool (noTo (pG g caps) t day (t.length + 1)))])], [], .tup []⟩ σ := by
  refine ⟨fun r hr => by simp at hr, rfl, ⟨hob 0, hob 1, hob 2, trivial⟩, trivial, ?_⟩
  simp [D.clos, D.closL, O.clos, distinct, IA]
 rcases he with rfl | rfl
 ·exact fin
 ·exact fin
theorem reachA3 {obj : Name → Option O} {R Y N : Name} {ds : List D} {y n : Bool} {env : List E} {ps : List Nat} {a b : Code} {st : LoopState} {pd : Option Code} (hn : namesL ds = [R]) (hR : obj R = some (.loop env ps a b st pd)) (he : namesL (env.map (·.d)) = [Y, N])
  (hRY : (R == Y) = false) (hRN : (R == N) = false) (hYN : (Y == N) = false) (hY : obj Y = some (.box [.v (.bool y)])) (hN : obj N = some (.box [.v (.bool n)])) : reach obj ds = [R, Y, N] := by
 unfold reach
 rw [hn]
 show reachL obj (2996 + 1 + 1 + 1 + 1) [R] [] = [R, Y, N]
 simp only [reachL, inL, List.any_nil, Bool.false_eq_true, if_false, hR, hY, hN, namesO, he, namesL, namesD, List.nil_append, List.append_nil, List.any_cons, hRY, hRN, hYN, Bool.or_self, List.cons_append]
theorem cA_app {g : Nat} {caps : List V} {c : V} {t : List Deed} {day : Int} {asg body : Code} (hg : famP g caps) (hc : codeIs Tryz.f105 [14, 15] asg body) (hl : t.length ≤ 60) (hk : ∀ d ∈ t, kindOk d) {obj : Name → Option O} {tm R Y N : Name}
  (hRY : R ≠ Y) (hRN : R ≠ N) (hYN : Y ≠ N) (hR : obj R = some (.loop (evA g caps c Y N) [14, 15] asg body .ready none)) (hY : obj Y = some (.box [.v (.bool false)])) (hN : obj N = some (.box [.v (.bool false)])) :
  cA.toSpec.app obj tm [.yld R, .v (.ptr [.sl (t.map encD)]), .v (.ptr [vInt day])] = ⟨True, .tup [], upd (upd obj Y (some (.box [.v (.bool (yesTo (pG g caps) t day (t.length + 1)))]))) N (some (.box [.v (.bool (noTo (pG g caps) t day (t.length + 1)))]))⟩ := by
 have b1 : (R == Y) = false := by simpa using hRY
 have b2 : (R == N) = false := by simpa using hRN
 have b3 : (Y == N) = false := by simpa using hYN
 have hr : reach obj [.yld R, .v (.ptr [.sl (t.map encD)]), .v (.ptr [vInt day])] = [R, Y, N] := reachA3 rfl hR (evA_names' g caps c Y N) b1 b2 b3 hY hN
 have i0 : idx [R, Y, N] R = 0 := by simp [idx]
 have i1 : idx [R, Y, N] Y = 1 := by simp [idx, hRY]
 have i2 : idx [R, Y, N] N = 2 := by simp [idx, hRN, hYN]
 have e1 : cOs obj [.yld R, .v (.ptr [.sl (t.map encD)]), .v (.ptr [vInt day])] = IA g caps c asg body false false := by
  unfold cOs
  rw [hr]
  simp only [List.map_cons, List.map_nil, canonO, hR, hY, hN, O.ren, D.renL, D.ren, evA_ren, cin, i1, i2]
  rfl
 have e2 : cDs obj [.yld R, .v (.ptr [.sl (t.map encD)]), .v (.ptr [vInt day])] = [.yld [0, 1], .v (.ptr [.sl (t.map encD)]), .v (.ptr [vInt day])] := by
  unfold cDs
  rw [hr]
  simp only [D.renL, D.ren, cin, i0]
 have hpre : cA.pre (IA g caps c asg body false false) [.yld [0, 1], .v (.ptr [.sl (t.map encD)]), .v (.ptr [vInt day])] := ⟨g, caps, c, t, day, asg, body, hg, hc, hl, hk, rfl, rfl⟩
 have e3 : (shut obj [R, Y, N] && D.closL (inL [R, Y, N]) [.yld R, .v (.ptr [.sl (t.map encD)]), .v (.ptr [vInt day])] && fresh obj tm []) = true := by
  have : shut obj [R, Y, N] = true := by
   simp [shut, hR, hY, hN, O.clos, D.closL, D.clos, inL, evA, List.range, List.range.loop, ofL, eAny]
  rw [this]
  simp [D.closL, D.clos, inL, fresh]
 simp only [CSpec.toSpec, e1, e2, hr, cA_out, e3, hpre, and_self, putN, putU, D.ren, D.renL, O.ren, List.getD_cons_zero, List.getD_cons_succ]
noncomputable def K68 : FuncId → Option Spec := fun f => match f with
 | 147 => some (sLI (fun _ => True) (fun l k => .clo (.func 165) [] [.ptr [.sl (l.map encD)], .ptr [vInt k]]) false)
 | 165 => some cA.toSpec
 | _ => none
theorem K68_sound : ∀ f s, K68 f = some s → SSound Tryz.prog f s := by
 intro f s h
 unfold K68 at h
 split at h
 ·cases h; exact s147.sound
 ·cases h; exact s165A
 ·cases h
@[go_sem] theorem K68_147 : K68 147 = some (sLI (fun _ => True) (fun l k => .clo (.func 165) [] [.ptr [.sl (l.map encD)], .ptr [vInt k]]) false) := rfl
theorem s105 : PSound Tryz.prog 105 pAns := by
 refine psoundB (rs := [.tmp 6]) Tryz.func105 Tryz.ntmps105 (by rfl) (by kernel_rfl) (by decide) (by rintro _ xs ⟨t, day, g, caps, rfl, _⟩; rw [pAns_fn]; rfl) ⟨_, rfl, ?_⟩
 rintro xs ⟨t, day, g, caps, rfl, hg, hl, hk⟩ hw
 refine ⟨lb rfl, ?_⟩
 rw [pAns_fn]
 have hΓ := K68_sound
 have hst := fun (obj : Name → Option O) (tm : Name) (f : List Deed → Int → V) (fl : Bool) => sLI_app (P := fun _ => True) (f := f) (fl := fl) (obj := obj) (t := tm) (l := t) (k := day) trivial
 repeat refine sq ?_
 refine rs hΓ [0,1,5] [[5, 0]] ?_
 refine cl_weakM (σ' := mkS 35 [0] (fun _ => none) [(0, ⟨true, .v (.sl (t.map encD))⟩), (1, ⟨true, .v (vInt day)⟩), (5, ⟨true, .v (.ptr [.clo (.func g) [] caps])⟩)] []) (weakM_frzk 5 (.ref [5, 0] 0) (by simp only [go_sem]) (by simp only [go_sem]) [0, 1, 5] [] ?_ ?_) ?_
 ·simp only [go_sem]
 ·simp only [go_sem]
 repeat refine sq ?_
 refine rs hΓ [0,1,5,7,8] [[7, 0],[8, 0]] ?_
 repeat refine sq ?_
 refine rx hΓ [5,7,8,13] [[7, 0],[8, 0]] (fun K' hK => by simp only [go_sem, hst]; exact fin) ?_
 repeat refine sq ?_
 refine cl_block ?_
 repeat refine sq ?_
 have happ := fun (obj : Name → Option O) (asg body : Code) (hc : codeIs Tryz.f105 [14, 15] asg body) => cA_app (c := .clo (.func 165) [] [.ptr [.sl (t.map encD)], .ptr [vInt day]]) (t := t) (day := day) hg hc hl hk (obj := obj) (tm := [41, 0]) (R := [40, 0]) (Y := [7, 0]) (N := [8, 0]) (by decide) (by decide) (by decide)
 refine cl_rangeFuncR hΓ 40 41 (f := 165) (s := cA.toSpec) rfl rfl (by decide) rfl rfl (happ _ _ _ ⟨_, rfl, rfl⟩ rfl rfl rfl) rfl ?_
 refine cl_nil ?_
 show CL Tryz.prog (_ :: _) _ _
 refine cl_keep [7,8] [[7, 0],[8, 0]] ?_ ?_ <;> simp only [go_sem]
 have hans : ansP (pG g caps) t day = if noTo (pG g caps) t day (t.length + 1) then (if yesTo (pG g caps) t day (t.length + 1) then 2 else 0) else 1 := rfl
 rw [hans]
 generalize yesTo (pG g caps) t day (t.length + 1) = y
 generalize noTo (pG g caps) t day (t.length + 1) = n
 clear hans happ
 repeat refine sq ?_
 refine cl_block ?_
 repeat refine sq ?_
 refine rs hΓ [7,29] [[7, 0]] ?_
 repeat refine sq ?_
 refine cl_cond rfl rfl (fun hb => ?_) fun hb => ?_
 ·have hn : n = false := by simpa using hb
  subst hn
  repeat refine sq ?_
  refine rs hΓ [6] [] ?_
  exact rt
 have hn : n = true := by simpa using hb
 subst hn
 repeat refine sq ?_
 refine rs hΓ [32] [] ?_
 repeat refine sq ?_
 refine cl_cond rfl rfl (fun hb => ?_) fun hb => ?_
 ·have hy : y = false := by simpa using hb
  subst hy
  repeat refine sq ?_
  refine rs hΓ [6] [] ?_
  exact rt
 have hy : y = true := by simpa using hb
 subst hy
 repeat refine sq ?_
 refine cl_skip ?_
 refine cl_nil ?_
 simp only [go_sem]
 refine cl_keep [] [] ?_ ?_ <;> simp only [go_sem]
 repeat refine sq ?_
 refine rs hΓ [6] [] ?_
 exact rt
noncomputable def K61 : FuncId → Option Spec := fun f => match f with
 | 39 => some sChk
 | 16 => some sRChk
 | 79 => some sIn
 | 109 => some (pInt isPersB)
 | 110 => some (sLII (fun _ => True) askV false)
 | 86 => some (sLII (fun l => l.length ≤ 60) (fun l lo pe => .sl ((thrL l lo pe).map encD)) false)
 | 105 => some sAns
 | _ => none
theorem K61_sound : ∀ f s, K61 f = some s → SSound Tryz.prog f s := by
 intro f s h
 unfold K61 at h
 split at h
 ·cases h; exact s39'
 ·cases h; exact s16'
 ·cases h; exact s79'
 ·cases h; exact s109.sound
 ·cases h; exact s110.sound
 ·cases h; exact s86.sound
 ·cases h; exact s105.sound
 ·cases h
@[go_sem] theorem K61_39 : K61 39 = some sChk := rfl
@[go_sem] theorem K61_16 : K61 16 = some sRChk := rfl
@[go_sem] theorem K61_79 : K61 79 = some sIn := rfl
@[go_sem] theorem K61_109 : K61 109 = some (pInt isPersB) := rfl
@[go_sem] theorem K61_110 : K61 110 = some (sLII (fun _ => True) askV false) := rfl
@[go_sem] theorem K61_86 : K61 86 = some (sLII (fun l => l.length ≤ 60) (fun l lo pe => .sl ((thrL l lo pe).map encD)) false) := rfl
@[go_sem] theorem K61_105 : K61 105 = some sAns := rfl
theorem thr_len {l : List Deed} (h : okL l) (k lo pe : Int) : (thrL (countL l k) lo pe).length ≤ 60 := by
 have h1 := List.length_filter_le (fun d => isOfB d lo pe) (countL l k)
 have h2 := countL_len l k
 have h3 := h.2.2
 unfold thrL
 omega
theorem thr_kind {l : List Deed} (h : okL l) (k lo pe : Int) : ∀ d ∈ thrL (countL l k) lo pe, kindOk d := fun d hd => kind_of (countL_valid h k d (List.mem_filter.1 hd).1)
def pLI3 (f : List Deed → Int → Int → Int → V) (fl : Bool) : PSpec := ⟨fun xs => ∃ (l : List Deed) (a b c : Int), xs = [.sl (l.map encD), vInt a, vInt b, vInt c], fun xs => match xs with | [.sl l, .int _ a, .int _ b, .int _ c] => f (l.map decD) a b c | _ => .bool false, fl⟩
theorem pLI3_fn (f : List Deed → Int → Int → Int → V) (fl : Bool) (l : List Deed) (a b c : Int) : (pLI3 f fl).fn [.sl (l.map encD), vInt a, vInt b, vInt c] = f l a b c := by
 simp only [pLI3, decD_map]
set_option maxHeartbeats 8000000 in
theorem s48 : PSound Tryz.prog 48 (pLI3 (fun l pe day k => .tup [vInt (inR l pe day k), vInt (inE l pe day k)]) true) := by
 refine psoundB (rs := [.tmp 8, .tmp 9]) Tryz.func48 Tryz.ntmps48 (by rfl) (by kernel_rfl) (by decide) (by rintro _ xs ⟨l, a, b, c, rfl⟩; rw [pLI3_fn]; rfl) ⟨_, rfl, ?_⟩
 rintro xs ⟨l, pe, day, k, rfl⟩ hw
 refine ⟨lb rfl, ?_⟩
 rw [pLI3_fn]
 have hΓ := K61_sound
 have hin := fun (g : Int → Bool) (obj : Name → Option O) (t : Name) => pInt_app (g := g) (obj := obj) (t := t) (n := pe)
 have hask := fun (obj : Name → Option O) (t : Name) (f : List Deed → Int → Int → V) (fl : Bool) => sLII_app (P := fun _ => True) (f := f) (fl := fl) (obj := obj) (t := t) (l := l) (k := day) (j := k) trivial
 have hae := askV_eq l day k
 unfold inR
 repeat refine sq ?_
 refine rs hΓ [0,1,2,3] [] ?_
 repeat refine sq ?_
 refine rx hΓ [0,1,2,3,10] [] (fun K' hK => by simp only [go_sem, sChk_app]; exact fin) ?_
 repeat refine sq ?_
 refine rs hΓ [0,1,2,3,10,16] [] ?_
 repeat refine sq ?_
 refine cl_cond rfl rfl (fun hb => ?_) fun hb => ?_
 ·repeat refine sq ?_
  have hn : ¬ checkI l = 0 := by simpa using hb
  have he : inE l pe day k = checkI l := by unfold inE; rw [if_neg hn]
  rw [he, if_neg hn]
  repeat refine sq ?_
  refine rs hΓ [8,9] [] ?_
  exact rt
 have hz : checkI l = 0 := by simpa using hb
 repeat refine sq ?_
 refine cl_skip ?_
 repeat refine sq ?_
 refine rx hΓ [0,1,2,3,20] [] (fun K' hK => by simp only [go_sem, hin]; exact fin) ?_
 repeat refine sq ?_
 refine cl_cond rfl rfl (fun hb => ?_) fun hb => ?_
 ·repeat refine sq ?_
  have hn : ¬ isPersB pe = true := by simpa using hb
  have he : inE l pe day k = 16 := by unfold inE; rw [if_pos hz, if_neg hn]
  rw [he, if_neg (by decide)]
  repeat refine sq ?_
  refine rs hΓ [8,9] [] ?_
  exact rt
 have hlk : isPersB pe = true := by simpa using hb
 have he : inE l pe day k = askE l day k := by unfold inE; rw [if_pos hz, if_pos hlk]
 rw [he]
 repeat refine sq ?_
 refine cl_skip ?_
 repeat refine sq ?_
 refine rx hΓ [1,2,11,12] [] (fun K' hK => by simp only [go_sem, hask, hae]; exact fin) ?_
 repeat refine sq ?_
 refine rs hΓ [1,2,11,12,29] [] ?_
 repeat refine sq ?_
 refine cl_cond rfl rfl (fun hb => ?_) fun hb => ?_
 ·repeat refine sq ?_
  have hn : ¬ askE l day k = 0 := by simpa using hb
  simp only [if_neg hn]
  repeat refine sq ?_
  refine rs hΓ [8,9] [] ?_
  exact rt
 have hq : askE l day k = 0 := by simpa using hb
 obtain ⟨h3, h4, h5⟩ := askE_ok hq
 have hlen : (countL l k).length ≤ 60 := by have := countL_len l k; have := h3.2.2; omega
 have hth := fun (obj : Name → Option O) (t : Name) (f : List Deed → Int → Int → V) (fl : Bool) (a b : Int) => sLII_app (P := fun l => l.length ≤ 60) (f := f) (fl := fl) (obj := obj) (t := t) (l := countL l k) (k := a) (j := b) hlen
 have hans := fun (obj : Name → Option O) (tm : Name) => sAns_in (obj := obj) (tm := tm) (day := day) (thr_len h3 k 0 pe) (thr_kind h3 k 0 pe)
 simp only [hq, if_true]
 repeat refine sq ?_
 refine cl_skip ?_
 repeat refine sq ?_
 refine rx hΓ [8,9] [] (fun K' hK => by simp only [go_sem, hth, hans, off_may h3 h4 (day_pos h5)]; exact fin) ?_
 exact rt
end Go.Eng
