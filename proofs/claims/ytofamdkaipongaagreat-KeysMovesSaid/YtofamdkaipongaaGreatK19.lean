import Derived.Test.YtofamdkaipongaaGreatK18
/- A part of the proof engine and of the walks (texts KW49 to KW70). -/
set_option linter.all false
set_option linter.unnecessarySimpa false
set_option linter.unusedSimpArgs false
set_option linter.unusedVariables false
set_option linter.constructorNameAsVariable false
namespace Go.Eng
open Go Go.Proofs
set_option maxRecDepth 10000
@[go_sem] theorem ta85 : tAgg Tryz.prog 85 = some (true, 2) := by kernel_rfl
@[go_sem] theorem tp85 : tPlaces Tryz.prog 85 = some [(0, 1), (1, 1)] := by kernel_rfl
@[go_sem] theorem tz85 : tZero Tryz.prog 85 = some (.agg #[(.int .i64 0), (.int .i64 0)]) := by kernel_rfl
@[go_sem] theorem tf85_0 : tField Tryz.prog 85 0 = some (0, 1, false) := by kernel_rfl
@[go_sem] theorem tf85_1 : tField Tryz.prog 85 1 = some (1, 1, false) := by kernel_rfl
@[go_sem] theorem ta132 : tAgg Tryz.prog 132 = some (false, 1) := by kernel_rfl
@[go_sem] theorem te132 : tElem Tryz.prog 132 = some (85, 2, 16) := by kernel_rfl
@[go_sem] theorem tl132 : tLen Tryz.prog 132 = some 0 := by kernel_rfl
@[go_sem] theorem tz132 : tZero Tryz.prog 132 = some (.slice none 0 0) := by kernel_rfl
/-! the reference: the consistent deeds, and a key after a deed -/
noncomputable def evenV (l : List Deed) (k day : Int) : V := if daysI l [k, day] = 0 then contV l k else .tup [.sl [], vInt (daysI l [k, day])]
def pL2 (f : List Deed → Int → Int → V) : PSpec := ⟨fun xs => ∃ (l : List Deed) (a b : Int), xs = [.sl (l.map encD), .sl [vInt a, vInt b]], fun xs => match xs with | [.sl l, .sl [.int _ a, .int _ b]] => f (l.map decD) a b | _ => .bool false, false⟩
theorem pL2_fn (f : List Deed → Int → Int → V) (l : List Deed) (a b : Int) : (pL2 f).fn [.sl (l.map encD), .sl [vInt a, vInt b]] = f l a b := by
  simp only [pL2, decD_map]
set_option maxHeartbeats 4000000 in
theorem s112 : PSound Tryz.prog 112 (pL2 evenV) := by
  refine psoundB (rs := [.tmp 4, .tmp 5]) Tryz.func112 Tryz.ntmps112 (by rfl) (by kernel_rfl) (by decide) (fun h => by cases h) ⟨_, rfl, ?_⟩
  rintro xs ⟨l, k, day, rfl⟩ hw
  refine ⟨Nat.le_of_ble_eq_true rfl, ?_⟩
  rw [pL2_fn]
  have hΓ := K35_sound
  repeat refine cl_seq ?_
  refine cl_rs hΓ [0,1] [] fun K' hK => ?_
  simp only [go_sem]
  repeat (refine ⟨ob, ?_⟩)
  refine hK _ ?_ ?_ <;> clear K' hK <;> simp only [go_sem]
  repeat refine cl_seq ?_
  refine cl_rs hΓ [0,1,6] [] fun K' hK => ?_
  simp only [go_sem, sDaysI_two]
  repeat (refine ⟨ob, ?_⟩)
  refine hK _ ?_ ?_ <;> clear K' hK <;> simp only [go_sem, sDaysI_two]
  repeat refine cl_seq ?_
  refine cl_rs hΓ [0,1,6,14] [] fun K' hK => ?_
  simp only [go_sem]
  repeat (refine ⟨ob, ?_⟩)
  refine hK _ ?_ ?_ <;> clear K' hK <;> simp only [go_sem]
  repeat refine cl_seq ?_
  refine cl_cond rfl rfl (fun hb => ?_) (fun hb => ?_)
  · repeat refine cl_seq ?_
    have hn : ¬ daysI l [k, day] = 0 := by simpa using hb
    repeat refine cl_seq ?_
    refine cl_rs hΓ [4,5] [] fun K' hK => ?_
    simp only [go_sem]
    repeat (refine ⟨ob, ?_⟩)
    refine hK _ ?_ ?_ <;> clear K' hK <;> simp only [go_sem]
    refine cl_ret ?_
    simp only [go_sem]
    unfold evenV; rw [if_neg hn]
  have hz : daysI l [k, day] = 0 := by simpa using hb
  have hok := days_ok hz
  clear hb
  repeat refine cl_seq ?_
  refine cl_skip ?_
  have hc := fun (obj : Name → Option O) (t : Name) (f : List Deed → Int → V) (fl : Bool) => sLI_app (P := okL) (f := f) (fl := fl) (obj := obj) (t := t) (k := k) hok
  have hf := fun (obj : Name → Option O) (t : Name) (f : List Deed → V) (c : List Deed) => sL_app (P := fun _ => True) (f := f) (obj := obj) (t := t) (l := c) trivial
  repeat refine cl_seq ?_
  refine cl_rs hΓ [7] [] fun K' hK => ?_
  simp only [go_sem, hc, Int.toNat_zero, List.getD_cons_zero, Int.le_refl, List.length_cons, List.length_nil, te39, Int.toNat_natCast]
  repeat (refine ⟨ob, ?_⟩)
  refine hK _ ?_ ?_ <;> clear K' hK <;> simp only [go_sem, hc, Int.toNat_zero, List.getD_cons_zero, Int.le_refl, List.length_cons, List.length_nil, te39, Int.toNat_natCast]
  repeat refine cl_seq ?_
  refine cl_rs hΓ [7,9] [] fun K' hK => ?_
  simp only [go_sem, hf, clashV_eq, tz23, Nat.reduceLeDiff, Nat.le_refl]
  repeat (refine ⟨ob, ?_⟩)
  refine hK _ ?_ ?_ <;> clear K' hK <;> simp only [go_sem, hf, clashV_eq, tz23, Nat.reduceLeDiff, Nat.le_refl]
  repeat refine cl_seq ?_
  refine cl_rs hΓ [7,26] [] fun K' hK => ?_
  simp only [go_sem]
  repeat (refine ⟨ob, ?_⟩)
  refine hK _ ?_ ?_ <;> clear K' hK <;> simp only [go_sem]
  repeat refine cl_seq ?_
  refine cl_cond rfl rfl (fun hb => ?_) (fun hb => ?_)
  · repeat refine cl_seq ?_
    have hcf : (confP (countL l k)).isSome = true := by rw [confP_some hok]; exact hb
    repeat refine cl_seq ?_
    refine cl_rs hΓ [4,5] [] fun K' hK => ?_
    simp only [go_sem]
    repeat (refine ⟨ob, ?_⟩)
    refine hK _ ?_ ?_ <;> clear K' hK <;> simp only [go_sem]
    refine cl_ret ?_
    simp only [go_sem]
    unfold evenV contV; rw [if_pos hz, if_pos hcf]
  · repeat refine cl_seq ?_
    have hcf : ¬ (confP (countL l k)).isSome = true := by rw [confP_some hok, hb]; decide
    refine cl_skip ?_
    repeat refine cl_seq ?_
    refine cl_rs hΓ [4,5] [] fun K' hK => ?_
    simp only [go_sem]
    repeat (refine ⟨ob, ?_⟩)
    refine hK _ ?_ ?_ <;> clear K' hK <;> simp only [go_sem]
    refine cl_ret ?_
    simp only [go_sem]
    unfold evenV contV; rw [if_pos hz, if_neg hcf]
def encK (k : Int × Int) : V := .agg [vInt k.1, vInt k.2]
def keyA (k : Int × Int) (d : Deed) : Int × Int := if d.ki = 3 then (d.pe, d.pe) else if d.ki = 4 then (if k.1 = 0 then k else (k.1, d.pe)) else if d.ki = 5 then (k.1, k.1) else if d.ki = 6 then (0, 0) else k
def pKD (f : Int × Int → Deed → V) : PSpec := ⟨fun xs => ∃ k d, xs = [encK k, encD d], fun xs => match xs with | [.agg [.int _ a, .int _ b], x] => f (a, b) (decD x) | _ => .bool false, true⟩
theorem pKD_fn (f : Int × Int → Deed → V) (k : Int × Int) (d : Deed) : (pKD f).fn [encK k, encD d] = f k d := by
  simp only [pKD, encK, decD_enc]
set_option maxHeartbeats 4000000 in
theorem s124 : PSound Tryz.prog 124 (pKD fun k d => encK (keyA k d)) := by
  refine psoundB (rs := [.cell 4 85]) Tryz.func124 Tryz.ntmps124 (by rfl) (by kernel_rfl) (by decide) (by rintro _ xs ⟨k, d, rfl⟩; rfl) ⟨_, rfl, ?_⟩
  rintro xs ⟨⟨h, n⟩, d, rfl⟩ hw
  refine ⟨Nat.le_of_ble_eq_true rfl, ?_⟩
  rw [pKD_fn]
  have hΓ := K0n_sound
  have kdef : keyA (h, n) d = if d.ki = 3 then (d.pe, d.pe) else if d.ki = 4 then (if h = 0 then (h, n) else (h, d.pe)) else if d.ki = 5 then (h, h) else if d.ki = 6 then (0, 0) else (h, n) := rfl
  generalize keyA (h, n) d = kk at kdef
  obtain ⟨pa, no, ki, lo, pe, dl, dh, kn, un⟩ := d
  simp only [encK, encD] at kdef ⊢
  repeat refine cl_seq ?_
  refine cl_rs hΓ [2,3,4] [[2, 0],[3, 0],[4, 0]] fun K' hK => ?_
  simp only [go_sem, tz85]
  repeat (refine ⟨ob, ?_⟩)
  refine hK _ ?_ ?_ <;> clear K' hK <;> simp only [go_sem, tz85]
  repeat refine cl_seq ?_
  refine cl_rs hΓ [2,3,4,6] [[2, 0],[3, 0],[4, 0]] fun K' hK => ?_
  simp only [go_sem]
  repeat (refine ⟨ob, ?_⟩)
  refine hK _ ?_ ?_ <;> clear K' hK <;> simp only [go_sem]
  repeat refine cl_seq ?_
  refine cl_block ?_
  repeat refine cl_seq ?_
  repeat refine cl_seq ?_
  refine cl_rs hΓ [2,3,4,6,7] [[2, 0],[3, 0],[4, 0]] fun K' hK => ?_
  simp only [go_sem]
  repeat (refine ⟨ob, ?_⟩)
  refine hK _ ?_ ?_ <;> clear K' hK <;> simp only [go_sem]
  repeat refine cl_seq ?_
  refine cl_cond rfl rfl (fun hb => ?_) (fun hb => ?_)
  · have h1 : ki = 3 := by simpa using hb
    rw [if_pos h1] at kdef
    repeat refine cl_seq ?_
    repeat refine cl_seq ?_
    refine cl_rs hΓ [4] [[4, 0]] fun K' hK => ?_
    simp only [go_sem, tz85, tp85, Nat.reduceLeDiff, Nat.le_refl]
    repeat (refine ⟨ob, ?_⟩)
    refine hK _ ?_ ?_ <;> clear K' hK <;> simp only [go_sem, tz85, tp85, Nat.reduceLeDiff, Nat.le_refl]
    refine cl_ret ?_
    simp only [go_sem]
    subst kdef
    all_goals first | done | rfl | exact ⟨by decide, rfl⟩ | exact ⟨by decide, trivial⟩ | decide
  have h1 : ¬ ki = 3 := by simpa using hb
  rw [if_neg h1] at kdef
  repeat refine cl_seq ?_
  repeat refine cl_seq ?_
  refine cl_rs hΓ [2,3,4,6,14] [[2, 0],[3, 0],[4, 0]] fun K' hK => ?_
  simp only [go_sem]
  repeat (refine ⟨ob, ?_⟩)
  refine hK _ ?_ ?_ <;> clear K' hK <;> simp only [go_sem]
  repeat refine cl_seq ?_
  refine cl_cond rfl rfl (fun hb => ?_) (fun hb => ?_)
  · have h2 : ki = 4 := by simpa using hb
    rw [if_pos h2] at kdef
    repeat refine cl_seq ?_
    repeat refine cl_seq ?_
    refine cl_rs hΓ [2,3,4,18] [[2, 0],[3, 0],[4, 0]] fun K' hK => ?_
    simp only [go_sem]
    repeat (refine ⟨ob, ?_⟩)
    refine hK _ ?_ ?_ <;> clear K' hK <;> simp only [go_sem]
    repeat refine cl_seq ?_
    refine cl_cond rfl rfl (fun hb => ?_) (fun hb => ?_)
    · have h3 : ¬ h = 0 := by simpa using hb
      rw [if_neg h3] at kdef
      repeat refine cl_seq ?_
      repeat refine cl_seq ?_
      refine cl_r hΓ fun K' hK => ?_
      simp only [go_sem]
      repeat (refine ⟨ob, ?_⟩)
      refine hK _ ?_
      clear K' hK
      simp only [go_sem]
      refine cl_keep [2,4] [[2, 0],[4, 0]] ?_ ?_
      · simp only [go_sem]
      simp only [go_sem]
      repeat refine cl_seq ?_
      refine cl_rs hΓ [4] [[4, 0]] fun K' hK => ?_
      simp only [go_sem, tz85, tp85, Nat.reduceLeDiff, Nat.le_refl]
      repeat (refine ⟨ob, ?_⟩)
      refine hK _ ?_ ?_ <;> clear K' hK <;> simp only [go_sem, tz85, tp85, Nat.reduceLeDiff, Nat.le_refl]
      refine cl_ret ?_
      simp only [go_sem]
      subst kdef
      all_goals first | done | rfl | exact ⟨by decide, rfl⟩ | exact ⟨by decide, trivial⟩ | decide
    · have h3 : h = 0 := by simpa using hb
      rw [if_pos h3] at kdef
      repeat refine cl_seq ?_
      refine cl_skip ?_
      refine cl_nil ?_
      simp only [go_sem]
      refine cl_keep [2,4] [[2, 0],[4, 0]] ?_ ?_
      · simp only [go_sem]
      simp only [go_sem]
      repeat refine cl_seq ?_
      refine cl_rs hΓ [4] [[4, 0]] fun K' hK => ?_
      simp only [go_sem, tz85, tp85, Nat.reduceLeDiff, Nat.le_refl]
      repeat (refine ⟨ob, ?_⟩)
      refine hK _ ?_ ?_ <;> clear K' hK <;> simp only [go_sem, tz85, tp85, Nat.reduceLeDiff, Nat.le_refl]
      refine cl_ret ?_
      simp only [go_sem]
      subst kdef
      all_goals first | done | rfl | exact ⟨by decide, rfl⟩ | exact ⟨by decide, trivial⟩ | decide
  have h2 : ¬ ki = 4 := by simpa using hb
  rw [if_neg h2] at kdef
  repeat refine cl_seq ?_
  repeat refine cl_seq ?_
  refine cl_rs hΓ [2,4,6,22] [[2, 0],[4, 0]] fun K' hK => ?_
  simp only [go_sem]
  repeat (refine ⟨ob, ?_⟩)
  refine hK _ ?_ ?_ <;> clear K' hK <;> simp only [go_sem]
  repeat refine cl_seq ?_
  refine cl_cond rfl rfl (fun hb => ?_) (fun hb => ?_)
  · have h3 : ki = 5 := by simpa using hb
    rw [if_pos h3] at kdef
    repeat refine cl_seq ?_
    repeat refine cl_seq ?_
    refine cl_r hΓ fun K' hK => ?_
    simp only [go_sem]
    repeat (refine ⟨ob, ?_⟩)
    refine hK _ ?_
    clear K' hK
    simp only [go_sem]
    refine cl_keep [2,4] [[2, 0],[4, 0]] ?_ ?_
    · simp only [go_sem]
    simp only [go_sem]
    repeat refine cl_seq ?_
    refine cl_rs hΓ [4] [[4, 0]] fun K' hK => ?_
    simp only [go_sem, tz85, tp85, Nat.reduceLeDiff, Nat.le_refl]
    repeat (refine ⟨ob, ?_⟩)
    refine hK _ ?_ ?_ <;> clear K' hK <;> simp only [go_sem, tz85, tp85, Nat.reduceLeDiff, Nat.le_refl]
    refine cl_ret ?_
    simp only [go_sem]
    subst kdef
    all_goals first | done | rfl | exact ⟨by decide, rfl⟩ | exact ⟨by decide, trivial⟩ | decide
  have h3 : ¬ ki = 5 := by simpa using hb
  rw [if_neg h3] at kdef
  repeat refine cl_seq ?_
  repeat refine cl_seq ?_
  refine cl_rs hΓ [2,4,27] [[2, 0],[4, 0]] fun K' hK => ?_
  simp only [go_sem]
  repeat (refine ⟨ob, ?_⟩)
  refine hK _ ?_ ?_ <;> clear K' hK <;> simp only [go_sem]
  repeat refine cl_seq ?_
  refine cl_cond rfl rfl (fun hb => ?_) (fun hb => ?_)
  · have h4 : ki = 6 := by simpa using hb
    rw [if_pos h4] at kdef
    repeat refine cl_seq ?_
    repeat refine cl_seq ?_
    refine cl_rs hΓ [4] [[4, 0]] fun K' hK => ?_
    simp only [go_sem, tz85, tp85, Nat.reduceLeDiff, Nat.le_refl]
    repeat (refine ⟨ob, ?_⟩)
    refine hK _ ?_ ?_ <;> clear K' hK <;> simp only [go_sem, tz85, tp85, Nat.reduceLeDiff, Nat.le_refl]
    refine cl_ret ?_
    simp only [go_sem]
    subst kdef
    all_goals first | done | rfl | exact ⟨by decide, rfl⟩ | exact ⟨by decide, trivial⟩ | decide
  · have h4 : ¬ ki = 6 := by simpa using hb
    rw [if_neg h4] at kdef
    repeat refine cl_seq ?_
    refine cl_skip ?_
    refine cl_nil ?_
    simp only [go_sem]
    refine cl_keep [2,4] [[2, 0],[4, 0]] ?_ ?_
    · simp only [go_sem]
    simp only [go_sem]
    repeat refine cl_seq ?_
    refine cl_rs hΓ [4] [[4, 0]] fun K' hK => ?_
    simp only [go_sem, tz85, tp85, Nat.reduceLeDiff, Nat.le_refl]
    repeat (refine ⟨ob, ?_⟩)
    refine hK _ ?_ ?_ <;> clear K' hK <;> simp only [go_sem, tz85, tp85, Nat.reduceLeDiff, Nat.le_refl]
    refine cl_ret ?_
    simp only [go_sem]
    subst kdef
    all_goals first | done | rfl | exact ⟨by decide, rfl⟩ | exact ⟨by decide, trivial⟩ | decide
end Go.Eng
namespace Go.Eng
open Go Go.Proofs
set_option maxRecDepth 10000
/-! the reference: what is of a lock's thread, and of an office -/
def idxF (p : Deed → Bool) : Nat → List Deed → List Nat
  | _, [] => []
  | n, d :: r => if p d then n :: idxF p (n + 1) r else idxF p (n + 1) r
theorem idxF_append (p : Deed → Bool) : ∀ (a b : List Deed) (n : Nat), idxF p n (a ++ b) = idxF p n a ++ idxF p (n + a.length) b
  | [], b, n => rfl
  | d :: r, b, n => by
    have ih := idxF_append p r b (n + 1)
    have e : n + 1 + r.length = n + (r.length + 1) := by omega
    rw [e] at ih
    simp only [List.cons_append, idxF, List.length_cons]
    split
    · rw [ih]; rfl
    · exact ih
theorem idxF_next {p : Deed → Bool} {c : List Deed} {i : Nat} (h : i < c.length) : idxF p 0 (c.take (i + 1)) = if p c[i] then idxF p 0 (c.take i) ++ [i] else idxF p 0 (c.take i) := by
  rw [List.take_add_one, List.getElem?_eq_getElem h, idxF_append]
  simp only [Option.toList_some, idxF, List.length_take, Nat.zero_add, Nat.min_eq_left (Nat.le_of_lt h)]
  split <;> simp
theorem idxF_len (p : Deed → Bool) : ∀ (c : List Deed) (n : Nat), (idxF p n c).length ≤ c.length
  | [], n => Nat.le_refl _
  | d :: r, n => by
    have := idxF_len p r (n + 1)
    simp only [idxF, List.length_cons]
    split
    · simp only [List.length_cons]; omega
    · omega
theorem idxF_lt (p : Deed → Bool) : ∀ (c : List Deed) (n : Nat), ∀ i ∈ idxF p n c, n ≤ i ∧ i < n + c.length
  | [], n, i, h => by simp [idxF] at h
  | d :: r, n, i, h => by
    have ih := idxF_lt p r (n + 1) i
    simp only [idxF] at h
    simp only [List.length_cons]
    split at h
    · rcases List.mem_cons.1 h with rfl | h
      · omega
      · have := ih h; omega
    · have := ih h; omega
theorem idxF_filter (p : Deed → Bool) (z : Deed) : ∀ (c a : List Deed), (idxF p a.length c).map (fun i => (a ++ c).getD i z) = c.filter p
  | [], a => rfl
  | d :: r, a => by
    have ih := idxF_filter p z r (a ++ [d])
    simp only [List.length_append, List.length_singleton, List.append_assoc, List.singleton_append] at ih
    simp only [idxF, List.filter_cons]
    split
    · rw [List.map_cons, ih]
      congr 1
      simp [List.getD_eq_getElem?_getD]
    · exact ih
def thrB (lock : Int) (d : Deed) : Bool := !offB d.ki && d.lo == lock
def vNat (n : Nat) : V := vInt n
def thrV (c : List Deed) (lock : Int) : V := .sl ((idxF (thrB lock) 0 c).map vNat)
set_option maxHeartbeats 4000000 in
theorem s123 : PSound Tryz.prog 123 (pLI (fun c => c.length ≤ 60) thrV false) := by
  refine psoundB (rs := [.tmp 4]) Tryz.func123 Tryz.ntmps123 (by rfl) (by kernel_rfl) (by decide) (fun h => by cases h) ⟨_, rfl, ?_⟩
  rintro xs ⟨l, k, rfl, hl60⟩ hw
  have hl : l.length ≤ maxLen := by unfold maxLen; omega
  refine ⟨Nat.le_of_ble_eq_true rfl, ?_⟩
  rw [pLI_fn]
  unfold thrV
  have hΓ := K32_sound
  have hin := fun (obj : Name → Option O) (t : Name) (n : Int) => pInt_app (g := offB) (obj := obj) (t := t) (n := n)
  repeat refine cl_seq ?_
  refine cl_rs hΓ [0,1] [] fun K' hK => ?_
  simp only [go_sem]
  repeat (refine ⟨ob, ?_⟩)
  refine hK _ ?_ ?_ <;> clear K' hK <;> simp only [go_sem]
  repeat refine cl_seq ?_
  refine cl_rs hΓ [0,1,5] [] fun K' hK => ?_
  simp only [go_sem]
  repeat (refine ⟨ob, ?_⟩)
  refine hK _ ?_ ?_ <;> clear K' hK <;> simp only [go_sem]
  refine cl_weakM (σ' := mkS 31 [0] (fun _ => none) [(0, ⟨true, .v (.sl (l.map encD))⟩), (1, ⟨true, .v (vInt k)⟩), (5, ⟨true, .msl [28, 0] 0⟩)] [([28, 0], .arr 1 [])]) (weakM_ghostk 5 [28, 0] 1 (by simp only [go_sem]) (by simp only [go_sem]) [0, 1, 5] [[28, 0]] ?_ ?_) ?_
  · simp only [go_sem]
  · simp only [go_sem]
  repeat refine cl_seq ?_
  refine cl_rs hΓ [1,5,8,9,10] [[28, 0]] fun K' hK => ?_
  simp only [go_sem]
  repeat (refine ⟨ob, ?_⟩)
  refine hK _ ?_ ?_ <;> clear K' hK <;> simp only [go_sem]
  repeat refine cl_seq ?_
  refine cl_block ?_
  repeat refine cl_seq ?_
  refine cl_loop' (fun s : Nat => [(5, ⟨true, .msl [28, 0] (idxF (thrB k) 0 (l.take s)).length⟩), (10, ⟨true, .v (vInt s)⟩)]) (fun s => [([28, 0], .arr 1 ((idxF (thrB k) 0 (l.take s)).map vNat))]) (fun s => s ≤ l.length) (fun s => l.length - s) 0 ?_ ?_ ?_ ?_
  · exact Nat.zero_le _
  · rfl
  · rfl
  rintro i hi
  simp only [go_sem]
  repeat refine cl_seq ?_
  repeat refine cl_seq ?_
  refine cl_rs hΓ [1,5,8,9,10,11] [[28, 0]] fun K' hK => ?_
  simp only [go_sem]
  repeat (refine ⟨ob, ?_⟩)
  refine hK _ ?_ ?_ <;> clear K' hK <;> simp only [go_sem]
  repeat refine cl_seq ?_
  refine cl_cond rfl rfl (fun hb => ?_) (fun hb => ?_)
  · have hlt : i < l.length := by simpa using hb
    have hlt' : (i : Int) < l.length := by omega
    clear hb
    repeat refine cl_seq ?_
    refine cl_skip ?_
    repeat refine cl_seq ?_
    refine cl_block ?_
    repeat refine cl_seq ?_
    have hcl : (idxF (thrB k) 0 (l.take i)).length ≤ 60 := by
      have := idxF_len (thrB k) (l.take i) 0
      simp at this
      omega
    have hn := idxF_next (p := thrB k) hlt
    repeat refine cl_seq ?_
    refine cl_rs hΓ [1,5,6,7,8,9,10] [[7, 0], [28, 0]] fun K' hK => ?_
    simp only [go_sem, map_getD hlt, Int.toNat_natCast, Int.natCast_nonneg, hlt']
    repeat (refine ⟨ob, ?_⟩)
    refine hK _ ?_ ?_ <;> clear K' hK <;> simp only [go_sem, map_getD hlt, Int.toNat_natCast, Int.natCast_nonneg, hlt']
    have hbr : (if (!offB l[i].ki) = true then (l[i].lo == k) else false) = thrB k l[i] := by unfold thrB; cases offB l[i].ki <;> rfl
    repeat refine cl_seq ?_
    refine cl_rs hΓ [1,5,6,8,9,10,24] [[28, 0]] fun K' hK => ?_
    simp only [go_sem, hin, hbr]
    repeat (refine ⟨ob, ?_⟩)
    refine hK _ ?_ ?_ <;> clear K' hK <;> simp only [go_sem, hin, hbr]
    repeat refine cl_seq ?_
    refine cl_cond rfl rfl (fun hb => ?_) (fun hb => ?_)
    · repeat refine cl_seq ?_
      refine cl_r hΓ fun K' hK => ?_
      simp only [go_sem, te39, tz3]
      repeat' apply And.intro
      all_goals first | rfl | omega | exact Int.le_refl _ | exact Bool.or_not_self _ | exact Bool.not_or_self _ | exact enc_okI _ | exact enc_ok _ | exact fun x hx => (enc_okI _ x hx).1 | exact fun x hx => (enc_ok _ x hx).1 | (simp only [List.length_take, List.length_append, List.length_map, List.length_drop, List.length_cons, List.length_nil]; done) | (simp only [List.length_take, List.length_append, List.length_map, List.length_drop, List.length_cons, List.length_nil]; omega) | (simp only [List.length_take, List.length_append, List.length_map, List.length_drop, List.length_cons, List.length_nil, maxLen]; omega) | (exact fun _ => by decide) | (exact fun h => ⟨h, by decide⟩) | (simp only [decide_eq_true_eq]; omega) | skip
      refine hK _ ?_
      clear K' hK
      simp only [go_sem]
      refine cl_keep [1,5,8,9,10] [[28, 0]] ?_ ?_
      · simp only [go_sem]
      simp only [go_sem]
      repeat refine cl_seq ?_
      refine cl_r hΓ fun K' hK => ?_
      simp only [go_sem]
      repeat (refine ⟨ob, ?_⟩)
      refine hK _ ?_
      clear K' hK
      simp only [go_sem]
      refine ⟨i + 1, hlt, (show l.length - (i + 1) < l.length - i by omega), ?_⟩
      rw [hn, if_pos hb]
      refine weak_eq [1,5,8,9,10] [[28, 0]] ?_ ?_
      · simp only [go_sem]
      · simp only [go_sem, wrap_succ hlt hl, Int.natCast_add, Int.natCast_one]
        all_goals simp [vNat]
    · repeat refine cl_seq ?_
      refine cl_skip ?_
      refine cl_nil ?_
      simp only [go_sem]
      refine cl_keep [1,5,8,9,10] [[28, 0]] ?_ ?_
      · simp only [go_sem]
      simp only [go_sem]
      repeat refine cl_seq ?_
      refine cl_r hΓ fun K' hK => ?_
      simp only [go_sem]
      repeat (refine ⟨ob, ?_⟩)
      refine hK _ ?_
      clear K' hK
      simp only [go_sem]
      refine ⟨i + 1, hlt, (show l.length - (i + 1) < l.length - i by omega), ?_⟩
      rw [hn, if_neg (by simp [hb])]
      refine weak_eq [1,5,8,9,10] [[28, 0]] ?_ ?_
      · simp only [go_sem, wrap_succ hlt hl, Int.natCast_add, Int.natCast_one]
      · simp only [go_sem, wrap_succ hlt hl, Int.natCast_add, Int.natCast_one]
  · have hge : i = l.length := by
      have : ¬ (i : Int) < l.length := by simpa using hb
      omega
    subst hge
    clear hb
    repeat refine cl_seq ?_
    refine cl_exit ?_
    simp only [go_sem]
    refine cl_keep [5] [[28, 0]] ?_ ?_
    · simp only [go_sem]
    simp only [go_sem]
    rw [List.take_length]
    repeat refine cl_seq ?_
    refine cl_rs hΓ [4] [[28, 0]] fun K' hK => ?_
    simp only [go_sem]
    repeat (refine ⟨ob, ?_⟩)
    refine hK _ ?_ ?_ <;> clear K' hK <;> simp only [go_sem]
    refine cl_ret ?_
    simp only [go_sem]
end Go.Eng
namespace Go.Eng
open Go Go.Proofs
set_option maxRecDepth 10000
/-! the reference: whether just the first deeds may have happened -/
def canB (days : List (Int × Int)) (th : List Nat) (n : Nat) (day : Int) : Bool :=
  (n == 0 || decide ((days.getD (th.getD (n - 1) 0) (0, 0)).1 ≤ day)) && (n == th.length || decide ((days.getD (th.getD n 0) (0, 0)).2 > day))
def decN (v : V) : Nat := match v with | .int _ n => n.toNat | _ => 0
theorem decN_map (l : List Nat) : (l.map vNat).map decN = l := by
  rw [List.map_map]
  have : (decN ∘ vNat) = id := by funext n; simp [decN, vNat]
  rw [this, List.map_id]
def pCan : PSpec := ⟨fun xs => ∃ (days : List (Int × Int)) (th : List Nat) (n : Nat) (day : Int), xs = [.sl (days.map vIt), .sl (th.map vNat), .agg [vInt n, vInt day]] ∧ n ≤ th.length ∧ ∀ i ∈ th, i < days.length,
  fun xs => match xs with | [.sl days, .sl th, .agg [.int _ n, .int _ day]] => .bool (canB (days.map decIt) (th.map decN) n.toNat day) | _ => .bool false, true⟩
theorem pCan_fn (days : List (Int × Int)) (th : List Nat) (n : Nat) (day : Int) : pCan.fn [.sl (days.map vIt), .sl (th.map vNat), .agg [vInt n, vInt day]] = .bool (canB days th n day) := by
  simp only [pCan, decIt_map, decN_map, Int.toNat_natCast]
set_option maxHeartbeats 8000000 in
theorem s154 : PSound Tryz.prog 154 pCan := by
  refine psoundB (rs := [.tmp 6]) Tryz.func154 Tryz.ntmps154 (by rfl) (by kernel_rfl) (by decide) (by rintro _ xs ⟨days, th, n, day, rfl, _⟩; rw [pCan_fn]; rfl) ⟨_, rfl, ?_⟩
  rintro xs ⟨days, th, n, day, rfl, hn, hth⟩ hw
  have hl : th.length ≤ maxLen := by have := hw.2.1.1; simpa using this
  refine ⟨Nat.le_of_ble_eq_true rfl, ?_⟩
  rw [pCan_fn]
  have hΓ := K0n_sound
  have hP := mixedK
  repeat refine cl_seq ?_
  refine cl_rs hΓ [0,1,5] [[5, 0]] fun K' hK => ?_
  simp only [go_sem]
  repeat (refine ⟨ob, ?_⟩)
  refine hK _ ?_ ?_ <;> clear K' hK <;> simp only [go_sem]
  have hend : (n = 0 ∨ (days.getD (th.getD (n - 1) 0) (0, 0)).1 ≤ day) → canB days th n day = (n == th.length || decide ((days.getD (th.getD n 0) (0, 0)).2 > day)) := by
    intro h
    unfold canB
    rcases h with h | h
    · simp [h]
    · rw [decide_eq_true h]; simp
  by_cases h0 : n = 0
  · have e0 : decide ((n : Int) > 0) = false := by simp [h0]
    repeat refine cl_seq ?_
    refine cl_ds hΓ hP [[], [0], [0, 1], [0, 1, 2], [0, 1, 2, 3], [0, 1, 2, 3], [0, 1, 2, 3], [0, 1, 2, 3, 6], [0, 1, 2, 3, 6, 7], [0, 1, 2, 3, 5, 6, 7, 8], [0, 1, 2, 3, 5, 6, 7, 8, 9], [0, 1, 2, 3, 4, 5, 6, 7, 8, 9, 10], [0, 1, 2, 3, 4, 5, 6, 7, 8, 9, 10, 11], [0, 1, 2, 3, 4, 5, 6, 7, 8, 9, 10, 11, 12], [0, 1, 2, 3], [0, 1, 2, 3, 14], [0, 1, 2, 3, 4, 5, 6, 7, 8, 9, 10, 11, 12, 13, 14, 15], [0, 1, 2, 3, 4, 5, 6, 7, 8, 9, 10, 11, 12, 13, 14, 15, 16]] [0,1,5,24] [[5, 0]] (by kernel_rfl) fun K' hK => ?_
    simp only [go_sem, e0]
    repeat (refine ⟨ob, ?_⟩)
    first | refine ⟨by rfl, ?_⟩ | skip
    refine hK _ ?_ ?_ <;> clear K' hK <;> simp only [go_sem, e0]
    repeat refine cl_seq ?_
    refine cl_cond rfl rfl (fun hb => ?_) (fun hb => ?_)
    · cases hb
    repeat refine cl_seq ?_
    refine cl_skip ?_
    have e9 := hend (.inl h0)
    by_cases h1 : n = th.length
    · have e2 : ((n : Int) == (th.length : Int)) = true := by simp [h1]
      have e3 : canB days th n day = true := by rw [e9]; simp [h1]
      rw [e3]
      repeat refine cl_seq ?_
      refine cl_ds hΓ hP [[], [0], [], [2], [0, 1, 2, 3], [0, 1, 2, 3, 4], [0, 1, 2, 3, 4, 5], [0, 1, 2, 3, 4, 5], [0, 1, 2, 3, 4, 5], [0, 1, 2, 3, 4, 5, 8], [0, 1, 2, 3, 4, 5, 7, 8, 9], [0, 1, 2, 3, 4, 5, 7, 8, 9, 10], [0, 1, 2, 3, 4, 5, 6, 7, 8, 9, 10, 11], [0, 1, 2, 3, 4, 5, 6, 7, 8, 9, 10, 11, 12], [0, 1, 2, 3, 4, 5, 6, 7, 8, 9, 10, 11, 12, 13], [0, 1, 2, 3, 4, 5], [0, 1, 2, 3, 4, 5, 15], [0, 1, 2, 3, 4, 5, 6, 7, 8, 9, 10, 11, 12, 13, 14, 15, 16], [0, 1, 2, 3, 4, 5, 6, 7, 8, 9, 10, 11, 12, 13, 14, 15, 16, 17], [0, 1, 2, 3, 4, 5, 6, 7, 8, 9, 10, 11, 12, 13, 14, 15, 16, 17, 18]] [6] [] (by kernel_rfl) fun K' hK => ?_
      simp only [go_sem, e2]
      repeat (refine ⟨ob, ?_⟩)
      first | refine ⟨by rfl, ?_⟩ | skip
      refine hK _ ?_ ?_ <;> clear K' hK <;> simp only [go_sem, e2]
      refine cl_ret ?_
      simp only [go_sem]
    · have e2 : ((n : Int) == (th.length : Int)) = false := by simpa using fun h => h1 (by omega)
      have hlt : n < th.length := by omega
      have hlt' : (n : Int) < th.length := by omega
      have hm : th[n] < days.length := hth _ (List.getElem_mem hlt)
      have hm' : (th[n] : Int) < days.length := by omega
      have e4 : canB days th n day = decide (days[th[n]].2 > day) := by rw [e9]; simp [h1, List.getD_eq_getElem?_getD, hlt, hm]
      rw [e4]
      repeat refine cl_seq ?_
      refine cl_ds hΓ hP [[], [0], [], [2], [0, 1, 2, 3], [0, 1, 2, 3, 4], [0, 1, 2, 3, 4, 5], [0, 1, 2, 3, 4, 5], [0, 1, 2, 3, 4, 5], [0, 1, 2, 3, 4, 5, 8], [0, 1, 2, 3, 4, 5, 7, 8, 9], [0, 1, 2, 3, 4, 5, 7, 8, 9, 10], [0, 1, 2, 3, 4, 5, 6, 7, 8, 9, 10, 11], [0, 1, 2, 3, 4, 5, 6, 7, 8, 9, 10, 11, 12], [0, 1, 2, 3, 4, 5, 6, 7, 8, 9, 10, 11, 12, 13], [0, 1, 2, 3, 4, 5], [0, 1, 2, 3, 4, 5, 15], [0, 1, 2, 3, 4, 5, 6, 7, 8, 9, 10, 11, 12, 13, 14, 15, 16], [0, 1, 2, 3, 4, 5, 6, 7, 8, 9, 10, 11, 12, 13, 14, 15, 16, 17], [0, 1, 2, 3, 4, 5, 6, 7, 8, 9, 10, 11, 12, 13, 14, 15, 16, 17, 18]] [6] [] (by kernel_rfl) fun K' hK => ?_
      simp only [go_sem, e2, map_getD hlt, vNat, map_getD hm, vIt, Int.toNat_natCast, Int.natCast_nonneg, hlt', hm', te39, te146, Int.reduceToNat, List.getD_cons_succ, List.getD_cons_zero]
      repeat (refine ⟨ob, ?_⟩)
      first | refine ⟨by rfl, ?_⟩ | skip
      refine hK _ ?_ ?_ <;> clear K' hK <;> simp only [go_sem, e2, map_getD hlt, vNat, map_getD hm, vIt, Int.toNat_natCast, Int.natCast_nonneg, hlt', hm', te39, te146, Int.reduceToNat, List.getD_cons_succ, List.getD_cons_zero]
      refine cl_ret ?_
      simp only [go_sem]
  · have e0 : decide ((n : Int) > 0) = true := by simp; omega
    have hlt0 : n - 1 < th.length := by omega
    have hlt0' : ((n - 1 : Nat) : Int) < th.length := by omega
    have hm : th[n - 1] < days.length := hth _ (List.getElem_mem hlt0)
    have hm' : (th[n - 1] : Int) < days.length := by omega
    have hd : (days.getD (th.getD (n - 1) 0) (0, 0)).1 = days[th[n - 1]].1 := by simp [List.getD_eq_getElem?_getD, hlt0, hm]
    repeat refine cl_seq ?_
    refine cl_ds hΓ hP [[], [0], [0, 1], [0, 1, 2], [0, 1, 2, 3], [0, 1, 2, 3], [0, 1, 2, 3], [0, 1, 2, 3, 6], [0, 1, 2, 3, 6, 7], [0, 1, 2, 3, 5, 6, 7, 8], [0, 1, 2, 3, 5, 6, 7, 8, 9], [0, 1, 2, 3, 4, 5, 6, 7, 8, 9, 10], [0, 1, 2, 3, 4, 5, 6, 7, 8, 9, 10, 11], [0, 1, 2, 3, 4, 5, 6, 7, 8, 9, 10, 11, 12], [0, 1, 2, 3], [0, 1, 2, 3, 14], [0, 1, 2, 3, 4, 5, 6, 7, 8, 9, 10, 11, 12, 13, 14, 15], [0, 1, 2, 3, 4, 5, 6, 7, 8, 9, 10, 11, 12, 13, 14, 15, 16]] [0,1,5,24] [[5, 0]] (by kernel_rfl) fun K' hK => ?_
    simp only [go_sem, e0, wrap_pred h0 (Nat.le_trans hn hl), map_getD hlt0, vNat, map_getD hm, vIt, Int.toNat_natCast, Int.natCast_nonneg, hlt0', hm', te39, te146, Int.reduceToNat, List.getD_cons_succ, List.getD_cons_zero]
    repeat (refine ⟨ob, ?_⟩)
    first | refine ⟨by rfl, ?_⟩ | skip
    refine hK _ ?_ ?_ <;> clear K' hK <;> simp only [go_sem, e0, wrap_pred h0 (Nat.le_trans hn hl), map_getD hlt0, vNat, map_getD hm, vIt, Int.toNat_natCast, Int.natCast_nonneg, hlt0', hm', te39, te146, Int.reduceToNat, List.getD_cons_succ, List.getD_cons_zero]
    repeat refine cl_seq ?_
    refine cl_cond rfl rfl (fun hb => ?_) (fun hb => ?_)
    · have h2 : ¬ (days.getD (th.getD (n - 1) 0) (0, 0)).1 ≤ day := by rw [hd]; simpa using hb
      have e3 : canB days th n day = false := by unfold canB; rw [decide_eq_false h2]; simp [h0]
      rw [e3]
      repeat refine cl_seq ?_
      repeat refine cl_seq ?_
      refine cl_rs hΓ [6] [] fun K' hK => ?_
      simp only [go_sem]
      repeat (refine ⟨ob, ?_⟩)
      refine hK _ ?_ ?_ <;> clear K' hK <;> simp only [go_sem]
      refine cl_ret ?_
      simp only [go_sem]
    have h2 : (days.getD (th.getD (n - 1) 0) (0, 0)).1 ≤ day := by rw [hd]; simpa using hb
    repeat refine cl_seq ?_
    refine cl_skip ?_
    refine cl_keep [0,1,5] [[5, 0]] ?_ ?_
    · simp only [go_sem]
    simp only [go_sem]
    clear hb hd hm hm'
    have e9 := hend (.inr h2)
    by_cases h1 : n = th.length
    · have e2 : ((n : Int) == (th.length : Int)) = true := by simp [h1]
      have e3 : canB days th n day = true := by rw [e9]; simp [h1]
      rw [e3]
      repeat refine cl_seq ?_
      refine cl_ds hΓ hP [[], [0], [], [2], [0, 1, 2, 3], [0, 1, 2, 3, 4], [0, 1, 2, 3, 4, 5], [0, 1, 2, 3, 4, 5], [0, 1, 2, 3, 4, 5], [0, 1, 2, 3, 4, 5, 8], [0, 1, 2, 3, 4, 5, 7, 8, 9], [0, 1, 2, 3, 4, 5, 7, 8, 9, 10], [0, 1, 2, 3, 4, 5, 6, 7, 8, 9, 10, 11], [0, 1, 2, 3, 4, 5, 6, 7, 8, 9, 10, 11, 12], [0, 1, 2, 3, 4, 5, 6, 7, 8, 9, 10, 11, 12, 13], [0, 1, 2, 3, 4, 5], [0, 1, 2, 3, 4, 5, 15], [0, 1, 2, 3, 4, 5, 6, 7, 8, 9, 10, 11, 12, 13, 14, 15, 16], [0, 1, 2, 3, 4, 5, 6, 7, 8, 9, 10, 11, 12, 13, 14, 15, 16, 17], [0, 1, 2, 3, 4, 5, 6, 7, 8, 9, 10, 11, 12, 13, 14, 15, 16, 17, 18]] [6] [] (by kernel_rfl) fun K' hK => ?_
      simp only [go_sem, e2]
      repeat (refine ⟨ob, ?_⟩)
      first | refine ⟨by rfl, ?_⟩ | skip
      refine hK _ ?_ ?_ <;> clear K' hK <;> simp only [go_sem, e2]
      refine cl_ret ?_
      simp only [go_sem]
    · have e2 : ((n : Int) == (th.length : Int)) = false := by simpa using fun h => h1 (by omega)
      have hlt : n < th.length := by omega
      have hlt' : (n : Int) < th.length := by omega
      have hm : th[n] < days.length := hth _ (List.getElem_mem hlt)
      have hm' : (th[n] : Int) < days.length := by omega
      have e4 : canB days th n day = decide (days[th[n]].2 > day) := by rw [e9]; simp [h1, List.getD_eq_getElem?_getD, hlt, hm]
      rw [e4]
      repeat refine cl_seq ?_
      refine cl_ds hΓ hP [[], [0], [], [2], [0, 1, 2, 3], [0, 1, 2, 3, 4], [0, 1, 2, 3, 4, 5], [0, 1, 2, 3, 4, 5], [0, 1, 2, 3, 4, 5], [0, 1, 2, 3, 4, 5, 8], [0, 1, 2, 3, 4, 5, 7, 8, 9], [0, 1, 2, 3, 4, 5, 7, 8, 9, 10], [0, 1, 2, 3, 4, 5, 6, 7, 8, 9, 10, 11], [0, 1, 2, 3, 4, 5, 6, 7, 8, 9, 10, 11, 12], [0, 1, 2, 3, 4, 5, 6, 7, 8, 9, 10, 11, 12, 13], [0, 1, 2, 3, 4, 5], [0, 1, 2, 3, 4, 5, 15], [0, 1, 2, 3, 4, 5, 6, 7, 8, 9, 10, 11, 12, 13, 14, 15, 16], [0, 1, 2, 3, 4, 5, 6, 7, 8, 9, 10, 11, 12, 13, 14, 15, 16, 17], [0, 1, 2, 3, 4, 5, 6, 7, 8, 9, 10, 11, 12, 13, 14, 15, 16, 17, 18]] [6] [] (by kernel_rfl) fun K' hK => ?_
      simp only [go_sem, e2, map_getD hlt, vNat, map_getD hm, vIt, Int.toNat_natCast, Int.natCast_nonneg, hlt', hm', te39, te146, Int.reduceToNat, List.getD_cons_succ, List.getD_cons_zero]
      repeat (refine ⟨ob, ?_⟩)
      first | refine ⟨by rfl, ?_⟩ | skip
      refine hK _ ?_ ?_ <;> clear K' hK <;> simp only [go_sem, e2, map_getD hlt, vNat, map_getD hm, vIt, Int.toNat_natCast, Int.natCast_nonneg, hlt', hm', te39, te146, Int.reduceToNat, List.getD_cons_succ, List.getD_cons_zero]
      refine cl_ret ?_
      simp only [go_sem]
end Go.Eng
namespace Go.Eng
open Go Go.Proofs
set_option maxRecDepth 10000
/-! the reference: what a lock's key may be -/
def kN (c : List Deed) (th : List Nat) (m : Nat) : Int × Int := (th.take m).foldl (fun k i => keyA k (c.getD i zeroD)) (0, 0)
theorem kN_succ {c : List Deed} {th : List Nat} {m : Nat} (h : m < th.length) (h' : th[m] < c.length) : kN c th (m + 1) = keyA (kN c th m) c[th[m]] := by
  unfold kN
  rw [List.take_add_one, List.getElem?_eq_getElem h, List.foldl_append]
  simp [List.getD_eq_getElem?_getD, h']
def keysTo (c : List Deed) (th : List Nat) (day : Int) (s : Nat) : List (Int × Int) := ((List.range s).filter fun n => canB (daysRL c) th n day).map (kN c th)
theorem keysTo_next (c : List Deed) (th : List Nat) (day : Int) (s : Nat) : keysTo c th day (s + 1) = if canB (daysRL c) th s day then keysTo c th day s ++ [kN c th s] else keysTo c th day s := by
  unfold keysTo
  rw [List.range_succ, List.filter_append, List.map_append]
  simp only [List.filter_cons, List.filter_nil]
  split <;> simp
theorem keysTo_len (c : List Deed) (th : List Nat) (day : Int) (s : Nat) : (keysTo c th day s).length ≤ s := by
  unfold keysTo
  rw [List.length_map]
  have := List.length_filter_le (fun n => canB (daysRL c) th n day) (List.range s)
  simpa using this
def keysL (c : List Deed) (lock day : Int) : List (Int × Int) := keysTo c (idxF (thrB lock) 0 c) day ((idxF (thrB lock) 0 c).length + 1)
noncomputable def sCan : Spec := pCan.toSpec
theorem sCan_app {obj : Name → Option O} {t : Name} {days : List (Int × Int)} {th : List Nat} {n : Nat} {day : Int} (hn : n ≤ th.length) (h : ∀ i ∈ th, i < days.length) : sCan.app obj t [.v (.sl (days.map vIt)), .v (.sl (th.map vNat)), .agg [.v (vInt n), .v (vInt day)]] = ⟨True, .v (.bool (canB days th n day)), obj⟩ := by
  have e : frzL (frz 6) obj [.v (.sl (days.map vIt)), .v (.sl (th.map vNat)), .agg [.v (vInt n), .v (vInt day)]] = ⟨True, [.sl (days.map vIt), .sl (th.map vNat), .agg [vInt n, vInt day]], obj⟩ := by
    simp [frzL, frz, D.one, V.one]
  simp only [sCan, PSpec.toSpec, e, pCan_fn]
  simp only [pCan, if_true]
  congr 1
  simp only [eq_iff_iff, iff_true]
  exact ⟨trivial, days, th, n, day, rfl, hn, h⟩
noncomputable def sKD (f : Int × Int → Deed → V) : Spec := (pKD f).toSpec
theorem sKD_app {f : Int × Int → Deed → V} {obj : Name → Option O} {t : Name} {a b : Int} {d : Deed} : (sKD f).app obj t [.agg [.v (vInt a), .v (vInt b)], .v (encD d)] = ⟨True, .v (f (a, b) d), obj⟩ := by
  have e : frzL (frz 6) obj [.agg [.v (vInt a), .v (vInt b)], .v (encD d)] = ⟨True, [encK (a, b), encD d], obj⟩ := by
    simp [frzL, frz, D.one, V.one, encK]
  simp only [sKD, PSpec.toSpec, e, pKD_fn]
  simp only [pKD, if_true]
  congr 1
  simp only [eq_iff_iff, iff_true]
  exact ⟨trivial, _, d, rfl⟩
noncomputable def K52 : FuncId → Option Spec := fun f => match f with
  | 116 => some (sL (fun c => c.length ≤ 60) fun c => .sl ((daysRL c).map vIt))
  | 123 => some (sLI (fun c => c.length ≤ 60) thrV false)
  | 124 => some (sKD fun k d => encK (keyA k d))
  | 154 => some sCan
  | _ => none
theorem K52_sound : ∀ f s, K52 f = some s → SSound Tryz.prog f s := by
  intro f s h
  unfold K52 at h
  split at h
  · cases h; exact s116.sound
  · cases h; exact s123.sound
  · cases h; exact s124.sound
  · cases h; exact s154.sound
  · cases h
@[go_sem] theorem K52_116 : K52 116 = some (sL (fun c => c.length ≤ 60) fun c => .sl ((daysRL c).map vIt)) := rfl
@[go_sem] theorem K52_123 : K52 123 = some (sLI (fun c => c.length ≤ 60) thrV false) := rfl
@[go_sem] theorem K52_124 : K52 124 = some (sKD fun k d => encK (keyA k d)) := rfl
@[go_sem] theorem K52_154 : K52 154 = some sCan := rfl
set_option maxHeartbeats 8000000 in
theorem s153 : PSound Tryz.prog 153 (pLII (fun c => c.length ≤ 60) (fun c lock day => .sl ((keysL c lock day).map encK)) false) := by
  refine psoundB (rs := [.tmp 6]) Tryz.func153 Tryz.ntmps153 (by rfl) (by kernel_rfl) (by decide) (fun h => by cases h) ⟨_, rfl, ?_⟩
  rintro xs ⟨c, lock, day, rfl, hc60⟩ hw
  have hl : c.length ≤ maxLen := by unfold maxLen; omega
  refine ⟨Nat.le_of_ble_eq_true rfl, ?_⟩
  rw [pLII_fn]
  unfold keysL
  have hΓ := K52_sound
  have hP := mixedK
  have hdy := fun (obj : Name → Option O) (t : Name) (f : List Deed → V) => sL_app (P := fun c => c.length ≤ 60) (f := f) (obj := obj) (t := t) (l := c) hc60
  have hth := fun (obj : Name → Option O) (t : Name) (f : List Deed → Int → V) (fl : Bool) => sLI_app (P := fun c => c.length ≤ 60) (f := f) (fl := fl) (obj := obj) (t := t) (l := c) (k := lock) hc60
  have e0 : thrV c lock = .sl ((idxF (thrB lock) 0 c).map vNat) := rfl
  have hlt : ∀ i ∈ idxF (thrB lock) 0 c, i < c.length := fun i hi => by have := idxF_lt (thrB lock) c 0 i hi; omega
  have hln : (idxF (thrB lock) 0 c).length ≤ 60 := by have := idxF_len (thrB lock) c 0; omega
  generalize idxF (thrB lock) 0 c = th at e0 hlt hln
  repeat refine cl_seq ?_
  refine cl_rs hΓ [0,1,2] [] fun K' hK => ?_
  simp only [go_sem]
  repeat (refine ⟨ob, ?_⟩)
  refine hK _ ?_ ?_ <;> clear K' hK <;> simp only [go_sem]
  repeat refine cl_seq ?_
  refine cl_rs hΓ [0,1,2,7] [] fun K' hK => ?_
  simp only [go_sem, hdy]
  repeat (refine ⟨ob, ?_⟩)
  refine hK _ ?_ ?_ <;> clear K' hK <;> simp only [go_sem, hdy]
  repeat refine cl_seq ?_
  refine cl_rs hΓ [0,2,7,8] [] fun K' hK => ?_
  simp only [go_sem, hth, e0]
  repeat (refine ⟨ob, ?_⟩)
  refine hK _ ?_ ?_ <;> clear K' hK <;> simp only [go_sem, hth, e0]
  repeat refine cl_seq ?_
  refine cl_rs hΓ [0,2,7,8,9] [[9, 0]] fun K' hK => ?_
  simp only [go_sem, tz85, tp85, Nat.reduceLeDiff, Nat.le_refl]
  repeat (refine ⟨ob, ?_⟩)
  refine hK _ ?_ ?_ <;> clear K' hK <;> simp only [go_sem, tz85, tp85, Nat.reduceLeDiff, Nat.le_refl]
  repeat refine cl_seq ?_
  refine cl_rs hΓ [0,2,7,8,9,10] [[9, 0]] fun K' hK => ?_
  simp only [go_sem]
  repeat (refine ⟨ob, ?_⟩)
  refine hK _ ?_ ?_ <;> clear K' hK <;> simp only [go_sem]
  refine cl_weakM (σ' := mkS 47 [0] (fun _ => none) [(0, ⟨true, .v (.sl (c.map encD))⟩), (2, ⟨true, .v (vInt day)⟩), (7, ⟨true, .v (.sl ((daysRL c).map vIt))⟩), (8, ⟨true, .v (.sl (th.map vNat))⟩), (9, ⟨true, .ref [9, 0] 0⟩), (10, ⟨true, .msl [45, 0] 0⟩)] [([9, 0], .box [.v (vInt 0), .v (vInt 0)]), ([45, 0], .arr 2 [])]) (weakM_ghostk 10 [45, 0] 2 (by simp only [go_sem]) (by simp only [go_sem]) [0,2,7,8,9,10] [[9, 0],[45, 0]] ?_ ?_) ?_
  · simp only [go_sem]
  · simp only [go_sem]
  repeat refine cl_seq ?_
  refine cl_rs hΓ [0,2,7,8,9,10,11] [[9, 0],[45, 0]] fun K' hK => ?_
  simp only [go_sem]
  repeat (refine ⟨ob, ?_⟩)
  refine hK _ ?_ ?_ <;> clear K' hK <;> simp only [go_sem]
  repeat refine cl_seq ?_
  refine cl_block ?_
  repeat refine cl_seq ?_
  refine cl_loop' (fun s : Nat => [(10, ⟨true, .msl [45, 0] (keysTo c th day s).length⟩), (11, ⟨true, .v (vInt s)⟩)]) (fun s => [([9, 0], .box [.v (vInt (kN c th (s - 1)).1), .v (vInt (kN c th (s - 1)).2)]), ([45, 0], .arr 2 ((keysTo c th day s).map encK))]) (fun s => s ≤ th.length + 1) (fun s => th.length + 1 - s) 0 ?_ ?_ ?_ ?_
  · exact Nat.zero_le _
  · rfl
  · rfl
  rintro i hi
  simp only [go_sem]
  repeat refine cl_seq ?_
  repeat refine cl_seq ?_
  refine cl_rs hΓ [0,2,7,8,9,10,11,21] [[9, 0],[45, 0]] fun K' hK => ?_
  simp only [go_sem]
  repeat (refine ⟨ob, ?_⟩)
  refine hK _ ?_ ?_ <;> clear K' hK <;> simp only [go_sem]
  repeat refine cl_seq ?_
  refine cl_cond rfl rfl (fun hb => ?_) (fun hb => ?_)
  · have hle : i ≤ th.length := by simpa using hb
    have hkl := keysTo_len c th day i
    have hws : IntKind.i64.wrap ((i : Int) + 1) = ((i + 1 : Nat) : Int) := wrap_succ (n := th.length + 1) (by omega) (by unfold maxLen; omega)
    have hlt' : ∀ j ∈ th, j < (daysRL c).length := fun j hj => by rw [daysRL_len]; exact hlt j hj
    have hcan := fun (obj : Name → Option O) (t : Name) => sCan_app (obj := obj) (t := t) (day := day) hle hlt'
    clear hb
    repeat refine cl_seq ?_
    refine cl_skip ?_
    repeat refine cl_seq ?_
    refine cl_block ?_
    repeat refine cl_seq ?_
    repeat refine cl_seq ?_
    refine cl_rs hΓ [0,2,7,8,9,10,11,25] [[9, 0],[45, 0]] fun K' hK => ?_
    simp only [go_sem]
    repeat (refine ⟨ob, ?_⟩)
    refine hK _ ?_ ?_ <;> clear K' hK <;> simp only [go_sem]
    repeat refine cl_seq ?_
    refine cl_cond rfl rfl (fun hb => ?_) (fun hb => ?_)
    · have h0 : ¬ i = 0 := by
        have : (i : Int) > 0 := by simpa using hb
        omega
      have h1 : i - 1 < th.length := by omega
      have h1' : ((i - 1 : Nat) : Int) < th.length := by omega
      have hm : th[i - 1] < c.length := hlt _ (List.getElem_mem h1)
      have hm' : (th[i - 1] : Int) < c.length := by omega
      have ek : keyA ((kN c th (i - 1)).1, (kN c th (i - 1)).2) c[th[i - 1]] = kN c th i := by
        have := kN_succ (c := c) h1 hm
        rw [show i - 1 + 1 = i by omega] at this
        exact this.symm
      clear hb
      have hkd := fun (f : Int × Int → Deed → V) (obj : Name → Option O) (t : Name) (a b : Int) (d : Deed) => sKD_app (f := f) (obj := obj) (t := t) (a := a) (b := b) (d := d)
      simp only [encD] at hkd
      repeat refine cl_seq ?_
      repeat refine cl_seq ?_
      refine cl_ds hΓ hP [[], [], [], [], [3], [2, 3, 4], [2, 3, 4, 5], [1, 2, 3, 4, 5, 6], [1, 2, 3, 4, 5, 6, 7], [0, 1, 2, 3, 4, 5, 6, 7, 8], [0, 1, 2, 3, 4, 5, 6, 7, 8, 9]] [0,2,7,8,9,10,11] [[9, 0],[45, 0]] (by kernel_rfl) fun K' hK => ?_
      simp only [go_sem, wrap_pred h0 (show i ≤ maxLen by unfold maxLen; omega), map_getD h1, vNat, map_getD hm, Int.toNat_natCast, Int.natCast_nonneg, h1', hm', te39, te22, hkd, ek, encK]
      repeat (refine ⟨ob, ?_⟩)
      first | refine ⟨by rfl, ?_⟩ | skip
      refine hK _ ?_ ?_ <;> clear K' hK <;> simp only [go_sem, wrap_pred h0 (show i ≤ maxLen by unfold maxLen; omega), map_getD h1, vNat, map_getD hm, Int.toNat_natCast, Int.natCast_nonneg, h1', hm', te39, te22, hkd, ek, encK]
      repeat refine cl_seq ?_
      refine cl_rs hΓ [0,2,7,8,9,10,11,41] [[9, 0],[45, 0]] fun K' hK => ?_
      simp only [go_sem, hcan, tz23, Nat.reduceLeDiff, Nat.le_refl]
      repeat (refine ⟨ob, ?_⟩)
      refine hK _ ?_ ?_ <;> clear K' hK <;> simp only [go_sem, hcan, tz23, Nat.reduceLeDiff, Nat.le_refl]
      repeat refine cl_seq ?_
      refine cl_cond rfl rfl (fun hb => ?_) (fun hb => ?_)
      · repeat refine cl_seq ?_
        refine cl_r hΓ fun K' hK => ?_
        simp only [go_sem, te132, tz85]
        repeat' apply And.intro
        all_goals first | rfl | omega | exact Int.le_refl _ | exact Bool.or_not_self _ | exact Bool.not_or_self _ | exact enc_okI _ | exact enc_ok _ | exact fun x hx => (enc_okI _ x hx).1 | exact fun x hx => (enc_ok _ x hx).1 | (simp only [List.length_take, List.length_append, List.length_map, List.length_drop, List.length_cons, List.length_nil]; done) | (simp only [List.length_take, List.length_append, List.length_map, List.length_drop, List.length_cons, List.length_nil]; omega) | (simp only [List.length_take, List.length_append, List.length_map, List.length_drop, List.length_cons, List.length_nil, maxLen]; omega) | (exact fun _ => by decide) | (exact fun h => ⟨h, by decide⟩) | (simp only [decide_eq_true_eq]; omega) | skip
        refine hK _ ?_
        clear K' hK
        simp only [go_sem]
        refine cl_keep [0,2,7,8,9,10,11] [[9, 0],[45, 0]] ?_ ?_
        · simp only [go_sem]
        simp only [go_sem]
        repeat refine cl_seq ?_
        refine cl_r hΓ fun K' hK => ?_
        simp only [go_sem]
        repeat (refine ⟨ob, ?_⟩)
        refine hK _ ?_
        clear K' hK
        simp only [go_sem]
        refine ⟨i + 1, by omega, by omega, ?_⟩
        rw [keysTo_next, if_pos hb]
        refine weak_eq [0,2,7,8,9,10,11] [[9, 0],[45, 0]] ?_ ?_
        · simp only [go_sem]
        · simp only [go_sem, hws, Int.natCast_add, Int.natCast_one, Nat.add_sub_cancel]
          all_goals simp [encK]
      · repeat refine cl_seq ?_
        refine cl_skip ?_
        refine cl_nil ?_
        simp only [go_sem]
        refine cl_keep [0,2,7,8,9,10,11] [[9, 0],[45, 0]] ?_ ?_
        · simp only [go_sem]
        simp only [go_sem]
        repeat refine cl_seq ?_
        refine cl_r hΓ fun K' hK => ?_
        simp only [go_sem]
        repeat (refine ⟨ob, ?_⟩)
        refine hK _ ?_
        clear K' hK
        simp only [go_sem]
        refine ⟨i + 1, by omega, by omega, ?_⟩
        rw [keysTo_next, if_neg (by simp [hb])]
        refine weak_eq [0,2,7,8,9,10,11] [[9, 0],[45, 0]] ?_ ?_
        · simp only [go_sem, hws, Int.natCast_add, Int.natCast_one, Nat.add_sub_cancel]
        · simp only [go_sem, hws, Int.natCast_add, Int.natCast_one, Nat.add_sub_cancel]
    · have h0 : i = 0 := by
        have : ¬ (i : Int) > 0 := by simpa using hb
        omega
      have ek : kN c th (i - 1) = kN c th i := by rw [h0]
      clear hb
      repeat refine cl_seq ?_
      refine cl_skip ?_
      rw [ek]
      repeat refine cl_seq ?_
      refine cl_rs hΓ [0,2,7,8,9,10,11,41] [[9, 0],[45, 0]] fun K' hK => ?_
      simp only [go_sem, hcan, tz23, Nat.reduceLeDiff, Nat.le_refl]
      repeat (refine ⟨ob, ?_⟩)
      refine hK _ ?_ ?_ <;> clear K' hK <;> simp only [go_sem, hcan, tz23, Nat.reduceLeDiff, Nat.le_refl]
      repeat refine cl_seq ?_
      refine cl_cond rfl rfl (fun hb => ?_) (fun hb => ?_)
      · repeat refine cl_seq ?_
        refine cl_r hΓ fun K' hK => ?_
        simp only [go_sem, te132, tz85]
        repeat' apply And.intro
        all_goals first | rfl | omega | exact Int.le_refl _ | exact Bool.or_not_self _ | exact Bool.not_or_self _ | exact enc_okI _ | exact enc_ok _ | exact fun x hx => (enc_okI _ x hx).1 | exact fun x hx => (enc_ok _ x hx).1 | (simp only [List.length_take, List.length_append, List.length_map, List.length_drop, List.length_cons, List.length_nil]; done) | (simp only [List.length_take, List.length_append, List.length_map, List.length_drop, List.length_cons, List.length_nil]; omega) | (simp only [List.length_take, List.length_append, List.length_map, List.length_drop, List.length_cons, List.length_nil, maxLen]; omega) | (exact fun _ => by decide) | (exact fun h => ⟨h, by decide⟩) | (simp only [decide_eq_true_eq]; omega) | skip
        refine hK _ ?_
        clear K' hK
        simp only [go_sem]
        refine cl_keep [0,2,7,8,9,10,11] [[9, 0],[45, 0]] ?_ ?_
        · simp only [go_sem]
        simp only [go_sem]
        repeat refine cl_seq ?_
        refine cl_r hΓ fun K' hK => ?_
        simp only [go_sem]
        repeat (refine ⟨ob, ?_⟩)
        refine hK _ ?_
        clear K' hK
        simp only [go_sem]
        refine ⟨i + 1, by omega, by omega, ?_⟩
        rw [keysTo_next, if_pos hb]
        refine weak_eq [0,2,7,8,9,10,11] [[9, 0],[45, 0]] ?_ ?_
        · simp only [go_sem]
        · simp only [go_sem, hws, Int.natCast_add, Int.natCast_one, Nat.add_sub_cancel]
          all_goals simp [encK]
      · repeat refine cl_seq ?_
        refine cl_skip ?_
        refine cl_nil ?_
        simp only [go_sem]
        refine cl_keep [0,2,7,8,9,10,11] [[9, 0],[45, 0]] ?_ ?_
        · simp only [go_sem]
        simp only [go_sem]
        repeat refine cl_seq ?_
        refine cl_r hΓ fun K' hK => ?_
        simp only [go_sem]
        repeat (refine ⟨ob, ?_⟩)
        refine hK _ ?_
        clear K' hK
        simp only [go_sem]
        refine ⟨i + 1, by omega, by omega, ?_⟩
        rw [keysTo_next, if_neg (by simp [hb])]
        refine weak_eq [0,2,7,8,9,10,11] [[9, 0],[45, 0]] ?_ ?_
        · simp only [go_sem, hws, Int.natCast_add, Int.natCast_one, Nat.add_sub_cancel]
        · simp only [go_sem, hws, Int.natCast_add, Int.natCast_one, Nat.add_sub_cancel]
  · have hge : i = th.length + 1 := by
      have : ¬ (i : Int) ≤ th.length := by simpa using hb
      omega
    subst hge
    clear hb
    repeat refine cl_seq ?_
    refine cl_exit ?_
    simp only [go_sem]
    refine cl_keep [10] [[45, 0]] ?_ ?_
    · simp only [go_sem]
    simp only [go_sem]
    repeat refine cl_seq ?_
    refine cl_rs hΓ [6] [[45, 0]] fun K' hK => ?_
    simp only [go_sem]
    repeat (refine ⟨ob, ?_⟩)
    refine hK _ ?_ ?_ <;> clear K' hK <;> simp only [go_sem]
    refine cl_ret ?_
    simp only [go_sem]
end Go.Eng
namespace Go.Eng
open Go Go.Proofs
set_option maxRecDepth 10000
/-! the reference: whether a person is in office -/
noncomputable def sBB (f : Bool → Bool → V) : Spec := (pBB f).toSpec
end Go.Eng
namespace Go.Eng
open Go Go.Proofs
set_option maxRecDepth 10000
/-! the reference: what is asked of a lock's key -/
@[go_sem] theorem ta48 : tAgg Tryz.prog 48 = some (true, 4) := by kernel_rfl
@[go_sem] theorem tf48_0 : tField Tryz.prog 48 0 = some (0, 1, false) := by kernel_rfl
@[go_sem] theorem tf48_1 : tField Tryz.prog 48 1 = some (1, 1, false) := by kernel_rfl
@[go_sem] theorem tf48_2 : tField Tryz.prog 48 2 = some (2, 1, false) := by kernel_rfl
@[go_sem] theorem tf48_3 : tField Tryz.prog 48 3 = some (3, 1, false) := by kernel_rfl
structure Aska where
  lo : Int
  pe : Int
  da : Int
  kn : Int
def encA (a : Aska) : V := .agg [vInt a.lo, vInt a.pe, vInt a.da, vInt a.kn]
noncomputable def keysOfV (l : List Deed) (a : Aska) (p : Bool) : V :=
  if checkI l = 0 then (if inI a.lo 1 3 then (if (p && !inI a.pe 1 99) then .tup [.sl [], vInt 16] else (if daysI l [a.kn, a.da] = 0 then (if (confP (countL l a.kn)).isSome then .tup [.sl [], vInt 13] else .tup [.sl ((keysL (countL l a.kn) a.lo a.da).map encK), vInt 0]) else .tup [.sl [], vInt (daysI l [a.kn, a.da])])) else .tup [.sl [], vInt 15]) else .tup [.sl [], vInt (checkI l)]
def pLAB (f : List Deed → Aska → Bool → V) : PSpec := ⟨fun xs => ∃ (l : List Deed) (a : Aska) (p : Bool), xs = [.sl (l.map encD), encA a, .bool p], fun xs => match xs with | [.sl l, .agg [.int _ a, .int _ b, .int _ c, .int _ d], .bool p] => f (l.map decD) ⟨a, b, c, d⟩ p | _ => .bool false, false⟩
theorem pLAB_fn (f : List Deed → Aska → Bool → V) (l : List Deed) (a : Aska) (p : Bool) : (pLAB f).fn [.sl (l.map encD), encA a, .bool p] = f l a p := by
  simp only [pLAB, encA, decD_map]
noncomputable def sL2 (f : List Deed → Int → Int → V) : Spec := (pL2 f).toSpec
theorem sL2_app {f : List Deed → Int → Int → V} {obj : Name → Option O} {t : Name} {l : List Deed} {a b : Int} : (sL2 f).app obj t [.v (.sl (l.map encD)), .v (.sl [vInt a, vInt b])] = ⟨True, .v (f l a b), obj⟩ := by
  simp only [sL2, PSpec.toSpec, frzL, frz, pL2_fn, ite_self]
  congr 1
  simp only [eq_iff_iff, iff_true]
  exact ⟨⟨trivial, trivial, trivial⟩, l, a, b, rfl⟩
noncomputable def K54 : FuncId → Option Spec := fun f => match f with
  | 16 => some sRChk
  | 79 => some sIn
  | 112 => some (sL2 evenV)
  | 153 => some (sLII (fun c => c.length ≤ 60) (fun c lock day => .sl ((keysL c lock day).map encK)) false)
  | _ => none
theorem K54_sound : ∀ f s, K54 f = some s → SSound Tryz.prog f s := by
  intro f s h
  unfold K54 at h
  split at h
  · cases h; exact s16'
  · cases h; exact s79'
  · cases h; exact s112.sound
  · cases h; exact s153.sound
  · cases h
@[go_sem] theorem K54_16 : K54 16 = some sRChk := rfl
@[go_sem] theorem K54_79 : K54 79 = some sIn := rfl
@[go_sem] theorem K54_112 : K54 112 = some (sL2 evenV) := rfl
@[go_sem] theorem K54_153 : K54 153 = some (sLII (fun c => c.length ≤ 60) (fun c lock day => .sl ((keysL c lock day).map encK)) false) := rfl
set_option maxHeartbeats 8000000 in
theorem s104 : PSound Tryz.prog 104 (pLAB keysOfV) := by
  refine psoundB (rs := [.tmp 6, .tmp 7]) Tryz.func104 Tryz.ntmps104 (by rfl) (by kernel_rfl) (by decide) (fun h => by cases h) ⟨_, rfl, ?_⟩
  rintro xs ⟨l, ⟨lo, pe, da, kn⟩, p, rfl⟩ hw
  refine ⟨Nat.le_of_ble_eq_true rfl, ?_⟩
  rw [pLAB_fn]
  simp only [encA]
  have hΓ := K54_sound
  have hin := fun (obj : Name → Option O) (t : Name) (a b c : Int) => sIn_app (obj := obj) (t := t) (a := a) (b := b) (c := c)
  repeat refine cl_seq ?_
  refine cl_rs hΓ [0,2,4] [[4, 0]] fun K' hK => ?_
  simp only [go_sem]
  repeat (refine ⟨ob, ?_⟩)
  refine hK _ ?_ ?_ <;> clear K' hK <;> simp only [go_sem]
  repeat refine cl_seq ?_
  refine cl_rs hΓ [0,2,4,8] [[4, 0]] fun K' hK => ?_
  simp only [go_sem, sRChk_app]
  repeat (refine ⟨ob, ?_⟩)
  refine hK _ ?_ ?_ <;> clear K' hK <;> simp only [go_sem, sRChk_app]
  repeat refine cl_seq ?_
  refine cl_rs hΓ [0,2,4,8,14] [[4, 0]] fun K' hK => ?_
  simp only [go_sem]
  repeat (refine ⟨ob, ?_⟩)
  refine hK _ ?_ ?_ <;> clear K' hK <;> simp only [go_sem]
  repeat refine cl_seq ?_
  refine cl_cond rfl rfl (fun hb => ?_) (fun hb => ?_)
  · repeat refine cl_seq ?_
    have hn : ¬ checkI l = 0 := by simpa using hb
    repeat refine cl_seq ?_
    refine cl_rs hΓ [6,7] [] fun K' hK => ?_
    simp only [go_sem]
    repeat (refine ⟨ob, ?_⟩)
    refine hK _ ?_ ?_ <;> clear K' hK <;> simp only [go_sem]
    refine cl_ret ?_
    simp only [go_sem]
    unfold keysOfV; rw [if_neg hn]
  have hz : checkI l = 0 := by simpa using hb
  repeat refine cl_seq ?_
  refine cl_skip ?_
  repeat refine cl_seq ?_
  refine cl_rs hΓ [0,2,4,19] [[4, 0]] fun K' hK => ?_
  simp only [go_sem, hin]
  repeat (refine ⟨ob, ?_⟩)
  refine hK _ ?_ ?_ <;> clear K' hK <;> simp only [go_sem, hin]
  repeat refine cl_seq ?_
  refine cl_cond rfl rfl (fun hb => ?_) (fun hb => ?_)
  · repeat refine cl_seq ?_
    have hn : ¬ inI lo 1 3 = true := by simpa using hb
    repeat refine cl_seq ?_
    refine cl_rs hΓ [6,7] [] fun K' hK => ?_
    simp only [go_sem]
    repeat (refine ⟨ob, ?_⟩)
    refine hK _ ?_ ?_ <;> clear K' hK <;> simp only [go_sem]
    refine cl_ret ?_
    simp only [go_sem]
    unfold keysOfV; rw [if_pos hz, if_neg hn]
  have hlk : inI lo 1 3 = true := by simpa using hb
  repeat refine cl_seq ?_
  refine cl_skip ?_
  repeat refine cl_seq ?_
  refine cl_rs hΓ [0,4,26] [[4, 0]] fun K' hK => ?_
  simp only [go_sem, hin]
  repeat (refine ⟨ob, ?_⟩)
  refine hK _ ?_ ?_ <;> clear K' hK <;> simp only [go_sem, hin]
  repeat refine cl_seq ?_
  refine cl_cond rfl rfl (fun hb => ?_) (fun hb => ?_)
  · repeat refine cl_seq ?_
    repeat refine cl_seq ?_
    refine cl_rs hΓ [6,7] [] fun K' hK => ?_
    simp only [go_sem]
    repeat (refine ⟨ob, ?_⟩)
    refine hK _ ?_ ?_ <;> clear K' hK <;> simp only [go_sem]
    refine cl_ret ?_
    simp only [go_sem]
    unfold keysOfV; rw [if_pos hz, if_pos hlk, if_pos hb]
  have hps : ¬ (p && !inI pe 1 99) = true := by rw [hb]; decide
  repeat refine cl_seq ?_
  refine cl_skip ?_
  by_cases hdz : daysI l [kn, da] = 0
  · have hok := days_ok hdz
    have hlen : (countL l kn).length ≤ 60 := by have := countL_len l kn; have := hok.2.2; omega
    by_cases hcf : (confP (countL l kn)).isSome = true
    · have he : evenV l kn da = .tup [.sl [], vInt 13] := by unfold evenV contV; rw [if_pos hdz, if_pos hcf]
      repeat refine cl_seq ?_
      refine cl_rs hΓ [4,9,10] [[4, 0]] fun K' hK => ?_
      simp only [go_sem, sL2_app, he]
      repeat (refine ⟨ob, ?_⟩)
      refine hK _ ?_ ?_ <;> clear K' hK <;> simp only [go_sem, sL2_app, he]
      repeat refine cl_seq ?_
      refine cl_rs hΓ [4,9,10,38] [[4, 0]] fun K' hK => ?_
      simp only [go_sem]
      repeat (refine ⟨ob, ?_⟩)
      refine hK _ ?_ ?_ <;> clear K' hK <;> simp only [go_sem]
      repeat refine cl_seq ?_
      refine cl_cond rfl rfl (fun hb => ?_) (fun hb => ?_)
      · repeat refine cl_seq ?_
        repeat refine cl_seq ?_
        refine cl_rs hΓ [6,7] [] fun K' hK => ?_
        simp only [go_sem]
        repeat (refine ⟨ob, ?_⟩)
        refine hK _ ?_ ?_ <;> clear K' hK <;> simp only [go_sem]
        refine cl_ret ?_
        simp only [go_sem]
        unfold keysOfV; rw [if_pos hz, if_pos hlk, if_neg hps, if_pos hdz, if_pos hcf]
      · simp at hb
    · have he : evenV l kn da = .tup [.sl ((countL l kn).map encD), vInt 0] := by unfold evenV contV; rw [if_pos hdz, if_neg hcf]
      have hth := fun (obj : Name → Option O) (t : Name) (f : List Deed → Int → Int → V) (fl : Bool) (a b : Int) => sLII_app (P := fun l => l.length ≤ 60) (f := f) (fl := fl) (obj := obj) (t := t) (l := countL l kn) (k := a) (j := b) hlen
      repeat refine cl_seq ?_
      refine cl_rs hΓ [4,9,10] [[4, 0]] fun K' hK => ?_
      simp only [go_sem, sL2_app, he]
      repeat (refine ⟨ob, ?_⟩)
      refine hK _ ?_ ?_ <;> clear K' hK <;> simp only [go_sem, sL2_app, he]
      repeat refine cl_seq ?_
      refine cl_rs hΓ [4,9,10,38] [[4, 0]] fun K' hK => ?_
      simp only [go_sem]
      repeat (refine ⟨ob, ?_⟩)
      refine hK _ ?_ ?_ <;> clear K' hK <;> simp only [go_sem]
      repeat refine cl_seq ?_
      refine cl_cond rfl rfl (fun hb => ?_) (fun hb => ?_)
      · simp at hb
      · repeat refine cl_seq ?_
        refine cl_skip ?_
        repeat refine cl_seq ?_
        refine cl_rs hΓ [6,7] [] fun K' hK => ?_
        simp only [go_sem, hth]
        repeat (refine ⟨ob, ?_⟩)
        refine hK _ ?_ ?_ <;> clear K' hK <;> simp only [go_sem, hth]
        refine cl_ret ?_
        simp only [go_sem]
        unfold keysOfV; rw [if_pos hz, if_pos hlk, if_neg hps, if_pos hdz, if_neg hcf]
  · have he : evenV l kn da = .tup [.sl [], vInt (daysI l [kn, da])] := by unfold evenV; rw [if_neg hdz]
    repeat refine cl_seq ?_
    refine cl_rs hΓ [4,9,10] [[4, 0]] fun K' hK => ?_
    simp only [go_sem, sL2_app, he]
    repeat (refine ⟨ob, ?_⟩)
    refine hK _ ?_ ?_ <;> clear K' hK <;> simp only [go_sem, sL2_app, he]
    repeat refine cl_seq ?_
    refine cl_rs hΓ [4,9,10,38] [[4, 0]] fun K' hK => ?_
    simp only [go_sem]
    repeat (refine ⟨ob, ?_⟩)
    refine hK _ ?_ ?_ <;> clear K' hK <;> simp only [go_sem]
    repeat refine cl_seq ?_
    refine cl_cond rfl rfl (fun hb => ?_) (fun hb => ?_)
    · repeat refine cl_seq ?_
      repeat refine cl_seq ?_
      refine cl_rs hΓ [6,7] [] fun K' hK => ?_
      simp only [go_sem]
      repeat (refine ⟨ob, ?_⟩)
      refine hK _ ?_ ?_ <;> clear K' hK <;> simp only [go_sem]
      refine cl_ret ?_
      simp only [go_sem]
      unfold keysOfV; rw [if_pos hz, if_pos hlk, if_neg hps, if_neg hdz]
    · simp [hdz] at hb
end Go.Eng
/- Holders and answers: what the program tells is what the document tells. -/
namespace Go.Eng
open Go Go.Proofs
/-! the thread of a place among the indices -/
theorem idxF_shift (p : Deed → Bool) : ∀ (c : List Deed) (n : Nat), idxF p n c = (idxF p 0 c).map (· + n)
  | [], n => rfl
  | d :: r, n => by
    have h1 := idxF_shift p r (n + 1)
    have h2 := idxF_shift p r 1
    simp only [idxF, Nat.zero_add]
    rw [h1, h2]
    have : ((fun x => x + n) ∘ fun x => x + 1) = fun x => x + (n + 1) := by funext x; simp only [Function.comp]; omega
    split <;> simp [List.map_map, this]
theorem idxF_count (p : Deed → Bool) : ∀ (c : List Deed) (n : Nat), (idxF p n c).length = (c.filter p).length
  | [], n => rfl
  | d :: r, n => by
    have h1 := idxF_count p r (n + 1)
    simp only [idxF, List.filter_cons]
    split <;> simp [h1]
theorem idxF_at {p : Deed → Bool} : ∀ {c : List Deed} {j : Nat} (h : j < (idxF p 0 c).length), ∃ (hi : (idxF p 0 c)[j] < c.length) (hj : j < (c.filter p).length),
    c[(idxF p 0 c)[j]] = (c.filter p)[j] ∧ p c[(idxF p 0 c)[j]] = true ∧ (c.take (idxF p 0 c)[j]).filter p = (c.filter p).take j ∧ (c.drop ((idxF p 0 c)[j] + 1)).filter p = (c.filter p).drop (j + 1)
  | [], j, h => by simp [idxF] at h
  | d :: r, j, h => by
    have hc := idxF_count p r 0
    by_cases hp : p d = true
    · have e : idxF p 0 (d :: r) = 0 :: (idxF p 0 r).map (· + 1) := by
        simp only [idxF, Nat.zero_add]; rw [if_pos hp, idxF_shift p r 1]
      have ef : (d :: r).filter p = d :: r.filter p := by rw [List.filter_cons, if_pos hp]
      cases j with
      | zero =>
        have e0 : (idxF p 0 (d :: r))[0] = 0 := by simp only [e, List.getElem_cons_zero]
        simp only [e0, ef, List.length_cons]
        exact ⟨by omega, by omega, rfl, hp, rfl, by simp⟩
      | succ j =>
        have hj : j < (idxF p 0 r).length := by simp only [e, List.length_cons, List.length_map] at h; omega
        obtain ⟨hi, hj', h1, h2, h3, h4⟩ := idxF_at hj
        have e0 : (idxF p 0 (d :: r))[j + 1] = (idxF p 0 r)[j] + 1 := by simp only [e, List.getElem_cons_succ, List.getElem_map]
        simp only [e0, ef, List.length_cons]
        refine ⟨by omega, by omega, ?_, ?_, ?_, ?_⟩
        · simp only [List.getElem_cons_succ]; exact h1
        · simp only [List.getElem_cons_succ]; exact h2
        · rw [List.take_succ_cons, List.filter_cons, if_pos hp, List.take_succ_cons, h3]
        · rw [List.drop_succ_cons, List.drop_succ_cons, h4]
    · have e : idxF p 0 (d :: r) = (idxF p 0 r).map (· + 1) := by
        simp only [idxF, Nat.zero_add]; rw [if_neg hp, idxF_shift p r 1]
      have ef : (d :: r).filter p = r.filter p := by rw [List.filter_cons, if_neg hp]
      have hj : j < (idxF p 0 r).length := by simp only [e, List.length_map] at h; omega
      obtain ⟨hi, hj', h1, h2, h3, h4⟩ := idxF_at hj
      have e0 : (idxF p 0 (d :: r))[j] = (idxF p 0 r)[j] + 1 := by simp only [e, List.getElem_map]
      simp only [e0, ef, List.length_cons]
      refine ⟨by omega, hj', ?_, ?_, ?_, ?_⟩
      · simp only [List.getElem_cons_succ]; exact h1
      · simp only [List.getElem_cons_succ]; exact h2
      · rw [List.take_succ_cons, List.filter_cons, if_neg hp, h3]
      · rw [List.drop_succ_cons, h4]
/-! one thread's deeds by a test of their own -/
def thB (p : Deed → Bool) : Prop := ∀ d o, isDeedB d = true → isDeedB o = true → p d = true → sameThB d o = p o
theorem thrB_of (lock : Int) (hl : 1 ≤ lock) : thB (thrB lock) := by
  intro d o hd ho hp
  have h2 := valid_kind ho
  unfold thrB at hp ⊢
  unfold sameThB
  simp only [Bool.and_eq_true, Bool.not_eq_true', beq_iff_eq] at hp
  rw [if_neg (by rw [hp.1]; decide), hp.2]
  rcases h2 with ⟨h2, h4, _⟩ | ⟨h2, h4⟩
  · rw [h2, h4]
    have : (lock == (0 : Int)) = false := by simp; omega
    rw [this]; rfl
  · rw [h2]; simp; exact Bool.beq_comm ..
theorem thrL_lock {c : List Deed} (hv : ∀ d ∈ c, isDeedB d = true) {lock : Int} (hl : 1 ≤ lock) : thrL c lock 0 = c.filter (thrB lock) := by
  unfold thrL
  refine List.filter_congr fun d hd => ?_
  have h2 := valid_kind (hv d hd)
  unfold isOfB thrB
  rw [if_pos (by omega)]
  rcases h2 with ⟨h2, h4, _⟩ | ⟨h2, h4⟩
  · rw [h2, h4]
    have : ((0 : Int) == lock) = false := by simp; omega
    rw [this]; rfl
  · rw [h2]; simp
/-! days -/
theorem rLo_by {p : Deed → Bool} (hp : thB p) {d : Deed} (hd : isDeedB d = true) (h1 : p d = true) : ∀ {X : List Deed} (m : Int), (∀ o ∈ X, isDeedB o = true) →
    X.foldl (fun m o => if sameThB d o then (if o.dl > m then o.dl else m) else m) m = (X.filter p).foldl (fun m o => if o.dl > m then o.dl else m) m
  | [], m, _ => rfl
  | o :: r, m, h => by
    have hs := hp d o hd (h o (by simp)) h1
    have ih := fun m => rLo_by hp hd h1 (X := r) m fun o ho => h o (by simp [ho])
    rw [List.foldl_cons, List.filter_cons, hs]
    by_cases h2 : p o = true
    · rw [if_pos h2, if_pos h2, List.foldl_cons]; exact ih _
    · rw [if_neg h2, if_neg h2]; exact ih _
theorem rHi_by {p : Deed → Bool} (hp : thB p) {d : Deed} (hd : isDeedB d = true) (h1 : p d = true) : ∀ {X : List Deed} (m : Int), (∀ o ∈ X, isDeedB o = true) →
    X.foldl (fun m o => if sameThB d o then (if o.dh < m then o.dh else m) else m) m = (X.filter p).foldl (fun m o => if o.dh < m then o.dh else m) m
  | [], m, _ => rfl
  | o :: r, m, h => by
    have hs := hp d o hd (h o (by simp)) h1
    have ih := fun m => rHi_by hp hd h1 (X := r) m fun o ho => h o (by simp [ho])
    rw [List.foldl_cons, List.filter_cons, hs]
    by_cases h2 : p o = true
    · rw [if_pos h2, if_pos h2, List.foldl_cons]; exact ih _
    · rw [if_neg h2, if_neg h2]; exact ih _
theorem day_at {p : Deed → Bool} (hp : thB p) {c : List Deed} (hv : ∀ d ∈ c, isDeedB d = true) {j : Nat} (h : j < (idxF p 0 c).length) :
    (dayR c (idxF p 0 c)[j]).1 = loM ((c.filter p).take (j + 1)) ∧ (dayR c (idxF p 0 c)[j]).2 = hiM ((c.filter p).drop j) := by
  obtain ⟨hi, hj, h1, h2, h3, h4⟩ := idxF_at h
  have hd := hv _ (List.getElem_mem hi)
  have hdl := day_of hd
  unfold dayR
  have e : c.getD (idxF p 0 c)[j] zeroD = c[(idxF p 0 c)[j]] := by simp [List.getD_eq_getElem?_getD, hi]
  rw [e]
  constructor
  · show rLo _ _ = _
    unfold rLo
    rw [rLo_by hp hd h2 _ fun o ho => hv o (List.mem_of_mem_take ho), h3]
    unfold loM
    rw [List.take_add_one, List.getElem?_eq_getElem hj, List.foldl_append, ← h1]
    simp only [Option.toList_some, List.foldl_cons, List.foldl_nil]
    exact fold_max _ _ 0 hdl.1
  · show rHi _ _ = _
    unfold rHi
    rw [rHi_by hp hd h2 _ fun o ho => hv o (List.mem_of_mem_drop ho), h4]
    unfold hiM
    rw [List.drop_eq_getElem_cons hj, List.foldl_cons, ← h1]
    have : (if c[(idxF p 0 c)[j]].dh < 100000 then c[(idxF p 0 c)[j]].dh else 100000) = c[(idxF p 0 c)[j]].dh := by split <;> omega
    rw [this]
theorem can_may {p : Deed → Bool} (hp : thB p) {c : List Deed} (hv : ∀ d ∈ c, isDeedB d = true) {n : Nat} (hn : n ≤ (c.filter p).length) (day : Int) :
    canB (daysRL c) (idxF p 0 c) n day = mayB (c.filter p) n day := by
  have hc := idxF_count p c 0
  have hg : ∀ j (h : j < (idxF p 0 c).length), (daysRL c).getD ((idxF p 0 c).getD j 0) (0, 0) = dayR c (idxF p 0 c)[j] := by
    intro j h
    obtain ⟨hi, _⟩ := idxF_at h
    have : (idxF p 0 c)[j] < (daysRL c).length := by rw [daysRL_len]; exact hi
    simp only [List.getD_eq_getElem?_getD, h, getElem?_pos, Option.getD_some, this]
    exact daysRL_get this
  unfold canB mayB
  rw [hc]
  congr 1
  · by_cases h0 : n = 0
    · simp [h0]
    · have h1 : n - 1 < (idxF p 0 c).length := by omega
      rw [hg _ h1, (day_at hp hv h1).1, show n - 1 + 1 = n by omega]
  · by_cases h0 : n = (c.filter p).length
    · simp [h0]
    · have h1 : n < (idxF p 0 c).length := by omega
      rw [hg _ h1, (day_at hp hv h1).2]
/-! states -/
theorem th_map {p : Deed → Bool} (c : List Deed) : (idxF p 0 c).map (fun i => c.getD i zeroD) = c.filter p := by
  have := idxF_filter p zeroD c []
  simpa using this
theorem kN_fold {p : Deed → Bool} (c : List Deed) (n : Nat) : kN c (idxF p 0 c) n = ((c.filter p).take n).foldl keyA (0, 0) := by
  unfold kN
  rw [← th_map (p := p) c, ← List.map_take, List.foldl_map]
theorem fold_key : ∀ {t : List Deed} (s : Sta), (∀ d ∈ t, 3 ≤ d.ki ∧ d.ki ≤ 6) → ((t.foldl (fun s d => doS d.ki s d.pe) s).h, (t.foldl (fun s d => doS d.ki s d.pe) s).n) = t.foldl keyA (s.h, s.n)
  | [], s, _ => rfl
  | d :: r, s, h => by
    have hd := h d (by simp)
    rw [List.foldl_cons, List.foldl_cons, fold_key _ fun o ho => h o (by simp [ho])]
    congr 1
    unfold doS keyA
    have h1 : ¬ d.ki = 1 := by omega
    rw [if_neg h1]
    by_cases h3 : d.ki = 3
    · simp [h3]
    by_cases h4 : d.ki = 4
    · simp only [h4]
      by_cases h5 : s.h = 0 <;> simp [h5]
    by_cases h5 : d.ki = 5
    · simp [h5]
    have h6 : d.ki = 6 := by omega
    simp [h6]
theorem kind_of {d : Deed} (h : isDeedB d = true) : kindOk d := by
  unfold isDeedB at h
  unfold kindOk
  grind
theorem thrB_kind {lock : Int} {d : Deed} (h : isDeedB d = true) (h1 : thrB lock d = true) : 3 ≤ d.ki ∧ d.ki ≤ 6 := by
  have := kind_of h
  unfold kindOk at this
  unfold thrB offB at h1
  simp at h1
  omega
theorem stA_key {c : List Deed} (hv : ∀ d ∈ c, isDeedB d = true) (lock : Int) (n : Nat) : ((stA (c.filter (thrB lock)) n).h, (stA (c.filter (thrB lock)) n).n) = kN c (idxF (thrB lock) 0 c) n := by
  rw [kN_fold]
  unfold stA
  exact fold_key zeroS fun d hd => by
    have hm := List.mem_filter.1 (List.mem_of_mem_take hd)
    exact thrB_kind (hv d hm.1) hm.2
/-! at least one number of deeds may have happened -/
/-! what the program gathers -/
def mayL (t : List Deed) (day : Int) (s : Nat) : List Nat := (List.range s).filter fun n => mayB t n day
theorem mayL_next (t : List Deed) (day : Int) (s : Nat) : mayL t day (s + 1) = if mayB t s day then mayL t day s ++ [s] else mayL t day s := by
  unfold mayL
  rw [List.range_succ, List.filter_append]
  simp only [List.filter_cons, List.filter_nil]
  split <;> simp
def whoTo (f : Sta → Int) (t : List Deed) (day : Int) (s : Nat) : List Int := (mayL t day s).foldl (fun o n => insI o (f (stA t n))) []
theorem whoTo_next (f : Sta → Int) (t : List Deed) (day : Int) (s : Nat) : whoTo f t day (s + 1) = if mayB t s day then insI (whoTo f t day s) (f (stA t s)) else whoTo f t day s := by
  unfold whoTo
  rw [mayL_next]
  split
  · rw [List.foldl_append]; rfl
  · rfl
theorem whoTo_ok (f : Sta → Int) (t : List Deed) (day : Int) : ∀ s, (whoTo f t day s).Pairwise (· < ·) ∧ (whoTo f t day s).length ≤ s
  | 0 => ⟨List.Pairwise.nil, Nat.le_refl _⟩
  | s + 1 => by
    obtain ⟨h1, h2⟩ := whoTo_ok f t day s
    rw [whoTo_next]
    split
    · refine ⟨insI_sorted h1, ?_⟩
      have := insI_len (whoTo f t day s) (f (stA t s))
      omega
    · exact ⟨h1, by omega⟩
def whoL (f : Sta → Int) (t : List Deed) (day : Int) : List Int := whoTo f t day (t.length + 1)
def yesTo (p : Sta → Bool) (t : List Deed) (day : Int) (s : Nat) : Bool := (mayL t day s).any fun n => p (stA t n)
def noTo (p : Sta → Bool) (t : List Deed) (day : Int) (s : Nat) : Bool := (mayL t day s).any fun n => !p (stA t n)
def ansP (p : Sta → Bool) (t : List Deed) (day : Int) : Int :=
  if noTo p t day (t.length + 1) then (if yesTo p t day (t.length + 1) then 2 else 0) else 1
/-! the reference's -/
theorem keysL_may {c : List Deed} (hv : ∀ d ∈ c, isDeedB d = true) {lock : Int} (hl : 1 ≤ lock) (day : Int) :
    keysL c lock day = (mayL (thrL c lock 0) day ((thrL c lock 0).length + 1)).map fun n => ((stA (thrL c lock 0) n).h, (stA (thrL c lock 0) n).n) := by
  have hp := thrB_of lock hl
  unfold keysL keysTo mayL
  rw [thrL_lock hv hl, idxF_count]
  have e : (List.range ((c.filter (thrB lock)).length + 1)).filter (fun n => canB (daysRL c) (idxF (thrB lock) 0 c) n day) = (List.range ((c.filter (thrB lock)).length + 1)).filter (fun n => mayB (c.filter (thrB lock)) n day) :=
    List.filter_congr fun n hn => can_may hp hv (by have := List.mem_range.1 hn; omega) day
  rw [e]
  exact List.map_congr_left fun n _ => (stA_key hv lock n).symm
theorem who_keys {c : List Deed} (hv : ∀ d ∈ c, isDeedB d = true) {lock : Int} (hl : 1 ≤ lock) (day : Int) (f : Sta → Int) (g : Int × Int → Int) (h : ∀ s : Sta, g (s.h, s.n) = f s) :
    whoL f (thrL c lock 0) day = (keysL c lock day).foldl (fun o k => insI o (g k)) [] := by
  rw [keysL_may hv hl, List.foldl_map]
  unfold whoL whoTo
  simp only [h]
/-! errors -/
noncomputable def askE (l : List Deed) (day k : Int) : Int := if daysI l [day, k] = 0 then (if (confP (countL l k)).isSome then 13 else 0) else daysI l [day, k]
theorem askE_ok {l : List Deed} {day k : Int} (h : askE l day k = 0) : okL l ∧ ¬ (confP (countL l k)).isSome = true ∧ daysI l [day, k] = 0 := by
  unfold askE at h
  split at h
  · rename_i h1
    split at h
    · cases h
    · rename_i h2
      exact ⟨days_ok h1, h2, h1⟩
  · rename_i h1; exact (h1 h).elim
theorem daysI_swap (l : List Deed) (a b : Int) : daysI l [a, b] = daysI l [b, a] := by
  unfold daysI
  simp only [List.any_cons, List.any_nil, Bool.or_false]
  rw [Bool.or_comm]
noncomputable def lockE (l : List Deed) (lock day k : Int) (ps : List Int) : Int :=
  if checkI l = 0 then (if isLockB lock then (if ps.any (fun n => !isPersB n) then 16 else askE l day k) else 15) else checkI l
theorem lockV_eq (l : List Deed) (lock day k : Int) (ps : List Int) : lockV l lock day k ps = .tup [.sl ((if lockE l lock day k ps = 0 then thrL (countL l k) lock 0 else []).map encD), vInt (lockE l lock day k ps)] := by
  unfold lockV lockE askE
  by_cases h1 : checkI l = 0
  · simp only [h1, if_true]
    by_cases h2 : isLockB lock = true
    · simp only [h2, if_true]
      by_cases h3 : (ps.any fun n => !isPersB n) = true
      · simp [h3]
      · simp only [h3, if_false, Bool.false_eq_true]
        by_cases h4 : daysI l [day, k] = 0
        · simp only [h4, if_true]
          by_cases h5 : (confP (countL l k)).isSome = true
          · simp [h5]
          · simp [h5]
        · simp only [h4, if_false, Bool.false_eq_true]
          rfl
    · simp [h2]
  · simp only [h1, if_false]
    rfl
theorem lockE_ok {l : List Deed} {lock day k : Int} {ps : List Int} (h : lockE l lock day k ps = 0) : askE l day k = 0 ∧ 1 ≤ lock := by
  unfold lockE at h
  split at h
  · split at h
    · rename_i h2
      split at h
      · cases h
      · unfold isLockB at h2
        rw [inI_iff] at h2
        exact ⟨h, h2.1⟩
    · cases h
  · rename_i h1; exact (h1 h).elim
theorem keysOfV_eq (l : List Deed) (a : Aska) (p : Bool) : keysOfV l a p = .tup [.sl ((if lockE l a.lo a.da a.kn (if p then [a.pe] else []) = 0 then keysL (countL l a.kn) a.lo a.da else []).map encK), vInt (lockE l a.lo a.da a.kn (if p then [a.pe] else []))] := by
  unfold keysOfV lockE askE
  rw [daysI_swap l a.kn a.da]
  have e1 : isLockB a.lo = inI a.lo 1 3 := rfl
  have e2 : ((if p then [a.pe] else []).any fun n => !isPersB n) = (p && !inI a.pe 1 99) := by cases p <;> simp [isPersB]
  rw [e1, e2]
  by_cases h1 : checkI l = 0
  · simp only [h1, if_true]
    by_cases h2 : inI a.lo 1 3 = true
    · simp only [h2, if_true]
      by_cases h3 : (p && !inI a.pe 1 99) = true
      · simp [h3]
      · simp only [h3, if_false, Bool.false_eq_true]
        by_cases h4 : daysI l [a.da, a.kn] = 0
        · simp only [h4, if_true]
          by_cases h5 : (confP (countL l a.kn)).isSome = true
          · simp [h5]
          · simp [h5]
        · simp only [h4, if_false, Bool.false_eq_true]
          rfl
    · simp [h2]
  · simp only [h1, if_false]
    rfl
end Go.Eng
/- The engine's text of a box that holds no slice yet. -/
namespace Go.Eng
open Go

theorem weak_ghostB {σ : S} (b nm : Name) (sz : Nat) (hb : σ.obj b = some (.box [.nilsl])) (hn : σ.obj nm = none) :
    Weak σ ⟨σ.nt, σ.env, upd (upd σ.obj nm (some (.arr sz []))) b (some (.box [.msl nm 0])), σ.pre, σ.base⟩ := by
  intro G φ m a w hC
  have hne : b ≠ nm := fun e => by subst e; rw [hb] at hn; cases hn
  obtain ⟨h1, h2, h3, us, T, f, h4, h5, h6, h7⟩ := hC.objs b _ hb
  have h0 : 0 < us.size := by rw [h6]; simp
  have h8 := h7 0 (by simp) h0
  simp only [List.getElem_cons_zero] at h8
  generalize hu : us[0] = u at h8
  cases h8 with
  | nilsl b' =>
  have hx := Ext.new (φ := φ) hn ⟨0, 0, 0, true, b'⟩ (.arr sz [])
  have hC' := hC.chg (w' := w) nm (.arr sz []) ⟨0, 0, 0, true, b'⟩ hx ⟨rfl, rfl, rfl, Nat.le_refl _⟩ (fun _ _ _ => rfl) (fun h => by cases h) (.inl ⟨rfl, rfl⟩)
  have hb' : (upd σ.obj nm (some (.arr sz []))) b = some (.box [.nilsl]) := by rw [upd_ne _ _ _ hne]; exact hb
  have hφ : (upd φ nm ⟨0, 0, 0, true, b'⟩) b = φ b := upd_ne _ _ _ hne
  have hx2 := Ext.same (φ := upd φ nm ⟨0, 0, 0, true, b'⟩) (o' := .box [.msl nm 0]) hb' rfl rfl
  refine ⟨_, hC'.chg (w' := w) b (.box [.msl nm 0]) _ hx2 ⟨rfl, rfl, rfl, Nat.le_refl _⟩ (fun _ _ _ => rfl) (fun _ => .inr ⟨⟨_, hb', rfl, by rw [hφ]; exact h2⟩, rfl⟩) ?_⟩
  rw [upd_id, hφ]
  refine ⟨h1, h2, by simp [D.one], us, T, f, h4, h5, by simpa using h6, fun i hi hi' => ?_⟩
  have hi0 : i = 0 := by simp at hi; exact hi
  subst hi0
  simp only [List.getElem_cons_zero]
  rw [hu]
  have hnm : (upd (upd σ.obj nm (some (.arr sz []))) b (some (.box [.msl nm 0]))) nm = some (.arr sz []) := by rw [upd_ne _ _ _ hne.symm, upd_same]
  refine .msl _ _ _ ⟨_, _, hnm, rfl, by simp, fun _ => ?_⟩ rfl
  rw [upd_same]; rfl
theorem weakM_ghostB {σ τ : S} (b nm : Name) (sz : Nat) (hb : σ.obj b = some (.box [.nilsl])) (hn : σ.obj nm = none) (ks : List Nat) (ns : List Name)
    (h : clS ks ns ⟨σ.nt, σ.env, upd (upd σ.obj nm (some (.arr sz []))) b (some (.box [.msl nm 0])), σ.pre, σ.base⟩) (hk : keepS ks ns ⟨σ.nt, σ.env, upd (upd σ.obj nm (some (.arr sz []))) b (some (.box [.msl nm 0])), σ.pre, σ.base⟩ = τ) : WeakM σ τ :=
  (weak_ghostB b nm sz hb hn).toM.trans (weakM_keep ks ns h hk)
theorem leftK_go {K : Exit → S → Prop} {obj : Name → Option O} {nm : Name} {σ : S} {env : List E} {ps : List Nat} {a b : Code} (h : obj nm = some (.loop env ps a b .ready none)) (hK : K .normal σ) : leftK K obj nm σ := by
  unfold leftK
  rw [h]
  exact hK
theorem cl_rangeFuncR {P : Program} {Γ : FuncId → Option Spec} (hΓ : ∀ f s, Γ f = some s → SSound P f s) {g : Operand} {ps : Array Tmp} {asg body : Code} {σ : S} {r : List Code} {K : Exit → S → Prop} (k k' : Nat) {f : FuncId} {s : Spec} {d : D} {obj' : Name → Option O}
    {env' : List E} {ps' : List Nat} {a' b' : Code} (hc : opC σ g = true) (hfn : clFn (opD σ g) = some f) (hne : f ≠ yid) (hs : Γ f = some s) (hnew : σ.obj (k :: σ.pre) = none)
    (hR : s.app (upd σ.obj (k :: σ.pre) (some (.loop ((List.range σ.nt).map σ.env) ps.toList asg body .ready none))) (k' :: σ.pre) (clArgs (opD σ g) [.yld (k :: σ.pre)]) = ⟨True, d, obj'⟩)
    (hL : obj' (k :: σ.pre) = some (.loop env' ps' a' b' .ready none))
    (hK : CL P r { σ with obj := upd obj' (k :: σ.pre) (some (.loop env' ps' a' b' .exhausted none)) } K) : CL P (.rangeFunc g ps asg body :: r) σ K := by
  refine cl_rangeFunc hΓ k k' hc hfn hne hs hnew (by rw [hR]; trivial) ?_
  rw [hR]
  refine leftK_go hL ?_
  show CL P r _ K
  have e : spent obj' (k :: σ.pre) = upd obj' (k :: σ.pre) (some (.loop env' ps' a' b' .exhausted none)) := by unfold spent; rw [hL]
  rw [e]
  exact hK
end Go.Eng
namespace Go.Eng
open Go Go.Proofs
set_option maxRecDepth 10000
/-! the states that may be, one after another -/
@[go_sem] theorem ta176 : tAgg Tryz.prog 176 = some (false, 1) := by kernel_rfl
@[go_sem] theorem ta195 : tAgg Tryz.prog 195 = some (false, 1) := by kernel_rfl
theorem s147 : PSound Tryz.prog 147 (pLI (fun _ => True) (fun l k => .clo (.func 165) [] [.ptr [.sl (l.map encD)], .ptr [vInt k]]) false) := by
  refine psoundB (rs := [.tmp 4]) Tryz.func147 Tryz.ntmps147 (by rfl) (by kernel_rfl) (by decide) (fun h => by cases h) ⟨_, rfl, ?_⟩
  rintro xs ⟨l, k, rfl, _⟩ hw
  refine ⟨Nat.le_of_ble_eq_true rfl, ?_⟩
  rw [pLI_fn]
  have hΓ := K0n_sound
  repeat refine cl_seq ?_
  refine cl_rs hΓ [2,3] [[2, 0],[3, 0]] fun K' hK => ?_
  simp only [go_sem]
  repeat (refine ⟨ob, ?_⟩)
  refine hK _ ?_ ?_ <;> clear K' hK <;> simp only [go_sem]
  repeat refine cl_seq ?_
  refine cl_rs hΓ [4] [[2, 0],[3, 0]] fun K' hK => ?_
  simp only [go_sem]
  repeat (refine ⟨ob, ?_⟩)
  refine hK _ ?_ ?_ <;> clear K' hK <;> simp only [go_sem]
  refine cl_ret ?_
  simp only [go_sem]
  all_goals first | done | rfl | exact ⟨by decide, rfl⟩ | exact ⟨by decide, trivial⟩
noncomputable def sMay : Spec := (pLNI fun l n k => .bool (mayB l n k)).toSpec
theorem sMay_app {obj : Name → Option O} {t : Name} {l : List Deed} {n : Nat} {k : Int} (h : n ≤ l.length) : sMay.app obj t [.v (.sl (l.map encD)), .v (vInt n), .v (vInt k)] = ⟨True, .v (.bool (mayB l n k)), obj⟩ := by
  simp only [sMay, PSpec.toSpec, frzL, frz, pLNI_fn, ite_self]
  congr 1
  simp only [eq_iff_iff, iff_true]
  exact ⟨⟨trivial, trivial, trivial, trivial⟩, l, n, k, rfl, h⟩
def pAft : PSpec := ⟨fun xs => ∃ (l : List Deed) (n : Nat), xs = [.sl (l.map encD), vInt n] ∧ n ≤ l.length ∧ ∀ d ∈ l, kindOk d, fun xs => match xs with | [.sl l, .int _ n] => encS (stA (l.map decD) n.toNat) | _ => .bool false, true⟩
theorem pAft_fn (l : List Deed) (n : Nat) : pAft.fn [.sl (l.map encD), vInt n] = encS (stA l n) := by
  simp only [pAft, decD_map, Int.toNat_natCast]
noncomputable def sAft : Spec := pAft.toSpec
theorem sAft_app {obj : Name → Option O} {t : Name} {l : List Deed} {n : Nat} (h : n ≤ l.length) (hk : ∀ d ∈ l, kindOk d) : sAft.app obj t [.v (.sl (l.map encD)), .v (vInt n)] = ⟨True, .v (encS (stA l n)), obj⟩ := by
  simp only [sAft, PSpec.toSpec, frzL, frz, pAft_fn, ite_self]
  congr 1
  simp only [eq_iff_iff, iff_true]
  exact ⟨⟨trivial, trivial, trivial⟩, l, n, rfl, h, hk⟩
/-! what lies outside, all of it anew -/
def setU (obj : Name → Option O) (L : List O) : Name → Option O := fun nm => match outH L nm with | some o => some o | none => obj nm
theorem setU_out {L1 L2 : List O} (h : L2.length = L1.length) : setU (outH L1) L2 = outH L2 := by
  funext nm
  unfold setU
  cases hx : isOut nm with
  | false => rw [outH_not hx, outH_not hx]
  | true =>
    obtain ⟨i, rfl⟩ := isOut_iff.1 hx
    simp only [outH]
    by_cases hi : i < L2.length
    · rw [List.getElem?_eq_getElem hi]
    · rw [List.getElem?_eq_none (by omega), List.getElem?_eq_none (by omega)]
theorem mkS_setU (n : Nat) (p : Name) (F H : Name → Option O) (L : List O) (l : List (Nat × E)) (h : List (Name × O)) :
    mkS n p (setU (fun nm => if own p nm = true then F nm else H nm) L) l h = mkS n p (setU H L) l h :=
  mkS_same fun nm hn => by unfold setU; simp [hn]
theorem OutC_setU (p : Name) (dom : Name → Bool) (F H : Name → Option O) (L : List O) :
    OutC p dom (setU (fun nm => if own p nm = true then F nm else H nm) L) = OutC p dom (setU H L) := by
  have e : ∀ nm, own p nm = false → setU (fun nm => if own p nm = true then F nm else H nm) L nm = setU H L nm := fun nm hn => by unfold setU; simp [hn]
  exact propext ⟨fun k nm q hn h => k nm q hn (by rw [e nm hn]; exact h), fun k nm q hn h => k nm q hn (by rw [← e nm hn]; exact h)⟩
def endN (q : Nat → Bool) (n : Nat) : Nat := match (List.range n).find? q with | some s => s + 1 | none => n
theorem endN_none {q : Nat → Bool} {n : Nat} (h : ∀ s, s < n → q s = false) : endN q n = n := by
  unfold endN
  rw [List.find?_eq_none.2 fun s hs => by rw [h s (List.mem_range.1 hs)]; decide]
theorem endN_at {q : Nat → Bool} {n s : Nat} (hs : s < n) (hq : q s = true) (h : ∀ j, j < s → q j = false) : endN q n = s + 1 := by
  unfold endN
  have : (List.range n).find? q = some s := by
    rw [List.find?_eq_some_iff_getElem]
    refine ⟨hq, s, by simpa using hs, by simp, fun j hj => by simp [h j hj]⟩
  rw [this]
set_option maxHeartbeats 8000000 in
theorem w165 {Γ : FuncId → Option Spec} (hΓ : ∀ f s, Γ f = some s → SSound Tryz.prog f s) {sY : Spec} (hY : Γ yid = some sY) (h6 : Γ 166 = some sMay) (h7 : Γ 167 = some sAft)
    {t : List Deed} {day : Int} (hl : t.length ≤ 60) (hk : ∀ d ∈ t, kindOk d) {I : Nat → List O} {b : Nat → Bool} (hI : ∀ s, (I s).length = (I 0).length)
    (hc : ∀ s, ∀ o ∈ I s, ∀ dom : Name → Bool, (∀ i, dom [i, 1] = true) → O.clos dom o = true) (hst : ∀ s, s ≤ t.length → mayB t s day = false → I (s + 1) = I s)
    (hap : ∀ s, s ≤ t.length → mayB t s day = true → ∀ obj tm, (∀ nm, isOut nm = true → obj nm = outH (I s) nm) → sY.app obj tm [.yld [0, 1], .v (vInt s), .v (encS (stA t s))] = ⟨True, .v (.bool (b s)), setU obj (I (s + 1))⟩) :
    ∃ c, Tryz.f165.body = some c ∧ CL Tryz.prog [c] (mkS 25 [0] (outH (I 0)) [(0, ⟨true, .yld [0, 1]⟩), (1, ⟨true, .v (.ptr [.sl (t.map encD)])⟩), (2, ⟨true, .v (.ptr [vInt day])⟩)] [])
      (fun e σ => (e = .normal ∨ e = .ret) ∧ ∀ i, σ.obj [i, 1] = outH (I (endN (fun s => mayB t s day && !b s) (t.length + 1))) [i, 1]) := by
  refine ⟨_, rfl, ?_⟩
  have hO : ∀ s hs, OutC [0] (domOf [0] hs) (outH (I s)) = True := fun s hs => eq_true (outC_outs (hc s) hs)
  have hset : ∀ s, setU (outH (I s)) (I (s + 1)) = outH (I (s + 1)) := fun s => setU_out ((hI _).trans (hI s).symm)
  obtain ⟨H, hH⟩ : ∃ H : Nat → Name → Option O, ∀ s, outH (I s) = H s := ⟨_, fun _ => rfl⟩
  simp only [hH] at hO hset hap ⊢
  have hY' : Γ 1000000000 = some sY := hY
  have hw1 : IntKind.i64.wrap ((t.length : Int) + 1) = ((t.length + 1 : Nat) : Int) := wrap_succ (n := 61) (by omega) (by unfold maxLen; omega)
  repeat refine cl_seq ?_
  refine cl_rs hΓ [0,1,2,7,8] [] fun K' hK => ?_
  simp only [go_sem, hO, hw1]
  repeat (refine ⟨ob, ?_⟩)
  refine hK _ ?_ ?_ <;> clear K' hK <;> simp only [go_sem, hO, hw1]
  repeat refine cl_seq ?_
  refine cl_block ?_
  repeat refine cl_seq ?_
  refine cl_loop (fun s : Nat => mkS 25 [0] (H s) [(0, ⟨true, .yld [0, 1]⟩), (1, ⟨true, .v (.ptr [.sl (t.map encD)])⟩), (2, ⟨true, .v (.ptr [vInt day])⟩), (7, ⟨true, .v (vInt (t.length + 1 : Nat))⟩), (8, ⟨true, .v (vInt s)⟩)] [])
    (fun s => s ≤ t.length + 1 ∧ ∀ j, j < s → (mayB t j day && !b j) = false) (fun s => t.length + 1 - s) 0 ⟨Nat.zero_le _, fun j hj => by omega⟩ (Weak.refl _) ?_
  rintro i ⟨hi, hq⟩
  repeat refine cl_seq ?_
  refine cl_rs hΓ [0,1,2,7,8,9] [] fun K' hK => ?_
  simp only [go_sem, hO]
  repeat (refine ⟨ob, ?_⟩)
  refine hK _ ?_ ?_ <;> clear K' hK <;> simp only [go_sem, hO]
  repeat refine cl_seq ?_
  refine cl_cond rfl rfl (fun hb => ?_) (fun hb => ?_)
  · have hlt : i ≤ t.length := by
      have : (i : Int) < (t.length + 1 : Nat) := by simpa using hb
      omega
    have hws : IntKind.i64.wrap ((i : Int) + 1) = ((i + 1 : Nat) : Int) := wrap_succ (n := 61) (by omega) (by unfold maxLen; omega)
    clear hb
    repeat refine cl_seq ?_
    refine cl_skip ?_
    repeat refine cl_seq ?_
    refine cl_block ?_
    repeat refine cl_seq ?_
    repeat refine cl_seq ?_
    refine cl_rs hΓ [0,1,2,4,7,8] [] fun K' hK => ?_
    simp only [go_sem, hO]
    repeat (refine ⟨ob, ?_⟩)
    refine hK _ ?_ ?_ <;> clear K' hK <;> simp only [go_sem, hO]
    have hmy := fun (obj : Name → Option O) (tm : Name) => sMay_app (obj := obj) (t := tm) (k := day) hlt
    have haf := fun (obj : Name → Option O) (tm : Name) => sAft_app (obj := obj) (t := tm) hlt hk
    cases hm : mayB t i day with
    | false =>
      repeat refine cl_seq ?_
      refine cl_rs hΓ [0,1,2,7,8,23] [] fun K' hK => ?_
      simp only [go_sem, hO, h6, h7, hY', hmy, haf, hm]
      repeat (refine ⟨ob, ?_⟩)
      refine hK _ ?_ ?_ <;> clear K' hK <;> simp only [go_sem, hO, h6, h7, hY', hmy, haf, hm]
      repeat refine cl_seq ?_
      refine cl_cond rfl rfl (fun hb => ?_) (fun hb => ?_)
      · cases hb
      repeat refine cl_seq ?_
      refine cl_skip ?_
      refine cl_nil ?_
      simp only [go_sem]
      refine cl_keep [0,1,2,7,8] [] ?_ ?_
      · simp only [go_sem, hO]
      simp only [go_sem, hO]
      repeat refine cl_seq ?_
      refine cl_r hΓ fun K' hK => ?_
      simp only [go_sem]
      repeat (refine ⟨ob, ?_⟩)
      refine hK _ ?_
      clear K' hK
      simp only [go_sem]
      refine ⟨i + 1, ⟨by omega, fun j hj => ?_⟩, by omega, ?_⟩
      · by_cases h : j < i
        · exact hq j h
        · have : j = i := by omega
          subst this
          rw [hm]; rfl
      have hHe : H (i + 1) = H i := by rw [← hH, ← hH, hst i hlt hm]
      rw [hHe]
      refine weak_eq [0,1,2,7,8] [] ?_ ?_
      · simp only [go_sem, hO, hws, Int.natCast_add, Int.natCast_one]
      · simp only [go_sem, hO, hws, Int.natCast_add, Int.natCast_one]
    | true =>
      have hap2 : ∀ tm, sY.app (fun nm => if own [0] nm = true then none else H i nm) tm [.yld [0, 1], .v (vInt i), .v (encS (stA t i))] = ⟨True, .v (.bool (b i)), setU (fun nm => if own [0] nm = true then none else H i nm) (I (i + 1))⟩ := fun tm => hap i hlt hm _ tm fun nm hn => by
        obtain ⟨k, rfl⟩ := isOut_iff.1 hn
        simp [own_out01]
      repeat refine cl_seq ?_
      refine cl_rs hΓ [0,1,2,7,8,23] [] fun K' hK => ?_
      simp only [go_sem, hO, h6, h7, hY', hmy, haf, hm, hap2, mkS_setU, OutC_setU, hset]
      repeat (refine ⟨ob, ?_⟩)
      refine hK _ ?_ ?_ <;> clear K' hK <;> simp only [go_sem, hO, h6, h7, hY', hmy, haf, hm, hap2, mkS_setU, OutC_setU, hset]
      repeat refine cl_seq ?_
      refine cl_cond rfl rfl (fun hb => ?_) (fun hb => ?_)
      · have hbi : b i = false := by simpa using hb
        repeat refine cl_seq ?_
        refine cl_ret ?_
        simp only [go_sem]
        have hen : endN (fun s => mayB t s day && !b s) (t.length + 1) = i + 1 := endN_at (by omega) (by simp [hm, hbi]) hq
        rw [hen]
        exact ⟨by simp, fun k => by simp [own_out01]⟩
      · have hbi : b i = true := by simpa using hb
        repeat refine cl_seq ?_
        refine cl_skip ?_
        refine cl_nil ?_
        simp only [go_sem]
        refine cl_keep [0,1,2,7,8] [] ?_ ?_
        · simp only [go_sem, hO]
        simp only [go_sem, hO]
        repeat refine cl_seq ?_
        refine cl_r hΓ fun K' hK => ?_
        simp only [go_sem]
        repeat (refine ⟨ob, ?_⟩)
        refine hK _ ?_
        clear K' hK
        simp only [go_sem]
        refine ⟨i + 1, ⟨by omega, fun j hj => ?_⟩, by omega, ?_⟩
        · by_cases h : j < i
          · exact hq j h
          · have : j = i := by omega
            subst this
            rw [hbi]; simp
        refine weak_eq [0,1,2,7,8] [] ?_ ?_
        · simp only [go_sem, hO, hws, Int.natCast_add, Int.natCast_one]
        · simp only [go_sem, hO, hws, Int.natCast_add, Int.natCast_one]
  · have hge : i = t.length + 1 := by
      have : ¬ (i : Int) < (t.length + 1 : Nat) := by simpa using hb
      omega
    subst hge
    clear hb
    repeat refine cl_seq ?_
    refine cl_exit ?_
    simp only [go_sem]
    refine cl_nil ?_
    simp only [go_sem]
    rw [endN_none hq]
    exact ⟨by simp, fun k => by simp [own_out01]⟩
end Go.Eng
namespace Go.Eng
open Go Go.Proofs
set_option maxRecDepth 10000
/-! what is told of a lock; the reference's Holders and Hands -/
noncomputable def whoR (f : Sta → Int) (l : List Deed) (lock day k : Int) : List Int := if lockE l lock day k [] = 0 then whoL f (thrL (countL l k) lock 0) day else []
noncomputable def keysR (l : List Deed) (lock day k : Int) (ps : List Int) : List (Int × Int) := if lockE l lock day k ps = 0 then keysL (countL l k) lock day else []
def putL (g : Int × Int → Int) (ks : List (Int × Int)) : List Int := ks.foldl (fun o x => insI o (g x)) []
theorem putL_next {g : Int × Int → Int} {ks : List (Int × Int)} {i : Nat} (h : i < ks.length) : putL g (ks.take (i + 1)) = insI (putL g (ks.take i)) (g ks[i]) := by
  unfold putL
  rw [List.take_add_one, List.getElem?_eq_getElem h, List.foldl_append]
  rfl
theorem putL_len (g : Int × Int → Int) : ∀ (ks : List (Int × Int)) (o : List Int), (ks.foldl (fun o x => insI o (g x)) o).length ≤ o.length + ks.length
  | [], o => by simp
  | x :: r, o => by
    have h1 := putL_len g r (insI o (g x))
    have h2 := insI_len o (g x)
    simp only [List.foldl_cons, List.length_cons]
    omega
theorem who_ref {l : List Deed} {lock day k : Int} {f : Sta → Int} {g : Int × Int → Int} (h : ∀ s : Sta, g (s.h, s.n) = f s) : whoR f l lock day k = putL g (keysR l lock day k []) := by
  unfold whoR keysR putL
  by_cases he : lockE l lock day k [] = 0
  · obtain ⟨h1, h2⟩ := lockE_ok he
    rw [if_pos he, if_pos he]
    exact who_keys (countL_valid (askE_ok h1).1 k) h2 day f g h
  · rw [if_neg he, if_neg he]
    rfl
theorem keysR_len (l : List Deed) (lock day k : Int) (ps : List Int) : (keysR l lock day k ps).length ≤ 61 := by
  unfold keysR
  split
  · rename_i he
    obtain ⟨h1, h2⟩ := lockE_ok he
    have h3 := (askE_ok h1).1.2.2
    have h4 := countL_len l k
    have h5 := keysTo_len (countL l k) (idxF (thrB lock) 0 (countL l k)) day ((idxF (thrB lock) 0 (countL l k)).length + 1)
    have h6 := idxF_len (thrB lock) (countL l k) 0
    unfold keysL
    omega
  · exact Nat.zero_le _
theorem keysOfV_R (l : List Deed) (a : Aska) (p : Bool) : keysOfV l a p = .tup [.sl ((keysR l a.lo a.da a.kn (if p then [a.pe] else [])).map encK), vInt (lockE l a.lo a.da a.kn (if p then [a.pe] else []))] := by
  rw [keysOfV_eq]
  rfl
def pLA (f : List Deed → Aska → V) (fl : Bool) : PSpec := ⟨fun xs => ∃ (l : List Deed) (a : Aska), xs = [.sl (l.map encD), encA a], fun xs => match xs with | [.sl l, .agg [.int _ a, .int _ b, .int _ c, .int _ d]] => f (l.map decD) ⟨a, b, c, d⟩ | _ => .bool false, fl⟩
theorem pLA_fn (f : List Deed → Aska → V) (fl : Bool) (l : List Deed) (a : Aska) : (pLA f fl).fn [.sl (l.map encD), encA a] = f l a := by
  simp only [pLA, encA, decD_map]
noncomputable def sLAB (f : List Deed → Aska → Bool → V) : Spec := (pLAB f).toSpec
theorem sLAB_app {f : List Deed → Aska → Bool → V} {obj : Name → Option O} {t : Name} {l : List Deed} {a b c d : Int} {p : Bool} : (sLAB f).app obj t [.v (.sl (l.map encD)), .agg [.v (vInt a), .v (vInt b), .v (vInt c), .v (vInt d)], .v (.bool p)] = ⟨True, .v (f l ⟨a, b, c, d⟩ p), obj⟩ := by
  have e : frzL (frz 6) obj [.v (.sl (l.map encD)), .agg [.v (vInt a), .v (vInt b), .v (vInt c), .v (vInt d)], .v (.bool p)] = ⟨True, [.sl (l.map encD), encA ⟨a, b, c, d⟩, .bool p], obj⟩ := by
    simp [frzL, frz, D.one, V.one, encA]
  simp only [sLAB, PSpec.toSpec, e, pLAB_fn, ite_self]
  congr 1
  simp only [eq_iff_iff, iff_true]
  exact ⟨trivial, l, _, p, rfl⟩
noncomputable def K58 : FuncId → Option Spec := fun f => match f with
  | 104 => some (sLAB keysOfV)
  | 96 => some sPut
  | _ => none
theorem K58_sound : ∀ f s, K58 f = some s → SSound Tryz.prog f s := by
  intro f s h
  unfold K58 at h
  split at h
  · cases h; exact s104.sound
  · cases h; exact s96.sound
  · cases h
@[go_sem] theorem K58_104 : K58 104 = some (sLAB keysOfV) := rfl
@[go_sem] theorem K58_96 : K58 96 = some sPut := rfl
set_option maxHeartbeats 8000000 in
theorem s42 : PSound Tryz.prog 42 (pLA (fun l a => .tup [.sl ((whoR (·.h) l a.lo a.da a.kn).map vInt), vInt (lockE l a.lo a.da a.kn [])]) false) := by
  refine psoundB (rs := [.tmp 4, .tmp 5]) Tryz.func42 Tryz.ntmps42 (by rfl) (by kernel_rfl) (by decide) (fun h => by cases h) ⟨_, rfl, ?_⟩
  rintro xs ⟨l, ⟨lo, pe, da, kn⟩, rfl⟩ hw
  refine ⟨Nat.le_of_ble_eq_true rfl, ?_⟩
  rw [pLA_fn]
  simp only [encA]
  have hΓ := K58_sound
  have he := keysOfV_R l ⟨lo, pe, da, kn⟩ false
  simp only [Bool.false_eq_true, if_false] at he
  rw [who_ref (g := Prod.fst) fun _ => rfl]
  have hln := keysR_len l lo da kn []
  generalize keysR l lo da kn [] = ks at he hln
  have hl : ks.length ≤ maxLen := by unfold maxLen; omega
  repeat refine cl_seq ?_
  refine cl_rs hΓ [0,3] [[3, 0]] fun K' hK => ?_
  simp only [go_sem]
  repeat (refine ⟨ob, ?_⟩)
  refine hK _ ?_ ?_ <;> clear K' hK <;> simp only [go_sem]
  repeat refine cl_seq ?_
  refine cl_rs hΓ [6,7] [] fun K' hK => ?_
  simp only [go_sem, sLAB_app, he]
  repeat (refine ⟨ob, ?_⟩)
  refine hK _ ?_ ?_ <;> clear K' hK <;> simp only [go_sem, sLAB_app, he]
  repeat refine cl_seq ?_
  refine cl_rs hΓ [6,7,8] [] fun K' hK => ?_
  simp only [go_sem]
  repeat (refine ⟨ob, ?_⟩)
  refine hK _ ?_ ?_ <;> clear K' hK <;> simp only [go_sem]
  refine cl_weakM (σ' := mkS 30 [0] (fun _ => none) [(6, ⟨true, .v (.sl (ks.map encK))⟩), (7, ⟨true, .v (vInt (lockE l lo da kn []))⟩), (8, ⟨true, .v (.sl [])⟩)] []) (weakM_frzk 8 .nilsl (by simp only [go_sem]) (by simp only [go_sem]) [6, 7, 8] [] ?_ ?_) ?_
  · simp only [go_sem]
  · simp only [go_sem]
  repeat refine cl_seq ?_
  refine cl_rs hΓ [7,8,17,18,19] [] fun K' hK => ?_
  simp only [go_sem]
  repeat (refine ⟨ob, ?_⟩)
  refine hK _ ?_ ?_ <;> clear K' hK <;> simp only [go_sem]
  repeat refine cl_seq ?_
  refine cl_block ?_
  repeat refine cl_seq ?_
  refine cl_loop' (fun s : Nat => [(8, ⟨true, .v (.sl ((putL Prod.fst (ks.take s)).map vInt))⟩), (19, ⟨true, .v (vInt s)⟩)]) (fun s => []) (fun s => s ≤ ks.length) (fun s => ks.length - s) 0 ?_ ?_ ?_ ?_
  · exact Nat.zero_le _
  · rfl
  · rfl
  rintro i hi
  simp only [go_sem]
  repeat refine cl_seq ?_
  repeat refine cl_seq ?_
  refine cl_rs hΓ [7,8,17,18,19,20] [] fun K' hK => ?_
  simp only [go_sem]
  repeat (refine ⟨ob, ?_⟩)
  refine hK _ ?_ ?_ <;> clear K' hK <;> simp only [go_sem]
  repeat refine cl_seq ?_
  refine cl_cond rfl rfl (fun hb => ?_) (fun hb => ?_)
  · have hlt : i < ks.length := by simpa using hb
    have hlt' : (i : Int) < ks.length := by omega
    clear hb
    repeat refine cl_seq ?_
    refine cl_skip ?_
    repeat refine cl_seq ?_
    refine cl_block ?_
    repeat refine cl_seq ?_
    have hpl := putL_len Prod.fst (ks.take i) []
    simp only [List.length_nil, List.length_take, Nat.zero_add] at hpl
    have hput := fun obj t (x : Int) => sPut_app (obj := obj) (t := t) (l := putL Prod.fst (ks.take i)) (n := x) (by unfold putL; omega)
    repeat refine cl_seq ?_
    refine cl_rs hΓ [7,8,10,17,18,19] [[10, 0]] fun K' hK => ?_
    simp only [go_sem, map_getD hlt, Int.toNat_natCast, Int.natCast_nonneg, hlt', encK, te132, tz85]
    repeat (refine ⟨ob, ?_⟩)
    refine hK _ ?_ ?_ <;> clear K' hK <;> simp only [go_sem, map_getD hlt, Int.toNat_natCast, Int.natCast_nonneg, hlt', encK, te132, tz85]
    repeat refine cl_seq ?_
    refine cl_r hΓ fun K' hK => ?_
    simp only [go_sem, hput]
    repeat (refine ⟨ob, ?_⟩)
    refine hK _ ?_
    clear K' hK
    simp only [go_sem]
    refine cl_keep [7,8,17,18,19] [] ?_ ?_
    · simp only [go_sem]
    simp only [go_sem]
    repeat refine cl_seq ?_
    refine cl_r hΓ fun K' hK => ?_
    simp only [go_sem]
    repeat (refine ⟨ob, ?_⟩)
    refine hK _ ?_
    clear K' hK
    simp only [go_sem]
    refine ⟨i + 1, hlt, (show ks.length - (i + 1) < ks.length - i by omega), ?_⟩
    rw [putL_next hlt]
    refine weak_eq [7,8,17,18,19] [] ?_ ?_
    · simp only [go_sem, wrap_succ hlt hl, Int.natCast_add, Int.natCast_one]
    · simp only [go_sem, wrap_succ hlt hl, Int.natCast_add, Int.natCast_one]
  · have hge : i = ks.length := by
      have : ¬ (i : Int) < ks.length := by simpa using hb
      omega
    subst hge
    clear hb
    repeat refine cl_seq ?_
    refine cl_exit ?_
    simp only [go_sem]
    refine cl_keep [7,8] [] ?_ ?_
    · simp only [go_sem]
    simp only [go_sem]
    rw [List.take_length]
    repeat refine cl_seq ?_
    refine cl_rs hΓ [4,5] [] fun K' hK => ?_
    simp only [go_sem]
    repeat (refine ⟨ob, ?_⟩)
    refine hK _ ?_ ?_ <;> clear K' hK <;> simp only [go_sem]
    refine cl_ret ?_
    simp only [go_sem]
set_option maxHeartbeats 8000000 in
theorem s43 : PSound Tryz.prog 43 (pLA (fun l a => .tup [.sl ((whoR (·.n) l a.lo a.da a.kn).map vInt), vInt (lockE l a.lo a.da a.kn [])]) false) := by
  refine psoundB (rs := [.tmp 4, .tmp 5]) Tryz.func43 Tryz.ntmps43 (by rfl) (by kernel_rfl) (by decide) (fun h => by cases h) ⟨_, rfl, ?_⟩
  rintro xs ⟨l, ⟨lo, pe, da, kn⟩, rfl⟩ hw
  refine ⟨Nat.le_of_ble_eq_true rfl, ?_⟩
  rw [pLA_fn]
  simp only [encA]
  have hΓ := K58_sound
  have he := keysOfV_R l ⟨lo, pe, da, kn⟩ false
  simp only [Bool.false_eq_true, if_false] at he
  rw [who_ref (g := Prod.snd) fun _ => rfl]
  have hln := keysR_len l lo da kn []
  generalize keysR l lo da kn [] = ks at he hln
  have hl : ks.length ≤ maxLen := by unfold maxLen; omega
  repeat refine cl_seq ?_
  refine cl_rs hΓ [0,3] [[3, 0]] fun K' hK => ?_
  simp only [go_sem]
  repeat (refine ⟨ob, ?_⟩)
  refine hK _ ?_ ?_ <;> clear K' hK <;> simp only [go_sem]
  repeat refine cl_seq ?_
  refine cl_rs hΓ [6,7] [] fun K' hK => ?_
  simp only [go_sem, sLAB_app, he]
  repeat (refine ⟨ob, ?_⟩)
  refine hK _ ?_ ?_ <;> clear K' hK <;> simp only [go_sem, sLAB_app, he]
  repeat refine cl_seq ?_
  refine cl_rs hΓ [6,7,8] [] fun K' hK => ?_
  simp only [go_sem]
  repeat (refine ⟨ob, ?_⟩)
  refine hK _ ?_ ?_ <;> clear K' hK <;> simp only [go_sem]
  refine cl_weakM (σ' := mkS 30 [0] (fun _ => none) [(6, ⟨true, .v (.sl (ks.map encK))⟩), (7, ⟨true, .v (vInt (lockE l lo da kn []))⟩), (8, ⟨true, .v (.sl [])⟩)] []) (weakM_frzk 8 .nilsl (by simp only [go_sem]) (by simp only [go_sem]) [6, 7, 8] [] ?_ ?_) ?_
  · simp only [go_sem]
  · simp only [go_sem]
  repeat refine cl_seq ?_
  refine cl_rs hΓ [7,8,17,18,19] [] fun K' hK => ?_
  simp only [go_sem]
  repeat (refine ⟨ob, ?_⟩)
  refine hK _ ?_ ?_ <;> clear K' hK <;> simp only [go_sem]
  repeat refine cl_seq ?_
  refine cl_block ?_
  repeat refine cl_seq ?_
  refine cl_loop' (fun s : Nat => [(8, ⟨true, .v (.sl ((putL Prod.snd (ks.take s)).map vInt))⟩), (19, ⟨true, .v (vInt s)⟩)]) (fun s => []) (fun s => s ≤ ks.length) (fun s => ks.length - s) 0 ?_ ?_ ?_ ?_
  · exact Nat.zero_le _
  · rfl
  · rfl
  rintro i hi
  simp only [go_sem]
  repeat refine cl_seq ?_
  repeat refine cl_seq ?_
  refine cl_rs hΓ [7,8,17,18,19,20] [] fun K' hK => ?_
  simp only [go_sem]
  repeat (refine ⟨ob, ?_⟩)
  refine hK _ ?_ ?_ <;> clear K' hK <;> simp only [go_sem]
  repeat refine cl_seq ?_
  refine cl_cond rfl rfl (fun hb => ?_) (fun hb => ?_)
  · have hlt : i < ks.length := by simpa using hb
    have hlt' : (i : Int) < ks.length := by omega
    clear hb
    repeat refine cl_seq ?_
    refine cl_skip ?_
    repeat refine cl_seq ?_
    refine cl_block ?_
    repeat refine cl_seq ?_
    have hpl := putL_len Prod.snd (ks.take i) []
    simp only [List.length_nil, List.length_take, Nat.zero_add] at hpl
    have hput := fun obj t (x : Int) => sPut_app (obj := obj) (t := t) (l := putL Prod.snd (ks.take i)) (n := x) (by unfold putL; omega)
    repeat refine cl_seq ?_
    refine cl_rs hΓ [7,8,10,17,18,19] [[10, 0]] fun K' hK => ?_
    simp only [go_sem, map_getD hlt, Int.toNat_natCast, Int.natCast_nonneg, hlt', encK, te132, tz85]
    repeat (refine ⟨ob, ?_⟩)
    refine hK _ ?_ ?_ <;> clear K' hK <;> simp only [go_sem, map_getD hlt, Int.toNat_natCast, Int.natCast_nonneg, hlt', encK, te132, tz85]
    repeat refine cl_seq ?_
    refine cl_r hΓ fun K' hK => ?_
    simp only [go_sem, hput]
    repeat (refine ⟨ob, ?_⟩)
    refine hK _ ?_
    clear K' hK
    simp only [go_sem]
    refine cl_keep [7,8,17,18,19] [] ?_ ?_
    · simp only [go_sem]
    simp only [go_sem]
    repeat refine cl_seq ?_
    refine cl_r hΓ fun K' hK => ?_
    simp only [go_sem]
    repeat (refine ⟨ob, ?_⟩)
    refine hK _ ?_
    clear K' hK
    simp only [go_sem]
    refine ⟨i + 1, hlt, (show ks.length - (i + 1) < ks.length - i by omega), ?_⟩
    rw [putL_next hlt]
    refine weak_eq [7,8,17,18,19] [] ?_ ?_
    · simp only [go_sem, wrap_succ hlt hl, Int.natCast_add, Int.natCast_one]
    · simp only [go_sem, wrap_succ hlt hl, Int.natCast_add, Int.natCast_one]
  · have hge : i = ks.length := by
      have : ¬ (i : Int) < ks.length := by simpa using hb
      omega
    subst hge
    clear hb
    repeat refine cl_seq ?_
    refine cl_exit ?_
    simp only [go_sem]
    refine cl_keep [7,8] [] ?_ ?_
    · simp only [go_sem]
    simp only [go_sem]
    rw [List.take_length]
    repeat refine cl_seq ?_
    refine cl_rs hΓ [4,5] [] fun K' hK => ?_
    simp only [go_sem]
    repeat (refine ⟨ob, ?_⟩)
    refine hK _ ?_ ?_ <;> clear K' hK <;> simp only [go_sem]
    refine cl_ret ?_
    simp only [go_sem]
end Go.Eng
namespace Go.Eng
open Go Go.Proofs
set_option maxRecDepth 10000
/-! the reference's Holds and Has -/
end Go.Eng
namespace Go.Eng
open Go Go.Proofs
set_option maxRecDepth 10000
/-! the contracts of who and answer -/
def fW (g : Nat) (s : Sta) : Int := if g = 92 then s.h else s.n
def pWho : PSpec := ⟨fun xs => ∃ (t : List Deed) (day : Int) (g : Nat), xs = [.sl (t.map encD), vInt day, .clo (.func g) [] []] ∧ (g = 92 ∨ g = 93) ∧ t.length ≤ 60 ∧ ∀ d ∈ t, kindOk d, fun xs => match xs with | [.sl t, .int _ day, .clo (.func g) _ _] => .sl ((whoL (fW g) (t.map decD) day).map vInt) | _ => .bool false, false⟩
theorem pWho_fn (t : List Deed) (day : Int) (g : Nat) : pWho.fn [.sl (t.map encD), vInt day, .clo (.func g) [] []] = .sl ((whoL (fW g) t day).map vInt) := by
  simp only [pWho, decD_map]
noncomputable def sWho : Spec := pWho.toSpec
theorem sWho_app {obj : Name → Option O} {tm : Name} {t : List Deed} {day : Int} {g : Nat} (hg : g = 92 ∨ g = 93) (hl : t.length ≤ 60) (hk : ∀ d ∈ t, kindOk d) :
    sWho.app obj tm [.v (.sl (t.map encD)), .v (vInt day), .v (.clo (.func g) [] [])] = ⟨True, .v (.sl ((whoL (fW g) t day).map vInt)), obj⟩ := by
  simp only [sWho, PSpec.toSpec, frzL, frz, pWho_fn, ite_self]
  congr 1
  simp only [eq_iff_iff, iff_true]
  exact ⟨⟨trivial, trivial, trivial, trivial⟩, t, day, g, rfl, hg, hl, hk⟩
def pG (g : Nat) (caps : List V) : Sta → Bool := match g, caps with
  | 106, [.ptr [.int _ k]] => fun s => s.h == k
  | 108, [.ptr [.int _ k]] => fun s => s.n == k
  | _, _ => fun s => s.o
def famP (g : Nat) (caps : List V) : Prop := (g = 106 ∧ ∃ k, caps = [.ptr [vInt k]]) ∨ (g = 108 ∧ ∃ k, caps = [.ptr [vInt k]]) ∨ (g = 111 ∧ caps = [])
def pAns : PSpec := ⟨fun xs => ∃ (t : List Deed) (day : Int) (g : Nat) (caps : List V), xs = [.sl (t.map encD), vInt day, .clo (.func g) [] caps] ∧ famP g caps ∧ t.length ≤ 60 ∧ ∀ d ∈ t, kindOk d, fun xs => match xs with | [.sl t, .int _ day, .clo (.func g) _ caps] => vInt (ansP (pG g caps) (t.map decD) day) | _ => .bool false, true⟩
noncomputable def sAns : Spec := pAns.toSpec
/-! what is told of an office, and the wardens -/
end Go.Eng
namespace Go.Eng
open Go Go.Proofs
set_option maxRecDepth 10000
/-! who: the rounds of its loop -/
@[go_sem] theorem ta123 : tAgg Tryz.prog 123 = some (false, 1) := by kernel_rfl
@[go_sem] theorem ta138 : tAgg Tryz.prog 138 = some (false, 1) := by kernel_rfl
def rngC : Code → Option (Array Tmp × Code × Code)
  | .seq a b => match rngC a with | some x => some x | none => rngC b
  | .block _ b => rngC b
  | .rangeFunc _ ps a b => some (ps, a, b)
  | _ => none
def codeIs (fn : Func) (ps : List Nat) (asg body : Code) : Prop := ∃ p, fn.body.bind rngC = some (p, asg, body) ∧ p.toList = ps
def evW (g : Nat) (c : V) (B : Name) : List E := (List.range 21).map (ofL eAny [(5, ⟨true, .v (.ptr [.clo (.func g) [] []])⟩), (7, ⟨true, .ref B 0⟩), (12, ⟨true, .v c⟩)])
theorem evW_ren (f : Name → Name) (g : Nat) (c : V) (B : Name) : (evW g c B).map (E.ren f) = evW g c (f B) := rfl
def gW (env : List E) : Nat := match (env.getD 5 eAny).d with | .v (.ptr [.clo (.func g) _ _]) => g | _ => 0
theorem gW_ev (g : Nat) (c : V) (B : Name) : gW (evW g c B) = g := rfl
def outW (f : Sta → Int) (L : List V) (s : V) : List Int := match s with | .agg [.int _ h, .int _ n, .bool o] => insI (L.map decI) (f ⟨h, n, o⟩) | _ => []
theorem outW_eq (f : Sta → Int) (l : List Int) (s : Sta) : outW f (l.map vInt) (encS s) = insI l (f s) := by
  simp only [outW, encS, decI_map]
def yW : YSpec where
  pre := fun env ps asg body os ds => ∃ (g : Nat) (c : V) (l : List Int) (n : Int) (s : Sta), (g = 92 ∨ g = 93) ∧ env = evW g c [0, 1] ∧ codeIs Tryz.f91 ps asg body ∧ os = [.box [.msl [1, 1] l.length], .arr 1 (l.map vInt)] ∧ l.Pairwise (· < ·) ∧ l.length < 1000 ∧ ds = [.v (vInt n), .v (encS s)]
  out := fun env _ _ _ os ds => match os, ds with
    | [_, .arr _ L], [_, .v s] => (⟨[(0, .box [.msl [1, 1] (outW (fW (gW env)) L s).length]), (1, .arr 1 ((outW (fW (gW env)) L s).map vInt))], [], .v (.bool true)⟩, none)
    | _, _ => (⟨[], [], .any⟩, none)
theorem yW_out (g : Nat) (c : V) (B : Name) (ps : List Nat) (asg body : Code) (x : O) (y : D) (l : List Int) (s : Sta) :
    yW.out (evW g c B) ps asg body [x, .arr 1 (l.map vInt)] [y, .v (encS s)] = (⟨[(0, .box [.msl [1, 1] (insI l (fW g s)).length]), (1, .arr 1 ((insI l (fW g s)).map vInt))], [], .v (.bool true)⟩, none) := by
  simp only [yW, gW_ev, outW_eq]
noncomputable def sS1 (f : Sta → V) : Spec := (pS1 f).toSpec
theorem sS1_app {f : Sta → V} {obj : Name → Option O} {t : Name} {h n : Int} {o : Bool} : (sS1 f).app obj t [.agg [.v (vInt h), .v (vInt n), .v (.bool o)]] = ⟨True, .v (f ⟨h, n, o⟩), obj⟩ := by
  have e : frzL (frz 6) obj [.agg [.v (vInt h), .v (vInt n), .v (.bool o)]] = ⟨True, [encS ⟨h, n, o⟩], obj⟩ := by
    simp [frzL, frz, D.one, V.one, encS]
  simp only [sS1, PSpec.toSpec, e]
  simp only [pS1, encS, if_true]
  congr 1
  simp only [eq_iff_iff, iff_true]
  exact ⟨trivial, ⟨h, n, o⟩, rfl⟩
noncomputable def K56 : FuncId → Option Spec := fun f => match f with
  | 92 => some (sS1 fun s => vInt s.h)
  | 93 => some (sS1 fun s => vInt s.n)
  | 94 => some sPutI
  | _ => none
theorem K56_sound : ∀ f s, K56 f = some s → SSound Tryz.prog f s := by
  intro f s h
  unfold K56 at h
  split at h
  · cases h; exact s92.sound
  · cases h; exact s93.sound
  · cases h; exact s94
  · cases h
@[go_sem] theorem K56_94 : K56 94 = some sPutI := rfl
theorem K56_g {g : Nat} (h : g = 92 ∨ g = 93) : K56 g = some (sS1 fun s => vInt (fW g s)) ∧ ¬ g = 1000000000 := by
  rcases h with rfl | rfl
  · exact ⟨rfl, by decide⟩
  · exact ⟨rfl, by decide⟩
set_option maxHeartbeats 4000000 in
theorem sYW : SSound Tryz.prog yid yW.toSpec := by
  refine yield_run ?_
  rintro env ps asg body os ds ⟨g, c, l, n, s, hg, rfl, ⟨p, hp, rfl⟩, rfl, hs, hl, rfl⟩ _
  have e : Tryz.f91.body.bind rngC = some (_, _, _) := rfl
  rw [e] at hp
  obtain ⟨rfl, rfl, rfl⟩ : _ ∧ _ ∧ _ := by simpa using hp
  clear hp e
  have hΓ := K56_sound
  have hP := mixedK
  obtain ⟨hk, hy⟩ := K56_g hg
  rw [yW_out]
  generalize hos : [O.box [.msl [1, 1] l.length], .arr 1 (l.map vInt)] = os
  have hO : ∀ hs, OutC [0] (domOf [0] hs) (outH os) = True := by
    subst hos
    refine fun hs => eq_true (outC_outs ?_ hs)
    intro o ho dom hd
    simp only [List.mem_cons, List.not_mem_nil, or_false] at ho
    rcases ho with rfl | rfl
    · simp [O.clos, D.closL, D.clos, hd]
    · rfl
  have hH0 : outH os [0, 1] = some (.box [.msl [1, 1] l.length]) := by subst hos; rfl
  have hH1 : outH os [1, 1] = some (.arr 1 (l.map vInt)) := by subst hos; rfl
  obtain ⟨H, hH⟩ : ∃ H, outH os = H := ⟨_, rfl⟩
  rw [hH] at hH0 hH1
  simp only [hH] at hO
  have hE : ∀ o σ, σ.obj [0, 1] = some (.box [.msl [1, 1] (insI l o).length]) → σ.obj [1, 1] = some (.arr 1 ((insI l o).map vInt)) →
      endC os ⟨[(0, .box [.msl [1, 1] (insI l o).length]), (1, .arr 1 ((insI l o).map vInt))], [], .v (.bool true)⟩ σ := by
    intro o σ h1 h2
    subst hos
    refine ⟨⟨h1, h2, trivial⟩, trivial, ?_⟩
    simp [D.clos, D.closL, O.clos, domC, distinct]
  have hput := fun obj t x (ho : obj [1, 1] = _) => sPutI_app (obj := obj) (t := t) (nm := [1, 1]) (k := l.length) (l := l) (x := x) ho rfl hs (by omega)
  obtain ⟨h, n', o⟩ := s
  simp only [encS, hH]
  refine cw_weak (weak_to 21 [0] H [(5, ⟨true, .v (.ptr [.clo (.func g) [] []])⟩), (7, ⟨true, .ref [0, 1] 0⟩), (14, ⟨true, .v (.agg [vInt h, vInt n', .bool o])⟩)] [] rfl rfl (fun _ _ => rfl) ?_ (by simp) ?_ ?_) ?_
  · intro q hq
    simp only [List.mem_cons, List.not_mem_nil, or_false] at hq
    rcases hq with rfl | rfl | rfl <;> rfl
  · simp [D.clos, domOf, own]
  · rw [hO]; trivial
  refine cl_of ?_
  refine cl_r hΓ fun K' hK => ?_
  simp only [go_sem, tp137, tz137]
  refine ⟨Nat.le_refl _, ?_⟩
  refine hK _ ?_
  clear K' hK
  refine (cw_keep [5, 7, 9] [[9, 0]] ?_ ?_ : CW _ _ _ _)
  · simp only [go_sem, hO]
  refine cl_of ?_
  simp only [go_sem]
  refine cl_block ?_
  repeat refine cl_seq ?_
  refine cl_d hΓ hP [[], [], [], [1, 2], [0, 1, 2, 3], [0, 1, 2, 3, 4]] (by kernel_rfl) fun K' hK => ?_
  simp only [go_sem, hH0, hH1, hk, hy, sS1_app, hput, putI_ins _ hs]
  repeat (refine ⟨ob, ?_⟩)
  first | refine ⟨by rfl, ?_⟩ | skip
  refine hK _ ?_
  clear K' hK
  simp only [go_sem]
  refine cl_nil ?_
  exact ⟨rfl, hE _ _ rfl rfl⟩
end Go.Eng
namespace Go.Eng
open Go Go.Proofs
set_option maxRecDepth 10000
/-! who: all its rounds, and the function -/
theorem setU3 (obj : Name → Option O) (x y z : O) : setU obj [x, y, z] = upd (upd (upd obj [1, 1] (some y)) [2, 1] (some z)) [0, 1] (some x) := by
  funext nm
  unfold setU
  by_cases h0 : nm = [0, 1]
  · subst h0; rfl
  by_cases h1 : nm = [1, 1]
  · subst h1; rfl
  by_cases h2 : nm = [2, 1]
  · subst h2; rfl
  rw [upd_ne _ _ _ h0, upd_ne _ _ _ h2, upd_ne _ _ _ h1]
  cases hx : isOut nm with
  | false => rw [outH_not hx]
  | true =>
    obtain ⟨i, rfl⟩ := isOut_iff.1 hx
    match i, h0, h1, h2 with
    | 0, h0, _, _ => exact (h0 rfl).elim
    | 1, _, h1, _ => exact (h1 rfl).elim
    | 2, _, _, h2 => exact (h2 rfl).elim
    | _ + 3, _, _, _ => rfl
theorem evW_names (g : Nat) (c : V) (B : Name) (a b : V) : namesL (roots (evW g c B) [.v a, .v b]) = [B] := rfl
theorem evW_names' (g : Nat) (c : V) (B : Name) : namesL ((evW g c B).map (·.d)) = [B] := rfl
theorem evW_cl (dom : Name → Bool) (g : Nat) (c : V) (B : Name) (a b : V) (h : dom B = true) : D.closL dom (roots (evW g c B) [.v a, .v b]) = true := by
  unfold roots evW
  simp [List.range, List.range.loop, ofL, D.closL, D.clos, eAny, h]
theorem reachW {obj : Name → Option O} {B A : Name} {ds : List D} {k : Nat} {sz : Nat} {L : List V} (hn : namesL ds = [B]) (hBA : (B == A) = false) (hB : obj B = some (.box [.msl A k])) (hA : obj A = some (.arr sz L)) : reach obj ds = [B, A] := by
  unfold reach
  rw [hn]
  show reachL obj (2997 + 1 + 1 + 1) [B] [] = [B, A]
  simp only [reachL, inL, List.any_nil, Bool.false_eq_true, if_false, hB, hA, namesO, namesL, namesD, List.nil_append, List.append_nil, List.any_cons, hBA, Bool.or_self, List.cons_append]
def IW (g : Nat) (c : V) (asg body : Code) (l : List Int) : List O := [.loop (evW g c [1, 1]) [13, 14] asg body .ready none, .box [.msl [2, 1] l.length], .arr 1 (l.map vInt)]
theorem yW_app {g : Nat} {c : V} {asg body : Code} {l : List Int} {n : Int} {s : Sta} (hg : g = 92 ∨ g = 93) (hc : codeIs Tryz.f91 [13, 14] asg body) (hs : l.Pairwise (· < ·)) (hl : l.length < 1000)
    (obj : Name → Option O) (tm : Name) (h : ∀ nm, isOut nm = true → obj nm = outH (IW g c asg body l) nm) :
    yW.toSpec.app obj tm [.yld [0, 1], .v (vInt n), .v (encS s)] = ⟨True, .v (.bool true), setU obj (IW g c asg body (insI l (fW g s)))⟩ := by
  have h0 : obj [0, 1] = some (.loop (evW g c [1, 1]) [13, 14] asg body .ready none) := h _ rfl
  have h1 : obj [1, 1] = some (.box [.msl [2, 1] l.length]) := h _ rfl
  have h2 : obj [2, 1] = some (.arr 1 (l.map vInt)) := h _ rfl
  have hr : reach obj (roots (evW g c [1, 1]) [.v (vInt n), .v (encS s)]) = [[1, 1], [2, 1]] := reachW (evW_names g c [1, 1] (vInt n) (encS s)) rfl h1 h2
  have e1 : cOs obj (roots (evW g c [1, 1]) [.v (vInt n), .v (encS s)]) = [.box [.msl [1, 1] l.length], .arr 1 (l.map vInt)] := by
    unfold cOs
    rw [hr]
    simp only [List.map_cons, List.map_nil, canonO, h1, h2, O.ren, D.renL, D.ren]
    rfl
  have e2 : yEnv obj (evW g c [1, 1]) [.v (vInt n), .v (encS s)] = evW g c [0, 1] := by
    unfold yEnv
    rw [hr, evW_ren]
    rfl
  have e3 : yDs obj (evW g c [1, 1]) [.v (vInt n), .v (encS s)] = [.v (vInt n), .v (encS s)] := rfl
  have e4 : yW.o obj (evW g c [1, 1]) [13, 14] asg body [.v (vInt n), .v (encS s)] = (⟨[(0, .box [.msl [1, 1] (insI l (fW g s)).length]), (1, .arr 1 ((insI l (fW g s)).map vInt))], [], .v (.bool true)⟩, none) := by
    unfold YSpec.o
    rw [e1, e2, e3, yW_out]
  have hpre : yW.pre (evW g c [0, 1]) [13, 14] asg body [.box [.msl [1, 1] l.length], .arr 1 (l.map vInt)] [.v (vInt n), .v (encS s)] := ⟨g, c, l, n, s, hg, rfl, hc, rfl, hs, hl, rfl⟩
  have hcl := evW_cl (inL [[1, 1], [2, 1]]) g c [1, 1] (vInt n) (encS s) rfl
  simp only [YSpec.toSpec, h0, e1, e2, e3, e4, hr, hcl]
  have e5 : (shut obj [[1, 1], [2, 1]] && true && fresh obj tm [] && !inL [[1, 1], [2, 1]] [0, 1] && decide ([D.v (vInt n), .v (encS s)].length = [13, 14].length) && [13, 14].all fun p => decide (p < (evW g c [1, 1]).length)) = true := by
    have : shut obj [[1, 1], [2, 1]] = true := by
      simp only [shut, List.all_cons, List.all_nil, h1, h2, O.clos, D.closL, D.clos]
      rfl
    rw [this]
    rfl
  rw [e5]
  unfold IW
  rw [setU3]
  simp only [hpre, and_self, Option.isNone_none, if_true, putN, putU]
  rfl
noncomputable def K57 : FuncId → Option Spec := fun f => match f with
  | 166 => some sMay
  | 167 => some sAft
  | 1000000000 => some yW.toSpec
  | _ => none
theorem K57_sound : ∀ f s, K57 f = some s → SSound Tryz.prog f s := by
  intro f s h
  unfold K57 at h
  split at h
  · cases h; exact s166.sound
  · cases h; exact s167.sound
  · cases h; exact sYW
  · cases h
theorem IW_clos (g : Nat) (c : V) (asg body : Code) (l : List Int) : ∀ o ∈ IW g c asg body l, ∀ dom : Name → Bool, (∀ i, dom [i, 1] = true) → O.clos dom o = true := by
  intro o ho dom hd
  simp only [IW, List.mem_cons, List.not_mem_nil, or_false] at ho
  rcases ho with rfl | rfl | rfl
  · simp [O.clos, evW, List.range, List.range.loop, ofL, D.clos, D.closL, eAny, hd]
  · simp [O.clos, D.closL, D.clos, hd]
  · rfl
def cW : CSpec where
  pre := fun os ds => ∃ (g : Nat) (c : V) (t : List Deed) (day : Int) (asg body : Code), (g = 92 ∨ g = 93) ∧ codeIs Tryz.f91 [13, 14] asg body ∧ t.length ≤ 60 ∧ (∀ d ∈ t, kindOk d) ∧ os = IW g c asg body [] ∧ ds = [.yld [0, 1], .v (.ptr [.sl (t.map encD)]), .v (.ptr [vInt day])]
  out := fun os ds => match os, ds with
    | [.loop env _ _ _ _ _, _, _], [_, .v (.ptr [.sl l]), .v (.ptr [.int _ day])] => ⟨[(1, .box [.msl [2, 1] (whoL (fW (gW env)) (l.map decD) day).length]), (2, .arr 1 ((whoL (fW (gW env)) (l.map decD) day).map vInt))], [], .tup []⟩
    | _, _ => ⟨[], [], .any⟩
theorem cW_out (g : Nat) (c : V) (asg body : Code) (l : List Int) (t : List Deed) (day : Int) (x : D) : cW.out (IW g c asg body l) [x, .v (.ptr [.sl (t.map encD)]), .v (.ptr [vInt day])] =
    ⟨[(1, .box [.msl [2, 1] (whoL (fW g) t day).length]), (2, .arr 1 ((whoL (fW g) t day).map vInt))], [], .tup []⟩ := by
  simp only [cW, IW, gW_ev, decD_map]
theorem s165W : SSound Tryz.prog 165 cW.toSpec := by
  refine csound (nt := 25) (rs := []) Tryz.func165 rfl (by rfl) (by kernel_rfl) (enter_of Tryz.func165 rfl (by kernel_rfl)) (notYid _ (by decide)) ?_
  rintro os ds ⟨g, c, t, day, asg, body, hg, hc, hl, hk, rfl, rfl⟩
  refine ⟨Nat.le_of_ble_eq_true rfl, ?_⟩
  rw [cW_out]
  obtain ⟨c', hc', h⟩ := w165 K57_sound (sY := yW.toSpec) rfl rfl rfl (t := t) (day := day) hl hk (I := fun s => IW g c asg body (whoTo (fW g) t day s)) (b := fun _ => true) (fun _ => rfl) (fun s => IW_clos g c asg body _)
    (fun s _ hm => by simp only [whoTo_next, hm]; rfl)
    (fun s hs hm obj tm ho => by
      have h1 := whoTo_ok (fW g) t day s
      have h2 := yW_app (n := s) (s := stA t s) hg hc h1.1 (by omega) obj tm ho
      rw [h2]
      simp only [whoTo_next, hm, if_true])
  have hc2 : ∀ c2, Tryz.f165.body = some c2 → c2 = c' := fun c2 h2 => by rw [h2] at hc'; exact Option.some.inj hc'
  rw [← hc2 _ rfl] at h
  refine CW.mono (cl_of h) ?_
  rintro e σ ⟨he, hob⟩
  have hen : endN (fun s => mayB t s day && !true) (t.length + 1) = t.length + 1 := endN_none fun s _ => by simp
  rw [hen] at hob
  have fin : (resAll Tryz.prog σ []).ok ∧ (resAll Tryz.prog σ []).d = .tup [] ∧ endC (IW g c asg body []) ⟨[(1, .box [.msl [2, 1] (whoL (fW g) t day).length]), (2, .arr 1 ((whoL (fW g) t day).map vInt))], [], .tup []⟩ σ := by
    refine ⟨fun r hr => by simp at hr, rfl, ⟨hob 0, hob 1, hob 2, trivial⟩, trivial, ?_⟩
    simp [D.clos, D.closL, O.clos, domC, distinct, IW]
  rcases he with rfl | rfl
  · exact fin
  · exact fin
theorem reachW3 {obj : Name → Option O} {R B A : Name} {ds : List D} {k sz : Nat} {L : List V} {env : List E} {ps : List Nat} {a b : Code} {st : LoopState} {pd : Option Code} (hn : namesL ds = [R]) (hR : obj R = some (.loop env ps a b st pd)) (he : namesL (env.map (·.d)) = [B])
    (hRB : (R == B) = false) (hRA : (R == A) = false) (hBA : (B == A) = false) (hB : obj B = some (.box [.msl A k])) (hA : obj A = some (.arr sz L)) : reach obj ds = [R, B, A] := by
  unfold reach
  rw [hn]
  show reachL obj (2996 + 1 + 1 + 1 + 1) [R] [] = [R, B, A]
  simp only [reachL, inL, List.any_nil, Bool.false_eq_true, if_false, hR, hB, hA, namesO, he, namesL, namesD, List.nil_append, List.append_nil, List.any_cons, hRB, hRA, hBA, Bool.or_self, List.cons_append]
theorem cW_app {g : Nat} {c : V} {t : List Deed} {day : Int} {asg body : Code} (hg : g = 92 ∨ g = 93) (hc : codeIs Tryz.f91 [13, 14] asg body) (hl : t.length ≤ 60) (hk : ∀ d ∈ t, kindOk d) {obj : Name → Option O} {tm R B A : Name}
    (hRB : R ≠ B) (hRA : R ≠ A) (hBA : B ≠ A) (hR : obj R = some (.loop (evW g c B) [13, 14] asg body .ready none)) (hB : obj B = some (.box [.msl A 0])) (hA : obj A = some (.arr 1 [])) :
    cW.toSpec.app obj tm [.yld R, .v (.ptr [.sl (t.map encD)]), .v (.ptr [vInt day])] = ⟨True, .tup [], upd (upd obj B (some (.box [.msl A (whoL (fW g) t day).length]))) A (some (.arr 1 ((whoL (fW g) t day).map vInt)))⟩ := by
  have b1 : (R == B) = false := by simpa using hRB
  have b2 : (R == A) = false := by simpa using hRA
  have b3 : (B == A) = false := by simpa using hBA
  have hr : reach obj [.yld R, .v (.ptr [.sl (t.map encD)]), .v (.ptr [vInt day])] = [R, B, A] := reachW3 rfl hR (evW_names' g c B) b1 b2 b3 hB hA
  have i0 : idx [R, B, A] R = 0 := by simp [idx]
  have i1 : idx [R, B, A] B = 1 := by simp [idx, hRB]
  have i2 : idx [R, B, A] A = 2 := by simp [idx, hRA, hBA]
  have e1 : cOs obj [.yld R, .v (.ptr [.sl (t.map encD)]), .v (.ptr [vInt day])] = IW g c asg body [] := by
    unfold cOs
    rw [hr]
    simp only [List.map_cons, List.map_nil, canonO, hR, hB, hA, O.ren, D.renL, D.ren, evW_ren, cin, i0, i1, i2]
    rfl
  have e2 : cDs obj [.yld R, .v (.ptr [.sl (t.map encD)]), .v (.ptr [vInt day])] = [.yld [0, 1], .v (.ptr [.sl (t.map encD)]), .v (.ptr [vInt day])] := by
    unfold cDs
    rw [hr]
    simp only [D.renL, D.ren, cin, i0]
  have hpre : cW.pre (IW g c asg body []) [.yld [0, 1], .v (.ptr [.sl (t.map encD)]), .v (.ptr [vInt day])] := ⟨g, c, t, day, asg, body, hg, hc, hl, hk, rfl, rfl⟩
  have e3 : (shut obj [R, B, A] && D.closL (inL [R, B, A]) [.yld R, .v (.ptr [.sl (t.map encD)]), .v (.ptr [vInt day])] && fresh obj tm []) = true := by
    have : shut obj [R, B, A] = true := by
      simp [shut, hR, hB, hA, O.clos, D.closL, D.clos, inL, evW, List.range, List.range.loop, ofL, eAny]
    rw [this]
    simp [D.closL, D.clos, inL, fresh]
  simp only [CSpec.toSpec, e1, e2, hr, cW_out, e3, hpre, and_self, putN, putU, D.ren, D.renL, O.ren, cout, List.getD_cons_zero, List.getD_cons_succ]
end Go.Eng
namespace Go.Eng
open Go Go.Proofs
set_option maxRecDepth 10000
/-! who -/
noncomputable def K65 : FuncId → Option Spec := fun f => match f with
  | 147 => some (sLI (fun _ => True) (fun l k => .clo (.func 165) [] [.ptr [.sl (l.map encD)], .ptr [vInt k]]) false)
  | 165 => some cW.toSpec
  | _ => none
theorem K65_sound : ∀ f s, K65 f = some s → SSound Tryz.prog f s := by
  intro f s h
  unfold K65 at h
  split at h
  · cases h; exact s147.sound
  · cases h; exact s165W
  · cases h
@[go_sem] theorem K65_147 : K65 147 = some (sLI (fun _ => True) (fun l k => .clo (.func 165) [] [.ptr [.sl (l.map encD)], .ptr [vInt k]]) false) := rfl
theorem s91 : PSound Tryz.prog 91 pWho := by
  refine psoundB (rs := [.tmp 6]) Tryz.func91 Tryz.ntmps91 (by rfl) (by kernel_rfl) (by decide) (fun h => by cases h) ⟨_, rfl, ?_⟩
  rintro xs ⟨t, day, g, rfl, hg, hl, hk⟩ hw
  refine ⟨Nat.le_of_ble_eq_true rfl, ?_⟩
  rw [pWho_fn]
  have hΓ := K65_sound
  have hst := fun (obj : Name → Option O) (tm : Name) (f : List Deed → Int → V) (fl : Bool) => sLI_app (P := fun _ => True) (f := f) (fl := fl) (obj := obj) (t := tm) (l := t) (k := day) trivial
  repeat refine cl_seq ?_
  refine cl_rs hΓ [0,1,5] [[5, 0]] fun K' hK => ?_
  simp only [go_sem]
  repeat (refine ⟨ob, ?_⟩)
  refine hK _ ?_ ?_ <;> clear K' hK <;> simp only [go_sem]
  refine cl_weakM (σ' := mkS 21 [0] (fun _ => none) [(0, ⟨true, .v (.sl (t.map encD))⟩), (1, ⟨true, .v (vInt day)⟩), (5, ⟨true, .v (.ptr [.clo (.func g) [] []])⟩)] []) (weakM_frzk 5 (.ref [5, 0] 0) (by simp only [go_sem]) (by simp only [go_sem]) [0, 1, 5] [] ?_ ?_) ?_
  · simp only [go_sem]
  · simp only [go_sem]
  repeat refine cl_seq ?_
  refine cl_rs hΓ [0,1,5,7] [[7, 0]] fun K' hK => ?_
  simp only [go_sem]
  repeat (refine ⟨ob, ?_⟩)
  refine hK _ ?_ ?_ <;> clear K' hK <;> simp only [go_sem]
  repeat refine cl_seq ?_
  refine cl_rs hΓ [5,7,12] [[7, 0]] fun K' hK => ?_
  simp only [go_sem, hst]
  repeat (refine ⟨ob, ?_⟩)
  refine hK _ ?_ ?_ <;> clear K' hK <;> simp only [go_sem, hst]
  repeat refine cl_seq ?_
  refine cl_block ?_
  repeat refine cl_seq ?_
  refine cl_weakM (σ' := mkS 21 [0] (fun _ => none) [(5, ⟨true, .v (.ptr [.clo (.func g) [] []])⟩), (7, ⟨true, .ref [7, 0] 0⟩), (12, ⟨true, .v (.clo (.func 165) [] [.ptr [.sl (t.map encD)], .ptr [vInt day]])⟩)] [([7, 0], .box [.msl [32, 0] 0]), ([32, 0], .arr 1 [])]) (weakM_ghostB [7, 0] [32, 0] 1 (by simp only [go_sem]) (by simp only [go_sem]) [5, 7, 12] [[7, 0], [32, 0]] ?_ ?_) ?_
  · simp only [go_sem]
  · simp only [go_sem]
  have happ := fun (obj : Name → Option O) (asg body : Code) (hc : codeIs Tryz.f91 [13, 14] asg body) => cW_app (c := .clo (.func 165) [] [.ptr [.sl (t.map encD)], .ptr [vInt day]]) (t := t) (day := day) hg hc hl hk (obj := obj) (tm := [31, 0]) (R := [30, 0]) (B := [7, 0]) (A := [32, 0]) (by decide) (by decide) (by decide)
  refine cl_rangeFuncR hΓ 30 31 (f := 165) (s := cW.toSpec) rfl rfl (by decide) rfl rfl (happ _ _ _ ⟨_, rfl, rfl⟩ rfl rfl rfl) rfl ?_
  refine cl_nil ?_
  show CL Tryz.prog (_ :: _) _ _
  refine cl_keep [7] [[7, 0],[32, 0]] ?_ ?_
  · simp only [go_sem]
  simp only [go_sem]
  repeat refine cl_seq ?_
  refine cl_rs hΓ [6] [[32, 0]] fun K' hK => ?_
  simp only [go_sem]
  repeat (refine ⟨ob, ?_⟩)
  refine hK _ ?_ ?_ <;> clear K' hK <;> simp only [go_sem]
  refine cl_ret ?_
  simp only [go_sem]
end Go.Eng
namespace Go.Eng
open Go Go.Proofs
set_option maxRecDepth 10000
/-! answer: the rounds of its loop -/
end Go.Eng
namespace Go.Eng
open Go Go.Proofs
set_option maxRecDepth 10000
/-! answer: all its rounds, and the function -/
end Go.Eng
namespace Go.Eng
open Go Go.Proofs
set_option maxRecDepth 10000
/-! InOffice and Wardens -/
theorem thr_len {l : List Deed} (h : okL l) (k lo pe : Int) : (thrL (countL l k) lo pe).length ≤ 60 := by
  have h1 := List.length_filter_le (fun d => isOfB d lo pe) (countL l k)
  have h2 := countL_len l k
  have h3 := h.2.2
  unfold thrL
  omega
theorem thr_kind {l : List Deed} (h : okL l) (k lo pe : Int) : ∀ d ∈ thrL (countL l k) lo pe, kindOk d := fun d hd => kind_of (countL_valid h k d (List.mem_filter.1 hd).1)
def pLI3 (f : List Deed → Int → Int → Int → V) (fl : Bool) : PSpec := ⟨fun xs => ∃ (l : List Deed) (a b c : Int), xs = [.sl (l.map encD), vInt a, vInt b, vInt c], fun xs => match xs with | [.sl l, .int _ a, .int _ b, .int _ c] => f (l.map decD) a b c | _ => .bool false, fl⟩
theorem pLI3_fn (f : List Deed → Int → Int → Int → V) (fl : Bool) (l : List Deed) (a b c : Int) : (pLI3 f fl).fn [.sl (l.map encD), vInt a, vInt b, vInt c] = f l a b c := by
  simp only [pLI3, decD_map]
end Go.Eng
namespace Go.Eng
open Go Go.Proofs
set_option maxRecDepth 10000
/-! Holders, Hands, Holds, Has -/
noncomputable def sLock : Spec := (pLock lockV).toSpec
theorem sLock_nil {obj : Name → Option O} {t : Name} {l : List Deed} {a b c : Int} : sLock.app obj t [.v (.sl (l.map encD)), .v (vInt a), .v (vInt b), .v (vInt c), .nilsl] = ⟨True, .v (lockV l a b c []), obj⟩ := by
  have e := pLock_fn lockV l a b c []
  simp only [List.map_nil] at e
  simp only [sLock, PSpec.toSpec, frzL, frz, e]
  simp only [pLock, Bool.false_eq_true, if_false]
  congr 1
  simp only [eq_iff_iff, iff_true]
  exact ⟨⟨trivial, trivial, trivial, trivial, trivial, trivial⟩, l, a, b, c, [], rfl⟩
noncomputable def K63 : FuncId → Option Spec := fun f => match f with
  | 90 => some sLock
  | 91 => some sWho
  | _ => none
theorem K63_sound : ∀ f s, K63 f = some s → SSound Tryz.prog f s := by
  intro f s h
  unfold K63 at h
  split at h
  · cases h; exact s90.sound
  · cases h; exact s91.sound
  · cases h
@[go_sem] theorem K63_90 : K63 90 = some sLock := rfl
@[go_sem] theorem K63_91 : K63 91 = some sWho := rfl
set_option maxHeartbeats 8000000 in
theorem s31 : PSound Tryz.prog 31 (pLI3 (fun l lock day k => .tup [.sl ((whoR (·.h) l lock day k).map vInt), vInt (lockE l lock day k [])]) false) := by
  refine psoundB (rs := [.tmp 8, .tmp 9]) Tryz.func31 Tryz.ntmps31 (by rfl) (by kernel_rfl) (by decide) (fun h => by cases h) ⟨_, rfl, ?_⟩
  rintro xs ⟨l, lock, day, k, rfl⟩ hw
  refine ⟨Nat.le_of_ble_eq_true rfl, ?_⟩
  rw [pLI3_fn]
  have hΓ := K63_sound
  have hle := lockV_eq l lock day k []
  unfold whoR
  repeat refine cl_seq ?_
  refine cl_rs hΓ [0,1,2,3] [] fun K' hK => ?_
  simp only [go_sem]
  repeat (refine ⟨ob, ?_⟩)
  refine hK _ ?_ ?_ <;> clear K' hK <;> simp only [go_sem]
  repeat refine cl_seq ?_
  refine cl_rs hΓ [2,10,11] [] fun K' hK => ?_
  simp only [go_sem, sLock_nil, hle]
  repeat (refine ⟨ob, ?_⟩)
  refine hK _ ?_ ?_ <;> clear K' hK <;> simp only [go_sem, sLock_nil, hle]
  repeat refine cl_seq ?_
  refine cl_rs hΓ [2,10,11,21] [] fun K' hK => ?_
  simp only [go_sem]
  repeat (refine ⟨ob, ?_⟩)
  refine hK _ ?_ ?_ <;> clear K' hK <;> simp only [go_sem]
  repeat refine cl_seq ?_
  refine cl_cond rfl rfl (fun hb => ?_) (fun hb => ?_)
  · repeat refine cl_seq ?_
    have hn : ¬ lockE l lock day k [] = 0 := by simpa using hb
    simp only [if_neg hn]
    repeat refine cl_seq ?_
    refine cl_rs hΓ [8,9] [] fun K' hK => ?_
    simp only [go_sem]
    repeat (refine ⟨ob, ?_⟩)
    refine hK _ ?_ ?_ <;> clear K' hK <;> simp only [go_sem]
    refine cl_ret ?_
    simp only [go_sem]
  have hq : lockE l lock day k [] = 0 := by simpa using hb
  obtain ⟨hq1, hq2⟩ := lockE_ok hq
  have h3 := (askE_ok hq1).1
  have hwho := fun (obj : Name → Option O) (tm : Name) => sWho_app (obj := obj) (tm := tm) (day := day) (g := 92) (by decide) (thr_len h3 k lock 0) (thr_kind h3 k lock 0)
  have hf : fW 92 = fun s => s.h := rfl
  rw [hf] at hwho
  simp only [hq, if_true]
  repeat refine cl_seq ?_
  refine cl_skip ?_
  repeat refine cl_seq ?_
  refine cl_rs hΓ [8,9] [] fun K' hK => ?_
  simp only [go_sem, hwho]
  repeat (refine ⟨ob, ?_⟩)
  refine hK _ ?_ ?_ <;> clear K' hK <;> simp only [go_sem, hwho]
  refine cl_ret ?_
  simp only [go_sem]
set_option maxHeartbeats 8000000 in
theorem s32 : PSound Tryz.prog 32 (pLI3 (fun l lock day k => .tup [.sl ((whoR (·.n) l lock day k).map vInt), vInt (lockE l lock day k [])]) false) := by
  refine psoundB (rs := [.tmp 8, .tmp 9]) Tryz.func32 Tryz.ntmps32 (by rfl) (by kernel_rfl) (by decide) (fun h => by cases h) ⟨_, rfl, ?_⟩
  rintro xs ⟨l, lock, day, k, rfl⟩ hw
  refine ⟨Nat.le_of_ble_eq_true rfl, ?_⟩
  rw [pLI3_fn]
  have hΓ := K63_sound
  have hle := lockV_eq l lock day k []
  unfold whoR
  repeat refine cl_seq ?_
  refine cl_rs hΓ [0,1,2,3] [] fun K' hK => ?_
  simp only [go_sem]
  repeat (refine ⟨ob, ?_⟩)
  refine hK _ ?_ ?_ <;> clear K' hK <;> simp only [go_sem]
  repeat refine cl_seq ?_
  refine cl_rs hΓ [2,10,11] [] fun K' hK => ?_
  simp only [go_sem, sLock_nil, hle]
  repeat (refine ⟨ob, ?_⟩)
  refine hK _ ?_ ?_ <;> clear K' hK <;> simp only [go_sem, sLock_nil, hle]
  repeat refine cl_seq ?_
  refine cl_rs hΓ [2,10,11,21] [] fun K' hK => ?_
  simp only [go_sem]
  repeat (refine ⟨ob, ?_⟩)
  refine hK _ ?_ ?_ <;> clear K' hK <;> simp only [go_sem]
  repeat refine cl_seq ?_
  refine cl_cond rfl rfl (fun hb => ?_) (fun hb => ?_)
  · repeat refine cl_seq ?_
    have hn : ¬ lockE l lock day k [] = 0 := by simpa using hb
    simp only [if_neg hn]
    repeat refine cl_seq ?_
    refine cl_rs hΓ [8,9] [] fun K' hK => ?_
    simp only [go_sem]
    repeat (refine ⟨ob, ?_⟩)
    refine hK _ ?_ ?_ <;> clear K' hK <;> simp only [go_sem]
    refine cl_ret ?_
    simp only [go_sem]
  have hq : lockE l lock day k [] = 0 := by simpa using hb
  obtain ⟨hq1, hq2⟩ := lockE_ok hq
  have h3 := (askE_ok hq1).1
  have hwho := fun (obj : Name → Option O) (tm : Name) => sWho_app (obj := obj) (tm := tm) (day := day) (g := 93) (by decide) (thr_len h3 k lock 0) (thr_kind h3 k lock 0)
  have hf : fW 93 = fun s => s.n := rfl
  rw [hf] at hwho
  simp only [hq, if_true]
  repeat refine cl_seq ?_
  refine cl_skip ?_
  repeat refine cl_seq ?_
  refine cl_rs hΓ [8,9] [] fun K' hK => ?_
  simp only [go_sem, hwho]
  repeat (refine ⟨ob, ?_⟩)
  refine hK _ ?_ ?_ <;> clear K' hK <;> simp only [go_sem, hwho]
  refine cl_ret ?_
  simp only [go_sem]
end Go.Eng
namespace Go.Eng
open Go Go.Proofs

noncomputable def sSameI : Spec := pSameI.toSpec
theorem sSameI_app {obj : Name → Option O} {t : Name} {l k : List Int} : sSameI.app obj t [.v (.sl (l.map vInt)), .v (.sl (k.map vInt))] = ⟨True, .v (.bool (decide (l = k))), obj⟩ := by
  simp only [sSameI, PSpec.toSpec, frzL, frz, pSameI_fn]
  congr 1
  simp only [eq_iff_iff, iff_true]
  exact ⟨⟨trivial, trivial, trivial⟩, l, k, rfl⟩
end Go.Eng
namespace Go.Eng
open Go Go.Proofs
set_option maxRecDepth 10000
/-! what is told of a lock, held against each other -/
@[go_sem] theorem ta166 : tAgg Tryz.prog 166 = some (true, 3) := by kernel_rfl
@[go_sem] theorem tp166 : tPlaces Tryz.prog 166 = some [(0, 1), (1, 1), (2, 1)] := by kernel_rfl
@[go_sem] theorem tz166 : tZero Tryz.prog 166 = some (.agg #[(.slice none 0 0), (.slice none 0 0), (.int .i64 0)]) := by kernel_rfl
@[go_sem] theorem tf166_0 : tField Tryz.prog 166 0 = some (0, 1, false) := by kernel_rfl
@[go_sem] theorem tf166_1 : tField Tryz.prog 166 1 = some (1, 1, false) := by kernel_rfl
@[go_sem] theorem tf166_2 : tField Tryz.prog 166 2 = some (2, 1, false) := by kernel_rfl
@[go_sem] theorem ta99 : tAgg Tryz.prog 99 = some (true, 2) := by kernel_rfl
@[go_sem] theorem tr99 : tArr Tryz.prog 99 = some (2, 1, false) := by kernel_rfl
@[go_sem] theorem tp99 : tPlaces Tryz.prog 99 = some [(0, 1), (1, 1)] := by kernel_rfl
@[go_sem] theorem tz99 : tZero Tryz.prog 99 = some (.agg #[(.slice none 0 0), (.slice none 0 0)]) := by kernel_rfl
@[go_sem] theorem tp48 : tPlaces Tryz.prog 48 = some [(0, 1), (1, 1), (2, 1), (3, 1)] := by kernel_rfl
@[go_sem] theorem tz48 : tZero Tryz.prog 48 = some (.agg #[(.int .i64 0), (.int .i64 0), (.int .i64 0), (.int .i64 0)]) := by kernel_rfl
set_option maxHeartbeats 4000000 in
theorem s164 : PSound Tryz.prog 164 pSameI := by
  refine psoundB (rs := [.tmp 4]) Tryz.func164 Tryz.ntmps164 (by rfl) (by kernel_rfl) (by decide) pSameI_flat ⟨_, rfl, ?_⟩
  rintro xs ⟨l, k, rfl⟩ hw
  have hl : l.length ≤ maxLen := by have := hw.1.1; simpa using this
  refine ⟨Nat.le_of_ble_eq_true rfl, ?_⟩
  rw [pSameI_fn]
  have hΓ := K0n_sound
  have hP := mixedK
  repeat refine cl_seq ?_
  repeat refine cl_seq ?_
  refine cl_rs hΓ [0,1] [] fun K' hK => ?_
  simp only [go_sem]
  repeat (refine ⟨ob, ?_⟩)
  refine hK _ ?_ ?_ <;> clear K' hK <;> simp only [go_sem]
  repeat refine cl_seq ?_
  refine cl_rs hΓ [0,1,10] [] fun K' hK => ?_
  simp only [go_sem]
  repeat (refine ⟨ob, ?_⟩)
  refine hK _ ?_ ?_ <;> clear K' hK <;> simp only [go_sem]
  repeat refine cl_seq ?_
  refine cl_cond rfl rfl (fun hb => ?_) (fun hb => ?_)
  · repeat refine cl_seq ?_
    repeat refine cl_seq ?_
    refine cl_rs hΓ [4] [] fun K' hK => ?_
    simp only [go_sem]
    repeat (refine ⟨ob, ?_⟩)
    refine hK _ ?_ ?_ <;> clear K' hK <;> simp only [go_sem]
    refine cl_ret ?_
    simp only [go_sem]
    have : l ≠ k := by rintro rfl; simp at hb
    simp [this]
  have hlen : l.length = k.length := by simp at hb; omega
  clear hb
  repeat refine cl_seq ?_
  refine cl_skip ?_
  repeat refine cl_seq ?_
  refine cl_rs hΓ [0,1,12,13] [] fun K' hK => ?_
  simp only [go_sem]
  repeat (refine ⟨ob, ?_⟩)
  refine hK _ ?_ ?_ <;> clear K' hK <;> simp only [go_sem]
  repeat refine cl_seq ?_
  refine cl_block ?_
  repeat refine cl_seq ?_
  refine cl_loop' (fun i : Nat => [(13, ⟨true, .v (vInt i)⟩)]) (fun i => []) (fun i => i ≤ l.length ∧ ∀ j (h : j < l.length) (h' : j < k.length), j < i → l[j] = k[j]) (fun i => l.length - i) 0 ?_ ?_ ?_ ?_
  · exact ⟨Nat.zero_le _, fun j h h' hj => by omega⟩
  · rfl
  · rfl
  rintro i ⟨hi, hz⟩
  simp only [go_sem]
  repeat refine cl_seq ?_
  repeat refine cl_seq ?_
  refine cl_rs hΓ [0,1,12,13,14] [] fun K' hK => ?_
  simp only [go_sem]
  repeat (refine ⟨ob, ?_⟩)
  refine hK _ ?_ ?_ <;> clear K' hK <;> simp only [go_sem]
  repeat refine cl_seq ?_
  refine cl_cond rfl rfl (fun hb => ?_) (fun hb => ?_)
  · have hlt : i < l.length := by simpa using hb
    have hlt' : (i : Int) < l.length := by omega
    have hlk : i < k.length := by omega
    have hlk' : (i : Int) < k.length := by omega
    clear hb
    repeat refine cl_seq ?_
    refine cl_skip ?_
    repeat refine cl_seq ?_
    refine cl_block ?_
    repeat refine cl_seq ?_
    repeat refine cl_seq ?_
    refine cl_rs hΓ [0,1,5,12,13] [] fun K' hK => ?_
    simp only [go_sem]
    repeat (refine ⟨ob, ?_⟩)
    refine hK _ ?_ ?_ <;> clear K' hK <;> simp only [go_sem]
    repeat refine cl_seq ?_
    refine cl_ds hΓ hP [[], [], [0, 1], [0, 1, 2], [], [], [4, 5], [4, 5, 6], [0, 1, 2, 3, 4, 5, 6, 7]] [0,1,12,13,24] [] (by kernel_rfl) fun K' hK => ?_
    simp only [go_sem, map_getD hlt, map_getD hlk, Int.toNat_natCast, Int.natCast_nonneg, hlt', hlk']
    repeat (refine ⟨ob, ?_⟩)
    first | refine ⟨by rfl, ?_⟩ | skip
    refine hK _ ?_ ?_ <;> clear K' hK <;> simp only [go_sem, map_getD hlt, map_getD hlk, Int.toNat_natCast, Int.natCast_nonneg, hlt', hlk']
    repeat refine cl_seq ?_
    refine cl_cond rfl rfl (fun hb => ?_) (fun hb => ?_)
    · repeat refine cl_seq ?_
      repeat refine cl_seq ?_
      refine cl_rs hΓ [4] [] fun K' hK => ?_
      simp only [go_sem]
      repeat (refine ⟨ob, ?_⟩)
      refine hK _ ?_ ?_ <;> clear K' hK <;> simp only [go_sem]
      refine cl_ret ?_
      simp only [go_sem]
      have : l ≠ k := by
        rintro rfl
        simp at hb
      simp [this]
    · have hnext : l[i] = k[i] := by
        simpa using hb
      clear hb
      repeat refine cl_seq ?_
      refine cl_skip ?_
      refine cl_nil ?_
      simp only [go_sem]
      refine cl_keep [0,1,12,13] [] ?_ ?_
      · simp only [go_sem]
      simp only [go_sem]
      repeat refine cl_seq ?_
      refine cl_r hΓ fun K' hK => ?_
      simp only [go_sem]
      repeat (refine ⟨ob, ?_⟩)
      refine hK _ ?_
      clear K' hK
      simp only [go_sem]
      refine ⟨i + 1, ⟨by omega, fun j h h' hj => ?_⟩, by omega, ?_⟩
      · rcases Nat.lt_succ_iff_lt_or_eq.1 hj with h1 | h1
        · exact hz j h h' h1
        · subst h1; exact hnext
      refine weak_eq [0,1,12,13] [] ?_ ?_
      · simp only [go_sem, wrap_succ hlt hl, Int.natCast_add, Int.natCast_one]
      · simp only [go_sem, wrap_succ hlt hl, Int.natCast_add, Int.natCast_one]
  · have hge : i = l.length := by
      have : ¬ (i : Int) < l.length := by simpa using hb
      omega
    subst hge
    repeat refine cl_seq ?_
    refine cl_exit ?_
    simp only [go_sem]
    refine cl_keep [] [] ?_ ?_
    · simp only [go_sem]
    simp only [go_sem]
    repeat refine cl_seq ?_
    refine cl_rs hΓ [4] [] fun K' hK => ?_
    simp only [go_sem]
    repeat (refine ⟨ob, ?_⟩)
    refine hK _ ?_ ?_ <;> clear K' hK <;> simp only [go_sem]
    refine cl_ret ?_
    simp only [go_sem]
    have : l = k := List.ext_getElem hlen fun j h h' => hz j h h' h
    simp [this]

def lookV (a b : List Int) (e : Int) : V := .agg [.sl (a.map vInt), .sl (b.map vInt), vInt e]
noncomputable def seeV (l : List Deed) (lock day k : Int) : V := lookV (whoR (·.h) l lock day k) (whoR (·.n) l lock day k) (lockE l lock day k [])
noncomputable def sLI3 (f : List Deed → Int → Int → Int → V) (fl : Bool) : Spec := (pLI3 f fl).toSpec
theorem sLI3_app {f : List Deed → Int → Int → Int → V} {fl : Bool} {obj : Name → Option O} {t : Name} {l : List Deed} {a b c : Int} : (sLI3 f fl).app obj t [.v (.sl (l.map encD)), .v (vInt a), .v (vInt b), .v (vInt c)] = ⟨True, .v (f l a b c), obj⟩ := by
  simp only [sLI3, PSpec.toSpec, frzL, frz, pLI3_fn, ite_self]
  congr 1
  simp only [eq_iff_iff, iff_true]
  exact ⟨⟨trivial, trivial, trivial, trivial, trivial⟩, l, a, b, c, rfl⟩
noncomputable def sLA (f : List Deed → Aska → V) (fl : Bool) : Spec := (pLA f fl).toSpec
theorem sLA_app {f : List Deed → Aska → V} {fl : Bool} {obj : Name → Option O} {t : Name} {l : List Deed} {a b c d : Int} : (sLA f fl).app obj t [.v (.sl (l.map encD)), .agg [.v (vInt a), .v (vInt b), .v (vInt c), .v (vInt d)]] = ⟨True, .v (f l ⟨a, b, c, d⟩), obj⟩ := by
  have e : frzL (frz 6) obj [.v (.sl (l.map encD)), .agg [.v (vInt a), .v (vInt b), .v (vInt c), .v (vInt d)]] = ⟨True, [.sl (l.map encD), encA ⟨a, b, c, d⟩], obj⟩ := by
    simp [frzL, frz, D.one, V.one, encA]
  simp only [sLA, PSpec.toSpec, e, pLA_fn, ite_self]
  congr 1
  simp only [eq_iff_iff, iff_true]
  exact ⟨trivial, l, _, rfl⟩
def pLook : PSpec := ⟨fun xs => ∃ a b e c d f, xs = [lookV a b e, lookV c d f], fun xs => match xs with | [.agg [.sl a, .sl b, .int _ e], .agg [.sl c, .sl d, .int _ f]] => .bool (e == f && decide (a.map decI = c.map decI) && decide (b.map decI = d.map decI)) | _ => .bool false, true⟩
theorem pLook_fn (a b : List Int) (e : Int) (c d : List Int) (f : Int) : pLook.fn [lookV a b e, lookV c d f] = .bool (e == f && decide (a = c) && decide (b = d)) := by
  simp only [pLook, lookV, decI_map]
noncomputable def K70 : FuncId → Option Spec := fun f => match f with
  | 31 => some (sLI3 (fun l lock day k => .tup [.sl ((whoR (·.h) l lock day k).map vInt), vInt (lockE l lock day k [])]) false)
  | 32 => some (sLI3 (fun l lock day k => .tup [.sl ((whoR (·.n) l lock day k).map vInt), vInt (lockE l lock day k [])]) false)
  | 42 => some (sLA (fun l a => .tup [.sl ((whoR (·.h) l a.lo a.da a.kn).map vInt), vInt (lockE l a.lo a.da a.kn [])]) false)
  | 43 => some (sLA (fun l a => .tup [.sl ((whoR (·.n) l a.lo a.da a.kn).map vInt), vInt (lockE l a.lo a.da a.kn [])]) false)
  | 164 => some sSameI
  | _ => none
theorem K70_sound : ∀ f s, K70 f = some s → SSound Tryz.prog f s := by
  intro f s h
  unfold K70 at h
  split at h
  · cases h; exact s31.sound
  · cases h; exact s32.sound
  · cases h; exact s42.sound
  · cases h; exact s43.sound
  · cases h; exact s164.sound
  · cases h
@[go_sem] theorem K70_31 : K70 31 = some (sLI3 (fun l lock day k => .tup [.sl ((whoR (·.h) l lock day k).map vInt), vInt (lockE l lock day k [])]) false) := rfl
@[go_sem] theorem K70_32 : K70 32 = some (sLI3 (fun l lock day k => .tup [.sl ((whoR (·.n) l lock day k).map vInt), vInt (lockE l lock day k [])]) false) := rfl
@[go_sem] theorem K70_42 : K70 42 = some (sLA (fun l a => .tup [.sl ((whoR (·.h) l a.lo a.da a.kn).map vInt), vInt (lockE l a.lo a.da a.kn [])]) false) := rfl
@[go_sem] theorem K70_43 : K70 43 = some (sLA (fun l a => .tup [.sl ((whoR (·.n) l a.lo a.da a.kn).map vInt), vInt (lockE l a.lo a.da a.kn [])]) false) := rfl
@[go_sem] theorem K70_164 : K70 164 = some sSameI := rfl
set_option maxHeartbeats 4000000 in
theorem s135 : PSound Tryz.prog 135 (pLI3 seeV false) := by
  refine psoundB (rs := [.cell 8 166]) Tryz.func135 Tryz.ntmps135 (by rfl) (by kernel_rfl) (by decide) (fun h => by cases h) ⟨_, rfl, ?_⟩
  rintro xs ⟨l, lock, day, k, rfl⟩ hw
  refine ⟨Nat.le_of_ble_eq_true rfl, ?_⟩
  rw [pLI3_fn]
  have hΓ := K70_sound
  repeat refine cl_seq ?_
  refine cl_rs hΓ [0,1,2,3,8] [[8, 0]] fun K' hK => ?_
  simp only [go_sem, tz166]
  repeat (refine ⟨ob, ?_⟩)
  refine hK _ ?_ ?_ <;> clear K' hK <;> simp only [go_sem, tz166]
  repeat refine cl_seq ?_
  refine cl_rs hΓ [0,1,2,3,8,9,10] [[8, 0]] fun K' hK => ?_
  simp only [go_sem, sLI3_app]
  repeat (refine ⟨ob, ?_⟩)
  refine hK _ ?_ ?_ <;> clear K' hK <;> simp only [go_sem, sLI3_app]
  repeat refine cl_seq ?_
  refine cl_rs hΓ [8,9,10,11] [[8, 0]] fun K' hK => ?_
  simp only [go_sem, sLI3_app]
  repeat (refine ⟨ob, ?_⟩)
  refine hK _ ?_ ?_ <;> clear K' hK <;> simp only [go_sem, sLI3_app]
  repeat refine cl_seq ?_
  refine cl_rs hΓ [8] [[8, 0]] fun K' hK => ?_
  simp only [go_sem, tz166, tp166, Nat.reduceLeDiff, Nat.le_refl]
  repeat (refine ⟨ob, ?_⟩)
  refine hK _ ?_ ?_ <;> clear K' hK <;> simp only [go_sem, tz166, tp166, Nat.reduceLeDiff, Nat.le_refl]
  refine cl_ret ?_
  simp only [go_sem]
  all_goals first | done | rfl | exact ⟨by decide, rfl⟩ | exact ⟨by decide, trivial⟩
set_option maxHeartbeats 4000000 in
theorem s136 : PSound Tryz.prog 136 pLook := by
  refine psoundB (rs := [.tmp 4]) Tryz.func136 Tryz.ntmps136 (by rfl) (by kernel_rfl) (by decide) (by rintro _ xs ⟨a, b, e, c, d, f, rfl⟩; rw [pLook_fn]; rfl) ⟨_, rfl, ?_⟩
  rintro xs ⟨a, b, e, c, d, f, rfl⟩ hw
  refine ⟨Nat.le_of_ble_eq_true rfl, ?_⟩
  rw [pLook_fn]
  simp only [lookV]
  have hΓ := K70_sound
  repeat refine cl_seq ?_
  refine cl_rs hΓ [2,3] [[2, 0],[3, 0]] fun K' hK => ?_
  simp only [go_sem, tz166]
  repeat (refine ⟨ob, ?_⟩)
  refine hK _ ?_ ?_ <;> clear K' hK <;> simp only [go_sem, tz166]
  cases h1 : (e == f) <;> cases h2 : decide (a = c)
  all_goals
    repeat refine cl_seq ?_
    refine cl_rs hΓ [4] [] fun K' hK => ?_
    simp only [go_sem, sSameI_app, h1, h2]
    repeat (refine ⟨ob, ?_⟩)
    refine hK _ ?_ ?_ <;> clear K' hK <;> simp only [go_sem, sSameI_app, h1, h2]
    refine cl_ret ?_
    simp only [go_sem]
set_option maxHeartbeats 4000000 in
theorem s137 : PSound Tryz.prog 137 (pLA (fun l a => .tup [.sl ((whoR (·.h) l a.lo a.da a.kn).map vInt), .sl ((whoR (·.n) l a.lo a.da a.kn).map vInt), vInt (lockE l a.lo a.da a.kn [])]) false) := by
  refine psoundB (rs := [.tmp 4, .tmp 5, .tmp 6]) Tryz.func137 Tryz.ntmps137 (by rfl) (by kernel_rfl) (by decide) (fun h => by cases h) ⟨_, rfl, ?_⟩
  rintro xs ⟨l, ⟨lo, pe, day, k⟩, rfl⟩ hw
  refine ⟨Nat.le_of_ble_eq_true rfl, ?_⟩
  rw [pLA_fn]
  simp only [encA]
  have hΓ := K70_sound
  repeat refine cl_seq ?_
  refine cl_rs hΓ [0,3] [[3, 0]] fun K' hK => ?_
  simp only [go_sem]
  repeat (refine ⟨ob, ?_⟩)
  refine hK _ ?_ ?_ <;> clear K' hK <;> simp only [go_sem]
  repeat refine cl_seq ?_
  refine cl_rs hΓ [0,3,7,8] [[3, 0]] fun K' hK => ?_
  simp only [go_sem, sLA_app]
  repeat (refine ⟨ob, ?_⟩)
  refine hK _ ?_ ?_ <;> clear K' hK <;> simp only [go_sem, sLA_app]
  repeat refine cl_seq ?_
  refine cl_rs hΓ [7,8,9] [] fun K' hK => ?_
  simp only [go_sem, sLA_app]
  repeat (refine ⟨ob, ?_⟩)
  refine hK _ ?_ ?_ <;> clear K' hK <;> simp only [go_sem, sLA_app]
  repeat refine cl_seq ?_
  refine cl_rs hΓ [4,5,6] [] fun K' hK => ?_
  simp only [go_sem]
  repeat (refine ⟨ob, ?_⟩)
  refine hK _ ?_ ?_ <;> clear K' hK <;> simp only [go_sem]
  refine cl_ret ?_
  simp only [go_sem]
end Go.Eng
