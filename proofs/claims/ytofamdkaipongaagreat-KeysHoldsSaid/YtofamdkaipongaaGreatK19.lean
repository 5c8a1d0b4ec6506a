import Derived.Test.YtofamdkaipongaaGreatK18
/- A part of the proof engine and of the walks (texts KW49 to KW60). -/
set_option linter.all false
set_option linter.unnecessarySimpa false
set_option linter.unusedSimpArgs false
set_option linter.unusedVariables false
set_option linter.constructorNameAsVariable false
namespace Go.Eng
open Go Go.Proofs
set_option maxRecDepth 10000
@[go_sem] theorem ta85 : tAgg Tryz.prog 85 = some (true, 2) := by kernel_rfl
@[go_sem] theorem tp85 : tPlaces Tryz.prog 85 = some [(0, 1), (1, 1)] := by kernel_rfl
@[go_sem] theorem tz85 : tZero Tryz.prog 85 = some (.agg #[(.int .i64 0), (.int .i64 0)]) := by kernel_rfl
@[go_sem] theorem tf85_0 : tField Tryz.prog 85 0 = some (0, 1, false) := by kernel_rfl
@[go_sem] theorem tf85_1 : tField Tryz.prog 85 1 = some (1, 1, false) := by kernel_rfl
@[go_sem] theorem ta132 : tAgg Tryz.prog 132 = some (false, 1) := by kernel_rfl
@[go_sem] theorem te132 : tElem Tryz.prog 132 = some (85, 2, 16) := by kernel_rfl
@[go_sem] theorem tl132 : tLen Tryz.prog 132 = some 0 := by kernel_rfl
@[go_sem] theorem tz132 : tZero Tryz.prog 132 = some (.slice none 0 0) := by kernel_rfl
/-! the reference: the consistent deeds, and a key after a deed -/
noncomputable def evenV (l : List Deed) (k day : Int) : V := if daysI l [k, day] = 0 then contV l k else .tup [.sl [], vInt (daysI l [k, day])]
def pL2 (f : List Deed → Int → Int → V) : PSpec := ⟨fun xs => ∃ (l : List Deed) (a b : Int), xs = [.sl (l.map encD), .sl [vInt a, vInt b]], fun xs => match xs with | [.sl l, .sl [.int _ a, .int _ b]] => f (l.map decD) a b | _ => .bool false, false⟩
theorem pL2_fn (f : List Deed → Int → Int → V) (l : List Deed) (a b : Int) : (pL2 f).fn [.sl (l.map encD), .sl [vInt a, vInt b]] = f l a b := by
  simp only [pL2, decD_map]
set_option maxHeartbeats 4000000 in
theorem s112 : PSound Tryz.prog 112 (pL2 evenV) := by
  refine psoundB (rs := [.tmp 4, .tmp 5]) Tryz.func112 Tryz.ntmps112 (by rfl) (by kernel_rfl) (by decide) (fun h => by cases h) ⟨_, rfl, ?_⟩
  rintro xs ⟨l, k, day, rfl⟩ hw
  refine ⟨Nat.le_of_ble_eq_true rfl, ?_⟩
  rw [pL2_fn]
  have hΓ := K35_sound
  repeat refine cl_seq ?_
  refine cl_rs hΓ [0,1] [] fun K' hK => ?_
  simp only [go_sem]
  repeat (refine ⟨ob, ?_⟩)
  refine hK _ ?_ ?_ <;> clear K' hK <;> simp only [go_sem]
  repeat refine cl_seq ?_
  refine cl_rs hΓ [0,1,6] [] fun K' hK => ?_
  simp only [go_sem, sDaysI_two]
  repeat (refine ⟨ob, ?_⟩)
  refine hK _ ?_ ?_ <;> clear K' hK <;> simp only [go_sem, sDaysI_two]
  repeat refine cl_seq ?_
  refine cl_rs hΓ [0,1,6,14] [] fun K' hK => ?_
  simp only [go_sem]
  repeat (refine ⟨ob, ?_⟩)
  refine hK _ ?_ ?_ <;> clear K' hK <;> simp only [go_sem]
  repeat refine cl_seq ?_
  refine cl_cond rfl rfl (fun hb => ?_) (fun hb => ?_)
  · repeat refine cl_seq ?_
    have hn : ¬ daysI l [k, day] = 0 := by simpa using hb
    repeat refine cl_seq ?_
    refine cl_rs hΓ [4,5] [] fun K' hK => ?_
    simp only [go_sem]
    repeat (refine ⟨ob, ?_⟩)
    refine hK _ ?_ ?_ <;> clear K' hK <;> simp only [go_sem]
    refine cl_ret ?_
    simp only [go_sem]
    unfold evenV; rw [if_neg hn]
  have hz : daysI l [k, day] = 0 := by simpa using hb
  have hok := days_ok hz
  clear hb
  repeat refine cl_seq ?_
  refine cl_skip ?_
  have hc := fun (obj : Name → Option O) (t : Name) (f : List Deed → Int → V) (fl : Bool) => sLI_app (P := okL) (f := f) (fl := fl) (obj := obj) (t := t) (k := k) hok
  have hf := fun (obj : Name → Option O) (t : Name) (f : List Deed → V) (c : List Deed) => sL_app (P := fun _ => True) (f := f) (obj := obj) (t := t) (l := c) trivial
  repeat refine cl_seq ?_
  refine cl_rs hΓ [7] [] fun K' hK => ?_
  simp only [go_sem, hc, Int.toNat_zero, List.getD_cons_zero, Int.le_refl, List.length_cons, List.length_nil, te39, Int.toNat_natCast]
  repeat (refine ⟨ob, ?_⟩)
  refine hK _ ?_ ?_ <;> clear K' hK <;> simp only [go_sem, hc, Int.toNat_zero, List.getD_cons_zero, Int.le_refl, List.length_cons, List.length_nil, te39, Int.toNat_natCast]
  repeat refine cl_seq ?_
  refine cl_rs hΓ [7,9] [] fun K' hK => ?_
  simp only [go_sem, hf, clashV_eq, tz23, Nat.reduceLeDiff, Nat.le_refl]
  repeat (refine ⟨ob, ?_⟩)
  refine hK _ ?_ ?_ <;> clear K' hK <;> simp only [go_sem, hf, clashV_eq, tz23, Nat.reduceLeDiff, Nat.le_refl]
  repeat refine cl_seq ?_
  refine cl_rs hΓ [7,26] [] fun K' hK => ?_
  simp only [go_sem]
  repeat (refine ⟨ob, ?_⟩)
  refine hK _ ?_ ?_ <;> clear K' hK <;> simp only [go_sem]
  repeat refine cl_seq ?_
  refine cl_cond rfl rfl (fun hb => ?_) (fun hb => ?_)
  · repeat refine cl_seq ?_
    have hcf : (confP (countL l k)).isSome = true := by rw [confP_some hok]; exact hb
    repeat refine cl_seq ?_
    refine cl_rs hΓ [4,5] [] fun K' hK => ?_
    simp only [go_sem]
    repeat (refine ⟨ob, ?_⟩)
    refine hK _ ?_ ?_ <;> clear K' hK <;> simp only [go_sem]
    refine cl_ret ?_
    simp only [go_sem]
    unfold evenV contV; rw [if_pos hz, if_pos hcf]
  · repeat refine cl_seq ?_
    have hcf : ¬ (confP (countL l k)).isSome = true := by rw [confP_some hok, hb]; decide
    refine cl_skip ?_
    repeat refine cl_seq ?_
    refine cl_rs hΓ [4,5] [] fun K' hK => ?_
    simp only [go_sem]
    repeat (refine ⟨ob, ?_⟩)
    refine hK _ ?_ ?_ <;> clear K' hK <;> simp only [go_sem]
    refine cl_ret ?_
    simp only [go_sem]
    unfold evenV contV; rw [if_pos hz, if_neg hcf]
def encK (k : Int × Int) : V := .agg [vInt k.1, vInt k.2]
def keyA (k : Int × Int) (d : Deed) : Int × Int := if d.ki = 3 then (d.pe, d.pe) else if d.ki = 4 then (if k.1 = 0 then k else (k.1, d.pe)) else if d.ki = 5 then (k.1, k.1) else if d.ki = 6 then (0, 0) else k
def pKD (f : Int × Int → Deed → V) : PSpec := ⟨fun xs => ∃ k d, xs = [encK k, encD d], fun xs => match xs with | [.agg [.int _ a, .int _ b], x] => f (a, b) (decD x) | _ => .bool false, true⟩
theorem pKD_fn (f : Int × Int → Deed → V) (k : Int × Int) (d : Deed) : (pKD f).fn [encK k, encD d] = f k d := by
  simp only [pKD, encK, decD_enc]
set_option maxHeartbeats 4000000 in
theorem s124 : PSound Tryz.prog 124 (pKD fun k d => encK (keyA k d)) := by
  refine psoundB (rs := [.cell 4 85]) Tryz.func124 Tryz.ntmps124 (by rfl) (by kernel_rfl) (by decide) (by rintro _ xs ⟨k, d, rfl⟩; rfl) ⟨_, rfl, ?_⟩
  rintro xs ⟨⟨h, n⟩, d, rfl⟩ hw
  refine ⟨Nat.le_of_ble_eq_true rfl, ?_⟩
  rw [pKD_fn]
  have hΓ := K0n_sound
  have kdef : keyA (h, n) d = if d.ki = 3 then (d.pe, d.pe) else if d.ki = 4 then (if h = 0 then (h, n) else (h, d.pe)) else if d.ki = 5 then (h, h) else if d.ki = 6 then (0, 0) else (h, n) := rfl
  generalize keyA (h, n) d = kk at kdef
  obtain ⟨pa, no, ki, lo, pe, dl, dh, kn, un⟩ := d
  simp only [encK, encD] at kdef ⊢
  repeat refine cl_seq ?_
  refine cl_rs hΓ [2,3,4] [[2, 0],[3, 0],[4, 0]] fun K' hK => ?_
  simp only [go_sem, tz85]
  repeat (refine ⟨ob, ?_⟩)
  refine hK _ ?_ ?_ <;> clear K' hK <;> simp only [go_sem, tz85]
  repeat refine cl_seq ?_
  refine cl_rs hΓ [2,3,4,6] [[2, 0],[3, 0],[4, 0]] fun K' hK => ?_
  simp only [go_sem]
  repeat (refine ⟨ob, ?_⟩)
  refine hK _ ?_ ?_ <;> clear K' hK <;> simp only [go_sem]
  repeat refine cl_seq ?_
  refine cl_block ?_
  repeat refine cl_seq ?_
  repeat refine cl_seq ?_
  refine cl_rs hΓ [2,3,4,6,7] [[2, 0],[3, 0],[4, 0]] fun K' hK => ?_
  simp only [go_sem]
  repeat (refine ⟨ob, ?_⟩)
  refine hK _ ?_ ?_ <;> clear K' hK <;> simp only [go_sem]
  repeat refine cl_seq ?_
  refine cl_cond rfl rfl (fun hb => ?_) (fun hb => ?_)
  · have h1 : ki = 3 := by simpa using hb
    rw [if_pos h1] at kdef
    repeat refine cl_seq ?_
    repeat refine cl_seq ?_
    refine cl_rs hΓ [4] [[4, 0]] fun K' hK => ?_
    simp only [go_sem, tz85, tp85, Nat.reduceLeDiff, Nat.le_refl]
    repeat (refine ⟨ob, ?_⟩)
    refine hK _ ?_ ?_ <;> clear K' hK <;> simp only [go_sem, tz85, tp85, Nat.reduceLeDiff, Nat.le_refl]
    refine cl_ret ?_
    simp only [go_sem]
    subst kdef
    all_goals first | done | rfl | exact ⟨by decide, rfl⟩ | exact ⟨by decide, trivial⟩ | decide
  have h1 : ¬ ki = 3 := by simpa using hb
  rw [if_neg h1] at kdef
  repeat refine cl_seq ?_
  repeat refine cl_seq ?_
  refine cl_rs hΓ [2,3,4,6,14] [[2, 0],[3, 0],[4, 0]] fun K' hK => ?_
  simp only [go_sem]
  repeat (refine ⟨ob, ?_⟩)
  refine hK _ ?_ ?_ <;> clear K' hK <;> simp only [go_sem]
  repeat refine cl_seq ?_
  refine cl_cond rfl rfl (fun hb => ?_) (fun hb => ?_)
  · have h2 : ki = 4 := by simpa using hb
    rw [if_pos h2] at kdef
    repeat refine cl_seq ?_
    repeat refine cl_seq ?_
    refine cl_rs hΓ [2,3,4,18] [[2, 0],[3, 0],[4, 0]] fun K' hK => ?_
    simp only [go_sem]
    repeat (refine ⟨ob, ?_⟩)
    refine hK _ ?_ ?_ <;> clear K' hK <;> simp only [go_sem]
    repeat refine cl_seq ?_
    refine cl_cond rfl rfl (fun hb => ?_) (fun hb => ?_)
    · have h3 : ¬ h = 0 := by simpa using hb
      rw [if_neg h3] at kdef
      repeat refine cl_seq ?_
      repeat refine cl_seq ?_
      refine cl_r hΓ fun K' hK => ?_
      simp only [go_sem]
      repeat (refine ⟨ob, ?_⟩)
      refine hK _ ?_
      clear K' hK
      simp only [go_sem]
      refine cl_keep [2,4] [[2, 0],[4, 0]] ?_ ?_
      · simp only [go_sem]
      simp only [go_sem]
      repeat refine cl_seq ?_
      refine cl_rs hΓ [4] [[4, 0]] fun K' hK => ?_
      simp only [go_sem, tz85, tp85, Nat.reduceLeDiff, Nat.le_refl]
      repeat (refine ⟨ob, ?_⟩)
      refine hK _ ?_ ?_ <;> clear K' hK <;> simp only [go_sem, tz85, tp85, Nat.reduceLeDiff, Nat.le_refl]
      refine cl_ret ?_
      simp only [go_sem]
      subst kdef
      all_goals first | done | rfl | exact ⟨by decide, rfl⟩ | exact ⟨by decide, trivial⟩ | decide
    · have h3 : h = 0 := by simpa using hb
      rw [if_pos h3] at kdef
      repeat refine cl_seq ?_
      refine cl_skip ?_
      refine cl_nil ?_
      simp only [go_sem]
      refine cl_keep [2,4] [[2, 0],[4, 0]] ?_ ?_
      · simp only [go_sem]
      simp only [go_sem]
      repeat refine cl_seq ?_
      refine cl_rs hΓ [4] [[4, 0]] fun K' hK => ?_
      simp only [go_sem, tz85, tp85, Nat.reduceLeDiff, Nat.le_refl]
      repeat (refine ⟨ob, ?_⟩)
      refine hK _ ?_ ?_ <;> clear K' hK <;> simp only [go_sem, tz85, tp85, Nat.reduceLeDiff, Nat.le_refl]
      refine cl_ret ?_
      simp only [go_sem]
      subst kdef
      all_goals first | done | rfl | exact ⟨by decide, rfl⟩ | exact ⟨by decide, trivial⟩ | decide
  have h2 : ¬ ki = 4 := by simpa using hb
  rw [if_neg h2] at kdef
  repeat refine cl_seq ?_
  repeat refine cl_seq ?_
  refine cl_rs hΓ [2,4,6,22] [[2, 0],[4, 0]] fun K' hK => ?_
  simp only [go_sem]
  repeat (refine ⟨ob, ?_⟩)
  refine hK _ ?_ ?_ <;> clear K' hK <;> simp only [go_sem]
  repeat refine cl_seq ?_
  refine cl_cond rfl rfl (fun hb => ?_) (fun hb => ?_)
  · have h3 : ki = 5 := by simpa using hb
    rw [if_pos h3] at kdef
    repeat refine cl_seq ?_
    repeat refine cl_seq ?_
    refine cl_r hΓ fun K' hK => ?_
    simp only [go_sem]
    repeat (refine ⟨ob, ?_⟩)
    refine hK _ ?_
    clear K' hK
    simp only [go_sem]
    refine cl_keep [2,4] [[2, 0],[4, 0]] ?_ ?_
    · simp only [go_sem]
    simp only [go_sem]
    repeat refine cl_seq ?_
    refine cl_rs hΓ [4] [[4, 0]] fun K' hK => ?_
    simp only [go_sem, tz85, tp85, Nat.reduceLeDiff, Nat.le_refl]
    repeat (refine ⟨ob, ?_⟩)
    refine hK _ ?_ ?_ <;> clear K' hK <;> simp only [go_sem, tz85, tp85, Nat.reduceLeDiff, Nat.le_refl]
    refine cl_ret ?_
    simp only [go_sem]
    subst kdef
    all_goals first | done | rfl | exact ⟨by decide, rfl⟩ | exact ⟨by decide, trivial⟩ | decide
  have h3 : ¬ ki = 5 := by simpa using hb
  rw [if_neg h3] at kdef
  repeat refine cl_seq ?_
  repeat refine cl_seq ?_
  refine cl_rs hΓ [2,4,27] [[2, 0],[4, 0]] fun K' hK => ?_
  simp only [go_sem]
  repeat (refine ⟨ob, ?_⟩)
  refine hK _ ?_ ?_ <;> clear K' hK <;> simp only [go_sem]
  repeat refine cl_seq ?_
  refine cl_cond rfl rfl (fun hb => ?_) (fun hb => ?_)
  · have h4 : ki = 6 := by simpa using hb
    rw [if_pos h4] at kdef
    repeat refine cl_seq ?_
    repeat refine cl_seq ?_
    refine cl_rs hΓ [4] [[4, 0]] fun K' hK => ?_
    simp only [go_sem, tz85, tp85, Nat.reduceLeDiff, Nat.le_refl]
    repeat (refine ⟨ob, ?_⟩)
    refine hK _ ?_ ?_ <;> clear K' hK <;> simp only [go_sem, tz85, tp85, Nat.reduceLeDiff, Nat.le_refl]
    refine cl_ret ?_
    simp only [go_sem]
    subst kdef
    all_goals first | done | rfl | exact ⟨by decide, rfl⟩ | exact ⟨by decide, trivial⟩ | decide
  · have h4 : ¬ ki = 6 := by simpa using hb
    rw [if_neg h4] at kdef
    repeat refine cl_seq ?_
    refine cl_skip ?_
    refine cl_nil ?_
    simp only [go_sem]
    refine cl_keep [2,4] [[2, 0],[4, 0]] ?_ ?_
    · simp only [go_sem]
    simp only [go_sem]
    repeat refine cl_seq ?_
    refine cl_rs hΓ [4] [[4, 0]] fun K' hK => ?_
    simp only [go_sem, tz85, tp85, Nat.reduceLeDiff, Nat.le_refl]
    repeat (refine ⟨ob, ?_⟩)
    refine hK _ ?_ ?_ <;> clear K' hK <;> simp only [go_sem, tz85, tp85, Nat.reduceLeDiff, Nat.le_refl]
    refine cl_ret ?_
    simp only [go_sem]
    subst kdef
    all_goals first | done | rfl | exact ⟨by decide, rfl⟩ | exact ⟨by decide, trivial⟩ | decide
end Go.Eng
namespace Go.Eng
open Go Go.Proofs
set_option maxRecDepth 10000
/-! the reference: what is of a lock's thread, and of an office -/
def idxF (p : Deed → Bool) : Nat → List Deed → List Nat
  | _, [] => []
  | n, d :: r => if p d then n :: idxF p (n + 1) r else idxF p (n + 1) r
theorem idxF_append (p : Deed → Bool) : ∀ (a b : List Deed) (n : Nat), idxF p n (a ++ b) = idxF p n a ++ idxF p (n + a.length) b
  | [], b, n => rfl
  | d :: r, b, n => by
    have ih := idxF_append p r b (n + 1)
    have e : n + 1 + r.length = n + (r.length + 1) := by omega
    rw [e] at ih
    simp only [List.cons_append, idxF, List.length_cons]
    split
    · rw [ih]; rfl
    · exact ih
theorem idxF_next {p : Deed → Bool} {c : List Deed} {i : Nat} (h : i < c.length) : idxF p 0 (c.take (i + 1)) = if p c[i] then idxF p 0 (c.take i) ++ [i] else idxF p 0 (c.take i) := by
  rw [List.take_add_one, List.getElem?_eq_getElem h, idxF_append]
  simp only [Option.toList_some, idxF, List.length_take, Nat.zero_add, Nat.min_eq_left (Nat.le_of_lt h)]
  split <;> simp
theorem idxF_len (p : Deed → Bool) : ∀ (c : List Deed) (n : Nat), (idxF p n c).length ≤ c.length
  | [], n => Nat.le_refl _
  | d :: r, n => by
    have := idxF_len p r (n + 1)
    simp only [idxF, List.length_cons]
    split
    · simp only [List.length_cons]; omega
    · omega
theorem idxF_lt (p : Deed → Bool) : ∀ (c : List Deed) (n : Nat), ∀ i ∈ idxF p n c, n ≤ i ∧ i < n + c.length
  | [], n, i, h => by simp [idxF] at h
  | d :: r, n, i, h => by
    have ih := idxF_lt p r (n + 1) i
    simp only [idxF] at h
    simp only [List.length_cons]
    split at h
    · rcases List.mem_cons.1 h with rfl | h
      · omega
      · have := ih h; omega
    · have := ih h; omega
theorem idxF_filter (p : Deed → Bool) (z : Deed) : ∀ (c a : List Deed), (idxF p a.length c).map (fun i => (a ++ c).getD i z) = c.filter p
  | [], a => rfl
  | d :: r, a => by
    have ih := idxF_filter p z r (a ++ [d])
    simp only [List.length_append, List.length_singleton, List.append_assoc, List.singleton_append] at ih
    simp only [idxF, List.filter_cons]
    split
    · rw [List.map_cons, ih]
      congr 1
      simp [List.getD_eq_getElem?_getD]
    · exact ih
def thrB (lock : Int) (d : Deed) : Bool := !offB d.ki && d.lo == lock
def offpB (pe : Int) (d : Deed) : Bool := offB d.ki && d.pe == pe
def vNat (n : Nat) : V := vInt n
def thrV (c : List Deed) (lock : Int) : V := .sl ((idxF (thrB lock) 0 c).map vNat)
def offpV (c : List Deed) (pe : Int) : V := .sl ((idxF (offpB pe) 0 c).map vNat)
set_option maxHeartbeats 4000000 in
theorem s123 : PSound Tryz.prog 123 (pLI (fun c => c.length ≤ 60) thrV false) := by
  refine psoundB (rs := [.tmp 4]) Tryz.func123 Tryz.ntmps123 (by rfl) (by kernel_rfl) (by decide) (fun h => by cases h) ⟨_, rfl, ?_⟩
  rintro xs ⟨l, k, rfl, hl60⟩ hw
  have hl : l.length ≤ maxLen := by unfold maxLen; omega
  refine ⟨Nat.le_of_ble_eq_true rfl, ?_⟩
  rw [pLI_fn]
  unfold thrV
  have hΓ := K32_sound
  have hin := fun (obj : Name → Option O) (t : Name) (n : Int) => pInt_app (g := offB) (obj := obj) (t := t) (n := n)
  repeat refine cl_seq ?_
  refine cl_rs hΓ [0,1] [] fun K' hK => ?_
  simp only [go_sem]
  repeat (refine ⟨ob, ?_⟩)
  refine hK _ ?_ ?_ <;> clear K' hK <;> simp only [go_sem]
  repeat refine cl_seq ?_
  refine cl_rs hΓ [0,1,5] [] fun K' hK => ?_
  simp only [go_sem]
  repeat (refine ⟨ob, ?_⟩)
  refine hK _ ?_ ?_ <;> clear K' hK <;> simp only [go_sem]
  refine cl_weakM (σ' := mkS 31 [0] (fun _ => none) [(0, ⟨true, .v (.sl (l.map encD))⟩), (1, ⟨true, .v (vInt k)⟩), (5, ⟨true, .msl [28, 0] 0⟩)] [([28, 0], .arr 1 [])]) (weakM_ghostk 5 [28, 0] 1 (by simp only [go_sem]) (by simp only [go_sem]) [0, 1, 5] [[28, 0]] ?_ ?_) ?_
  · simp only [go_sem]
  · simp only [go_sem]
  repeat refine cl_seq ?_
  refine cl_rs hΓ [1,5,8,9,10] [[28, 0]] fun K' hK => ?_
  simp only [go_sem]
  repeat (refine ⟨ob, ?_⟩)
  refine hK _ ?_ ?_ <;> clear K' hK <;> simp only [go_sem]
  repeat refine cl_seq ?_
  refine cl_block ?_
  repeat refine cl_seq ?_
  refine cl_loop' (fun s : Nat => [(5, ⟨true, .msl [28, 0] (idxF (thrB k) 0 (l.take s)).length⟩), (10, ⟨true, .v (vInt s)⟩)]) (fun s => [([28, 0], .arr 1 ((idxF (thrB k) 0 (l.take s)).map vNat))]) (fun s => s ≤ l.length) (fun s => l.length - s) 0 ?_ ?_ ?_ ?_
  · exact Nat.zero_le _
  · rfl
  · rfl
  rintro i hi
  simp only [go_sem]
  repeat refine cl_seq ?_
  repeat refine cl_seq ?_
  refine cl_rs hΓ [1,5,8,9,10,11] [[28, 0]] fun K' hK => ?_
  simp only [go_sem]
  repeat (refine ⟨ob, ?_⟩)
  refine hK _ ?_ ?_ <;> clear K' hK <;> simp only [go_sem]
  repeat refine cl_seq ?_
  refine cl_cond rfl rfl (fun hb => ?_) (fun hb => ?_)
  · have hlt : i < l.length := by simpa using hb
    have hlt' : (i : Int) < l.length := by omega
    clear hb
    repeat refine cl_seq ?_
    refine cl_skip ?_
    repeat refine cl_seq ?_
    refine cl_block ?_
    repeat refine cl_seq ?_
    have hcl : (idxF (thrB k) 0 (l.take i)).length ≤ 60 := by
      have := idxF_len (thrB k) (l.take i) 0
      simp at this
      omega
    have hn := idxF_next (p := thrB k) hlt
    repeat refine cl_seq ?_
    refine cl_rs hΓ [1,5,6,7,8,9,10] [[7, 0], [28, 0]] fun K' hK => ?_
    simp only [go_sem, map_getD hlt, Int.toNat_natCast, Int.natCast_nonneg, hlt']
    repeat (refine ⟨ob, ?_⟩)
    refine hK _ ?_ ?_ <;> clear K' hK <;> simp only [go_sem, map_getD hlt, Int.toNat_natCast, Int.natCast_nonneg, hlt']
    have hbr : (if (!offB l[i].ki) = true then (l[i].lo == k) else false) = thrB k l[i] := by unfold thrB; cases offB l[i].ki <;> rfl
    repeat refine cl_seq ?_
    refine cl_rs hΓ [1,5,6,8,9,10,24] [[28, 0]] fun K' hK => ?_
    simp only [go_sem, hin, hbr]
    repeat (refine ⟨ob, ?_⟩)
    refine hK _ ?_ ?_ <;> clear K' hK <;> simp only [go_sem, hin, hbr]
    repeat refine cl_seq ?_
    refine cl_cond rfl rfl (fun hb => ?_) (fun hb => ?_)
    · repeat refine cl_seq ?_
      refine cl_r hΓ fun K' hK => ?_
      simp only [go_sem, te39, tz3]
      repeat' apply And.intro
      all_goals first | rfl | omega | exact Int.le_refl _ | exact Bool.or_not_self _ | exact Bool.not_or_self _ | exact enc_okI _ | exact enc_ok _ | exact fun x hx => (enc_okI _ x hx).1 | exact fun x hx => (enc_ok _ x hx).1 | (simp only [List.length_take, List.length_append, List.length_map, List.length_drop, List.length_cons, List.length_nil]; done) | (simp only [List.length_take, List.length_append, List.length_map, List.length_drop, List.length_cons, List.length_nil]; omega) | (simp only [List.length_take, List.length_append, List.length_map, List.length_drop, List.length_cons, List.length_nil, maxLen]; omega) | (exact fun _ => by decide) | (exact fun h => ⟨h, by decide⟩) | (simp only [decide_eq_true_eq]; omega) | skip
      refine hK _ ?_
      clear K' hK
      simp only [go_sem]
      refine cl_keep [1,5,8,9,10] [[28, 0]] ?_ ?_
      · simp only [go_sem]
      simp only [go_sem]
      repeat refine cl_seq ?_
      refine cl_r hΓ fun K' hK => ?_
      simp only [go_sem]
      repeat (refine ⟨ob, ?_⟩)
      refine hK _ ?_
      clear K' hK
      simp only [go_sem]
      refine ⟨i + 1, hlt, (show l.length - (i + 1) < l.length - i by omega), ?_⟩
      rw [hn, if_pos hb]
      refine weak_eq [1,5,8,9,10] [[28, 0]] ?_ ?_
      · simp only [go_sem]
      · simp only [go_sem, wrap_succ hlt hl, Int.natCast_add, Int.natCast_one]
        all_goals simp [vNat]
    · repeat refine cl_seq ?_
      refine cl_skip ?_
      refine cl_nil ?_
      simp only [go_sem]
      refine cl_keep [1,5,8,9,10] [[28, 0]] ?_ ?_
      · simp only [go_sem]
      simp only [go_sem]
      repeat refine cl_seq ?_
      refine cl_r hΓ fun K' hK => ?_
      simp only [go_sem]
      repeat (refine ⟨ob, ?_⟩)
      refine hK _ ?_
      clear K' hK
      simp only [go_sem]
      refine ⟨i + 1, hlt, (show l.length - (i + 1) < l.length - i by omega), ?_⟩
      rw [hn, if_neg (by simp [hb])]
      refine weak_eq [1,5,8,9,10] [[28, 0]] ?_ ?_
      · simp only [go_sem, wrap_succ hlt hl, Int.natCast_add, Int.natCast_one]
      · simp only [go_sem, wrap_succ hlt hl, Int.natCast_add, Int.natCast_one]
  · have hge : i = l.length := by
      have : ¬ (i : Int) < l.length := by simpa using hb
      omega
    subst hge
    clear hb
    repeat refine cl_seq ?_
    refine cl_exit ?_
    simp only [go_sem]
    refine cl_keep [5] [[28, 0]] ?_ ?_
    · simp only [go_sem]
    simp only [go_sem]
    rw [List.take_length]
    repeat refine cl_seq ?_
    refine cl_rs hΓ [4] [[28, 0]] fun K' hK => ?_
    simp only [go_sem]
    repeat (refine ⟨ob, ?_⟩)
    refine hK _ ?_ ?_ <;> clear K' hK <;> simp only [go_sem]
    refine cl_ret ?_
    simp only [go_sem]
set_option maxHeartbeats 4000000 in
theorem s125 : PSound Tryz.prog 125 (pLI (fun c => c.length ≤ 60) offpV false) := by
  refine psoundB (rs := [.tmp 4]) Tryz.func125 Tryz.ntmps125 (by rfl) (by kernel_rfl) (by decide) (fun h => by cases h) ⟨_, rfl, ?_⟩
  rintro xs ⟨l, k, rfl, hl60⟩ hw
  have hl : l.length ≤ maxLen := by unfold maxLen; omega
  refine ⟨Nat.le_of_ble_eq_true rfl, ?_⟩
  rw [pLI_fn]
  unfold offpV
  have hΓ := K32_sound
  have hin := fun (obj : Name → Option O) (t : Name) (n : Int) => pInt_app (g := offB) (obj := obj) (t := t) (n := n)
  repeat refine cl_seq ?_
  refine cl_rs hΓ [0,1] [] fun K' hK => ?_
  simp only [go_sem]
  repeat (refine ⟨ob, ?_⟩)
  refine hK _ ?_ ?_ <;> clear K' hK <;> simp only [go_sem]
  repeat refine cl_seq ?_
  refine cl_rs hΓ [0,1,5] [] fun K' hK => ?_
  simp only [go_sem]
  repeat (refine ⟨ob, ?_⟩)
  refine hK _ ?_ ?_ <;> clear K' hK <;> simp only [go_sem]
  refine cl_weakM (σ' := mkS 30 [0] (fun _ => none) [(0, ⟨true, .v (.sl (l.map encD))⟩), (1, ⟨true, .v (vInt k)⟩), (5, ⟨true, .msl [27, 0] 0⟩)] [([27, 0], .arr 1 [])]) (weakM_ghostk 5 [27, 0] 1 (by simp only [go_sem]) (by simp only [go_sem]) [0, 1, 5] [[27, 0]] ?_ ?_) ?_
  · simp only [go_sem]
  · simp only [go_sem]
  repeat refine cl_seq ?_
  refine cl_rs hΓ [1,5,8,9,10] [[27, 0]] fun K' hK => ?_
  simp only [go_sem]
  repeat (refine ⟨ob, ?_⟩)
  refine hK _ ?_ ?_ <;> clear K' hK <;> simp only [go_sem]
  repeat refine cl_seq ?_
  refine cl_block ?_
  repeat refine cl_seq ?_
  refine cl_loop' (fun s : Nat => [(5, ⟨true, .msl [27, 0] (idxF (offpB k) 0 (l.take s)).length⟩), (10, ⟨true, .v (vInt s)⟩)]) (fun s => [([27, 0], .arr 1 ((idxF (offpB k) 0 (l.take s)).map vNat))]) (fun s => s ≤ l.length) (fun s => l.length - s) 0 ?_ ?_ ?_ ?_
  · exact Nat.zero_le _
  · rfl
  · rfl
  rintro i hi
  simp only [go_sem]
  repeat refine cl_seq ?_
  repeat refine cl_seq ?_
  refine cl_rs hΓ [1,5,8,9,10,11] [[27, 0]] fun K' hK => ?_
  simp only [go_sem]
  repeat (refine ⟨ob, ?_⟩)
  refine hK _ ?_ ?_ <;> clear K' hK <;> simp only [go_sem]
  repeat refine cl_seq ?_
  refine cl_cond rfl rfl (fun hb => ?_) (fun hb => ?_)
  · have hlt : i < l.length := by simpa using hb
    have hlt' : (i : Int) < l.length := by omega
    clear hb
    repeat refine cl_seq ?_
    refine cl_skip ?_
    repeat refine cl_seq ?_
    refine cl_block ?_
    repeat refine cl_seq ?_
    have hcl : (idxF (offpB k) 0 (l.take i)).length ≤ 60 := by
      have := idxF_len (offpB k) (l.take i) 0
      simp at this
      omega
    have hn := idxF_next (p := offpB k) hlt
    repeat refine cl_seq ?_
    refine cl_rs hΓ [1,5,6,7,8,9,10] [[7, 0], [27, 0]] fun K' hK => ?_
    simp only [go_sem, map_getD hlt, Int.toNat_natCast, Int.natCast_nonneg, hlt']
    repeat (refine ⟨ob, ?_⟩)
    refine hK _ ?_ ?_ <;> clear K' hK <;> simp only [go_sem, map_getD hlt, Int.toNat_natCast, Int.natCast_nonneg, hlt']
    have hbr : (if offB l[i].ki = true then (l[i].pe == k) else false) = offpB k l[i] := by unfold offpB; cases offB l[i].ki <;> rfl
    repeat refine cl_seq ?_
    refine cl_rs hΓ [1,5,6,8,9,10,23] [[27, 0]] fun K' hK => ?_
    simp only [go_sem, hin, hbr]
    repeat (refine ⟨ob, ?_⟩)
    refine hK _ ?_ ?_ <;> clear K' hK <;> simp only [go_sem, hin, hbr]
    repeat refine cl_seq ?_
    refine cl_cond rfl rfl (fun hb => ?_) (fun hb => ?_)
    · repeat refine cl_seq ?_
      refine cl_r hΓ fun K' hK => ?_
      simp only [go_sem, te39, tz3]
      repeat' apply And.intro
      all_goals first | rfl | omega | exact Int.le_refl _ | exact Bool.or_not_self _ | exact Bool.not_or_self _ | exact enc_okI _ | exact enc_ok _ | exact fun x hx => (enc_okI _ x hx).1 | exact fun x hx => (enc_ok _ x hx).1 | (simp only [List.length_take, List.length_append, List.length_map, List.length_drop, List.length_cons, List.length_nil]; done) | (simp only [List.length_take, List.length_append, List.length_map, List.length_drop, List.length_cons, List.length_nil]; omega) | (simp only [List.length_take, List.length_append, List.length_map, List.length_drop, List.length_cons, List.length_nil, maxLen]; omega) | (exact fun _ => by decide) | (exact fun h => ⟨h, by decide⟩) | (simp only [decide_eq_true_eq]; omega) | skip
      refine hK _ ?_
      clear K' hK
      simp only [go_sem]
      refine cl_keep [1,5,8,9,10] [[27, 0]] ?_ ?_
      · simp only [go_sem]
      simp only [go_sem]
      repeat refine cl_seq ?_
      refine cl_r hΓ fun K' hK => ?_
      simp only [go_sem]
      repeat (refine ⟨ob, ?_⟩)
      refine hK _ ?_
      clear K' hK
      simp only [go_sem]
      refine ⟨i + 1, hlt, (show l.length - (i + 1) < l.length - i by omega), ?_⟩
      rw [hn, if_pos hb]
      refine weak_eq [1,5,8,9,10] [[27, 0]] ?_ ?_
      · simp only [go_sem]
      · simp only [go_sem, wrap_succ hlt hl, Int.natCast_add, Int.natCast_one]
        all_goals simp [vNat]
    · repeat refine cl_seq ?_
      refine cl_skip ?_
      refine cl_nil ?_
      simp only [go_sem]
      refine cl_keep [1,5,8,9,10] [[27, 0]] ?_ ?_
      · simp only [go_sem]
      simp only [go_sem]
      repeat refine cl_seq ?_
      refine cl_r hΓ fun K' hK => ?_
      simp only [go_sem]
      repeat (refine ⟨ob, ?_⟩)
      refine hK _ ?_
      clear K' hK
      simp only [go_sem]
      refine ⟨i + 1, hlt, (show l.length - (i + 1) < l.length - i by omega), ?_⟩
      rw [hn, if_neg (by simp [hb])]
      refine weak_eq [1,5,8,9,10] [[27, 0]] ?_ ?_
      · simp only [go_sem, wrap_succ hlt hl, Int.natCast_add, Int.natCast_one]
      · simp only [go_sem, wrap_succ hlt hl, Int.natCast_add, Int.natCast_one]
  · have hge : i = l.length := by
      have : ¬ (i : Int) < l.length := by simpa using hb
      omega
    subst hge
    clear hb
    repeat refine cl_seq ?_
    refine cl_exit ?_
    simp only [go_sem]
    refine cl_keep [5] [[27, 0]] ?_ ?_
    · simp only [go_sem]
    simp only [go_sem]
    rw [List.take_length]
    repeat refine cl_seq ?_
    refine cl_rs hΓ [4] [[27, 0]] fun K' hK => ?_
    simp only [go_sem]
    repeat (refine ⟨ob, ?_⟩)
    refine hK _ ?_ ?_ <;> clear K' hK <;> simp only [go_sem]
    refine cl_ret ?_
    simp only [go_sem]
end Go.Eng
namespace Go.Eng
open Go Go.Proofs
set_option maxRecDepth 10000
/-! the reference: whether just the first deeds may have happened -/
def canB (days : List (Int × Int)) (th : List Nat) (n : Nat) (day : Int) : Bool :=
  (n == 0 || decide ((days.getD (th.getD (n - 1) 0) (0, 0)).1 ≤ day)) && (n == th.length || decide ((days.getD (th.getD n 0) (0, 0)).2 > day))
def decN (v : V) : Nat := match v with | .int _ n => n.toNat | _ => 0
theorem decN_map (l : List Nat) : (l.map vNat).map decN = l := by
  rw [List.map_map]
  have : (decN ∘ vNat) = id := by funext n; simp [decN, vNat]
  rw [this, List.map_id]
def pCan : PSpec := ⟨fun xs => ∃ (days : List (Int × Int)) (th : List Nat) (n : Nat) (day : Int), xs = [.sl (days.map vIt), .sl (th.map vNat), .agg [vInt n, vInt day]] ∧ n ≤ th.length ∧ ∀ i ∈ th, i < days.length,
  fun xs => match xs with | [.sl days, .sl th, .agg [.int _ n, .int _ day]] => .bool (canB (days.map decIt) (th.map decN) n.toNat day) | _ => .bool false, true⟩
theorem pCan_fn (days : List (Int × Int)) (th : List Nat) (n : Nat) (day : Int) : pCan.fn [.sl (days.map vIt), .sl (th.map vNat), .agg [vInt n, vInt day]] = .bool (canB days th n day) := by
  simp only [pCan, decIt_map, decN_map, Int.toNat_natCast]
set_option maxHeartbeats 8000000 in
theorem s154 : PSound Tryz.prog 154 pCan := by
  refine psoundB (rs := [.tmp 6]) Tryz.func154 Tryz.ntmps154 (by rfl) (by kernel_rfl) (by decide) (by rintro _ xs ⟨days, th, n, day, rfl, _⟩; rw [pCan_fn]; rfl) ⟨_, rfl, ?_⟩
  rintro xs ⟨days, th, n, day, rfl, hn, hth⟩ hw
  have hl : th.length ≤ maxLen := by have := hw.2.1.1; simpa using this
  refine ⟨Nat.le_of_ble_eq_true rfl, ?_⟩
  rw [pCan_fn]
  have hΓ := K0n_sound
  have hP := mixedK
  repeat refine cl_seq ?_
  refine cl_rs hΓ [0,1,5] [[5, 0]] fun K' hK => ?_
  simp only [go_sem]
  repeat (refine ⟨ob, ?_⟩)
  refine hK _ ?_ ?_ <;> clear K' hK <;> simp only [go_sem]
  have hend : (n = 0 ∨ (days.getD (th.getD (n - 1) 0) (0, 0)).1 ≤ day) → canB days th n day = (n == th.length || decide ((days.getD (th.getD n 0) (0, 0)).2 > day)) := by
    intro h
    unfold canB
    rcases h with h | h
    · simp [h]
    · rw [decide_eq_true h]; simp
  by_cases h0 : n = 0
  · have e0 : decide ((n : Int) > 0) = false := by simp [h0]
    repeat refine cl_seq ?_
    refine cl_ds hΓ hP [[], [0], [0, 1], [0, 1, 2], [0, 1, 2, 3], [0, 1, 2, 3], [0, 1, 2, 3], [0, 1, 2, 3, 6], [0, 1, 2, 3, 6, 7], [0, 1, 2, 3, 5, 6, 7, 8], [0, 1, 2, 3, 5, 6, 7, 8, 9], [0, 1, 2, 3, 4, 5, 6, 7, 8, 9, 10], [0, 1, 2, 3, 4, 5, 6, 7, 8, 9, 10, 11], [0, 1, 2, 3, 4, 5, 6, 7, 8, 9, 10, 11, 12], [0, 1, 2, 3], [0, 1, 2, 3, 14], [0, 1, 2, 3, 4, 5, 6, 7, 8, 9, 10, 11, 12, 13, 14, 15], [0, 1, 2, 3, 4, 5, 6, 7, 8, 9, 10, 11, 12, 13, 14, 15, 16]] [0,1,5,24] [[5, 0]] (by kernel_rfl) fun K' hK => ?_
    simp only [go_sem, e0]
    repeat (refine ⟨ob, ?_⟩)
    first | refine ⟨by rfl, ?_⟩ | skip
    refine hK _ ?_ ?_ <;> clear K' hK <;> simp only [go_sem, e0]
    repeat refine cl_seq ?_
    refine cl_cond rfl rfl (fun hb => ?_) (fun hb => ?_)
    · cases hb
    repeat refine cl_seq ?_
    refine cl_skip ?_
    have e9 := hend (.inl h0)
    by_cases h1 : n = th.length
    · have e2 : ((n : Int) == (th.length : Int)) = true := by simp [h1]
      have e3 : canB days th n day = true := by rw [e9]; simp [h1]
      rw [e3]
      repeat refine cl_seq ?_
      refine cl_ds hΓ hP [[], [0], [], [2], [0, 1, 2, 3], [0, 1, 2, 3, 4], [0, 1, 2, 3, 4, 5], [0, 1, 2, 3, 4, 5], [0, 1, 2, 3, 4, 5], [0, 1, 2, 3, 4, 5, 8], [0, 1, 2, 3, 4, 5, 7, 8, 9], [0, 1, 2, 3, 4, 5, 7, 8, 9, 10], [0, 1, 2, 3, 4, 5, 6, 7, 8, 9, 10, 11], [0, 1, 2, 3, 4, 5, 6, 7, 8, 9, 10, 11, 12], [0, 1, 2, 3, 4, 5, 6, 7, 8, 9, 10, 11, 12, 13], [0, 1, 2, 3, 4, 5], [0, 1, 2, 3, 4, 5, 15], [0, 1, 2, 3, 4, 5, 6, 7, 8, 9, 10, 11, 12, 13, 14, 15, 16], [0, 1, 2, 3, 4, 5, 6, 7, 8, 9, 10, 11, 12, 13, 14, 15, 16, 17], [0, 1, 2, 3, 4, 5, 6, 7, 8, 9, 10, 11, 12, 13, 14, 15, 16, 17, 18]] [6] [] (by kernel_rfl) fun K' hK => ?_
      simp only [go_sem, e2]
      repeat (refine ⟨ob, ?_⟩)
      first | refine ⟨by rfl, ?_⟩ | skip
      refine hK _ ?_ ?_ <;> clear K' hK <;> simp only [go_sem, e2]
      refine cl_ret ?_
      simp only [go_sem]
    · have e2 : ((n : Int) == (th.length : Int)) = false := by simpa using fun h => h1 (by omega)
      have hlt : n < th.length := by omega
      have hlt' : (n : Int) < th.length := by omega
      have hm : th[n] < days.length := hth _ (List.getElem_mem hlt)
      have hm' : (th[n] : Int) < days.length := by omega
      have e4 : canB days th n day = decide (days[th[n]].2 > day) := by rw [e9]; simp [h1, List.getD_eq_getElem?_getD, hlt, hm]
      rw [e4]
      repeat refine cl_seq ?_
      refine cl_ds hΓ hP [[], [0], [], [2], [0, 1, 2, 3], [0, 1, 2, 3, 4], [0, 1, 2, 3, 4, 5], [0, 1, 2, 3, 4, 5], [0, 1, 2, 3, 4, 5], [0, 1, 2, 3, 4, 5, 8], [0, 1, 2, 3, 4, 5, 7, 8, 9], [0, 1, 2, 3, 4, 5, 7, 8, 9, 10], [0, 1, 2, 3, 4, 5, 6, 7, 8, 9, 10, 11], [0, 1, 2, 3, 4, 5, 6, 7, 8, 9, 10, 11, 12], [0, 1, 2, 3, 4, 5, 6, 7, 8, 9, 10, 11, 12, 13], [0, 1, 2, 3, 4, 5], [0, 1, 2, 3, 4, 5, 15], [0, 1, 2, 3, 4, 5, 6, 7, 8, 9, 10, 11, 12, 13, 14, 15, 16], [0, 1, 2, 3, 4, 5, 6, 7, 8, 9, 10, 11, 12, 13, 14, 15, 16, 17], [0, 1, 2, 3, 4, 5, 6, 7, 8, 9, 10, 11, 12, 13, 14, 15, 16, 17, 18]] [6] [] (by kernel_rfl) fun K' hK => ?_
      simp only [go_sem, e2, map_getD hlt, vNat, map_getD hm, vIt, Int.toNat_natCast, Int.natCast_nonneg, hlt', hm', te39, te146, Int.reduceToNat, List.getD_cons_succ, List.getD_cons_zero]
      repeat (refine ⟨ob, ?_⟩)
      first | refine ⟨by rfl, ?_⟩ | skip
      refine hK _ ?_ ?_ <;> clear K' hK <;> simp only [go_sem, e2, map_getD hlt, vNat, map_getD hm, vIt, Int.toNat_natCast, Int.natCast_nonneg, hlt', hm', te39, te146, Int.reduceToNat, List.getD_cons_succ, List.getD_cons_zero]
      refine cl_ret ?_
      simp only [go_sem]
  · have e0 : decide ((n : Int) > 0) = true := by simp; omega
    have hlt0 : n - 1 < th.length := by omega
    have hlt0' : ((n - 1 : Nat) : Int) < th.length := by omega
    have hm : th[n - 1] < days.length := hth _ (List.getElem_mem hlt0)
    have hm' : (th[n - 1] : Int) < days.length := by omega
    have hd : (days.getD (th.getD (n - 1) 0) (0, 0)).1 = days[th[n - 1]].1 := by simp [List.getD_eq_getElem?_getD, hlt0, hm]
    repeat refine cl_seq ?_
    refine cl_ds hΓ hP [[], [0], [0, 1], [0, 1, 2], [0, 1, 2, 3], [0, 1, 2, 3], [0, 1, 2, 3], [0, 1, 2, 3, 6], [0, 1, 2, 3, 6, 7], [0, 1, 2, 3, 5, 6, 7, 8], [0, 1, 2, 3, 5, 6, 7, 8, 9], [0, 1, 2, 3, 4, 5, 6, 7, 8, 9, 10], [0, 1, 2, 3, 4, 5, 6, 7, 8, 9, 10, 11], [0, 1, 2, 3, 4, 5, 6, 7, 8, 9, 10, 11, 12], [0, 1, 2, 3], [0, 1, 2, 3, 14], [0, 1, 2, 3, 4, 5, 6, 7, 8, 9, 10, 11, 12, 13, 14, 15], [0, 1, 2, 3, 4, 5, 6, 7, 8, 9, 10, 11, 12, 13, 14, 15, 16]] [0,1,5,24] [[5, 0]] (by kernel_rfl) fun K' hK => ?_
    simp only [go_sem, e0, wrap_pred h0 (Nat.le_trans hn hl), map_getD hlt0, vNat, map_getD hm, vIt, Int.toNat_natCast, Int.natCast_nonneg, hlt0', hm', te39, te146, Int.reduceToNat, List.getD_cons_succ, List.getD_cons_zero]
    repeat (refine ⟨ob, ?_⟩)
    first | refine ⟨by rfl, ?_⟩ | skip
    refine hK _ ?_ ?_ <;> clear K' hK <;> simp only [go_sem, e0, wrap_pred h0 (Nat.le_trans hn hl), map_getD hlt0, vNat, map_getD hm, vIt, Int.toNat_natCast, Int.natCast_nonneg, hlt0', hm', te39, te146, Int.reduceToNat, List.getD_cons_succ, List.getD_cons_zero]
    repeat refine cl_seq ?_
    refine cl_cond rfl rfl (fun hb => ?_) (fun hb => ?_)
    · have h2 : ¬ (days.getD (th.getD (n - 1) 0) (0, 0)).1 ≤ day := by rw [hd]; simpa using hb
      have e3 : canB days th n day = false := by unfold canB; rw [decide_eq_false h2]; simp [h0]
      rw [e3]
      repeat refine cl_seq ?_
      repeat refine cl_seq ?_
      refine cl_rs hΓ [6] [] fun K' hK => ?_
      simp only [go_sem]
      repeat (refine ⟨ob, ?_⟩)
      refine hK _ ?_ ?_ <;> clear K' hK <;> simp only [go_sem]
      refine cl_ret ?_
      simp only [go_sem]
    have h2 : (days.getD (th.getD (n - 1) 0) (0, 0)).1 ≤ day := by rw [hd]; simpa using hb
    repeat refine cl_seq ?_
    refine cl_skip ?_
    refine cl_keep [0,1,5] [[5, 0]] ?_ ?_
    · simp only [go_sem]
    simp only [go_sem]
    clear hb hd hm hm'
    have e9 := hend (.inr h2)
    by_cases h1 : n = th.length
    · have e2 : ((n : Int) == (th.length : Int)) = true := by simp [h1]
      have e3 : canB days th n day = true := by rw [e9]; simp [h1]
      rw [e3]
      repeat refine cl_seq ?_
      refine cl_ds hΓ hP [[], [0], [], [2], [0, 1, 2, 3], [0, 1, 2, 3, 4], [0, 1, 2, 3, 4, 5], [0, 1, 2, 3, 4, 5], [0, 1, 2, 3, 4, 5], [0, 1, 2, 3, 4, 5, 8], [0, 1, 2, 3, 4, 5, 7, 8, 9], [0, 1, 2, 3, 4, 5, 7, 8, 9, 10], [0, 1, 2, 3, 4, 5, 6, 7, 8, 9, 10, 11], [0, 1, 2, 3, 4, 5, 6, 7, 8, 9, 10, 11, 12], [0, 1, 2, 3, 4, 5, 6, 7, 8, 9, 10, 11, 12, 13], [0, 1, 2, 3, 4, 5], [0, 1, 2, 3, 4, 5, 15], [0, 1, 2, 3, 4, 5, 6, 7, 8, 9, 10, 11, 12, 13, 14, 15, 16], [0, 1, 2, 3, 4, 5, 6, 7, 8, 9, 10, 11, 12, 13, 14, 15, 16, 17], [0, 1, 2, 3, 4, 5, 6, 7, 8, 9, 10, 11, 12, 13, 14, 15, 16, 17, 18]] [6] [] (by kernel_rfl) fun K' hK => ?_
      simp only [go_sem, e2]
      repeat (refine ⟨ob, ?_⟩)
      first | refine ⟨by rfl, ?_⟩ | skip
      refine hK _ ?_ ?_ <;> clear K' hK <;> simp only [go_sem, e2]
      refine cl_ret ?_
      simp only [go_sem]
    · have e2 : ((n : Int) == (th.length : Int)) = false := by simpa using fun h => h1 (by omega)
      have hlt : n < th.length := by omega
      have hlt' : (n : Int) < th.length := by omega
      have hm : th[n] < days.length := hth _ (List.getElem_mem hlt)
      have hm' : (th[n] : Int) < days.length := by omega
      have e4 : canB days th n day = decide (days[th[n]].2 > day) := by rw [e9]; simp [h1, List.getD_eq_getElem?_getD, hlt, hm]
      rw [e4]
      repeat refine cl_seq ?_
      refine cl_ds hΓ hP [[], [0], [], [2], [0, 1, 2, 3], [0, 1, 2, 3, 4], [0, 1, 2, 3, 4, 5], [0, 1, 2, 3, 4, 5], [0, 1, 2, 3, 4, 5], [0, 1, 2, 3, 4, 5, 8], [0, 1, 2, 3, 4, 5, 7, 8, 9], [0, 1, 2, 3, 4, 5, 7, 8, 9, 10], [0, 1, 2, 3, 4, 5, 6, 7, 8, 9, 10, 11], [0, 1, 2, 3, 4, 5, 6, 7, 8, 9, 10, 11, 12], [0, 1, 2, 3, 4, 5, 6, 7, 8, 9, 10, 11, 12, 13], [0, 1, 2, 3, 4, 5], [0, 1, 2, 3, 4, 5, 15], [0, 1, 2, 3, 4, 5, 6, 7, 8, 9, 10, 11, 12, 13, 14, 15, 16], [0, 1, 2, 3, 4, 5, 6, 7, 8, 9, 10, 11, 12, 13, 14, 15, 16, 17], [0, 1, 2, 3, 4, 5, 6, 7, 8, 9, 10, 11, 12, 13, 14, 15, 16, 17, 18]] [6] [] (by kernel_rfl) fun K' hK => ?_
      simp only [go_sem, e2, map_getD hlt, vNat, map_getD hm, vIt, Int.toNat_natCast, Int.natCast_nonneg, hlt', hm', te39, te146, Int.reduceToNat, List.getD_cons_succ, List.getD_cons_zero]
      repeat (refine ⟨ob, ?_⟩)
      first | refine ⟨by rfl, ?_⟩ | skip
      refine hK _ ?_ ?_ <;> clear K' hK <;> simp only [go_sem, e2, map_getD hlt, vNat, map_getD hm, vIt, Int.toNat_natCast, Int.natCast_nonneg, hlt', hm', te39, te146, Int.reduceToNat, List.getD_cons_succ, List.getD_cons_zero]
      refine cl_ret ?_
      simp only [go_sem]
end Go.Eng
namespace Go.Eng
open Go Go.Proofs
set_option maxRecDepth 10000
/-! the reference: what a lock's key may be -/
def kN (c : List Deed) (th : List Nat) (m : Nat) : Int × Int := (th.take m).foldl (fun k i => keyA k (c.getD i zeroD)) (0, 0)
theorem kN_succ {c : List Deed} {th : List Nat} {m : Nat} (h : m < th.length) (h' : th[m] < c.length) : kN c th (m + 1) = keyA (kN c th m) c[th[m]] := by
  unfold kN
  rw [List.take_add_one, List.getElem?_eq_getElem h, List.foldl_append]
  simp [List.getD_eq_getElem?_getD, h']
def keysTo (c : List Deed) (th : List Nat) (day : Int) (s : Nat) : List (Int × Int) := ((List.range s).filter fun n => canB (daysRL c) th n day).map (kN c th)
theorem keysTo_next (c : List Deed) (th : List Nat) (day : Int) (s : Nat) : keysTo c th day (s + 1) = if canB (daysRL c) th s day then keysTo c th day s ++ [kN c th s] else keysTo c th day s := by
  unfold keysTo
  rw [List.range_succ, List.filter_append, List.map_append]
  simp only [List.filter_cons, List.filter_nil]
  split <;> simp
theorem keysTo_len (c : List Deed) (th : List Nat) (day : Int) (s : Nat) : (keysTo c th day s).length ≤ s := by
  unfold keysTo
  rw [List.length_map]
  have := List.length_filter_le (fun n => canB (daysRL c) th n day) (List.range s)
  simpa using this
def keysL (c : List Deed) (lock day : Int) : List (Int × Int) := keysTo c (idxF (thrB lock) 0 c) day ((idxF (thrB lock) 0 c).length + 1)
noncomputable def sCan : Spec := pCan.toSpec
theorem sCan_app {obj : Name → Option O} {t : Name} {days : List (Int × Int)} {th : List Nat} {n : Nat} {day : Int} (hn : n ≤ th.length) (h : ∀ i ∈ th, i < days.length) : sCan.app obj t [.v (.sl (days.map vIt)), .v (.sl (th.map vNat)), .agg [.v (vInt n), .v (vInt day)]] = ⟨True, .v (.bool (canB days th n day)), obj⟩ := by
  have e : frzL (frz 6) obj [.v (.sl (days.map vIt)), .v (.sl (th.map vNat)), .agg [.v (vInt n), .v (vInt day)]] = ⟨True, [.sl (days.map vIt), .sl (th.map vNat), .agg [vInt n, vInt day]], obj⟩ := by
    simp [frzL, frz, D.one, V.one]
  simp only [sCan, PSpec.toSpec, e, pCan_fn]
  simp only [pCan, if_true]
  congr 1
  simp only [eq_iff_iff, iff_true]
  exact ⟨trivial, days, th, n, day, rfl, hn, h⟩
noncomputable def sKD (f : Int × Int → Deed → V) : Spec := (pKD f).toSpec
theorem sKD_app {f : Int × Int → Deed → V} {obj : Name → Option O} {t : Name} {a b : Int} {d : Deed} : (sKD f).app obj t [.agg [.v (vInt a), .v (vInt b)], .v (encD d)] = ⟨True, .v (f (a, b) d), obj⟩ := by
  have e : frzL (frz 6) obj [.agg [.v (vInt a), .v (vInt b)], .v (encD d)] = ⟨True, [encK (a, b), encD d], obj⟩ := by
    simp [frzL, frz, D.one, V.one, encK]
  simp only [sKD, PSpec.toSpec, e, pKD_fn]
  simp only [pKD, if_true]
  congr 1
  simp only [eq_iff_iff, iff_true]
  exact ⟨trivial, _, d, rfl⟩
noncomputable def K52 : FuncId → Option Spec := fun f => match f with
  | 116 => some (sL (fun c => c.length ≤ 60) fun c => .sl ((daysRL c).map vIt))
  | 123 => some (sLI (fun c => c.length ≤ 60) thrV false)
  | 124 => some (sKD fun k d => encK (keyA k d))
  | 154 => some sCan
  | _ => none
theorem K52_sound : ∀ f s, K52 f = some s → SSound Tryz.prog f s := by
  intro f s h
  unfold K52 at h
  split at h
  · cases h; exact s116.sound
  · cases h; exact s123.sound
  · cases h; exact s124.sound
  · cases h; exact s154.sound
  · cases h
@[go_sem] theorem K52_116 : K52 116 = some (sL (fun c => c.length ≤ 60) fun c => .sl ((daysRL c).map vIt)) := rfl
@[go_sem] theorem K52_123 : K52 123 = some (sLI (fun c => c.length ≤ 60) thrV false) := rfl
@[go_sem] theorem K52_124 : K52 124 = some (sKD fun k d => encK (keyA k d)) := rfl
@[go_sem] theorem K52_154 : K52 154 = some sCan := rfl
set_option maxHeartbeats 8000000 in
theorem s153 : PSound Tryz.prog 153 (pLII (fun c => c.length ≤ 60) (fun c lock day => .sl ((keysL c lock day).map encK)) false) := by
  refine psoundB (rs := [.tmp 6]) Tryz.func153 Tryz.ntmps153 (by rfl) (by kernel_rfl) (by decide) (fun h => by cases h) ⟨_, rfl, ?_⟩
  rintro xs ⟨c, lock, day, rfl, hc60⟩ hw
  have hl : c.length ≤ maxLen := by unfold maxLen; omega
  refine ⟨Nat.le_of_ble_eq_true rfl, ?_⟩
  rw [pLII_fn]
  unfold keysL
  have hΓ := K52_sound
  have hP := mixedK
  have hdy := fun (obj : Name → Option O) (t : Name) (f : List Deed → V) => sL_app (P := fun c => c.length ≤ 60) (f := f) (obj := obj) (t := t) (l := c) hc60
  have hth := fun (obj : Name → Option O) (t : Name) (f : List Deed → Int → V) (fl : Bool) => sLI_app (P := fun c => c.length ≤ 60) (f := f) (fl := fl) (obj := obj) (t := t) (l := c) (k := lock) hc60
  have e0 : thrV c lock = .sl ((idxF (thrB lock) 0 c).map vNat) := rfl
  have hlt : ∀ i ∈ idxF (thrB lock) 0 c, i < c.length := fun i hi => by have := idxF_lt (thrB lock) c 0 i hi; omega
  have hln : (idxF (thrB lock) 0 c).length ≤ 60 := by have := idxF_len (thrB lock) c 0; omega
  generalize idxF (thrB lock) 0 c = th at e0 hlt hln
  repeat refine cl_seq ?_
  refine cl_rs hΓ [0,1,2] [] fun K' hK => ?_
  simp only [go_sem]
  repeat (refine ⟨ob, ?_⟩)
  refine hK _ ?_ ?_ <;> clear K' hK <;> simp only [go_sem]
  repeat refine cl_seq ?_
  refine cl_rs hΓ [0,1,2,7] [] fun K' hK => ?_
  simp only [go_sem, hdy]
  repeat (refine ⟨ob, ?_⟩)
  refine hK _ ?_ ?_ <;> clear K' hK <;> simp only [go_sem, hdy]
  repeat refine cl_seq ?_
  refine cl_rs hΓ [0,2,7,8] [] fun K' hK => ?_
  simp only [go_sem, hth, e0]
  repeat (refine ⟨ob, ?_⟩)
  refine hK _ ?_ ?_ <;> clear K' hK <;> simp only [go_sem, hth, e0]
  repeat refine cl_seq ?_
  refine cl_rs hΓ [0,2,7,8,9] [[9, 0]] fun K' hK => ?_
  simp only [go_sem, tz85, tp85, Nat.reduceLeDiff, Nat.le_refl]
  repeat (refine ⟨ob, ?_⟩)
  refine hK _ ?_ ?_ <;> clear K' hK <;> simp only [go_sem, tz85, tp85, Nat.reduceLeDiff, Nat.le_refl]
  repeat refine cl_seq ?_
  refine cl_rs hΓ [0,2,7,8,9,10] [[9, 0]] fun K' hK => ?_
  simp only [go_sem]
  repeat (refine ⟨ob, ?_⟩)
  refine hK _ ?_ ?_ <;> clear K' hK <;> simp only [go_sem]
  refine cl_weakM (σ' := mkS 47 [0] (fun _ => none) [(0, ⟨true, .v (.sl (c.map encD))⟩), (2, ⟨true, .v (vInt day)⟩), (7, ⟨true, .v (.sl ((daysRL c).map vIt))⟩), (8, ⟨true, .v (.sl (th.map vNat))⟩), (9, ⟨true, .ref [9, 0] 0⟩), (10, ⟨true, .msl [45, 0] 0⟩)] [([9, 0], .box [.v (vInt 0), .v (vInt 0)]), ([45, 0], .arr 2 [])]) (weakM_ghostk 10 [45, 0] 2 (by simp only [go_sem]) (by simp only [go_sem]) [0,2,7,8,9,10] [[9, 0],[45, 0]] ?_ ?_) ?_
  · simp only [go_sem]
  · simp only [go_sem]
  repeat refine cl_seq ?_
  refine cl_rs hΓ [0,2,7,8,9,10,11] [[9, 0],[45, 0]] fun K' hK => ?_
  simp only [go_sem]
  repeat (refine ⟨ob, ?_⟩)
  refine hK _ ?_ ?_ <;> clear K' hK <;> simp only [go_sem]
  repeat refine cl_seq ?_
  refine cl_block ?_
  repeat refine cl_seq ?_
  refine cl_loop' (fun s : Nat => [(10, ⟨true, .msl [45, 0] (keysTo c th day s).length⟩), (11, ⟨true, .v (vInt s)⟩)]) (fun s => [([9, 0], .box [.v (vInt (kN c th (s - 1)).1), .v (vInt (kN c th (s - 1)).2)]), ([45, 0], .arr 2 ((keysTo c th day s).map encK))]) (fun s => s ≤ th.length + 1) (fun s => th.length + 1 - s) 0 ?_ ?_ ?_ ?_
  · exact Nat.zero_le _
  · rfl
  · rfl
  rintro i hi
  simp only [go_sem]
  repeat refine cl_seq ?_
  repeat refine cl_seq ?_
  refine cl_rs hΓ [0,2,7,8,9,10,11,21] [[9, 0],[45, 0]] fun K' hK => ?_
  simp only [go_sem]
  repeat (refine ⟨ob, ?_⟩)
  refine hK _ ?_ ?_ <;> clear K' hK <;> simp only [go_sem]
  repeat refine cl_seq ?_
  refine cl_cond rfl rfl (fun hb => ?_) (fun hb => ?_)
  · have hle : i ≤ th.length := by simpa using hb
    have hkl := keysTo_len c th day i
    have hws : IntKind.i64.wrap ((i : Int) + 1) = ((i + 1 : Nat) : Int) := wrap_succ (n := th.length + 1) (by omega) (by unfold maxLen; omega)
    have hlt' : ∀ j ∈ th, j < (daysRL c).length := fun j hj => by rw [daysRL_len]; exact hlt j hj
    have hcan := fun (obj : Name → Option O) (t : Name) => sCan_app (obj := obj) (t := t) (day := day) hle hlt'
    clear hb
    repeat refine cl_seq ?_
    refine cl_skip ?_
    repeat refine cl_seq ?_
    refine cl_block ?_
    repeat refine cl_seq ?_
    repeat refine cl_seq ?_
    refine cl_rs hΓ [0,2,7,8,9,10,11,25] [[9, 0],[45, 0]] fun K' hK => ?_
    simp only [go_sem]
    repeat (refine ⟨ob, ?_⟩)
    refine hK _ ?_ ?_ <;> clear K' hK <;> simp only [go_sem]
    repeat refine cl_seq ?_
    refine cl_cond rfl rfl (fun hb => ?_) (fun hb => ?_)
    · have h0 : ¬ i = 0 := by
        have : (i : Int) > 0 := by simpa using hb
        omega
      have h1 : i - 1 < th.length := by omega
      have h1' : ((i - 1 : Nat) : Int) < th.length := by omega
      have hm : th[i - 1] < c.length := hlt _ (List.getElem_mem h1)
      have hm' : (th[i - 1] : Int) < c.length := by omega
      have ek : keyA ((kN c th (i - 1)).1, (kN c th (i - 1)).2) c[th[i - 1]] = kN c th i := by
        have := kN_succ (c := c) h1 hm
        rw [show i - 1 + 1 = i by omega] at this
        exact this.symm
      clear hb
      have hkd := fun (f : Int × Int → Deed → V) (obj : Name → Option O) (t : Name) (a b : Int) (d : Deed) => sKD_app (f := f) (obj := obj) (t := t) (a := a) (b := b) (d := d)
      simp only [encD] at hkd
      repeat refine cl_seq ?_
      repeat refine cl_seq ?_
      refine cl_ds hΓ hP [[], [], [], [], [3], [2, 3, 4], [2, 3, 4, 5], [1, 2, 3, 4, 5, 6], [1, 2, 3, 4, 5, 6, 7], [0, 1, 2, 3, 4, 5, 6, 7, 8], [0, 1, 2, 3, 4, 5, 6, 7, 8, 9]] [0,2,7,8,9,10,11] [[9, 0],[45, 0]] (by kernel_rfl) fun K' hK => ?_
      simp only [go_sem, wrap_pred h0 (show i ≤ maxLen by unfold maxLen; omega), map_getD h1, vNat, map_getD hm, Int.toNat_natCast, Int.natCast_nonneg, h1', hm', te39, te22, hkd, ek, encK]
      repeat (refine ⟨ob, ?_⟩)
      first | refine ⟨by rfl, ?_⟩ | skip
      refine hK _ ?_ ?_ <;> clear K' hK <;> simp only [go_sem, wrap_pred h0 (show i ≤ maxLen by unfold maxLen; omega), map_getD h1, vNat, map_getD hm, Int.toNat_natCast, Int.natCast_nonneg, h1', hm', te39, te22, hkd, ek, encK]
      repeat refine cl_seq ?_
      refine cl_rs hΓ [0,2,7,8,9,10,11,41] [[9, 0],[45, 0]] fun K' hK => ?_
      simp only [go_sem, hcan, tz23, Nat.reduceLeDiff, Nat.le_refl]
      repeat (refine ⟨ob, ?_⟩)
      refine hK _ ?_ ?_ <;> clear K' hK <;> simp only [go_sem, hcan, tz23, Nat.reduceLeDiff, Nat.le_refl]
      repeat refine cl_seq ?_
      refine cl_cond rfl rfl (fun hb => ?_) (fun hb => ?_)
      · repeat refine cl_seq ?_
        refine cl_r hΓ fun K' hK => ?_
        simp only [go_sem, te132, tz85]
        repeat' apply And.intro
        all_goals first | rfl | omega | exact Int.le_refl _ | exact Bool.or_not_self _ | exact Bool.not_or_self _ | exact enc_okI _ | exact enc_ok _ | exact fun x hx => (enc_okI _ x hx).1 | exact fun x hx => (enc_ok _ x hx).1 | (simp only [List.length_take, List.length_append, List.length_map, List.length_drop, List.length_cons, List.length_nil]; done) | (simp only [List.length_take, List.length_append, List.length_map, List.length_drop, List.length_cons, List.length_nil]; omega) | (simp only [List.length_take, List.length_append, List.length_map, List.length_drop, List.length_cons, List.length_nil, maxLen]; omega) | (exact fun _ => by decide) | (exact fun h => ⟨h, by decide⟩) | (simp only [decide_eq_true_eq]; omega) | skip
        refine hK _ ?_
        clear K' hK
        simp only [go_sem]
        refine cl_keep [0,2,7,8,9,10,11] [[9, 0],[45, 0]] ?_ ?_
        · simp only [go_sem]
        simp only [go_sem]
        repeat refine cl_seq ?_
        refine cl_r hΓ fun K' hK => ?_
        simp only [go_sem]
        repeat (refine ⟨ob, ?_⟩)
        refine hK _ ?_
        clear K' hK
        simp only [go_sem]
        refine ⟨i + 1, by omega, by omega, ?_⟩
        rw [keysTo_next, if_pos hb]
        refine weak_eq [0,2,7,8,9,10,11] [[9, 0],[45, 0]] ?_ ?_
        · simp only [go_sem]
        · simp only [go_sem, hws, Int.natCast_add, Int.natCast_one, Nat.add_sub_cancel]
          all_goals simp [encK]
      · repeat refine cl_seq ?_
        refine cl_skip ?_
        refine cl_nil ?_
        simp only [go_sem]
        refine cl_keep [0,2,7,8,9,10,11] [[9, 0],[45, 0]] ?_ ?_
        · simp only [go_sem]
        simp only [go_sem]
        repeat refine cl_seq ?_
        refine cl_r hΓ fun K' hK => ?_
        simp only [go_sem]
        repeat (refine ⟨ob, ?_⟩)
        refine hK _ ?_
        clear K' hK
        simp only [go_sem]
        refine ⟨i + 1, by omega, by omega, ?_⟩
        rw [keysTo_next, if_neg (by simp [hb])]
        refine weak_eq [0,2,7,8,9,10,11] [[9, 0],[45, 0]] ?_ ?_
        · simp only [go_sem, hws, Int.natCast_add, Int.natCast_one, Nat.add_sub_cancel]
        · simp only [go_sem, hws, Int.natCast_add, Int.natCast_one, Nat.add_sub_cancel]
    · have h0 : i = 0 := by
        have : ¬ (i : Int) > 0 := by simpa using hb
        omega
      have ek : kN c th (i - 1) = kN c th i := by rw [h0]
      clear hb
      repeat refine cl_seq ?_
      refine cl_skip ?_
      rw [ek]
      repeat refine cl_seq ?_
      refine cl_rs hΓ [0,2,7,8,9,10,11,41] [[9, 0],[45, 0]] fun K' hK => ?_
      simp only [go_sem, hcan, tz23, Nat.reduceLeDiff, Nat.le_refl]
      repeat (refine ⟨ob, ?_⟩)
      refine hK _ ?_ ?_ <;> clear K' hK <;> simp only [go_sem, hcan, tz23, Nat.reduceLeDiff, Nat.le_refl]
      repeat refine cl_seq ?_
      refine cl_cond rfl rfl (fun hb => ?_) (fun hb => ?_)
      · repeat refine cl_seq ?_
        refine cl_r hΓ fun K' hK => ?_
        simp only [go_sem, te132, tz85]
        repeat' apply And.intro
        all_goals first | rfl | omega | exact Int.le_refl _ | exact Bool.or_not_self _ | exact Bool.not_or_self _ | exact enc_okI _ | exact enc_ok _ | exact fun x hx => (enc_okI _ x hx).1 | exact fun x hx => (enc_ok _ x hx).1 | (simp only [List.length_take, List.length_append, List.length_map, List.length_drop, List.length_cons, List.length_nil]; done) | (simp only [List.length_take, List.length_append, List.length_map, List.length_drop, List.length_cons, List.length_nil]; omega) | (simp only [List.length_take, List.length_append, List.length_map, List.length_drop, List.length_cons, List.length_nil, maxLen]; omega) | (exact fun _ => by decide) | (exact fun h => ⟨h, by decide⟩) | (simp only [decide_eq_true_eq]; omega) | skip
        refine hK _ ?_
        clear K' hK
        simp only [go_sem]
        refine cl_keep [0,2,7,8,9,10,11] [[9, 0],[45, 0]] ?_ ?_
        · simp only [go_sem]
        simp only [go_sem]
        repeat refine cl_seq ?_
        refine cl_r hΓ fun K' hK => ?_
        simp only [go_sem]
        repeat (refine ⟨ob, ?_⟩)
        refine hK _ ?_
        clear K' hK
        simp only [go_sem]
        refine ⟨i + 1, by omega, by omega, ?_⟩
        rw [keysTo_next, if_pos hb]
        refine weak_eq [0,2,7,8,9,10,11] [[9, 0],[45, 0]] ?_ ?_
        · simp only [go_sem]
        · simp only [go_sem, hws, Int.natCast_add, Int.natCast_one, Nat.add_sub_cancel]
          all_goals simp [encK]
      · repeat refine cl_seq ?_
        refine cl_skip ?_
        refine cl_nil ?_
        simp only [go_sem]
        refine cl_keep [0,2,7,8,9,10,11] [[9, 0],[45, 0]] ?_ ?_
        · simp only [go_sem]
        simp only [go_sem]
        repeat refine cl_seq ?_
        refine cl_r hΓ fun K' hK => ?_
        simp only [go_sem]
        repeat (refine ⟨ob, ?_⟩)
        refine hK _ ?_
        clear K' hK
        simp only [go_sem]
        refine ⟨i + 1, by omega, by omega, ?_⟩
        rw [keysTo_next, if_neg (by simp [hb])]
        refine weak_eq [0,2,7,8,9,10,11] [[9, 0],[45, 0]] ?_ ?_
        · simp only [go_sem, hws, Int.natCast_add, Int.natCast_one, Nat.add_sub_cancel]
        · simp only [go_sem, hws, Int.natCast_add, Int.natCast_one, Nat.add_sub_cancel]
  · have hge : i = th.length + 1 := by
      have : ¬ (i : Int) ≤ th.length := by simpa using hb
      omega
    subst hge
    clear hb
    repeat refine cl_seq ?_
    refine cl_exit ?_
    simp only [go_sem]
    refine cl_keep [10] [[45, 0]] ?_ ?_
    · simp only [go_sem]
    simp only [go_sem]
    repeat refine cl_seq ?_
    refine cl_rs hΓ [6] [[45, 0]] fun K' hK => ?_
    simp only [go_sem]
    repeat (refine ⟨ob, ?_⟩)
    refine hK _ ?_ ?_ <;> clear K' hK <;> simp only [go_sem]
    refine cl_ret ?_
    simp only [go_sem]
end Go.Eng
namespace Go.Eng
open Go Go.Proofs
set_option maxRecDepth 10000
/-! the reference: whether a person is in office -/
def inK (c : List Deed) (th : List Nat) (n : Nat) : Bool := n != 0 && (c.getD (th.getD (n - 1) 0) zeroD).ki == 1
def yesN (c : List Deed) (th : List Nat) (day : Int) (s : Nat) : Bool := (List.range s).any fun n => canB (daysRL c) th n day && inK c th n
def noN (c : List Deed) (th : List Nat) (day : Int) (s : Nat) : Bool := (List.range s).any fun n => canB (daysRL c) th n day && !inK c th n
theorem yesN_next (c : List Deed) (th : List Nat) (day : Int) (s : Nat) : yesN c th day (s + 1) = (yesN c th day s || (canB (daysRL c) th s day && inK c th s)) := by
  unfold yesN; rw [List.range_succ, List.any_append]; simp
theorem noN_next (c : List Deed) (th : List Nat) (day : Int) (s : Nat) : noN c th day (s + 1) = (noN c th day s || (canB (daysRL c) th s day && !inK c th s)) := by
  unfold noN; rw [List.range_succ, List.any_append]; simp
theorem pick_or (y b : Bool) : (if y = true then true else b) = (y || b) := by cases y <;> rfl
noncomputable def sBB (f : Bool → Bool → V) : Spec := (pBB f).toSpec
theorem sBB_app {f : Bool → Bool → V} {obj : Name → Option O} {t : Name} {a b : Bool} : (sBB f).app obj t [.v (.bool a), .v (.bool b)] = ⟨True, .v (f a b), obj⟩ := by
  simp only [sBB, PSpec.toSpec, frzL, frz, pBB, if_true]
  congr 1
  simp only [eq_iff_iff, iff_true]
  exact ⟨⟨trivial, trivial, trivial⟩, a, b, rfl⟩
noncomputable def K53 : FuncId → Option Spec := fun f => match f with
  | 116 => some (sL (fun c => c.length ≤ 60) fun c => .sl ((daysRL c).map vIt))
  | 125 => some (sLI (fun c => c.length ≤ 60) offpV false)
  | 107 => some (sBB fun a b => vInt (ansI a b))
  | 154 => some sCan
  | _ => none
theorem K53_sound : ∀ f s, K53 f = some s → SSound Tryz.prog f s := by
  intro f s h
  unfold K53 at h
  split at h
  · cases h; exact s116.sound
  · cases h; exact s125.sound
  · cases h; exact s107.sound
  · cases h; exact s154.sound
  · cases h
@[go_sem] theorem K53_116 : K53 116 = some (sL (fun c => c.length ≤ 60) fun c => .sl ((daysRL c).map vIt)) := rfl
@[go_sem] theorem K53_125 : K53 125 = some (sLI (fun c => c.length ≤ 60) offpV false) := rfl
@[go_sem] theorem K53_107 : K53 107 = some (sBB fun a b => vInt (ansI a b)) := rfl
@[go_sem] theorem K53_154 : K53 154 = some sCan := rfl
def offI (c : List Deed) (pe day : Int) : Int := ansI (yesN c (idxF (offpB pe) 0 c) day ((idxF (offpB pe) 0 c).length + 1)) (noN c (idxF (offpB pe) 0 c) day ((idxF (offpB pe) 0 c).length + 1))
set_option maxHeartbeats 8000000 in
theorem s113 : PSound Tryz.prog 113 (pLII (fun c => c.length ≤ 60) (fun c pe day => vInt (offI c pe day)) true) := by
  refine psoundB (rs := [.tmp 6]) Tryz.func113 Tryz.ntmps113 (by rfl) (by kernel_rfl) (by decide) (by rintro _ xs ⟨c, pe, day, rfl, _⟩; rw [pLII_fn]; rfl) ⟨_, rfl, ?_⟩
  rintro xs ⟨c, pe, day, rfl, hc60⟩ hw
  have hl : c.length ≤ maxLen := by unfold maxLen; omega
  refine ⟨Nat.le_of_ble_eq_true rfl, ?_⟩
  rw [pLII_fn]
  unfold offI
  have hΓ := K53_sound
  have hP := mixedK
  have hdy := fun (obj : Name → Option O) (t : Name) (f : List Deed → V) => sL_app (P := fun c => c.length ≤ 60) (f := f) (obj := obj) (t := t) (l := c) hc60
  have hth := fun (obj : Name → Option O) (t : Name) (f : List Deed → Int → V) (fl : Bool) => sLI_app (P := fun c => c.length ≤ 60) (f := f) (fl := fl) (obj := obj) (t := t) (l := c) (k := pe) hc60
  have e0 : offpV c pe = .sl ((idxF (offpB pe) 0 c).map vNat) := rfl
  have hlt : ∀ i ∈ idxF (offpB pe) 0 c, i < c.length := fun i hi => by have := idxF_lt (offpB pe) c 0 i hi; omega
  have hln : (idxF (offpB pe) 0 c).length ≤ 60 := by have := idxF_len (offpB pe) c 0; omega
  generalize idxF (offpB pe) 0 c = th at e0 hlt hln
  repeat refine cl_seq ?_
  refine cl_rs hΓ [0,1,2] [] fun K' hK => ?_
  simp only [go_sem]
  repeat (refine ⟨ob, ?_⟩)
  refine hK _ ?_ ?_ <;> clear K' hK <;> simp only [go_sem]
  repeat refine cl_seq ?_
  refine cl_rs hΓ [0,1,2,7] [] fun K' hK => ?_
  simp only [go_sem, hdy]
  repeat (refine ⟨ob, ?_⟩)
  refine hK _ ?_ ?_ <;> clear K' hK <;> simp only [go_sem, hdy]
  repeat refine cl_seq ?_
  refine cl_rs hΓ [0,2,7,8] [] fun K' hK => ?_
  simp only [go_sem, hth, e0]
  repeat (refine ⟨ob, ?_⟩)
  refine hK _ ?_ ?_ <;> clear K' hK <;> simp only [go_sem, hth, e0]
  repeat refine cl_seq ?_
  refine cl_rs hΓ [0,2,7,8,9] [] fun K' hK => ?_
  simp only [go_sem]
  repeat (refine ⟨ob, ?_⟩)
  refine hK _ ?_ ?_ <;> clear K' hK <;> simp only [go_sem]
  repeat refine cl_seq ?_
  refine cl_rs hΓ [0,2,7,8,9,10] [] fun K' hK => ?_
  simp only [go_sem]
  repeat (refine ⟨ob, ?_⟩)
  refine hK _ ?_ ?_ <;> clear K' hK <;> simp only [go_sem]
  repeat refine cl_seq ?_
  refine cl_rs hΓ [0,2,7,8,9,10,11] [] fun K' hK => ?_
  simp only [go_sem]
  repeat (refine ⟨ob, ?_⟩)
  refine hK _ ?_ ?_ <;> clear K' hK <;> simp only [go_sem]
  repeat refine cl_seq ?_
  refine cl_block ?_
  repeat refine cl_seq ?_
  refine cl_loop' (fun s : Nat => [(9, ⟨true, .v (.bool (yesN c th day s))⟩), (10, ⟨true, .v (.bool (noN c th day s))⟩), (11, ⟨true, .v (vInt s)⟩)]) (fun s => []) (fun s => s ≤ th.length + 1) (fun s => th.length + 1 - s) 0 ?_ ?_ ?_ ?_
  · exact Nat.zero_le _
  · rfl
  · rfl
  rintro i hi
  simp only [go_sem]
  repeat refine cl_seq ?_
  repeat refine cl_seq ?_
  refine cl_rs hΓ [0,2,7,8,9,10,11,21] [] fun K' hK => ?_
  simp only [go_sem]
  repeat (refine ⟨ob, ?_⟩)
  refine hK _ ?_ ?_ <;> clear K' hK <;> simp only [go_sem]
  repeat refine cl_seq ?_
  refine cl_cond rfl rfl (fun hb => ?_) (fun hb => ?_)
  · have hle : i ≤ th.length := by simpa using hb
    have hws : IntKind.i64.wrap ((i : Int) + 1) = ((i + 1 : Nat) : Int) := wrap_succ (n := th.length + 1) (by omega) (by unfold maxLen; omega)
    have hlt' : ∀ j ∈ th, j < (daysRL c).length := fun j hj => by rw [daysRL_len]; exact hlt j hj
    have hcan := fun (obj : Name → Option O) (t : Name) => sCan_app (obj := obj) (t := t) (day := day) hle hlt'
    clear hb
    repeat refine cl_seq ?_
    refine cl_skip ?_
    repeat refine cl_seq ?_
    refine cl_block ?_
    repeat refine cl_seq ?_
    repeat refine cl_seq ?_
    refine cl_rs hΓ [0,2,7,8,9,10,11,29] [] fun K' hK => ?_
    simp only [go_sem, hcan, tz23, Nat.reduceLeDiff, Nat.le_refl]
    repeat (refine ⟨ob, ?_⟩)
    refine hK _ ?_ ?_ <;> clear K' hK <;> simp only [go_sem, hcan, tz23, Nat.reduceLeDiff, Nat.le_refl]
    repeat refine cl_seq ?_
    refine cl_cond rfl rfl (fun hb => ?_) (fun hb => ?_)
    · repeat refine cl_seq ?_
      by_cases h0 : i = 0
      · have e1 : decide ((i : Int) > 0) = false := by simp [h0]
        have e2 : inK c th i = false := by unfold inK; simp [h0]
        repeat refine cl_seq ?_
        refine cl_rs hΓ [0,2,7,8,9,10,11,12] [] fun K' hK => ?_
        simp only [go_sem, e1]
        repeat (refine ⟨ob, ?_⟩)
        refine hK _ ?_ ?_ <;> clear K' hK <;> simp only [go_sem, e1]
        repeat refine cl_seq ?_
        refine cl_rs hΓ [0,2,7,8,9,10,11,12] [] fun K' hK => ?_
        simp only [go_sem, pick_or]
        repeat (refine ⟨ob, ?_⟩)
        refine hK _ ?_ ?_ <;> clear K' hK <;> simp only [go_sem, pick_or]
        repeat refine cl_seq ?_
        refine cl_r hΓ fun K' hK => ?_
        simp only [go_sem, pick_or]
        repeat (refine ⟨ob, ?_⟩)
        refine hK _ ?_
        clear K' hK
        simp only [go_sem]
        refine cl_keep [0,2,7,8,9,10,11] [] ?_ ?_
        · simp only [go_sem]
        simp only [go_sem]
        repeat refine cl_seq ?_
        refine cl_r hΓ fun K' hK => ?_
        simp only [go_sem]
        repeat (refine ⟨ob, ?_⟩)
        refine hK _ ?_
        clear K' hK
        simp only [go_sem]
        refine ⟨i + 1, by omega, by omega, ?_⟩
        rw [yesN_next, noN_next, hb, Bool.true_and, Bool.true_and, e2]
        refine weak_eq [0,2,7,8,9,10,11] [] ?_ ?_
        · simp only [go_sem, hws, Int.natCast_add, Int.natCast_one]
        · simp only [go_sem, hws, Int.natCast_add, Int.natCast_one]
      · have e1 : decide ((i : Int) > 0) = true := by simp; omega
        have h1 : i - 1 < th.length := by omega
        have h1' : ((i - 1 : Nat) : Int) < th.length := by omega
        have hm : th[i - 1] < c.length := hlt _ (List.getElem_mem h1)
        have hm' : (th[i - 1] : Int) < c.length := by omega
        have e2 : (c[th[i - 1]].ki == 1) = inK c th i := by unfold inK; simp [h0, List.getD_eq_getElem?_getD, h1, hm]
        repeat refine cl_seq ?_
        refine cl_rs hΓ [0,2,7,8,9,10,11,12] [] fun K' hK => ?_
        simp only [go_sem, e1, wrap_pred h0 (show i ≤ maxLen by unfold maxLen; omega), map_getD h1, vNat, map_getD hm, Int.toNat_natCast, Int.natCast_nonneg, h1', hm', te39, te22, e2]
        repeat (refine ⟨ob, ?_⟩)
        refine hK _ ?_ ?_ <;> clear K' hK <;> simp only [go_sem, e1, wrap_pred h0 (show i ≤ maxLen by unfold maxLen; omega), map_getD h1, vNat, map_getD hm, Int.toNat_natCast, Int.natCast_nonneg, h1', hm', te39, te22, e2]
        repeat refine cl_seq ?_
        refine cl_rs hΓ [0,2,7,8,9,10,11,12] [] fun K' hK => ?_
        simp only [go_sem, pick_or]
        repeat (refine ⟨ob, ?_⟩)
        refine hK _ ?_ ?_ <;> clear K' hK <;> simp only [go_sem, pick_or]
        repeat refine cl_seq ?_
        refine cl_r hΓ fun K' hK => ?_
        simp only [go_sem, pick_or]
        repeat (refine ⟨ob, ?_⟩)
        refine hK _ ?_
        clear K' hK
        simp only [go_sem]
        refine cl_keep [0,2,7,8,9,10,11] [] ?_ ?_
        · simp only [go_sem]
        simp only [go_sem]
        repeat refine cl_seq ?_
        refine cl_r hΓ fun K' hK => ?_
        simp only [go_sem]
        repeat (refine ⟨ob, ?_⟩)
        refine hK _ ?_
        clear K' hK
        simp only [go_sem]
        refine ⟨i + 1, by omega, by omega, ?_⟩
        rw [yesN_next, noN_next, hb, Bool.true_and, Bool.true_and]
        refine weak_eq [0,2,7,8,9,10,11] [] ?_ ?_
        · simp only [go_sem, hws, Int.natCast_add, Int.natCast_one]
        · simp only [go_sem, hws, Int.natCast_add, Int.natCast_one]
    · repeat refine cl_seq ?_
      refine cl_skip ?_
      refine cl_nil ?_
      simp only [go_sem]
      refine cl_keep [0,2,7,8,9,10,11] [] ?_ ?_
      · simp only [go_sem]
      simp only [go_sem]
      repeat refine cl_seq ?_
      refine cl_r hΓ fun K' hK => ?_
      simp only [go_sem]
      repeat (refine ⟨ob, ?_⟩)
      refine hK _ ?_
      clear K' hK
      simp only [go_sem]
      refine ⟨i + 1, by omega, by omega, ?_⟩
      rw [yesN_next, noN_next, hb, Bool.false_and, Bool.false_and, Bool.or_false, Bool.or_false]
      refine weak_eq [0,2,7,8,9,10,11] [] ?_ ?_
      · simp only [go_sem, hws, Int.natCast_add, Int.natCast_one]
      · simp only [go_sem, hws, Int.natCast_add, Int.natCast_one]
  · have hge : i = th.length + 1 := by
      have : ¬ (i : Int) ≤ th.length := by simpa using hb
      omega
    subst hge
    clear hb
    repeat refine cl_seq ?_
    refine cl_exit ?_
    simp only [go_sem]
    refine cl_keep [9,10] [] ?_ ?_
    · simp only [go_sem]
    simp only [go_sem]
    repeat refine cl_seq ?_
    refine cl_rs hΓ [6] [] fun K' hK => ?_
    simp only [go_sem, sBB_app]
    repeat (refine ⟨ob, ?_⟩)
    refine hK _ ?_ ?_ <;> clear K' hK <;> simp only [go_sem, sBB_app]
    refine cl_ret ?_
    simp only [go_sem]
end Go.Eng
namespace Go.Eng
open Go Go.Proofs
set_option maxRecDepth 10000
/-! the reference: what is asked of a lock's key -/
@[go_sem] theorem ta48 : tAgg Tryz.prog 48 = some (true, 4) := by kernel_rfl
@[go_sem] theorem tf48_0 : tField Tryz.prog 48 0 = some (0, 1, false) := by kernel_rfl
@[go_sem] theorem tf48_1 : tField Tryz.prog 48 1 = some (1, 1, false) := by kernel_rfl
@[go_sem] theorem tf48_2 : tField Tryz.prog 48 2 = some (2, 1, false) := by kernel_rfl
@[go_sem] theorem tf48_3 : tField Tryz.prog 48 3 = some (3, 1, false) := by kernel_rfl
structure Aska where
  lo : Int
  pe : Int
  da : Int
  kn : Int
def encA (a : Aska) : V := .agg [vInt a.lo, vInt a.pe, vInt a.da, vInt a.kn]
noncomputable def keysOfV (l : List Deed) (a : Aska) (p : Bool) : V :=
  if checkI l = 0 then (if inI a.lo 1 3 then (if (p && !inI a.pe 1 99) then .tup [.sl [], vInt 16] else (if daysI l [a.kn, a.da] = 0 then (if (confP (countL l a.kn)).isSome then .tup [.sl [], vInt 13] else .tup [.sl ((keysL (countL l a.kn) a.lo a.da).map encK), vInt 0]) else .tup [.sl [], vInt (daysI l [a.kn, a.da])])) else .tup [.sl [], vInt 15]) else .tup [.sl [], vInt (checkI l)]
def pLAB (f : List Deed → Aska → Bool → V) : PSpec := ⟨fun xs => ∃ (l : List Deed) (a : Aska) (p : Bool), xs = [.sl (l.map encD), encA a, .bool p], fun xs => match xs with | [.sl l, .agg [.int _ a, .int _ b, .int _ c, .int _ d], .bool p] => f (l.map decD) ⟨a, b, c, d⟩ p | _ => .bool false, false⟩
theorem pLAB_fn (f : List Deed → Aska → Bool → V) (l : List Deed) (a : Aska) (p : Bool) : (pLAB f).fn [.sl (l.map encD), encA a, .bool p] = f l a p := by
  simp only [pLAB, encA, decD_map]
noncomputable def sL2 (f : List Deed → Int → Int → V) : Spec := (pL2 f).toSpec
theorem sL2_app {f : List Deed → Int → Int → V} {obj : Name → Option O} {t : Name} {l : List Deed} {a b : Int} : (sL2 f).app obj t [.v (.sl (l.map encD)), .v (.sl [vInt a, vInt b])] = ⟨True, .v (f l a b), obj⟩ := by
  simp only [sL2, PSpec.toSpec, frzL, frz, pL2_fn, ite_self]
  congr 1
  simp only [eq_iff_iff, iff_true]
  exact ⟨⟨trivial, trivial, trivial⟩, l, a, b, rfl⟩
noncomputable def K54 : FuncId → Option Spec := fun f => match f with
  | 16 => some sRChk
  | 79 => some sIn
  | 112 => some (sL2 evenV)
  | 153 => some (sLII (fun c => c.length ≤ 60) (fun c lock day => .sl ((keysL c lock day).map encK)) false)
  | _ => none
theorem K54_sound : ∀ f s, K54 f = some s → SSound Tryz.prog f s := by
  intro f s h
  unfold K54 at h
  split at h
  · cases h; exact s16'
  · cases h; exact s79'
  · cases h; exact s112.sound
  · cases h; exact s153.sound
  · cases h
@[go_sem] theorem K54_16 : K54 16 = some sRChk := rfl
@[go_sem] theorem K54_79 : K54 79 = some sIn := rfl
@[go_sem] theorem K54_112 : K54 112 = some (sL2 evenV) := rfl
@[go_sem] theorem K54_153 : K54 153 = some (sLII (fun c => c.length ≤ 60) (fun c lock day => .sl ((keysL c lock day).map encK)) false) := rfl
set_option maxHeartbeats 8000000 in
theorem s104 : PSound Tryz.prog 104 (pLAB keysOfV) := by
  refine psoundB (rs := [.tmp 6, .tmp 7]) Tryz.func104 Tryz.ntmps104 (by rfl) (by kernel_rfl) (by decide) (fun h => by cases h) ⟨_, rfl, ?_⟩
  rintro xs ⟨l, ⟨lo, pe, da, kn⟩, p, rfl⟩ hw
  refine ⟨Nat.le_of_ble_eq_true rfl, ?_⟩
  rw [pLAB_fn]
  simp only [encA]
  have hΓ := K54_sound
  have hin := fun (obj : Name → Option O) (t : Name) (a b c : Int) => sIn_app (obj := obj) (t := t) (a := a) (b := b) (c := c)
  repeat refine cl_seq ?_
  refine cl_rs hΓ [0,2,4] [[4, 0]] fun K' hK => ?_
  simp only [go_sem]
  repeat (refine ⟨ob, ?_⟩)
  refine hK _ ?_ ?_ <;> clear K' hK <;> simp only [go_sem]
  repeat refine cl_seq ?_
  refine cl_rs hΓ [0,2,4,8] [[4, 0]] fun K' hK => ?_
  simp only [go_sem, sRChk_app]
  repeat (refine ⟨ob, ?_⟩)
  refine hK _ ?_ ?_ <;> clear K' hK <;> simp only [go_sem, sRChk_app]
  repeat refine cl_seq ?_
  refine cl_rs hΓ [0,2,4,8,14] [[4, 0]] fun K' hK => ?_
  simp only [go_sem]
  repeat (refine ⟨ob, ?_⟩)
  refine hK _ ?_ ?_ <;> clear K' hK <;> simp only [go_sem]
  repeat refine cl_seq ?_
  refine cl_cond rfl rfl (fun hb => ?_) (fun hb => ?_)
  · repeat refine cl_seq ?_
    have hn : ¬ checkI l = 0 := by simpa using hb
    repeat refine cl_seq ?_
    refine cl_rs hΓ [6,7] [] fun K' hK => ?_
    simp only [go_sem]
    repeat (refine ⟨ob, ?_⟩)
    refine hK _ ?_ ?_ <;> clear K' hK <;> simp only [go_sem]
    refine cl_ret ?_
    simp only [go_sem]
    unfold keysOfV; rw [if_neg hn]
  have hz : checkI l = 0 := by simpa using hb
  repeat refine cl_seq ?_
  refine cl_skip ?_
  repeat refine cl_seq ?_
  refine cl_rs hΓ [0,2,4,19] [[4, 0]] fun K' hK => ?_
  simp only [go_sem, hin]
  repeat (refine ⟨ob, ?_⟩)
  refine hK _ ?_ ?_ <;> clear K' hK <;> simp only [go_sem, hin]
  repeat refine cl_seq ?_
  refine cl_cond rfl rfl (fun hb => ?_) (fun hb => ?_)
  · repeat refine cl_seq ?_
    have hn : ¬ inI lo 1 3 = true := by simpa using hb
    repeat refine cl_seq ?_
    refine cl_rs hΓ [6,7] [] fun K' hK => ?_
    simp only [go_sem]
    repeat (refine ⟨ob, ?_⟩)
    refine hK _ ?_ ?_ <;> clear K' hK <;> simp only [go_sem]
    refine cl_ret ?_
    simp only [go_sem]
    unfold keysOfV; rw [if_pos hz, if_neg hn]
  have hlk : inI lo 1 3 = true := by simpa using hb
  repeat refine cl_seq ?_
  refine cl_skip ?_
  repeat refine cl_seq ?_
  refine cl_rs hΓ [0,4,26] [[4, 0]] fun K' hK => ?_
  simp only [go_sem, hin]
  repeat (refine ⟨ob, ?_⟩)
  refine hK _ ?_ ?_ <;> clear K' hK <;> simp only [go_sem, hin]
  repeat refine cl_seq ?_
  refine cl_cond rfl rfl (fun hb => ?_) (fun hb => ?_)
  · repeat refine cl_seq ?_
    repeat refine cl_seq ?_
    refine cl_rs hΓ [6,7] [] fun K' hK => ?_
    simp only [go_sem]
    repeat (refine ⟨ob, ?_⟩)
    refine hK _ ?_ ?_ <;> clear K' hK <;> simp only [go_sem]
    refine cl_ret ?_
    simp only [go_sem]
    unfold keysOfV; rw [if_pos hz, if_pos hlk, if_pos hb]
  have hps : ¬ (p && !inI pe 1 99) = true := by rw [hb]; decide
  repeat refine cl_seq ?_
  refine cl_skip ?_
  by_cases hdz : daysI l [kn, da] = 0
  · have hok := days_ok hdz
    have hlen : (countL l kn).length ≤ 60 := by have := countL_len l kn; have := hok.2.2; omega
    by_cases hcf : (confP (countL l kn)).isSome = true
    · have he : evenV l kn da = .tup [.sl [], vInt 13] := by unfold evenV contV; rw [if_pos hdz, if_pos hcf]
      repeat refine cl_seq ?_
      refine cl_rs hΓ [4,9,10] [[4, 0]] fun K' hK => ?_
      simp only [go_sem, sL2_app, he]
      repeat (refine ⟨ob, ?_⟩)
      refine hK _ ?_ ?_ <;> clear K' hK <;> simp only [go_sem, sL2_app, he]
      repeat refine cl_seq ?_
      refine cl_rs hΓ [4,9,10,38] [[4, 0]] fun K' hK => ?_
      simp only [go_sem]
      repeat (refine ⟨ob, ?_⟩)
      refine hK _ ?_ ?_ <;> clear K' hK <;> simp only [go_sem]
      repeat refine cl_seq ?_
      refine cl_cond rfl rfl (fun hb => ?_) (fun hb => ?_)
      · repeat refine cl_seq ?_
        repeat refine cl_seq ?_
        refine cl_rs hΓ [6,7] [] fun K' hK => ?_
        simp only [go_sem]
        repeat (refine ⟨ob, ?_⟩)
        refine hK _ ?_ ?_ <;> clear K' hK <;> simp only [go_sem]
        refine cl_ret ?_
        simp only [go_sem]
        unfold keysOfV; rw [if_pos hz, if_pos hlk, if_neg hps, if_pos hdz, if_pos hcf]
      · simp at hb
    · have he : evenV l kn da = .tup [.sl ((countL l kn).map encD), vInt 0] := by unfold evenV contV; rw [if_pos hdz, if_neg hcf]
      have hth := fun (obj : Name → Option O) (t : Name) (f : List Deed → Int → Int → V) (fl : Bool) (a b : Int) => sLII_app (P := fun l => l.length ≤ 60) (f := f) (fl := fl) (obj := obj) (t := t) (l := countL l kn) (k := a) (j := b) hlen
      repeat refine cl_seq ?_
      refine cl_rs hΓ [4,9,10] [[4, 0]] fun K' hK => ?_
      simp only [go_sem, sL2_app, he]
      repeat (refine ⟨ob, ?_⟩)
      refine hK _ ?_ ?_ <;> clear K' hK <;> simp only [go_sem, sL2_app, he]
      repeat refine cl_seq ?_
      refine cl_rs hΓ [4,9,10,38] [[4, 0]] fun K' hK => ?_
      simp only [go_sem]
      repeat (refine ⟨ob, ?_⟩)
      refine hK _ ?_ ?_ <;> clear K' hK <;> simp only [go_sem]
      repeat refine cl_seq ?_
      refine cl_cond rfl rfl (fun hb => ?_) (fun hb => ?_)
      · simp at hb
      · repeat refine cl_seq ?_
        refine cl_skip ?_
        repeat refine cl_seq ?_
        refine cl_rs hΓ [6,7] [] fun K' hK => ?_
        simp only [go_sem, hth]
        repeat (refine ⟨ob, ?_⟩)
        refine hK _ ?_ ?_ <;> clear K' hK <;> simp only [go_sem, hth]
        refine cl_ret ?_
        simp only [go_sem]
        unfold keysOfV; rw [if_pos hz, if_pos hlk, if_neg hps, if_pos hdz, if_neg hcf]
  · have he : evenV l kn da = .tup [.sl [], vInt (daysI l [kn, da])] := by unfold evenV; rw [if_neg hdz]
    repeat refine cl_seq ?_
    refine cl_rs hΓ [4,9,10] [[4, 0]] fun K' hK => ?_
    simp only [go_sem, sL2_app, he]
    repeat (refine ⟨ob, ?_⟩)
    refine hK _ ?_ ?_ <;> clear K' hK <;> simp only [go_sem, sL2_app, he]
    repeat refine cl_seq ?_
    refine cl_rs hΓ [4,9,10,38] [[4, 0]] fun K' hK => ?_
    simp only [go_sem]
    repeat (refine ⟨ob, ?_⟩)
    refine hK _ ?_ ?_ <;> clear K' hK <;> simp only [go_sem]
    repeat refine cl_seq ?_
    refine cl_cond rfl rfl (fun hb => ?_) (fun hb => ?_)
    · repeat refine cl_seq ?_
      repeat refine cl_seq ?_
      refine cl_rs hΓ [6,7] [] fun K' hK => ?_
      simp only [go_sem]
      repeat (refine ⟨ob, ?_⟩)
      refine hK _ ?_ ?_ <;> clear K' hK <;> simp only [go_sem]
      refine cl_ret ?_
      simp only [go_sem]
      unfold keysOfV; rw [if_pos hz, if_pos hlk, if_neg hps, if_neg hdz]
    · simp [hdz] at hb
end Go.Eng
/- Holders and answers: what the program tells is what the document tells. -/
namespace Go.Eng
open Go Go.Proofs
/-! the thread of a place among the indices -/
theorem idxF_shift (p : Deed → Bool) : ∀ (c : List Deed) (n : Nat), idxF p n c = (idxF p 0 c).map (· + n)
  | [], n => rfl
  | d :: r, n => by
    have h1 := idxF_shift p r (n + 1)
    have h2 := idxF_shift p r 1
    simp only [idxF, Nat.zero_add]
    rw [h1, h2]
    have : ((fun x => x + n) ∘ fun x => x + 1) = fun x => x + (n + 1) := by funext x; simp only [Function.comp]; omega
    split <;> simp [List.map_map, this]
theorem idxF_count (p : Deed → Bool) : ∀ (c : List Deed) (n : Nat), (idxF p n c).length = (c.filter p).length
  | [], n => rfl
  | d :: r, n => by
    have h1 := idxF_count p r (n + 1)
    simp only [idxF, List.filter_cons]
    split <;> simp [h1]
theorem idxF_at {p : Deed → Bool} : ∀ {c : List Deed} {j : Nat} (h : j < (idxF p 0 c).length), ∃ (hi : (idxF p 0 c)[j] < c.length) (hj : j < (c.filter p).length),
    c[(idxF p 0 c)[j]] = (c.filter p)[j] ∧ p c[(idxF p 0 c)[j]] = true ∧ (c.take (idxF p 0 c)[j]).filter p = (c.filter p).take j ∧ (c.drop ((idxF p 0 c)[j] + 1)).filter p = (c.filter p).drop (j + 1)
  | [], j, h => by simp [idxF] at h
  | d :: r, j, h => by
    have hc := idxF_count p r 0
    by_cases hp : p d = true
    · have e : idxF p 0 (d :: r) = 0 :: (idxF p 0 r).map (· + 1) := by
        simp only [idxF, Nat.zero_add]; rw [if_pos hp, idxF_shift p r 1]
      have ef : (d :: r).filter p = d :: r.filter p := by rw [List.filter_cons, if_pos hp]
      cases j with
      | zero =>
        have e0 : (idxF p 0 (d :: r))[0] = 0 := by simp only [e, List.getElem_cons_zero]
        simp only [e0, ef, List.length_cons]
        exact ⟨by omega, by omega, rfl, hp, rfl, by simp⟩
      | succ j =>
        have hj : j < (idxF p 0 r).length := by simp only [e, List.length_cons, List.length_map] at h; omega
        obtain ⟨hi, hj', h1, h2, h3, h4⟩ := idxF_at hj
        have e0 : (idxF p 0 (d :: r))[j + 1] = (idxF p 0 r)[j] + 1 := by simp only [e, List.getElem_cons_succ, List.getElem_map]
        simp only [e0, ef, List.length_cons]
        refine ⟨by omega, by omega, ?_, ?_, ?_, ?_⟩
        · simp only [List.getElem_cons_succ]; exact h1
        · simp only [List.getElem_cons_succ]; exact h2
        · rw [List.take_succ_cons, List.filter_cons, if_pos hp, List.take_succ_cons, h3]
        · rw [List.drop_succ_cons, List.drop_succ_cons, h4]
    · have e : idxF p 0 (d :: r) = (idxF p 0 r).map (· + 1) := by
        simp only [idxF, Nat.zero_add]; rw [if_neg hp, idxF_shift p r 1]
      have ef : (d :: r).filter p = r.filter p := by rw [List.filter_cons, if_neg hp]
      have hj : j < (idxF p 0 r).length := by simp only [e, List.length_map] at h; omega
      obtain ⟨hi, hj', h1, h2, h3, h4⟩ := idxF_at hj
      have e0 : (idxF p 0 (d :: r))[j] = (idxF p 0 r)[j] + 1 := by simp only [e, List.getElem_map]
      simp only [e0, ef, List.length_cons]
      refine ⟨by omega, hj', ?_, ?_, ?_, ?_⟩
      · simp only [List.getElem_cons_succ]; exact h1
      · simp only [List.getElem_cons_succ]; exact h2
      · rw [List.take_succ_cons, List.filter_cons, if_neg hp, h3]
      · rw [List.drop_succ_cons, h4]
/-! one thread's deeds by a test of their own -/
def thB (p : Deed → Bool) : Prop := ∀ d o, isDeedB d = true → isDeedB o = true → p d = true → sameThB d o = p o
theorem thrB_of (lock : Int) (hl : 1 ≤ lock) : thB (thrB lock) := by
  intro d o hd ho hp
  have h2 := valid_kind ho
  unfold thrB at hp ⊢
  unfold sameThB
  simp only [Bool.and_eq_true, Bool.not_eq_true', beq_iff_eq] at hp
  rw [if_neg (by rw [hp.1]; decide), hp.2]
  rcases h2 with ⟨h2, h4, _⟩ | ⟨h2, h4⟩
  · rw [h2, h4]
    have : (lock == (0 : Int)) = false := by simp; omega
    rw [this]; rfl
  · rw [h2]; simp; exact Bool.beq_comm ..
theorem offpB_of (pe : Int) : thB (offpB pe) := by
  intro d o hd ho hp
  unfold offpB at hp ⊢
  unfold sameThB
  simp only [Bool.and_eq_true, beq_iff_eq] at hp
  rw [if_pos hp.1, hp.2]
  congr 1
  exact Bool.beq_comm ..
theorem thrL_lock {c : List Deed} (hv : ∀ d ∈ c, isDeedB d = true) {lock : Int} (hl : 1 ≤ lock) : thrL c lock 0 = c.filter (thrB lock) := by
  unfold thrL
  refine List.filter_congr fun d hd => ?_
  have h2 := valid_kind (hv d hd)
  unfold isOfB thrB
  rw [if_pos (by omega)]
  rcases h2 with ⟨h2, h4, _⟩ | ⟨h2, h4⟩
  · rw [h2, h4]
    have : ((0 : Int) == lock) = false := by simp; omega
    rw [this]; rfl
  · rw [h2]; simp
theorem thrL_pers {c : List Deed} (hv : ∀ d ∈ c, isDeedB d = true) (pe : Int) : thrL c 0 pe = c.filter (offpB pe) := by
  unfold thrL
  refine List.filter_congr fun d hd => ?_
  have h2 := valid_kind (hv d hd)
  unfold isOfB offpB
  rw [if_neg (by omega)]
  rcases h2 with ⟨h2, h4, _⟩ | ⟨h2, h4⟩
  · rw [h2, h4]; simp
  · rw [h2]
    have : (d.lo == (0 : Int)) = false := by simp; omega
    rw [this]
/-! days -/
theorem rLo_by {p : Deed → Bool} (hp : thB p) {d : Deed} (hd : isDeedB d = true) (h1 : p d = true) : ∀ {X : List Deed} (m : Int), (∀ o ∈ X, isDeedB o = true) →
    X.foldl (fun m o => if sameThB d o then (if o.dl > m then o.dl else m) else m) m = (X.filter p).foldl (fun m o => if o.dl > m then o.dl else m) m
  | [], m, _ => rfl
  | o :: r, m, h => by
    have hs := hp d o hd (h o (by simp)) h1
    have ih := fun m => rLo_by hp hd h1 (X := r) m fun o ho => h o (by simp [ho])
    rw [List.foldl_cons, List.filter_cons, hs]
    by_cases h2 : p o = true
    · rw [if_pos h2, if_pos h2, List.foldl_cons]; exact ih _
    · rw [if_neg h2, if_neg h2]; exact ih _
theorem rHi_by {p : Deed → Bool} (hp : thB p) {d : Deed} (hd : isDeedB d = true) (h1 : p d = true) : ∀ {X : List Deed} (m : Int), (∀ o ∈ X, isDeedB o = true) →
    X.foldl (fun m o => if sameThB d o then (if o.dh < m then o.dh else m) else m) m = (X.filter p).foldl (fun m o => if o.dh < m then o.dh else m) m
  | [], m, _ => rfl
  | o :: r, m, h => by
    have hs := hp d o hd (h o (by simp)) h1
    have ih := fun m => rHi_by hp hd h1 (X := r) m fun o ho => h o (by simp [ho])
    rw [List.foldl_cons, List.filter_cons, hs]
    by_cases h2 : p o = true
    · rw [if_pos h2, if_pos h2, List.foldl_cons]; exact ih _
    · rw [if_neg h2, if_neg h2]; exact ih _
theorem day_at {p : Deed → Bool} (hp : thB p) {c : List Deed} (hv : ∀ d ∈ c, isDeedB d = true) {j : Nat} (h : j < (idxF p 0 c).length) :
    (dayR c (idxF p 0 c)[j]).1 = loM ((c.filter p).take (j + 1)) ∧ (dayR c (idxF p 0 c)[j]).2 = hiM ((c.filter p).drop j) := by
  obtain ⟨hi, hj, h1, h2, h3, h4⟩ := idxF_at h
  have hd := hv _ (List.getElem_mem hi)
  have hdl := day_of hd
  unfold dayR
  have e : c.getD (idxF p 0 c)[j] zeroD = c[(idxF p 0 c)[j]] := by simp [List.getD_eq_getElem?_getD, hi]
  rw [e]
  constructor
  · show rLo _ _ = _
    unfold rLo
    rw [rLo_by hp hd h2 _ fun o ho => hv o (List.mem_of_mem_take ho), h3]
    unfold loM
    rw [List.take_add_one, List.getElem?_eq_getElem hj, List.foldl_append, ← h1]
    simp only [Option.toList_some, List.foldl_cons, List.foldl_nil]
    exact fold_max _ _ 0 hdl.1
  · show rHi _ _ = _
    unfold rHi
    rw [rHi_by hp hd h2 _ fun o ho => hv o (List.mem_of_mem_drop ho), h4]
    unfold hiM
    rw [List.drop_eq_getElem_cons hj, List.foldl_cons, ← h1]
    have : (if c[(idxF p 0 c)[j]].dh < 100000 then c[(idxF p 0 c)[j]].dh else 100000) = c[(idxF p 0 c)[j]].dh := by split <;> omega
    rw [this]
theorem can_may {p : Deed → Bool} (hp : thB p) {c : List Deed} (hv : ∀ d ∈ c, isDeedB d = true) {n : Nat} (hn : n ≤ (c.filter p).length) (day : Int) :
    canB (daysRL c) (idxF p 0 c) n day = mayB (c.filter p) n day := by
  have hc := idxF_count p c 0
  have hg : ∀ j (h : j < (idxF p 0 c).length), (daysRL c).getD ((idxF p 0 c).getD j 0) (0, 0) = dayR c (idxF p 0 c)[j] := by
    intro j h
    obtain ⟨hi, _⟩ := idxF_at h
    have : (idxF p 0 c)[j] < (daysRL c).length := by rw [daysRL_len]; exact hi
    simp only [List.getD_eq_getElem?_getD, h, getElem?_pos, Option.getD_some, this]
    exact daysRL_get this
  unfold canB mayB
  rw [hc]
  congr 1
  · by_cases h0 : n = 0
    · simp [h0]
    · have h1 : n - 1 < (idxF p 0 c).length := by omega
      rw [hg _ h1, (day_at hp hv h1).1, show n - 1 + 1 = n by omega]
  · by_cases h0 : n = (c.filter p).length
    · simp [h0]
    · have h1 : n < (idxF p 0 c).length := by omega
      rw [hg _ h1, (day_at hp hv h1).2]
/-! states -/
theorem th_map {p : Deed → Bool} (c : List Deed) : (idxF p 0 c).map (fun i => c.getD i zeroD) = c.filter p := by
  have := idxF_filter p zeroD c []
  simpa using this
theorem kN_fold {p : Deed → Bool} (c : List Deed) (n : Nat) : kN c (idxF p 0 c) n = ((c.filter p).take n).foldl keyA (0, 0) := by
  unfold kN
  rw [← th_map (p := p) c, ← List.map_take, List.foldl_map]
theorem fold_key : ∀ {t : List Deed} (s : Sta), (∀ d ∈ t, 3 ≤ d.ki ∧ d.ki ≤ 6) → ((t.foldl (fun s d => doS d.ki s d.pe) s).h, (t.foldl (fun s d => doS d.ki s d.pe) s).n) = t.foldl keyA (s.h, s.n)
  | [], s, _ => rfl
  | d :: r, s, h => by
    have hd := h d (by simp)
    rw [List.foldl_cons, List.foldl_cons, fold_key _ fun o ho => h o (by simp [ho])]
    congr 1
    unfold doS keyA
    have h1 : ¬ d.ki = 1 := by omega
    rw [if_neg h1]
    by_cases h3 : d.ki = 3
    · simp [h3]
    by_cases h4 : d.ki = 4
    · simp only [h4]
      by_cases h5 : s.h = 0 <;> simp [h5]
    by_cases h5 : d.ki = 5
    · simp [h5]
    have h6 : d.ki = 6 := by omega
    simp [h6]
theorem kind_of {d : Deed} (h : isDeedB d = true) : kindOk d := by
  unfold isDeedB at h
  unfold kindOk
  grind
theorem thrB_kind {lock : Int} {d : Deed} (h : isDeedB d = true) (h1 : thrB lock d = true) : 3 ≤ d.ki ∧ d.ki ≤ 6 := by
  have := kind_of h
  unfold kindOk at this
  unfold thrB offB at h1
  simp at h1
  omega
theorem stA_key {c : List Deed} (hv : ∀ d ∈ c, isDeedB d = true) (lock : Int) (n : Nat) : ((stA (c.filter (thrB lock)) n).h, (stA (c.filter (thrB lock)) n).n) = kN c (idxF (thrB lock) 0 c) n := by
  rw [kN_fold]
  unfold stA
  exact fold_key zeroS fun d hd => by
    have hm := List.mem_filter.1 (List.mem_of_mem_take hd)
    exact thrB_kind (hv d hm.1) hm.2
theorem stA_in {c : List Deed} (pe : Int) {n : Nat} (hn : n ≤ (c.filter (offpB pe)).length) : (stA (c.filter (offpB pe)) n).o = inK c (idxF (offpB pe) 0 c) n := by
  have hc := idxF_count (offpB pe) c 0
  cases n with
  | zero => rfl
  | succ m =>
    have hm : m < (c.filter (offpB pe)).length := by omega
    have hm' : m < (idxF (offpB pe) 0 c).length := by omega
    obtain ⟨hi, hj, h1, h2, _⟩ := idxF_at hm'
    rw [stA_succ hm]
    unfold inK
    have e : c.getD ((idxF (offpB pe) 0 c).getD (m + 1 - 1) 0) zeroD = (c.filter (offpB pe))[m] := by
      rw [← h1]
      simp [List.getD_eq_getElem?_getD, hm', hi]
    rw [e]
    rw [h1] at h2
    generalize (c.filter (offpB pe))[m] = d at h2 ⊢
    unfold offpB offB at h2
    simp only [Bool.and_eq_true, Bool.or_eq_true, beq_iff_eq] at h2
    rcases h2.1 with h3 | h3
    · simp [doS, h3]
    · simp [doS, h3]
/-! at least one number of deeds may have happened -/
theorem loM_le {day : Int} : ∀ {X : List Deed}, 0 ≤ day → (∀ d ∈ X, d.dl ≤ day) → loM X ≤ day := by
  intro X h0 h
  have : ∀ (X : List Deed) (m : Int), m ≤ day → (∀ d ∈ X, d.dl ≤ day) → X.foldl (fun m d => if d.dl > m then d.dl else m) m ≤ day := by
    intro X
    induction X with
    | nil => intro m hm _; exact hm
    | cons o r ih =>
      intro m hm h
      rw [List.foldl_cons]
      refine ih _ ?_ fun d hd => h d (by simp [hd])
      have := h o (by simp)
      split <;> omega
  exact this X 0 h0 h
theorem hiM_le {day : Int} {X : List Deed} (h : hiM X ≤ day) : 100000 ≤ day ∨ ∃ d ∈ X, d.dh ≤ day := by
  have : ∀ (X : List Deed) (m : Int), X.foldl (fun m d => if d.dh < m then d.dh else m) m ≤ day → m ≤ day ∨ ∃ d ∈ X, d.dh ≤ day := by
    intro X
    induction X with
    | nil => intro m hm; exact .inl hm
    | cons o r ih =>
      intro m h
      rw [List.foldl_cons] at h
      rcases ih _ h with h1 | ⟨d, hd, h1⟩
      · split at h1
        · exact .inr ⟨o, by simp, h1⟩
        · exact .inl h1
      · exact .inr ⟨d, by simp [hd], h1⟩
  exact this X 100000 h
def evenT (t : List Deed) : Prop := ∀ i k (hi : i < t.length) (hk : k < t.length), i ≤ k → t[i].dl ≤ t[k].dh
theorem may_some {t : List Deed} (ht : evenT t) (hv : ∀ d ∈ t, d.dl ≤ d.dh ∧ d.dh ≤ 100000) {day : Int} (h0 : 0 ≤ day) : ∃ n, n ≤ t.length ∧ mayB t n day = true := by
  have key : ∀ m, m ≤ t.length → (∃ n, n ≤ t.length ∧ mayB t n day = true) ∨ ∀ i (hi : i < t.length), i < m → t[i].dl ≤ day := by
    intro m
    induction m with
    | zero => exact fun _ => .inr fun i hi h => by omega
    | succ m ih =>
      intro hm
      rcases ih (by omega) with h | h
      · exact .inl h
      have hlo : loM (t.take m) ≤ day := loM_le h0 fun d hd => by
        obtain ⟨i, hi, rfl⟩ := List.getElem_of_mem hd
        rw [List.getElem_take]
        simp at hi
        exact h i (by omega) (by omega)
      by_cases hh : hiM (t.drop m) > day
      · refine .inl ⟨m, by omega, ?_⟩
        unfold mayB
        simp [hlo, hh]
      · refine .inr fun i hi hi' => ?_
        by_cases hi2 : i < m
        · exact h i hi hi2
        rcases hiM_le (Int.not_lt.1 hh) with h1 | ⟨d, hd, h1⟩
        · have := hv _ (List.getElem_mem hi)
          omega
        · obtain ⟨k, hk, rfl⟩ := List.getElem_of_mem hd
          rw [List.getElem_drop] at h1
          simp at hk
          have := ht i (m + k) hi (by omega) (by omega)
          omega
  rcases key t.length (Nat.le_refl _) with h | h
  · exact h
  · refine ⟨t.length, Nat.le_refl _, ?_⟩
    have hlo : loM (t.take t.length) ≤ day := loM_le h0 fun d hd => by
      rw [List.take_length] at hd
      obtain ⟨i, hi, rfl⟩ := List.getElem_of_mem hd
      exact h i hi hi
    rw [List.take_length] at hlo
    unfold mayB
    simp [hlo]
theorem even_thr {c : List Deed} (hs : c.Pairwise ltD) (hv : ∀ d ∈ c, isDeedB d = true) (hn : pairI clashB c = none) {p : Deed → Bool} (hp : thB p) : evenT (c.filter p) := by
  have hpw : c.Pairwise fun a b => sameThB a b = true → a.dl ≤ b.dh := by
    rw [List.pairwise_iff_getElem]
    intro i k hi hk hik hsm
    have := pairI_not hn i k hi hk hik
    unfold clashB at this
    rw [hsm] at this
    simp at this
    omega
  have hf := hpw.filter p
  intro i k hi hk hik
  have hvi := List.mem_filter.1 (List.getElem_mem hi)
  have hvk := List.mem_filter.1 (List.getElem_mem hk)
  rcases Nat.lt_or_eq_of_le hik with h | h
  · refine List.pairwise_iff_getElem.1 hf i k hi hk h ?_
    rw [hp _ _ (hv _ hvi.1) (hv _ hvk.1) hvi.2]
    exact hvk.2
  · subst h
    have := day_of (hv _ hvi.1)
    omega
/-! what the program gathers -/
def mayL (t : List Deed) (day : Int) (s : Nat) : List Nat := (List.range s).filter fun n => mayB t n day
theorem mayL_next (t : List Deed) (day : Int) (s : Nat) : mayL t day (s + 1) = if mayB t s day then mayL t day s ++ [s] else mayL t day s := by
  unfold mayL
  rw [List.range_succ, List.filter_append]
  simp only [List.filter_cons, List.filter_nil]
  split <;> simp
def whoTo (f : Sta → Int) (t : List Deed) (day : Int) (s : Nat) : List Int := (mayL t day s).foldl (fun o n => insI o (f (stA t n))) []
theorem whoTo_next (f : Sta → Int) (t : List Deed) (day : Int) (s : Nat) : whoTo f t day (s + 1) = if mayB t s day then insI (whoTo f t day s) (f (stA t s)) else whoTo f t day s := by
  unfold whoTo
  rw [mayL_next]
  split
  · rw [List.foldl_append]; rfl
  · rfl
theorem whoTo_ok (f : Sta → Int) (t : List Deed) (day : Int) : ∀ s, (whoTo f t day s).Pairwise (· < ·) ∧ (whoTo f t day s).length ≤ s
  | 0 => ⟨List.Pairwise.nil, Nat.le_refl _⟩
  | s + 1 => by
    obtain ⟨h1, h2⟩ := whoTo_ok f t day s
    rw [whoTo_next]
    split
    · refine ⟨insI_sorted h1, ?_⟩
      have := insI_len (whoTo f t day s) (f (stA t s))
      omega
    · exact ⟨h1, by omega⟩
def whoL (f : Sta → Int) (t : List Deed) (day : Int) : List Int := whoTo f t day (t.length + 1)
def yesTo (p : Sta → Bool) (t : List Deed) (day : Int) (s : Nat) : Bool := (mayL t day s).any fun n => p (stA t n)
def noTo (p : Sta → Bool) (t : List Deed) (day : Int) (s : Nat) : Bool := (mayL t day s).any fun n => !p (stA t n)
theorem yesTo_next (p : Sta → Bool) (t : List Deed) (day : Int) (s : Nat) : yesTo p t day (s + 1) = if mayB t s day then (yesTo p t day s || p (stA t s)) else yesTo p t day s := by
  unfold yesTo
  rw [mayL_next]
  split
  · rw [List.any_append]; simp
  · rfl
theorem noTo_next (p : Sta → Bool) (t : List Deed) (day : Int) (s : Nat) : noTo p t day (s + 1) = if mayB t s day then (noTo p t day s || !p (stA t s)) else noTo p t day s := by
  unfold noTo
  rw [mayL_next]
  split
  · rw [List.any_append]; simp
  · rfl
def ansP (p : Sta → Bool) (t : List Deed) (day : Int) : Int :=
  if noTo p t day (t.length + 1) then (if yesTo p t day (t.length + 1) then 2 else 0) else 1
theorem ansP_some {p : Sta → Bool} {t : List Deed} {day : Int} (h : ∃ n, n ≤ t.length ∧ mayB t n day = true) : ansP p t day = ansI (yesTo p t day (t.length + 1)) (noTo p t day (t.length + 1)) := by
  unfold ansP ansI
  cases hn : noTo p t day (t.length + 1) with
  | true => simp
  | false =>
    have hy : yesTo p t day (t.length + 1) = true := by
      obtain ⟨n, h1, h2⟩ := h
      have hm : n ∈ mayL t day (t.length + 1) := List.mem_filter.2 ⟨List.mem_range.2 (by omega), h2⟩
      have h3 := List.any_eq_false.1 hn n hm
      refine List.any_eq_true.2 ⟨n, hm, by simpa using h3⟩
    simp [hy]
/-! the reference's -/
theorem keysL_may {c : List Deed} (hv : ∀ d ∈ c, isDeedB d = true) {lock : Int} (hl : 1 ≤ lock) (day : Int) :
    keysL c lock day = (mayL (thrL c lock 0) day ((thrL c lock 0).length + 1)).map fun n => ((stA (thrL c lock 0) n).h, (stA (thrL c lock 0) n).n) := by
  have hp := thrB_of lock hl
  unfold keysL keysTo mayL
  rw [thrL_lock hv hl, idxF_count]
  have e : (List.range ((c.filter (thrB lock)).length + 1)).filter (fun n => canB (daysRL c) (idxF (thrB lock) 0 c) n day) = (List.range ((c.filter (thrB lock)).length + 1)).filter (fun n => mayB (c.filter (thrB lock)) n day) :=
    List.filter_congr fun n hn => can_may hp hv (by have := List.mem_range.1 hn; omega) day
  rw [e]
  exact List.map_congr_left fun n _ => (stA_key hv lock n).symm
theorem who_keys {c : List Deed} (hv : ∀ d ∈ c, isDeedB d = true) {lock : Int} (hl : 1 ≤ lock) (day : Int) (f : Sta → Int) (g : Int × Int → Int) (h : ∀ s : Sta, g (s.h, s.n) = f s) :
    whoL f (thrL c lock 0) day = (keysL c lock day).foldl (fun o k => insI o (g k)) [] := by
  rw [keysL_may hv hl, List.foldl_map]
  unfold whoL whoTo
  simp only [h]
theorem conf_clash {l : List Deed} (h : okL l) {k : Int} (hn : ¬ (confP (countL l k)).isSome = true) : pairI clashB (countL l k) = none := by
  rw [pairI_clash h]
  unfold confP at hn
  simpa using hn
theorem lock_some {l : List Deed} (h : okL l) {k : Int} (hn : ¬ (confP (countL l k)).isSome = true) {lock day : Int} (hl : 1 ≤ lock) (h0 : 0 ≤ day) : ∃ n, n ≤ (thrL (countL l k) lock 0).length ∧ mayB (thrL (countL l k) lock 0) n day = true := by
  have hv := countL_valid h k
  rw [thrL_lock hv hl]
  refine may_some (even_thr (countL_sorted h k) hv (conf_clash h hn) (thrB_of lock hl)) (fun d hd => ?_) h0
  have := day_of (hv d (List.mem_filter.1 hd).1)
  omega
theorem pers_some {l : List Deed} (h : okL l) {k : Int} (hn : ¬ (confP (countL l k)).isSome = true) {pe day : Int} (h0 : 0 ≤ day) : ∃ n, n ≤ (thrL (countL l k) 0 pe).length ∧ mayB (thrL (countL l k) 0 pe) n day = true := by
  have hv := countL_valid h k
  rw [thrL_pers hv]
  refine may_some (even_thr (countL_sorted h k) hv (conf_clash h hn) (offpB_of pe)) (fun d hd => ?_) h0
  have := day_of (hv d (List.mem_filter.1 hd).1)
  omega
theorem ans_keys {l : List Deed} (h : okL l) {k : Int} (hn : ¬ (confP (countL l k)).isSome = true) {lock day : Int} (hl : 1 ≤ lock) (h0 : 0 ≤ day) (p : Sta → Bool) (g : Int × Int → Bool) (hg : ∀ s : Sta, g (s.h, s.n) = p s) :
    ansP p (thrL (countL l k) lock 0) day = ansI ((keysL (countL l k) lock day).any g) ((keysL (countL l k) lock day).any fun x => !g x) := by
  rw [ansP_some (lock_some h hn hl h0), keysL_may (countL_valid h k) hl, List.any_map, List.any_map]
  unfold yesTo noTo
  have e1 : (g ∘ fun n => ((stA (thrL (countL l k) lock 0) n).h, (stA (thrL (countL l k) lock 0) n).n)) = fun n => p (stA (thrL (countL l k) lock 0) n) := by funext n; exact hg _
  have e2 : ((fun x => !g x) ∘ fun n => ((stA (thrL (countL l k) lock 0) n).h, (stA (thrL (countL l k) lock 0) n).n)) = fun n => !p (stA (thrL (countL l k) lock 0) n) := by funext n; simp only [Function.comp, hg]
  rw [e1, e2]
theorem any_filter_and {q g : Nat → Bool} : ∀ (l : List Nat), (l.filter q).any g = l.any fun n => q n && g n
  | [] => rfl
  | a :: r => by
    have ih := any_filter_and (q := q) (g := g) r
    rw [List.filter_cons, List.any_cons]
    split
    · rename_i h; rw [List.any_cons, ih, h]; rfl
    · rename_i h; rw [ih]; simp [h]
theorem any_congr' {f g : Nat → Bool} {l : List Nat} (h : ∀ n ∈ l, f n = g n) : l.any f = l.any g := by
  induction l with
  | nil => rfl
  | cons a r ih => rw [List.any_cons, List.any_cons, h a (by simp), ih fun n hn => h n (by simp [hn])]
theorem off_may {l : List Deed} (h : okL l) {k : Int} (hn : ¬ (confP (countL l k)).isSome = true) {pe day : Int} (h0 : 0 ≤ day) :
    ansP (fun s => s.o) (thrL (countL l k) 0 pe) day = offI (countL l k) pe day := by
  have hv := countL_valid h k
  rw [ansP_some (pers_some h hn h0)]
  unfold offI yesTo noTo yesN noN mayL
  rw [thrL_pers hv, idxF_count, any_filter_and, any_filter_and]
  have key : ∀ n ∈ List.range (((countL l k).filter (offpB pe)).length + 1), mayB ((countL l k).filter (offpB pe)) n day = canB (daysRL (countL l k)) (idxF (offpB pe) 0 (countL l k)) n day ∧
      (stA ((countL l k).filter (offpB pe)) n).o = inK (countL l k) (idxF (offpB pe) 0 (countL l k)) n := fun n hn => by
    have := List.mem_range.1 hn
    exact ⟨(can_may (offpB_of pe) hv (by omega) day).symm, stA_in pe (by omega)⟩
  congr 1
  · exact any_congr' fun n hn => by
      have := key n hn
      simp only [this.1, this.2]
  · exact any_congr' fun n hn => by
      have := key n hn
      simp only [this.1, this.2]
/-! errors -/
noncomputable def askE (l : List Deed) (day k : Int) : Int := if daysI l [day, k] = 0 then (if (confP (countL l k)).isSome then 13 else 0) else daysI l [day, k]
theorem askV_eq (l : List Deed) (day k : Int) : askV l day k = .tup [.sl ((if askE l day k = 0 then countL l k else []).map encD), vInt (askE l day k)] := by
  unfold askV askE contV
  by_cases h1 : daysI l [day, k] = 0
  · simp only [h1, if_true]
    by_cases h2 : (confP (countL l k)).isSome = true
    · simp [h2]
    · simp [h2]
  · simp only [h1, if_false]
    rfl
theorem askE_ok {l : List Deed} {day k : Int} (h : askE l day k = 0) : okL l ∧ ¬ (confP (countL l k)).isSome = true ∧ daysI l [day, k] = 0 := by
  unfold askE at h
  split at h
  · rename_i h1
    split at h
    · cases h
    · rename_i h2
      exact ⟨days_ok h1, h2, h1⟩
  · rename_i h1; exact (h1 h).elim
theorem daysI_swap (l : List Deed) (a b : Int) : daysI l [a, b] = daysI l [b, a] := by
  unfold daysI
  simp only [List.any_cons, List.any_nil, Bool.or_false]
  rw [Bool.or_comm]
theorem evenV_eq (l : List Deed) (k day : Int) : evenV l k day = .tup [.sl ((if askE l day k = 0 then countL l k else []).map encD), vInt (askE l day k)] := by
  have : evenV l k day = askV l day k := by unfold evenV askV; rw [daysI_swap l k day]
  rw [this, askV_eq]
noncomputable def lockE (l : List Deed) (lock day k : Int) (ps : List Int) : Int :=
  if checkI l = 0 then (if isLockB lock then (if ps.any (fun n => !isPersB n) then 16 else askE l day k) else 15) else checkI l
theorem lockV_eq (l : List Deed) (lock day k : Int) (ps : List Int) : lockV l lock day k ps = .tup [.sl ((if lockE l lock day k ps = 0 then thrL (countL l k) lock 0 else []).map encD), vInt (lockE l lock day k ps)] := by
  unfold lockV lockE askE
  by_cases h1 : checkI l = 0
  · simp only [h1, if_true]
    by_cases h2 : isLockB lock = true
    · simp only [h2, if_true]
      by_cases h3 : (ps.any fun n => !isPersB n) = true
      · simp [h3]
      · simp only [h3, if_false, Bool.false_eq_true]
        by_cases h4 : daysI l [day, k] = 0
        · simp only [h4, if_true]
          by_cases h5 : (confP (countL l k)).isSome = true
          · simp [h5]
          · simp [h5]
        · simp only [h4, if_false, Bool.false_eq_true]
          rfl
    · simp [h2]
  · simp only [h1, if_false]
    rfl
theorem lockE_ok {l : List Deed} {lock day k : Int} {ps : List Int} (h : lockE l lock day k ps = 0) : askE l day k = 0 ∧ 1 ≤ lock := by
  unfold lockE at h
  split at h
  · split at h
    · rename_i h2
      split at h
      · cases h
      · unfold isLockB at h2
        rw [inI_iff] at h2
        exact ⟨h, h2.1⟩
    · cases h
  · rename_i h1; exact (h1 h).elim
theorem keysOfV_eq (l : List Deed) (a : Aska) (p : Bool) : keysOfV l a p = .tup [.sl ((if lockE l a.lo a.da a.kn (if p then [a.pe] else []) = 0 then keysL (countL l a.kn) a.lo a.da else []).map encK), vInt (lockE l a.lo a.da a.kn (if p then [a.pe] else []))] := by
  unfold keysOfV lockE askE
  rw [daysI_swap l a.kn a.da]
  have e1 : isLockB a.lo = inI a.lo 1 3 := rfl
  have e2 : ((if p then [a.pe] else []).any fun n => !isPersB n) = (p && !inI a.pe 1 99) := by cases p <;> simp [isPersB]
  rw [e1, e2]
  by_cases h1 : checkI l = 0
  · simp only [h1, if_true]
    by_cases h2 : inI a.lo 1 3 = true
    · simp only [h2, if_true]
      by_cases h3 : (p && !inI a.pe 1 99) = true
      · simp [h3]
      · simp only [h3, if_false, Bool.false_eq_true]
        by_cases h4 : daysI l [a.da, a.kn] = 0
        · simp only [h4, if_true]
          by_cases h5 : (confP (countL l a.kn)).isSome = true
          · simp [h5]
          · simp [h5]
        · simp only [h4, if_false, Bool.false_eq_true]
          rfl
    · simp [h2]
  · simp only [h1, if_false]
    rfl
end Go.Eng
/- The engine's text of a box that holds no slice yet. -/
namespace Go.Eng
open Go

theorem weak_ghostB {σ : S} (b nm : Name) (sz : Nat) (hb : σ.obj b = some (.box [.nilsl])) (hn : σ.obj nm = none) :
    Weak σ ⟨σ.nt, σ.env, upd (upd σ.obj nm (some (.arr sz []))) b (some (.box [.msl nm 0])), σ.pre, σ.base⟩ := by
  intro G φ m a w hC
  have hne : b ≠ nm := fun e => by subst e; rw [hb] at hn; cases hn
  obtain ⟨h1, h2, h3, us, T, f, h4, h5, h6, h7⟩ := hC.objs b _ hb
  have h0 : 0 < us.size := by rw [h6]; simp
  have h8 := h7 0 (by simp) h0
  simp only [List.getElem_cons_zero] at h8
  generalize hu : us[0] = u at h8
  cases h8 with
  | nilsl b' =>
  have hx := Ext.new (φ := φ) hn ⟨0, 0, 0, true, b'⟩ (.arr sz [])
  have hC' := hC.chg (w' := w) nm (.arr sz []) ⟨0, 0, 0, true, b'⟩ hx ⟨rfl, rfl, rfl, Nat.le_refl _⟩ (fun _ _ _ => rfl) (fun h => by cases h) (.inl ⟨rfl, rfl⟩)
  have hb' : (upd σ.obj nm (some (.arr sz []))) b = some (.box [.nilsl]) := by rw [upd_ne _ _ _ hne]; exact hb
  have hφ : (upd φ nm ⟨0, 0, 0, true, b'⟩) b = φ b := upd_ne _ _ _ hne
  have hx2 := Ext.same (φ := upd φ nm ⟨0, 0, 0, true, b'⟩) (o' := .box [.msl nm 0]) hb' rfl rfl
  refine ⟨_, hC'.chg (w' := w) b (.box [.msl nm 0]) _ hx2 ⟨rfl, rfl, rfl, Nat.le_refl _⟩ (fun _ _ _ => rfl) (fun _ => .inr ⟨⟨_, hb', rfl, by rw [hφ]; exact h2⟩, rfl⟩) ?_⟩
  rw [upd_id, hφ]
  refine ⟨h1, h2, by simp [D.one], us, T, f, h4, h5, by simpa using h6, fun i hi hi' => ?_⟩
  have hi0 : i = 0 := by simp at hi; exact hi
  subst hi0
  simp only [List.getElem_cons_zero]
  rw [hu]
  have hnm : (upd (upd σ.obj nm (some (.arr sz []))) b (some (.box [.msl nm 0]))) nm = some (.arr sz []) := by rw [upd_ne _ _ _ hne.symm, upd_same]
  refine .msl _ _ _ ⟨_, _, hnm, rfl, by simp, fun _ => ?_⟩ rfl
  rw [upd_same]; rfl
theorem weakM_ghostB {σ τ : S} (b nm : Name) (sz : Nat) (hb : σ.obj b = some (.box [.nilsl])) (hn : σ.obj nm = none) (ks : List Nat) (ns : List Name)
    (h : clS ks ns ⟨σ.nt, σ.env, upd (upd σ.obj nm (some (.arr sz []))) b (some (.box [.msl nm 0])), σ.pre, σ.base⟩) (hk : keepS ks ns ⟨σ.nt, σ.env, upd (upd σ.obj nm (some (.arr sz []))) b (some (.box [.msl nm 0])), σ.pre, σ.base⟩ = τ) : WeakM σ τ :=
  (weak_ghostB b nm sz hb hn).toM.trans (weakM_keep ks ns h hk)
theorem leftK_go {K : Exit → S → Prop} {obj : Name → Option O} {nm : Name} {σ : S} {env : List E} {ps : List Nat} {a b : Code} (h : obj nm = some (.loop env ps a b .ready none)) (hK : K .normal σ) : leftK K obj nm σ := by
  unfold leftK
  rw [h]
  exact hK
theorem cl_rangeFuncR {P : Program} {Γ : FuncId → Option Spec} (hΓ : ∀ f s, Γ f = some s → SSound P f s) {g : Operand} {ps : Array Tmp} {asg body : Code} {σ : S} {r : List Code} {K : Exit → S → Prop} (k k' : Nat) {f : FuncId} {s : Spec} {d : D} {obj' : Name → Option O}
    {env' : List E} {ps' : List Nat} {a' b' : Code} (hc : opC σ g = true) (hfn : clFn (opD σ g) = some f) (hne : f ≠ yid) (hs : Γ f = some s) (hnew : σ.obj (k :: σ.pre) = none)
    (hR : s.app (upd σ.obj (k :: σ.pre) (some (.loop ((List.range σ.nt).map σ.env) ps.toList asg body .ready none))) (k' :: σ.pre) (clArgs (opD σ g) [.yld (k :: σ.pre)]) = ⟨True, d, obj'⟩)
    (hL : obj' (k :: σ.pre) = some (.loop env' ps' a' b' .ready none))
    (hK : CL P r { σ with obj := upd obj' (k :: σ.pre) (some (.loop env' ps' a' b' .exhausted none)) } K) : CL P (.rangeFunc g ps asg body :: r) σ K := by
  refine cl_rangeFunc hΓ k k' hc hfn hne hs hnew (by rw [hR]; trivial) ?_
  rw [hR]
  refine leftK_go hL ?_
  show CL P r _ K
  have e : spent obj' (k :: σ.pre) = upd obj' (k :: σ.pre) (some (.loop env' ps' a' b' .exhausted none)) := by unfold spent; rw [hL]
  rw [e]
  exact hK
end Go.Eng
namespace Go.Eng
open Go Go.Proofs
set_option maxRecDepth 10000
/-! the states that may be, one after another -/
@[go_sem] theorem ta176 : tAgg Tryz.prog 176 = some (false, 1) := by kernel_rfl
@[go_sem] theorem ta195 : tAgg Tryz.prog 195 = some (false, 1) := by kernel_rfl
theorem s147 : PSound Tryz.prog 147 (pLI (fun _ => True) (fun l k => .clo (.func 165) [] [.ptr [.sl (l.map encD)], .ptr [vInt k]]) false) := by
  refine psoundB (rs := [.tmp 4]) Tryz.func147 Tryz.ntmps147 (by rfl) (by kernel_rfl) (by decide) (fun h => by cases h) ⟨_, rfl, ?_⟩
  rintro xs ⟨l, k, rfl, _⟩ hw
  refine ⟨Nat.le_of_ble_eq_true rfl, ?_⟩
  rw [pLI_fn]
  have hΓ := K0n_sound
  repeat refine cl_seq ?_
  refine cl_rs hΓ [2,3] [[2, 0],[3, 0]] fun K' hK => ?_
  simp only [go_sem]
  repeat (refine ⟨ob, ?_⟩)
  refine hK _ ?_ ?_ <;> clear K' hK <;> simp only [go_sem]
  repeat refine cl_seq ?_
  refine cl_rs hΓ [4] [[2, 0],[3, 0]] fun K' hK => ?_
  simp only [go_sem]
  repeat (refine ⟨ob, ?_⟩)
  refine hK _ ?_ ?_ <;> clear K' hK <;> simp only [go_sem]
  refine cl_ret ?_
  simp only [go_sem]
  all_goals first | done | rfl | exact ⟨by decide, rfl⟩ | exact ⟨by decide, trivial⟩
noncomputable def sMay : Spec := (pLNI fun l n k => .bool (mayB l n k)).toSpec
theorem sMay_app {obj : Name → Option O} {t : Name} {l : List Deed} {n : Nat} {k : Int} (h : n ≤ l.length) : sMay.app obj t [.v (.sl (l.map encD)), .v (vInt n), .v (vInt k)] = ⟨True, .v (.bool (mayB l n k)), obj⟩ := by
  simp only [sMay, PSpec.toSpec, frzL, frz, pLNI_fn, ite_self]
  congr 1
  simp only [eq_iff_iff, iff_true]
  exact ⟨⟨trivial, trivial, trivial, trivial⟩, l, n, k, rfl, h⟩
def pAft : PSpec := ⟨fun xs => ∃ (l : List Deed) (n : Nat), xs = [.sl (l.map encD), vInt n] ∧ n ≤ l.length ∧ ∀ d ∈ l, kindOk d, fun xs => match xs with | [.sl l, .int _ n] => encS (stA (l.map decD) n.toNat) | _ => .bool false, true⟩
theorem pAft_fn (l : List Deed) (n : Nat) : pAft.fn [.sl (l.map encD), vInt n] = encS (stA l n) := by
  simp only [pAft, decD_map, Int.toNat_natCast]
noncomputable def sAft : Spec := pAft.toSpec
theorem sAft_app {obj : Name → Option O} {t : Name} {l : List Deed} {n : Nat} (h : n ≤ l.length) (hk : ∀ d ∈ l, kindOk d) : sAft.app obj t [.v (.sl (l.map encD)), .v (vInt n)] = ⟨True, .v (encS (stA l n)), obj⟩ := by
  simp only [sAft, PSpec.toSpec, frzL, frz, pAft_fn, ite_self]
  congr 1
  simp only [eq_iff_iff, iff_true]
  exact ⟨⟨trivial, trivial, trivial⟩, l, n, rfl, h, hk⟩
/-! what lies outside, all of it anew -/
def setU (obj : Name → Option O) (L : List O) : Name → Option O := fun nm => match outH L nm with | some o => some o | none => obj nm
theorem setU_out {L1 L2 : List O} (h : L2.length = L1.length) : setU (outH L1) L2 = outH L2 := by
  funext nm
  unfold setU
  cases hx : isOut nm with
  | false => rw [outH_not hx, outH_not hx]
  | true =>
    obtain ⟨i, rfl⟩ := isOut_iff.1 hx
    simp only [outH]
    by_cases hi : i < L2.length
    · rw [List.getElem?_eq_getElem hi]
    · rw [List.getElem?_eq_none (by omega), List.getElem?_eq_none (by omega)]
theorem mkS_setU (n : Nat) (p : Name) (F H : Name → Option O) (L : List O) (l : List (Nat × E)) (h : List (Name × O)) :
    mkS n p (setU (fun nm => if own p nm = true then F nm else H nm) L) l h = mkS n p (setU H L) l h :=
  mkS_same fun nm hn => by unfold setU; simp [hn]
theorem OutC_setU (p : Name) (dom : Name → Bool) (F H : Name → Option O) (L : List O) :
    OutC p dom (setU (fun nm => if own p nm = true then F nm else H nm) L) = OutC p dom (setU H L) := by
  have e : ∀ nm, own p nm = false → setU (fun nm => if own p nm = true then F nm else H nm) L nm = setU H L nm := fun nm hn => by unfold setU; simp [hn]
  exact propext ⟨fun k nm q hn h => k nm q hn (by rw [e nm hn]; exact h), fun k nm q hn h => k nm q hn (by rw [← e nm hn]; exact h)⟩
def endN (q : Nat → Bool) (n : Nat) : Nat := match (List.range n).find? q with | some s => s + 1 | none => n
theorem endN_none {q : Nat → Bool} {n : Nat} (h : ∀ s, s < n → q s = false) : endN q n = n := by
  unfold endN
  rw [List.find?_eq_none.2 fun s hs => by rw [h s (List.mem_range.1 hs)]; decide]
theorem endN_at {q : Nat → Bool} {n s : Nat} (hs : s < n) (hq : q s = true) (h : ∀ j, j < s → q j = false) : endN q n = s + 1 := by
  unfold endN
  have : (List.range n).find? q = some s := by
    rw [List.find?_eq_some_iff_getElem]
    refine ⟨hq, s, by simpa using hs, by simp, fun j hj => by simp [h j hj]⟩
  rw [this]
set_option maxHeartbeats 8000000 in
theorem w165 {Γ : FuncId → Option Spec} (hΓ : ∀ f s, Γ f = some s → SSound Tryz.prog f s) {sY : Spec} (hY : Γ yid = some sY) (h6 : Γ 166 = some sMay) (h7 : Γ 167 = some sAft)
    {t : List Deed} {day : Int} (hl : t.length ≤ 60) (hk : ∀ d ∈ t, kindOk d) {I : Nat → List O} {b : Nat → Bool} (hI : ∀ s, (I s).length = (I 0).length)
    (hc : ∀ s, ∀ o ∈ I s, ∀ dom : Name → Bool, (∀ i, dom [i, 1] = true) → O.clos dom o = true) (hst : ∀ s, s ≤ t.length → mayB t s day = false → I (s + 1) = I s)
    (hap : ∀ s, s ≤ t.length → mayB t s day = true → ∀ obj tm, (∀ nm, isOut nm = true → obj nm = outH (I s) nm) → sY.app obj tm [.yld [0, 1], .v (vInt s), .v (encS (stA t s))] = ⟨True, .v (.bool (b s)), setU obj (I (s + 1))⟩) :
    ∃ c, Tryz.f165.body = some c ∧ CL Tryz.prog [c] (mkS 25 [0] (outH (I 0)) [(0, ⟨true, .yld [0, 1]⟩), (1, ⟨true, .v (.ptr [.sl (t.map encD)])⟩), (2, ⟨true, .v (.ptr [vInt day])⟩)] [])
      (fun e σ => (e = .normal ∨ e = .ret) ∧ ∀ i, σ.obj [i, 1] = outH (I (endN (fun s => mayB t s day && !b s) (t.length + 1))) [i, 1]) := by
  refine ⟨_, rfl, ?_⟩
  have hO : ∀ s hs, OutC [0] (domOf [0] hs) (outH (I s)) = True := fun s hs => eq_true (outC_outs (hc s) hs)
  have hset : ∀ s, setU (outH (I s)) (I (s + 1)) = outH (I (s + 1)) := fun s => setU_out ((hI _).trans (hI s).symm)
  obtain ⟨H, hH⟩ : ∃ H : Nat → Name → Option O, ∀ s, outH (I s) = H s := ⟨_, fun _ => rfl⟩
  simp only [hH] at hO hset hap ⊢
  have hY' : Γ 1000000000 = some sY := hY
  have hw1 : IntKind.i64.wrap ((t.length : Int) + 1) = ((t.length + 1 : Nat) : Int) := wrap_succ (n := 61) (by omega) (by unfold maxLen; omega)
  repeat refine cl_seq ?_
  refine cl_rs hΓ [0,1,2,7,8] [] fun K' hK => ?_
  simp only [go_sem, hO, hw1]
  repeat (refine ⟨ob, ?_⟩)
  refine hK _ ?_ ?_ <;> clear K' hK <;> simp only [go_sem, hO, hw1]
  repeat refine cl_seq ?_
  refine cl_block ?_
  repeat refine cl_seq ?_
  refine cl_loop (fun s : Nat => mkS 25 [0] (H s) [(0, ⟨true, .yld [0, 1]⟩), (1, ⟨true, .v (.ptr [.sl (t.map encD)])⟩), (2, ⟨true, .v (.ptr [vInt day])⟩), (7, ⟨true, .v (vInt (t.length + 1 : Nat))⟩), (8, ⟨true, .v (vInt s)⟩)] [])
    (fun s => s ≤ t.length + 1 ∧ ∀ j, j < s → (mayB t j day && !b j) = false) (fun s => t.length + 1 - s) 0 ⟨Nat.zero_le _, fun j hj => by omega⟩ (Weak.refl _) ?_
  rintro i ⟨hi, hq⟩
  repeat refine cl_seq ?_
  refine cl_rs hΓ [0,1,2,7,8,9] [] fun K' hK => ?_
  simp only [go_sem, hO]
  repeat (refine ⟨ob, ?_⟩)
  refine hK _ ?_ ?_ <;> clear K' hK <;> simp only [go_sem, hO]
  repeat refine cl_seq ?_
  refine cl_cond rfl rfl (fun hb => ?_) (fun hb => ?_)
  · have hlt : i ≤ t.length := by
      have : (i : Int) < (t.length + 1 : Nat) := by simpa using hb
      omega
    have hws : IntKind.i64.wrap ((i : Int) + 1) = ((i + 1 : Nat) : Int) := wrap_succ (n := 61) (by omega) (by unfold maxLen; omega)
    clear hb
    repeat refine cl_seq ?_
    refine cl_skip ?_
    repeat refine cl_seq ?_
    refine cl_block ?_
    repeat refine cl_seq ?_
    repeat refine cl_seq ?_
    refine cl_rs hΓ [0,1,2,4,7,8] [] fun K' hK => ?_
    simp only [go_sem, hO]
    repeat (refine ⟨ob, ?_⟩)
    refine hK _ ?_ ?_ <;> clear K' hK <;> simp only [go_sem, hO]
    have hmy := fun (obj : Name → Option O) (tm : Name) => sMay_app (obj := obj) (t := tm) (k := day) hlt
    have haf := fun (obj : Name → Option O) (tm : Name) => sAft_app (obj := obj) (t := tm) hlt hk
    cases hm : mayB t i day with
    | false =>
      repeat refine cl_seq ?_
      refine cl_rs hΓ [0,1,2,7,8,23] [] fun K' hK => ?_
      simp only [go_sem, hO, h6, h7, hY', hmy, haf, hm]
      repeat (refine ⟨ob, ?_⟩)
      refine hK _ ?_ ?_ <;> clear K' hK <;> simp only [go_sem, hO, h6, h7, hY', hmy, haf, hm]
      repeat refine cl_seq ?_
      refine cl_cond rfl rfl (fun hb => ?_) (fun hb => ?_)
      · cases hb
      repeat refine cl_seq ?_
      refine cl_skip ?_
      refine cl_nil ?_
      simp only [go_sem]
      refine cl_keep [0,1,2,7,8] [] ?_ ?_
      · simp only [go_sem, hO]
      simp only [go_sem, hO]
      repeat refine cl_seq ?_
      refine cl_r hΓ fun K' hK => ?_
      simp only [go_sem]
      repeat (refine ⟨ob, ?_⟩)
      refine hK _ ?_
      clear K' hK
      simp only [go_sem]
      refine ⟨i + 1, ⟨by omega, fun j hj => ?_⟩, by omega, ?_⟩
      · by_cases h : j < i
        · exact hq j h
        · have : j = i := by omega
          subst this
          rw [hm]; rfl
      have hHe : H (i + 1) = H i := by rw [← hH, ← hH, hst i hlt hm]
      rw [hHe]
      refine weak_eq [0,1,2,7,8] [] ?_ ?_
      · simp only [go_sem, hO, hws, Int.natCast_add, Int.natCast_one]
      · simp only [go_sem, hO, hws, Int.natCast_add, Int.natCast_one]
    | true =>
      have hap2 : ∀ tm, sY.app (fun nm => if own [0] nm = true then none else H i nm) tm [.yld [0, 1], .v (vInt i), .v (encS (stA t i))] = ⟨True, .v (.bool (b i)), setU (fun nm => if own [0] nm = true then none else H i nm) (I (i + 1))⟩ := fun tm => hap i hlt hm _ tm fun nm hn => by
        obtain ⟨k, rfl⟩ := isOut_iff.1 hn
        simp [own_out01]
      repeat refine cl_seq ?_
      refine cl_rs hΓ [0,1,2,7,8,23] [] fun K' hK => ?_
      simp only [go_sem, hO, h6, h7, hY', hmy, haf, hm, hap2, mkS_setU, OutC_setU, hset]
      repeat (refine ⟨ob, ?_⟩)
      refine hK _ ?_ ?_ <;> clear K' hK <;> simp only [go_sem, hO, h6, h7, hY', hmy, haf, hm, hap2, mkS_setU, OutC_setU, hset]
      repeat refine cl_seq ?_
      refine cl_cond rfl rfl (fun hb => ?_) (fun hb => ?_)
      · have hbi : b i = false := by simpa using hb
        repeat refine cl_seq ?_
        refine cl_ret ?_
        simp only [go_sem]
        have hen : endN (fun s => mayB t s day && !b s) (t.length + 1) = i + 1 := endN_at (by omega) (by simp [hm, hbi]) hq
        rw [hen]
        exact ⟨by simp, fun k => by simp [own_out01]⟩
      · have hbi : b i = true := by simpa using hb
        repeat refine cl_seq ?_
        refine cl_skip ?_
        refine cl_nil ?_
        simp only [go_sem]
        refine cl_keep [0,1,2,7,8] [] ?_ ?_
        · simp only [go_sem, hO]
        simp only [go_sem, hO]
        repeat refine cl_seq ?_
        refine cl_r hΓ fun K' hK => ?_
        simp only [go_sem]
        repeat (refine ⟨ob, ?_⟩)
        refine hK _ ?_
        clear K' hK
        simp only [go_sem]
        refine ⟨i + 1, ⟨by omega, fun j hj => ?_⟩, by omega, ?_⟩
        · by_cases h : j < i
          · exact hq j h
          · have : j = i := by omega
            subst this
            rw [hbi]; simp
        refine weak_eq [0,1,2,7,8] [] ?_ ?_
        · simp only [go_sem, hO, hws, Int.natCast_add, Int.natCast_one]
        · simp only [go_sem, hO, hws, Int.natCast_add, Int.natCast_one]
  · have hge : i = t.length + 1 := by
      have : ¬ (i : Int) < (t.length + 1 : Nat) := by simpa using hb
      omega
    subst hge
    clear hb
    repeat refine cl_seq ?_
    refine cl_exit ?_
    simp only [go_sem]
    refine cl_nil ?_
    simp only [go_sem]
    rw [endN_none hq]
    exact ⟨by simp, fun k => by simp [own_out01]⟩
end Go.Eng
namespace Go.Eng
open Go Go.Proofs
set_option maxRecDepth 10000
/-! what is told of a lock; the reference's Holders and Hands -/
noncomputable def whoR (f : Sta → Int) (l : List Deed) (lock day k : Int) : List Int := if lockE l lock day k [] = 0 then whoL f (thrL (countL l k) lock 0) day else []
noncomputable def ansR (p : Sta → Bool) (l : List Deed) (lock pe day k : Int) : Int := if lockE l lock day k [pe] = 0 then ansP p (thrL (countL l k) lock 0) day else 0
noncomputable def keysR (l : List Deed) (lock day k : Int) (ps : List Int) : List (Int × Int) := if lockE l lock day k ps = 0 then keysL (countL l k) lock day else []
def putL (g : Int × Int → Int) (ks : List (Int × Int)) : List Int := ks.foldl (fun o x => insI o (g x)) []
theorem putL_next {g : Int × Int → Int} {ks : List (Int × Int)} {i : Nat} (h : i < ks.length) : putL g (ks.take (i + 1)) = insI (putL g (ks.take i)) (g ks[i]) := by
  unfold putL
  rw [List.take_add_one, List.getElem?_eq_getElem h, List.foldl_append]
  rfl
theorem putL_len (g : Int × Int → Int) : ∀ (ks : List (Int × Int)) (o : List Int), (ks.foldl (fun o x => insI o (g x)) o).length ≤ o.length + ks.length
  | [], o => by simp
  | x :: r, o => by
    have h1 := putL_len g r (insI o (g x))
    have h2 := insI_len o (g x)
    simp only [List.foldl_cons, List.length_cons]
    omega
theorem day_pos {l : List Deed} {day k : Int} (h : daysI l [day, k] = 0) : 0 ≤ day := by
  unfold daysI at h
  split at h
  · split at h
    · cases h
    · rename_i h2
      simp only [List.any_cons, List.any_nil, Bool.or_false, Bool.or_eq_true, Bool.not_eq_true', not_or, Bool.not_eq_false] at h2
      have h3 := h2.1
      unfold isDayB at h3
      exact (inI_iff.1 h3).1
  · rename_i h1; exact (h1 h).elim
theorem who_ref {l : List Deed} {lock day k : Int} {f : Sta → Int} {g : Int × Int → Int} (h : ∀ s : Sta, g (s.h, s.n) = f s) : whoR f l lock day k = putL g (keysR l lock day k []) := by
  unfold whoR keysR putL
  by_cases he : lockE l lock day k [] = 0
  · obtain ⟨h1, h2⟩ := lockE_ok he
    rw [if_pos he, if_pos he]
    exact who_keys (countL_valid (askE_ok h1).1 k) h2 day f g h
  · rw [if_neg he, if_neg he]
    rfl
theorem ans_ref {l : List Deed} {lock pe day k : Int} {p : Sta → Bool} {g : Int × Int → Bool} (h : ∀ s : Sta, g (s.h, s.n) = p s) :
    ansR p l lock pe day k = ansI ((keysR l lock day k [pe]).any g) ((keysR l lock day k [pe]).any fun x => !g x) := by
  unfold ansR keysR
  by_cases he : lockE l lock day k [pe] = 0
  · obtain ⟨h1, h2⟩ := lockE_ok he
    obtain ⟨h3, h4, h5⟩ := askE_ok h1
    rw [if_pos he, if_pos he]
    exact ans_keys h3 h4 h2 (day_pos h5) p g h
  · rw [if_neg he, if_neg he]
    rfl
theorem keysR_len (l : List Deed) (lock day k : Int) (ps : List Int) : (keysR l lock day k ps).length ≤ 61 := by
  unfold keysR
  split
  · rename_i he
    obtain ⟨h1, h2⟩ := lockE_ok he
    have h3 := (askE_ok h1).1.2.2
    have h4 := countL_len l k
    have h5 := keysTo_len (countL l k) (idxF (thrB lock) 0 (countL l k)) day ((idxF (thrB lock) 0 (countL l k)).length + 1)
    have h6 := idxF_len (thrB lock) (countL l k) 0
    unfold keysL
    omega
  · exact Nat.zero_le _
theorem keysOfV_R (l : List Deed) (a : Aska) (p : Bool) : keysOfV l a p = .tup [.sl ((keysR l a.lo a.da a.kn (if p then [a.pe] else [])).map encK), vInt (lockE l a.lo a.da a.kn (if p then [a.pe] else []))] := by
  rw [keysOfV_eq]
  rfl
def pLA (f : List Deed → Aska → V) (fl : Bool) : PSpec := ⟨fun xs => ∃ (l : List Deed) (a : Aska), xs = [.sl (l.map encD), encA a], fun xs => match xs with | [.sl l, .agg [.int _ a, .int _ b, .int _ c, .int _ d]] => f (l.map decD) ⟨a, b, c, d⟩ | _ => .bool false, fl⟩
theorem pLA_fn (f : List Deed → Aska → V) (fl : Bool) (l : List Deed) (a : Aska) : (pLA f fl).fn [.sl (l.map encD), encA a] = f l a := by
  simp only [pLA, encA, decD_map]
noncomputable def sLAB (f : List Deed → Aska → Bool → V) : Spec := (pLAB f).toSpec
theorem sLAB_app {f : List Deed → Aska → Bool → V} {obj : Name → Option O} {t : Name} {l : List Deed} {a b c d : Int} {p : Bool} : (sLAB f).app obj t [.v (.sl (l.map encD)), .agg [.v (vInt a), .v (vInt b), .v (vInt c), .v (vInt d)], .v (.bool p)] = ⟨True, .v (f l ⟨a, b, c, d⟩ p), obj⟩ := by
  have e : frzL (frz 6) obj [.v (.sl (l.map encD)), .agg [.v (vInt a), .v (vInt b), .v (vInt c), .v (vInt d)], .v (.bool p)] = ⟨True, [.sl (l.map encD), encA ⟨a, b, c, d⟩, .bool p], obj⟩ := by
    simp [frzL, frz, D.one, V.one, encA]
  simp only [sLAB, PSpec.toSpec, e, pLAB_fn, ite_self]
  congr 1
  simp only [eq_iff_iff, iff_true]
  exact ⟨trivial, l, _, p, rfl⟩
noncomputable def K58 : FuncId → Option Spec := fun f => match f with
  | 104 => some (sLAB keysOfV)
  | 96 => some sPut
  | 107 => some (sBB fun a b => vInt (ansI a b))
  | _ => none
theorem K58_sound : ∀ f s, K58 f = some s → SSound Tryz.prog f s := by
  intro f s h
  unfold K58 at h
  split at h
  · cases h; exact s104.sound
  · cases h; exact s96.sound
  · cases h; exact s107.sound
  · cases h
@[go_sem] theorem K58_104 : K58 104 = some (sLAB keysOfV) := rfl
@[go_sem] theorem K58_96 : K58 96 = some sPut := rfl
@[go_sem] theorem K58_107 : K58 107 = some (sBB fun a b => vInt (ansI a b)) := rfl
set_option maxHeartbeats 8000000 in
theorem s42 : PSound Tryz.prog 42 (pLA (fun l a => .tup [.sl ((whoR (·.h) l a.lo a.da a.kn).map vInt), vInt (lockE l a.lo a.da a.kn [])]) false) := by
  refine psoundB (rs := [.tmp 4, .tmp 5]) Tryz.func42 Tryz.ntmps42 (by rfl) (by kernel_rfl) (by decide) (fun h => by cases h) ⟨_, rfl, ?_⟩
  rintro xs ⟨l, ⟨lo, pe, da, kn⟩, rfl⟩ hw
  refine ⟨Nat.le_of_ble_eq_true rfl, ?_⟩
  rw [pLA_fn]
  simp only [encA]
  have hΓ := K58_sound
  have he := keysOfV_R l ⟨lo, pe, da, kn⟩ false
  simp only [Bool.false_eq_true, if_false] at he
  rw [who_ref (g := Prod.fst) fun _ => rfl]
  have hln := keysR_len l lo da kn []
  generalize keysR l lo da kn [] = ks at he hln
  have hl : ks.length ≤ maxLen := by unfold maxLen; omega
  repeat refine cl_seq ?_
  refine cl_rs hΓ [0,3] [[3, 0]] fun K' hK => ?_
  simp only [go_sem]
  repeat (refine ⟨ob, ?_⟩)
  refine hK _ ?_ ?_ <;> clear K' hK <;> simp only [go_sem]
  repeat refine cl_seq ?_
  refine cl_rs hΓ [6,7] [] fun K' hK => ?_
  simp only [go_sem, sLAB_app, he]
  repeat (refine ⟨ob, ?_⟩)
  refine hK _ ?_ ?_ <;> clear K' hK <;> simp only [go_sem, sLAB_app, he]
  repeat refine cl_seq ?_
  refine cl_rs hΓ [6,7,8] [] fun K' hK => ?_
  simp only [go_sem]
  repeat (refine ⟨ob, ?_⟩)
  refine hK _ ?_ ?_ <;> clear K' hK <;> simp only [go_sem]
  refine cl_weakM (σ' := mkS 30 [0] (fun _ => none) [(6, ⟨true, .v (.sl (ks.map encK))⟩), (7, ⟨true, .v (vInt (lockE l lo da kn []))⟩), (8, ⟨true, .v (.sl [])⟩)] []) (weakM_frzk 8 .nilsl (by simp only [go_sem]) (by simp only [go_sem]) [6, 7, 8] [] ?_ ?_) ?_
  · simp only [go_sem]
  · simp only [go_sem]
  repeat refine cl_seq ?_
  refine cl_rs hΓ [7,8,17,18,19] [] fun K' hK => ?_
  simp only [go_sem]
  repeat (refine ⟨ob, ?_⟩)
  refine hK _ ?_ ?_ <;> clear K' hK <;> simp only [go_sem]
  repeat refine cl_seq ?_
  refine cl_block ?_
  repeat refine cl_seq ?_
  refine cl_loop' (fun s : Nat => [(8, ⟨true, .v (.sl ((putL Prod.fst (ks.take s)).map vInt))⟩), (19, ⟨true, .v (vInt s)⟩)]) (fun s => []) (fun s => s ≤ ks.length) (fun s => ks.length - s) 0 ?_ ?_ ?_ ?_
  · exact Nat.zero_le _
  · rfl
  · rfl
  rintro i hi
  simp only [go_sem]
  repeat refine cl_seq ?_
  repeat refine cl_seq ?_
  refine cl_rs hΓ [7,8,17,18,19,20] [] fun K' hK => ?_
  simp only [go_sem]
  repeat (refine ⟨ob, ?_⟩)
  refine hK _ ?_ ?_ <;> clear K' hK <;> simp only [go_sem]
  repeat refine cl_seq ?_
  refine cl_cond rfl rfl (fun hb => ?_) (fun hb => ?_)
  · have hlt : i < ks.length := by simpa using hb
    have hlt' : (i : Int) < ks.length := by omega
    clear hb
    repeat refine cl_seq ?_
    refine cl_skip ?_
    repeat refine cl_seq ?_
    refine cl_block ?_
    repeat refine cl_seq ?_
    have hpl := putL_len Prod.fst (ks.take i) []
    simp only [List.length_nil, List.length_take, Nat.zero_add] at hpl
    have hput := fun obj t (x : Int) => sPut_app (obj := obj) (t := t) (l := putL Prod.fst (ks.take i)) (n := x) (by unfold putL; omega)
    repeat refine cl_seq ?_
    refine cl_rs hΓ [7,8,10,17,18,19] [[10, 0]] fun K' hK => ?_
    simp only [go_sem, map_getD hlt, Int.toNat_natCast, Int.natCast_nonneg, hlt', encK, te132, tz85]
    repeat (refine ⟨ob, ?_⟩)
    refine hK _ ?_ ?_ <;> clear K' hK <;> simp only [go_sem, map_getD hlt, Int.toNat_natCast, Int.natCast_nonneg, hlt', encK, te132, tz85]
    repeat refine cl_seq ?_
    refine cl_r hΓ fun K' hK => ?_
    simp only [go_sem, hput]
    repeat (refine ⟨ob, ?_⟩)
    refine hK _ ?_
    clear K' hK
    simp only [go_sem]
    refine cl_keep [7,8,17,18,19] [] ?_ ?_
    · simp only [go_sem]
    simp only [go_sem]
    repeat refine cl_seq ?_
    refine cl_r hΓ fun K' hK => ?_
    simp only [go_sem]
    repeat (refine ⟨ob, ?_⟩)
    refine hK _ ?_
    clear K' hK
    simp only [go_sem]
    refine ⟨i + 1, hlt, (show ks.length - (i + 1) < ks.length - i by omega), ?_⟩
    rw [putL_next hlt]
    refine weak_eq [7,8,17,18,19] [] ?_ ?_
    · simp only [go_sem, wrap_succ hlt hl, Int.natCast_add, Int.natCast_one]
    · simp only [go_sem, wrap_succ hlt hl, Int.natCast_add, Int.natCast_one]
  · have hge : i = ks.length := by
      have : ¬ (i : Int) < ks.length := by simpa using hb
      omega
    subst hge
    clear hb
    repeat refine cl_seq ?_
    refine cl_exit ?_
    simp only [go_sem]
    refine cl_keep [7,8] [] ?_ ?_
    · simp only [go_sem]
    simp only [go_sem]
    rw [List.take_length]
    repeat refine cl_seq ?_
    refine cl_rs hΓ [4,5] [] fun K' hK => ?_
    simp only [go_sem]
    repeat (refine ⟨ob, ?_⟩)
    refine hK _ ?_ ?_ <;> clear K' hK <;> simp only [go_sem]
    refine cl_ret ?_
    simp only [go_sem]
set_option maxHeartbeats 8000000 in
theorem s43 : PSound Tryz.prog 43 (pLA (fun l a => .tup [.sl ((whoR (·.n) l a.lo a.da a.kn).map vInt), vInt (lockE l a.lo a.da a.kn [])]) false) := by
  refine psoundB (rs := [.tmp 4, .tmp 5]) Tryz.func43 Tryz.ntmps43 (by rfl) (by kernel_rfl) (by decide) (fun h => by cases h) ⟨_, rfl, ?_⟩
  rintro xs ⟨l, ⟨lo, pe, da, kn⟩, rfl⟩ hw
  refine ⟨Nat.le_of_ble_eq_true rfl, ?_⟩
  rw [pLA_fn]
  simp only [encA]
  have hΓ := K58_sound
  have he := keysOfV_R l ⟨lo, pe, da, kn⟩ false
  simp only [Bool.false_eq_true, if_false] at he
  rw [who_ref (g := Prod.snd) fun _ => rfl]
  have hln := keysR_len l lo da kn []
  generalize keysR l lo da kn [] = ks at he hln
  have hl : ks.length ≤ maxLen := by unfold maxLen; omega
  repeat refine cl_seq ?_
  refine cl_rs hΓ [0,3] [[3, 0]] fun K' hK => ?_
  simp only [go_sem]
  repeat (refine ⟨ob, ?_⟩)
  refine hK _ ?_ ?_ <;> clear K' hK <;> simp only [go_sem]
  repeat refine cl_seq ?_
  refine cl_rs hΓ [6,7] [] fun K' hK => ?_
  simp only [go_sem, sLAB_app, he]
  repeat (refine ⟨ob, ?_⟩)
  refine hK _ ?_ ?_ <;> clear K' hK <;> simp only [go_sem, sLAB_app, he]
  repeat refine cl_seq ?_
  refine cl_rs hΓ [6,7,8] [] fun K' hK => ?_
  simp only [go_sem]
  repeat (refine ⟨ob, ?_⟩)
  refine hK _ ?_ ?_ <;> clear K' hK <;> simp only [go_sem]
  refine cl_weakM (σ' := mkS 30 [0] (fun _ => none) [(6, ⟨true, .v (.sl (ks.map encK))⟩), (7, ⟨true, .v (vInt (lockE l lo da kn []))⟩), (8, ⟨true, .v (.sl [])⟩)] []) (weakM_frzk 8 .nilsl (by simp only [go_sem]) (by simp only [go_sem]) [6, 7, 8] [] ?_ ?_) ?_
  · simp only [go_sem]
  · simp only [go_sem]
  repeat refine cl_seq ?_
  refine cl_rs hΓ [7,8,17,18,19] [] fun K' hK => ?_
  simp only [go_sem]
  repeat (refine ⟨ob, ?_⟩)
  refine hK _ ?_ ?_ <;> clear K' hK <;> simp only [go_sem]
  repeat refine cl_seq ?_
  refine cl_block ?_
  repeat refine cl_seq ?_
  refine cl_loop' (fun s : Nat => [(8, ⟨true, .v (.sl ((putL Prod.snd (ks.take s)).map vInt))⟩), (19, ⟨true, .v (vInt s)⟩)]) (fun s => []) (fun s => s ≤ ks.length) (fun s => ks.length - s) 0 ?_ ?_ ?_ ?_
  · exact Nat.zero_le _
  · rfl
  · rfl
  rintro i hi
  simp only [go_sem]
  repeat refine cl_seq ?_
  repeat refine cl_seq ?_
  refine cl_rs hΓ [7,8,17,18,19,20] [] fun K' hK => ?_
  simp only [go_sem]
  repeat (refine ⟨ob, ?_⟩)
  refine hK _ ?_ ?_ <;> clear K' hK <;> simp only [go_sem]
  repeat refine cl_seq ?_
  refine cl_cond rfl rfl (fun hb => ?_) (fun hb => ?_)
  · have hlt : i < ks.length := by simpa using hb
    have hlt' : (i : Int) < ks.length := by omega
    clear hb
    repeat refine cl_seq ?_
    refine cl_skip ?_
    repeat refine cl_seq ?_
    refine cl_block ?_
    repeat refine cl_seq ?_
    have hpl := putL_len Prod.snd (ks.take i) []
    simp only [List.length_nil, List.length_take, Nat.zero_add] at hpl
    have hput := fun obj t (x : Int) => sPut_app (obj := obj) (t := t) (l := putL Prod.snd (ks.take i)) (n := x) (by unfold putL; omega)
    repeat refine cl_seq ?_
    refine cl_rs hΓ [7,8,10,17,18,19] [[10, 0]] fun K' hK => ?_
    simp only [go_sem, map_getD hlt, Int.toNat_natCast, Int.natCast_nonneg, hlt', encK, te132, tz85]
    repeat (refine ⟨ob, ?_⟩)
    refine hK _ ?_ ?_ <;> clear K' hK <;> simp only [go_sem, map_getD hlt, Int.toNat_natCast, Int.natCast_nonneg, hlt', encK, te132, tz85]
    repeat refine cl_seq ?_
    refine cl_r hΓ fun K' hK => ?_
    simp only [go_sem, hput]
    repeat (refine ⟨ob, ?_⟩)
    refine hK _ ?_
    clear K' hK
    simp only [go_sem]
    refine cl_keep [7,8,17,18,19] [] ?_ ?_
    · simp only [go_sem]
    simp only [go_sem]
    repeat refine cl_seq ?_
    refine cl_r hΓ fun K' hK => ?_
    simp only [go_sem]
    repeat (refine ⟨ob, ?_⟩)
    refine hK _ ?_
    clear K' hK
    simp only [go_sem]
    refine ⟨i + 1, hlt, (show ks.length - (i + 1) < ks.length - i by omega), ?_⟩
    rw [putL_next hlt]
    refine weak_eq [7,8,17,18,19] [] ?_ ?_
    · simp only [go_sem, wrap_succ hlt hl, Int.natCast_add, Int.natCast_one]
    · simp only [go_sem, wrap_succ hlt hl, Int.natCast_add, Int.natCast_one]
  · have hge : i = ks.length := by
      have : ¬ (i : Int) < ks.length := by simpa using hb
      omega
    subst hge
    clear hb
    repeat refine cl_seq ?_
    refine cl_exit ?_
    simp only [go_sem]
    refine cl_keep [7,8] [] ?_ ?_
    · simp only [go_sem]
    simp only [go_sem]
    rw [List.take_length]
    repeat refine cl_seq ?_
    refine cl_rs hΓ [4,5] [] fun K' hK => ?_
    simp only [go_sem]
    repeat (refine ⟨ob, ?_⟩)
    refine hK _ ?_ ?_ <;> clear K' hK <;> simp only [go_sem]
    refine cl_ret ?_
    simp only [go_sem]
end Go.Eng
namespace Go.Eng
open Go Go.Proofs
set_option maxRecDepth 10000
/-! the reference's Holds and Has -/
theorem any_take_next {q : Int × Int → Bool} {ks : List (Int × Int)} {i : Nat} (h : i < ks.length) : (ks.take (i + 1)).any q = ((ks.take i).any q || q ks[i]) := by
  rw [List.take_add_one, List.getElem?_eq_getElem h, List.any_append]
  simp
set_option maxHeartbeats 8000000 in
theorem s45 : PSound Tryz.prog 45 (pLA (fun l a => .tup [vInt (ansR (fun s => s.h == a.pe) l a.lo a.pe a.da a.kn), vInt (lockE l a.lo a.da a.kn [a.pe])]) true) := by
  refine psoundB (rs := [.tmp 4, .tmp 5]) Tryz.func45 Tryz.ntmps45 (by rfl) (by kernel_rfl) (by decide) (by rintro _ xs ⟨l, a, rfl⟩; rw [pLA_fn]; rfl) ⟨_, rfl, ?_⟩
  rintro xs ⟨l, ⟨lo, pe, da, kn⟩, rfl⟩ hw
  refine ⟨Nat.le_of_ble_eq_true rfl, ?_⟩
  rw [pLA_fn]
  simp only [encA]
  have hΓ := K58_sound
  have hP := mixedK
  have he := keysOfV_R l ⟨lo, pe, da, kn⟩ true
  simp only [if_true] at he
  rw [ans_ref (p := fun s => s.h == pe) (g := fun x => x.1 == pe) fun _ => rfl]
  have hln := keysR_len l lo da kn [pe]
  generalize keysR l lo da kn [pe] = ks at he hln
  have hl : ks.length ≤ maxLen := by unfold maxLen; omega
  repeat refine cl_seq ?_
  refine cl_rs hΓ [0,3] [[3, 0]] fun K' hK => ?_
  simp only [go_sem]
  repeat (refine ⟨ob, ?_⟩)
  refine hK _ ?_ ?_ <;> clear K' hK <;> simp only [go_sem]
  repeat refine cl_seq ?_
  refine cl_rs hΓ [3,6,7] [[3, 0]] fun K' hK => ?_
  simp only [go_sem, sLAB_app, he]
  repeat (refine ⟨ob, ?_⟩)
  refine hK _ ?_ ?_ <;> clear K' hK <;> simp only [go_sem, sLAB_app, he]
  repeat refine cl_seq ?_
  refine cl_rs hΓ [3,6,7,8] [[3, 0]] fun K' hK => ?_
  simp only [go_sem]
  repeat (refine ⟨ob, ?_⟩)
  refine hK _ ?_ ?_ <;> clear K' hK <;> simp only [go_sem]
  repeat refine cl_seq ?_
  refine cl_rs hΓ [3,6,7,8,9] [[3, 0]] fun K' hK => ?_
  simp only [go_sem]
  repeat (refine ⟨ob, ?_⟩)
  refine hK _ ?_ ?_ <;> clear K' hK <;> simp only [go_sem]
  repeat refine cl_seq ?_
  refine cl_rs hΓ [3,7,8,9,18,19,20] [[3, 0]] fun K' hK => ?_
  simp only [go_sem]
  repeat (refine ⟨ob, ?_⟩)
  refine hK _ ?_ ?_ <;> clear K' hK <;> simp only [go_sem]
  repeat refine cl_seq ?_
  refine cl_block ?_
  repeat refine cl_seq ?_
  refine cl_loop' (fun s : Nat => [(8, ⟨true, .v (.bool ((ks.take s).any fun x => x.1 == pe))⟩), (9, ⟨true, .v (.bool ((ks.take s).any fun x => !(x.1 == pe)))⟩), (20, ⟨true, .v (vInt s)⟩)]) (fun s => []) (fun s => s ≤ ks.length) (fun s => ks.length - s) 0 ?_ ?_ ?_ ?_
  · exact Nat.zero_le _
  · rfl
  · rfl
  rintro i hi
  simp only [go_sem]
  repeat refine cl_seq ?_
  repeat refine cl_seq ?_
  refine cl_rs hΓ [3,7,8,9,18,19,20,21] [[3, 0]] fun K' hK => ?_
  simp only [go_sem]
  repeat (refine ⟨ob, ?_⟩)
  refine hK _ ?_ ?_ <;> clear K' hK <;> simp only [go_sem]
  repeat refine cl_seq ?_
  refine cl_cond rfl rfl (fun hb => ?_) (fun hb => ?_)
  · have hlt : i < ks.length := by simpa using hb
    have hlt' : (i : Int) < ks.length := by omega
    clear hb
    repeat refine cl_seq ?_
    refine cl_skip ?_
    repeat refine cl_seq ?_
    refine cl_block ?_
    repeat refine cl_seq ?_
    repeat refine cl_seq ?_
    refine cl_rs hΓ [3,7,8,9,11,18,19,20] [[3, 0],[11, 0]] fun K' hK => ?_
    simp only [go_sem, map_getD hlt, Int.toNat_natCast, Int.natCast_nonneg, hlt', encK, te132, tz85]
    repeat (refine ⟨ob, ?_⟩)
    refine hK _ ?_ ?_ <;> clear K' hK <;> simp only [go_sem, map_getD hlt, Int.toNat_natCast, Int.natCast_nonneg, hlt', encK, te132, tz85]
    repeat refine cl_seq ?_
    refine cl_rs hΓ [3,7,8,9,11,18,19,20] [[3, 0],[11, 0]] fun K' hK => ?_
    simp only [go_sem, pick_or]
    repeat (refine ⟨ob, ?_⟩)
    refine hK _ ?_ ?_ <;> clear K' hK <;> simp only [go_sem, pick_or]
    repeat refine cl_seq ?_
    refine cl_r hΓ fun K' hK => ?_
    simp only [go_sem, pick_or]
    repeat (refine ⟨ob, ?_⟩)
    refine hK _ ?_
    clear K' hK
    simp only [go_sem]
    refine cl_keep [3,7,8,9,18,19,20] [[3, 0]] ?_ ?_
    · simp only [go_sem]
    simp only [go_sem]
    repeat refine cl_seq ?_
    refine cl_r hΓ fun K' hK => ?_
    simp only [go_sem]
    repeat (refine ⟨ob, ?_⟩)
    refine hK _ ?_
    clear K' hK
    simp only [go_sem]
    refine ⟨i + 1, hlt, (show ks.length - (i + 1) < ks.length - i by omega), ?_⟩
    rw [any_take_next hlt, any_take_next hlt]
    refine weak_eq [3,7,8,9,18,19,20] [[3, 0]] ?_ ?_
    · simp only [go_sem, wrap_succ hlt hl, Int.natCast_add, Int.natCast_one, bne]
    · simp only [go_sem, wrap_succ hlt hl, Int.natCast_add, Int.natCast_one, bne]
  · have hge : i = ks.length := by
      have : ¬ (i : Int) < ks.length := by simpa using hb
      omega
    subst hge
    clear hb
    repeat refine cl_seq ?_
    refine cl_exit ?_
    simp only [go_sem]
    refine cl_keep [7,8,9] [] ?_ ?_
    · simp only [go_sem]
    simp only [go_sem]
    rw [List.take_length]
    repeat refine cl_seq ?_
    refine cl_rs hΓ [4,5] [] fun K' hK => ?_
    simp only [go_sem, sBB_app]
    repeat (refine ⟨ob, ?_⟩)
    refine hK _ ?_ ?_ <;> clear K' hK <;> simp only [go_sem, sBB_app]
    refine cl_ret ?_
    simp only [go_sem]
set_option maxHeartbeats 8000000 in
theorem s47 : PSound Tryz.prog 47 (pLA (fun l a => .tup [vInt (ansR (fun s => s.n == a.pe) l a.lo a.pe a.da a.kn), vInt (lockE l a.lo a.da a.kn [a.pe])]) true) := by
  refine psoundB (rs := [.tmp 4, .tmp 5]) Tryz.func47 Tryz.ntmps47 (by rfl) (by kernel_rfl) (by decide) (by rintro _ xs ⟨l, a, rfl⟩; rw [pLA_fn]; rfl) ⟨_, rfl, ?_⟩
  rintro xs ⟨l, ⟨lo, pe, da, kn⟩, rfl⟩ hw
  refine ⟨Nat.le_of_ble_eq_true rfl, ?_⟩
  rw [pLA_fn]
  simp only [encA]
  have hΓ := K58_sound
  have hP := mixedK
  have he := keysOfV_R l ⟨lo, pe, da, kn⟩ true
  simp only [if_true] at he
  rw [ans_ref (p := fun s => s.n == pe) (g := fun x => x.2 == pe) fun _ => rfl]
  have hln := keysR_len l lo da kn [pe]
  generalize keysR l lo da kn [pe] = ks at he hln
  have hl : ks.length ≤ maxLen := by unfold maxLen; omega
  repeat refine cl_seq ?_
  refine cl_rs hΓ [0,3] [[3, 0]] fun K' hK => ?_
  simp only [go_sem]
  repeat (refine ⟨ob, ?_⟩)
  refine hK _ ?_ ?_ <;> clear K' hK <;> simp only [go_sem]
  repeat refine cl_seq ?_
  refine cl_rs hΓ [3,6,7] [[3, 0]] fun K' hK => ?_
  simp only [go_sem, sLAB_app, he]
  repeat (refine ⟨ob, ?_⟩)
  refine hK _ ?_ ?_ <;> clear K' hK <;> simp only [go_sem, sLAB_app, he]
  repeat refine cl_seq ?_
  refine cl_rs hΓ [3,6,7,8] [[3, 0]] fun K' hK => ?_
  simp only [go_sem]
  repeat (refine ⟨ob, ?_⟩)
  refine hK _ ?_ ?_ <;> clear K' hK <;> simp only [go_sem]
  repeat refine cl_seq ?_
  refine cl_rs hΓ [3,6,7,8,9] [[3, 0]] fun K' hK => ?_
  simp only [go_sem]
  repeat (refine ⟨ob, ?_⟩)
  refine hK _ ?_ ?_ <;> clear K' hK <;> simp only [go_sem]
  repeat refine cl_seq ?_
  refine cl_rs hΓ [3,7,8,9,18,19,20] [[3, 0]] fun K' hK => ?_
  simp only [go_sem]
  repeat (refine ⟨ob, ?_⟩)
  refine hK _ ?_ ?_ <;> clear K' hK <;> simp only [go_sem]
  repeat refine cl_seq ?_
  refine cl_block ?_
  repeat refine cl_seq ?_
  refine cl_loop' (fun s : Nat => [(8, ⟨true, .v (.bool ((ks.take s).any fun x => x.2 == pe))⟩), (9, ⟨true, .v (.bool ((ks.take s).any fun x => !(x.2 == pe)))⟩), (20, ⟨true, .v (vInt s)⟩)]) (fun s => []) (fun s => s ≤ ks.length) (fun s => ks.length - s) 0 ?_ ?_ ?_ ?_
  · exact Nat.zero_le _
  · rfl
  · rfl
  rintro i hi
  simp only [go_sem]
  repeat refine cl_seq ?_
  repeat refine cl_seq ?_
  refine cl_rs hΓ [3,7,8,9,18,19,20,21] [[3, 0]] fun K' hK => ?_
  simp only [go_sem]
  repeat (refine ⟨ob, ?_⟩)
  refine hK _ ?_ ?_ <;> clear K' hK <;> simp only [go_sem]
  repeat refine cl_seq ?_
  refine cl_cond rfl rfl (fun hb => ?_) (fun hb => ?_)
  · have hlt : i < ks.length := by simpa using hb
    have hlt' : (i : Int) < ks.length := by omega
    clear hb
    repeat refine cl_seq ?_
    refine cl_skip ?_
    repeat refine cl_seq ?_
    refine cl_block ?_
    repeat refine cl_seq ?_
    repeat refine cl_seq ?_
    refine cl_rs hΓ [3,7,8,9,11,18,19,20] [[3, 0],[11, 0]] fun K' hK => ?_
    simp only [go_sem, map_getD hlt, Int.toNat_natCast, Int.natCast_nonneg, hlt', encK, te132, tz85]
    repeat (refine ⟨ob, ?_⟩)
    refine hK _ ?_ ?_ <;> clear K' hK <;> simp only [go_sem, map_getD hlt, Int.toNat_natCast, Int.natCast_nonneg, hlt', encK, te132, tz85]
    repeat refine cl_seq ?_
    refine cl_rs hΓ [3,7,8,9,11,18,19,20] [[3, 0],[11, 0]] fun K' hK => ?_
    simp only [go_sem, pick_or]
    repeat (refine ⟨ob, ?_⟩)
    refine hK _ ?_ ?_ <;> clear K' hK <;> simp only [go_sem, pick_or]
    repeat refine cl_seq ?_
    refine cl_r hΓ fun K' hK => ?_
    simp only [go_sem, pick_or]
    repeat (refine ⟨ob, ?_⟩)
    refine hK _ ?_
    clear K' hK
    simp only [go_sem]
    refine cl_keep [3,7,8,9,18,19,20] [[3, 0]] ?_ ?_
    · simp only [go_sem]
    simp only [go_sem]
    repeat refine cl_seq ?_
    refine cl_r hΓ fun K' hK => ?_
    simp only [go_sem]
    repeat (refine ⟨ob, ?_⟩)
    refine hK _ ?_
    clear K' hK
    simp only [go_sem]
    refine ⟨i + 1, hlt, (show ks.length - (i + 1) < ks.length - i by omega), ?_⟩
    rw [any_take_next hlt, any_take_next hlt]
    refine weak_eq [3,7,8,9,18,19,20] [[3, 0]] ?_ ?_
    · simp only [go_sem, wrap_succ hlt hl, Int.natCast_add, Int.natCast_one, bne]
    · simp only [go_sem, wrap_succ hlt hl, Int.natCast_add, Int.natCast_one, bne]
  · have hge : i = ks.length := by
      have : ¬ (i : Int) < ks.length := by simpa using hb
      omega
    subst hge
    clear hb
    repeat refine cl_seq ?_
    refine cl_exit ?_
    simp only [go_sem]
    refine cl_keep [7,8,9] [] ?_ ?_
    · simp only [go_sem]
    simp only [go_sem]
    rw [List.take_length]
    repeat refine cl_seq ?_
    refine cl_rs hΓ [4,5] [] fun K' hK => ?_
    simp only [go_sem, sBB_app]
    repeat (refine ⟨ob, ?_⟩)
    refine hK _ ?_ ?_ <;> clear K' hK <;> simp only [go_sem, sBB_app]
    refine cl_ret ?_
    simp only [go_sem]
end Go.Eng
namespace Go.Eng
open Go Go.Proofs
set_option maxRecDepth 10000
/-! the contracts of who and answer -/
def fW (g : Nat) (s : Sta) : Int := if g = 92 then s.h else s.n
def pWho : PSpec := ⟨fun xs => ∃ (t : List Deed) (day : Int) (g : Nat), xs = [.sl (t.map encD), vInt day, .clo (.func g) [] []] ∧ (g = 92 ∨ g = 93) ∧ t.length ≤ 60 ∧ ∀ d ∈ t, kindOk d, fun xs => match xs with | [.sl t, .int _ day, .clo (.func g) _ _] => .sl ((whoL (fW g) (t.map decD) day).map vInt) | _ => .bool false, false⟩
theorem pWho_fn (t : List Deed) (day : Int) (g : Nat) : pWho.fn [.sl (t.map encD), vInt day, .clo (.func g) [] []] = .sl ((whoL (fW g) t day).map vInt) := by
  simp only [pWho, decD_map]
noncomputable def sWho : Spec := pWho.toSpec
theorem sWho_app {obj : Name → Option O} {tm : Name} {t : List Deed} {day : Int} {g : Nat} (hg : g = 92 ∨ g = 93) (hl : t.length ≤ 60) (hk : ∀ d ∈ t, kindOk d) :
    sWho.app obj tm [.v (.sl (t.map encD)), .v (vInt day), .v (.clo (.func g) [] [])] = ⟨True, .v (.sl ((whoL (fW g) t day).map vInt)), obj⟩ := by
  simp only [sWho, PSpec.toSpec, frzL, frz, pWho_fn, ite_self]
  congr 1
  simp only [eq_iff_iff, iff_true]
  exact ⟨⟨trivial, trivial, trivial, trivial⟩, t, day, g, rfl, hg, hl, hk⟩
def pG (g : Nat) (caps : List V) : Sta → Bool := match g, caps with
  | 106, [.ptr [.int _ k]] => fun s => s.h == k
  | 108, [.ptr [.int _ k]] => fun s => s.n == k
  | _, _ => fun s => s.o
def famP (g : Nat) (caps : List V) : Prop := (g = 106 ∧ ∃ k, caps = [.ptr [vInt k]]) ∨ (g = 108 ∧ ∃ k, caps = [.ptr [vInt k]]) ∨ (g = 111 ∧ caps = [])
def pAns : PSpec := ⟨fun xs => ∃ (t : List Deed) (day : Int) (g : Nat) (caps : List V), xs = [.sl (t.map encD), vInt day, .clo (.func g) [] caps] ∧ famP g caps ∧ t.length ≤ 60 ∧ ∀ d ∈ t, kindOk d, fun xs => match xs with | [.sl t, .int _ day, .clo (.func g) _ caps] => vInt (ansP (pG g caps) (t.map decD) day) | _ => .bool false, true⟩
theorem pAns_fn (t : List Deed) (day : Int) (g : Nat) (caps : List V) : pAns.fn [.sl (t.map encD), vInt day, .clo (.func g) [] caps] = vInt (ansP (pG g caps) t day) := by
  simp only [pAns, decD_map]
noncomputable def sAns : Spec := pAns.toSpec
theorem sAns_in {obj : Name → Option O} {tm : Name} {t : List Deed} {day : Int} (hl : t.length ≤ 60) (hk : ∀ d ∈ t, kindOk d) :
    sAns.app obj tm [.v (.sl (t.map encD)), .v (vInt day), .v (.clo (.func 111) [] [])] = ⟨True, .v (vInt (ansP (fun s => s.o) t day)), obj⟩ := by
  simp only [sAns, PSpec.toSpec, frzL, frz, pAns_fn, ite_self]
  show R.mk _ _ _ = _
  congr 1
  simp only [eq_iff_iff, iff_true]
  exact ⟨⟨trivial, trivial, trivial, trivial⟩, t, day, 111, [], rfl, .inr (.inr ⟨rfl, rfl⟩), hl, hk⟩
theorem sAns_by {obj : Name → Option O} {tm b : Name} {t : List Deed} {day k : Int} {g : Nat} (hg : g = 106 ∨ g = 108) (ho : obj b = some (.box [.v (vInt k)])) (hl : t.length ≤ 60) (hk : ∀ d ∈ t, kindOk d) :
    sAns.app obj tm [.v (.sl (t.map encD)), .v (vInt day), .clo (.func g) [] [.ref b 0]] = ⟨True, .v (vInt (ansP (if g = 106 then fun s => s.h == k else fun s => s.n == k) t day)), obj⟩ := by
  have e : frzL (frz 6) obj [.v (.sl (t.map encD)), .v (vInt day), .clo (.func g) [] [.ref b 0]] = ⟨True, [.sl (t.map encD), vInt day, .clo (.func g) [] [.ptr [vInt k]]], upd obj b (some (.fbox [vInt k]))⟩ := by
    simp only [frzL, frzC, frzV, frzB1 ho]
    simp
  simp only [sAns, PSpec.toSpec, e, pAns_fn]
  rcases hg with rfl | rfl
  · simp only [pAns, if_true]
    congr 1
    simp only [eq_iff_iff, iff_true]
    exact ⟨trivial, t, day, 106, [.ptr [vInt k]], rfl, .inl ⟨rfl, k, rfl⟩, hl, hk⟩
  · simp only [pAns, if_true]
    congr 1
    simp only [eq_iff_iff, iff_true]
    exact ⟨trivial, t, day, 108, [.ptr [vInt k]], rfl, .inr (.inl ⟨rfl, k, rfl⟩), hl, hk⟩
/-! what is told of an office, and the wardens -/
noncomputable def inE (l : List Deed) (pe day k : Int) : Int := if checkI l = 0 then (if isPersB pe then askE l day k else 16) else checkI l
noncomputable def inR (l : List Deed) (pe day k : Int) : Int := if inE l pe day k = 0 then offI (countL l k) pe day else 0
def warTo (c : List Deed) (day : Int) (s : Nat) : List Int := ((List.range s).filter fun n : Nat => decide (0 < n) && offI c (n : Int) day == 1).map fun n : Nat => (n : Int)
theorem warTo_next (c : List Deed) (day : Int) {s : Nat} (h : 1 ≤ s) : warTo c day (s + 1) = if offI c (s : Int) day = 1 then warTo c day s ++ [(s : Int)] else warTo c day s := by
  unfold warTo
  rw [List.range_succ, List.filter_append, List.map_append]
  have : decide (0 < s) = true := by simp; omega
  simp only [List.filter_cons, List.filter_nil, this, Bool.true_and, beq_iff_eq]
  split <;> simp
theorem warTo_len (c : List Deed) (day : Int) (s : Nat) : (warTo c day s).length ≤ s := by
  unfold warTo
  rw [List.length_map]
  have := List.length_filter_le (fun n : Nat => decide (0 < n) && offI c (n : Int) day == 1) (List.range s)
  simpa using this
noncomputable def warR (l : List Deed) (day k : Int) : List Int := if askE l day k = 0 then warTo (countL l k) day 100 else []
end Go.Eng
