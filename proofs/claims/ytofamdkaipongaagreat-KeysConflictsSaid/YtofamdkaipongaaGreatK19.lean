import Derived.Test.YtofamdkaipongaaGreatK18
/- A part of the proof engine and of the walks (texts KW38 to KW42). -/
set_option linter.all false
set_option linter.unnecessarySimpa false
set_option linter.unusedSimpArgs false
set_option linter.unusedVariables false
set_option linter.constructorNameAsVariable false
namespace Go.Eng
open Go Go.Proofs
set_option maxRecDepth 10000
def sameD (d x : Deed) : Bool := decide (d = x)
def pAddI (f : List Deed → Deed → V) : PSpec := { pAdd f with flat := true }
set_option maxHeartbeats 2000000 in
theorem s87 : PSound Tryz.prog 87 (pAddI fun l d => vInt (firstI (sameD d) l)) := by
  refine psoundB (rs := [.tmp 4]) Tryz.func87 Tryz.ntmps87 (by rfl) (by kernel_rfl) (by decide) (by rintro _ xs ⟨l, d, rfl⟩; rfl) ⟨_, rfl, ?_⟩
  rintro xs ⟨l, d, rfl⟩ hw
  have hl : l.length ≤ maxLen := by have := hw.1.1; simpa using this
  refine ⟨Nat.le_of_ble_eq_true rfl, ?_⟩
  have e : (pAddI fun l d => vInt (firstI (sameD d) l)).fn [.sl (l.map encD), encD d] = vInt (firstI (sameD d) l) := by
    simp only [pAddI, pAdd, decD_map, decD_enc]
  rw [e]
  have hΓ := @no_sound Tryz.prog
  have hP := mixedK
  repeat refine cl_seq ?_
  refine cl_rs hΓ [0,3] [[3, 0]] fun K' hK => ?_
  simp only [go_sem, Nat.reduceLT, Nat.reduceAdd, Nat.reduceEqDiff, Nat.reduceSub, Nat.reduceMul, Nat.reduceBEq, reduceIte, reduceCtorEq]
  repeat (refine ⟨ob, ?_⟩)
  refine hK _ ?_ ?_ <;> clear K' hK <;> simp only [go_sem, Nat.reduceLT, Nat.reduceAdd, Nat.reduceEqDiff, Nat.reduceSub, Nat.reduceMul, Nat.reduceBEq, reduceIte, reduceCtorEq]
  repeat refine cl_seq ?_
  refine cl_rs hΓ [0,3,7,8] [[3, 0]] fun K' hK => ?_
  simp only [go_sem, Nat.reduceLT, Nat.reduceAdd, Nat.reduceEqDiff, Nat.reduceSub, Nat.reduceMul, Nat.reduceBEq, reduceIte, reduceCtorEq]
  repeat (refine ⟨ob, ?_⟩)
  refine hK _ ?_ ?_ <;> clear K' hK <;> simp only [go_sem, Nat.reduceLT, Nat.reduceAdd, Nat.reduceEqDiff, Nat.reduceSub, Nat.reduceMul, Nat.reduceBEq, reduceIte, reduceCtorEq]
  repeat refine cl_seq ?_
  refine cl_block ?_
  repeat refine cl_seq ?_
  refine cl_loop' (fun s : Nat => [(8, ⟨true, .v (vInt s)⟩)]) (fun s => []) (fun s => s ≤ l.length ∧ ∀ j (h : j < l.length), j < s → ¬ d = l[j]) (fun s => l.length - s) 0 ?_ ?_ ?_ ?_
  · exact ⟨Nat.zero_le _, fun j h hj => by omega⟩
  · rfl
  · rfl
  rintro i ⟨hi, hz⟩
  simp only [go_sem, Nat.reduceLT, Nat.reduceAdd, Nat.reduceEqDiff, Nat.reduceSub, Nat.reduceMul, Nat.reduceBEq, reduceIte, reduceCtorEq]
  repeat refine cl_seq ?_
  repeat refine cl_seq ?_
  refine cl_rs hΓ [0,3,7,8,9] [[3, 0]] fun K' hK => ?_
  simp only [go_sem, Nat.reduceLT, Nat.reduceAdd, Nat.reduceEqDiff, Nat.reduceSub, Nat.reduceMul, Nat.reduceBEq, reduceIte, reduceCtorEq]
  repeat (refine ⟨ob, ?_⟩)
  refine hK _ ?_ ?_ <;> clear K' hK <;> simp only [go_sem, Nat.reduceLT, Nat.reduceAdd, Nat.reduceEqDiff, Nat.reduceSub, Nat.reduceMul, Nat.reduceBEq, reduceIte, reduceCtorEq]
  repeat refine cl_seq ?_
  refine cl_cond rfl rfl (fun hb => ?_) (fun hb => ?_)
  · have hlt : i < l.length := by simpa using hb
    have hlt' : (i : Int) < l.length := by omega
    clear hb
    repeat refine cl_seq ?_
    refine cl_skip ?_
    repeat refine cl_seq ?_
    refine cl_block ?_
    repeat refine cl_seq ?_
    repeat refine cl_seq ?_
    refine cl_rs hΓ [0,3,5,7,8] [[3, 0]] fun K' hK => ?_
    simp only [go_sem, Nat.reduceLT, Nat.reduceAdd, Nat.reduceEqDiff, Nat.reduceSub, Nat.reduceMul, Nat.reduceBEq, reduceIte, reduceCtorEq]
    repeat (refine ⟨ob, ?_⟩)
    refine hK _ ?_ ?_ <;> clear K' hK <;> simp only [go_sem, Nat.reduceLT, Nat.reduceAdd, Nat.reduceEqDiff, Nat.reduceSub, Nat.reduceMul, Nat.reduceBEq, reduceIte, reduceCtorEq]
    repeat refine cl_seq ?_
    refine cl_ds hΓ hP [[], [], [], [1, 2], [1, 2, 3], [0, 1, 2, 3, 4]] [0,3,5,7,8,16] [[3, 0]] (by kernel_rfl) fun K' hK => ?_
    simp only [go_sem, Nat.reduceLT, Nat.reduceAdd, Nat.reduceEqDiff, Nat.reduceSub, Nat.reduceMul, Nat.reduceBEq, reduceIte, reduceCtorEq, map_getD hlt, Int.toNat_natCast, Int.natCast_nonneg, hlt']
    repeat (refine ⟨ob, ?_⟩)
    first | refine ⟨by rfl, ?_⟩ | skip
    refine hK _ ?_ ?_ <;> clear K' hK <;> simp only [go_sem, Nat.reduceLT, Nat.reduceAdd, Nat.reduceEqDiff, Nat.reduceSub, Nat.reduceMul, Nat.reduceBEq, reduceIte, reduceCtorEq, map_getD hlt, Int.toNat_natCast, Int.natCast_nonneg, hlt']
    repeat refine cl_seq ?_
    refine cl_cond rfl rfl (fun hb => ?_) (fun hb => ?_)
    · have he : d = l[i] := eqDB_iff.1 hb
      repeat refine cl_seq ?_
      repeat refine cl_seq ?_
      refine cl_rs hΓ [4] [] fun K' hK => ?_
      simp only [go_sem, Nat.reduceLT, Nat.reduceAdd, Nat.reduceEqDiff, Nat.reduceSub, Nat.reduceMul, Nat.reduceBEq, reduceIte, reduceCtorEq]
      repeat (refine ⟨ob, ?_⟩)
      refine hK _ ?_ ?_ <;> clear K' hK <;> simp only [go_sem, Nat.reduceLT, Nat.reduceAdd, Nat.reduceEqDiff, Nat.reduceSub, Nat.reduceMul, Nat.reduceBEq, reduceIte, reduceCtorEq]
      refine cl_ret ?_
      simp only [go_sem, Nat.reduceLT, Nat.reduceAdd, Nat.reduceEqDiff, Nat.reduceSub, Nat.reduceMul, Nat.reduceBEq, reduceIte, reduceCtorEq]
      have hf : l.findIdx (sameD d) = i := by
        rw [List.findIdx_eq hlt]
        exact ⟨by simpa [sameD] using he, fun j hj => by simpa [sameD] using hz j (by omega) hj⟩
      unfold firstI
      rw [hf, if_pos hlt]
    · have hn : ¬ d = l[i] := fun h => by
        have := eqDB_iff.2 h
        rw [this] at hb; cases hb
      clear hb
      repeat refine cl_seq ?_
      refine cl_skip ?_
      refine cl_nil ?_
      simp only [go_sem, Nat.reduceLT, Nat.reduceAdd, Nat.reduceEqDiff, Nat.reduceSub, Nat.reduceMul, Nat.reduceBEq, reduceIte, reduceCtorEq]
      refine cl_keep [0,3,7,8] [[3, 0]] ?_ ?_
      · simp only [go_sem, Nat.reduceLT, Nat.reduceAdd, Nat.reduceEqDiff, Nat.reduceSub, Nat.reduceMul, Nat.reduceBEq, reduceIte, reduceCtorEq]
      simp only [go_sem, Nat.reduceLT, Nat.reduceAdd, Nat.reduceEqDiff, Nat.reduceSub, Nat.reduceMul, Nat.reduceBEq, reduceIte, reduceCtorEq]
      repeat refine cl_seq ?_
      refine cl_r hΓ fun K' hK => ?_
      simp only [go_sem, Nat.reduceLT, Nat.reduceAdd, Nat.reduceEqDiff, Nat.reduceSub, Nat.reduceMul, Nat.reduceBEq, reduceIte, reduceCtorEq]
      repeat (refine ⟨ob, ?_⟩)
      refine hK _ ?_
      clear K' hK
      simp only [go_sem, Nat.reduceLT, Nat.reduceAdd, Nat.reduceEqDiff, Nat.reduceSub, Nat.reduceMul, Nat.reduceBEq, reduceIte, reduceCtorEq]
      refine ⟨i + 1, ⟨hlt, fun j h hj => ?_⟩, (show l.length - (i + 1) < l.length - i by omega), ?_⟩
      · rcases Nat.lt_succ_iff_lt_or_eq.1 hj with h1 | h1
        · exact hz j h h1
        · subst h1; exact hn
      refine weak_eq [0,3,7,8] [[3, 0]] ?_ ?_
      · simp only [go_sem, Nat.reduceLT, Nat.reduceAdd, Nat.reduceEqDiff, Nat.reduceSub, Nat.reduceMul, Nat.reduceBEq, reduceIte, reduceCtorEq, wrap_succ hlt hl, Int.natCast_add, Int.natCast_one]
      · simp only [go_sem, Nat.reduceLT, Nat.reduceAdd, Nat.reduceEqDiff, Nat.reduceSub, Nat.reduceMul, Nat.reduceBEq, reduceIte, reduceCtorEq, wrap_succ hlt hl, Int.natCast_add, Int.natCast_one]
  · have hge : i = l.length := by
      have : ¬ (i : Int) < l.length := by simpa using hb
      omega
    subst hge
    clear hb
    repeat refine cl_seq ?_
    refine cl_exit ?_
    simp only [go_sem, Nat.reduceLT, Nat.reduceAdd, Nat.reduceEqDiff, Nat.reduceSub, Nat.reduceMul, Nat.reduceBEq, reduceIte, reduceCtorEq]
    refine cl_keep [] [] ?_ ?_
    · simp only [go_sem, Nat.reduceLT, Nat.reduceAdd, Nat.reduceEqDiff, Nat.reduceSub, Nat.reduceMul, Nat.reduceBEq, reduceIte, reduceCtorEq]
    simp only [go_sem, Nat.reduceLT, Nat.reduceAdd, Nat.reduceEqDiff, Nat.reduceSub, Nat.reduceMul, Nat.reduceBEq, reduceIte, reduceCtorEq]
    repeat refine cl_seq ?_
    refine cl_rs hΓ [4] [] fun K' hK => ?_
    simp only [go_sem, Nat.reduceLT, Nat.reduceAdd, Nat.reduceEqDiff, Nat.reduceSub, Nat.reduceMul, Nat.reduceBEq, reduceIte, reduceCtorEq]
    repeat (refine ⟨ob, ?_⟩)
    refine hK _ ?_ ?_ <;> clear K' hK <;> simp only [go_sem, Nat.reduceLT, Nat.reduceAdd, Nat.reduceEqDiff, Nat.reduceSub, Nat.reduceMul, Nat.reduceBEq, reduceIte, reduceCtorEq]
    refine cl_ret ?_
    simp only [go_sem, Nat.reduceLT, Nat.reduceAdd, Nat.reduceEqDiff, Nat.reduceSub, Nat.reduceMul, Nat.reduceBEq, reduceIte, reduceCtorEq]
    have hf : ¬ l.findIdx (sameD d) < l.length := by
      rw [List.findIdx_lt_length]
      rintro ⟨x, hx, hpx⟩
      obtain ⟨j, hj, rfl⟩ := List.getElem_of_mem hx
      exact hz j hj hj (by simpa [sameD] using hpx)
    unfold firstI
    rw [if_neg hf]
/-! the earliest and the latest day -/
def loM (l : List Deed) : Int := l.foldl (fun m d => if d.dl > m then d.dl else m) 0
def hiM (l : List Deed) : Int := l.foldl (fun m d => if d.dh < m then d.dh else m) 100000
theorem loM_next {l : List Deed} {i : Nat} (h : i < l.length) : loM (l.take (i + 1)) = if l[i].dl > loM (l.take i) then l[i].dl else loM (l.take i) := by
  unfold loM
  rw [List.take_add_one, List.getElem?_eq_getElem h, List.foldl_append]
  rfl
theorem hiM_next {l : List Deed} {i : Nat} (h : i < l.length) : hiM (l.take (i + 1)) = if l[i].dh < hiM (l.take i) then l[i].dh else hiM (l.take i) := by
  unfold hiM
  rw [List.take_add_one, List.getElem?_eq_getElem h, List.foldl_append]
  rfl
def pLN (f : List Deed → Nat → V) : PSpec := ⟨fun xs => ∃ (l : List Deed) (n : Nat), xs = [.sl (l.map encD), vInt n] ∧ n < l.length, fun xs => match xs with | [.sl l, .int _ n] => f (l.map decD) n.toNat | _ => .bool false, true⟩
theorem pLN_fn (f : List Deed → Nat → V) (l : List Deed) (n : Nat) : (pLN f).fn [.sl (l.map encD), vInt n] = f l n := by
  simp only [pLN, decD_map, Int.toNat_natCast]
set_option maxHeartbeats 2000000 in
theorem s88 : PSound Tryz.prog 88 (pLN fun l n => vInt (loM (l.take (n + 1)))) := by
  refine psoundB (rs := [.tmp 4]) Tryz.func88 Tryz.ntmps88 (by rfl) (by kernel_rfl) (by decide) (by rintro _ xs ⟨l, n, rfl, _⟩; rfl) ⟨_, rfl, ?_⟩
  rintro xs ⟨l, n, rfl, hn⟩ hw
  have hl : l.length ≤ maxLen := by have := hw.1.1; simpa using this
  refine ⟨Nat.le_of_ble_eq_true rfl, ?_⟩
  rw [pLN_fn]
  have hΓ := @no_sound Tryz.prog
  have hn1 : ((n + 1 : Nat) : Int) ≤ l.length := by omega
  have e2 : (List.map encD l).take (n + 1) = (l.take (n + 1)).map encD := List.map_take.symm
  obtain ⟨r, hr, hrm⟩ : ∃ r, r = l.take (n + 1) ∧ r.length ≤ maxLen := ⟨_, rfl, by simp; omega⟩
  rw [← hr] at e2 ⊢
  repeat refine cl_seq ?_
  refine cl_rs hΓ [0,1] [] fun K' hK => ?_
  simp only [go_sem, Nat.reduceLT, Nat.reduceAdd, Nat.reduceEqDiff, Nat.reduceSub, Nat.reduceMul, Nat.reduceBEq, reduceIte, reduceCtorEq]
  repeat (refine ⟨ob, ?_⟩)
  refine hK _ ?_ ?_ <;> clear K' hK <;> simp only [go_sem, Nat.reduceLT, Nat.reduceAdd, Nat.reduceEqDiff, Nat.reduceSub, Nat.reduceMul, Nat.reduceBEq, reduceIte, reduceCtorEq]
  repeat refine cl_seq ?_
  refine cl_rs hΓ [0,1,5] [] fun K' hK => ?_
  simp only [go_sem, Nat.reduceLT, Nat.reduceAdd, Nat.reduceEqDiff, Nat.reduceSub, Nat.reduceMul, Nat.reduceBEq, reduceIte, reduceCtorEq]
  repeat (refine ⟨ob, ?_⟩)
  refine hK _ ?_ ?_ <;> clear K' hK <;> simp only [go_sem, Nat.reduceLT, Nat.reduceAdd, Nat.reduceEqDiff, Nat.reduceSub, Nat.reduceMul, Nat.reduceBEq, reduceIte, reduceCtorEq]
  repeat refine cl_seq ?_
  refine cl_rs hΓ [5,11,12,13] [] fun K' hK => ?_
  simp only [go_sem, Nat.reduceLT, Nat.reduceAdd, Nat.reduceEqDiff, Nat.reduceSub, Nat.reduceMul, Nat.reduceBEq, reduceIte, reduceCtorEq, wrap_succ hn hl, Int.toNat_natCast, Int.natCast_nonneg, hn1, e2, te116]
  repeat' apply And.intro
  all_goals first | rfl | omega | exact Int.le_refl _ | exact Bool.or_not_self _ | exact Bool.not_or_self _ | exact enc_okI _ | exact enc_ok _ | exact fun x hx => (enc_okI _ x hx).1 | exact fun x hx => (enc_ok _ x hx).1 | (simp only [List.length_take, List.length_append, List.length_map, List.length_drop, List.length_cons, List.length_nil]; done) | (simp only [List.length_take, List.length_append, List.length_map, List.length_drop, List.length_cons, List.length_nil]; omega) | (simp only [List.length_take, List.length_append, List.length_map, List.length_drop, List.length_cons, List.length_nil, maxLen]; omega) | (exact fun _ => by decide) | (exact fun h => ⟨h, by decide⟩) | (simp only [decide_eq_true_eq]; omega) | skip
  refine hK _ ?_ ?_ <;> clear K' hK <;> simp only [go_sem, Nat.reduceLT, Nat.reduceAdd, Nat.reduceEqDiff, Nat.reduceSub, Nat.reduceMul, Nat.reduceBEq, reduceIte, reduceCtorEq]
  repeat refine cl_seq ?_
  refine cl_block ?_
  repeat refine cl_seq ?_
  refine cl_loop' (fun s : Nat => [(5, ⟨true, .v (vInt (loM (r.take s)))⟩), (13, ⟨true, .v (vInt s)⟩)]) (fun s => []) (fun s => s ≤ r.length) (fun s => r.length - s) 0 ?_ ?_ ?_ ?_
  · exact Nat.zero_le _
  · rfl
  · rfl
  rintro i hi
  simp only [go_sem, Nat.reduceLT, Nat.reduceAdd, Nat.reduceEqDiff, Nat.reduceSub, Nat.reduceMul, Nat.reduceBEq, reduceIte, reduceCtorEq]
  repeat refine cl_seq ?_
  repeat refine cl_seq ?_
  refine cl_rs hΓ [5,11,12,13,14] [] fun K' hK => ?_
  simp only [go_sem, Nat.reduceLT, Nat.reduceAdd, Nat.reduceEqDiff, Nat.reduceSub, Nat.reduceMul, Nat.reduceBEq, reduceIte, reduceCtorEq]
  repeat (refine ⟨ob, ?_⟩)
  refine hK _ ?_ ?_ <;> clear K' hK <;> simp only [go_sem, Nat.reduceLT, Nat.reduceAdd, Nat.reduceEqDiff, Nat.reduceSub, Nat.reduceMul, Nat.reduceBEq, reduceIte, reduceCtorEq]
  repeat refine cl_seq ?_
  refine cl_cond rfl rfl (fun hb => ?_) (fun hb => ?_)
  · have hlt : i < r.length := by simpa using hb
    have hlt' : (i : Int) < r.length := by omega
    clear hb
    repeat refine cl_seq ?_
    refine cl_skip ?_
    repeat refine cl_seq ?_
    refine cl_block ?_
    repeat refine cl_seq ?_
    repeat refine cl_seq ?_
    refine cl_rs hΓ [5,7,11,12,13] [[7, 0]] fun K' hK => ?_
    simp only [go_sem, Nat.reduceLT, Nat.reduceAdd, Nat.reduceEqDiff, Nat.reduceSub, Nat.reduceMul, Nat.reduceBEq, reduceIte, reduceCtorEq, map_getD hlt, Int.toNat_natCast, Int.natCast_nonneg, hlt']
    repeat (refine ⟨ob, ?_⟩)
    refine hK _ ?_ ?_ <;> clear K' hK <;> simp only [go_sem, Nat.reduceLT, Nat.reduceAdd, Nat.reduceEqDiff, Nat.reduceSub, Nat.reduceMul, Nat.reduceBEq, reduceIte, reduceCtorEq, map_getD hlt, Int.toNat_natCast, Int.natCast_nonneg, hlt']
    repeat refine cl_seq ?_
    refine cl_r hΓ fun K' hK => ?_
    simp only [go_sem, Nat.reduceLT, Nat.reduceAdd, Nat.reduceEqDiff, Nat.reduceSub, Nat.reduceMul, Nat.reduceBEq, reduceIte, reduceCtorEq]
    repeat (refine ⟨ob, ?_⟩)
    refine hK _ ?_
    clear K' hK
    simp only [go_sem, Nat.reduceLT, Nat.reduceAdd, Nat.reduceEqDiff, Nat.reduceSub, Nat.reduceMul, Nat.reduceBEq, reduceIte, reduceCtorEq]
    refine cl_keep [5,11,12,13] [] ?_ ?_
    · simp only [go_sem, Nat.reduceLT, Nat.reduceAdd, Nat.reduceEqDiff, Nat.reduceSub, Nat.reduceMul, Nat.reduceBEq, reduceIte, reduceCtorEq]
    simp only [go_sem, Nat.reduceLT, Nat.reduceAdd, Nat.reduceEqDiff, Nat.reduceSub, Nat.reduceMul, Nat.reduceBEq, reduceIte, reduceCtorEq]
    repeat refine cl_seq ?_
    refine cl_r hΓ fun K' hK => ?_
    simp only [go_sem, Nat.reduceLT, Nat.reduceAdd, Nat.reduceEqDiff, Nat.reduceSub, Nat.reduceMul, Nat.reduceBEq, reduceIte, reduceCtorEq]
    repeat (refine ⟨ob, ?_⟩)
    refine hK _ ?_
    clear K' hK
    simp only [go_sem, Nat.reduceLT, Nat.reduceAdd, Nat.reduceEqDiff, Nat.reduceSub, Nat.reduceMul, Nat.reduceBEq, reduceIte, reduceCtorEq]
    refine ⟨i + 1, hlt, (show r.length - (i + 1) < r.length - i by omega), ?_⟩
    rw [loM_next hlt]
    refine weak_eq [5,11,12,13] [] ?_ ?_
    · simp only [go_sem, Nat.reduceLT, Nat.reduceAdd, Nat.reduceEqDiff, Nat.reduceSub, Nat.reduceMul, Nat.reduceBEq, reduceIte, reduceCtorEq, wrap_succ hlt hrm, Int.natCast_add, Int.natCast_one]
    · simp only [go_sem, Nat.reduceLT, Nat.reduceAdd, Nat.reduceEqDiff, Nat.reduceSub, Nat.reduceMul, Nat.reduceBEq, reduceIte, reduceCtorEq, wrap_succ hlt hrm, Int.natCast_add, Int.natCast_one]
  · have hge : i = r.length := by
      have : ¬ (i : Int) < r.length := by simpa using hb
      omega
    subst hge
    clear hb
    repeat refine cl_seq ?_
    refine cl_exit ?_
    simp only [go_sem, Nat.reduceLT, Nat.reduceAdd, Nat.reduceEqDiff, Nat.reduceSub, Nat.reduceMul, Nat.reduceBEq, reduceIte, reduceCtorEq]
    refine cl_keep [5] [] ?_ ?_
    · simp only [go_sem, Nat.reduceLT, Nat.reduceAdd, Nat.reduceEqDiff, Nat.reduceSub, Nat.reduceMul, Nat.reduceBEq, reduceIte, reduceCtorEq]
    simp only [go_sem, Nat.reduceLT, Nat.reduceAdd, Nat.reduceEqDiff, Nat.reduceSub, Nat.reduceMul, Nat.reduceBEq, reduceIte, reduceCtorEq]
    rw [List.take_length]
    repeat refine cl_seq ?_
    refine cl_rs hΓ [4] [] fun K' hK => ?_
    simp only [go_sem, Nat.reduceLT, Nat.reduceAdd, Nat.reduceEqDiff, Nat.reduceSub, Nat.reduceMul, Nat.reduceBEq, reduceIte, reduceCtorEq]
    repeat (refine ⟨ob, ?_⟩)
    refine hK _ ?_ ?_ <;> clear K' hK <;> simp only [go_sem, Nat.reduceLT, Nat.reduceAdd, Nat.reduceEqDiff, Nat.reduceSub, Nat.reduceMul, Nat.reduceBEq, reduceIte, reduceCtorEq]
    refine cl_ret ?_
    simp only [go_sem, Nat.reduceLT, Nat.reduceAdd, Nat.reduceEqDiff, Nat.reduceSub, Nat.reduceMul, Nat.reduceBEq, reduceIte, reduceCtorEq]
set_option maxHeartbeats 2000000 in
theorem s89 : PSound Tryz.prog 89 (pLN fun l n => vInt (hiM (l.drop n))) := by
  refine psoundB (rs := [.tmp 4]) Tryz.func89 Tryz.ntmps89 (by rfl) (by kernel_rfl) (by decide) (by rintro _ xs ⟨l, n, rfl, _⟩; rfl) ⟨_, rfl, ?_⟩
  rintro xs ⟨l, n, rfl, hn⟩ hw
  have hl : l.length ≤ maxLen := by have := hw.1.1; simpa using this
  refine ⟨Nat.le_of_ble_eq_true rfl, ?_⟩
  rw [pLN_fn]
  have hΓ := @no_sound Tryz.prog
  have hn1 : (n : Int) ≤ l.length := by omega
  have e2 : (List.map encD l).drop n = (l.drop n).map encD := List.map_drop.symm
  have e3 : List.take (l.length - n) ((l.drop n).map encD) = (l.drop n).map encD := List.take_of_length_le (by simp)
  obtain ⟨r, hr, hrm⟩ : ∃ r, r = l.drop n ∧ r.length ≤ maxLen := ⟨_, rfl, by simp; omega⟩
  rw [← hr] at e2 e3 ⊢
  repeat refine cl_seq ?_
  refine cl_rs hΓ [0,1] [] fun K' hK => ?_
  simp only [go_sem, Nat.reduceLT, Nat.reduceAdd, Nat.reduceEqDiff, Nat.reduceSub, Nat.reduceMul, Nat.reduceBEq, reduceIte, reduceCtorEq]
  repeat (refine ⟨ob, ?_⟩)
  refine hK _ ?_ ?_ <;> clear K' hK <;> simp only [go_sem, Nat.reduceLT, Nat.reduceAdd, Nat.reduceEqDiff, Nat.reduceSub, Nat.reduceMul, Nat.reduceBEq, reduceIte, reduceCtorEq]
  repeat refine cl_seq ?_
  refine cl_rs hΓ [0,1,5] [] fun K' hK => ?_
  simp only [go_sem, Nat.reduceLT, Nat.reduceAdd, Nat.reduceEqDiff, Nat.reduceSub, Nat.reduceMul, Nat.reduceBEq, reduceIte, reduceCtorEq]
  repeat (refine ⟨ob, ?_⟩)
  refine hK _ ?_ ?_ <;> clear K' hK <;> simp only [go_sem, Nat.reduceLT, Nat.reduceAdd, Nat.reduceEqDiff, Nat.reduceSub, Nat.reduceMul, Nat.reduceBEq, reduceIte, reduceCtorEq]
  repeat refine cl_seq ?_
  refine cl_rs hΓ [5,10,11,12] [] fun K' hK => ?_
  simp only [go_sem, Nat.reduceLT, Nat.reduceAdd, Nat.reduceEqDiff, Nat.reduceSub, Nat.reduceMul, Nat.reduceBEq, reduceIte, reduceCtorEq, Int.toNat_natCast, Int.natCast_nonneg, hn1, e2, e3, te116]
  repeat' apply And.intro
  all_goals first | rfl | omega | exact Int.le_refl _ | exact Bool.or_not_self _ | exact Bool.not_or_self _ | exact enc_okI _ | exact enc_ok _ | exact fun x hx => (enc_okI _ x hx).1 | exact fun x hx => (enc_ok _ x hx).1 | (simp only [List.length_take, List.length_append, List.length_map, List.length_drop, List.length_cons, List.length_nil]; done) | (simp only [List.length_take, List.length_append, List.length_map, List.length_drop, List.length_cons, List.length_nil]; omega) | (simp only [List.length_take, List.length_append, List.length_map, List.length_drop, List.length_cons, List.length_nil, maxLen]; omega) | (exact fun _ => by decide) | (exact fun h => ⟨h, by decide⟩) | (simp only [decide_eq_true_eq]; omega) | skip
  refine hK _ ?_ ?_ <;> clear K' hK <;> simp only [go_sem, Nat.reduceLT, Nat.reduceAdd, Nat.reduceEqDiff, Nat.reduceSub, Nat.reduceMul, Nat.reduceBEq, reduceIte, reduceCtorEq]
  repeat refine cl_seq ?_
  refine cl_block ?_
  repeat refine cl_seq ?_
  refine cl_loop' (fun s : Nat => [(5, ⟨true, .v (vInt (hiM (r.take s)))⟩), (12, ⟨true, .v (vInt s)⟩)]) (fun s => []) (fun s => s ≤ r.length) (fun s => r.length - s) 0 ?_ ?_ ?_ ?_
  · exact Nat.zero_le _
  · rfl
  · rfl
  rintro i hi
  simp only [go_sem, Nat.reduceLT, Nat.reduceAdd, Nat.reduceEqDiff, Nat.reduceSub, Nat.reduceMul, Nat.reduceBEq, reduceIte, reduceCtorEq]
  repeat refine cl_seq ?_
  repeat refine cl_seq ?_
  refine cl_rs hΓ [5,10,11,12,13] [] fun K' hK => ?_
  simp only [go_sem, Nat.reduceLT, Nat.reduceAdd, Nat.reduceEqDiff, Nat.reduceSub, Nat.reduceMul, Nat.reduceBEq, reduceIte, reduceCtorEq]
  repeat (refine ⟨ob, ?_⟩)
  refine hK _ ?_ ?_ <;> clear K' hK <;> simp only [go_sem, Nat.reduceLT, Nat.reduceAdd, Nat.reduceEqDiff, Nat.reduceSub, Nat.reduceMul, Nat.reduceBEq, reduceIte, reduceCtorEq]
  repeat refine cl_seq ?_
  refine cl_cond rfl rfl (fun hb => ?_) (fun hb => ?_)
  · have hlt : i < r.length := by simpa using hb
    have hlt' : (i : Int) < r.length := by omega
    clear hb
    repeat refine cl_seq ?_
    refine cl_skip ?_
    repeat refine cl_seq ?_
    refine cl_block ?_
    repeat refine cl_seq ?_
    repeat refine cl_seq ?_
    refine cl_rs hΓ [5,7,10,11,12] [[7, 0]] fun K' hK => ?_
    simp only [go_sem, Nat.reduceLT, Nat.reduceAdd, Nat.reduceEqDiff, Nat.reduceSub, Nat.reduceMul, Nat.reduceBEq, reduceIte, reduceCtorEq, map_getD hlt, Int.toNat_natCast, Int.natCast_nonneg, hlt']
    repeat (refine ⟨ob, ?_⟩)
    refine hK _ ?_ ?_ <;> clear K' hK <;> simp only [go_sem, Nat.reduceLT, Nat.reduceAdd, Nat.reduceEqDiff, Nat.reduceSub, Nat.reduceMul, Nat.reduceBEq, reduceIte, reduceCtorEq, map_getD hlt, Int.toNat_natCast, Int.natCast_nonneg, hlt']
    repeat refine cl_seq ?_
    refine cl_r hΓ fun K' hK => ?_
    simp only [go_sem, Nat.reduceLT, Nat.reduceAdd, Nat.reduceEqDiff, Nat.reduceSub, Nat.reduceMul, Nat.reduceBEq, reduceIte, reduceCtorEq]
    repeat (refine ⟨ob, ?_⟩)
    refine hK _ ?_
    clear K' hK
    simp only [go_sem, Nat.reduceLT, Nat.reduceAdd, Nat.reduceEqDiff, Nat.reduceSub, Nat.reduceMul, Nat.reduceBEq, reduceIte, reduceCtorEq]
    refine cl_keep [5,10,11,12] [] ?_ ?_
    · simp only [go_sem, Nat.reduceLT, Nat.reduceAdd, Nat.reduceEqDiff, Nat.reduceSub, Nat.reduceMul, Nat.reduceBEq, reduceIte, reduceCtorEq]
    simp only [go_sem, Nat.reduceLT, Nat.reduceAdd, Nat.reduceEqDiff, Nat.reduceSub, Nat.reduceMul, Nat.reduceBEq, reduceIte, reduceCtorEq]
    repeat refine cl_seq ?_
    refine cl_r hΓ fun K' hK => ?_
    simp only [go_sem, Nat.reduceLT, Nat.reduceAdd, Nat.reduceEqDiff, Nat.reduceSub, Nat.reduceMul, Nat.reduceBEq, reduceIte, reduceCtorEq]
    repeat (refine ⟨ob, ?_⟩)
    refine hK _ ?_
    clear K' hK
    simp only [go_sem, Nat.reduceLT, Nat.reduceAdd, Nat.reduceEqDiff, Nat.reduceSub, Nat.reduceMul, Nat.reduceBEq, reduceIte, reduceCtorEq]
    refine ⟨i + 1, hlt, (show r.length - (i + 1) < r.length - i by omega), ?_⟩
    rw [hiM_next hlt]
    refine weak_eq [5,10,11,12] [] ?_ ?_
    · simp only [go_sem, Nat.reduceLT, Nat.reduceAdd, Nat.reduceEqDiff, Nat.reduceSub, Nat.reduceMul, Nat.reduceBEq, reduceIte, reduceCtorEq, wrap_succ hlt hrm, Int.natCast_add, Int.natCast_one]
    · simp only [go_sem, Nat.reduceLT, Nat.reduceAdd, Nat.reduceEqDiff, Nat.reduceSub, Nat.reduceMul, Nat.reduceBEq, reduceIte, reduceCtorEq, wrap_succ hlt hrm, Int.natCast_add, Int.natCast_one]
  · have hge : i = r.length := by
      have : ¬ (i : Int) < r.length := by simpa using hb
      omega
    subst hge
    clear hb
    repeat refine cl_seq ?_
    refine cl_exit ?_
    simp only [go_sem, Nat.reduceLT, Nat.reduceAdd, Nat.reduceEqDiff, Nat.reduceSub, Nat.reduceMul, Nat.reduceBEq, reduceIte, reduceCtorEq]
    refine cl_keep [5] [] ?_ ?_
    · simp only [go_sem, Nat.reduceLT, Nat.reduceAdd, Nat.reduceEqDiff, Nat.reduceSub, Nat.reduceMul, Nat.reduceBEq, reduceIte, reduceCtorEq]
    simp only [go_sem, Nat.reduceLT, Nat.reduceAdd, Nat.reduceEqDiff, Nat.reduceSub, Nat.reduceMul, Nat.reduceBEq, reduceIte, reduceCtorEq]
    rw [List.take_length]
    repeat refine cl_seq ?_
    refine cl_rs hΓ [4] [] fun K' hK => ?_
    simp only [go_sem, Nat.reduceLT, Nat.reduceAdd, Nat.reduceEqDiff, Nat.reduceSub, Nat.reduceMul, Nat.reduceBEq, reduceIte, reduceCtorEq]
    repeat (refine ⟨ob, ?_⟩)
    refine hK _ ?_ ?_ <;> clear K' hK <;> simp only [go_sem, Nat.reduceLT, Nat.reduceAdd, Nat.reduceEqDiff, Nat.reduceSub, Nat.reduceMul, Nat.reduceBEq, reduceIte, reduceCtorEq]
    refine cl_ret ?_
    simp only [go_sem, Nat.reduceLT, Nat.reduceAdd, Nat.reduceEqDiff, Nat.reduceSub, Nat.reduceMul, Nat.reduceBEq, reduceIte, reduceCtorEq]
noncomputable def contV (l : List Deed) (k : Int) : V := if (confP (countL l k)).isSome then .tup [.sl [], vInt 13] else .tup [.sl ((countL l k).map encD), vInt 0]
theorem s83 : PSound Tryz.prog 83 (pLI okL contV false) := by
  refine psoundB (rs := [.tmp 4, .tmp 5]) Tryz.func83 Tryz.ntmps83 (by rfl) (by kernel_rfl) (by decide) (fun h => by cases h) ⟨_, rfl, ?_⟩
  rintro xs ⟨l, k, rfl, hok⟩ hw
  refine ⟨Nat.le_of_ble_eq_true rfl, ?_⟩
  rw [pLI_fn]
  have hΓ := K30_sound
  have hc := fun (obj : Name → Option O) (t : Name) (f : List Deed → Int → V) (fl : Bool) => sLI_app (P := okL) (f := f) (fl := fl) (obj := obj) (t := t) (k := k) hok
  have hf := fun (obj : Name → Option O) (t : Name) (f : List Deed → V) (c : List Deed) => sL_app (P := fun _ => True) (f := f) (obj := obj) (t := t) (l := c) trivial
  repeat refine cl_seq ?_
  refine cl_rs hΓ [0,1] [] fun K' hK => ?_
  simp only [go_sem, Nat.reduceLT, Nat.reduceAdd, Nat.reduceEqDiff, Nat.reduceSub, Nat.reduceMul, Nat.reduceBEq, reduceIte, reduceCtorEq]
  repeat (refine ⟨ob, ?_⟩)
  refine hK _ ?_ ?_ <;> clear K' hK <;> simp only [go_sem, Nat.reduceLT, Nat.reduceAdd, Nat.reduceEqDiff, Nat.reduceSub, Nat.reduceMul, Nat.reduceBEq, reduceIte, reduceCtorEq]
  repeat refine cl_seq ?_
  refine cl_rs hΓ [6] [] fun K' hK => ?_
  simp only [go_sem, Nat.reduceLT, Nat.reduceAdd, Nat.reduceEqDiff, Nat.reduceSub, Nat.reduceMul, Nat.reduceBEq, reduceIte, reduceCtorEq, hc]
  repeat (refine ⟨ob, ?_⟩)
  refine hK _ ?_ ?_ <;> clear K' hK <;> simp only [go_sem, Nat.reduceLT, Nat.reduceAdd, Nat.reduceEqDiff, Nat.reduceSub, Nat.reduceMul, Nat.reduceBEq, reduceIte, reduceCtorEq, hc]
  repeat refine cl_seq ?_
  refine cl_rs hΓ [6,8] [] fun K' hK => ?_
  simp only [go_sem, Nat.reduceLT, Nat.reduceAdd, Nat.reduceEqDiff, Nat.reduceSub, Nat.reduceMul, Nat.reduceBEq, reduceIte, reduceCtorEq, hf, confV_eq]
  repeat (refine ⟨ob, ?_⟩)
  refine hK _ ?_ ?_ <;> clear K' hK <;> simp only [go_sem, Nat.reduceLT, Nat.reduceAdd, Nat.reduceEqDiff, Nat.reduceSub, Nat.reduceMul, Nat.reduceBEq, reduceIte, reduceCtorEq, hf, confV_eq]
  repeat refine cl_seq ?_
  refine cl_rs hΓ [6,17] [] fun K' hK => ?_
  simp only [go_sem, Nat.reduceLT, Nat.reduceAdd, Nat.reduceEqDiff, Nat.reduceSub, Nat.reduceMul, Nat.reduceBEq, reduceIte, reduceCtorEq]
  repeat (refine ⟨ob, ?_⟩)
  refine hK _ ?_ ?_ <;> clear K' hK <;> simp only [go_sem, Nat.reduceLT, Nat.reduceAdd, Nat.reduceEqDiff, Nat.reduceSub, Nat.reduceMul, Nat.reduceBEq, reduceIte, reduceCtorEq]
  repeat refine cl_seq ?_
  refine cl_cond rfl rfl (fun hb => ?_) (fun hb => ?_)
  · repeat refine cl_seq ?_
    repeat refine cl_seq ?_
    refine cl_rs hΓ [4,5] [] fun K' hK => ?_
    simp only [go_sem, Nat.reduceLT, Nat.reduceAdd, Nat.reduceEqDiff, Nat.reduceSub, Nat.reduceMul, Nat.reduceBEq, reduceIte, reduceCtorEq]
    repeat (refine ⟨ob, ?_⟩)
    refine hK _ ?_ ?_ <;> clear K' hK <;> simp only [go_sem, Nat.reduceLT, Nat.reduceAdd, Nat.reduceEqDiff, Nat.reduceSub, Nat.reduceMul, Nat.reduceBEq, reduceIte, reduceCtorEq]
    refine cl_ret ?_
    simp only [go_sem, Nat.reduceLT, Nat.reduceAdd, Nat.reduceEqDiff, Nat.reduceSub, Nat.reduceMul, Nat.reduceBEq, reduceIte, reduceCtorEq]
    unfold contV; rw [if_pos hb]
  · repeat refine cl_seq ?_
    refine cl_skip ?_
    repeat refine cl_seq ?_
    refine cl_rs hΓ [4,5] [] fun K' hK => ?_
    simp only [go_sem, Nat.reduceLT, Nat.reduceAdd, Nat.reduceEqDiff, Nat.reduceSub, Nat.reduceMul, Nat.reduceBEq, reduceIte, reduceCtorEq]
    repeat (refine ⟨ob, ?_⟩)
    refine hK _ ?_ ?_ <;> clear K' hK <;> simp only [go_sem, Nat.reduceLT, Nat.reduceAdd, Nat.reduceEqDiff, Nat.reduceSub, Nat.reduceMul, Nat.reduceBEq, reduceIte, reduceCtorEq]
    refine cl_ret ?_
    simp only [go_sem, Nat.reduceLT, Nat.reduceAdd, Nat.reduceEqDiff, Nat.reduceSub, Nat.reduceMul, Nat.reduceBEq, reduceIte, reduceCtorEq]
    unfold contV; rw [if_neg (by simp [hb])]
end Go.Eng
namespace Go.Eng
open Go Go.Proofs
set_option maxRecDepth 10000
/-! When -/
noncomputable def whenV (l : List Deed) (a b k : Int) : V :=
  if daysI l [k] = 0 then (match atD (countL l k) (itD a b) with
    | none => .tup [.agg [vInt 0, vInt 0], vInt 3]
    | some d => if (confP (countL l k)).isSome then .tup [.agg [vInt 0, vInt 0], vInt 13] else
      .tup [.agg [vInt (loM ((thrL (countL l k) d.lo d.pe).take ((thrL (countL l k) d.lo d.pe).findIdx (sameD d) + 1))), vInt (hiM ((thrL (countL l k) d.lo d.pe).drop ((thrL (countL l k) d.lo d.pe).findIdx (sameD d))))], vInt 0])
  else .tup [.agg [vInt 0, vInt 0], vInt (daysI l [k])]
noncomputable def sLII (P : List Deed → Prop) (f : List Deed → Int → Int → V) (fl : Bool) : Spec := (pLII P f fl).toSpec
theorem sLII_app {P : List Deed → Prop} {f : List Deed → Int → Int → V} {fl : Bool} {obj : Name → Option O} {t : Name} {l : List Deed} {k j : Int} (h : P l) : (sLII P f fl).app obj t [.v (.sl (l.map encD)), .v (vInt k), .v (vInt j)] = ⟨True, .v (f l k j), obj⟩ := by
  simp only [sLII, PSpec.toSpec, frzL, frz, pLII_fn, ite_self]
  congr 1
  simp only [eq_iff_iff, iff_true]
  exact ⟨⟨trivial, trivial, trivial, trivial⟩, l, k, j, rfl, h⟩
noncomputable def sLD (f : List Deed → Deed → V) : Spec := (pAddI f).toSpec
theorem sLD_app {f : List Deed → Deed → V} {obj : Name → Option O} {t : Name} {l : List Deed} {d : Deed} : (sLD f).app obj t [.v (.sl (l.map encD)), rdD d] = ⟨True, .v (f l d), obj⟩ := by
  simp only [sLD, PSpec.toSpec, frzL, frzD, pAddI, pAdd, decD_map, decD_enc, if_true]
  simp only [frz]
  simp only [decD_map]
  congr 1
  simp only [eq_iff_iff, iff_true]
  exact ⟨⟨trivial, trivial, trivial⟩, l, d, rfl⟩
noncomputable def sLN (f : List Deed → Nat → V) : Spec := (pLN f).toSpec
theorem sLN_app {f : List Deed → Nat → V} {obj : Name → Option O} {t : Name} {l : List Deed} {n : Nat} (h : n < l.length) : (sLN f).app obj t [.v (.sl (l.map encD)), .v (vInt n)] = ⟨True, .v (f l n), obj⟩ := by
  simp only [sLN, PSpec.toSpec, frzL, frz, pLN_fn]
  simp only [pLN, if_true]
  congr 1
  simp only [eq_iff_iff, iff_true]
  exact ⟨⟨trivial, trivial, trivial⟩, l, n, rfl, h⟩
noncomputable def K39 : FuncId → Option Spec := fun f => match f with
  | 70 => some sDaysI
  | 81 => some (sLI okL (fun l k => .sl ((countL l k).map encD)) false)
  | 74 => some sFind
  | 83 => some (sLI okL contV false)
  | 86 => some (sLII (fun l => l.length ≤ 60) (fun l lo pe => .sl ((thrL l lo pe).map encD)) false)
  | 87 => some (sLD fun l d => vInt (firstI (sameD d) l))
  | 88 => some (sLN fun l n => vInt (loM (l.take (n + 1))))
  | 89 => some (sLN fun l n => vInt (hiM (l.drop n)))
  | _ => none
theorem K39_sound : ∀ f s, K39 f = some s → SSound Tryz.prog f s := by
  intro f s h
  unfold K39 at h
  split at h
  · cases h; exact s70.sound
  · cases h; exact s81.sound
  · cases h; exact s74.sound
  · cases h; exact s83.sound
  · cases h; exact s86.sound
  · cases h; exact s87.sound
  · cases h; exact s88.sound
  · cases h; exact s89.sound
  · cases h
@[go_sem] theorem K39_70 : K39 70 = some sDaysI := rfl
@[go_sem] theorem K39_81 : K39 81 = some (sLI okL (fun l k => .sl ((countL l k).map encD)) false) := rfl
@[go_sem] theorem K39_74 : K39 74 = some sFind := rfl
@[go_sem] theorem K39_83 : K39 83 = some (sLI okL contV false) := rfl
@[go_sem] theorem K39_86 : K39 86 = some (sLII (fun l => l.length ≤ 60) (fun l lo pe => .sl ((thrL l lo pe).map encD)) false) := rfl
@[go_sem] theorem K39_87 : K39 87 = some (sLD fun l d => vInt (firstI (sameD d) l)) := rfl
@[go_sem] theorem K39_88 : K39 88 = some (sLN fun l n => vInt (loM (l.take (n + 1)))) := rfl
@[go_sem] theorem K39_89 : K39 89 = some (sLN fun l n => vInt (hiM (l.drop n))) := rfl
def pLItI (f : List Deed → Int → Int → Int → V) : PSpec := ⟨fun xs => ∃ (l : List Deed) (a b k : Int), xs = [.sl (l.map encD), .agg [vInt a, vInt b], vInt k], fun xs => match xs with | [.sl l, .agg [.int _ a, .int _ b], .int _ k] => f (l.map decD) a b k | _ => .bool false, true⟩
theorem pLItI_fn (f : List Deed → Int → Int → Int → V) (l : List Deed) (a b k : Int) : (pLItI f).fn [.sl (l.map encD), .agg [vInt a, vInt b], vInt k] = f l a b k := by
  simp only [pLItI, decD_map]
theorem isOf_self {d : Deed} (h : isDeedB d = true) : isOfB d d.lo d.pe = true := by
  unfold isOfB
  rcases valid_kind h with ⟨_, h1, _⟩ | ⟨_, h1, _⟩
  · rw [if_neg (by omega), h1]; simp
  · rw [if_pos (by omega)]; simp
theorem when_flat (l : List Deed) (a b k : Int) : (whenV l a b k).flat = true := by
  unfold whenV
  split
  · split
    · rfl
    · split <;> rfl
  · rfl
set_option maxHeartbeats 8000000 in
theorem s30 : PSound Tryz.prog 30 (pLItI whenV) := by
  refine psoundB (rs := [.cell 6 33, .tmp 7]) Tryz.func30 Tryz.ntmps30 (by rfl) (by kernel_rfl) (by decide) (by
    rintro _ xs ⟨l, a, b, k, rfl⟩
    rw [pLItI_fn]
    exact when_flat l a b k) ⟨_, rfl, ?_⟩
  rintro xs ⟨l, a, b, k, rfl⟩ hw
  refine ⟨Nat.le_of_ble_eq_true rfl, ?_⟩
  rw [pLItI_fn]
  have hΓ := K39_sound
  have hP := mixedK
  repeat refine cl_seq ?_
  refine cl_rs hΓ [0,2,4,6] [[4, 0],[6, 0]] fun K' hK => ?_
  simp only [go_sem, Nat.reduceLT, Nat.reduceAdd, Nat.reduceEqDiff, Nat.reduceSub, Nat.reduceMul, Nat.reduceBEq, reduceIte, reduceCtorEq, tz33]
  repeat (refine ⟨ob, ?_⟩)
  refine hK _ ?_ ?_ <;> clear K' hK <;> simp only [go_sem, Nat.reduceLT, Nat.reduceAdd, Nat.reduceEqDiff, Nat.reduceSub, Nat.reduceMul, Nat.reduceBEq, reduceIte, reduceCtorEq, tz33]
  repeat refine cl_seq ?_
  refine cl_rs hΓ [0,2,4,6,8] [[4, 0],[6, 0]] fun K' hK => ?_
  simp only [go_sem, Nat.reduceLT, Nat.reduceAdd, Nat.reduceEqDiff, Nat.reduceSub, Nat.reduceMul, Nat.reduceBEq, reduceIte, reduceCtorEq, sDaysI_one]
  repeat (refine ⟨ob, ?_⟩)
  refine hK _ ?_ ?_ <;> clear K' hK <;> simp only [go_sem, Nat.reduceLT, Nat.reduceAdd, Nat.reduceEqDiff, Nat.reduceSub, Nat.reduceMul, Nat.reduceBEq, reduceIte, reduceCtorEq, sDaysI_one]
  repeat refine cl_seq ?_
  refine cl_rs hΓ [0,2,4,6,8,20] [[4, 0],[6, 0]] fun K' hK => ?_
  simp only [go_sem, Nat.reduceLT, Nat.reduceAdd, Nat.reduceEqDiff, Nat.reduceSub, Nat.reduceMul, Nat.reduceBEq, reduceIte, reduceCtorEq]
  repeat (refine ⟨ob, ?_⟩)
  refine hK _ ?_ ?_ <;> clear K' hK <;> simp only [go_sem, Nat.reduceLT, Nat.reduceAdd, Nat.reduceEqDiff, Nat.reduceSub, Nat.reduceMul, Nat.reduceBEq, reduceIte, reduceCtorEq]
  repeat refine cl_seq ?_
  refine cl_cond rfl rfl (fun hb => ?_) (fun hb => ?_)
  · repeat refine cl_seq ?_
    repeat refine cl_seq ?_
    refine cl_rs hΓ [6,7] [[6, 0]] fun K' hK => ?_
    simp only [go_sem, Nat.reduceLT, Nat.reduceAdd, Nat.reduceEqDiff, Nat.reduceSub, Nat.reduceMul, Nat.reduceBEq, reduceIte, reduceCtorEq, tz33, tp33, Nat.reduceLeDiff, Nat.le_refl]
    repeat (refine ⟨ob, ?_⟩)
    refine hK _ ?_ ?_ <;> clear K' hK <;> simp only [go_sem, Nat.reduceLT, Nat.reduceAdd, Nat.reduceEqDiff, Nat.reduceSub, Nat.reduceMul, Nat.reduceBEq, reduceIte, reduceCtorEq, tz33, tp33, Nat.reduceLeDiff, Nat.le_refl]
    refine cl_ret ?_
    simp only [go_sem, Nat.reduceLT, Nat.reduceAdd, Nat.reduceEqDiff, Nat.reduceSub, Nat.reduceMul, Nat.reduceBEq, reduceIte, reduceCtorEq]
    have hn : ¬ daysI l [k] = 0 := by simpa using hb
    unfold whenV; rw [if_neg hn]
    all_goals first | done | rfl | exact ⟨by decide, rfl⟩ | exact ⟨by decide, trivial⟩ | decide
  have hz : daysI l [k] = 0 := by simpa using hb
  have hok := days_ok hz
  have hsort := countL_sorted hok k
  clear hb
  repeat refine cl_seq ?_
  refine cl_skip ?_
  have hc := fun (obj : Name → Option O) (t : Name) (f : List Deed → Int → V) (fl : Bool) => sLI_app (P := okL) (f := f) (fl := fl) (obj := obj) (t := t) (k := k) hok
  have hfi := fun (obj : Name → Option O) (t : Name) => sFind_app (obj := obj) (t := t) (l := countL l k) (a := a) (b := b) (x := .agg [.v (vInt a), .v (vInt b)]) (.inr rfl) hsort
  repeat refine cl_seq ?_
  refine cl_ds hΓ hP [[], [], [0, 1], [], [0, 1, 2, 3], [0, 1, 2, 3, 4], [0, 1, 2, 3, 4, 5], [0, 1, 2, 3, 4, 5], [], [0, 1, 2, 3, 4, 5, 6, 8], [0, 1, 2, 3, 4, 5, 6, 7, 8, 9]] [0,2,6,9,10] [[6, 0],[9, 0]] (by kernel_rfl) fun K' hK => ?_
  simp only [go_sem, Nat.reduceLT, Nat.reduceAdd, Nat.reduceEqDiff, Nat.reduceSub, Nat.reduceMul, Nat.reduceBEq, reduceIte, reduceCtorEq, hc, hfi, findV_eq]
  repeat (refine ⟨ob, ?_⟩)
  first | refine ⟨by rfl, ?_⟩ | skip
  refine hK _ ?_ ?_ <;> clear K' hK <;> simp only [go_sem, Nat.reduceLT, Nat.reduceAdd, Nat.reduceEqDiff, Nat.reduceSub, Nat.reduceMul, Nat.reduceBEq, reduceIte, reduceCtorEq, hc, hfi, findV_eq]
  repeat refine cl_seq ?_
  refine cl_rs hΓ [0,2,6,9,32] [[6, 0],[9, 0]] fun K' hK => ?_
  simp only [go_sem, Nat.reduceLT, Nat.reduceAdd, Nat.reduceEqDiff, Nat.reduceSub, Nat.reduceMul, Nat.reduceBEq, reduceIte, reduceCtorEq]
  repeat (refine ⟨ob, ?_⟩)
  refine hK _ ?_ ?_ <;> clear K' hK <;> simp only [go_sem, Nat.reduceLT, Nat.reduceAdd, Nat.reduceEqDiff, Nat.reduceSub, Nat.reduceMul, Nat.reduceBEq, reduceIte, reduceCtorEq]
  repeat refine cl_seq ?_
  refine cl_cond rfl rfl (fun hb => ?_) (fun hb => ?_)
  · repeat refine cl_seq ?_
    repeat refine cl_seq ?_
    refine cl_rs hΓ [6,7] [[6, 0]] fun K' hK => ?_
    simp only [go_sem, Nat.reduceLT, Nat.reduceAdd, Nat.reduceEqDiff, Nat.reduceSub, Nat.reduceMul, Nat.reduceBEq, reduceIte, reduceCtorEq, tz33, tp33, Nat.reduceLeDiff, Nat.le_refl]
    repeat (refine ⟨ob, ?_⟩)
    refine hK _ ?_ ?_ <;> clear K' hK <;> simp only [go_sem, Nat.reduceLT, Nat.reduceAdd, Nat.reduceEqDiff, Nat.reduceSub, Nat.reduceMul, Nat.reduceBEq, reduceIte, reduceCtorEq, tz33, tp33, Nat.reduceLeDiff, Nat.le_refl]
    refine cl_ret ?_
    simp only [go_sem, Nat.reduceLT, Nat.reduceAdd, Nat.reduceEqDiff, Nat.reduceSub, Nat.reduceMul, Nat.reduceBEq, reduceIte, reduceCtorEq]
    have hn : atD (countL l k) (itD a b) = none := by
      cases h : atD (countL l k) (itD a b) with
      | none => rfl
      | some x => rw [h] at hb; cases hb
    unfold whenV; rw [if_pos hz, hn]
    all_goals first | done | rfl | exact ⟨by decide, rfl⟩ | exact ⟨by decide, trivial⟩ | decide
  obtain ⟨d, hd⟩ : ∃ d, atD (countL l k) (itD a b) = some d := by
    cases h : atD (countL l k) (itD a b) with
    | none => rw [h] at hb; cases hb
    | some x => exact ⟨x, rfl⟩
  clear hb
  rw [hd]
  simp only [Option.getD_some]
  have hmem := (atD_mem hd).1
  repeat refine cl_seq ?_
  refine cl_skip ?_
  cases hcf : (confP (countL l k)).isSome with
  | true =>
    have hcv : contV l k = .tup [.sl [], vInt 13] := by unfold contV; rw [if_pos hcf]
    repeat refine cl_seq ?_
    refine cl_rs hΓ [6,9,11,12] [[6, 0],[9, 0]] fun K' hK => ?_
    simp only [go_sem, Nat.reduceLT, Nat.reduceAdd, Nat.reduceEqDiff, Nat.reduceSub, Nat.reduceMul, Nat.reduceBEq, reduceIte, reduceCtorEq, hc, hcv]
    repeat (refine ⟨ob, ?_⟩)
    refine hK _ ?_ ?_ <;> clear K' hK <;> simp only [go_sem, Nat.reduceLT, Nat.reduceAdd, Nat.reduceEqDiff, Nat.reduceSub, Nat.reduceMul, Nat.reduceBEq, reduceIte, reduceCtorEq, hc, hcv]
    repeat refine cl_seq ?_
    refine cl_rs hΓ [6,9,11,12,41] [[6, 0],[9, 0]] fun K' hK => ?_
    simp only [go_sem, Nat.reduceLT, Nat.reduceAdd, Nat.reduceEqDiff, Nat.reduceSub, Nat.reduceMul, Nat.reduceBEq, reduceIte, reduceCtorEq]
    repeat (refine ⟨ob, ?_⟩)
    refine hK _ ?_ ?_ <;> clear K' hK <;> simp only [go_sem, Nat.reduceLT, Nat.reduceAdd, Nat.reduceEqDiff, Nat.reduceSub, Nat.reduceMul, Nat.reduceBEq, reduceIte, reduceCtorEq]
    repeat refine cl_seq ?_
    refine cl_cond rfl rfl (fun hb => ?_) (fun hb => ?_)
    · repeat refine cl_seq ?_
      repeat refine cl_seq ?_
      refine cl_rs hΓ [6,7] [[6, 0]] fun K' hK => ?_
      simp only [go_sem, Nat.reduceLT, Nat.reduceAdd, Nat.reduceEqDiff, Nat.reduceSub, Nat.reduceMul, Nat.reduceBEq, reduceIte, reduceCtorEq, tz33, tp33, Nat.reduceLeDiff, Nat.le_refl]
      repeat (refine ⟨ob, ?_⟩)
      refine hK _ ?_ ?_ <;> clear K' hK <;> simp only [go_sem, Nat.reduceLT, Nat.reduceAdd, Nat.reduceEqDiff, Nat.reduceSub, Nat.reduceMul, Nat.reduceBEq, reduceIte, reduceCtorEq, tz33, tp33, Nat.reduceLeDiff, Nat.le_refl]
      refine cl_ret ?_
      simp only [go_sem, Nat.reduceLT, Nat.reduceAdd, Nat.reduceEqDiff, Nat.reduceSub, Nat.reduceMul, Nat.reduceBEq, reduceIte, reduceCtorEq]
      unfold whenV; rw [if_pos hz, hd]
      simp only [hcf, if_true]
      all_goals first | done | rfl | exact ⟨by decide, rfl⟩ | exact ⟨by decide, trivial⟩ | decide
    · simp at hb
  | false =>
    have hcv : contV l k = .tup [.sl ((countL l k).map encD), vInt 0] := by unfold contV; rw [if_neg (by simp [hcf])]
    have hlen : (countL l k).length ≤ 60 := by have := countL_len l k; have := hok.2.2; omega
    have hth := fun (obj : Name → Option O) (t : Name) (f : List Deed → Int → Int → V) (fl : Bool) => sLII_app (P := fun l => l.length ≤ 60) (f := f) (fl := fl) (obj := obj) (t := t) (l := countL l k) (k := d.lo) (j := d.pe) hlen
    have hdt : d ∈ thrL (countL l k) d.lo d.pe := List.mem_filter.2 ⟨hmem, isOf_self (countL_valid hok k d hmem)⟩
    have hix : (thrL (countL l k) d.lo d.pe).findIdx (sameD d) < (thrL (countL l k) d.lo d.pe).length := List.findIdx_lt_length.2 ⟨d, hdt, by simp [sameD]⟩
    have hfi2 : firstI (sameD d) (thrL (countL l k) d.lo d.pe) = ((thrL (countL l k) d.lo d.pe).findIdx (sameD d) : Nat) := by unfold firstI; rw [if_pos hix]
    have hld := fun (obj : Name → Option O) (t : Name) (f : List Deed → Deed → V) => sLD_app (f := f) (obj := obj) (t := t) (l := thrL (countL l k) d.lo d.pe) (d := d)
    unfold rdD at hld
    have hln := fun (obj : Name → Option O) (t : Name) (f : List Deed → Nat → V) => sLN_app (f := f) (obj := obj) (t := t) hix
    repeat refine cl_seq ?_
    refine cl_rs hΓ [6,9,11,12] [[6, 0],[9, 0]] fun K' hK => ?_
    simp only [go_sem, Nat.reduceLT, Nat.reduceAdd, Nat.reduceEqDiff, Nat.reduceSub, Nat.reduceMul, Nat.reduceBEq, reduceIte, reduceCtorEq, hc, hcv]
    repeat (refine ⟨ob, ?_⟩)
    refine hK _ ?_ ?_ <;> clear K' hK <;> simp only [go_sem, Nat.reduceLT, Nat.reduceAdd, Nat.reduceEqDiff, Nat.reduceSub, Nat.reduceMul, Nat.reduceBEq, reduceIte, reduceCtorEq, hc, hcv]
    repeat refine cl_seq ?_
    refine cl_rs hΓ [6,9,11,12,41] [[6, 0],[9, 0]] fun K' hK => ?_
    simp only [go_sem, Nat.reduceLT, Nat.reduceAdd, Nat.reduceEqDiff, Nat.reduceSub, Nat.reduceMul, Nat.reduceBEq, reduceIte, reduceCtorEq, bne_self_eq_false]
    repeat (refine ⟨ob, ?_⟩)
    refine hK _ ?_ ?_ <;> clear K' hK <;> simp only [go_sem, Nat.reduceLT, Nat.reduceAdd, Nat.reduceEqDiff, Nat.reduceSub, Nat.reduceMul, Nat.reduceBEq, reduceIte, reduceCtorEq, bne_self_eq_false]
    repeat refine cl_seq ?_
    refine cl_cond rfl rfl (fun hb => ?_) (fun hb => ?_)
    · simp at hb
    repeat refine cl_seq ?_
    refine cl_skip ?_
    repeat refine cl_seq ?_
    refine cl_rs hΓ [6,9,13] [[6, 0],[9, 0]] fun K' hK => ?_
    simp only [go_sem, Nat.reduceLT, Nat.reduceAdd, Nat.reduceEqDiff, Nat.reduceSub, Nat.reduceMul, Nat.reduceBEq, reduceIte, reduceCtorEq, hth]
    repeat (refine ⟨ob, ?_⟩)
    refine hK _ ?_ ?_ <;> clear K' hK <;> simp only [go_sem, Nat.reduceLT, Nat.reduceAdd, Nat.reduceEqDiff, Nat.reduceSub, Nat.reduceMul, Nat.reduceBEq, reduceIte, reduceCtorEq, hth]
    repeat refine cl_seq ?_
    refine cl_rs hΓ [6,13,14] [[6, 0]] fun K' hK => ?_
    simp only [go_sem, Nat.reduceLT, Nat.reduceAdd, Nat.reduceEqDiff, Nat.reduceSub, Nat.reduceMul, Nat.reduceBEq, reduceIte, reduceCtorEq, hld, hfi2]
    repeat (refine ⟨ob, ?_⟩)
    refine hK _ ?_ ?_ <;> clear K' hK <;> simp only [go_sem, Nat.reduceLT, Nat.reduceAdd, Nat.reduceEqDiff, Nat.reduceSub, Nat.reduceMul, Nat.reduceBEq, reduceIte, reduceCtorEq, hld, hfi2]
    repeat refine cl_seq ?_
    refine cl_rs hΓ [6,7] [[6, 0]] fun K' hK => ?_
    simp only [go_sem, Nat.reduceLT, Nat.reduceAdd, Nat.reduceEqDiff, Nat.reduceSub, Nat.reduceMul, Nat.reduceBEq, reduceIte, reduceCtorEq, hln, tz33, tp33, Nat.reduceLeDiff, Nat.le_refl]
    repeat (refine ⟨ob, ?_⟩)
    refine hK _ ?_ ?_ <;> clear K' hK <;> simp only [go_sem, Nat.reduceLT, Nat.reduceAdd, Nat.reduceEqDiff, Nat.reduceSub, Nat.reduceMul, Nat.reduceBEq, reduceIte, reduceCtorEq, hln, tz33, tp33, Nat.reduceLeDiff, Nat.le_refl]
    refine cl_ret ?_
    simp only [go_sem, Nat.reduceLT, Nat.reduceAdd, Nat.reduceEqDiff, Nat.reduceSub, Nat.reduceMul, Nat.reduceBEq, reduceIte, reduceCtorEq]
    unfold whenV; rw [if_pos hz, hd]
    simp only [hcf, Bool.false_eq_true, if_false]
    all_goals first | done | rfl | exact ⟨by decide, rfl⟩ | exact ⟨by decide, trivial⟩ | decide
end Go.Eng
namespace Go.Eng
open Go Go.Proofs
set_option maxRecDepth 10000
/-! true days -/
def trueP (q : Deed → Deed → Bool) (c : List Deed) (ds : List Int) : Prop :=
  ds.length = c.length ∧ ∀ i (h : i < c.length) (h' : i < ds.length), inI ds[i] c[i].dl c[i].dh = true ∧ ∀ k (hk : k < i), (q c[k] c[i] && decide (ds[k] > ds[i])) = false
open Classical in
noncomputable def trueB (q : Deed → Deed → Bool) (c : List Deed) (ds : List Int) : Bool := decide (trueP q c ds)
def q1 (a b : Deed) : Bool := isOfB b a.lo a.pe
theorem trueP_congr {p q : Deed → Deed → Bool} {c : List Deed} {ds : List Int} (h : ∀ a ∈ c, ∀ b ∈ c, p a b = q a b) : trueP p c ds ↔ trueP q c ds := by
  unfold trueP
  refine and_congr Iff.rfl (forall_congr' fun i => forall_congr' fun hi => forall_congr' fun hi' => and_congr Iff.rfl (forall_congr' fun k => forall_congr' fun hk => ?_))
  rw [h _ (List.getElem_mem _) _ (List.getElem_mem _)]
def sIn : Spec := sIII fun a b c => .bool (inI a b c)
theorem pIn_is : pIn = pIII fun a b c => .bool (inI a b c) := rfl
theorem s151' : SSound Tryz.prog 151 sIn := by have := s151; rw [pIn_is] at this; exact this.sound
theorem s79' : SSound Tryz.prog 79 sIn := by have := s79; rw [pIn_is] at this; exact this.sound
theorem sIn_app {obj : Name → Option O} {t : Name} {a b c : Int} : sIn.app obj t [.v (vInt a), .v (vInt b), .v (vInt c)] = ⟨True, .v (.bool (inI a b c)), obj⟩ := sIII_app
theorem sDDb_vr {g : Deed → Deed → V} {obj : Name → Option O} {t : Name} {a b : Deed} : (sDDb g).app obj t [.v (encD a), rdD b] = ⟨True, .v (g a b), obj⟩ := by
  have h0 : frz 6 obj (.v (encD a)) = ⟨True, encD a, obj⟩ := rfl
  simp only [sDDb, PSpec.toSpec, frzL, frzD, h0, pDD, encD, if_true]
  congr 1
  simp only [eq_iff_iff, iff_true]
  exact ⟨⟨trivial, trivial, trivial⟩, a, b, rfl⟩
noncomputable def K40 : FuncId → Option Spec := fun f => match f with
  | 151 => some sIn
  | 79 => some sIn
  | 144 => some (sDII fun d k j => .bool (isOfB d k j))
  | 117 => some (sDDb fun a b => .bool (sameThB a b))
  | _ => none
theorem K40_sound : ∀ f s, K40 f = some s → SSound Tryz.prog f s := by
  intro f s h
  unfold K40 at h
  split at h
  · cases h; exact s151'
  · cases h; exact s79'
  · cases h; exact s144.sound
  · cases h; exact s117.sound
  · cases h
@[go_sem] theorem K40_151 : K40 151 = some sIn := rfl
@[go_sem] theorem K40_79 : K40 79 = some sIn := rfl
@[go_sem] theorem K40_144 : K40 144 = some (sDII fun d k j => .bool (isOfB d k j)) := rfl
@[go_sem] theorem K40_117 : K40 117 = some (sDDb fun a b => .bool (sameThB a b)) := rfl
theorem trueB_not {q : Deed → Deed → Bool} {c : List Deed} {ds : List Int} (h : ¬ trueP q c ds) : trueB q c ds = false := by unfold trueB; simp [h]
theorem trueB_yes {q : Deed → Deed → Bool} {c : List Deed} {ds : List Int} (h : trueP q c ds) : trueB q c ds = true := by unfold trueB; simp [h]
set_option maxHeartbeats 8000000 in
theorem s118 : PSound Tryz.prog 118 (pDays fun c ds => .bool (trueB q1 c ds)) := by
  refine psoundB (rs := [.tmp 4]) Tryz.func118 Tryz.ntmps118 (by rfl) (by kernel_rfl) (by decide) (by rintro _ xs ⟨l, g, rfl⟩; rfl) ⟨_, rfl, ?_⟩
  rintro xs ⟨c, ds, rfl⟩ hw
  have hl : c.length ≤ maxLen := by have := hw.1.1; simpa using this
  refine ⟨Nat.le_of_ble_eq_true rfl, ?_⟩
  rw [pDays_fn]
  have hΓ := K40_sound
  have hP := mixedK
  have hin := fun (obj : Name → Option O) (t : Name) (a b c : Int) => sIn_app (obj := obj) (t := t) (a := a) (b := b) (c := c)
  repeat refine cl_seq ?_
  refine cl_rs hΓ [0,1] [] fun K' hK => ?_
  simp only [go_sem, Nat.reduceLT, Nat.reduceAdd, Nat.reduceEqDiff, Nat.reduceSub, Nat.reduceMul, Nat.reduceBEq, reduceIte, reduceCtorEq]
  repeat (refine ⟨ob, ?_⟩)
  refine hK _ ?_ ?_ <;> clear K' hK <;> simp only [go_sem, Nat.reduceLT, Nat.reduceAdd, Nat.reduceEqDiff, Nat.reduceSub, Nat.reduceMul, Nat.reduceBEq, reduceIte, reduceCtorEq]
  repeat refine cl_seq ?_
  refine cl_rs hΓ [0,1,12] [] fun K' hK => ?_
  simp only [go_sem, Nat.reduceLT, Nat.reduceAdd, Nat.reduceEqDiff, Nat.reduceSub, Nat.reduceMul, Nat.reduceBEq, reduceIte, reduceCtorEq]
  repeat (refine ⟨ob, ?_⟩)
  refine hK _ ?_ ?_ <;> clear K' hK <;> simp only [go_sem, Nat.reduceLT, Nat.reduceAdd, Nat.reduceEqDiff, Nat.reduceSub, Nat.reduceMul, Nat.reduceBEq, reduceIte, reduceCtorEq]
  repeat refine cl_seq ?_
  refine cl_cond rfl rfl (fun hb => ?_) (fun hb => ?_)
  · repeat refine cl_seq ?_
    repeat refine cl_seq ?_
    refine cl_rs hΓ [4] [] fun K' hK => ?_
    simp only [go_sem, Nat.reduceLT, Nat.reduceAdd, Nat.reduceEqDiff, Nat.reduceSub, Nat.reduceMul, Nat.reduceBEq, reduceIte, reduceCtorEq]
    repeat (refine ⟨ob, ?_⟩)
    refine hK _ ?_ ?_ <;> clear K' hK <;> simp only [go_sem, Nat.reduceLT, Nat.reduceAdd, Nat.reduceEqDiff, Nat.reduceSub, Nat.reduceMul, Nat.reduceBEq, reduceIte, reduceCtorEq]
    refine cl_ret ?_
    simp only [go_sem, Nat.reduceLT, Nat.reduceAdd, Nat.reduceEqDiff, Nat.reduceSub, Nat.reduceMul, Nat.reduceBEq, reduceIte, reduceCtorEq]
    have hne : ds.length ≠ c.length := by
      have : ((ds.length : Int) != (c.length : Int)) = true := hb
      simp at this; omega
    rw [trueB_not fun h => hne h.1]
  have hlen : ds.length = c.length := by
    have : ((ds.length : Int) != (c.length : Int)) = false := hb
    simp at this; omega
  clear hb
  repeat refine cl_seq ?_
  refine cl_skip ?_
  repeat refine cl_seq ?_
  refine cl_rs hΓ [0,1,13,14,15] [] fun K' hK => ?_
  simp only [go_sem, Nat.reduceLT, Nat.reduceAdd, Nat.reduceEqDiff, Nat.reduceSub, Nat.reduceMul, Nat.reduceBEq, reduceIte, reduceCtorEq]
  repeat (refine ⟨ob, ?_⟩)
  refine hK _ ?_ ?_ <;> clear K' hK <;> simp only [go_sem, Nat.reduceLT, Nat.reduceAdd, Nat.reduceEqDiff, Nat.reduceSub, Nat.reduceMul, Nat.reduceBEq, reduceIte, reduceCtorEq]
  repeat refine cl_seq ?_
  refine cl_block ?_
  repeat refine cl_seq ?_
  refine cl_loop' (fun s : Nat => [(15, ⟨true, .v (vInt s)⟩)]) (fun s => []) (fun s => s ≤ c.length ∧ ∀ i (h : i < c.length) (h' : i < ds.length), i < s → inI ds[i] c[i].dl c[i].dh = true ∧ ∀ k (hk : k < i), (q1 c[k] c[i] && decide (ds[k] > ds[i])) = false) (fun s => c.length - s) 0 ?_ ?_ ?_ ?_
  · exact ⟨Nat.zero_le _, fun i h h' hj => by omega⟩
  · rfl
  · rfl
  rintro i ⟨hi, hz⟩
  simp only [go_sem, Nat.reduceLT, Nat.reduceAdd, Nat.reduceEqDiff, Nat.reduceSub, Nat.reduceMul, Nat.reduceBEq, reduceIte, reduceCtorEq]
  repeat refine cl_seq ?_
  repeat refine cl_seq ?_
  refine cl_rs hΓ [0,1,13,14,15,16] [] fun K' hK => ?_
  simp only [go_sem, Nat.reduceLT, Nat.reduceAdd, Nat.reduceEqDiff, Nat.reduceSub, Nat.reduceMul, Nat.reduceBEq, reduceIte, reduceCtorEq]
  repeat (refine ⟨ob, ?_⟩)
  refine hK _ ?_ ?_ <;> clear K' hK <;> simp only [go_sem, Nat.reduceLT, Nat.reduceAdd, Nat.reduceEqDiff, Nat.reduceSub, Nat.reduceMul, Nat.reduceBEq, reduceIte, reduceCtorEq]
  repeat refine cl_seq ?_
  refine cl_cond rfl rfl (fun hb => ?_) (fun hb => ?_)
  · have hlt : i < c.length := by simpa using hb
    have hlt' : (i : Int) < c.length := by omega
    clear hb
    repeat refine cl_seq ?_
    refine cl_skip ?_
    repeat refine cl_seq ?_
    refine cl_block ?_
    repeat refine cl_seq ?_
    have hds : i < ds.length := by omega
    have hds' : (i : Int) < ds.length := by omega
    repeat refine cl_seq ?_
    refine cl_rs hΓ [0,1,5,6,13,14,15] [[6, 0]] fun K' hK => ?_
    simp only [go_sem, Nat.reduceLT, Nat.reduceAdd, Nat.reduceEqDiff, Nat.reduceSub, Nat.reduceMul, Nat.reduceBEq, reduceIte, reduceCtorEq, map_getD hlt, Int.toNat_natCast, Int.natCast_nonneg, hlt']
    repeat (refine ⟨ob, ?_⟩)
    refine hK _ ?_ ?_ <;> clear K' hK <;> simp only [go_sem, Nat.reduceLT, Nat.reduceAdd, Nat.reduceEqDiff, Nat.reduceSub, Nat.reduceMul, Nat.reduceBEq, reduceIte, reduceCtorEq, map_getD hlt, Int.toNat_natCast, Int.natCast_nonneg, hlt']
    repeat refine cl_seq ?_
    refine cl_ds hΓ hP [[], [], [0, 1], [0, 1, 2], [], [4], [4, 5], [], [7], [7, 8], [0, 1, 2, 3, 4, 5, 6, 7, 8, 9], [0, 1, 2, 3, 4, 5, 6, 7, 8, 9, 10]] [0,1,5,6,13,14,15,31] [[6, 0]] (by kernel_rfl) fun K' hK => ?_
    simp only [go_sem, Nat.reduceLT, Nat.reduceAdd, Nat.reduceEqDiff, Nat.reduceSub, Nat.reduceMul, Nat.reduceBEq, reduceIte, reduceCtorEq, map_getD hds, Int.toNat_natCast, Int.natCast_nonneg, hds', hin]
    repeat (refine ⟨ob, ?_⟩)
    first | refine ⟨by rfl, ?_⟩ | skip
    refine hK _ ?_ ?_ <;> clear K' hK <;> simp only [go_sem, Nat.reduceLT, Nat.reduceAdd, Nat.reduceEqDiff, Nat.reduceSub, Nat.reduceMul, Nat.reduceBEq, reduceIte, reduceCtorEq, map_getD hds, Int.toNat_natCast, Int.natCast_nonneg, hds', hin]
    repeat refine cl_seq ?_
    refine cl_cond rfl rfl (fun hb => ?_) (fun hb => ?_)
    · repeat refine cl_seq ?_
      repeat refine cl_seq ?_
      refine cl_rs hΓ [4] [] fun K' hK => ?_
      simp only [go_sem, Nat.reduceLT, Nat.reduceAdd, Nat.reduceEqDiff, Nat.reduceSub, Nat.reduceMul, Nat.reduceBEq, reduceIte, reduceCtorEq]
      repeat (refine ⟨ob, ?_⟩)
      refine hK _ ?_ ?_ <;> clear K' hK <;> simp only [go_sem, Nat.reduceLT, Nat.reduceAdd, Nat.reduceEqDiff, Nat.reduceSub, Nat.reduceMul, Nat.reduceBEq, reduceIte, reduceCtorEq]
      refine cl_ret ?_
      simp only [go_sem, Nat.reduceLT, Nat.reduceAdd, Nat.reduceEqDiff, Nat.reduceSub, Nat.reduceMul, Nat.reduceBEq, reduceIte, reduceCtorEq]
      rw [trueB_not fun h => by
        have h1 := (h.2 i hlt hds).1
        rw [h1] at hb; cases hb]
    have hin1 : inI ds[i] c[i].dl c[i].dh = true := by simpa using hb
    clear hb
    repeat refine cl_seq ?_
    refine cl_skip ?_
    repeat refine cl_seq ?_
    refine cl_rs hΓ [0,1,5,6,13,14,15,32,33] [[6, 0]] fun K' hK => ?_
    simp only [go_sem, Nat.reduceLT, Nat.reduceAdd, Nat.reduceEqDiff, Nat.reduceSub, Nat.reduceMul, Nat.reduceBEq, reduceIte, reduceCtorEq]
    repeat (refine ⟨ob, ?_⟩)
    refine hK _ ?_ ?_ <;> clear K' hK <;> simp only [go_sem, Nat.reduceLT, Nat.reduceAdd, Nat.reduceEqDiff, Nat.reduceSub, Nat.reduceMul, Nat.reduceBEq, reduceIte, reduceCtorEq]
    repeat refine cl_seq ?_
    refine cl_block ?_
    repeat refine cl_seq ?_
    refine cl_loop' (fun s : Nat => [(33, ⟨true, .v (vInt s)⟩)]) (fun s => []) (fun s => s ≤ i ∧ ∀ k (hk : k < i), k < s → (q1 c[k] c[i] && decide (ds[k] > ds[i])) = false) (fun s => i - s) 0 ?_ ?_ ?_ ?_
    · exact ⟨Nat.zero_le _, fun k hk h => by omega⟩
    · rfl
    · rfl
    rintro j ⟨hj, hzj⟩
    simp only [go_sem, Nat.reduceLT, Nat.reduceAdd, Nat.reduceEqDiff, Nat.reduceSub, Nat.reduceMul, Nat.reduceBEq, reduceIte, reduceCtorEq]
    repeat refine cl_seq ?_
    repeat refine cl_seq ?_
    refine cl_rs hΓ [0,1,5,6,13,14,15,32,33,34] [[6, 0]] fun K' hK => ?_
    simp only [go_sem, Nat.reduceLT, Nat.reduceAdd, Nat.reduceEqDiff, Nat.reduceSub, Nat.reduceMul, Nat.reduceBEq, reduceIte, reduceCtorEq]
    repeat (refine ⟨ob, ?_⟩)
    refine hK _ ?_ ?_ <;> clear K' hK <;> simp only [go_sem, Nat.reduceLT, Nat.reduceAdd, Nat.reduceEqDiff, Nat.reduceSub, Nat.reduceMul, Nat.reduceBEq, reduceIte, reduceCtorEq]
    repeat refine cl_seq ?_
    refine cl_cond rfl rfl (fun hb => ?_) (fun hb => ?_)
    · have hlt : j < i := by simpa using hb
      have hlt' : (j : Int) < i := by omega
      clear hb
      repeat refine cl_seq ?_
      refine cl_skip ?_
      repeat refine cl_seq ?_
      refine cl_block ?_
      repeat refine cl_seq ?_
      have hjc : j < c.length := by omega
      have hjc' : (j : Int) < c.length := by omega
      have hjd : j < ds.length := by omega
      have hjd' : (j : Int) < ds.length := by omega
      have hic : i < c.length := by omega
      have hcc := fun (g : Deed → Int → Int → V) (obj : Name → Option O) (t : Name) (n m : Int) => sDII_app (g := g) (obj := obj) (t := t) (k := n) (j := m) (d := c[i]) (dx := rdD c[i]) rfl
      unfold rdD at hcc
      repeat refine cl_seq ?_
      refine cl_rs hΓ [0,1,5,6,7,13,14,15,32,33] [[6, 0]] fun K' hK => ?_
      simp only [go_sem, Nat.reduceLT, Nat.reduceAdd, Nat.reduceEqDiff, Nat.reduceSub, Nat.reduceMul, Nat.reduceBEq, reduceIte, reduceCtorEq]
      repeat (refine ⟨ob, ?_⟩)
      refine hK _ ?_ ?_ <;> clear K' hK <;> simp only [go_sem, Nat.reduceLT, Nat.reduceAdd, Nat.reduceEqDiff, Nat.reduceSub, Nat.reduceMul, Nat.reduceBEq, reduceIte, reduceCtorEq]
      repeat refine cl_seq ?_
      refine cl_ds hΓ hP [[], [], [], [1, 2], [1, 2, 3], [1, 2, 3, 4], [], [], [6, 7], [6, 7, 8], [6, 7, 8, 9], [0, 1, 2, 3, 4, 5, 6, 7, 8, 9, 10], [0, 1, 2, 3, 4, 5, 6, 7, 8, 9, 10, 11], [0, 1, 2, 3, 4, 5, 6, 7, 8, 9, 10, 11, 12], [0, 1, 2, 3, 4, 5, 6, 7, 8, 9, 10, 11, 12], [0, 1, 2, 3, 4, 5, 6, 7, 8, 9, 10, 11, 12, 13, 14], [0, 1, 2, 3, 4, 5, 6, 7, 8, 9, 10, 11, 12, 13, 14, 15], [0, 1, 2, 3, 4, 5, 6, 7, 8, 9, 10, 11, 12], [0, 1, 2, 3, 4, 5, 6, 7, 8, 9, 10, 11, 12], [0, 1, 2, 3, 4, 5, 6, 7, 8, 9, 10, 11, 12, 17, 18], [0, 1, 2, 3, 4, 5, 6, 7, 8, 9, 10, 11, 12, 17, 18, 19], [0, 1, 2, 3, 4, 5, 6, 7, 8, 9, 10, 11, 12, 13, 14, 15, 16, 17, 18, 19, 20], [0, 1, 2, 3, 4, 5, 6, 7, 8, 9, 10, 11, 12, 13, 14, 15, 16, 17, 18, 19, 20, 21]] [0,1,5,6,13,14,15,32,33,58] [[6, 0]] (by kernel_rfl) fun K' hK => ?_
      simp only [go_sem, Nat.reduceLT, Nat.reduceAdd, Nat.reduceEqDiff, Nat.reduceSub, Nat.reduceMul, Nat.reduceBEq, reduceIte, reduceCtorEq, map_getD hjc, map_getD hjd, map_getD hds, Int.toNat_natCast, Int.natCast_nonneg, hjc', hjd', hds', hcc]
      repeat (refine ⟨ob, ?_⟩)
      first | refine ⟨by rfl, ?_⟩ | skip
      refine hK _ ?_ ?_ <;> clear K' hK <;> simp only [go_sem, Nat.reduceLT, Nat.reduceAdd, Nat.reduceEqDiff, Nat.reduceSub, Nat.reduceMul, Nat.reduceBEq, reduceIte, reduceCtorEq, map_getD hjc, map_getD hjd, map_getD hds, Int.toNat_natCast, Int.natCast_nonneg, hjc', hjd', hds', hcc]
      repeat refine cl_seq ?_
      refine cl_cond rfl rfl (fun hb => ?_) (fun hb => ?_)
      · repeat refine cl_seq ?_
        repeat refine cl_seq ?_
        refine cl_rs hΓ [4] [] fun K' hK => ?_
        simp only [go_sem, Nat.reduceLT, Nat.reduceAdd, Nat.reduceEqDiff, Nat.reduceSub, Nat.reduceMul, Nat.reduceBEq, reduceIte, reduceCtorEq]
        repeat (refine ⟨ob, ?_⟩)
        refine hK _ ?_ ?_ <;> clear K' hK <;> simp only [go_sem, Nat.reduceLT, Nat.reduceAdd, Nat.reduceEqDiff, Nat.reduceSub, Nat.reduceMul, Nat.reduceBEq, reduceIte, reduceCtorEq]
        refine cl_ret ?_
        simp only [go_sem, Nat.reduceLT, Nat.reduceAdd, Nat.reduceEqDiff, Nat.reduceSub, Nat.reduceMul, Nat.reduceBEq, reduceIte, reduceCtorEq]
        rw [trueB_not fun h => by
          have h1 := (h.2 i hic hds).2 j hlt
          have h2 : (q1 c[j] c[i] && decide (ds[j] > ds[i])) = true := hb
          rw [h1] at h2; cases h2]
      · have hn : (q1 c[j] c[i] && decide (ds[j] > ds[i])) = false := hb
        clear hb
        repeat refine cl_seq ?_
        refine cl_skip ?_
        refine cl_nil ?_
        simp only [go_sem, Nat.reduceLT, Nat.reduceAdd, Nat.reduceEqDiff, Nat.reduceSub, Nat.reduceMul, Nat.reduceBEq, reduceIte, reduceCtorEq]
        refine cl_keep [0,1,5,6,13,14,15,32,33] [[6, 0]] ?_ ?_
        · simp only [go_sem, Nat.reduceLT, Nat.reduceAdd, Nat.reduceEqDiff, Nat.reduceSub, Nat.reduceMul, Nat.reduceBEq, reduceIte, reduceCtorEq]
        simp only [go_sem, Nat.reduceLT, Nat.reduceAdd, Nat.reduceEqDiff, Nat.reduceSub, Nat.reduceMul, Nat.reduceBEq, reduceIte, reduceCtorEq]
        repeat refine cl_seq ?_
        refine cl_r hΓ fun K' hK => ?_
        simp only [go_sem, Nat.reduceLT, Nat.reduceAdd, Nat.reduceEqDiff, Nat.reduceSub, Nat.reduceMul, Nat.reduceBEq, reduceIte, reduceCtorEq]
        repeat (refine ⟨ob, ?_⟩)
        refine hK _ ?_
        clear K' hK
        simp only [go_sem, Nat.reduceLT, Nat.reduceAdd, Nat.reduceEqDiff, Nat.reduceSub, Nat.reduceMul, Nat.reduceBEq, reduceIte, reduceCtorEq]
        refine ⟨j + 1, ⟨hlt, fun k hk h => ?_⟩, (show i - (j + 1) < i - j by omega), ?_⟩
        · by_cases e : k = j
          · subst e; exact hn
          · exact hzj k hk (by omega)
        refine weak_eq [0,1,5,6,13,14,15,32,33] [[6, 0]] ?_ ?_
        · simp only [go_sem, Nat.reduceLT, Nat.reduceAdd, Nat.reduceEqDiff, Nat.reduceSub, Nat.reduceMul, Nat.reduceBEq, reduceIte, reduceCtorEq, wrap_succ hlt (show i ≤ maxLen by omega), Int.natCast_add, Int.natCast_one]
        · simp only [go_sem, Nat.reduceLT, Nat.reduceAdd, Nat.reduceEqDiff, Nat.reduceSub, Nat.reduceMul, Nat.reduceBEq, reduceIte, reduceCtorEq, wrap_succ hlt (show i ≤ maxLen by omega), Int.natCast_add, Int.natCast_one]
    · have hge : j = i := by
        have : ¬ (j : Int) < i := by simpa using hb
        omega
      subst hge
      clear hb
      repeat refine cl_seq ?_
      refine cl_exit ?_
      simp only [go_sem, Nat.reduceLT, Nat.reduceAdd, Nat.reduceEqDiff, Nat.reduceSub, Nat.reduceMul, Nat.reduceBEq, reduceIte, reduceCtorEq]
      refine cl_keep [0,1,13,14,15] [] ?_ ?_
      · simp only [go_sem, Nat.reduceLT, Nat.reduceAdd, Nat.reduceEqDiff, Nat.reduceSub, Nat.reduceMul, Nat.reduceBEq, reduceIte, reduceCtorEq]
      simp only [go_sem, Nat.reduceLT, Nat.reduceAdd, Nat.reduceEqDiff, Nat.reduceSub, Nat.reduceMul, Nat.reduceBEq, reduceIte, reduceCtorEq]
      repeat refine cl_seq ?_
      refine cl_r hΓ fun K' hK => ?_
      simp only [go_sem, Nat.reduceLT, Nat.reduceAdd, Nat.reduceEqDiff, Nat.reduceSub, Nat.reduceMul, Nat.reduceBEq, reduceIte, reduceCtorEq]
      repeat (refine ⟨ob, ?_⟩)
      refine hK _ ?_
      clear K' hK
      simp only [go_sem, Nat.reduceLT, Nat.reduceAdd, Nat.reduceEqDiff, Nat.reduceSub, Nat.reduceMul, Nat.reduceBEq, reduceIte, reduceCtorEq]
      refine ⟨j + 1, ⟨by omega, fun i' h h' hi' => ?_⟩, (show c.length - (j + 1) < c.length - j by omega), ?_⟩
      · by_cases e : i' = j
        · subst e; exact ⟨hin1, fun k hk => hzj k hk hk⟩
        · exact hz i' h h' (by omega)
      refine weak_eq [0,1,13,14,15] [] ?_ ?_
      · simp only [go_sem, Nat.reduceLT, Nat.reduceAdd, Nat.reduceEqDiff, Nat.reduceSub, Nat.reduceMul, Nat.reduceBEq, reduceIte, reduceCtorEq, wrap_succ (show j < c.length by omega) hl, Int.natCast_add, Int.natCast_one]
      · simp only [go_sem, Nat.reduceLT, Nat.reduceAdd, Nat.reduceEqDiff, Nat.reduceSub, Nat.reduceMul, Nat.reduceBEq, reduceIte, reduceCtorEq, wrap_succ (show j < c.length by omega) hl, Int.natCast_add, Int.natCast_one]
  · have hge : i = c.length := by
      have : ¬ (i : Int) < c.length := by simpa using hb
      omega
    subst hge
    clear hb
    repeat refine cl_seq ?_
    refine cl_exit ?_
    simp only [go_sem, Nat.reduceLT, Nat.reduceAdd, Nat.reduceEqDiff, Nat.reduceSub, Nat.reduceMul, Nat.reduceBEq, reduceIte, reduceCtorEq]
    refine cl_keep [] [] ?_ ?_
    · simp only [go_sem, Nat.reduceLT, Nat.reduceAdd, Nat.reduceEqDiff, Nat.reduceSub, Nat.reduceMul, Nat.reduceBEq, reduceIte, reduceCtorEq]
    simp only [go_sem, Nat.reduceLT, Nat.reduceAdd, Nat.reduceEqDiff, Nat.reduceSub, Nat.reduceMul, Nat.reduceBEq, reduceIte, reduceCtorEq]
    repeat refine cl_seq ?_
    refine cl_rs hΓ [4] [] fun K' hK => ?_
    simp only [go_sem, Nat.reduceLT, Nat.reduceAdd, Nat.reduceEqDiff, Nat.reduceSub, Nat.reduceMul, Nat.reduceBEq, reduceIte, reduceCtorEq]
    repeat (refine ⟨ob, ?_⟩)
    refine hK _ ?_ ?_ <;> clear K' hK <;> simp only [go_sem, Nat.reduceLT, Nat.reduceAdd, Nat.reduceEqDiff, Nat.reduceSub, Nat.reduceMul, Nat.reduceBEq, reduceIte, reduceCtorEq]
    refine cl_ret ?_
    simp only [go_sem, Nat.reduceLT, Nat.reduceAdd, Nat.reduceEqDiff, Nat.reduceSub, Nat.reduceMul, Nat.reduceBEq, reduceIte, reduceCtorEq]
    rw [trueB_yes ⟨hlen, fun i h h' => hz i h h' h⟩]
set_option maxHeartbeats 8000000 in
theorem s119 : PSound Tryz.prog 119 (pDays fun c ds => .bool (trueB sameThB c ds)) := by
  refine psoundB (rs := [.tmp 4]) Tryz.func119 Tryz.ntmps119 (by rfl) (by kernel_rfl) (by decide) (by rintro _ xs ⟨l, g, rfl⟩; rfl) ⟨_, rfl, ?_⟩
  rintro xs ⟨c, ds, rfl⟩ hw
  have hl : c.length ≤ maxLen := by have := hw.1.1; simpa using this
  refine ⟨Nat.le_of_ble_eq_true rfl, ?_⟩
  rw [pDays_fn]
  have hΓ := K40_sound
  have hP := mixedK
  have hin := fun (obj : Name → Option O) (t : Name) (a b c : Int) => sIn_app (obj := obj) (t := t) (a := a) (b := b) (c := c)
  repeat refine cl_seq ?_
  refine cl_rs hΓ [0,1] [] fun K' hK => ?_
  simp only [go_sem, Nat.reduceLT, Nat.reduceAdd, Nat.reduceEqDiff, Nat.reduceSub, Nat.reduceMul, Nat.reduceBEq, reduceIte, reduceCtorEq]
  repeat (refine ⟨ob, ?_⟩)
  refine hK _ ?_ ?_ <;> clear K' hK <;> simp only [go_sem, Nat.reduceLT, Nat.reduceAdd, Nat.reduceEqDiff, Nat.reduceSub, Nat.reduceMul, Nat.reduceBEq, reduceIte, reduceCtorEq]
  repeat refine cl_seq ?_
  refine cl_rs hΓ [0,1,12] [] fun K' hK => ?_
  simp only [go_sem, Nat.reduceLT, Nat.reduceAdd, Nat.reduceEqDiff, Nat.reduceSub, Nat.reduceMul, Nat.reduceBEq, reduceIte, reduceCtorEq]
  repeat (refine ⟨ob, ?_⟩)
  refine hK _ ?_ ?_ <;> clear K' hK <;> simp only [go_sem, Nat.reduceLT, Nat.reduceAdd, Nat.reduceEqDiff, Nat.reduceSub, Nat.reduceMul, Nat.reduceBEq, reduceIte, reduceCtorEq]
  repeat refine cl_seq ?_
  refine cl_cond rfl rfl (fun hb => ?_) (fun hb => ?_)
  · repeat refine cl_seq ?_
    repeat refine cl_seq ?_
    refine cl_rs hΓ [4] [] fun K' hK => ?_
    simp only [go_sem, Nat.reduceLT, Nat.reduceAdd, Nat.reduceEqDiff, Nat.reduceSub, Nat.reduceMul, Nat.reduceBEq, reduceIte, reduceCtorEq]
    repeat (refine ⟨ob, ?_⟩)
    refine hK _ ?_ ?_ <;> clear K' hK <;> simp only [go_sem, Nat.reduceLT, Nat.reduceAdd, Nat.reduceEqDiff, Nat.reduceSub, Nat.reduceMul, Nat.reduceBEq, reduceIte, reduceCtorEq]
    refine cl_ret ?_
    simp only [go_sem, Nat.reduceLT, Nat.reduceAdd, Nat.reduceEqDiff, Nat.reduceSub, Nat.reduceMul, Nat.reduceBEq, reduceIte, reduceCtorEq]
    have hne : ds.length ≠ c.length := by
      have : ((ds.length : Int) != (c.length : Int)) = true := hb
      simp at this; omega
    rw [trueB_not fun h => hne h.1]
  have hlen : ds.length = c.length := by
    have : ((ds.length : Int) != (c.length : Int)) = false := hb
    simp at this; omega
  clear hb
  repeat refine cl_seq ?_
  refine cl_skip ?_
  repeat refine cl_seq ?_
  refine cl_rs hΓ [0,1,13,14,15] [] fun K' hK => ?_
  simp only [go_sem, Nat.reduceLT, Nat.reduceAdd, Nat.reduceEqDiff, Nat.reduceSub, Nat.reduceMul, Nat.reduceBEq, reduceIte, reduceCtorEq]
  repeat (refine ⟨ob, ?_⟩)
  refine hK _ ?_ ?_ <;> clear K' hK <;> simp only [go_sem, Nat.reduceLT, Nat.reduceAdd, Nat.reduceEqDiff, Nat.reduceSub, Nat.reduceMul, Nat.reduceBEq, reduceIte, reduceCtorEq]
  repeat refine cl_seq ?_
  refine cl_block ?_
  repeat refine cl_seq ?_
  refine cl_loop' (fun s : Nat => [(15, ⟨true, .v (vInt s)⟩)]) (fun s => []) (fun s => s ≤ c.length ∧ ∀ i (h : i < c.length) (h' : i < ds.length), i < s → inI ds[i] c[i].dl c[i].dh = true ∧ ∀ k (hk : k < i), (sameThB c[k] c[i] && decide (ds[k] > ds[i])) = false) (fun s => c.length - s) 0 ?_ ?_ ?_ ?_
  · exact ⟨Nat.zero_le _, fun i h h' hj => by omega⟩
  · rfl
  · rfl
  rintro i ⟨hi, hz⟩
  simp only [go_sem, Nat.reduceLT, Nat.reduceAdd, Nat.reduceEqDiff, Nat.reduceSub, Nat.reduceMul, Nat.reduceBEq, reduceIte, reduceCtorEq]
  repeat refine cl_seq ?_
  repeat refine cl_seq ?_
  refine cl_rs hΓ [0,1,13,14,15,16] [] fun K' hK => ?_
  simp only [go_sem, Nat.reduceLT, Nat.reduceAdd, Nat.reduceEqDiff, Nat.reduceSub, Nat.reduceMul, Nat.reduceBEq, reduceIte, reduceCtorEq]
  repeat (refine ⟨ob, ?_⟩)
  refine hK _ ?_ ?_ <;> clear K' hK <;> simp only [go_sem, Nat.reduceLT, Nat.reduceAdd, Nat.reduceEqDiff, Nat.reduceSub, Nat.reduceMul, Nat.reduceBEq, reduceIte, reduceCtorEq]
  repeat refine cl_seq ?_
  refine cl_cond rfl rfl (fun hb => ?_) (fun hb => ?_)
  · have hlt : i < c.length := by simpa using hb
    have hlt' : (i : Int) < c.length := by omega
    clear hb
    repeat refine cl_seq ?_
    refine cl_skip ?_
    repeat refine cl_seq ?_
    refine cl_block ?_
    repeat refine cl_seq ?_
    have hds : i < ds.length := by omega
    have hds' : (i : Int) < ds.length := by omega
    repeat refine cl_seq ?_
    refine cl_rs hΓ [0,1,5,6,13,14,15] [[6, 0]] fun K' hK => ?_
    simp only [go_sem, Nat.reduceLT, Nat.reduceAdd, Nat.reduceEqDiff, Nat.reduceSub, Nat.reduceMul, Nat.reduceBEq, reduceIte, reduceCtorEq, map_getD hlt, Int.toNat_natCast, Int.natCast_nonneg, hlt']
    repeat (refine ⟨ob, ?_⟩)
    refine hK _ ?_ ?_ <;> clear K' hK <;> simp only [go_sem, Nat.reduceLT, Nat.reduceAdd, Nat.reduceEqDiff, Nat.reduceSub, Nat.reduceMul, Nat.reduceBEq, reduceIte, reduceCtorEq, map_getD hlt, Int.toNat_natCast, Int.natCast_nonneg, hlt']
    repeat refine cl_seq ?_
    refine cl_ds hΓ hP [[], [], [0, 1], [0, 1, 2], [], [4], [4, 5], [], [7], [7, 8], [0, 1, 2, 3, 4, 5, 6, 7, 8, 9], [0, 1, 2, 3, 4, 5, 6, 7, 8, 9, 10]] [0,1,5,6,13,14,15,31] [[6, 0]] (by kernel_rfl) fun K' hK => ?_
    simp only [go_sem, Nat.reduceLT, Nat.reduceAdd, Nat.reduceEqDiff, Nat.reduceSub, Nat.reduceMul, Nat.reduceBEq, reduceIte, reduceCtorEq, map_getD hds, Int.toNat_natCast, Int.natCast_nonneg, hds', hin]
    repeat (refine ⟨ob, ?_⟩)
    first | refine ⟨by rfl, ?_⟩ | skip
    refine hK _ ?_ ?_ <;> clear K' hK <;> simp only [go_sem, Nat.reduceLT, Nat.reduceAdd, Nat.reduceEqDiff, Nat.reduceSub, Nat.reduceMul, Nat.reduceBEq, reduceIte, reduceCtorEq, map_getD hds, Int.toNat_natCast, Int.natCast_nonneg, hds', hin]
    repeat refine cl_seq ?_
    refine cl_cond rfl rfl (fun hb => ?_) (fun hb => ?_)
    · repeat refine cl_seq ?_
      repeat refine cl_seq ?_
      refine cl_rs hΓ [4] [] fun K' hK => ?_
      simp only [go_sem, Nat.reduceLT, Nat.reduceAdd, Nat.reduceEqDiff, Nat.reduceSub, Nat.reduceMul, Nat.reduceBEq, reduceIte, reduceCtorEq]
      repeat (refine ⟨ob, ?_⟩)
      refine hK _ ?_ ?_ <;> clear K' hK <;> simp only [go_sem, Nat.reduceLT, Nat.reduceAdd, Nat.reduceEqDiff, Nat.reduceSub, Nat.reduceMul, Nat.reduceBEq, reduceIte, reduceCtorEq]
      refine cl_ret ?_
      simp only [go_sem, Nat.reduceLT, Nat.reduceAdd, Nat.reduceEqDiff, Nat.reduceSub, Nat.reduceMul, Nat.reduceBEq, reduceIte, reduceCtorEq]
      rw [trueB_not fun h => by
        have h1 := (h.2 i hlt hds).1
        rw [h1] at hb; cases hb]
    have hin1 : inI ds[i] c[i].dl c[i].dh = true := by simpa using hb
    clear hb
    repeat refine cl_seq ?_
    refine cl_skip ?_
    repeat refine cl_seq ?_
    refine cl_rs hΓ [0,1,5,6,7,13,14,15] [[6, 0]] fun K' hK => ?_
    simp only [go_sem, Nat.reduceLT, Nat.reduceAdd, Nat.reduceEqDiff, Nat.reduceSub, Nat.reduceMul, Nat.reduceBEq, reduceIte, reduceCtorEq]
    repeat (refine ⟨ob, ?_⟩)
    refine hK _ ?_ ?_ <;> clear K' hK <;> simp only [go_sem, Nat.reduceLT, Nat.reduceAdd, Nat.reduceEqDiff, Nat.reduceSub, Nat.reduceMul, Nat.reduceBEq, reduceIte, reduceCtorEq]
    repeat refine cl_seq ?_
    refine cl_block ?_
    repeat refine cl_seq ?_
    refine cl_loop' (fun s : Nat => [(7, ⟨true, .v (vInt s)⟩)]) (fun s => []) (fun s => s ≤ i ∧ ∀ k (hk : k < i), k < s → (sameThB c[k] c[i] && decide (ds[k] > ds[i])) = false) (fun s => i - s) 0 ?_ ?_ ?_ ?_
    · exact ⟨Nat.zero_le _, fun k hk h => by omega⟩
    · rfl
    · rfl
    rintro j ⟨hj, hzj⟩
    simp only [go_sem, Nat.reduceLT, Nat.reduceAdd, Nat.reduceEqDiff, Nat.reduceSub, Nat.reduceMul, Nat.reduceBEq, reduceIte, reduceCtorEq]
    repeat refine cl_seq ?_
    repeat refine cl_seq ?_
    refine cl_rs hΓ [0,1,5,6,7,13,14,15,34] [[6, 0]] fun K' hK => ?_
    simp only [go_sem, Nat.reduceLT, Nat.reduceAdd, Nat.reduceEqDiff, Nat.reduceSub, Nat.reduceMul, Nat.reduceBEq, reduceIte, reduceCtorEq]
    repeat (refine ⟨ob, ?_⟩)
    refine hK _ ?_ ?_ <;> clear K' hK <;> simp only [go_sem, Nat.reduceLT, Nat.reduceAdd, Nat.reduceEqDiff, Nat.reduceSub, Nat.reduceMul, Nat.reduceBEq, reduceIte, reduceCtorEq]
    repeat refine cl_seq ?_
    refine cl_cond rfl rfl (fun hb => ?_) (fun hb => ?_)
    · have hlt : j < i := by simpa using hb
      have hlt' : (j : Int) < i := by omega
      clear hb
      repeat refine cl_seq ?_
      refine cl_skip ?_
      repeat refine cl_seq ?_
      refine cl_block ?_
      repeat refine cl_seq ?_
      have hjc : j < c.length := by omega
      have hjc' : (j : Int) < c.length := by omega
      have hjd : j < ds.length := by omega
      have hjd' : (j : Int) < ds.length := by omega
      have hic : i < c.length := by omega
      have hcc := fun (g : Deed → Deed → V) (obj : Name → Option O) (t : Name) (a b : Deed) => sDDb_vr (g := g) (obj := obj) (t := t) (a := a) (b := b)
      simp only [encD, rdD] at hcc
      repeat refine cl_seq ?_
      refine cl_ds hΓ hP [[], [], [0, 1], [0, 1, 2], [], [0, 1, 2, 3, 4], [0, 1, 2, 3, 4, 5], [0, 1, 2, 3, 4, 5, 6], [0, 1, 2, 3, 4, 5, 6], [0, 1, 2, 3, 4, 5, 6, 7, 8], [0, 1, 2, 3, 4, 5, 6, 7, 8, 9], [0, 1, 2, 3, 4, 5, 6], [0, 1, 2, 3, 4, 5, 6], [0, 1, 2, 3, 4, 5, 6, 11, 12], [0, 1, 2, 3, 4, 5, 6, 11, 12, 13], [0, 1, 2, 3, 4, 5, 6, 7, 8, 9, 10, 11, 12, 13, 14], [0, 1, 2, 3, 4, 5, 6, 7, 8, 9, 10, 11, 12, 13, 14, 15]] [0,1,5,6,7,13,14,15,53] [[6, 0]] (by kernel_rfl) fun K' hK => ?_
      simp only [go_sem, Nat.reduceLT, Nat.reduceAdd, Nat.reduceEqDiff, Nat.reduceSub, Nat.reduceMul, Nat.reduceBEq, reduceIte, reduceCtorEq, map_getD hjc, map_getD hjd, map_getD hds, Int.toNat_natCast, Int.natCast_nonneg, hjc', hjd', hds', hcc]
      repeat (refine ⟨ob, ?_⟩)
      first | refine ⟨by rfl, ?_⟩ | skip
      refine hK _ ?_ ?_ <;> clear K' hK <;> simp only [go_sem, Nat.reduceLT, Nat.reduceAdd, Nat.reduceEqDiff, Nat.reduceSub, Nat.reduceMul, Nat.reduceBEq, reduceIte, reduceCtorEq, map_getD hjc, map_getD hjd, map_getD hds, Int.toNat_natCast, Int.natCast_nonneg, hjc', hjd', hds', hcc]
      repeat refine cl_seq ?_
      refine cl_cond rfl rfl (fun hb => ?_) (fun hb => ?_)
      · repeat refine cl_seq ?_
        repeat refine cl_seq ?_
        refine cl_rs hΓ [4] [] fun K' hK => ?_
        simp only [go_sem, Nat.reduceLT, Nat.reduceAdd, Nat.reduceEqDiff, Nat.reduceSub, Nat.reduceMul, Nat.reduceBEq, reduceIte, reduceCtorEq]
        repeat (refine ⟨ob, ?_⟩)
        refine hK _ ?_ ?_ <;> clear K' hK <;> simp only [go_sem, Nat.reduceLT, Nat.reduceAdd, Nat.reduceEqDiff, Nat.reduceSub, Nat.reduceMul, Nat.reduceBEq, reduceIte, reduceCtorEq]
        refine cl_ret ?_
        simp only [go_sem, Nat.reduceLT, Nat.reduceAdd, Nat.reduceEqDiff, Nat.reduceSub, Nat.reduceMul, Nat.reduceBEq, reduceIte, reduceCtorEq]
        rw [trueB_not fun h => by
          have h1 := (h.2 i hic hds).2 j hlt
          have h2 : (sameThB c[j] c[i] && decide (ds[j] > ds[i])) = true := hb
          rw [h1] at h2; cases h2]
      · have hn : (sameThB c[j] c[i] && decide (ds[j] > ds[i])) = false := hb
        clear hb
        repeat refine cl_seq ?_
        refine cl_skip ?_
        refine cl_nil ?_
        simp only [go_sem, Nat.reduceLT, Nat.reduceAdd, Nat.reduceEqDiff, Nat.reduceSub, Nat.reduceMul, Nat.reduceBEq, reduceIte, reduceCtorEq]
        refine cl_keep [0,1,5,6,7,13,14,15] [[6, 0]] ?_ ?_
        · simp only [go_sem, Nat.reduceLT, Nat.reduceAdd, Nat.reduceEqDiff, Nat.reduceSub, Nat.reduceMul, Nat.reduceBEq, reduceIte, reduceCtorEq]
        simp only [go_sem, Nat.reduceLT, Nat.reduceAdd, Nat.reduceEqDiff, Nat.reduceSub, Nat.reduceMul, Nat.reduceBEq, reduceIte, reduceCtorEq]
        repeat refine cl_seq ?_
        refine cl_r hΓ fun K' hK => ?_
        simp only [go_sem, Nat.reduceLT, Nat.reduceAdd, Nat.reduceEqDiff, Nat.reduceSub, Nat.reduceMul, Nat.reduceBEq, reduceIte, reduceCtorEq]
        repeat (refine ⟨ob, ?_⟩)
        refine hK _ ?_
        clear K' hK
        simp only [go_sem, Nat.reduceLT, Nat.reduceAdd, Nat.reduceEqDiff, Nat.reduceSub, Nat.reduceMul, Nat.reduceBEq, reduceIte, reduceCtorEq]
        refine ⟨j + 1, ⟨hlt, fun k hk h => ?_⟩, (show i - (j + 1) < i - j by omega), ?_⟩
        · by_cases e : k = j
          · subst e; exact hn
          · exact hzj k hk (by omega)
        refine weak_eq [0,1,5,6,7,13,14,15] [[6, 0]] ?_ ?_
        · simp only [go_sem, Nat.reduceLT, Nat.reduceAdd, Nat.reduceEqDiff, Nat.reduceSub, Nat.reduceMul, Nat.reduceBEq, reduceIte, reduceCtorEq, wrap_succ hlt (show i ≤ maxLen by omega), Int.natCast_add, Int.natCast_one]
        · simp only [go_sem, Nat.reduceLT, Nat.reduceAdd, Nat.reduceEqDiff, Nat.reduceSub, Nat.reduceMul, Nat.reduceBEq, reduceIte, reduceCtorEq, wrap_succ hlt (show i ≤ maxLen by omega), Int.natCast_add, Int.natCast_one]
    · have hge : j = i := by
        have : ¬ (j : Int) < i := by simpa using hb
        omega
      subst hge
      clear hb
      repeat refine cl_seq ?_
      refine cl_exit ?_
      simp only [go_sem, Nat.reduceLT, Nat.reduceAdd, Nat.reduceEqDiff, Nat.reduceSub, Nat.reduceMul, Nat.reduceBEq, reduceIte, reduceCtorEq]
      refine cl_keep [0,1,13,14,15] [] ?_ ?_
      · simp only [go_sem, Nat.reduceLT, Nat.reduceAdd, Nat.reduceEqDiff, Nat.reduceSub, Nat.reduceMul, Nat.reduceBEq, reduceIte, reduceCtorEq]
      simp only [go_sem, Nat.reduceLT, Nat.reduceAdd, Nat.reduceEqDiff, Nat.reduceSub, Nat.reduceMul, Nat.reduceBEq, reduceIte, reduceCtorEq]
      repeat refine cl_seq ?_
      refine cl_r hΓ fun K' hK => ?_
      simp only [go_sem, Nat.reduceLT, Nat.reduceAdd, Nat.reduceEqDiff, Nat.reduceSub, Nat.reduceMul, Nat.reduceBEq, reduceIte, reduceCtorEq]
      repeat (refine ⟨ob, ?_⟩)
      refine hK _ ?_
      clear K' hK
      simp only [go_sem, Nat.reduceLT, Nat.reduceAdd, Nat.reduceEqDiff, Nat.reduceSub, Nat.reduceMul, Nat.reduceBEq, reduceIte, reduceCtorEq]
      refine ⟨j + 1, ⟨by omega, fun i' h h' hi' => ?_⟩, (show c.length - (j + 1) < c.length - j by omega), ?_⟩
      · by_cases e : i' = j
        · subst e; exact ⟨hin1, fun k hk => hzj k hk hk⟩
        · exact hz i' h h' (by omega)
      refine weak_eq [0,1,13,14,15] [] ?_ ?_
      · simp only [go_sem, Nat.reduceLT, Nat.reduceAdd, Nat.reduceEqDiff, Nat.reduceSub, Nat.reduceMul, Nat.reduceBEq, reduceIte, reduceCtorEq, wrap_succ (show j < c.length by omega) hl, Int.natCast_add, Int.natCast_one]
      · simp only [go_sem, Nat.reduceLT, Nat.reduceAdd, Nat.reduceEqDiff, Nat.reduceSub, Nat.reduceMul, Nat.reduceBEq, reduceIte, reduceCtorEq, wrap_succ (show j < c.length by omega) hl, Int.natCast_add, Int.natCast_one]
  · have hge : i = c.length := by
      have : ¬ (i : Int) < c.length := by simpa using hb
      omega
    subst hge
    clear hb
    repeat refine cl_seq ?_
    refine cl_exit ?_
    simp only [go_sem, Nat.reduceLT, Nat.reduceAdd, Nat.reduceEqDiff, Nat.reduceSub, Nat.reduceMul, Nat.reduceBEq, reduceIte, reduceCtorEq]
    refine cl_keep [] [] ?_ ?_
    · simp only [go_sem, Nat.reduceLT, Nat.reduceAdd, Nat.reduceEqDiff, Nat.reduceSub, Nat.reduceMul, Nat.reduceBEq, reduceIte, reduceCtorEq]
    simp only [go_sem, Nat.reduceLT, Nat.reduceAdd, Nat.reduceEqDiff, Nat.reduceSub, Nat.reduceMul, Nat.reduceBEq, reduceIte, reduceCtorEq]
    repeat refine cl_seq ?_
    refine cl_rs hΓ [4] [] fun K' hK => ?_
    simp only [go_sem, Nat.reduceLT, Nat.reduceAdd, Nat.reduceEqDiff, Nat.reduceSub, Nat.reduceMul, Nat.reduceBEq, reduceIte, reduceCtorEq]
    repeat (refine ⟨ob, ?_⟩)
    refine hK _ ?_ ?_ <;> clear K' hK <;> simp only [go_sem, Nat.reduceLT, Nat.reduceAdd, Nat.reduceEqDiff, Nat.reduceSub, Nat.reduceMul, Nat.reduceBEq, reduceIte, reduceCtorEq]
    refine cl_ret ?_
    simp only [go_sem, Nat.reduceLT, Nat.reduceAdd, Nat.reduceEqDiff, Nat.reduceSub, Nat.reduceMul, Nat.reduceBEq, reduceIte, reduceCtorEq]
    rw [trueB_yes ⟨hlen, fun i h h' => hz i h h' h⟩]
end Go.Eng
namespace Go.Eng
open Go Go.Proofs
set_option maxRecDepth 10000
noncomputable def sDays2 (f : List Deed → List Int → V) : Spec := (pDays f).toSpec
theorem sDays2_app {f : List Deed → List Int → V} {obj : Name → Option O} {t : Name} {l : List Deed} {ds : List Int} : (sDays2 f).app obj t [.v (.sl (l.map encD)), .v (.sl (ds.map vInt))] = ⟨True, .v (f l ds), obj⟩ := by
  simp only [sDays2, PSpec.toSpec, frzL, frz, pDays_fn]
  simp only [pDays, if_true]
  congr 1
  simp only [eq_iff_iff, iff_true]
  exact ⟨⟨trivial, trivial, trivial⟩, l, ds, rfl⟩
noncomputable def K41 : FuncId → Option Spec := fun f => match f with
  | 70 => some sDaysI
  | 72 => some sDaysI
  | 81 => some (sLI okL (fun l k => .sl ((countL l k).map encD)) false)
  | 29 => some (sLI okL (fun l k => .sl ((countL l k).map encD)) false)
  | 118 => some (sDays2 fun c ds => .bool (trueB q1 c ds))
  | 119 => some (sDays2 fun c ds => .bool (trueB sameThB c ds))
  | 117 => some (sDDb fun a b => .bool (sameThB a b))
  | _ => none
theorem K41_sound : ∀ f s, K41 f = some s → SSound Tryz.prog f s := by
  intro f s h
  unfold K41 at h
  split at h
  · cases h; exact s70.sound
  · cases h; exact s72.sound
  · cases h; exact s81.sound
  · cases h; exact s29.sound
  · cases h; exact s118.sound
  · cases h; exact s119.sound
  · cases h; exact s117.sound
  · cases h
@[go_sem] theorem K41_70 : K41 70 = some sDaysI := rfl
@[go_sem] theorem K41_72 : K41 72 = some sDaysI := rfl
@[go_sem] theorem K41_81 : K41 81 = some (sLI okL (fun l k => .sl ((countL l k).map encD)) false) := rfl
@[go_sem] theorem K41_29 : K41 29 = some (sLI okL (fun l k => .sl ((countL l k).map encD)) false) := rfl
@[go_sem] theorem K41_118 : K41 118 = some (sDays2 fun c ds => .bool (trueB q1 c ds)) := rfl
@[go_sem] theorem K41_119 : K41 119 = some (sDays2 fun c ds => .bool (trueB sameThB c ds)) := rfl
@[go_sem] theorem K41_117 : K41 117 = some (sDDb fun a b => .bool (sameThB a b)) := rfl
noncomputable def ctI (q : Deed → Deed → Bool) (l : List Deed) (k : Int) (ds : List Int) : Int := if daysI l [k] = 0 then (if trueB q (countL l k) ds then 0 else 17) else daysI l [k]
theorem ct_same {l : List Deed} {k : Int} {ds : List Int} : ctI sameThB l k ds = ctI q1 l k ds := by
  unfold ctI
  by_cases hz : daysI l [k] = 0
  · rw [if_pos hz, if_pos hz]
    have hok := days_ok hz
    have e : trueB sameThB (countL l k) ds = trueB q1 (countL l k) ds := by
      unfold trueB
      exact decide_eq_decide.2 (trueP_congr (p := sameThB) (q := q1) (c := countL l k) (ds := ds) fun a ha b hb => same_is (countL_valid hok k a ha) (countL_valid hok k b hb))
    rw [e]
  · rw [if_neg hz, if_neg hz]
def pLKD (f : List Deed → Int → List Int → V) : PSpec := ⟨fun xs => ∃ (l : List Deed) (k : Int) (b : List Int), xs = [.sl (l.map encD), vInt k, .sl (b.map vInt)], fun xs => match xs with | [.sl l, .int _ k, .sl b] => f (l.map decD) k (b.map decI) | _ => .bool false, true⟩
theorem pLKD_fn (f : List Deed → Int → List Int → V) (l : List Deed) (k : Int) (b : List Int) : (pLKD f).fn [.sl (l.map encD), vInt k, .sl (b.map vInt)] = f l k b := by
  simp only [pLKD, decD_map, decI_map]
theorem s57 : PSound Tryz.prog 57 (pLKD fun l k ds => vInt (ctI q1 l k ds)) := by
  refine psoundB (rs := [.tmp 6]) Tryz.func57 Tryz.ntmps57 (by rfl) (by kernel_rfl) (by decide) (by rintro _ xs ⟨l, k, b, rfl⟩; rfl) ⟨_, rfl, ?_⟩
  rintro xs ⟨l, k, ds, rfl⟩ hw
  refine ⟨Nat.le_of_ble_eq_true rfl, ?_⟩
  rw [pLKD_fn]
  have hΓ := K41_sound
  have h2 := fun (f : List Deed → List Int → V) (obj : Name → Option O) (t : Name) => sDays2_app (f := f) (obj := obj) (t := t) (l := countL l k) (ds := ds)
  repeat refine cl_seq ?_
  refine cl_rs hΓ [0,1,2] [] fun K' hK => ?_
  simp only [go_sem, Nat.reduceLT, Nat.reduceAdd, Nat.reduceEqDiff, Nat.reduceSub, Nat.reduceMul, Nat.reduceBEq, reduceIte, reduceCtorEq]
  repeat (refine ⟨ob, ?_⟩)
  refine hK _ ?_ ?_ <;> clear K' hK <;> simp only [go_sem, Nat.reduceLT, Nat.reduceAdd, Nat.reduceEqDiff, Nat.reduceSub, Nat.reduceMul, Nat.reduceBEq, reduceIte, reduceCtorEq]
  repeat refine cl_seq ?_
  refine cl_rs hΓ [0,1,2,7] [] fun K' hK => ?_
  simp only [go_sem, Nat.reduceLT, Nat.reduceAdd, Nat.reduceEqDiff, Nat.reduceSub, Nat.reduceMul, Nat.reduceBEq, reduceIte, reduceCtorEq, sDaysI_one]
  repeat (refine ⟨ob, ?_⟩)
  refine hK _ ?_ ?_ <;> clear K' hK <;> simp only [go_sem, Nat.reduceLT, Nat.reduceAdd, Nat.reduceEqDiff, Nat.reduceSub, Nat.reduceMul, Nat.reduceBEq, reduceIte, reduceCtorEq, sDaysI_one]
  repeat refine cl_seq ?_
  refine cl_rs hΓ [0,1,2,7,13] [] fun K' hK => ?_
  simp only [go_sem, Nat.reduceLT, Nat.reduceAdd, Nat.reduceEqDiff, Nat.reduceSub, Nat.reduceMul, Nat.reduceBEq, reduceIte, reduceCtorEq]
  repeat (refine ⟨ob, ?_⟩)
  refine hK _ ?_ ?_ <;> clear K' hK <;> simp only [go_sem, Nat.reduceLT, Nat.reduceAdd, Nat.reduceEqDiff, Nat.reduceSub, Nat.reduceMul, Nat.reduceBEq, reduceIte, reduceCtorEq]
  repeat refine cl_seq ?_
  refine cl_cond rfl rfl (fun hb => ?_) (fun hb => ?_)
  · repeat refine cl_seq ?_
    repeat refine cl_seq ?_
    refine cl_rs hΓ [6] [] fun K' hK => ?_
    simp only [go_sem, Nat.reduceLT, Nat.reduceAdd, Nat.reduceEqDiff, Nat.reduceSub, Nat.reduceMul, Nat.reduceBEq, reduceIte, reduceCtorEq]
    repeat (refine ⟨ob, ?_⟩)
    refine hK _ ?_ ?_ <;> clear K' hK <;> simp only [go_sem, Nat.reduceLT, Nat.reduceAdd, Nat.reduceEqDiff, Nat.reduceSub, Nat.reduceMul, Nat.reduceBEq, reduceIte, reduceCtorEq]
    refine cl_ret ?_
    simp only [go_sem, Nat.reduceLT, Nat.reduceAdd, Nat.reduceEqDiff, Nat.reduceSub, Nat.reduceMul, Nat.reduceBEq, reduceIte, reduceCtorEq]
    have hn : ¬ daysI l [k] = 0 := by simpa using hb
    unfold ctI; rw [if_neg hn]
  have hz : daysI l [k] = 0 := by simpa using hb
  have hok := days_ok hz
  clear hb
  repeat refine cl_seq ?_
  refine cl_skip ?_
  have hc := fun (obj : Name → Option O) (t : Name) (f : List Deed → Int → V) (fl : Bool) => sLI_app (P := okL) (f := f) (fl := fl) (obj := obj) (t := t) (k := k) hok
  repeat refine cl_seq ?_
  refine cl_rs hΓ [20] [] fun K' hK => ?_
  simp only [go_sem, Nat.reduceLT, Nat.reduceAdd, Nat.reduceEqDiff, Nat.reduceSub, Nat.reduceMul, Nat.reduceBEq, reduceIte, reduceCtorEq, hc, h2]
  repeat (refine ⟨ob, ?_⟩)
  refine hK _ ?_ ?_ <;> clear K' hK <;> simp only [go_sem, Nat.reduceLT, Nat.reduceAdd, Nat.reduceEqDiff, Nat.reduceSub, Nat.reduceMul, Nat.reduceBEq, reduceIte, reduceCtorEq, hc, h2]
  repeat refine cl_seq ?_
  refine cl_cond rfl rfl (fun hb => ?_) (fun hb => ?_)
  · repeat refine cl_seq ?_
    repeat refine cl_seq ?_
    refine cl_rs hΓ [6] [] fun K' hK => ?_
    simp only [go_sem, Nat.reduceLT, Nat.reduceAdd, Nat.reduceEqDiff, Nat.reduceSub, Nat.reduceMul, Nat.reduceBEq, reduceIte, reduceCtorEq]
    repeat (refine ⟨ob, ?_⟩)
    refine hK _ ?_ ?_ <;> clear K' hK <;> simp only [go_sem, Nat.reduceLT, Nat.reduceAdd, Nat.reduceEqDiff, Nat.reduceSub, Nat.reduceMul, Nat.reduceBEq, reduceIte, reduceCtorEq]
    refine cl_ret ?_
    simp only [go_sem, Nat.reduceLT, Nat.reduceAdd, Nat.reduceEqDiff, Nat.reduceSub, Nat.reduceMul, Nat.reduceBEq, reduceIte, reduceCtorEq]
    unfold ctI; rw [if_pos hz, if_neg (by simpa using hb)]
  · repeat refine cl_seq ?_
    refine cl_skip ?_
    repeat refine cl_seq ?_
    refine cl_rs hΓ [6] [] fun K' hK => ?_
    simp only [go_sem, Nat.reduceLT, Nat.reduceAdd, Nat.reduceEqDiff, Nat.reduceSub, Nat.reduceMul, Nat.reduceBEq, reduceIte, reduceCtorEq]
    repeat (refine ⟨ob, ?_⟩)
    refine hK _ ?_ ?_ <;> clear K' hK <;> simp only [go_sem, Nat.reduceLT, Nat.reduceAdd, Nat.reduceEqDiff, Nat.reduceSub, Nat.reduceMul, Nat.reduceBEq, reduceIte, reduceCtorEq]
    refine cl_ret ?_
    simp only [go_sem, Nat.reduceLT, Nat.reduceAdd, Nat.reduceEqDiff, Nat.reduceSub, Nat.reduceMul, Nat.reduceBEq, reduceIte, reduceCtorEq]
    unfold ctI; rw [if_pos hz, if_pos (by simpa using hb)]
theorem s58 : PSound Tryz.prog 58 (pLKD fun l k ds => vInt (ctI sameThB l k ds)) := by
  refine psoundB (rs := [.tmp 6]) Tryz.func58 Tryz.ntmps58 (by rfl) (by kernel_rfl) (by decide) (by rintro _ xs ⟨l, k, b, rfl⟩; rfl) ⟨_, rfl, ?_⟩
  rintro xs ⟨l, k, ds, rfl⟩ hw
  refine ⟨Nat.le_of_ble_eq_true rfl, ?_⟩
  rw [pLKD_fn]
  have hΓ := K41_sound
  have h2 := fun (f : List Deed → List Int → V) (obj : Name → Option O) (t : Name) => sDays2_app (f := f) (obj := obj) (t := t) (l := countL l k) (ds := ds)
  repeat refine cl_seq ?_
  refine cl_rs hΓ [0,1,2] [] fun K' hK => ?_
  simp only [go_sem, Nat.reduceLT, Nat.reduceAdd, Nat.reduceEqDiff, Nat.reduceSub, Nat.reduceMul, Nat.reduceBEq, reduceIte, reduceCtorEq]
  repeat (refine ⟨ob, ?_⟩)
  refine hK _ ?_ ?_ <;> clear K' hK <;> simp only [go_sem, Nat.reduceLT, Nat.reduceAdd, Nat.reduceEqDiff, Nat.reduceSub, Nat.reduceMul, Nat.reduceBEq, reduceIte, reduceCtorEq]
  repeat refine cl_seq ?_
  refine cl_rs hΓ [0,1,2,7] [] fun K' hK => ?_
  simp only [go_sem, Nat.reduceLT, Nat.reduceAdd, Nat.reduceEqDiff, Nat.reduceSub, Nat.reduceMul, Nat.reduceBEq, reduceIte, reduceCtorEq, sDaysI_one]
  repeat (refine ⟨ob, ?_⟩)
  refine hK _ ?_ ?_ <;> clear K' hK <;> simp only [go_sem, Nat.reduceLT, Nat.reduceAdd, Nat.reduceEqDiff, Nat.reduceSub, Nat.reduceMul, Nat.reduceBEq, reduceIte, reduceCtorEq, sDaysI_one]
  repeat refine cl_seq ?_
  refine cl_rs hΓ [0,1,2,7,13] [] fun K' hK => ?_
  simp only [go_sem, Nat.reduceLT, Nat.reduceAdd, Nat.reduceEqDiff, Nat.reduceSub, Nat.reduceMul, Nat.reduceBEq, reduceIte, reduceCtorEq]
  repeat (refine ⟨ob, ?_⟩)
  refine hK _ ?_ ?_ <;> clear K' hK <;> simp only [go_sem, Nat.reduceLT, Nat.reduceAdd, Nat.reduceEqDiff, Nat.reduceSub, Nat.reduceMul, Nat.reduceBEq, reduceIte, reduceCtorEq]
  repeat refine cl_seq ?_
  refine cl_cond rfl rfl (fun hb => ?_) (fun hb => ?_)
  · repeat refine cl_seq ?_
    repeat refine cl_seq ?_
    refine cl_rs hΓ [6] [] fun K' hK => ?_
    simp only [go_sem, Nat.reduceLT, Nat.reduceAdd, Nat.reduceEqDiff, Nat.reduceSub, Nat.reduceMul, Nat.reduceBEq, reduceIte, reduceCtorEq]
    repeat (refine ⟨ob, ?_⟩)
    refine hK _ ?_ ?_ <;> clear K' hK <;> simp only [go_sem, Nat.reduceLT, Nat.reduceAdd, Nat.reduceEqDiff, Nat.reduceSub, Nat.reduceMul, Nat.reduceBEq, reduceIte, reduceCtorEq]
    refine cl_ret ?_
    simp only [go_sem, Nat.reduceLT, Nat.reduceAdd, Nat.reduceEqDiff, Nat.reduceSub, Nat.reduceMul, Nat.reduceBEq, reduceIte, reduceCtorEq]
    have hn : ¬ daysI l [k] = 0 := by simpa using hb
    unfold ctI; rw [if_neg hn]
  have hz : daysI l [k] = 0 := by simpa using hb
  have hok := days_ok hz
  clear hb
  repeat refine cl_seq ?_
  refine cl_skip ?_
  have hc := fun (obj : Name → Option O) (t : Name) (f : List Deed → Int → V) (fl : Bool) => sLI_app (P := okL) (f := f) (fl := fl) (obj := obj) (t := t) (k := k) hok
  repeat refine cl_seq ?_
  refine cl_rs hΓ [20] [] fun K' hK => ?_
  simp only [go_sem, Nat.reduceLT, Nat.reduceAdd, Nat.reduceEqDiff, Nat.reduceSub, Nat.reduceMul, Nat.reduceBEq, reduceIte, reduceCtorEq, hc, h2]
  repeat (refine ⟨ob, ?_⟩)
  refine hK _ ?_ ?_ <;> clear K' hK <;> simp only [go_sem, Nat.reduceLT, Nat.reduceAdd, Nat.reduceEqDiff, Nat.reduceSub, Nat.reduceMul, Nat.reduceBEq, reduceIte, reduceCtorEq, hc, h2]
  repeat refine cl_seq ?_
  refine cl_cond rfl rfl (fun hb => ?_) (fun hb => ?_)
  · repeat refine cl_seq ?_
    repeat refine cl_seq ?_
    refine cl_rs hΓ [6] [] fun K' hK => ?_
    simp only [go_sem, Nat.reduceLT, Nat.reduceAdd, Nat.reduceEqDiff, Nat.reduceSub, Nat.reduceMul, Nat.reduceBEq, reduceIte, reduceCtorEq]
    repeat (refine ⟨ob, ?_⟩)
    refine hK _ ?_ ?_ <;> clear K' hK <;> simp only [go_sem, Nat.reduceLT, Nat.reduceAdd, Nat.reduceEqDiff, Nat.reduceSub, Nat.reduceMul, Nat.reduceBEq, reduceIte, reduceCtorEq]
    refine cl_ret ?_
    simp only [go_sem, Nat.reduceLT, Nat.reduceAdd, Nat.reduceEqDiff, Nat.reduceSub, Nat.reduceMul, Nat.reduceBEq, reduceIte, reduceCtorEq]
    unfold ctI; rw [if_pos hz, if_neg (by simpa using hb)]
  · repeat refine cl_seq ?_
    refine cl_skip ?_
    repeat refine cl_seq ?_
    refine cl_rs hΓ [6] [] fun K' hK => ?_
    simp only [go_sem, Nat.reduceLT, Nat.reduceAdd, Nat.reduceEqDiff, Nat.reduceSub, Nat.reduceMul, Nat.reduceBEq, reduceIte, reduceCtorEq]
    repeat (refine ⟨ob, ?_⟩)
    refine hK _ ?_ ?_ <;> clear K' hK <;> simp only [go_sem, Nat.reduceLT, Nat.reduceAdd, Nat.reduceEqDiff, Nat.reduceSub, Nat.reduceMul, Nat.reduceBEq, reduceIte, reduceCtorEq]
    refine cl_ret ?_
    simp only [go_sem, Nat.reduceLT, Nat.reduceAdd, Nat.reduceEqDiff, Nat.reduceSub, Nat.reduceMul, Nat.reduceBEq, reduceIte, reduceCtorEq]
    unfold ctI; rw [if_pos hz, if_pos (by simpa using hb)]
/-! Days by the document -/
def rLo (d : Deed) (X : List Deed) : Int := X.foldl (fun m o => if sameThB d o then (if o.dl > m then o.dl else m) else m) d.dl
def rHi (d : Deed) (X : List Deed) : Int := X.foldl (fun m o => if sameThB d o then (if o.dh < m then o.dh else m) else m) d.dh
def dayR (c : List Deed) (i : Nat) : Int × Int := (rLo (c.getD i zeroD) (c.take i), rHi (c.getD i zeroD) (c.drop (i + 1)))
def daysRL (c : List Deed) : List (Int × Int) := (List.range c.length).map (dayR c)
theorem rLo_next {c : List Deed} {d : Deed} {i k : Nat} (hk : k < c.length) : rLo d (c.take (min (k + 1) i)) = if k < i then (if sameThB d c[k] then (if c[k].dl > rLo d (c.take (min k i)) then c[k].dl else rLo d (c.take (min k i))) else rLo d (c.take (min k i))) else rLo d (c.take (min k i)) := by
  by_cases h : k < i
  · rw [if_pos h, show min (k + 1) i = k + 1 by omega, show min k i = k by omega]
    unfold rLo
    rw [List.take_add_one, List.getElem?_eq_getElem hk, List.foldl_append]
    rfl
  · rw [if_neg h, show min (k + 1) i = i by omega, show min k i = i by omega]
theorem rHi_next {c : List Deed} {d : Deed} {i k : Nat} (hk : k < c.length) : rHi d ((c.take (k + 1)).drop (i + 1)) = if i < k then (if sameThB d c[k] then (if c[k].dh < rHi d ((c.take k).drop (i + 1)) then c[k].dh else rHi d ((c.take k).drop (i + 1))) else rHi d ((c.take k).drop (i + 1))) else rHi d ((c.take k).drop (i + 1)) := by
  by_cases h : i < k
  · rw [if_pos h]
    unfold rHi
    rw [List.take_add_one, List.getElem?_eq_getElem hk, List.drop_append_of_le_length (by simp; omega), List.foldl_append]
    rfl
  · rw [if_neg h, List.drop_eq_nil_of_le (by simp; omega), List.drop_eq_nil_of_le (by simp; omega)]
set_option maxHeartbeats 8000000 in
theorem s116 : PSound Tryz.prog 116 (pLen (fun c => c.length ≤ 60) fun c => .sl ((daysRL c).map vIt)) := by
  refine psoundB (rs := [.tmp 2]) Tryz.func116 Tryz.ntmps116 (by rfl) (by kernel_rfl) (by decide) (fun h => by cases h) ⟨_, rfl, ?_⟩
  rintro xs ⟨c, rfl, hc60⟩ hw
  have hl : c.length ≤ maxLen := by unfold maxLen; omega
  refine ⟨Nat.le_of_ble_eq_true rfl, ?_⟩
  rw [pLen_fn]
  have hΓ := K41_sound
  have hP := mixedK
  repeat refine cl_seq ?_
  refine cl_rs hΓ [0] [] fun K' hK => ?_
  simp only [go_sem, Nat.reduceLT, Nat.reduceAdd, Nat.reduceEqDiff, Nat.reduceSub, Nat.reduceMul, Nat.reduceBEq, reduceIte, reduceCtorEq]
  repeat (refine ⟨ob, ?_⟩)
  refine hK _ ?_ ?_ <;> clear K' hK <;> simp only [go_sem, Nat.reduceLT, Nat.reduceAdd, Nat.reduceEqDiff, Nat.reduceSub, Nat.reduceMul, Nat.reduceBEq, reduceIte, reduceCtorEq]
  repeat refine cl_seq ?_
  refine cl_rs hΓ [0,3] [] fun K' hK => ?_
  simp only [go_sem, Nat.reduceLT, Nat.reduceAdd, Nat.reduceEqDiff, Nat.reduceSub, Nat.reduceMul, Nat.reduceBEq, reduceIte, reduceCtorEq]
  repeat (refine ⟨ob, ?_⟩)
  refine hK _ ?_ ?_ <;> clear K' hK <;> simp only [go_sem, Nat.reduceLT, Nat.reduceAdd, Nat.reduceEqDiff, Nat.reduceSub, Nat.reduceMul, Nat.reduceBEq, reduceIte, reduceCtorEq]
  refine cl_weakM (σ' := mkS 62 [0] (fun _ => none) [(0, ⟨true, .v (.sl (c.map encD))⟩), (3, ⟨true, .msl [59, 0] 0⟩)] [([59, 0], .arr 2 [])]) (weakM_ghostk 3 [59, 0] 2 (by simp only [go_sem, Nat.reduceLT, Nat.reduceAdd, Nat.reduceEqDiff, Nat.reduceSub, Nat.reduceMul, Nat.reduceBEq, reduceIte, reduceCtorEq]) (by simp only [go_sem, Nat.reduceLT, Nat.reduceAdd, Nat.reduceEqDiff, Nat.reduceSub, Nat.reduceMul, Nat.reduceBEq, reduceIte, reduceCtorEq]) [0, 3] [[59, 0]] ?_ ?_) ?_
  · simp only [go_sem, Nat.reduceLT, Nat.reduceAdd, Nat.reduceEqDiff, Nat.reduceSub, Nat.reduceMul, Nat.reduceBEq, reduceIte, reduceCtorEq]
  · simp only [go_sem, Nat.reduceLT, Nat.reduceAdd, Nat.reduceEqDiff, Nat.reduceSub, Nat.reduceMul, Nat.reduceBEq, reduceIte, reduceCtorEq]
  repeat refine cl_seq ?_
  refine cl_rs hΓ [0,3,9,10,11] [[59, 0]] fun K' hK => ?_
  simp only [go_sem, Nat.reduceLT, Nat.reduceAdd, Nat.reduceEqDiff, Nat.reduceSub, Nat.reduceMul, Nat.reduceBEq, reduceIte, reduceCtorEq]
  repeat (refine ⟨ob, ?_⟩)
  refine hK _ ?_ ?_ <;> clear K' hK <;> simp only [go_sem, Nat.reduceLT, Nat.reduceAdd, Nat.reduceEqDiff, Nat.reduceSub, Nat.reduceMul, Nat.reduceBEq, reduceIte, reduceCtorEq]
  repeat refine cl_seq ?_
  refine cl_block ?_
  repeat refine cl_seq ?_
  refine cl_loop' (fun s : Nat => [(3, ⟨true, .msl [59, 0] s⟩), (11, ⟨true, .v (vInt s)⟩)]) (fun s => [([59, 0], .arr 2 (((List.range s).map (dayR c)).map vIt))]) (fun s => s ≤ c.length) (fun s => c.length - s) 0 ?_ ?_ ?_ ?_
  · exact Nat.zero_le _
  · rfl
  · rfl
  rintro i hi
  simp only [go_sem, Nat.reduceLT, Nat.reduceAdd, Nat.reduceEqDiff, Nat.reduceSub, Nat.reduceMul, Nat.reduceBEq, reduceIte, reduceCtorEq]
  repeat refine cl_seq ?_
  repeat refine cl_seq ?_
  refine cl_rs hΓ [0,3,9,10,11,12] [[59, 0]] fun K' hK => ?_
  simp only [go_sem, Nat.reduceLT, Nat.reduceAdd, Nat.reduceEqDiff, Nat.reduceSub, Nat.reduceMul, Nat.reduceBEq, reduceIte, reduceCtorEq]
  repeat (refine ⟨ob, ?_⟩)
  refine hK _ ?_ ?_ <;> clear K' hK <;> simp only [go_sem, Nat.reduceLT, Nat.reduceAdd, Nat.reduceEqDiff, Nat.reduceSub, Nat.reduceMul, Nat.reduceBEq, reduceIte, reduceCtorEq]
  repeat refine cl_seq ?_
  refine cl_cond rfl rfl (fun hb => ?_) (fun hb => ?_)
  · have hlt : i < c.length := by simpa using hb
    have hlt' : (i : Int) < c.length := by omega
    clear hb
    repeat refine cl_seq ?_
    refine cl_skip ?_
    repeat refine cl_seq ?_
    refine cl_block ?_
    repeat refine cl_seq ?_
    repeat refine cl_seq ?_
    refine cl_rs hΓ [0,3,4,5,9,10,11] [[5, 0],[59, 0]] fun K' hK => ?_
    simp only [go_sem, Nat.reduceLT, Nat.reduceAdd, Nat.reduceEqDiff, Nat.reduceSub, Nat.reduceMul, Nat.reduceBEq, reduceIte, reduceCtorEq, map_getD hlt, Int.toNat_natCast, Int.natCast_nonneg, hlt']
    repeat (refine ⟨ob, ?_⟩)
    refine hK _ ?_ ?_ <;> clear K' hK <;> simp only [go_sem, Nat.reduceLT, Nat.reduceAdd, Nat.reduceEqDiff, Nat.reduceSub, Nat.reduceMul, Nat.reduceBEq, reduceIte, reduceCtorEq, map_getD hlt, Int.toNat_natCast, Int.natCast_nonneg, hlt']
    repeat refine cl_seq ?_
    refine cl_rs hΓ [0,3,4,5,6,9,10,11] [[5, 0],[6, 0],[59, 0]] fun K' hK => ?_
    simp only [go_sem, Nat.reduceLT, Nat.reduceAdd, Nat.reduceEqDiff, Nat.reduceSub, Nat.reduceMul, Nat.reduceBEq, reduceIte, reduceCtorEq]
    repeat (refine ⟨ob, ?_⟩)
    refine hK _ ?_ ?_ <;> clear K' hK <;> simp only [go_sem, Nat.reduceLT, Nat.reduceAdd, Nat.reduceEqDiff, Nat.reduceSub, Nat.reduceMul, Nat.reduceBEq, reduceIte, reduceCtorEq]
    repeat refine cl_seq ?_
    refine cl_rs hΓ [0,3,4,5,6,9,10,11,18,19,20] [[5, 0],[6, 0],[59, 0]] fun K' hK => ?_
    simp only [go_sem, Nat.reduceLT, Nat.reduceAdd, Nat.reduceEqDiff, Nat.reduceSub, Nat.reduceMul, Nat.reduceBEq, reduceIte, reduceCtorEq]
    repeat (refine ⟨ob, ?_⟩)
    refine hK _ ?_ ?_ <;> clear K' hK <;> simp only [go_sem, Nat.reduceLT, Nat.reduceAdd, Nat.reduceEqDiff, Nat.reduceSub, Nat.reduceMul, Nat.reduceBEq, reduceIte, reduceCtorEq]
    repeat refine cl_seq ?_
    refine cl_block ?_
    repeat refine cl_seq ?_
    refine cl_loop' (fun s : Nat => [(20, ⟨true, .v (vInt s)⟩)]) (fun s => [([6, 0], .box [.v (vInt (rLo c[i] (c.take (min s i)))), .v (vInt (rHi c[i] ((c.take s).drop (i + 1))))])]) (fun s => s ≤ c.length) (fun s => c.length - s) 0 ?_ ?_ ?_ ?_
    · exact Nat.zero_le _
    · rfl
    · rfl
    rintro k hk
    simp only [go_sem, Nat.reduceLT, Nat.reduceAdd, Nat.reduceEqDiff, Nat.reduceSub, Nat.reduceMul, Nat.reduceBEq, reduceIte, reduceCtorEq]
    repeat refine cl_seq ?_
    repeat refine cl_seq ?_
    refine cl_rs hΓ [0,3,4,5,6,9,10,11,18,19,20,21] [[5, 0],[6, 0],[59, 0]] fun K' hK => ?_
    simp only [go_sem, Nat.reduceLT, Nat.reduceAdd, Nat.reduceEqDiff, Nat.reduceSub, Nat.reduceMul, Nat.reduceBEq, reduceIte, reduceCtorEq]
    repeat (refine ⟨ob, ?_⟩)
    refine hK _ ?_ ?_ <;> clear K' hK <;> simp only [go_sem, Nat.reduceLT, Nat.reduceAdd, Nat.reduceEqDiff, Nat.reduceSub, Nat.reduceMul, Nat.reduceBEq, reduceIte, reduceCtorEq]
    repeat refine cl_seq ?_
    refine cl_cond rfl rfl (fun hb => ?_) (fun hb => ?_)
    · have hlt : k < c.length := by simpa using hb
      have hlt' : (k : Int) < c.length := by omega
      clear hb
      repeat refine cl_seq ?_
      refine cl_skip ?_
      repeat refine cl_seq ?_
      refine cl_block ?_
      repeat refine cl_seq ?_
      have hic : i < c.length := by omega
      have hcc := fun (g : Deed → Deed → V) (obj : Name → Option O) (t : Name) => sDDb_app (g := g) (obj := obj) (t := t) (a := c[i]) (b := c[k]) (da := rdD c[i]) (db := rdD c[k]) rfl rfl
      unfold rdD at hcc
      have nLo := rLo_next (d := c[i]) (i := i) hlt
      have nHi := rHi_next (d := c[i]) (i := i) hlt
      repeat refine cl_seq ?_
      refine cl_rs hΓ [0,3,4,5,6,7,8,9,10,11,18,19,20] [[5, 0],[6, 0],[8, 0],[59, 0]] fun K' hK => ?_
      simp only [go_sem, Nat.reduceLT, Nat.reduceAdd, Nat.reduceEqDiff, Nat.reduceSub, Nat.reduceMul, Nat.reduceBEq, reduceIte, reduceCtorEq, map_getD hlt, Int.toNat_natCast, Int.natCast_nonneg, hlt']
      repeat (refine ⟨ob, ?_⟩)
      refine hK _ ?_ ?_ <;> clear K' hK <;> simp only [go_sem, Nat.reduceLT, Nat.reduceAdd, Nat.reduceEqDiff, Nat.reduceSub, Nat.reduceMul, Nat.reduceBEq, reduceIte, reduceCtorEq, map_getD hlt, Int.toNat_natCast, Int.natCast_nonneg, hlt']
      repeat refine cl_seq ?_
      refine cl_rs hΓ [0,3,4,5,6,7,8,9,10,11,18,19,20,32] [[5, 0],[6, 0],[8, 0],[59, 0]] fun K' hK => ?_
      simp only [go_sem, Nat.reduceLT, Nat.reduceAdd, Nat.reduceEqDiff, Nat.reduceSub, Nat.reduceMul, Nat.reduceBEq, reduceIte, reduceCtorEq, hcc]
      repeat (refine ⟨ob, ?_⟩)
      refine hK _ ?_ ?_ <;> clear K' hK <;> simp only [go_sem, Nat.reduceLT, Nat.reduceAdd, Nat.reduceEqDiff, Nat.reduceSub, Nat.reduceMul, Nat.reduceBEq, reduceIte, reduceCtorEq, hcc]
      repeat refine cl_seq ?_
      refine cl_cond rfl rfl (fun hb => ?_) (fun hb => ?_)
      · have hb' : sameThB c[i] c[k] = true ∧ k < i := by simpa using hb
        obtain ⟨hs, hki⟩ := hb'
        clear hb
        have hL : rLo c[i] (c.take (min (k + 1) i)) = (if c[k].dl > rLo c[i] (c.take (min k i)) then c[k].dl else rLo c[i] (c.take (min k i))) := by rw [nLo, if_pos hki, if_pos hs]
        have hH : rHi c[i] ((c.take (k + 1)).drop (i + 1)) = rHi c[i] ((c.take k).drop (i + 1)) := by rw [nHi, if_neg (by omega)]
        repeat refine cl_seq ?_
        repeat refine cl_seq ?_
        refine cl_rs hΓ [0,3,4,5,6,7,8,9,10,11,18,19,20] [[5, 0],[6, 0],[8, 0],[59, 0]] fun K' hK => ?_
        simp only [go_sem, Nat.reduceLT, Nat.reduceAdd, Nat.reduceEqDiff, Nat.reduceSub, Nat.reduceMul, Nat.reduceBEq, reduceIte, reduceCtorEq]
        repeat (refine ⟨ob, ?_⟩)
        refine hK _ ?_ ?_ <;> clear K' hK <;> simp only [go_sem, Nat.reduceLT, Nat.reduceAdd, Nat.reduceEqDiff, Nat.reduceSub, Nat.reduceMul, Nat.reduceBEq, reduceIte, reduceCtorEq]
        repeat refine cl_seq ?_
        refine cl_rs hΓ [0,3,4,5,6,8,9,10,11,18,19,20,47] [[5, 0],[6, 0],[8, 0],[59, 0]] fun K' hK => ?_
        simp only [go_sem, Nat.reduceLT, Nat.reduceAdd, Nat.reduceEqDiff, Nat.reduceSub, Nat.reduceMul, Nat.reduceBEq, reduceIte, reduceCtorEq, hcc]
        repeat (refine ⟨ob, ?_⟩)
        refine hK _ ?_ ?_ <;> clear K' hK <;> simp only [go_sem, Nat.reduceLT, Nat.reduceAdd, Nat.reduceEqDiff, Nat.reduceSub, Nat.reduceMul, Nat.reduceBEq, reduceIte, reduceCtorEq, hcc]
        repeat refine cl_seq ?_
        refine cl_cond rfl rfl (fun hb => ?_) (fun hb => ?_)
        · have : i < k := by
            have : sameThB c[i] c[k] = true ∧ i < k := by simpa using hb
            exact this.2
          omega
        · clear hb
          repeat refine cl_seq ?_
          refine cl_skip ?_
          refine cl_nil ?_
          simp only [go_sem, Nat.reduceLT, Nat.reduceAdd, Nat.reduceEqDiff, Nat.reduceSub, Nat.reduceMul, Nat.reduceBEq, reduceIte, reduceCtorEq]
          refine cl_keep [0,3,4,5,6,9,10,11,18,19,20] [[5, 0],[6, 0],[59, 0]] ?_ ?_
          · simp only [go_sem, Nat.reduceLT, Nat.reduceAdd, Nat.reduceEqDiff, Nat.reduceSub, Nat.reduceMul, Nat.reduceBEq, reduceIte, reduceCtorEq]
          simp only [go_sem, Nat.reduceLT, Nat.reduceAdd, Nat.reduceEqDiff, Nat.reduceSub, Nat.reduceMul, Nat.reduceBEq, reduceIte, reduceCtorEq]
          repeat refine cl_seq ?_
          refine cl_r hΓ fun K' hK => ?_
          simp only [go_sem, Nat.reduceLT, Nat.reduceAdd, Nat.reduceEqDiff, Nat.reduceSub, Nat.reduceMul, Nat.reduceBEq, reduceIte, reduceCtorEq]
          repeat (refine ⟨ob, ?_⟩)
          refine hK _ ?_
          clear K' hK
          simp only [go_sem, Nat.reduceLT, Nat.reduceAdd, Nat.reduceEqDiff, Nat.reduceSub, Nat.reduceMul, Nat.reduceBEq, reduceIte, reduceCtorEq]
          refine ⟨k + 1, hlt, (show c.length - (k + 1) < c.length - k by omega), ?_⟩
          rw [hL, hH]
          refine weak_eq [0,3,4,5,6,9,10,11,18,19,20] [[5, 0],[6, 0],[59, 0]] ?_ ?_
          · simp only [go_sem, Nat.reduceLT, Nat.reduceAdd, Nat.reduceEqDiff, Nat.reduceSub, Nat.reduceMul, Nat.reduceBEq, reduceIte, reduceCtorEq, wrap_succ hlt hl, Int.natCast_add, Int.natCast_one]
          · simp only [go_sem, Nat.reduceLT, Nat.reduceAdd, Nat.reduceEqDiff, Nat.reduceSub, Nat.reduceMul, Nat.reduceBEq, reduceIte, reduceCtorEq, wrap_succ hlt hl, Int.natCast_add, Int.natCast_one]
      · have hb' : sameThB c[i] c[k] = true → ¬ k < i := by
          intro h1 h2
          have : (sameThB c[i] c[k] && decide ((k : Int) < i)) = false := hb
          rw [h1] at this
          simp at this
          omega
        clear hb
        have hL : rLo c[i] (c.take (min (k + 1) i)) = rLo c[i] (c.take (min k i)) := by
          rw [nLo]
          split
          · rename_i h1
            rw [if_neg (fun h => hb' h h1)]
          · rfl
        repeat refine cl_seq ?_
        refine cl_skip ?_
        repeat refine cl_seq ?_
        refine cl_rs hΓ [0,3,4,5,6,8,9,10,11,18,19,20,47] [[5, 0],[6, 0],[8, 0],[59, 0]] fun K' hK => ?_
        simp only [go_sem, Nat.reduceLT, Nat.reduceAdd, Nat.reduceEqDiff, Nat.reduceSub, Nat.reduceMul, Nat.reduceBEq, reduceIte, reduceCtorEq, hcc]
        repeat (refine ⟨ob, ?_⟩)
        refine hK _ ?_ ?_ <;> clear K' hK <;> simp only [go_sem, Nat.reduceLT, Nat.reduceAdd, Nat.reduceEqDiff, Nat.reduceSub, Nat.reduceMul, Nat.reduceBEq, reduceIte, reduceCtorEq, hcc]
        repeat refine cl_seq ?_
        refine cl_cond rfl rfl (fun hb => ?_) (fun hb => ?_)
        · have hb2 : sameThB c[i] c[k] = true ∧ i < k := by simpa using hb
          obtain ⟨hs, hki⟩ := hb2
          clear hb
          have hH : rHi c[i] ((c.take (k + 1)).drop (i + 1)) = (if c[k].dh < rHi c[i] ((c.take k).drop (i + 1)) then c[k].dh else rHi c[i] ((c.take k).drop (i + 1))) := by rw [nHi, if_pos hki, if_pos hs]
          repeat refine cl_seq ?_
          repeat refine cl_seq ?_
          refine cl_r hΓ fun K' hK => ?_
          simp only [go_sem, Nat.reduceLT, Nat.reduceAdd, Nat.reduceEqDiff, Nat.reduceSub, Nat.reduceMul, Nat.reduceBEq, reduceIte, reduceCtorEq]
          repeat (refine ⟨ob, ?_⟩)
          refine hK _ ?_
          clear K' hK
          simp only [go_sem, Nat.reduceLT, Nat.reduceAdd, Nat.reduceEqDiff, Nat.reduceSub, Nat.reduceMul, Nat.reduceBEq, reduceIte, reduceCtorEq]
          refine cl_keep [0,3,4,5,6,9,10,11,18,19,20] [[5, 0],[6, 0],[59, 0]] ?_ ?_
          · simp only [go_sem, Nat.reduceLT, Nat.reduceAdd, Nat.reduceEqDiff, Nat.reduceSub, Nat.reduceMul, Nat.reduceBEq, reduceIte, reduceCtorEq]
          simp only [go_sem, Nat.reduceLT, Nat.reduceAdd, Nat.reduceEqDiff, Nat.reduceSub, Nat.reduceMul, Nat.reduceBEq, reduceIte, reduceCtorEq]
          repeat refine cl_seq ?_
          refine cl_r hΓ fun K' hK => ?_
          simp only [go_sem, Nat.reduceLT, Nat.reduceAdd, Nat.reduceEqDiff, Nat.reduceSub, Nat.reduceMul, Nat.reduceBEq, reduceIte, reduceCtorEq]
          repeat (refine ⟨ob, ?_⟩)
          refine hK _ ?_
          clear K' hK
          simp only [go_sem, Nat.reduceLT, Nat.reduceAdd, Nat.reduceEqDiff, Nat.reduceSub, Nat.reduceMul, Nat.reduceBEq, reduceIte, reduceCtorEq]
          refine ⟨k + 1, hlt, (show c.length - (k + 1) < c.length - k by omega), ?_⟩
          rw [hL, hH]
          refine weak_eq [0,3,4,5,6,9,10,11,18,19,20] [[5, 0],[6, 0],[59, 0]] ?_ ?_
          · simp only [go_sem, Nat.reduceLT, Nat.reduceAdd, Nat.reduceEqDiff, Nat.reduceSub, Nat.reduceMul, Nat.reduceBEq, reduceIte, reduceCtorEq, wrap_succ hlt hl, Int.natCast_add, Int.natCast_one]
          · simp only [go_sem, Nat.reduceLT, Nat.reduceAdd, Nat.reduceEqDiff, Nat.reduceSub, Nat.reduceMul, Nat.reduceBEq, reduceIte, reduceCtorEq, wrap_succ hlt hl, Int.natCast_add, Int.natCast_one]
        · have hb2 : sameThB c[i] c[k] = true → ¬ i < k := by
            intro h1 h2
            have : (sameThB c[i] c[k] && decide ((k : Int) > i)) = false := hb
            rw [h1] at this
            simp at this
            omega
          clear hb
          have hH : rHi c[i] ((c.take (k + 1)).drop (i + 1)) = rHi c[i] ((c.take k).drop (i + 1)) := by
            rw [nHi]
            split
            · rename_i h1
              rw [if_neg (fun h => hb2 h h1)]
            · rfl
          repeat refine cl_seq ?_
          refine cl_skip ?_
          refine cl_nil ?_
          simp only [go_sem, Nat.reduceLT, Nat.reduceAdd, Nat.reduceEqDiff, Nat.reduceSub, Nat.reduceMul, Nat.reduceBEq, reduceIte, reduceCtorEq]
          refine cl_keep [0,3,4,5,6,9,10,11,18,19,20] [[5, 0],[6, 0],[59, 0]] ?_ ?_
          · simp only [go_sem, Nat.reduceLT, Nat.reduceAdd, Nat.reduceEqDiff, Nat.reduceSub, Nat.reduceMul, Nat.reduceBEq, reduceIte, reduceCtorEq]
          simp only [go_sem, Nat.reduceLT, Nat.reduceAdd, Nat.reduceEqDiff, Nat.reduceSub, Nat.reduceMul, Nat.reduceBEq, reduceIte, reduceCtorEq]
          repeat refine cl_seq ?_
          refine cl_r hΓ fun K' hK => ?_
          simp only [go_sem, Nat.reduceLT, Nat.reduceAdd, Nat.reduceEqDiff, Nat.reduceSub, Nat.reduceMul, Nat.reduceBEq, reduceIte, reduceCtorEq]
          repeat (refine ⟨ob, ?_⟩)
          refine hK _ ?_
          clear K' hK
          simp only [go_sem, Nat.reduceLT, Nat.reduceAdd, Nat.reduceEqDiff, Nat.reduceSub, Nat.reduceMul, Nat.reduceBEq, reduceIte, reduceCtorEq]
          refine ⟨k + 1, hlt, (show c.length - (k + 1) < c.length - k by omega), ?_⟩
          rw [hL, hH]
          refine weak_eq [0,3,4,5,6,9,10,11,18,19,20] [[5, 0],[6, 0],[59, 0]] ?_ ?_
          · simp only [go_sem, Nat.reduceLT, Nat.reduceAdd, Nat.reduceEqDiff, Nat.reduceSub, Nat.reduceMul, Nat.reduceBEq, reduceIte, reduceCtorEq, wrap_succ hlt hl, Int.natCast_add, Int.natCast_one]
          · simp only [go_sem, Nat.reduceLT, Nat.reduceAdd, Nat.reduceEqDiff, Nat.reduceSub, Nat.reduceMul, Nat.reduceBEq, reduceIte, reduceCtorEq, wrap_succ hlt hl, Int.natCast_add, Int.natCast_one]
    · have hge : k = c.length := by
        have : ¬ (k : Int) < c.length := by simpa using hb
        omega
      subst hge
      clear hb
      repeat refine cl_seq ?_
      refine cl_exit ?_
      simp only [go_sem, Nat.reduceLT, Nat.reduceAdd, Nat.reduceEqDiff, Nat.reduceSub, Nat.reduceMul, Nat.reduceBEq, reduceIte, reduceCtorEq]
      refine cl_keep [0,3,6,9,10,11] [[6, 0],[59, 0]] ?_ ?_
      · simp only [go_sem, Nat.reduceLT, Nat.reduceAdd, Nat.reduceEqDiff, Nat.reduceSub, Nat.reduceMul, Nat.reduceBEq, reduceIte, reduceCtorEq]
      simp only [go_sem, Nat.reduceLT, Nat.reduceAdd, Nat.reduceEqDiff, Nat.reduceSub, Nat.reduceMul, Nat.reduceBEq, reduceIte, reduceCtorEq]
      have hic : i < c.length := by omega
      have eL : rLo c[i] (c.take (min c.length i)) = (dayR c i).1 := by
        unfold dayR
        rw [show min c.length i = i by omega]
        simp [List.getD_eq_getElem?_getD, hic]
      have eH : rHi c[i] ((c.take c.length).drop (i + 1)) = (dayR c i).2 := by
        unfold dayR
        rw [List.take_length]
        simp [List.getD_eq_getElem?_getD, hic]
      rw [eL, eH]
      repeat refine cl_seq ?_
      refine cl_r hΓ fun K' hK => ?_
      simp only [go_sem, Nat.reduceLT, Nat.reduceAdd, Nat.reduceEqDiff, Nat.reduceSub, Nat.reduceMul, Nat.reduceBEq, reduceIte, reduceCtorEq, te146, tz33]
      repeat' apply And.intro
      all_goals first | rfl | omega | exact Int.le_refl _ | exact Bool.or_not_self _ | exact Bool.not_or_self _ | exact enc_okI _ | exact enc_ok _ | exact fun x hx => (enc_okI _ x hx).1 | exact fun x hx => (enc_ok _ x hx).1 | (simp only [List.length_take, List.length_append, List.length_map, List.length_drop, List.length_cons, List.length_nil]; done) | (simp only [List.length_take, List.length_append, List.length_map, List.length_drop, List.length_cons, List.length_nil]; omega) | (simp only [List.length_take, List.length_append, List.length_map, List.length_drop, List.length_cons, List.length_nil, maxLen]; omega) | (exact fun _ => by decide) | (exact fun h => ⟨h, by decide⟩) | (simp only [decide_eq_true_eq]; omega) | (simp only [List.length_range, List.length_map, List.length_cons, List.length_nil]; done) | (simp only [List.length_range, List.length_map, List.length_cons, List.length_nil]; omega) | (simp only [List.length_range, List.length_map, List.length_cons, List.length_nil, maxLen]; omega) | skip
      refine hK _ ?_
      clear K' hK
      simp only [go_sem, Nat.reduceLT, Nat.reduceAdd, Nat.reduceEqDiff, Nat.reduceSub, Nat.reduceMul, Nat.reduceBEq, reduceIte, reduceCtorEq]
      refine cl_keep [0,3,9,10,11] [[59, 0]] ?_ ?_
      · simp only [go_sem, Nat.reduceLT, Nat.reduceAdd, Nat.reduceEqDiff, Nat.reduceSub, Nat.reduceMul, Nat.reduceBEq, reduceIte, reduceCtorEq]
      simp only [go_sem, Nat.reduceLT, Nat.reduceAdd, Nat.reduceEqDiff, Nat.reduceSub, Nat.reduceMul, Nat.reduceBEq, reduceIte, reduceCtorEq]
      repeat refine cl_seq ?_
      refine cl_r hΓ fun K' hK => ?_
      simp only [go_sem, Nat.reduceLT, Nat.reduceAdd, Nat.reduceEqDiff, Nat.reduceSub, Nat.reduceMul, Nat.reduceBEq, reduceIte, reduceCtorEq]
      repeat (refine ⟨ob, ?_⟩)
      refine hK _ ?_
      clear K' hK
      simp only [go_sem, Nat.reduceLT, Nat.reduceAdd, Nat.reduceEqDiff, Nat.reduceSub, Nat.reduceMul, Nat.reduceBEq, reduceIte, reduceCtorEq]
      refine ⟨i + 1, hic, (show c.length - (i + 1) < c.length - i by omega), ?_⟩
      refine weak_eq [0,3,9,10,11] [[59, 0]] ?_ ?_
      · simp only [go_sem, Nat.reduceLT, Nat.reduceAdd, Nat.reduceEqDiff, Nat.reduceSub, Nat.reduceMul, Nat.reduceBEq, reduceIte, reduceCtorEq]
      · simp only [go_sem, Nat.reduceLT, Nat.reduceAdd, Nat.reduceEqDiff, Nat.reduceSub, Nat.reduceMul, Nat.reduceBEq, reduceIte, reduceCtorEq, wrap_succ hic hl, Int.natCast_add, Int.natCast_one, List.range_succ, List.map_append, List.length_range]
        all_goals simp [vIt]
  · have hge : i = c.length := by
      have : ¬ (i : Int) < c.length := by simpa using hb
      omega
    subst hge
    clear hb
    repeat refine cl_seq ?_
    refine cl_exit ?_
    simp only [go_sem, Nat.reduceLT, Nat.reduceAdd, Nat.reduceEqDiff, Nat.reduceSub, Nat.reduceMul, Nat.reduceBEq, reduceIte, reduceCtorEq]
    refine cl_keep [3] [[59, 0]] ?_ ?_
    · simp only [go_sem, Nat.reduceLT, Nat.reduceAdd, Nat.reduceEqDiff, Nat.reduceSub, Nat.reduceMul, Nat.reduceBEq, reduceIte, reduceCtorEq]
    simp only [go_sem, Nat.reduceLT, Nat.reduceAdd, Nat.reduceEqDiff, Nat.reduceSub, Nat.reduceMul, Nat.reduceBEq, reduceIte, reduceCtorEq]
    repeat refine cl_seq ?_
    refine cl_rs hΓ [2] [[59, 0]] fun K' hK => ?_
    simp only [go_sem, Nat.reduceLT, Nat.reduceAdd, Nat.reduceEqDiff, Nat.reduceSub, Nat.reduceMul, Nat.reduceBEq, reduceIte, reduceCtorEq]
    repeat (refine ⟨ob, ?_⟩)
    refine hK _ ?_ ?_ <;> clear K' hK <;> simp only [go_sem, Nat.reduceLT, Nat.reduceAdd, Nat.reduceEqDiff, Nat.reduceSub, Nat.reduceMul, Nat.reduceBEq, reduceIte, reduceCtorEq]
    refine cl_ret ?_
    simp only [go_sem, Nat.reduceLT, Nat.reduceAdd, Nat.reduceEqDiff, Nat.reduceSub, Nat.reduceMul, Nat.reduceBEq, reduceIte, reduceCtorEq]
    simp [daysRL]
end Go.Eng
/- When: the program's days are the document's. -/
namespace Go.Eng
open Go Go.Proofs
theorem day_of {d : Deed} (h : isDeedB d = true) : 0 ≤ d.dl ∧ d.dl ≤ d.dh ∧ d.dh ≤ 100000 := by
  have : inI d.dl 0 d.dh = true ∧ inI d.dh 0 100000 = true := by
    unfold isDeedB at h
    grind
  simp only [inI_iff] at this
  omega
theorem rLo_filter {d : Deed} (hd : isDeedB d = true) : ∀ {X : List Deed} (m : Int), (∀ o ∈ X, isDeedB o = true) →
    X.foldl (fun m o => if sameThB d o then (if o.dl > m then o.dl else m) else m) m = (X.filter fun o => isOfB o d.lo d.pe).foldl (fun m o => if o.dl > m then o.dl else m) m
  | [], m, _ => rfl
  | o :: r, m, h => by
    have hs := same_is hd (h o (by simp))
    have ih := fun m => rLo_filter hd (X := r) m fun o ho => h o (by simp [ho])
    rw [List.foldl_cons, List.filter_cons, hs]
    by_cases h1 : isOfB o d.lo d.pe = true
    · rw [if_pos h1, if_pos h1, List.foldl_cons]; exact ih _
    · rw [if_neg h1, if_neg h1]; exact ih _
theorem rHi_filter {d : Deed} (hd : isDeedB d = true) : ∀ {X : List Deed} (m : Int), (∀ o ∈ X, isDeedB o = true) →
    X.foldl (fun m o => if sameThB d o then (if o.dh < m then o.dh else m) else m) m = (X.filter fun o => isOfB o d.lo d.pe).foldl (fun m o => if o.dh < m then o.dh else m) m
  | [], m, _ => rfl
  | o :: r, m, h => by
    have hs := same_is hd (h o (by simp))
    have ih := fun m => rHi_filter hd (X := r) m fun o ho => h o (by simp [ho])
    rw [List.foldl_cons, List.filter_cons, hs]
    by_cases h1 : isOfB o d.lo d.pe = true
    · rw [if_pos h1, if_pos h1, List.foldl_cons]; exact ih _
    · rw [if_neg h1, if_neg h1]; exact ih _
def mxF (m : Int) (o : Deed) : Int := if o.dl > m then o.dl else m
theorem mxF_eq (m : Int) (o : Deed) : mxF m o = max m o.dl := by unfold mxF; split <;> omega
theorem fold_max' : ∀ (X : List Deed) (a b : Int), b ≤ a → X.foldl mxF a = max a (X.foldl mxF b)
  | [], a, b, h => by simp only [List.foldl_nil]; omega
  | o :: r, a, b, h => by
    simp only [List.foldl_cons, mxF_eq]
    have h1 := fold_max' r (max a o.dl) (max b o.dl) (by omega)
    have h2 := fold_max' r (max b o.dl) (max b o.dl) (Int.le_refl _)
    rw [h1]
    omega
theorem fold_max (X : List Deed) (a b : Int) (h : b ≤ a) : X.foldl (fun m o => if o.dl > m then o.dl else m) a = (if a > X.foldl (fun m o => if o.dl > m then o.dl else m) b then a else X.foldl (fun m o => if o.dl > m then o.dl else m) b) := by
  have h1 : X.foldl (fun m o => if o.dl > m then o.dl else m) a = max a (X.foldl (fun m o => if o.dl > m then o.dl else m) b) := fold_max' X a b h
  rw [h1]
  generalize X.foldl (fun m o => if o.dl > m then o.dl else m) b = F
  split <;> omega
theorem findIdx_mid {p : Deed → Bool} : ∀ {X Y : List Deed} {d : Deed}, (∀ x ∈ X, p x = false) → p d = true → (X ++ d :: Y).findIdx p = X.length
  | [], Y, d, _, h => by simp [List.findIdx_cons, h]
  | x :: X, Y, d, h, hd => by
    rw [List.cons_append, List.findIdx_cons, h x (by simp)]
    simp only [cond_false, List.length_cons]
    rw [findIdx_mid (fun y hy => h y (by simp [hy])) hd]
theorem when_days {c : List Deed} (hs : c.Pairwise ltD) (hv : ∀ d ∈ c, isDeedB d = true) {i : Nat} (hi : i < c.length) :
    loM ((thrL c c[i].lo c[i].pe).take ((thrL c c[i].lo c[i].pe).findIdx (sameD c[i]) + 1)) = rLo c[i] (c.take i) ∧
    hiM ((thrL c c[i].lo c[i].pe).drop ((thrL c c[i].lo c[i].pe).findIdx (sameD c[i]))) = rHi c[i] (c.drop (i + 1)) := by
  have hd := hv _ (List.getElem_mem hi)
  have hc : c = c.take i ++ c[i] :: c.drop (i + 1) := by
    rw [List.getElem_cons_drop hi, List.take_append_drop]
  have ht : thrL c c[i].lo c[i].pe = thrL (c.take i) c[i].lo c[i].pe ++ c[i] :: thrL (c.drop (i + 1)) c[i].lo c[i].pe := by
    have h1 : thrL c c[i].lo c[i].pe = thrL (c.take i ++ c[i] :: c.drop (i + 1)) c[i].lo c[i].pe := by rw [← hc]
    rw [h1]
    unfold thrL
    rw [List.filter_append, List.filter_cons, if_pos (isOf_self hd)]
  have hnot : ∀ x ∈ thrL (c.take i) c[i].lo c[i].pe, sameD c[i] x = false := by
    intro x hx
    have hx' := (List.mem_filter.1 hx).1
    obtain ⟨j, hj, rfl⟩ := List.getElem_of_mem hx'
    have hj' : j < i := by simp at hj; omega
    rw [List.getElem_take]
    have := List.pairwise_iff_getElem.1 hs j i (by omega) hi hj'
    unfold sameD
    simp only [decide_eq_false_iff_not]
    intro e
    rw [← e] at this
    exact ltD_irr this
  have hx : (thrL c c[i].lo c[i].pe).findIdx (sameD c[i]) = (thrL (c.take i) c[i].lo c[i].pe).length := by
    rw [ht]
    exact findIdx_mid hnot (by simp [sameD])
  have hdl := day_of hd
  rw [hx, ht]
  constructor
  · rw [List.take_append, List.take_of_length_le (by omega), show (thrL (c.take i) c[i].lo c[i].pe).length + 1 - (thrL (c.take i) c[i].lo c[i].pe).length = 1 by omega, List.take_succ_cons, List.take_zero]
    unfold loM rLo
    rw [List.foldl_append, rLo_filter hd _ fun o ho => hv o (List.mem_of_mem_take ho)]
    simp only [List.foldl_cons, List.foldl_nil]
    exact (fold_max _ _ 0 hdl.1).symm
  · rw [List.drop_append, List.drop_of_length_le (by omega), Nat.sub_self, List.drop_zero, List.nil_append]
    unfold hiM rHi
    rw [rHi_filter hd _ fun o ho => hv o (List.mem_of_mem_drop ho), List.foldl_cons]
    have : (if c[i].dh < 100000 then c[i].dh else 100000) = c[i].dh := by split <;> omega
    rw [this]
    rfl
end Go.Eng
namespace Go.Eng
open Go Go.Proofs
set_option maxRecDepth 10000
noncomputable def K42 : FuncId → Option Spec := fun f => match f with
  | 72 => some sDaysI
  | 29 => some (sLI okL (fun l k => .sl ((countL l k).map encD)) false)
  | 114 => some (sL (fun _ => True) clashV)
  | 115 => some (sLit fun l a b => vInt (idxI l a b))
  | 116 => some (sL (fun c => c.length ≤ 60) fun c => .sl ((daysRL c).map vIt))
  | _ => none
theorem K42_sound : ∀ f s, K42 f = some s → SSound Tryz.prog f s := by
  intro f s h
  unfold K42 at h
  split at h
  · cases h; exact s72.sound
  · cases h; exact s29.sound
  · cases h; exact s114.sound
  · cases h; exact s115.sound
  · cases h; exact s116.sound
  · cases h
@[go_sem] theorem K42_72 : K42 72 = some sDaysI := rfl
@[go_sem] theorem K42_29 : K42 29 = some (sLI okL (fun l k => .sl ((countL l k).map encD)) false) := rfl
@[go_sem] theorem K42_114 : K42 114 = some (sL (fun _ => True) clashV) := rfl
@[go_sem] theorem K42_115 : K42 115 = some (sLit fun l a b => vInt (idxI l a b)) := rfl
@[go_sem] theorem K42_116 : K42 116 = some (sL (fun c => c.length ≤ 60) fun c => .sl ((daysRL c).map vIt)) := rfl
theorem daysRL_len (c : List Deed) : (daysRL c).length = c.length := by simp [daysRL]
theorem daysRL_get {c : List Deed} {i : Nat} (h : i < (daysRL c).length) : (daysRL c)[i] = dayR c i := by simp [daysRL]
set_option maxHeartbeats 8000000 in
theorem s54 : PSound Tryz.prog 54 (pLItI whenV) := by
  refine psoundB (rs := [.cell 6 33, .tmp 7]) Tryz.func54 Tryz.ntmps54 (by rfl) (by kernel_rfl) (by decide) (by
    rintro _ xs ⟨l, a, b, k, rfl⟩
    rw [pLItI_fn]
    exact when_flat l a b k) ⟨_, rfl, ?_⟩
  rintro xs ⟨l, a, b, k, rfl⟩ hw
  refine ⟨Nat.le_of_ble_eq_true rfl, ?_⟩
  rw [pLItI_fn]
  have hΓ := K42_sound
  have hP := mixedK
  repeat refine cl_seq ?_
  refine cl_rs hΓ [0,2,4,6] [[4, 0],[6, 0]] fun K' hK => ?_
  simp only [go_sem, Nat.reduceLT, Nat.reduceAdd, Nat.reduceEqDiff, Nat.reduceSub, Nat.reduceMul, Nat.reduceBEq, reduceIte, reduceCtorEq, tz33]
  repeat (refine ⟨ob, ?_⟩)
  refine hK _ ?_ ?_ <;> clear K' hK <;> simp only [go_sem, Nat.reduceLT, Nat.reduceAdd, Nat.reduceEqDiff, Nat.reduceSub, Nat.reduceMul, Nat.reduceBEq, reduceIte, reduceCtorEq, tz33]
  repeat refine cl_seq ?_
  refine cl_rs hΓ [0,2,4,6,8] [[4, 0],[6, 0]] fun K' hK => ?_
  simp only [go_sem, Nat.reduceLT, Nat.reduceAdd, Nat.reduceEqDiff, Nat.reduceSub, Nat.reduceMul, Nat.reduceBEq, reduceIte, reduceCtorEq, sDaysI_one]
  repeat (refine ⟨ob, ?_⟩)
  refine hK _ ?_ ?_ <;> clear K' hK <;> simp only [go_sem, Nat.reduceLT, Nat.reduceAdd, Nat.reduceEqDiff, Nat.reduceSub, Nat.reduceMul, Nat.reduceBEq, reduceIte, reduceCtorEq, sDaysI_one]
  repeat refine cl_seq ?_
  refine cl_rs hΓ [0,2,4,6,8,18] [[4, 0],[6, 0]] fun K' hK => ?_
  simp only [go_sem, Nat.reduceLT, Nat.reduceAdd, Nat.reduceEqDiff, Nat.reduceSub, Nat.reduceMul, Nat.reduceBEq, reduceIte, reduceCtorEq]
  repeat (refine ⟨ob, ?_⟩)
  refine hK _ ?_ ?_ <;> clear K' hK <;> simp only [go_sem, Nat.reduceLT, Nat.reduceAdd, Nat.reduceEqDiff, Nat.reduceSub, Nat.reduceMul, Nat.reduceBEq, reduceIte, reduceCtorEq]
  repeat refine cl_seq ?_
  refine cl_cond rfl rfl (fun hb => ?_) (fun hb => ?_)
  · repeat refine cl_seq ?_
    repeat refine cl_seq ?_
    refine cl_rs hΓ [6,7] [[6, 0]] fun K' hK => ?_
    simp only [go_sem, Nat.reduceLT, Nat.reduceAdd, Nat.reduceEqDiff, Nat.reduceSub, Nat.reduceMul, Nat.reduceBEq, reduceIte, reduceCtorEq, tz33, tp33, Nat.reduceLeDiff, Nat.le_refl]
    repeat (refine ⟨ob, ?_⟩)
    refine hK _ ?_ ?_ <;> clear K' hK <;> simp only [go_sem, Nat.reduceLT, Nat.reduceAdd, Nat.reduceEqDiff, Nat.reduceSub, Nat.reduceMul, Nat.reduceBEq, reduceIte, reduceCtorEq, tz33, tp33, Nat.reduceLeDiff, Nat.le_refl]
    refine cl_ret ?_
    simp only [go_sem, Nat.reduceLT, Nat.reduceAdd, Nat.reduceEqDiff, Nat.reduceSub, Nat.reduceMul, Nat.reduceBEq, reduceIte, reduceCtorEq]
    have hn : ¬ daysI l [k] = 0 := by simpa using hb
    unfold whenV; rw [if_neg hn]
    all_goals first | done | rfl | exact ⟨by decide, rfl⟩ | exact ⟨by decide, trivial⟩ | decide
  have hz : daysI l [k] = 0 := by simpa using hb
  have hok := days_ok hz
  have hsort := countL_sorted hok k
  have hval := countL_valid hok k
  have hlen : (countL l k).length ≤ 60 := by have := countL_len l k; have := hok.2.2; omega
  clear hb
  repeat refine cl_seq ?_
  refine cl_skip ?_
  have hc := fun (obj : Name → Option O) (t : Name) (f : List Deed → Int → V) (fl : Bool) => sLI_app (P := okL) (f := f) (fl := fl) (obj := obj) (t := t) (k := k) hok
  have hfi := fun (f : List Deed → Int → Int → V) (obj : Name → Option O) (t : Name) => sLit_app (f := f) (obj := obj) (t := t) (l := countL l k) (a := a) (b := b) (x := .agg [.v (vInt a), .v (vInt b)]) (.inr rfl)
  have hf := fun (obj : Name → Option O) (t : Name) (f : List Deed → V) (c : List Deed) => sL_app (P := fun _ => True) (f := f) (obj := obj) (t := t) (l := c) trivial
  have hdy := fun (obj : Name → Option O) (t : Name) (f : List Deed → V) => sL_app (P := fun c => c.length ≤ 60) (f := f) (obj := obj) (t := t) (l := countL l k) hlen
  repeat refine cl_seq ?_
  refine cl_rs hΓ [4,6,9] [[4, 0],[6, 0]] fun K' hK => ?_
  simp only [go_sem, Nat.reduceLT, Nat.reduceAdd, Nat.reduceEqDiff, Nat.reduceSub, Nat.reduceMul, Nat.reduceBEq, reduceIte, reduceCtorEq, hc]
  repeat (refine ⟨ob, ?_⟩)
  refine hK _ ?_ ?_ <;> clear K' hK <;> simp only [go_sem, Nat.reduceLT, Nat.reduceAdd, Nat.reduceEqDiff, Nat.reduceSub, Nat.reduceMul, Nat.reduceBEq, reduceIte, reduceCtorEq, hc]
  repeat refine cl_seq ?_
  refine cl_rs hΓ [6,9,10] [[6, 0]] fun K' hK => ?_
  simp only [go_sem, Nat.reduceLT, Nat.reduceAdd, Nat.reduceEqDiff, Nat.reduceSub, Nat.reduceMul, Nat.reduceBEq, reduceIte, reduceCtorEq, hfi]
  repeat (refine ⟨ob, ?_⟩)
  refine hK _ ?_ ?_ <;> clear K' hK <;> simp only [go_sem, Nat.reduceLT, Nat.reduceAdd, Nat.reduceEqDiff, Nat.reduceSub, Nat.reduceMul, Nat.reduceBEq, reduceIte, reduceCtorEq, hfi]
  repeat refine cl_seq ?_
  refine cl_rs hΓ [6,9,10,28] [[6, 0]] fun K' hK => ?_
  simp only [go_sem, Nat.reduceLT, Nat.reduceAdd, Nat.reduceEqDiff, Nat.reduceSub, Nat.reduceMul, Nat.reduceBEq, reduceIte, reduceCtorEq]
  repeat (refine ⟨ob, ?_⟩)
  refine hK _ ?_ ?_ <;> clear K' hK <;> simp only [go_sem, Nat.reduceLT, Nat.reduceAdd, Nat.reduceEqDiff, Nat.reduceSub, Nat.reduceMul, Nat.reduceBEq, reduceIte, reduceCtorEq]
  repeat refine cl_seq ?_
  by_cases h1 : (countL l k).findIdx (isItB a b) < (countL l k).length
  · obtain ⟨i, e1⟩ : ∃ i, (countL l k).findIdx (isItB a b) = i := ⟨_, rfl⟩
    have v1 : idxI (countL l k) a b = (i : Int) := by unfold idxI firstI; rw [if_pos h1, e1]
    have hat : atD (countL l k) (itD a b) = some ((countL l k)[(countL l k).findIdx (isItB a b)]) := by rw [atD_find hsort, find_findIdx h1]
    simp only [e1] at hat
    rw [e1] at h1
    have h1' : (i : Int) < (countL l k).length := by omega
    rw [v1]
    refine cl_cond rfl rfl (fun hb => ?_) (fun hb => ?_)
    · have : (i : Int) < 0 := by simpa using hb
      omega
    clear hb
    repeat refine cl_seq ?_
    refine cl_skip ?_
    repeat refine cl_seq ?_
    refine cl_rs hΓ [6,9,10,12] [[6, 0]] fun K' hK => ?_
    simp only [go_sem, Nat.reduceLT, Nat.reduceAdd, Nat.reduceEqDiff, Nat.reduceSub, Nat.reduceMul, Nat.reduceBEq, reduceIte, reduceCtorEq, hf, clashV_eq, tz23, Nat.reduceLeDiff, Nat.le_refl]
    repeat (refine ⟨ob, ?_⟩)
    refine hK _ ?_ ?_ <;> clear K' hK <;> simp only [go_sem, Nat.reduceLT, Nat.reduceAdd, Nat.reduceEqDiff, Nat.reduceSub, Nat.reduceMul, Nat.reduceBEq, reduceIte, reduceCtorEq, hf, clashV_eq, tz23, Nat.reduceLeDiff, Nat.le_refl]
    repeat refine cl_seq ?_
    refine cl_rs hΓ [6,9,10,35] [[6, 0]] fun K' hK => ?_
    simp only [go_sem, Nat.reduceLT, Nat.reduceAdd, Nat.reduceEqDiff, Nat.reduceSub, Nat.reduceMul, Nat.reduceBEq, reduceIte, reduceCtorEq]
    repeat (refine ⟨ob, ?_⟩)
    refine hK _ ?_ ?_ <;> clear K' hK <;> simp only [go_sem, Nat.reduceLT, Nat.reduceAdd, Nat.reduceEqDiff, Nat.reduceSub, Nat.reduceMul, Nat.reduceBEq, reduceIte, reduceCtorEq]
    repeat refine cl_seq ?_
    refine cl_cond rfl rfl (fun hb => ?_) (fun hb => ?_)
    · repeat refine cl_seq ?_
      repeat refine cl_seq ?_
      refine cl_rs hΓ [6,7] [[6, 0]] fun K' hK => ?_
      simp only [go_sem, Nat.reduceLT, Nat.reduceAdd, Nat.reduceEqDiff, Nat.reduceSub, Nat.reduceMul, Nat.reduceBEq, reduceIte, reduceCtorEq, tz33, tp33, Nat.reduceLeDiff, Nat.le_refl]
      repeat (refine ⟨ob, ?_⟩)
      refine hK _ ?_ ?_ <;> clear K' hK <;> simp only [go_sem, Nat.reduceLT, Nat.reduceAdd, Nat.reduceEqDiff, Nat.reduceSub, Nat.reduceMul, Nat.reduceBEq, reduceIte, reduceCtorEq, tz33, tp33, Nat.reduceLeDiff, Nat.le_refl]
      refine cl_ret ?_
      simp only [go_sem, Nat.reduceLT, Nat.reduceAdd, Nat.reduceEqDiff, Nat.reduceSub, Nat.reduceMul, Nat.reduceBEq, reduceIte, reduceCtorEq]
      unfold whenV; rw [if_pos hz, hat]
      simp only
      rw [if_pos (by rw [confP_some hok]; exact hb)]
      all_goals first | done | rfl | exact ⟨by decide, rfl⟩ | exact ⟨by decide, trivial⟩ | decide
    · repeat refine cl_seq ?_
      refine cl_skip ?_
      have hdl : i < (daysRL (countL l k)).length := by rw [daysRL_len]; exact h1
      have hdl' : (i : Int) < (daysRL (countL l k)).length := by omega
      repeat refine cl_seq ?_
      refine cl_rs hΓ [6,7] [[6, 0]] fun K' hK => ?_
      simp only [go_sem, Nat.reduceLT, Nat.reduceAdd, Nat.reduceEqDiff, Nat.reduceSub, Nat.reduceMul, Nat.reduceBEq, reduceIte, reduceCtorEq, hdy, map_getD hdl, Int.toNat_natCast, Int.natCast_nonneg, hdl', te146, tz33, tp33, Nat.reduceLeDiff, Nat.le_refl, vIt, daysRL_get]
      repeat (refine ⟨ob, ?_⟩)
      refine hK _ ?_ ?_ <;> clear K' hK <;> simp only [go_sem, Nat.reduceLT, Nat.reduceAdd, Nat.reduceEqDiff, Nat.reduceSub, Nat.reduceMul, Nat.reduceBEq, reduceIte, reduceCtorEq, hdy, map_getD hdl, Int.toNat_natCast, Int.natCast_nonneg, hdl', te146, tz33, tp33, Nat.reduceLeDiff, Nat.le_refl, vIt, daysRL_get]
      refine cl_ret ?_
      simp only [go_sem, Nat.reduceLT, Nat.reduceAdd, Nat.reduceEqDiff, Nat.reduceSub, Nat.reduceMul, Nat.reduceBEq, reduceIte, reduceCtorEq]
      unfold whenV; rw [if_pos hz, hat]
      simp only
      rw [if_neg (by rw [confP_some hok]; simp [hb])]
      obtain ⟨w1, w2⟩ := when_days hsort hval h1
      rw [w1, w2]
      have hg : (countL l k).getD i zeroD = (countL l k)[i] := by simp [List.getD_eq_getElem?_getD, h1]
      simp only [dayR, hg]
      all_goals first | done | rfl | exact ⟨by decide, rfl⟩ | exact ⟨by decide, trivial⟩ | decide
  · have v1 : idxI (countL l k) a b = -1 := by unfold idxI firstI; rw [if_neg h1]
    have hat : atD (countL l k) (itD a b) = none := by rw [atD_find hsort, find_findIdx_none h1]
    rw [v1]
    refine cl_cond rfl rfl (fun hb => ?_) (fun hb => ?_)
    · repeat refine cl_seq ?_
      repeat refine cl_seq ?_
      refine cl_rs hΓ [6,7] [[6, 0]] fun K' hK => ?_
      simp only [go_sem, Nat.reduceLT, Nat.reduceAdd, Nat.reduceEqDiff, Nat.reduceSub, Nat.reduceMul, Nat.reduceBEq, reduceIte, reduceCtorEq, tz33, tp33, Nat.reduceLeDiff, Nat.le_refl]
      repeat (refine ⟨ob, ?_⟩)
      refine hK _ ?_ ?_ <;> clear K' hK <;> simp only [go_sem, Nat.reduceLT, Nat.reduceAdd, Nat.reduceEqDiff, Nat.reduceSub, Nat.reduceMul, Nat.reduceBEq, reduceIte, reduceCtorEq, tz33, tp33, Nat.reduceLeDiff, Nat.le_refl]
      refine cl_ret ?_
      simp only [go_sem, Nat.reduceLT, Nat.reduceAdd, Nat.reduceEqDiff, Nat.reduceSub, Nat.reduceMul, Nat.reduceBEq, reduceIte, reduceCtorEq]
      unfold whenV; rw [if_pos hz, hat]
      all_goals first | done | rfl | exact ⟨by decide, rfl⟩ | exact ⟨by decide, trivial⟩ | decide
    · simp at hb
end Go.Eng
