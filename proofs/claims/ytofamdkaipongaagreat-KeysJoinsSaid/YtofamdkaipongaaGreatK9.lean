import Derived.Test.YtofamdkaipongaaGreatK8
/- A part of the proof engine and of the walks (texts KW13 to KW15). -/
set_option linter.all false
set_option linter.unnecessarySimpa false
set_option linter.unusedSimpArgs false
set_option linter.unusedVariables false
set_option linter.constructorNameAsVariable false
namespace Go.Eng
open Go Go.Proofs

theorem enc_ok (l : List Deed) : ∀ x ∈ l.map encD, (match x with | V.agg l => l | x => [x]).length = 9 ∧ (match x with | V.tup _ => false | _ => true) = true := by
  intro x hx
  obtain ⟨y, _, rfl⟩ := List.mem_map.1 hx
  exact ⟨rfl, rfl⟩
theorem lowD_lt {l : List Deed} {x : Deed} (h : hasD l x = true) : ∃ hl : lowD l x < l.length, atD l x = some l[lowD l x] := by
  have h1 := atD_low l x h
  have h2 := hasD_some l x
  rw [h] at h2
  cases hg : l[lowD l x]? with
  | none => rw [← h1, hg] at h2; cases h2
  | some y =>
    obtain ⟨hl, e⟩ := List.getElem?_eq_some_iff.1 hg
    exact ⟨hl, by rw [← h1, hg, e]⟩
theorem clash_some {l : List Deed} {x : Deed} (h : hasD l x = true) (hl : lowD l x < l.length) : (!eqDB l[lowD l x].pa l[lowD l x].no l[lowD l x].ki l[lowD l x].lo l[lowD l x].pe l[lowD l x].dl l[lowD l x].dh l[lowD l x].kn l[lowD l x].un x.pa x.no x.ki x.lo x.pe x.dl x.dh x.kn x.un) = clashD l x := by
  obtain ⟨hl', e⟩ := lowD_lt h
  unfold clashD
  rw [e]
  simp only
  rw [Bool.eq_iff_iff]
  simp only [Bool.not_eq_true', ne_eq, decide_not, decide_eq_false_iff_not]
  rw [Bool.eq_false_iff, ne_eq, eqDB_iff]
theorem clash_none {l : List Deed} {x : Deed} (h : hasD l x = false) : clashD l x = false := by
  have h2 := hasD_some l x
  rw [h] at h2
  unfold clashD
  cases hg : atD l x with
  | none => rfl
  | some y => rw [hg] at h2; cases h2
set_option maxRecDepth 10000 in
set_option maxHeartbeats 4000000 in
theorem w67 (l more : List Deed) (hs : l.Pairwise ltD) (hv : ∀ d ∈ l, isDeedB d = true) (hl : l.length ≤ 60) (hm : more.length ≤ maxLen) :
    ∃ c, Tryz.f67.body = some c ∧ CL Tryz.prog [c] (mkS 45 [0] (fun _ => none) (argsL 0 [.sl (l.map encD), .sl (more.map encD)]) []) (retK Tryz.prog [.tmp 4, .tmp 5] (joinV (joinL isDeedB l more))) := by
  refine ⟨_, rfl, ?_⟩
  have hΓ := K8_sound
  have hP := mixedK
  repeat refine cl_seq ?_
  refine cl_rs hΓ [0,1] [] fun K' hK => ?_
  simp only [go_sem, Nat.reduceLT, Nat.reduceAdd, Nat.reduceEqDiff, Nat.reduceSub, Nat.reduceMul, Nat.reduceBEq, reduceIte, reduceCtorEq]
  repeat (refine ⟨by first | exact Bool.or_not_self _ | exact Bool.not_or_self _ | exact fun _ => by decide | exact fun h => ⟨h, by decide⟩ | omega | (simp only [decide_eq_true_eq]; omega) | exact xD | exact fun h => ⟨h, xD⟩ | exact xDD | exact fun h => ⟨h, xDD⟩ | exact ⟨_, rfl⟩ | exact fun h => ⟨h, _, rfl⟩ | exact ⟨_, _, rfl⟩ | exact fun h => ⟨h, _, _, rfl⟩ | exact fun h => ⟨h, _, _, _, rfl⟩ | exact ⟨_, _, _, _, rfl⟩ | exact fun h => ⟨h, _, _, _, _, rfl⟩ | exact ⟨[_, _], rfl⟩ | (simp; done) | (simp_all; done) | (simp_all; omega), ?_⟩)
  refine hK _ ?_ ?_
  · simp only [go_sem, Nat.reduceLT, Nat.reduceAdd, Nat.reduceEqDiff, Nat.reduceSub, Nat.reduceMul, Nat.reduceBEq, reduceIte, reduceCtorEq]
  clear K' hK
  simp only [go_sem, Nat.reduceLT, Nat.reduceAdd, Nat.reduceEqDiff, Nat.reduceSub, Nat.reduceMul, Nat.reduceBEq, reduceIte, reduceCtorEq]
  repeat refine cl_seq ?_
  refine cl_rw hΓ (mkS 45 [0] (fun _ => none) [(1, ⟨true, .v (.sl (more.map encD))⟩), (6, ⟨true, .msl [12, 0] l.length⟩)] [([12, 0], .arr 9 (l.map encD))]) ?_ fun K' hK => ?_
  rotate_left
  · rcases l with _ | ⟨d0, l0⟩
    · simp only [go_sem, Nat.reduceLT, Nat.reduceAdd, Nat.reduceEqDiff, Nat.reduceSub, Nat.reduceMul, Nat.reduceBEq, reduceIte, reduceCtorEq, cloneSpec, aClone]
      repeat (refine ⟨by first | exact Bool.or_not_self _ | exact Bool.not_or_self _ | exact fun _ => by decide | exact fun h => ⟨h, by decide⟩ | omega | (simp only [decide_eq_true_eq]; omega) | exact xD | exact fun h => ⟨h, xD⟩ | exact xDD | exact fun h => ⟨h, xDD⟩ | exact ⟨_, rfl⟩ | exact fun h => ⟨h, _, rfl⟩ | exact ⟨_, _, rfl⟩ | exact fun h => ⟨h, _, _, rfl⟩ | exact fun h => ⟨h, _, _, _, rfl⟩ | exact ⟨_, _, _, _, rfl⟩ | exact fun h => ⟨h, _, _, _, _, rfl⟩ | exact ⟨[_, _], rfl⟩ | (simp; done) | (simp_all; done) | (simp_all; omega), ?_⟩)
      refine hK _ (weakM_ghostk 6 [12, 0] 9 (by simp only [go_sem, Nat.reduceLT, Nat.reduceAdd, Nat.reduceEqDiff, Nat.reduceSub, Nat.reduceMul, Nat.reduceBEq, reduceIte, reduceCtorEq]) (by simp only [go_sem, Nat.reduceLT, Nat.reduceAdd, Nat.reduceEqDiff, Nat.reduceSub, Nat.reduceMul, Nat.reduceBEq, reduceIte, reduceCtorEq]) [1, 6] [[12, 0]] ?_ ?_)
      · simp only [go_sem, Nat.reduceLT, Nat.reduceAdd, Nat.reduceEqDiff, Nat.reduceSub, Nat.reduceMul, Nat.reduceBEq, reduceIte, reduceCtorEq]
      · simp only [go_sem, Nat.reduceLT, Nat.reduceAdd, Nat.reduceEqDiff, Nat.reduceSub, Nat.reduceMul, Nat.reduceBEq, reduceIte, reduceCtorEq]
    · simp only [go_sem, Nat.reduceLT, Nat.reduceAdd, Nat.reduceEqDiff, Nat.reduceSub, Nat.reduceMul, Nat.reduceBEq, reduceIte, reduceCtorEq, cloneSpec, aClone, te22, tz35]
      refine ⟨⟨enc_ok l0, rfl, ?_, ?_⟩, ?_⟩
      · simp only [List.length_cons] at hl; omega
      · simp only [List.length_cons] at hl; unfold maxLen; omega
      refine hK _ (weakM_keep [1, 6] [[12, 0]] ?_ ?_)
      · simp only [go_sem, Nat.reduceLT, Nat.reduceAdd, Nat.reduceEqDiff, Nat.reduceSub, Nat.reduceMul, Nat.reduceBEq, reduceIte, reduceCtorEq]
      · simp only [go_sem, Nat.reduceLT, Nat.reduceAdd, Nat.reduceEqDiff, Nat.reduceSub, Nat.reduceMul, Nat.reduceBEq, reduceIte, reduceCtorEq]
  repeat refine cl_seq ?_
  refine cl_rs hΓ [6,13,14,15] [[12, 0]] fun K' hK => ?_
  simp only [go_sem, Nat.reduceLT, Nat.reduceAdd, Nat.reduceEqDiff, Nat.reduceSub, Nat.reduceMul, Nat.reduceBEq, reduceIte, reduceCtorEq]
  repeat (refine ⟨by first | exact Bool.or_not_self _ | exact Bool.not_or_self _ | exact fun _ => by decide | exact fun h => ⟨h, by decide⟩ | omega | (simp only [decide_eq_true_eq]; omega) | exact xD | exact fun h => ⟨h, xD⟩ | exact xDD | exact fun h => ⟨h, xDD⟩ | exact ⟨_, rfl⟩ | exact fun h => ⟨h, _, rfl⟩ | exact ⟨_, _, rfl⟩ | exact fun h => ⟨h, _, _, rfl⟩ | exact fun h => ⟨h, _, _, _, rfl⟩ | exact ⟨_, _, _, _, rfl⟩ | exact fun h => ⟨h, _, _, _, _, rfl⟩ | exact ⟨[_, _], rfl⟩ | (simp; done) | (simp_all; done) | (simp_all; omega), ?_⟩)
  refine hK _ ?_ ?_
  · simp only [go_sem, Nat.reduceLT, Nat.reduceAdd, Nat.reduceEqDiff, Nat.reduceSub, Nat.reduceMul, Nat.reduceBEq, reduceIte, reduceCtorEq]
  clear K' hK
  simp only [go_sem, Nat.reduceLT, Nat.reduceAdd, Nat.reduceEqDiff, Nat.reduceSub, Nat.reduceMul, Nat.reduceBEq, reduceIte, reduceCtorEq]
  repeat refine cl_seq ?_
  refine cl_block ?_
  repeat refine cl_seq ?_
  refine cl_loop' (fun i : Nat × List Deed => [(6, ⟨true, .msl [12, 0] i.2.length⟩), (15, ⟨true, .v (vInt i.1)⟩)]) (fun i => [([12, 0], .arr 9 (i.2.map encD))]) (fun i => i.1 ≤ more.length ∧ i.2.Pairwise ltD ∧ (∀ d ∈ i.2, isDeedB d = true) ∧ joinL isDeedB l more = joinL isDeedB i.2 (more.drop i.1)) (fun i => more.length - i.1) (0, l) ?_ ?_ ?_ ?_
  · exact ⟨Nat.zero_le _, hs, hv, rfl⟩
  · rfl
  · rfl
  rintro ⟨i, out⟩ ⟨hi, hos, hov, hj⟩
  have hob : out.length < 999999 := len_bound hos hov
  rw [hj]
  clear hj hs hv hl
  simp only [go_sem, Nat.reduceLT, Nat.reduceAdd, Nat.reduceEqDiff, Nat.reduceSub, Nat.reduceMul, Nat.reduceBEq, reduceIte, reduceCtorEq]
  repeat refine cl_seq ?_
  repeat refine cl_seq ?_
  refine cl_rs hΓ [6,13,14,15,16] [[12, 0]] fun K' hK => ?_
  simp only [go_sem, Nat.reduceLT, Nat.reduceAdd, Nat.reduceEqDiff, Nat.reduceSub, Nat.reduceMul, Nat.reduceBEq, reduceIte, reduceCtorEq]
  repeat (refine ⟨by first | exact Bool.or_not_self _ | exact Bool.not_or_self _ | exact fun _ => by decide | exact fun h => ⟨h, by decide⟩ | omega | (simp only [decide_eq_true_eq]; omega) | exact xD | exact fun h => ⟨h, xD⟩ | exact xDD | exact fun h => ⟨h, xDD⟩ | exact ⟨_, rfl⟩ | exact fun h => ⟨h, _, rfl⟩ | exact ⟨_, _, rfl⟩ | exact fun h => ⟨h, _, _, rfl⟩ | exact fun h => ⟨h, _, _, _, rfl⟩ | exact ⟨_, _, _, _, rfl⟩ | exact fun h => ⟨h, _, _, _, _, rfl⟩ | exact ⟨[_, _], rfl⟩ | (simp; done) | (simp_all; done) | (simp_all; omega), ?_⟩)
  refine hK _ ?_ ?_
  · simp only [go_sem, Nat.reduceLT, Nat.reduceAdd, Nat.reduceEqDiff, Nat.reduceSub, Nat.reduceMul, Nat.reduceBEq, reduceIte, reduceCtorEq]
  clear K' hK
  simp only [go_sem, Nat.reduceLT, Nat.reduceAdd, Nat.reduceEqDiff, Nat.reduceSub, Nat.reduceMul, Nat.reduceBEq, reduceIte, reduceCtorEq]
  repeat refine cl_seq ?_
  refine cl_cond rfl rfl (fun hb => ?_) (fun hb => ?_)
  · have hlt : i < more.length := by simpa using hb
    have hlt' : (i : Int) < more.length := by omega
    clear hb
    repeat refine cl_seq ?_
    refine cl_skip ?_
    repeat refine cl_seq ?_
    refine cl_block ?_
    repeat refine cl_seq ?_
    repeat refine cl_seq ?_
    refine cl_rs hΓ [6,8,13,14,15] [[8, 0], [12, 0]] fun K' hK => ?_
    simp only [go_sem, Nat.reduceLT, Nat.reduceAdd, Nat.reduceEqDiff, Nat.reduceSub, Nat.reduceMul, Nat.reduceBEq, reduceIte, reduceCtorEq, map_getD hlt, Int.toNat_natCast, Int.natCast_nonneg, hlt']
    repeat (refine ⟨by first | exact Bool.or_not_self _ | exact Bool.not_or_self _ | exact fun _ => by decide | exact fun h => ⟨h, by decide⟩ | omega | (simp only [decide_eq_true_eq]; omega) | exact xD | exact fun h => ⟨h, xD⟩ | exact xDD | exact fun h => ⟨h, xDD⟩ | exact ⟨_, rfl⟩ | exact fun h => ⟨h, _, rfl⟩ | exact ⟨_, _, rfl⟩ | exact fun h => ⟨h, _, _, rfl⟩ | exact fun h => ⟨h, _, _, _, rfl⟩ | exact ⟨_, _, _, _, rfl⟩ | exact fun h => ⟨h, _, _, _, _, rfl⟩ | exact ⟨[_, _], rfl⟩ | (simp; done) | (simp_all; done) | (simp_all; omega), ?_⟩)
    refine hK _ ?_ ?_
    · simp only [go_sem, Nat.reduceLT, Nat.reduceAdd, Nat.reduceEqDiff, Nat.reduceSub, Nat.reduceMul, Nat.reduceBEq, reduceIte, reduceCtorEq, map_getD hlt, Int.toNat_natCast, Int.natCast_nonneg, hlt']
    clear K' hK
    simp only [go_sem, Nat.reduceLT, Nat.reduceAdd, Nat.reduceEqDiff, Nat.reduceSub, Nat.reduceMul, Nat.reduceBEq, reduceIte, reduceCtorEq, map_getD hlt, Int.toNat_natCast, Int.natCast_nonneg, hlt']
    repeat refine cl_seq ?_
    refine cl_rs hΓ [6,8,13,14,15,21] [[8, 0], [12, 0]] fun K' hK => ?_
    simp only [go_sem, Nat.reduceLT, Nat.reduceAdd, Nat.reduceEqDiff, Nat.reduceSub, Nat.reduceMul, Nat.reduceBEq, reduceIte, reduceCtorEq]
    repeat (refine ⟨by first | exact Bool.or_not_self _ | exact Bool.not_or_self _ | exact fun _ => by decide | exact fun h => ⟨h, by decide⟩ | omega | (simp only [decide_eq_true_eq]; omega) | exact xD | exact fun h => ⟨h, xD⟩ | exact xDD | exact fun h => ⟨h, xDD⟩ | exact ⟨_, rfl⟩ | exact fun h => ⟨h, _, rfl⟩ | exact ⟨_, _, rfl⟩ | exact fun h => ⟨h, _, _, rfl⟩ | exact fun h => ⟨h, _, _, _, rfl⟩ | exact ⟨_, _, _, _, rfl⟩ | exact fun h => ⟨h, _, _, _, _, rfl⟩ | exact ⟨[_, _], rfl⟩ | (simp; done) | (simp_all; done) | (simp_all; omega), ?_⟩)
    refine hK _ ?_ ?_
    · simp only [go_sem, Nat.reduceLT, Nat.reduceAdd, Nat.reduceEqDiff, Nat.reduceSub, Nat.reduceMul, Nat.reduceBEq, reduceIte, reduceCtorEq]
    clear K' hK
    simp only [go_sem, Nat.reduceLT, Nat.reduceAdd, Nat.reduceEqDiff, Nat.reduceSub, Nat.reduceMul, Nat.reduceBEq, reduceIte, reduceCtorEq]
    repeat refine cl_seq ?_
    refine cl_cond rfl rfl (fun hb => ?_) (fun hb => ?_)
    · repeat refine cl_seq ?_
      repeat refine cl_seq ?_
      refine cl_rs hΓ [4,5] [] fun K' hK => ?_
      simp only [go_sem, Nat.reduceLT, Nat.reduceAdd, Nat.reduceEqDiff, Nat.reduceSub, Nat.reduceMul, Nat.reduceBEq, reduceIte, reduceCtorEq]
      repeat (refine ⟨by first | exact Bool.or_not_self _ | exact Bool.not_or_self _ | exact fun _ => by decide | exact fun h => ⟨h, by decide⟩ | omega | (simp only [decide_eq_true_eq]; omega) | exact xD | exact fun h => ⟨h, xD⟩ | exact xDD | exact fun h => ⟨h, xDD⟩ | exact ⟨_, rfl⟩ | exact fun h => ⟨h, _, rfl⟩ | exact ⟨_, _, rfl⟩ | exact fun h => ⟨h, _, _, rfl⟩ | exact fun h => ⟨h, _, _, _, rfl⟩ | exact ⟨_, _, _, _, rfl⟩ | exact fun h => ⟨h, _, _, _, _, rfl⟩ | exact ⟨[_, _], rfl⟩ | (simp; done) | (simp_all; done) | (simp_all; omega), ?_⟩)
      refine hK _ ?_ ?_
      · simp only [go_sem, Nat.reduceLT, Nat.reduceAdd, Nat.reduceEqDiff, Nat.reduceSub, Nat.reduceMul, Nat.reduceBEq, reduceIte, reduceCtorEq]
      clear K' hK
      simp only [go_sem, Nat.reduceLT, Nat.reduceAdd, Nat.reduceEqDiff, Nat.reduceSub, Nat.reduceMul, Nat.reduceBEq, reduceIte, reduceCtorEq]
      refine cl_ret ?_
      simp only [go_sem, Nat.reduceLT, Nat.reduceAdd, Nat.reduceEqDiff, Nat.reduceSub, Nat.reduceMul, Nat.reduceBEq, reduceIte, reduceCtorEq]
      have hb' : isDeedB more[i] = false := by simpa using hb
      rw [joinL_at hlt, if_pos hb']
      rfl
    · have hdv : isDeedB more[i] = true := by simpa using hb
      clear hb
      repeat refine cl_seq ?_
      refine cl_skip ?_
      have hbs := fun obj t (ho : obj [12, 0] = _) => pBsD_app (sz := 9) (obj := obj) (t := t) (nm := [12, 0]) (d := more[i]) (k := out.length) (L := out.map encD) (x := rdD more[i]) rfl rfl ho (by simp) hos
      unfold rdD at hbs
      repeat refine cl_seq ?_
      refine cl_rs hΓ [6,8,9,10,13,14,15] [[8, 0], [12, 0]] fun K' hK => ?_
      simp only [go_sem, Nat.reduceLT, Nat.reduceAdd, Nat.reduceEqDiff, Nat.reduceSub, Nat.reduceMul, Nat.reduceBEq, reduceIte, reduceCtorEq, hbs]
      repeat (refine ⟨by first | exact Bool.or_not_self _ | exact Bool.not_or_self _ | exact fun _ => by decide | exact fun h => ⟨h, by decide⟩ | omega | (simp only [decide_eq_true_eq]; omega) | exact xD | exact fun h => ⟨h, xD⟩ | exact xDD | exact fun h => ⟨h, xDD⟩ | exact ⟨_, rfl⟩ | exact fun h => ⟨h, _, rfl⟩ | exact ⟨_, _, rfl⟩ | exact fun h => ⟨h, _, _, rfl⟩ | exact fun h => ⟨h, _, _, _, rfl⟩ | exact ⟨_, _, _, _, rfl⟩ | exact fun h => ⟨h, _, _, _, _, rfl⟩ | exact ⟨[_, _], rfl⟩ | (simp; done) | (simp_all; done) | (simp_all; omega), ?_⟩)
      refine hK _ ?_ ?_
      · simp only [go_sem, Nat.reduceLT, Nat.reduceAdd, Nat.reduceEqDiff, Nat.reduceSub, Nat.reduceMul, Nat.reduceBEq, reduceIte, reduceCtorEq, hbs]
      clear K' hK
      simp only [go_sem, Nat.reduceLT, Nat.reduceAdd, Nat.reduceEqDiff, Nat.reduceSub, Nat.reduceMul, Nat.reduceBEq, reduceIte, reduceCtorEq, hbs]
      repeat refine cl_seq ?_
      refine cl_dw hΓ hP [[], [0], [0, 1], [0, 1], [0, 1, 2, 3], [0, 1, 2, 3, 4], [0, 1], [0, 1, 2, 3, 4, 5, 6], [0, 1, 2, 3, 4, 5, 6, 7]] (mkS 45 [0] (fun _ => none) [(6, ⟨true, .msl [12, 0] out.length⟩), (8, ⟨true, .ref [8, 0] 0⟩), (13, ⟨true, .v (.sl (more.map encD))⟩), (14, ⟨true, .v (vInt more.length)⟩), (15, ⟨true, .v (vInt i)⟩), (36, ⟨true, .v (.bool (clashD out more[i]))⟩)]
        [([8, 0], .box (rdD more[i]).cells), ([12, 0], .arr 9 (out.map encD))]) (by kernel_rfl) ?_ fun K' hK => ?_
      rotate_left
      · cases hh : hasD out more[i] with
        | true =>
          obtain ⟨hlo, hat⟩ := lowD_lt hh
          have hlo' : (lowD out more[i] : Int) < out.length := by omega
          simp only [go_sem, Nat.reduceLT, Nat.reduceAdd, Nat.reduceEqDiff, Nat.reduceSub, Nat.reduceMul, Nat.reduceBEq, reduceIte, reduceCtorEq, hh, map_getD hlo, Int.toNat_natCast, Int.natCast_nonneg, hlo', hlo]
          repeat (refine ⟨by first | exact Bool.or_not_self _ | exact Bool.not_or_self _ | exact fun _ => by decide | exact fun h => ⟨h, by decide⟩ | omega | (simp only [decide_eq_true_eq]; omega) | exact xD | exact fun h => ⟨h, xD⟩ | exact xDD | exact fun h => ⟨h, xDD⟩ | exact ⟨_, rfl⟩ | exact fun h => ⟨h, _, rfl⟩ | exact ⟨_, _, rfl⟩ | exact fun h => ⟨h, _, _, rfl⟩ | exact fun h => ⟨h, _, _, _, rfl⟩ | exact ⟨_, _, _, _, rfl⟩ | exact fun h => ⟨h, _, _, _, _, rfl⟩ | exact ⟨[_, _], rfl⟩ | (simp; done) | (simp_all; done) | (simp_all; omega), ?_⟩)
          first | refine ⟨by rfl, ?_⟩ | skip
          refine hK _ (weakM_keep [6,8,13,14,15,36] [[8, 0], [12, 0]] ?_ ?_)
          · simp only [go_sem, Nat.reduceLT, Nat.reduceAdd, Nat.reduceEqDiff, Nat.reduceSub, Nat.reduceMul, Nat.reduceBEq, reduceIte, reduceCtorEq]
          · simp only [go_sem, Nat.reduceLT, Nat.reduceAdd, Nat.reduceEqDiff, Nat.reduceSub, Nat.reduceMul, Nat.reduceBEq, reduceIte, reduceCtorEq, clash_some hh hlo, rdD]
        | false =>
          simp only [go_sem, Nat.reduceLT, Nat.reduceAdd, Nat.reduceEqDiff, Nat.reduceSub, Nat.reduceMul, Nat.reduceBEq, reduceIte, reduceCtorEq, hh]
          repeat (refine ⟨by first | exact Bool.or_not_self _ | exact Bool.not_or_self _ | exact fun _ => by decide | exact fun h => ⟨h, by decide⟩ | omega | (simp only [decide_eq_true_eq]; omega) | exact xD | exact fun h => ⟨h, xD⟩ | exact xDD | exact fun h => ⟨h, xDD⟩ | exact ⟨_, rfl⟩ | exact fun h => ⟨h, _, rfl⟩ | exact ⟨_, _, rfl⟩ | exact fun h => ⟨h, _, _, rfl⟩ | exact fun h => ⟨h, _, _, _, rfl⟩ | exact ⟨_, _, _, _, rfl⟩ | exact fun h => ⟨h, _, _, _, _, rfl⟩ | exact ⟨[_, _], rfl⟩ | (simp; done) | (simp_all; done) | (simp_all; omega), ?_⟩)
          first | refine ⟨by rfl, ?_⟩ | skip
          refine hK _ (weakM_keep [6,8,13,14,15,36] [[8, 0], [12, 0]] ?_ ?_)
          · simp only [go_sem, Nat.reduceLT, Nat.reduceAdd, Nat.reduceEqDiff, Nat.reduceSub, Nat.reduceMul, Nat.reduceBEq, reduceIte, reduceCtorEq]
          · simp only [go_sem, Nat.reduceLT, Nat.reduceAdd, Nat.reduceEqDiff, Nat.reduceSub, Nat.reduceMul, Nat.reduceBEq, reduceIte, reduceCtorEq, clash_none hh, rdD]
      simp only [go_sem, Nat.reduceLT, Nat.reduceAdd, Nat.reduceEqDiff, Nat.reduceSub, Nat.reduceMul, Nat.reduceBEq, reduceIte, reduceCtorEq, rdD]
      repeat refine cl_seq ?_
      refine cl_cond rfl rfl (fun hb => ?_) (fun hb => ?_)
      · repeat refine cl_seq ?_
        repeat refine cl_seq ?_
        refine cl_rs hΓ [4,5] [] fun K' hK => ?_
        simp only [go_sem, Nat.reduceLT, Nat.reduceAdd, Nat.reduceEqDiff, Nat.reduceSub, Nat.reduceMul, Nat.reduceBEq, reduceIte, reduceCtorEq]
        repeat (refine ⟨by first | exact Bool.or_not_self _ | exact Bool.not_or_self _ | exact fun _ => by decide | exact fun h => ⟨h, by decide⟩ | omega | (simp only [decide_eq_true_eq]; omega) | exact xD | exact fun h => ⟨h, xD⟩ | exact xDD | exact fun h => ⟨h, xDD⟩ | exact ⟨_, rfl⟩ | exact fun h => ⟨h, _, rfl⟩ | exact ⟨_, _, rfl⟩ | exact fun h => ⟨h, _, _, rfl⟩ | exact fun h => ⟨h, _, _, _, rfl⟩ | exact ⟨_, _, _, _, rfl⟩ | exact fun h => ⟨h, _, _, _, _, rfl⟩ | exact ⟨[_, _], rfl⟩ | (simp; done) | (simp_all; done) | (simp_all; omega), ?_⟩)
        refine hK _ ?_ ?_
        · simp only [go_sem, Nat.reduceLT, Nat.reduceAdd, Nat.reduceEqDiff, Nat.reduceSub, Nat.reduceMul, Nat.reduceBEq, reduceIte, reduceCtorEq]
        clear K' hK
        simp only [go_sem, Nat.reduceLT, Nat.reduceAdd, Nat.reduceEqDiff, Nat.reduceSub, Nat.reduceMul, Nat.reduceBEq, reduceIte, reduceCtorEq]
        refine cl_ret ?_
        simp only [go_sem, Nat.reduceLT, Nat.reduceAdd, Nat.reduceEqDiff, Nat.reduceSub, Nat.reduceMul, Nat.reduceBEq, reduceIte, reduceCtorEq]
        rw [joinL_at hlt, if_neg (by simp [hdv]), if_pos hb]
        rfl
      · repeat refine cl_seq ?_
        refine cl_skip ?_
        have hput := fun obj t (ho : obj [12, 0] = _) => sPutD_app (obj := obj) (t := t) (nm := [12, 0]) (k := out.length) (l := out) (x := more[i]) (dx := rdD more[i]) rfl ho rfl hos (by omega)
        unfold rdD at hput
        simp only [putD_ins] at hput
        repeat refine cl_seq ?_
        refine cl_r hΓ fun K' hK => ?_
        simp only [go_sem, Nat.reduceLT, Nat.reduceAdd, Nat.reduceEqDiff, Nat.reduceSub, Nat.reduceMul, Nat.reduceBEq, reduceIte, reduceCtorEq, hput]
        repeat (refine ⟨by first | exact Bool.or_not_self _ | exact Bool.not_or_self _ | exact fun _ => by decide | exact fun h => ⟨h, by decide⟩ | omega | (simp only [decide_eq_true_eq]; omega) | exact xD | exact fun h => ⟨h, xD⟩ | exact xDD | exact fun h => ⟨h, xDD⟩ | exact ⟨_, rfl⟩ | exact fun h => ⟨h, _, rfl⟩ | exact ⟨_, _, rfl⟩ | exact fun h => ⟨h, _, _, rfl⟩ | exact fun h => ⟨h, _, _, _, rfl⟩ | exact ⟨_, _, _, _, rfl⟩ | exact fun h => ⟨h, _, _, _, _, rfl⟩ | exact ⟨[_, _], rfl⟩ | (simp; done) | (simp_all; done) | (simp_all; omega), ?_⟩)
        refine hK _ ?_
        clear K' hK
        simp only [go_sem, Nat.reduceLT, Nat.reduceAdd, Nat.reduceEqDiff, Nat.reduceSub, Nat.reduceMul, Nat.reduceBEq, reduceIte, reduceCtorEq]
        refine cl_keep [6,13,14,15] [[12, 0]] ?_ ?_
        · simp only [go_sem, Nat.reduceLT, Nat.reduceAdd, Nat.reduceEqDiff, Nat.reduceSub, Nat.reduceMul, Nat.reduceBEq, reduceIte, reduceCtorEq]
        simp only [go_sem, Nat.reduceLT, Nat.reduceAdd, Nat.reduceEqDiff, Nat.reduceSub, Nat.reduceMul, Nat.reduceBEq, reduceIte, reduceCtorEq]
        repeat refine cl_seq ?_
        refine cl_r hΓ fun K' hK => ?_
        simp only [go_sem, Nat.reduceLT, Nat.reduceAdd, Nat.reduceEqDiff, Nat.reduceSub, Nat.reduceMul, Nat.reduceBEq, reduceIte, reduceCtorEq]
        repeat (refine ⟨by first | exact Bool.or_not_self _ | exact Bool.not_or_self _ | exact fun _ => by decide | exact fun h => ⟨h, by decide⟩ | omega | (simp only [decide_eq_true_eq]; omega) | exact xD | exact fun h => ⟨h, xD⟩ | exact xDD | exact fun h => ⟨h, xDD⟩ | exact ⟨_, rfl⟩ | exact fun h => ⟨h, _, rfl⟩ | exact ⟨_, _, rfl⟩ | exact fun h => ⟨h, _, _, rfl⟩ | exact fun h => ⟨h, _, _, _, rfl⟩ | exact ⟨_, _, _, _, rfl⟩ | exact fun h => ⟨h, _, _, _, _, rfl⟩ | exact ⟨[_, _], rfl⟩ | (simp; done) | (simp_all; done) | (simp_all; omega), ?_⟩)
        refine hK _ ?_
        clear K' hK
        simp only [go_sem, Nat.reduceLT, Nat.reduceAdd, Nat.reduceEqDiff, Nat.reduceSub, Nat.reduceMul, Nat.reduceBEq, reduceIte, reduceCtorEq]
        refine ⟨(i + 1, insD out more[i]), ⟨by omega, insD_sorted hos, fun d hd => ?_, ?_⟩, by omega, ?_⟩
        · rcases mem_insD hd with rfl | hd
          · exact hdv
          · exact hov d hd
        · rw [joinL_at hlt, if_neg (by simp [hdv]), if_neg (by simp [hb])]
        · refine weak_eq [6,13,14,15] [[12, 0]] ?_ ?_
          · simp only [go_sem, Nat.reduceLT, Nat.reduceAdd, Nat.reduceEqDiff, Nat.reduceSub, Nat.reduceMul, Nat.reduceBEq, reduceIte, reduceCtorEq, wrap_succ hlt hm, Int.natCast_add, Int.natCast_one]
          · simp only [go_sem, Nat.reduceLT, Nat.reduceAdd, Nat.reduceEqDiff, Nat.reduceSub, Nat.reduceMul, Nat.reduceBEq, reduceIte, reduceCtorEq, wrap_succ hlt hm, Int.natCast_add, Int.natCast_one]
  · have hge : i = more.length := by
      have : ¬ (i : Int) < more.length := by simpa using hb
      omega
    subst hge
    repeat refine cl_seq ?_
    refine cl_exit ?_
    simp only [go_sem, Nat.reduceLT, Nat.reduceAdd, Nat.reduceEqDiff, Nat.reduceSub, Nat.reduceMul, Nat.reduceBEq, reduceIte, reduceCtorEq]
    refine cl_keep [6] [[12, 0]] ?_ ?_
    · simp only [go_sem, Nat.reduceLT, Nat.reduceAdd, Nat.reduceEqDiff, Nat.reduceSub, Nat.reduceMul, Nat.reduceBEq, reduceIte, reduceCtorEq]
    simp only [go_sem, Nat.reduceLT, Nat.reduceAdd, Nat.reduceEqDiff, Nat.reduceSub, Nat.reduceMul, Nat.reduceBEq, reduceIte, reduceCtorEq]
    rw [List.drop_length, joinL_nil]
    repeat refine cl_seq ?_
    refine cl_rs hΓ [6,43] [[12, 0]] fun K' hK => ?_
    simp only [go_sem, Nat.reduceLT, Nat.reduceAdd, Nat.reduceEqDiff, Nat.reduceSub, Nat.reduceMul, Nat.reduceBEq, reduceIte, reduceCtorEq]
    repeat (refine ⟨by first | exact Bool.or_not_self _ | exact Bool.not_or_self _ | exact fun _ => by decide | exact fun h => ⟨h, by decide⟩ | omega | (simp only [decide_eq_true_eq]; omega) | exact xD | exact fun h => ⟨h, xD⟩ | exact xDD | exact fun h => ⟨h, xDD⟩ | exact ⟨_, rfl⟩ | exact fun h => ⟨h, _, rfl⟩ | exact ⟨_, _, rfl⟩ | exact fun h => ⟨h, _, _, rfl⟩ | exact fun h => ⟨h, _, _, _, rfl⟩ | exact ⟨_, _, _, _, rfl⟩ | exact fun h => ⟨h, _, _, _, _, rfl⟩ | exact ⟨[_, _], rfl⟩ | (simp; done) | (simp_all; done) | (simp_all; omega), ?_⟩)
    refine hK _ ?_ ?_
    · simp only [go_sem, Nat.reduceLT, Nat.reduceAdd, Nat.reduceEqDiff, Nat.reduceSub, Nat.reduceMul, Nat.reduceBEq, reduceIte, reduceCtorEq]
    clear K' hK
    simp only [go_sem, Nat.reduceLT, Nat.reduceAdd, Nat.reduceEqDiff, Nat.reduceSub, Nat.reduceMul, Nat.reduceBEq, reduceIte, reduceCtorEq]
    repeat refine cl_seq ?_
    refine cl_cond rfl rfl (fun hb => ?_) (fun hb => ?_)
    · repeat refine cl_seq ?_
      repeat refine cl_seq ?_
      refine cl_rs hΓ [4,5] [] fun K' hK => ?_
      simp only [go_sem, Nat.reduceLT, Nat.reduceAdd, Nat.reduceEqDiff, Nat.reduceSub, Nat.reduceMul, Nat.reduceBEq, reduceIte, reduceCtorEq]
      repeat (refine ⟨by first | exact Bool.or_not_self _ | exact Bool.not_or_self _ | exact fun _ => by decide | exact fun h => ⟨h, by decide⟩ | omega | (simp only [decide_eq_true_eq]; omega) | exact xD | exact fun h => ⟨h, xD⟩ | exact xDD | exact fun h => ⟨h, xDD⟩ | exact ⟨_, rfl⟩ | exact fun h => ⟨h, _, rfl⟩ | exact ⟨_, _, rfl⟩ | exact fun h => ⟨h, _, _, rfl⟩ | exact fun h => ⟨h, _, _, _, rfl⟩ | exact ⟨_, _, _, _, rfl⟩ | exact fun h => ⟨h, _, _, _, _, rfl⟩ | exact ⟨[_, _], rfl⟩ | (simp; done) | (simp_all; done) | (simp_all; omega), ?_⟩)
      refine hK _ ?_ ?_
      · simp only [go_sem, Nat.reduceLT, Nat.reduceAdd, Nat.reduceEqDiff, Nat.reduceSub, Nat.reduceMul, Nat.reduceBEq, reduceIte, reduceCtorEq]
      clear K' hK
      simp only [go_sem, Nat.reduceLT, Nat.reduceAdd, Nat.reduceEqDiff, Nat.reduceSub, Nat.reduceMul, Nat.reduceBEq, reduceIte, reduceCtorEq]
      refine cl_ret ?_
      simp only [go_sem, Nat.reduceLT, Nat.reduceAdd, Nat.reduceEqDiff, Nat.reduceSub, Nat.reduceMul, Nat.reduceBEq, reduceIte, reduceCtorEq]
      have hlg : (60 : Int) < out.length := by simpa using hb
      rw [if_pos (by omega)]
      rfl
    · repeat refine cl_seq ?_
      refine cl_skip ?_
      repeat refine cl_seq ?_
      refine cl_rs hΓ [4,5] [[12, 0]] fun K' hK => ?_
      simp only [go_sem, Nat.reduceLT, Nat.reduceAdd, Nat.reduceEqDiff, Nat.reduceSub, Nat.reduceMul, Nat.reduceBEq, reduceIte, reduceCtorEq]
      repeat (refine ⟨by first | exact Bool.or_not_self _ | exact Bool.not_or_self _ | exact fun _ => by decide | exact fun h => ⟨h, by decide⟩ | omega | (simp only [decide_eq_true_eq]; omega) | exact xD | exact fun h => ⟨h, xD⟩ | exact xDD | exact fun h => ⟨h, xDD⟩ | exact ⟨_, rfl⟩ | exact fun h => ⟨h, _, rfl⟩ | exact ⟨_, _, rfl⟩ | exact fun h => ⟨h, _, _, rfl⟩ | exact fun h => ⟨h, _, _, _, rfl⟩ | exact ⟨_, _, _, _, rfl⟩ | exact fun h => ⟨h, _, _, _, _, rfl⟩ | exact ⟨[_, _], rfl⟩ | (simp; done) | (simp_all; done) | (simp_all; omega), ?_⟩)
      refine hK _ ?_ ?_
      · simp only [go_sem, Nat.reduceLT, Nat.reduceAdd, Nat.reduceEqDiff, Nat.reduceSub, Nat.reduceMul, Nat.reduceBEq, reduceIte, reduceCtorEq]
      clear K' hK
      simp only [go_sem, Nat.reduceLT, Nat.reduceAdd, Nat.reduceEqDiff, Nat.reduceSub, Nat.reduceMul, Nat.reduceBEq, reduceIte, reduceCtorEq]
      refine cl_ret ?_
      simp only [go_sem, Nat.reduceLT, Nat.reduceAdd, Nat.reduceEqDiff, Nat.reduceSub, Nat.reduceMul, Nat.reduceBEq, reduceIte, reduceCtorEq]
      have hlg : (out.length : Int) ≤ 60 := by simpa using hb
      rw [if_neg (by omega)]
      first | rfl | exact ⟨rfl, rfl⟩

theorem s67 : PSound Tryz.prog 67 (pJoin okL (joinL isDeedB)) := by
  refine psoundB (rs := [.tmp 4, .tmp 5]) Tryz.func67 Tryz.ntmps67 (by rfl) (by kernel_rfl) (by decide) (fun h => by cases h) ?_
  obtain ⟨c, hc, _⟩ := w67 [] [] (by simp) (by simp) (by simp) (by simp)
  refine ⟨c, hc, ?_⟩
  rintro xs ⟨l, m, rfl, h1, h2, h3⟩ hw
  have hm : m.length ≤ maxLen := by have := hw.2.1.1; simpa using this
  refine ⟨Nat.le_of_ble_eq_true rfl, ?_⟩
  obtain ⟨c', hc', h⟩ := w67 l m h1 h2 h3 hm
  rw [hc] at hc'
  cases hc'
  rw [pJoin_fn]
  exact h
end Go.Eng
namespace Go.Eng
open Go Go.Proofs

def pLen (P : List Deed → Prop) (f : List Deed → V) : PSpec := ⟨fun xs => ∃ l : List Deed, xs = [.sl (l.map encD)] ∧ P l, fun xs => match xs with | [.sl l] => f (l.map decD) | _ => .bool false, false⟩
theorem pLen_fn (P : List Deed → Prop) (f : List Deed → V) (l : List Deed) : (pLen P f).fn [.sl (l.map encD)] = f l := by
  simp only [pLen, decD_map]
noncomputable def sJoin0 : Spec := (pJoin okL (joinL isDeedB)).toSpec
theorem sJoin0_app {obj : Name → Option O} {t : Name} {l m : List Deed} (h : okL l) : sJoin0.app obj t [.v (.sl (l.map encD)), .v (.sl (m.map encD))] = ⟨True, .v (joinV (joinL isDeedB l m)), obj⟩ := by
  simp only [sJoin0, PSpec.toSpec, frzL, frz, true_and]
  rw [pJoin_fn]
  congr 1
  simp only [eq_iff_iff, iff_true]
  exact ⟨l, m, rfl, h⟩
noncomputable def sChk : Spec := (pLD (fun l => vInt (checkI l)) true).toSpec
theorem s39' : SSound Tryz.prog 39 sChk := s39.sound
theorem sChk_app {obj : Name → Option O} {t : Name} {l : List Deed} : sChk.app obj t [.v (.sl (l.map encD))] = ⟨True, .v (vInt (checkI l)), obj⟩ := by
  simp only [sChk, PSpec.toSpec, frzL, frz, pLD_fn]
  congr 1
  simp only [eq_iff_iff, iff_true]
  exact ⟨⟨trivial, trivial⟩, l, rfl⟩
noncomputable def K9 : FuncId → Option Spec := fun f => match f with
  | 39 => some sChk
  | 67 => some sJoin0
  | f => K8 f
theorem K9_sound : ∀ f s, K9 f = some s → SSound Tryz.prog f s := by
  intro f s h
  unfold K9 at h
  split at h
  · cases h; exact s39'
  · cases h; exact s67.sound
  · exact K8_sound _ _ h
@[go_sem] theorem K9_39 : K9 39 = some sChk := rfl
@[go_sem] theorem K9_67 : K9 67 = some sJoin0 := rfl
@[go_sem] theorem K9_94 : K9 94 = some sPutI := rfl
@[go_sem] theorem K9_95 : K9 95 = some (pII fun a b => vInt (cmpI a b)).toSpec := rfl

theorem s13 : PSound Tryz.prog 13 (pJoin (fun _ => True) joinR) := by
  refine psoundB (rs := [.tmp 4, .tmp 5]) Tryz.func13 Tryz.ntmps13 (by rfl) (by kernel_rfl) (by decide) (fun h => by cases h) ⟨_, rfl, ?_⟩
  rintro xs ⟨l, m, rfl, _⟩ hw
  refine ⟨Nat.le_of_ble_eq_true rfl, ?_⟩
  rw [pJoin_fn]
  have hΓ := K9_sound
  have hP := mixedK
  repeat refine cl_seq ?_
  refine cl_rs hΓ [0,1] [] fun K' hK => ?_
  simp only [go_sem, Nat.reduceLT, Nat.reduceAdd, Nat.reduceEqDiff, Nat.reduceSub, Nat.reduceMul, Nat.reduceBEq, reduceIte, reduceCtorEq]
  repeat (refine ⟨by first | exact Bool.or_not_self _ | exact Bool.not_or_self _ | exact fun _ => by decide | exact fun h => ⟨h, by decide⟩ | omega | (simp only [decide_eq_true_eq]; omega) | exact xD | exact fun h => ⟨h, xD⟩ | exact xDD | exact fun h => ⟨h, xDD⟩ | exact ⟨_, rfl⟩ | exact fun h => ⟨h, _, rfl⟩ | exact ⟨_, _, rfl⟩ | exact fun h => ⟨h, _, _, rfl⟩ | exact fun h => ⟨h, _, _, _, rfl⟩ | exact ⟨_, _, _, _, rfl⟩ | exact fun h => ⟨h, _, _, _, _, rfl⟩ | exact ⟨[_, _], rfl⟩ | (simp; done) | (simp_all; done) | (simp_all; omega), ?_⟩)
  refine hK _ ?_ ?_
  · simp only [go_sem, Nat.reduceLT, Nat.reduceAdd, Nat.reduceEqDiff, Nat.reduceSub, Nat.reduceMul, Nat.reduceBEq, reduceIte, reduceCtorEq]
  clear K' hK
  simp only [go_sem, Nat.reduceLT, Nat.reduceAdd, Nat.reduceEqDiff, Nat.reduceSub, Nat.reduceMul, Nat.reduceBEq, reduceIte, reduceCtorEq]
  repeat refine cl_seq ?_
  refine cl_rs hΓ [0,1,6] [] fun K' hK => ?_
  simp only [go_sem, Nat.reduceLT, Nat.reduceAdd, Nat.reduceEqDiff, Nat.reduceSub, Nat.reduceMul, Nat.reduceBEq, reduceIte, reduceCtorEq, sChk_app]
  repeat (refine ⟨by first | exact Bool.or_not_self _ | exact Bool.not_or_self _ | exact fun _ => by decide | exact fun h => ⟨h, by decide⟩ | omega | (simp only [decide_eq_true_eq]; omega) | exact xD | exact fun h => ⟨h, xD⟩ | exact xDD | exact fun h => ⟨h, xDD⟩ | exact ⟨_, rfl⟩ | exact fun h => ⟨h, _, rfl⟩ | exact ⟨_, _, rfl⟩ | exact fun h => ⟨h, _, _, rfl⟩ | exact fun h => ⟨h, _, _, _, rfl⟩ | exact ⟨_, _, _, _, rfl⟩ | exact fun h => ⟨h, _, _, _, _, rfl⟩ | exact ⟨[_, _], rfl⟩ | (simp; done) | (simp_all; done) | (simp_all; omega), ?_⟩)
  refine hK _ ?_ ?_
  · simp only [go_sem, Nat.reduceLT, Nat.reduceAdd, Nat.reduceEqDiff, Nat.reduceSub, Nat.reduceMul, Nat.reduceBEq, reduceIte, reduceCtorEq, sChk_app]
  clear K' hK
  simp only [go_sem, Nat.reduceLT, Nat.reduceAdd, Nat.reduceEqDiff, Nat.reduceSub, Nat.reduceMul, Nat.reduceBEq, reduceIte, reduceCtorEq, sChk_app]
  repeat refine cl_seq ?_
  refine cl_rs hΓ [0,1,6,10] [] fun K' hK => ?_
  simp only [go_sem, Nat.reduceLT, Nat.reduceAdd, Nat.reduceEqDiff, Nat.reduceSub, Nat.reduceMul, Nat.reduceBEq, reduceIte, reduceCtorEq]
  repeat (refine ⟨by first | exact Bool.or_not_self _ | exact Bool.not_or_self _ | exact fun _ => by decide | exact fun h => ⟨h, by decide⟩ | omega | (simp only [decide_eq_true_eq]; omega) | exact xD | exact fun h => ⟨h, xD⟩ | exact xDD | exact fun h => ⟨h, xDD⟩ | exact ⟨_, rfl⟩ | exact fun h => ⟨h, _, rfl⟩ | exact ⟨_, _, rfl⟩ | exact fun h => ⟨h, _, _, rfl⟩ | exact fun h => ⟨h, _, _, _, rfl⟩ | exact ⟨_, _, _, _, rfl⟩ | exact fun h => ⟨h, _, _, _, _, rfl⟩ | exact ⟨[_, _], rfl⟩ | (simp; done) | (simp_all; done) | (simp_all; omega), ?_⟩)
  refine hK _ ?_ ?_
  · simp only [go_sem, Nat.reduceLT, Nat.reduceAdd, Nat.reduceEqDiff, Nat.reduceSub, Nat.reduceMul, Nat.reduceBEq, reduceIte, reduceCtorEq]
  clear K' hK
  simp only [go_sem, Nat.reduceLT, Nat.reduceAdd, Nat.reduceEqDiff, Nat.reduceSub, Nat.reduceMul, Nat.reduceBEq, reduceIte, reduceCtorEq]
  repeat refine cl_seq ?_
  refine cl_cond rfl rfl (fun hb => ?_) (fun hb => ?_)
  · repeat refine cl_seq ?_
    repeat refine cl_seq ?_
    refine cl_rs hΓ [4,5] [] fun K' hK => ?_
    simp only [go_sem, Nat.reduceLT, Nat.reduceAdd, Nat.reduceEqDiff, Nat.reduceSub, Nat.reduceMul, Nat.reduceBEq, reduceIte, reduceCtorEq]
    repeat (refine ⟨by first | exact Bool.or_not_self _ | exact Bool.not_or_self _ | exact fun _ => by decide | exact fun h => ⟨h, by decide⟩ | omega | (simp only [decide_eq_true_eq]; omega) | exact xD | exact fun h => ⟨h, xD⟩ | exact xDD | exact fun h => ⟨h, xDD⟩ | exact ⟨_, rfl⟩ | exact fun h => ⟨h, _, rfl⟩ | exact ⟨_, _, rfl⟩ | exact fun h => ⟨h, _, _, rfl⟩ | exact fun h => ⟨h, _, _, _, rfl⟩ | exact ⟨_, _, _, _, rfl⟩ | exact fun h => ⟨h, _, _, _, _, rfl⟩ | exact ⟨[_, _], rfl⟩ | (simp; done) | (simp_all; done) | (simp_all; omega), ?_⟩)
    refine hK _ ?_ ?_
    · simp only [go_sem, Nat.reduceLT, Nat.reduceAdd, Nat.reduceEqDiff, Nat.reduceSub, Nat.reduceMul, Nat.reduceBEq, reduceIte, reduceCtorEq]
    clear K' hK
    simp only [go_sem, Nat.reduceLT, Nat.reduceAdd, Nat.reduceEqDiff, Nat.reduceSub, Nat.reduceMul, Nat.reduceBEq, reduceIte, reduceCtorEq]
    refine cl_ret ?_
    simp only [go_sem, Nat.reduceLT, Nat.reduceAdd, Nat.reduceEqDiff, Nat.reduceSub, Nat.reduceMul, Nat.reduceBEq, reduceIte, reduceCtorEq]
    have hn : ¬ checkI l = 0 := by simpa using hb
    all_goals simp [joinV, joinR, hn]
  · have hz : checkI l = 0 := by simpa using hb
    have hok := check_zero.1 hz
    repeat refine cl_seq ?_
    refine cl_skip ?_
    repeat refine cl_seq ?_
    refine cl_rs hΓ [4,5] [] fun K' hK => ?_
    simp only [go_sem, Nat.reduceLT, Nat.reduceAdd, Nat.reduceEqDiff, Nat.reduceSub, Nat.reduceMul, Nat.reduceBEq, reduceIte, reduceCtorEq, sJoin0_app hok, joinV]
    repeat (refine ⟨by first | exact Bool.or_not_self _ | exact Bool.not_or_self _ | exact fun _ => by decide | exact fun h => ⟨h, by decide⟩ | omega | (simp only [decide_eq_true_eq]; omega) | exact xD | exact fun h => ⟨h, xD⟩ | exact xDD | exact fun h => ⟨h, xDD⟩ | exact ⟨_, rfl⟩ | exact fun h => ⟨h, _, rfl⟩ | exact ⟨_, _, rfl⟩ | exact fun h => ⟨h, _, _, rfl⟩ | exact fun h => ⟨h, _, _, _, rfl⟩ | exact ⟨_, _, _, _, rfl⟩ | exact fun h => ⟨h, _, _, _, _, rfl⟩ | exact ⟨[_, _], rfl⟩ | (simp; done) | (simp_all; done) | (simp_all; omega), ?_⟩)
    refine hK _ ?_ ?_
    · simp only [go_sem, Nat.reduceLT, Nat.reduceAdd, Nat.reduceEqDiff, Nat.reduceSub, Nat.reduceMul, Nat.reduceBEq, reduceIte, reduceCtorEq, sJoin0_app hok, joinV]
    clear K' hK
    simp only [go_sem, Nat.reduceLT, Nat.reduceAdd, Nat.reduceEqDiff, Nat.reduceSub, Nat.reduceMul, Nat.reduceBEq, reduceIte, reduceCtorEq, sJoin0_app hok, joinV]
    refine cl_ret ?_
    simp only [go_sem, Nat.reduceLT, Nat.reduceAdd, Nat.reduceEqDiff, Nat.reduceSub, Nat.reduceMul, Nat.reduceBEq, reduceIte, reduceCtorEq]
    all_goals simp [joinV, joinR, hz]
noncomputable def sJoin : Spec := (pJoin (fun _ => True) joinR).toSpec
theorem sJoin_app {obj : Name → Option O} {t : Name} {l m : List Deed} : sJoin.app obj t [.v (.sl (l.map encD)), .v (.sl (m.map encD))] = ⟨True, .v (joinV (joinR l m)), obj⟩ := by
  simp only [sJoin, PSpec.toSpec, frzL, frz, true_and]
  rw [pJoin_fn]
  congr 1
  simp only [eq_iff_iff, iff_true]
  exact ⟨l, m, rfl, trivial⟩
theorem sJoin_one {obj : Name → Option O} {t : Name} {l : List Deed} {x : V} {d : Deed} (hx : x = encD d) : sJoin.app obj t [.v (.sl (l.map encD)), .v (.sl [x])] = ⟨True, .v (joinV (joinR l [d])), obj⟩ := by
  subst hx
  exact sJoin_app (m := [d])
noncomputable def K10 : FuncId → Option Spec := fun f => match f with
  | 13 => some sJoin
  | f => K9 f
theorem K10_sound : ∀ f s, K10 f = some s → SSound Tryz.prog f s := by
  intro f s h
  unfold K10 at h
  split at h
  · cases h; exact s13.sound
  · exact K9_sound _ _ h
@[go_sem] theorem K10_13 : K10 13 = some sJoin := rfl
def pAdd (f : List Deed → Deed → V) : PSpec := ⟨fun xs => ∃ (l : List Deed) (d : Deed), xs = [.sl (l.map encD), encD d], fun xs => match xs with | [.sl l, d] => f (l.map decD) (decD d) | _ => .bool false, false⟩
theorem pAdd_fn (f : List Deed → Deed → V) (l : List Deed) (d : Deed) : (pAdd f).fn [.sl (l.map encD), encD d] = f l d := by
  simp only [pAdd, decD_map, decD_enc]
theorem s19 : PSound Tryz.prog 19 (pAdd fun l d => joinV (joinR l [d])) := by
  refine psoundB (rs := [.tmp 4, .tmp 5]) Tryz.func19 Tryz.ntmps19 (by rfl) (by kernel_rfl) (by decide) (fun h => by cases h) ⟨_, rfl, ?_⟩
  rintro xs ⟨l, d, rfl⟩ hw
  refine ⟨Nat.le_of_ble_eq_true rfl, ?_⟩
  rw [pAdd_fn]
  obtain ⟨pa, no, ki, lo, pe, dl, dh, kn, un⟩ := d
  have hΓ := K10_sound
  have hP := mixedK
  have hj := fun (obj : Name → Option O) (t : Name) => sJoin_one (obj := obj) (t := t) (l := l) (d := (⟨pa, no, ki, lo, pe, dl, dh, kn, un⟩ : Deed)) (x := .agg [vInt pa, vInt no, vInt ki, vInt lo, vInt pe, vInt dl, vInt dh, vInt kn, vInt un]) rfl
  repeat refine cl_seq ?_
  refine cl_rs hΓ [0,3] [[3, 0]] fun K' hK => ?_
  simp only [go_sem, Nat.reduceLT, Nat.reduceAdd, Nat.reduceEqDiff, Nat.reduceSub, Nat.reduceMul, Nat.reduceBEq, reduceIte, reduceCtorEq]
  repeat (refine ⟨by first | exact Bool.or_not_self _ | exact Bool.not_or_self _ | exact fun _ => by decide | exact fun h => ⟨h, by decide⟩ | omega | (simp only [decide_eq_true_eq]; omega) | exact xD | exact fun h => ⟨h, xD⟩ | exact xDD | exact fun h => ⟨h, xDD⟩ | exact ⟨_, rfl⟩ | exact fun h => ⟨h, _, rfl⟩ | exact ⟨_, _, rfl⟩ | exact fun h => ⟨h, _, _, rfl⟩ | exact fun h => ⟨h, _, _, _, rfl⟩ | exact ⟨_, _, _, _, rfl⟩ | exact fun h => ⟨h, _, _, _, _, rfl⟩ | exact ⟨[_, _], rfl⟩ | (simp; done) | (simp_all; done) | (simp_all; omega), ?_⟩)
  refine hK _ ?_ ?_
  · simp only [go_sem, Nat.reduceLT, Nat.reduceAdd, Nat.reduceEqDiff, Nat.reduceSub, Nat.reduceMul, Nat.reduceBEq, reduceIte, reduceCtorEq]
  clear K' hK
  simp only [go_sem, Nat.reduceLT, Nat.reduceAdd, Nat.reduceEqDiff, Nat.reduceSub, Nat.reduceMul, Nat.reduceBEq, reduceIte, reduceCtorEq]
  repeat refine cl_seq ?_
  refine cl_rs hΓ [4,5] [] fun K' hK => ?_
  simp only [go_sem, Nat.reduceLT, Nat.reduceAdd, Nat.reduceEqDiff, Nat.reduceSub, Nat.reduceMul, Nat.reduceBEq, reduceIte, reduceCtorEq, hj, joinV]
  repeat (refine ⟨by first | exact Bool.or_not_self _ | exact Bool.not_or_self _ | exact fun _ => by decide | exact fun h => ⟨h, by decide⟩ | omega | (simp only [decide_eq_true_eq]; omega) | exact xD | exact fun h => ⟨h, xD⟩ | exact xDD | exact fun h => ⟨h, xDD⟩ | exact ⟨_, rfl⟩ | exact fun h => ⟨h, _, rfl⟩ | exact ⟨_, _, rfl⟩ | exact fun h => ⟨h, _, _, rfl⟩ | exact fun h => ⟨h, _, _, _, rfl⟩ | exact ⟨_, _, _, _, rfl⟩ | exact fun h => ⟨h, _, _, _, _, rfl⟩ | exact ⟨[_, _], rfl⟩ | (simp; done) | (simp_all; done) | (simp_all; omega), ?_⟩)
  refine hK _ ?_ ?_
  · simp only [go_sem, Nat.reduceLT, Nat.reduceAdd, Nat.reduceEqDiff, Nat.reduceSub, Nat.reduceMul, Nat.reduceBEq, reduceIte, reduceCtorEq, hj, joinV]
  clear K' hK
  simp only [go_sem, Nat.reduceLT, Nat.reduceAdd, Nat.reduceEqDiff, Nat.reduceSub, Nat.reduceMul, Nat.reduceBEq, reduceIte, reduceCtorEq, hj, joinV]
  refine cl_ret ?_
  simp only [go_sem, Nat.reduceLT, Nat.reduceAdd, Nat.reduceEqDiff, Nat.reduceSub, Nat.reduceMul, Nat.reduceBEq, reduceIte, reduceCtorEq]
  all_goals simp [joinV]
set_option maxRecDepth 10000 in
set_option maxHeartbeats 4000000 in
theorem s34 : PSound Tryz.prog 34 (pLen (fun _ => True) fun l => datesV (datesR l)) := by
  refine psoundB (rs := [.tmp 2, .tmp 3]) Tryz.func34 Tryz.ntmps34 (by rfl) (by kernel_rfl) (by decide) (fun h => by cases h) ⟨_, rfl, ?_⟩
  rintro xs ⟨l, rfl, _⟩ hw
  refine ⟨Nat.le_of_ble_eq_true rfl, ?_⟩
  rw [pLen_fn]
  have hΓ := K9_sound
  have hP := mixedK
  repeat refine cl_seq ?_
  refine cl_rs hΓ [0] [] fun K' hK => ?_
  simp only [go_sem, Nat.reduceLT, Nat.reduceAdd, Nat.reduceEqDiff, Nat.reduceSub, Nat.reduceMul, Nat.reduceBEq, reduceIte, reduceCtorEq]
  repeat (refine ⟨by first | exact Bool.or_not_self _ | exact Bool.not_or_self _ | exact fun _ => by decide | exact fun h => ⟨h, by decide⟩ | omega | (simp only [decide_eq_true_eq]; omega) | exact xD | exact fun h => ⟨h, xD⟩ | exact xDD | exact fun h => ⟨h, xDD⟩ | exact ⟨_, rfl⟩ | exact fun h => ⟨h, _, rfl⟩ | exact ⟨_, _, rfl⟩ | exact fun h => ⟨h, _, _, rfl⟩ | exact fun h => ⟨h, _, _, _, rfl⟩ | exact ⟨_, _, _, _, rfl⟩ | exact fun h => ⟨h, _, _, _, _, rfl⟩ | exact ⟨[_, _], rfl⟩ | (simp; done) | (simp_all; done) | (simp_all; omega), ?_⟩)
  refine hK _ ?_ ?_
  · simp only [go_sem, Nat.reduceLT, Nat.reduceAdd, Nat.reduceEqDiff, Nat.reduceSub, Nat.reduceMul, Nat.reduceBEq, reduceIte, reduceCtorEq]
  clear K' hK
  simp only [go_sem, Nat.reduceLT, Nat.reduceAdd, Nat.reduceEqDiff, Nat.reduceSub, Nat.reduceMul, Nat.reduceBEq, reduceIte, reduceCtorEq]
  repeat refine cl_seq ?_
  refine cl_rs hΓ [0,4] [] fun K' hK => ?_
  simp only [go_sem, Nat.reduceLT, Nat.reduceAdd, Nat.reduceEqDiff, Nat.reduceSub, Nat.reduceMul, Nat.reduceBEq, reduceIte, reduceCtorEq, sChk_app]
  repeat (refine ⟨by first | exact Bool.or_not_self _ | exact Bool.not_or_self _ | exact fun _ => by decide | exact fun h => ⟨h, by decide⟩ | omega | (simp only [decide_eq_true_eq]; omega) | exact xD | exact fun h => ⟨h, xD⟩ | exact xDD | exact fun h => ⟨h, xDD⟩ | exact ⟨_, rfl⟩ | exact fun h => ⟨h, _, rfl⟩ | exact ⟨_, _, rfl⟩ | exact fun h => ⟨h, _, _, rfl⟩ | exact fun h => ⟨h, _, _, _, rfl⟩ | exact ⟨_, _, _, _, rfl⟩ | exact fun h => ⟨h, _, _, _, _, rfl⟩ | exact ⟨[_, _], rfl⟩ | (simp; done) | (simp_all; done) | (simp_all; omega), ?_⟩)
  refine hK _ ?_ ?_
  · simp only [go_sem, Nat.reduceLT, Nat.reduceAdd, Nat.reduceEqDiff, Nat.reduceSub, Nat.reduceMul, Nat.reduceBEq, reduceIte, reduceCtorEq, sChk_app]
  clear K' hK
  simp only [go_sem, Nat.reduceLT, Nat.reduceAdd, Nat.reduceEqDiff, Nat.reduceSub, Nat.reduceMul, Nat.reduceBEq, reduceIte, reduceCtorEq, sChk_app]
  repeat refine cl_seq ?_
  refine cl_rs hΓ [0,4,11] [] fun K' hK => ?_
  simp only [go_sem, Nat.reduceLT, Nat.reduceAdd, Nat.reduceEqDiff, Nat.reduceSub, Nat.reduceMul, Nat.reduceBEq, reduceIte, reduceCtorEq]
  repeat (refine ⟨by first | exact Bool.or_not_self _ | exact Bool.not_or_self _ | exact fun _ => by decide | exact fun h => ⟨h, by decide⟩ | omega | (simp only [decide_eq_true_eq]; omega) | exact xD | exact fun h => ⟨h, xD⟩ | exact xDD | exact fun h => ⟨h, xDD⟩ | exact ⟨_, rfl⟩ | exact fun h => ⟨h, _, rfl⟩ | exact ⟨_, _, rfl⟩ | exact fun h => ⟨h, _, _, rfl⟩ | exact fun h => ⟨h, _, _, _, rfl⟩ | exact ⟨_, _, _, _, rfl⟩ | exact fun h => ⟨h, _, _, _, _, rfl⟩ | exact ⟨[_, _], rfl⟩ | (simp; done) | (simp_all; done) | (simp_all; omega), ?_⟩)
  refine hK _ ?_ ?_
  · simp only [go_sem, Nat.reduceLT, Nat.reduceAdd, Nat.reduceEqDiff, Nat.reduceSub, Nat.reduceMul, Nat.reduceBEq, reduceIte, reduceCtorEq]
  clear K' hK
  simp only [go_sem, Nat.reduceLT, Nat.reduceAdd, Nat.reduceEqDiff, Nat.reduceSub, Nat.reduceMul, Nat.reduceBEq, reduceIte, reduceCtorEq]
  repeat refine cl_seq ?_
  refine cl_cond rfl rfl (fun hb => ?_) (fun hb => ?_)
  · repeat refine cl_seq ?_
    repeat refine cl_seq ?_
    refine cl_rs hΓ [2,3] [] fun K' hK => ?_
    simp only [go_sem, Nat.reduceLT, Nat.reduceAdd, Nat.reduceEqDiff, Nat.reduceSub, Nat.reduceMul, Nat.reduceBEq, reduceIte, reduceCtorEq]
    repeat (refine ⟨by first | exact Bool.or_not_self _ | exact Bool.not_or_self _ | exact fun _ => by decide | exact fun h => ⟨h, by decide⟩ | omega | (simp only [decide_eq_true_eq]; omega) | exact xD | exact fun h => ⟨h, xD⟩ | exact xDD | exact fun h => ⟨h, xDD⟩ | exact ⟨_, rfl⟩ | exact fun h => ⟨h, _, rfl⟩ | exact ⟨_, _, rfl⟩ | exact fun h => ⟨h, _, _, rfl⟩ | exact fun h => ⟨h, _, _, _, rfl⟩ | exact ⟨_, _, _, _, rfl⟩ | exact fun h => ⟨h, _, _, _, _, rfl⟩ | exact ⟨[_, _], rfl⟩ | (simp; done) | (simp_all; done) | (simp_all; omega), ?_⟩)
    refine hK _ ?_ ?_
    · simp only [go_sem, Nat.reduceLT, Nat.reduceAdd, Nat.reduceEqDiff, Nat.reduceSub, Nat.reduceMul, Nat.reduceBEq, reduceIte, reduceCtorEq]
    clear K' hK
    simp only [go_sem, Nat.reduceLT, Nat.reduceAdd, Nat.reduceEqDiff, Nat.reduceSub, Nat.reduceMul, Nat.reduceBEq, reduceIte, reduceCtorEq]
    refine cl_ret ?_
    simp only [go_sem, Nat.reduceLT, Nat.reduceAdd, Nat.reduceEqDiff, Nat.reduceSub, Nat.reduceMul, Nat.reduceBEq, reduceIte, reduceCtorEq]
    have hn : ¬ checkI l = 0 := by simpa using hb
    all_goals simp [datesV, datesR, hn]
  have hz : checkI l = 0 := by simpa using hb
  have hok := check_zero.1 hz
  have hl60 := hok.2.2
  have hl : l.length ≤ maxLen := by unfold maxLen; omega
  clear hb
  have hr : datesR l = (datesL l, 0) := by unfold datesR; rw [if_pos hz]
  rw [hr]
  clear hr
  repeat refine cl_seq ?_
  refine cl_skip ?_
  repeat refine cl_seq ?_
  refine cl_rs hΓ [0,5] [] fun K' hK => ?_
  simp only [go_sem, Nat.reduceLT, Nat.reduceAdd, Nat.reduceEqDiff, Nat.reduceSub, Nat.reduceMul, Nat.reduceBEq, reduceIte, reduceCtorEq]
  repeat (refine ⟨by first | exact Bool.or_not_self _ | exact Bool.not_or_self _ | exact fun _ => by decide | exact fun h => ⟨h, by decide⟩ | omega | (simp only [decide_eq_true_eq]; omega) | exact xD | exact fun h => ⟨h, xD⟩ | exact xDD | exact fun h => ⟨h, xDD⟩ | exact ⟨_, rfl⟩ | exact fun h => ⟨h, _, rfl⟩ | exact ⟨_, _, rfl⟩ | exact fun h => ⟨h, _, _, rfl⟩ | exact fun h => ⟨h, _, _, _, rfl⟩ | exact ⟨_, _, _, _, rfl⟩ | exact fun h => ⟨h, _, _, _, _, rfl⟩ | exact ⟨[_, _], rfl⟩ | (simp; done) | (simp_all; done) | (simp_all; omega), ?_⟩)
  refine hK _ ?_ ?_
  · simp only [go_sem, Nat.reduceLT, Nat.reduceAdd, Nat.reduceEqDiff, Nat.reduceSub, Nat.reduceMul, Nat.reduceBEq, reduceIte, reduceCtorEq]
  clear K' hK
  simp only [go_sem, Nat.reduceLT, Nat.reduceAdd, Nat.reduceEqDiff, Nat.reduceSub, Nat.reduceMul, Nat.reduceBEq, reduceIte, reduceCtorEq]
  refine cl_weakM (σ' := mkS 32 [0] (fun _ => none) [(0, ⟨true, .v (.sl (l.map encD))⟩), (5, ⟨true, .msl [5, 0] 0⟩)] [([5, 0], .arr 1 [])]) (weakM_ghostk 5 [5, 0] 1 (by simp only [go_sem, Nat.reduceLT, Nat.reduceAdd, Nat.reduceEqDiff, Nat.reduceSub, Nat.reduceMul, Nat.reduceBEq, reduceIte, reduceCtorEq]) (by simp only [go_sem, Nat.reduceLT, Nat.reduceAdd, Nat.reduceEqDiff, Nat.reduceSub, Nat.reduceMul, Nat.reduceBEq, reduceIte, reduceCtorEq]) [0, 5] [[5, 0]] ?_ ?_) ?_
  · simp only [go_sem, Nat.reduceLT, Nat.reduceAdd, Nat.reduceEqDiff, Nat.reduceSub, Nat.reduceMul, Nat.reduceBEq, reduceIte, reduceCtorEq]
  · simp only [go_sem, Nat.reduceLT, Nat.reduceAdd, Nat.reduceEqDiff, Nat.reduceSub, Nat.reduceMul, Nat.reduceBEq, reduceIte, reduceCtorEq]
  repeat refine cl_seq ?_
  refine cl_rs hΓ [5,13,14,15] [[5, 0]] fun K' hK => ?_
  simp only [go_sem, Nat.reduceLT, Nat.reduceAdd, Nat.reduceEqDiff, Nat.reduceSub, Nat.reduceMul, Nat.reduceBEq, reduceIte, reduceCtorEq]
  repeat (refine ⟨by first | exact Bool.or_not_self _ | exact Bool.not_or_self _ | exact fun _ => by decide | exact fun h => ⟨h, by decide⟩ | omega | (simp only [decide_eq_true_eq]; omega) | exact xD | exact fun h => ⟨h, xD⟩ | exact xDD | exact fun h => ⟨h, xDD⟩ | exact ⟨_, rfl⟩ | exact fun h => ⟨h, _, rfl⟩ | exact ⟨_, _, rfl⟩ | exact fun h => ⟨h, _, _, rfl⟩ | exact fun h => ⟨h, _, _, _, rfl⟩ | exact ⟨_, _, _, _, rfl⟩ | exact fun h => ⟨h, _, _, _, _, rfl⟩ | exact ⟨[_, _], rfl⟩ | (simp; done) | (simp_all; done) | (simp_all; omega), ?_⟩)
  refine hK _ ?_ ?_
  · simp only [go_sem, Nat.reduceLT, Nat.reduceAdd, Nat.reduceEqDiff, Nat.reduceSub, Nat.reduceMul, Nat.reduceBEq, reduceIte, reduceCtorEq]
  clear K' hK
  simp only [go_sem, Nat.reduceLT, Nat.reduceAdd, Nat.reduceEqDiff, Nat.reduceSub, Nat.reduceMul, Nat.reduceBEq, reduceIte, reduceCtorEq]
  repeat refine cl_seq ?_
  refine cl_block ?_
  repeat refine cl_seq ?_
  refine cl_loop' (fun i : Nat => [(5, ⟨true, .msl [5, 0] (datesL (l.take i)).length⟩), (15, ⟨true, .v (vInt i)⟩)]) (fun i => [([5, 0], .arr 1 ((datesL (l.take i)).map vInt))]) (fun i => i ≤ l.length) (fun i => l.length - i) 0 ?_ ?_ ?_ ?_
  · exact Nat.zero_le _
  · rfl
  · rfl
  intro i hi
  obtain ⟨hs, hlen⟩ := datesL_ok i l hi
  simp only [go_sem, Nat.reduceLT, Nat.reduceAdd, Nat.reduceEqDiff, Nat.reduceSub, Nat.reduceMul, Nat.reduceBEq, reduceIte, reduceCtorEq]
  repeat refine cl_seq ?_
  repeat refine cl_seq ?_
  refine cl_rs hΓ [5,13,14,15,16] [[5, 0]] fun K' hK => ?_
  simp only [go_sem, Nat.reduceLT, Nat.reduceAdd, Nat.reduceEqDiff, Nat.reduceSub, Nat.reduceMul, Nat.reduceBEq, reduceIte, reduceCtorEq]
  repeat (refine ⟨by first | exact Bool.or_not_self _ | exact Bool.not_or_self _ | exact fun _ => by decide | exact fun h => ⟨h, by decide⟩ | omega | (simp only [decide_eq_true_eq]; omega) | exact xD | exact fun h => ⟨h, xD⟩ | exact xDD | exact fun h => ⟨h, xDD⟩ | exact ⟨_, rfl⟩ | exact fun h => ⟨h, _, rfl⟩ | exact ⟨_, _, rfl⟩ | exact fun h => ⟨h, _, _, rfl⟩ | exact fun h => ⟨h, _, _, _, rfl⟩ | exact ⟨_, _, _, _, rfl⟩ | exact fun h => ⟨h, _, _, _, _, rfl⟩ | exact ⟨[_, _], rfl⟩ | (simp; done) | (simp_all; done) | (simp_all; omega), ?_⟩)
  refine hK _ ?_ ?_
  · simp only [go_sem, Nat.reduceLT, Nat.reduceAdd, Nat.reduceEqDiff, Nat.reduceSub, Nat.reduceMul, Nat.reduceBEq, reduceIte, reduceCtorEq]
  clear K' hK
  simp only [go_sem, Nat.reduceLT, Nat.reduceAdd, Nat.reduceEqDiff, Nat.reduceSub, Nat.reduceMul, Nat.reduceBEq, reduceIte, reduceCtorEq]
  repeat refine cl_seq ?_
  refine cl_cond rfl rfl (fun hb => ?_) (fun hb => ?_)
  · have hlt : i < l.length := by simpa using hb
    have hlt' : (i : Int) < l.length := by omega
    clear hb
    repeat refine cl_seq ?_
    refine cl_skip ?_
    repeat refine cl_seq ?_
    refine cl_block ?_
    repeat refine cl_seq ?_
    repeat refine cl_seq ?_
    refine cl_rs hΓ [5,7,13,14,15] [[5, 0], [7, 0]] fun K' hK => ?_
    simp only [go_sem, Nat.reduceLT, Nat.reduceAdd, Nat.reduceEqDiff, Nat.reduceSub, Nat.reduceMul, Nat.reduceBEq, reduceIte, reduceCtorEq, map_getD hlt, Int.toNat_natCast, Int.natCast_nonneg, hlt']
    repeat (refine ⟨by first | exact Bool.or_not_self _ | exact Bool.not_or_self _ | exact fun _ => by decide | exact fun h => ⟨h, by decide⟩ | omega | (simp only [decide_eq_true_eq]; omega) | exact xD | exact fun h => ⟨h, xD⟩ | exact xDD | exact fun h => ⟨h, xDD⟩ | exact ⟨_, rfl⟩ | exact fun h => ⟨h, _, rfl⟩ | exact ⟨_, _, rfl⟩ | exact fun h => ⟨h, _, _, rfl⟩ | exact fun h => ⟨h, _, _, _, rfl⟩ | exact ⟨_, _, _, _, rfl⟩ | exact fun h => ⟨h, _, _, _, _, rfl⟩ | exact ⟨[_, _], rfl⟩ | (simp; done) | (simp_all; done) | (simp_all; omega), ?_⟩)
    refine hK _ ?_ ?_
    · simp only [go_sem, Nat.reduceLT, Nat.reduceAdd, Nat.reduceEqDiff, Nat.reduceSub, Nat.reduceMul, Nat.reduceBEq, reduceIte, reduceCtorEq, map_getD hlt, Int.toNat_natCast, Int.natCast_nonneg, hlt']
    clear K' hK
    simp only [go_sem, Nat.reduceLT, Nat.reduceAdd, Nat.reduceEqDiff, Nat.reduceSub, Nat.reduceMul, Nat.reduceBEq, reduceIte, reduceCtorEq, map_getD hlt, Int.toNat_natCast, Int.natCast_nonneg, hlt']
    have hput := fun obj t (ho : obj [5, 0] = _) => sPutI_app (obj := obj) (t := t) (nm := [5, 0]) (k := (datesL (l.take i)).length) (l := datesL (l.take i)) (x := l[i].kn) ho rfl hs (by omega)
    rw [putI_ins _ hs] at hput
    repeat refine cl_seq ?_
    refine cl_rs hΓ [5,7,13,14,15] [[5, 0], [7, 0]] fun K' hK => ?_
    simp only [go_sem, Nat.reduceLT, Nat.reduceAdd, Nat.reduceEqDiff, Nat.reduceSub, Nat.reduceMul, Nat.reduceBEq, reduceIte, reduceCtorEq, hput]
    repeat (refine ⟨by first | exact Bool.or_not_self _ | exact Bool.not_or_self _ | exact fun _ => by decide | exact fun h => ⟨h, by decide⟩ | omega | (simp only [decide_eq_true_eq]; omega) | exact xD | exact fun h => ⟨h, xD⟩ | exact xDD | exact fun h => ⟨h, xDD⟩ | exact ⟨_, rfl⟩ | exact fun h => ⟨h, _, rfl⟩ | exact ⟨_, _, rfl⟩ | exact fun h => ⟨h, _, _, rfl⟩ | exact fun h => ⟨h, _, _, _, rfl⟩ | exact ⟨_, _, _, _, rfl⟩ | exact fun h => ⟨h, _, _, _, _, rfl⟩ | exact ⟨[_, _], rfl⟩ | (simp; done) | (simp_all; done) | (simp_all; omega), ?_⟩)
    refine hK _ ?_ ?_
    · simp only [go_sem, Nat.reduceLT, Nat.reduceAdd, Nat.reduceEqDiff, Nat.reduceSub, Nat.reduceMul, Nat.reduceBEq, reduceIte, reduceCtorEq, hput]
    clear K' hK
    simp only [go_sem, Nat.reduceLT, Nat.reduceAdd, Nat.reduceEqDiff, Nat.reduceSub, Nat.reduceMul, Nat.reduceBEq, reduceIte, reduceCtorEq, hput]
    repeat refine cl_seq ?_
    refine cl_rs hΓ [5,7,13,14,15,25] [[5, 0], [7, 0]] fun K' hK => ?_
    simp only [go_sem, Nat.reduceLT, Nat.reduceAdd, Nat.reduceEqDiff, Nat.reduceSub, Nat.reduceMul, Nat.reduceBEq, reduceIte, reduceCtorEq]
    repeat (refine ⟨by first | exact Bool.or_not_self _ | exact Bool.not_or_self _ | exact fun _ => by decide | exact fun h => ⟨h, by decide⟩ | omega | (simp only [decide_eq_true_eq]; omega) | exact xD | exact fun h => ⟨h, xD⟩ | exact xDD | exact fun h => ⟨h, xDD⟩ | exact ⟨_, rfl⟩ | exact fun h => ⟨h, _, rfl⟩ | exact ⟨_, _, rfl⟩ | exact fun h => ⟨h, _, _, rfl⟩ | exact fun h => ⟨h, _, _, _, rfl⟩ | exact ⟨_, _, _, _, rfl⟩ | exact fun h => ⟨h, _, _, _, _, rfl⟩ | exact ⟨[_, _], rfl⟩ | (simp; done) | (simp_all; done) | (simp_all; omega), ?_⟩)
    refine hK _ ?_ ?_
    · simp only [go_sem, Nat.reduceLT, Nat.reduceAdd, Nat.reduceEqDiff, Nat.reduceSub, Nat.reduceMul, Nat.reduceBEq, reduceIte, reduceCtorEq]
    clear K' hK
    simp only [go_sem, Nat.reduceLT, Nat.reduceAdd, Nat.reduceEqDiff, Nat.reduceSub, Nat.reduceMul, Nat.reduceBEq, reduceIte, reduceCtorEq]
    repeat refine cl_seq ?_
    have hn := datesL_next hlt
    refine cl_cond rfl rfl (fun hb => ?_) (fun hb => ?_)
    · repeat refine cl_seq ?_
      have hu : ¬ l[i].un = 0 := by simpa using hb
      have hs1 := insI_sorted (x := l[i].kn) hs
      have hlen1 := insI_len (datesL (l.take i)) l[i].kn
      have hput := fun obj t (ho : obj [5, 0] = _) => sPutI_app (obj := obj) (t := t) (nm := [5, 0]) (k := (insI (datesL (l.take i)) l[i].kn).length) (l := insI (datesL (l.take i)) l[i].kn) (x := l[i].un) ho rfl hs1 (by omega)
      rw [putI_ins _ hs1] at hput
      repeat refine cl_seq ?_
      refine cl_r hΓ fun K' hK => ?_
      simp only [go_sem, Nat.reduceLT, Nat.reduceAdd, Nat.reduceEqDiff, Nat.reduceSub, Nat.reduceMul, Nat.reduceBEq, reduceIte, reduceCtorEq, hput]
      repeat (refine ⟨by first | exact Bool.or_not_self _ | exact Bool.not_or_self _ | exact fun _ => by decide | exact fun h => ⟨h, by decide⟩ | omega | (simp only [decide_eq_true_eq]; omega) | exact xD | exact fun h => ⟨h, xD⟩ | exact xDD | exact fun h => ⟨h, xDD⟩ | exact ⟨_, rfl⟩ | exact fun h => ⟨h, _, rfl⟩ | exact ⟨_, _, rfl⟩ | exact fun h => ⟨h, _, _, rfl⟩ | exact fun h => ⟨h, _, _, _, rfl⟩ | exact ⟨_, _, _, _, rfl⟩ | exact fun h => ⟨h, _, _, _, _, rfl⟩ | exact ⟨[_, _], rfl⟩ | (simp; done) | (simp_all; done) | (simp_all; omega), ?_⟩)
      refine hK _ ?_
      clear K' hK
      simp only [go_sem, Nat.reduceLT, Nat.reduceAdd, Nat.reduceEqDiff, Nat.reduceSub, Nat.reduceMul, Nat.reduceBEq, reduceIte, reduceCtorEq]
      refine cl_keep [5,13,14,15] [[5, 0]] ?_ ?_
      · simp only [go_sem, Nat.reduceLT, Nat.reduceAdd, Nat.reduceEqDiff, Nat.reduceSub, Nat.reduceMul, Nat.reduceBEq, reduceIte, reduceCtorEq]
      simp only [go_sem, Nat.reduceLT, Nat.reduceAdd, Nat.reduceEqDiff, Nat.reduceSub, Nat.reduceMul, Nat.reduceBEq, reduceIte, reduceCtorEq]
      repeat refine cl_seq ?_
      refine cl_r hΓ fun K' hK => ?_
      simp only [go_sem, Nat.reduceLT, Nat.reduceAdd, Nat.reduceEqDiff, Nat.reduceSub, Nat.reduceMul, Nat.reduceBEq, reduceIte, reduceCtorEq]
      repeat (refine ⟨by first | exact Bool.or_not_self _ | exact Bool.not_or_self _ | exact fun _ => by decide | exact fun h => ⟨h, by decide⟩ | omega | (simp only [decide_eq_true_eq]; omega) | exact xD | exact fun h => ⟨h, xD⟩ | exact xDD | exact fun h => ⟨h, xDD⟩ | exact ⟨_, rfl⟩ | exact fun h => ⟨h, _, rfl⟩ | exact ⟨_, _, rfl⟩ | exact fun h => ⟨h, _, _, rfl⟩ | exact fun h => ⟨h, _, _, _, rfl⟩ | exact ⟨_, _, _, _, rfl⟩ | exact fun h => ⟨h, _, _, _, _, rfl⟩ | exact ⟨[_, _], rfl⟩ | (simp; done) | (simp_all; done) | (simp_all; omega), ?_⟩)
      refine hK _ ?_
      clear K' hK
      simp only [go_sem, Nat.reduceLT, Nat.reduceAdd, Nat.reduceEqDiff, Nat.reduceSub, Nat.reduceMul, Nat.reduceBEq, reduceIte, reduceCtorEq]
      refine ⟨i + 1, by omega, by omega, ?_⟩
      rw [hn]
      simp only [dateS, if_neg hu]
      refine weak_eq [5,13,14,15] [[5, 0]] ?_ ?_
      · simp only [go_sem, Nat.reduceLT, Nat.reduceAdd, Nat.reduceEqDiff, Nat.reduceSub, Nat.reduceMul, Nat.reduceBEq, reduceIte, reduceCtorEq, wrap_succ hlt hl, Int.natCast_add, Int.natCast_one]
      · simp only [go_sem, Nat.reduceLT, Nat.reduceAdd, Nat.reduceEqDiff, Nat.reduceSub, Nat.reduceMul, Nat.reduceBEq, reduceIte, reduceCtorEq, wrap_succ hlt hl, Int.natCast_add, Int.natCast_one]
    · have hu : l[i].un = 0 := by simpa using hb
      repeat refine cl_seq ?_
      refine cl_skip ?_
      refine cl_nil ?_
      simp only [go_sem, Nat.reduceLT, Nat.reduceAdd, Nat.reduceEqDiff, Nat.reduceSub, Nat.reduceMul, Nat.reduceBEq, reduceIte, reduceCtorEq]
      refine cl_keep [5,13,14,15] [[5, 0]] ?_ ?_
      · simp only [go_sem, Nat.reduceLT, Nat.reduceAdd, Nat.reduceEqDiff, Nat.reduceSub, Nat.reduceMul, Nat.reduceBEq, reduceIte, reduceCtorEq]
      simp only [go_sem, Nat.reduceLT, Nat.reduceAdd, Nat.reduceEqDiff, Nat.reduceSub, Nat.reduceMul, Nat.reduceBEq, reduceIte, reduceCtorEq]
      repeat refine cl_seq ?_
      refine cl_r hΓ fun K' hK => ?_
      simp only [go_sem, Nat.reduceLT, Nat.reduceAdd, Nat.reduceEqDiff, Nat.reduceSub, Nat.reduceMul, Nat.reduceBEq, reduceIte, reduceCtorEq]
      repeat (refine ⟨by first | exact Bool.or_not_self _ | exact Bool.not_or_self _ | exact fun _ => by decide | exact fun h => ⟨h, by decide⟩ | omega | (simp only [decide_eq_true_eq]; omega) | exact xD | exact fun h => ⟨h, xD⟩ | exact xDD | exact fun h => ⟨h, xDD⟩ | exact ⟨_, rfl⟩ | exact fun h => ⟨h, _, rfl⟩ | exact ⟨_, _, rfl⟩ | exact fun h => ⟨h, _, _, rfl⟩ | exact fun h => ⟨h, _, _, _, rfl⟩ | exact ⟨_, _, _, _, rfl⟩ | exact fun h => ⟨h, _, _, _, _, rfl⟩ | exact ⟨[_, _], rfl⟩ | (simp; done) | (simp_all; done) | (simp_all; omega), ?_⟩)
      refine hK _ ?_
      clear K' hK
      simp only [go_sem, Nat.reduceLT, Nat.reduceAdd, Nat.reduceEqDiff, Nat.reduceSub, Nat.reduceMul, Nat.reduceBEq, reduceIte, reduceCtorEq]
      refine ⟨i + 1, by omega, by omega, ?_⟩
      rw [hn]
      simp only [dateS, if_pos hu]
      refine weak_eq [5,13,14,15] [[5, 0]] ?_ ?_
      · simp only [go_sem, Nat.reduceLT, Nat.reduceAdd, Nat.reduceEqDiff, Nat.reduceSub, Nat.reduceMul, Nat.reduceBEq, reduceIte, reduceCtorEq, wrap_succ hlt hl, Int.natCast_add, Int.natCast_one]
      · simp only [go_sem, Nat.reduceLT, Nat.reduceAdd, Nat.reduceEqDiff, Nat.reduceSub, Nat.reduceMul, Nat.reduceBEq, reduceIte, reduceCtorEq, wrap_succ hlt hl, Int.natCast_add, Int.natCast_one]
  · have hge : i = l.length := by
      have : ¬ (i : Int) < l.length := by simpa using hb
      omega
    subst hge
    repeat refine cl_seq ?_
    refine cl_exit ?_
    simp only [go_sem, Nat.reduceLT, Nat.reduceAdd, Nat.reduceEqDiff, Nat.reduceSub, Nat.reduceMul, Nat.reduceBEq, reduceIte, reduceCtorEq]
    refine cl_keep [5] [[5, 0]] ?_ ?_
    · simp only [go_sem, Nat.reduceLT, Nat.reduceAdd, Nat.reduceEqDiff, Nat.reduceSub, Nat.reduceMul, Nat.reduceBEq, reduceIte, reduceCtorEq]
    simp only [go_sem, Nat.reduceLT, Nat.reduceAdd, Nat.reduceEqDiff, Nat.reduceSub, Nat.reduceMul, Nat.reduceBEq, reduceIte, reduceCtorEq]
    rw [List.take_length]
    repeat refine cl_seq ?_
    refine cl_rs hΓ [2,3] [[5, 0]] fun K' hK => ?_
    simp only [go_sem, Nat.reduceLT, Nat.reduceAdd, Nat.reduceEqDiff, Nat.reduceSub, Nat.reduceMul, Nat.reduceBEq, reduceIte, reduceCtorEq]
    repeat (refine ⟨by first | exact Bool.or_not_self _ | exact Bool.not_or_self _ | exact fun _ => by decide | exact fun h => ⟨h, by decide⟩ | omega | (simp only [decide_eq_true_eq]; omega) | exact xD | exact fun h => ⟨h, xD⟩ | exact xDD | exact fun h => ⟨h, xDD⟩ | exact ⟨_, rfl⟩ | exact fun h => ⟨h, _, rfl⟩ | exact ⟨_, _, rfl⟩ | exact fun h => ⟨h, _, _, rfl⟩ | exact fun h => ⟨h, _, _, _, rfl⟩ | exact ⟨_, _, _, _, rfl⟩ | exact fun h => ⟨h, _, _, _, _, rfl⟩ | exact ⟨[_, _], rfl⟩ | (simp; done) | (simp_all; done) | (simp_all; omega), ?_⟩)
    refine hK _ ?_ ?_
    · simp only [go_sem, Nat.reduceLT, Nat.reduceAdd, Nat.reduceEqDiff, Nat.reduceSub, Nat.reduceMul, Nat.reduceBEq, reduceIte, reduceCtorEq]
    clear K' hK
    simp only [go_sem, Nat.reduceLT, Nat.reduceAdd, Nat.reduceEqDiff, Nat.reduceSub, Nat.reduceMul, Nat.reduceBEq, reduceIte, reduceCtorEq]
    refine cl_ret ?_
    simp only [go_sem, Nat.reduceLT, Nat.reduceAdd, Nat.reduceEqDiff, Nat.reduceSub, Nat.reduceMul, Nat.reduceBEq, reduceIte, reduceCtorEq]
    all_goals simp [datesV]
end Go.Eng
namespace Go.Eng
open Go Go.Proofs

theorem lowI_stop : ∀ {l : List Int} {x : Int} {i : Nat}, i ≤ l.length → (∀ k (h : k < l.length), k < i → l[k] < x) → (∀ h : i < l.length, ¬ l[i] < x) → lowI l x = i
  | [], x, i, hi, _, _ => by simp at hi; subst hi; rfl
  | a :: r, x, 0, hi, h1, h2 => by
    rw [lowI_cons, if_neg]
    exact h2 (by simp)
  | a :: r, x, i + 1, hi, h1, h2 => by
    rw [lowI_cons, if_pos (show a < x by have := h1 0 (by simp) (by omega); simpa using this)]
    rw [lowI_stop (i := i) (by simpa using hi) (fun k h hk => by have := h1 (k + 1) (by simpa using h) (by omega); simpa using this) (fun h => by have := h2 (by simpa using h); simpa using this)]
theorem insI_low : ∀ (l : List Int) (x : Int), insI l x = if l[lowI l x]? = some x then l else l.take (lowI l x) ++ [x] ++ l.drop (lowI l x)
  | [], x => rfl
  | a :: r, x => by
    have ih := insI_low r x
    rw [lowI_cons]
    unfold insI
    by_cases h : a < x
    · simp only [h, if_true, List.getElem?_cons_succ, List.take_succ_cons, List.drop_succ_cons]
      rw [ih]
      split <;> simp
    · simp only [h, if_false, List.getElem?_cons_zero, Option.some.injEq, List.take_zero, List.drop_zero]
      rfl
theorem enc_okI (l : List Int) : ∀ x ∈ l.map vInt, (match x with | V.agg l => l | x => [x]).length = 1 ∧ (match x with | V.tup _ => false | _ => true) = true := by
  intro x hx
  obtain ⟨y, _, rfl⟩ := List.mem_map.1 hx
  exact ⟨rfl, rfl⟩
def pPut : PSpec := ⟨fun xs => ∃ (l : List Int) (n : Int), xs = [.sl (l.map vInt), vInt n] ∧ l.length < 1000000, fun xs => match xs with | [.sl l, .int _ n] => .sl ((insI (l.map decI) n).map vInt) | _ => .bool false, false⟩
theorem pPut_fn (l : List Int) (n : Int) : pPut.fn [.sl (l.map vInt), vInt n] = .sl ((insI l n).map vInt) := by
  simp only [pPut, decI_map]
set_option maxRecDepth 10000 in
set_option maxHeartbeats 4000000 in
theorem s96 : PSound Tryz.prog 96 pPut := by
  refine psoundB (rs := [.tmp 4]) Tryz.func96 Tryz.ntmps96 (by rfl) (by kernel_rfl) (by decide) (fun h => by cases h) ⟨_, rfl, ?_⟩
  rintro xs ⟨l, n, rfl, hlen⟩ hw
  refine ⟨Nat.le_of_ble_eq_true rfl, ?_⟩
  rw [pPut_fn]
  have hl : l.length ≤ maxLen := by unfold maxLen; omega
  have hΓ := K9_sound
  have hP := mixedK
  repeat refine cl_seq ?_
  refine cl_rs hΓ [0,1] [] fun K' hK => ?_
  simp only [go_sem, Nat.reduceLT, Nat.reduceAdd, Nat.reduceEqDiff, Nat.reduceSub, Nat.reduceMul, Nat.reduceBEq, reduceIte, reduceCtorEq]
  repeat (refine ⟨by first | exact Bool.or_not_self _ | exact Bool.not_or_self _ | exact fun _ => by decide | exact fun h => ⟨h, by decide⟩ | omega | (simp only [decide_eq_true_eq]; omega) | exact xD | exact fun h => ⟨h, xD⟩ | exact xDD | exact fun h => ⟨h, xDD⟩ | exact ⟨_, rfl⟩ | exact fun h => ⟨h, _, rfl⟩ | exact ⟨_, _, rfl⟩ | exact fun h => ⟨h, _, _, rfl⟩ | exact fun h => ⟨h, _, _, _, rfl⟩ | exact ⟨_, _, _, _, rfl⟩ | exact fun h => ⟨h, _, _, _, _, rfl⟩ | exact ⟨[_, _], rfl⟩ | (simp; done) | (simp_all; done) | (simp_all; omega), ?_⟩)
  refine hK _ ?_ ?_
  · simp only [go_sem, Nat.reduceLT, Nat.reduceAdd, Nat.reduceEqDiff, Nat.reduceSub, Nat.reduceMul, Nat.reduceBEq, reduceIte, reduceCtorEq]
  clear K' hK
  simp only [go_sem, Nat.reduceLT, Nat.reduceAdd, Nat.reduceEqDiff, Nat.reduceSub, Nat.reduceMul, Nat.reduceBEq, reduceIte, reduceCtorEq]
  repeat refine cl_seq ?_
  refine cl_rs hΓ [0,1,5] [] fun K' hK => ?_
  simp only [go_sem, Nat.reduceLT, Nat.reduceAdd, Nat.reduceEqDiff, Nat.reduceSub, Nat.reduceMul, Nat.reduceBEq, reduceIte, reduceCtorEq]
  repeat (refine ⟨by first | exact Bool.or_not_self _ | exact Bool.not_or_self _ | exact fun _ => by decide | exact fun h => ⟨h, by decide⟩ | omega | (simp only [decide_eq_true_eq]; omega) | exact xD | exact fun h => ⟨h, xD⟩ | exact xDD | exact fun h => ⟨h, xDD⟩ | exact ⟨_, rfl⟩ | exact fun h => ⟨h, _, rfl⟩ | exact ⟨_, _, rfl⟩ | exact fun h => ⟨h, _, _, rfl⟩ | exact fun h => ⟨h, _, _, _, rfl⟩ | exact ⟨_, _, _, _, rfl⟩ | exact fun h => ⟨h, _, _, _, _, rfl⟩ | exact ⟨[_, _], rfl⟩ | (simp; done) | (simp_all; done) | (simp_all; omega), ?_⟩)
  refine hK _ ?_ ?_
  · simp only [go_sem, Nat.reduceLT, Nat.reduceAdd, Nat.reduceEqDiff, Nat.reduceSub, Nat.reduceMul, Nat.reduceBEq, reduceIte, reduceCtorEq]
  clear K' hK
  simp only [go_sem, Nat.reduceLT, Nat.reduceAdd, Nat.reduceEqDiff, Nat.reduceSub, Nat.reduceMul, Nat.reduceBEq, reduceIte, reduceCtorEq]
  repeat refine cl_seq ?_
  refine cl_block ?_
  repeat refine cl_seq ?_
  refine cl_loop' (fun i : Nat => [(5, ⟨true, .v (vInt i)⟩)]) (fun i => []) (fun i => i ≤ l.length ∧ ∀ k (h : k < l.length), k < i → l[k] < n) (fun i => l.length - i) 0 ?_ ?_ ?_ ?_
  · exact ⟨Nat.zero_le _, fun k h hk => by omega⟩
  · rfl
  · rfl
  rintro i ⟨hi, hz⟩
  simp only [go_sem, Nat.reduceLT, Nat.reduceAdd, Nat.reduceEqDiff, Nat.reduceSub, Nat.reduceMul, Nat.reduceBEq, reduceIte, reduceCtorEq]
  repeat refine cl_seq ?_
  obtain ⟨c, hc⟩ : ∃ c : Bool, c = (decide (i < l.length) && decide (l.getD i 0 < n)) := ⟨_, rfl⟩
  refine cl_rw hΓ (mkS 45 [0] (fun _ => none) [(0, ⟨true, .v (.sl (l.map vInt))⟩), (1, ⟨true, .v (vInt n)⟩), (5, ⟨true, .v (vInt i)⟩), (17, ⟨true, .v (.bool c)⟩)] []) ?_ fun K' hK => ?_
  rotate_left
  · by_cases hlt : i < l.length
    · have hlt' : (i : Int) < l.length := by omega
      have hc' : decide (l[i] < n) = c := by rw [hc]; simp [hlt, List.getD_eq_getElem?_getD]
      simp only [go_sem, Nat.reduceLT, Nat.reduceAdd, Nat.reduceEqDiff, Nat.reduceSub, Nat.reduceMul, Nat.reduceBEq, reduceIte, reduceCtorEq, map_getD hlt, Int.toNat_natCast, Int.natCast_nonneg, hlt', decide_true]
      repeat (refine ⟨by first | exact Bool.or_not_self _ | exact Bool.not_or_self _ | exact fun _ => by decide | exact fun h => ⟨h, by decide⟩ | omega | (simp only [decide_eq_true_eq]; omega) | exact xD | exact fun h => ⟨h, xD⟩ | exact xDD | exact fun h => ⟨h, xDD⟩ | exact ⟨_, rfl⟩ | exact fun h => ⟨h, _, rfl⟩ | exact ⟨_, _, rfl⟩ | exact fun h => ⟨h, _, _, rfl⟩ | exact fun h => ⟨h, _, _, _, rfl⟩ | exact ⟨_, _, _, _, rfl⟩ | exact fun h => ⟨h, _, _, _, _, rfl⟩ | exact ⟨[_, _], rfl⟩ | (simp; done) | (simp_all; done) | (simp_all; omega), ?_⟩)
      refine hK _ (weakM_keep [0, 1, 5, 17] [] ?_ ?_)
      · simp only [go_sem, Nat.reduceLT, Nat.reduceAdd, Nat.reduceEqDiff, Nat.reduceSub, Nat.reduceMul, Nat.reduceBEq, reduceIte, reduceCtorEq]
      · simp only [go_sem, Nat.reduceLT, Nat.reduceAdd, Nat.reduceEqDiff, Nat.reduceSub, Nat.reduceMul, Nat.reduceBEq, reduceIte, reduceCtorEq, hc']
    · have hlt' : ¬ (i : Int) < l.length := by omega
      have hc' : false = c := by rw [hc]; simp [hlt]
      simp only [go_sem, Nat.reduceLT, Nat.reduceAdd, Nat.reduceEqDiff, Nat.reduceSub, Nat.reduceMul, Nat.reduceBEq, reduceIte, reduceCtorEq, hlt', decide_false]
      repeat (refine ⟨by first | exact Bool.or_not_self _ | exact Bool.not_or_self _ | exact fun _ => by decide | exact fun h => ⟨h, by decide⟩ | omega | (simp only [decide_eq_true_eq]; omega) | exact xD | exact fun h => ⟨h, xD⟩ | exact xDD | exact fun h => ⟨h, xDD⟩ | exact ⟨_, rfl⟩ | exact fun h => ⟨h, _, rfl⟩ | exact ⟨_, _, rfl⟩ | exact fun h => ⟨h, _, _, rfl⟩ | exact fun h => ⟨h, _, _, _, rfl⟩ | exact ⟨_, _, _, _, rfl⟩ | exact fun h => ⟨h, _, _, _, _, rfl⟩ | exact ⟨[_, _], rfl⟩ | (simp; done) | (simp_all; done) | (simp_all; omega), ?_⟩)
      refine hK _ (weakM_keep [0, 1, 5, 17] [] ?_ ?_)
      · simp only [go_sem, Nat.reduceLT, Nat.reduceAdd, Nat.reduceEqDiff, Nat.reduceSub, Nat.reduceMul, Nat.reduceBEq, reduceIte, reduceCtorEq]
      · simp only [go_sem, Nat.reduceLT, Nat.reduceAdd, Nat.reduceEqDiff, Nat.reduceSub, Nat.reduceMul, Nat.reduceBEq, reduceIte, reduceCtorEq, hc']
  repeat refine cl_seq ?_
  refine cl_cond rfl rfl (fun hb => ?_) (fun hb => ?_)
  · subst hb
    simp only [Bool.true_eq, Bool.and_eq_true, decide_eq_true_eq] at hc
    obtain ⟨hlt, hx⟩ := hc
    rw [List.getD_eq_getElem?_getD, List.getElem?_eq_getElem hlt, Option.getD_some] at hx
    repeat refine cl_seq ?_
    refine cl_skip ?_
    repeat refine cl_seq ?_
    refine cl_block ?_
    repeat refine cl_seq ?_
    repeat refine cl_seq ?_
    refine cl_r hΓ fun K' hK => ?_
    simp only [go_sem, Nat.reduceLT, Nat.reduceAdd, Nat.reduceEqDiff, Nat.reduceSub, Nat.reduceMul, Nat.reduceBEq, reduceIte, reduceCtorEq]
    repeat (refine ⟨by first | exact Bool.or_not_self _ | exact Bool.not_or_self _ | exact fun _ => by decide | exact fun h => ⟨h, by decide⟩ | omega | (simp only [decide_eq_true_eq]; omega) | exact xD | exact fun h => ⟨h, xD⟩ | exact xDD | exact fun h => ⟨h, xDD⟩ | exact ⟨_, rfl⟩ | exact fun h => ⟨h, _, rfl⟩ | exact ⟨_, _, rfl⟩ | exact fun h => ⟨h, _, _, rfl⟩ | exact fun h => ⟨h, _, _, _, rfl⟩ | exact ⟨_, _, _, _, rfl⟩ | exact fun h => ⟨h, _, _, _, _, rfl⟩ | exact ⟨[_, _], rfl⟩ | (simp; done) | (simp_all; done) | (simp_all; omega), ?_⟩)
    refine hK _ ?_
    clear K' hK
    simp only [go_sem, Nat.reduceLT, Nat.reduceAdd, Nat.reduceEqDiff, Nat.reduceSub, Nat.reduceMul, Nat.reduceBEq, reduceIte, reduceCtorEq]
    refine ⟨i + 1, ⟨by omega, fun k h hk => ?_⟩, by omega, ?_⟩
    · rcases Nat.lt_succ_iff_lt_or_eq.1 hk with h' | h'
      · exact hz k h h'
      · subst h'; exact hx
    · refine weak_eq [0,1,5] [] ?_ ?_
      · simp only [go_sem, Nat.reduceLT, Nat.reduceAdd, Nat.reduceEqDiff, Nat.reduceSub, Nat.reduceMul, Nat.reduceBEq, reduceIte, reduceCtorEq, wrap_succ hlt hl, Int.natCast_add, Int.natCast_one]
      · simp only [go_sem, Nat.reduceLT, Nat.reduceAdd, Nat.reduceEqDiff, Nat.reduceSub, Nat.reduceMul, Nat.reduceBEq, reduceIte, reduceCtorEq, wrap_succ hlt hl, Int.natCast_add, Int.natCast_one]
  · subst hb
    have hlow : lowI l n = i := lowI_stop hi hz fun h => by
      intro hx
      rw [List.getD_eq_getElem?_getD, List.getElem?_eq_getElem h] at hc
      simp [h, hx] at hc
    clear hc
    repeat refine cl_seq ?_
    refine cl_exit ?_
    simp only [go_sem, Nat.reduceLT, Nat.reduceAdd, Nat.reduceEqDiff, Nat.reduceSub, Nat.reduceMul, Nat.reduceBEq, reduceIte, reduceCtorEq]
    refine cl_keep [0,1,5] [] ?_ ?_
    · simp only [go_sem, Nat.reduceLT, Nat.reduceAdd, Nat.reduceEqDiff, Nat.reduceSub, Nat.reduceMul, Nat.reduceBEq, reduceIte, reduceCtorEq]
    simp only [go_sem, Nat.reduceLT, Nat.reduceAdd, Nat.reduceEqDiff, Nat.reduceSub, Nat.reduceMul, Nat.reduceBEq, reduceIte, reduceCtorEq]
    repeat refine cl_seq ?_
    obtain ⟨c, hc⟩ : ∃ c : Bool, c = decide (l[i]? = some n) := ⟨_, rfl⟩
    refine cl_rw hΓ (mkS 45 [0] (fun _ => none) [(0, ⟨true, .v (.sl (l.map vInt))⟩), (1, ⟨true, .v (vInt n)⟩), (5, ⟨true, .v (vInt i)⟩), (31, ⟨true, .v (.bool c)⟩)] []) ?_ fun K' hK => ?_
    rotate_left
    · by_cases hlt : i < l.length
      · have hlt' : (i : Int) < l.length := by omega
        have hc' : (l[i] == n) = c := by rw [hc]; simp [hlt, Bool.beq_eq_decide_eq]
        simp only [go_sem, Nat.reduceLT, Nat.reduceAdd, Nat.reduceEqDiff, Nat.reduceSub, Nat.reduceMul, Nat.reduceBEq, reduceIte, reduceCtorEq, map_getD hlt, Int.toNat_natCast, Int.natCast_nonneg, hlt', decide_true]
        repeat (refine ⟨by first | exact Bool.or_not_self _ | exact Bool.not_or_self _ | exact fun _ => by decide | exact fun h => ⟨h, by decide⟩ | omega | (simp only [decide_eq_true_eq]; omega) | exact xD | exact fun h => ⟨h, xD⟩ | exact xDD | exact fun h => ⟨h, xDD⟩ | exact ⟨_, rfl⟩ | exact fun h => ⟨h, _, rfl⟩ | exact ⟨_, _, rfl⟩ | exact fun h => ⟨h, _, _, rfl⟩ | exact fun h => ⟨h, _, _, _, rfl⟩ | exact ⟨_, _, _, _, rfl⟩ | exact fun h => ⟨h, _, _, _, _, rfl⟩ | exact ⟨[_, _], rfl⟩ | (simp; done) | (simp_all; done) | (simp_all; omega), ?_⟩)
        refine hK _ (weakM_keep [0, 1, 5, 31] [] ?_ ?_)
        · simp only [go_sem, Nat.reduceLT, Nat.reduceAdd, Nat.reduceEqDiff, Nat.reduceSub, Nat.reduceMul, Nat.reduceBEq, reduceIte, reduceCtorEq]
        · simp only [go_sem, Nat.reduceLT, Nat.reduceAdd, Nat.reduceEqDiff, Nat.reduceSub, Nat.reduceMul, Nat.reduceBEq, reduceIte, reduceCtorEq, hc']
      · have hlt' : ¬ (i : Int) < l.length := by omega
        have hc' : false = c := by rw [hc, List.getElem?_eq_none (by omega)]; simp
        simp only [go_sem, Nat.reduceLT, Nat.reduceAdd, Nat.reduceEqDiff, Nat.reduceSub, Nat.reduceMul, Nat.reduceBEq, reduceIte, reduceCtorEq, hlt', decide_false]
        repeat (refine ⟨by first | exact Bool.or_not_self _ | exact Bool.not_or_self _ | exact fun _ => by decide | exact fun h => ⟨h, by decide⟩ | omega | (simp only [decide_eq_true_eq]; omega) | exact xD | exact fun h => ⟨h, xD⟩ | exact xDD | exact fun h => ⟨h, xDD⟩ | exact ⟨_, rfl⟩ | exact fun h => ⟨h, _, rfl⟩ | exact ⟨_, _, rfl⟩ | exact fun h => ⟨h, _, _, rfl⟩ | exact fun h => ⟨h, _, _, _, rfl⟩ | exact ⟨_, _, _, _, rfl⟩ | exact fun h => ⟨h, _, _, _, _, rfl⟩ | exact ⟨[_, _], rfl⟩ | (simp; done) | (simp_all; done) | (simp_all; omega), ?_⟩)
        refine hK _ (weakM_keep [0, 1, 5, 31] [] ?_ ?_)
        · simp only [go_sem, Nat.reduceLT, Nat.reduceAdd, Nat.reduceEqDiff, Nat.reduceSub, Nat.reduceMul, Nat.reduceBEq, reduceIte, reduceCtorEq]
        · simp only [go_sem, Nat.reduceLT, Nat.reduceAdd, Nat.reduceEqDiff, Nat.reduceSub, Nat.reduceMul, Nat.reduceBEq, reduceIte, reduceCtorEq, hc']
    repeat refine cl_seq ?_
    rw [insI_low, hlow]
    refine cl_cond rfl rfl (fun hb => ?_) (fun hb => ?_)
    · subst hb
      repeat refine cl_seq ?_
      repeat refine cl_seq ?_
      refine cl_rs hΓ [4] [] fun K' hK => ?_
      simp only [go_sem, Nat.reduceLT, Nat.reduceAdd, Nat.reduceEqDiff, Nat.reduceSub, Nat.reduceMul, Nat.reduceBEq, reduceIte, reduceCtorEq]
      repeat (refine ⟨by first | exact Bool.or_not_self _ | exact Bool.not_or_self _ | exact fun _ => by decide | exact fun h => ⟨h, by decide⟩ | omega | (simp only [decide_eq_true_eq]; omega) | exact xD | exact fun h => ⟨h, xD⟩ | exact xDD | exact fun h => ⟨h, xDD⟩ | exact ⟨_, rfl⟩ | exact fun h => ⟨h, _, rfl⟩ | exact ⟨_, _, rfl⟩ | exact fun h => ⟨h, _, _, rfl⟩ | exact fun h => ⟨h, _, _, _, rfl⟩ | exact ⟨_, _, _, _, rfl⟩ | exact fun h => ⟨h, _, _, _, _, rfl⟩ | exact ⟨[_, _], rfl⟩ | (simp; done) | (simp_all; done) | (simp_all; omega), ?_⟩)
      refine hK _ ?_ ?_
      · simp only [go_sem, Nat.reduceLT, Nat.reduceAdd, Nat.reduceEqDiff, Nat.reduceSub, Nat.reduceMul, Nat.reduceBEq, reduceIte, reduceCtorEq]
      clear K' hK
      simp only [go_sem, Nat.reduceLT, Nat.reduceAdd, Nat.reduceEqDiff, Nat.reduceSub, Nat.reduceMul, Nat.reduceBEq, reduceIte, reduceCtorEq]
      refine cl_ret ?_
      simp only [go_sem, Nat.reduceLT, Nat.reduceAdd, Nat.reduceEqDiff, Nat.reduceSub, Nat.reduceMul, Nat.reduceBEq, reduceIte, reduceCtorEq]
      rw [if_pos (by simpa using hc)]
    · subst hb
      rw [if_neg (by simpa using hc)]
      repeat refine cl_seq ?_
      refine cl_skip ?_
      have hi' : (i : Int) ≤ l.length := by omega
      have e1 : (List.map vInt l).take i = (l.take i).map vInt := List.map_take.symm
      have e2 : (List.map vInt l).drop i = (l.drop i).map vInt := List.map_drop.symm
      repeat refine cl_seq ?_
      refine cl_ds hΓ hP [[], [], [], [1, 2], [0, 1, 2, 3], [], [5], [0, 1, 2, 3, 4, 5, 6], [], [], [8, 9], [0, 1, 2, 3, 4, 5, 6, 7, 8, 9, 10], [0, 1, 2, 3, 4, 5, 6, 7, 8, 9, 10, 11]] [4] [[37, 0]] (by kernel_rfl) fun K' hK => ?_
      have e3 : List.take (l.length - i) (List.map vInt (l.drop i)) = (l.drop i).map vInt := List.take_of_length_le (by simp)
      simp only [go_sem, Nat.reduceLT, Nat.reduceAdd, Nat.reduceEqDiff, Nat.reduceSub, Nat.reduceMul, Nat.reduceBEq, reduceIte, reduceCtorEq, Int.toNat_natCast, Int.natCast_nonneg, hi', e1, e2, e3, te39, tz3]
      repeat' apply And.intro
      all_goals first | rfl | omega | exact Int.le_refl _ | exact Bool.or_not_self _ | exact Bool.not_or_self _ | exact enc_okI _ | exact enc_ok _ | exact fun x hx => (enc_okI _ x hx).1 | exact fun x hx => (enc_ok _ x hx).1 | (simp only [List.length_take, List.length_append, List.length_map, List.length_drop, List.length_cons, List.length_nil]; done) | (simp only [List.length_take, List.length_append, List.length_map, List.length_drop, List.length_cons, List.length_nil]; omega) | (simp only [List.length_take, List.length_append, List.length_map, List.length_drop, List.length_cons, List.length_nil, maxLen]; omega) | (exact fun _ => by decide) | (exact fun h => ⟨h, by decide⟩) | (simp only [decide_eq_true_eq]; omega) | skip
      refine hK _ ?_ ?_
      · simp only [go_sem, Nat.reduceLT, Nat.reduceAdd, Nat.reduceEqDiff, Nat.reduceSub, Nat.reduceMul, Nat.reduceBEq, reduceIte, reduceCtorEq]
      clear K' hK
      simp only [go_sem, Nat.reduceLT, Nat.reduceAdd, Nat.reduceEqDiff, Nat.reduceSub, Nat.reduceMul, Nat.reduceBEq, reduceIte, reduceCtorEq]
      refine cl_ret ?_
      simp only [go_sem, Nat.reduceLT, Nat.reduceAdd, Nat.reduceEqDiff, Nat.reduceSub, Nat.reduceMul, Nat.reduceBEq, reduceIte, reduceCtorEq]
      simp
      try omega
def pLenI (P : List Deed → Prop) (f : List Deed → V) : PSpec := pLen P f
noncomputable def sPut : Spec := pPut.toSpec
theorem sPut_app {obj : Name → Option O} {t : Name} {l : List Int} {n : Int} (h : l.length < 1000000) : sPut.app obj t [.v (.sl (l.map vInt)), .v (vInt n)] = ⟨True, .v (.sl ((insI l n).map vInt)), obj⟩ := by
  simp only [sPut, PSpec.toSpec, frzL, frz, true_and]
  rw [pPut_fn]
  congr 1
  simp only [eq_iff_iff, iff_true]
  exact ⟨l, n, rfl, h⟩
noncomputable def sRChk : Spec := (pLD (fun l => vInt (checkI l)) true).toSpec
theorem s16' : SSound Tryz.prog 16 sRChk := by
  have e : (fun l => vInt (rcheckI l)) = (fun l => vInt (checkI l)) := funext fun l => by rw [check_eq]
  have := s16.sound
  rw [e] at this
  exact this
theorem sRChk_app {obj : Name → Option O} {t : Name} {l : List Deed} : sRChk.app obj t [.v (.sl (l.map encD))] = ⟨True, .v (vInt (checkI l)), obj⟩ := sChk_app
noncomputable def K11 : FuncId → Option Spec := fun f => match f with
  | 16 => some sRChk
  | 96 => some sPut
  | f => K10 f
theorem K11_sound : ∀ f s, K11 f = some s → SSound Tryz.prog f s := by
  intro f s h
  unfold K11 at h
  split at h
  · cases h; exact s16'
  · cases h; exact s96.sound
  · exact K10_sound _ _ h
@[go_sem] theorem K11_16 : K11 16 = some sRChk := rfl
@[go_sem] theorem K11_96 : K11 96 = some sPut := rfl
@[go_sem] theorem K11_38 : K11 38 = some (pD fun d => vInt (if rDeedB d then 0 else 10)).toSpec := rfl
@[go_sem] theorem K11_68 : K11 68 = some (pItems fun a b c d => .bool (beforeB a b c d)).toSpec := rfl
set_option maxRecDepth 10000 in
set_option maxHeartbeats 4000000 in
theorem s36 : PSound Tryz.prog 36 (pLen (fun _ => True) fun l => datesV (datesR l)) := by
  refine psoundB (rs := [.tmp 2, .tmp 3]) Tryz.func36 Tryz.ntmps36 (by rfl) (by kernel_rfl) (by decide) (fun h => by cases h) ⟨_, rfl, ?_⟩
  rintro xs ⟨l, rfl, _⟩ hw
  refine ⟨Nat.le_of_ble_eq_true rfl, ?_⟩
  rw [pLen_fn]
  have hΓ := K11_sound
  have hP := mixedK
  repeat refine cl_seq ?_
  refine cl_rs hΓ [0] [] fun K' hK => ?_
  simp only [go_sem, Nat.reduceLT, Nat.reduceAdd, Nat.reduceEqDiff, Nat.reduceSub, Nat.reduceMul, Nat.reduceBEq, reduceIte, reduceCtorEq]
  repeat (refine ⟨by first | exact Bool.or_not_self _ | exact Bool.not_or_self _ | exact fun _ => by decide | exact fun h => ⟨h, by decide⟩ | omega | (simp only [decide_eq_true_eq]; omega) | exact xD | exact fun h => ⟨h, xD⟩ | exact xDD | exact fun h => ⟨h, xDD⟩ | exact ⟨_, rfl⟩ | exact fun h => ⟨h, _, rfl⟩ | exact ⟨_, _, rfl⟩ | exact fun h => ⟨h, _, _, rfl⟩ | exact fun h => ⟨h, _, _, _, rfl⟩ | exact ⟨_, _, _, _, rfl⟩ | exact fun h => ⟨h, _, _, _, _, rfl⟩ | exact ⟨[_, _], rfl⟩ | (simp; done) | (simp_all; done) | (simp_all; omega), ?_⟩)
  refine hK _ ?_ ?_
  · simp only [go_sem, Nat.reduceLT, Nat.reduceAdd, Nat.reduceEqDiff, Nat.reduceSub, Nat.reduceMul, Nat.reduceBEq, reduceIte, reduceCtorEq]
  clear K' hK
  simp only [go_sem, Nat.reduceLT, Nat.reduceAdd, Nat.reduceEqDiff, Nat.reduceSub, Nat.reduceMul, Nat.reduceBEq, reduceIte, reduceCtorEq]
  repeat refine cl_seq ?_
  refine cl_rs hΓ [0,4] [] fun K' hK => ?_
  simp only [go_sem, Nat.reduceLT, Nat.reduceAdd, Nat.reduceEqDiff, Nat.reduceSub, Nat.reduceMul, Nat.reduceBEq, reduceIte, reduceCtorEq, sRChk_app]
  repeat (refine ⟨by first | exact Bool.or_not_self _ | exact Bool.not_or_self _ | exact fun _ => by decide | exact fun h => ⟨h, by decide⟩ | omega | (simp only [decide_eq_true_eq]; omega) | exact xD | exact fun h => ⟨h, xD⟩ | exact xDD | exact fun h => ⟨h, xDD⟩ | exact ⟨_, rfl⟩ | exact fun h => ⟨h, _, rfl⟩ | exact ⟨_, _, rfl⟩ | exact fun h => ⟨h, _, _, rfl⟩ | exact fun h => ⟨h, _, _, _, rfl⟩ | exact ⟨_, _, _, _, rfl⟩ | exact fun h => ⟨h, _, _, _, _, rfl⟩ | exact ⟨[_, _], rfl⟩ | (simp; done) | (simp_all; done) | (simp_all; omega), ?_⟩)
  refine hK _ ?_ ?_
  · simp only [go_sem, Nat.reduceLT, Nat.reduceAdd, Nat.reduceEqDiff, Nat.reduceSub, Nat.reduceMul, Nat.reduceBEq, reduceIte, reduceCtorEq, sRChk_app]
  clear K' hK
  simp only [go_sem, Nat.reduceLT, Nat.reduceAdd, Nat.reduceEqDiff, Nat.reduceSub, Nat.reduceMul, Nat.reduceBEq, reduceIte, reduceCtorEq, sRChk_app]
  repeat refine cl_seq ?_
  refine cl_rs hΓ [0,4,11] [] fun K' hK => ?_
  simp only [go_sem, Nat.reduceLT, Nat.reduceAdd, Nat.reduceEqDiff, Nat.reduceSub, Nat.reduceMul, Nat.reduceBEq, reduceIte, reduceCtorEq]
  repeat (refine ⟨by first | exact Bool.or_not_self _ | exact Bool.not_or_self _ | exact fun _ => by decide | exact fun h => ⟨h, by decide⟩ | omega | (simp only [decide_eq_true_eq]; omega) | exact xD | exact fun h => ⟨h, xD⟩ | exact xDD | exact fun h => ⟨h, xDD⟩ | exact ⟨_, rfl⟩ | exact fun h => ⟨h, _, rfl⟩ | exact ⟨_, _, rfl⟩ | exact fun h => ⟨h, _, _, rfl⟩ | exact fun h => ⟨h, _, _, _, rfl⟩ | exact ⟨_, _, _, _, rfl⟩ | exact fun h => ⟨h, _, _, _, _, rfl⟩ | exact ⟨[_, _], rfl⟩ | (simp; done) | (simp_all; done) | (simp_all; omega), ?_⟩)
  refine hK _ ?_ ?_
  · simp only [go_sem, Nat.reduceLT, Nat.reduceAdd, Nat.reduceEqDiff, Nat.reduceSub, Nat.reduceMul, Nat.reduceBEq, reduceIte, reduceCtorEq]
  clear K' hK
  simp only [go_sem, Nat.reduceLT, Nat.reduceAdd, Nat.reduceEqDiff, Nat.reduceSub, Nat.reduceMul, Nat.reduceBEq, reduceIte, reduceCtorEq]
  repeat refine cl_seq ?_
  refine cl_cond rfl rfl (fun hb => ?_) (fun hb => ?_)
  · repeat refine cl_seq ?_
    repeat refine cl_seq ?_
    refine cl_rs hΓ [2,3] [] fun K' hK => ?_
    simp only [go_sem, Nat.reduceLT, Nat.reduceAdd, Nat.reduceEqDiff, Nat.reduceSub, Nat.reduceMul, Nat.reduceBEq, reduceIte, reduceCtorEq]
    repeat (refine ⟨by first | exact Bool.or_not_self _ | exact Bool.not_or_self _ | exact fun _ => by decide | exact fun h => ⟨h, by decide⟩ | omega | (simp only [decide_eq_true_eq]; omega) | exact xD | exact fun h => ⟨h, xD⟩ | exact xDD | exact fun h => ⟨h, xDD⟩ | exact ⟨_, rfl⟩ | exact fun h => ⟨h, _, rfl⟩ | exact ⟨_, _, rfl⟩ | exact fun h => ⟨h, _, _, rfl⟩ | exact fun h => ⟨h, _, _, _, rfl⟩ | exact ⟨_, _, _, _, rfl⟩ | exact fun h => ⟨h, _, _, _, _, rfl⟩ | exact ⟨[_, _], rfl⟩ | (simp; done) | (simp_all; done) | (simp_all; omega), ?_⟩)
    refine hK _ ?_ ?_
    · simp only [go_sem, Nat.reduceLT, Nat.reduceAdd, Nat.reduceEqDiff, Nat.reduceSub, Nat.reduceMul, Nat.reduceBEq, reduceIte, reduceCtorEq]
    clear K' hK
    simp only [go_sem, Nat.reduceLT, Nat.reduceAdd, Nat.reduceEqDiff, Nat.reduceSub, Nat.reduceMul, Nat.reduceBEq, reduceIte, reduceCtorEq]
    refine cl_ret ?_
    simp only [go_sem, Nat.reduceLT, Nat.reduceAdd, Nat.reduceEqDiff, Nat.reduceSub, Nat.reduceMul, Nat.reduceBEq, reduceIte, reduceCtorEq]
    have hn : ¬ checkI l = 0 := by simpa using hb
    all_goals simp [datesV, datesR, hn]
  have hz : checkI l = 0 := by simpa using hb
  have hok := check_zero.1 hz
  have hl60 := hok.2.2
  have hl : l.length ≤ maxLen := by unfold maxLen; omega
  clear hb
  have hr : datesR l = (datesL l, 0) := by unfold datesR; rw [if_pos hz]
  rw [hr]
  clear hr
  repeat refine cl_seq ?_
  refine cl_skip ?_
  repeat refine cl_seq ?_
  refine cl_rs hΓ [0,5] [] fun K' hK => ?_
  simp only [go_sem, Nat.reduceLT, Nat.reduceAdd, Nat.reduceEqDiff, Nat.reduceSub, Nat.reduceMul, Nat.reduceBEq, reduceIte, reduceCtorEq]
  repeat (refine ⟨by first | exact Bool.or_not_self _ | exact Bool.not_or_self _ | exact fun _ => by decide | exact fun h => ⟨h, by decide⟩ | omega | (simp only [decide_eq_true_eq]; omega) | exact xD | exact fun h => ⟨h, xD⟩ | exact xDD | exact fun h => ⟨h, xDD⟩ | exact ⟨_, rfl⟩ | exact fun h => ⟨h, _, rfl⟩ | exact ⟨_, _, rfl⟩ | exact fun h => ⟨h, _, _, rfl⟩ | exact fun h => ⟨h, _, _, _, rfl⟩ | exact ⟨_, _, _, _, rfl⟩ | exact fun h => ⟨h, _, _, _, _, rfl⟩ | exact ⟨[_, _], rfl⟩ | (simp; done) | (simp_all; done) | (simp_all; omega), ?_⟩)
  refine hK _ ?_ ?_
  · simp only [go_sem, Nat.reduceLT, Nat.reduceAdd, Nat.reduceEqDiff, Nat.reduceSub, Nat.reduceMul, Nat.reduceBEq, reduceIte, reduceCtorEq]
  clear K' hK
  simp only [go_sem, Nat.reduceLT, Nat.reduceAdd, Nat.reduceEqDiff, Nat.reduceSub, Nat.reduceMul, Nat.reduceBEq, reduceIte, reduceCtorEq]
  refine cl_weakM (σ' := mkS 32 [0] (fun _ => none) [(0, ⟨true, .v (.sl (l.map encD))⟩), (5, ⟨true, .v (.sl [])⟩)] []) (weakM_frzk 5 .nilsl (by simp only [go_sem, Nat.reduceLT, Nat.reduceAdd, Nat.reduceEqDiff, Nat.reduceSub, Nat.reduceMul, Nat.reduceBEq, reduceIte, reduceCtorEq]) (by simp only [go_sem, Nat.reduceLT, Nat.reduceAdd, Nat.reduceEqDiff, Nat.reduceSub, Nat.reduceMul, Nat.reduceBEq, reduceIte, reduceCtorEq]) [0, 5] [] ?_ ?_) ?_
  · simp only [go_sem, Nat.reduceLT, Nat.reduceAdd, Nat.reduceEqDiff, Nat.reduceSub, Nat.reduceMul, Nat.reduceBEq, reduceIte, reduceCtorEq]
  · simp only [go_sem, Nat.reduceLT, Nat.reduceAdd, Nat.reduceEqDiff, Nat.reduceSub, Nat.reduceMul, Nat.reduceBEq, reduceIte, reduceCtorEq]
  repeat refine cl_seq ?_
  refine cl_rs hΓ [5,13,14,15] [] fun K' hK => ?_
  simp only [go_sem, Nat.reduceLT, Nat.reduceAdd, Nat.reduceEqDiff, Nat.reduceSub, Nat.reduceMul, Nat.reduceBEq, reduceIte, reduceCtorEq]
  repeat (refine ⟨by first | exact Bool.or_not_self _ | exact Bool.not_or_self _ | exact fun _ => by decide | exact fun h => ⟨h, by decide⟩ | omega | (simp only [decide_eq_true_eq]; omega) | exact xD | exact fun h => ⟨h, xD⟩ | exact xDD | exact fun h => ⟨h, xDD⟩ | exact ⟨_, rfl⟩ | exact fun h => ⟨h, _, rfl⟩ | exact ⟨_, _, rfl⟩ | exact fun h => ⟨h, _, _, rfl⟩ | exact fun h => ⟨h, _, _, _, rfl⟩ | exact ⟨_, _, _, _, rfl⟩ | exact fun h => ⟨h, _, _, _, _, rfl⟩ | exact ⟨[_, _], rfl⟩ | (simp; done) | (simp_all; done) | (simp_all; omega), ?_⟩)
  refine hK _ ?_ ?_
  · simp only [go_sem, Nat.reduceLT, Nat.reduceAdd, Nat.reduceEqDiff, Nat.reduceSub, Nat.reduceMul, Nat.reduceBEq, reduceIte, reduceCtorEq]
  clear K' hK
  simp only [go_sem, Nat.reduceLT, Nat.reduceAdd, Nat.reduceEqDiff, Nat.reduceSub, Nat.reduceMul, Nat.reduceBEq, reduceIte, reduceCtorEq]
  repeat refine cl_seq ?_
  refine cl_block ?_
  repeat refine cl_seq ?_
  refine cl_loop' (fun i : Nat => [(5, ⟨true, .v (.sl ((datesL (l.take i)).map vInt))⟩), (15, ⟨true, .v (vInt i)⟩)]) (fun i => []) (fun i => i ≤ l.length) (fun i => l.length - i) 0 ?_ ?_ ?_ ?_
  · exact Nat.zero_le _
  · rfl
  · rfl
  intro i hi
  obtain ⟨hs, hlen⟩ := datesL_ok i l hi
  simp only [go_sem, Nat.reduceLT, Nat.reduceAdd, Nat.reduceEqDiff, Nat.reduceSub, Nat.reduceMul, Nat.reduceBEq, reduceIte, reduceCtorEq]
  repeat refine cl_seq ?_
  repeat refine cl_seq ?_
  refine cl_rs hΓ [5,13,14,15,16] [] fun K' hK => ?_
  simp only [go_sem, Nat.reduceLT, Nat.reduceAdd, Nat.reduceEqDiff, Nat.reduceSub, Nat.reduceMul, Nat.reduceBEq, reduceIte, reduceCtorEq]
  repeat (refine ⟨by first | exact Bool.or_not_self _ | exact Bool.not_or_self _ | exact fun _ => by decide | exact fun h => ⟨h, by decide⟩ | omega | (simp only [decide_eq_true_eq]; omega) | exact xD | exact fun h => ⟨h, xD⟩ | exact xDD | exact fun h => ⟨h, xDD⟩ | exact ⟨_, rfl⟩ | exact fun h => ⟨h, _, rfl⟩ | exact ⟨_, _, rfl⟩ | exact fun h => ⟨h, _, _, rfl⟩ | exact fun h => ⟨h, _, _, _, rfl⟩ | exact ⟨_, _, _, _, rfl⟩ | exact fun h => ⟨h, _, _, _, _, rfl⟩ | exact ⟨[_, _], rfl⟩ | (simp; done) | (simp_all; done) | (simp_all; omega), ?_⟩)
  refine hK _ ?_ ?_
  · simp only [go_sem, Nat.reduceLT, Nat.reduceAdd, Nat.reduceEqDiff, Nat.reduceSub, Nat.reduceMul, Nat.reduceBEq, reduceIte, reduceCtorEq]
  clear K' hK
  simp only [go_sem, Nat.reduceLT, Nat.reduceAdd, Nat.reduceEqDiff, Nat.reduceSub, Nat.reduceMul, Nat.reduceBEq, reduceIte, reduceCtorEq]
  repeat refine cl_seq ?_
  refine cl_cond rfl rfl (fun hb => ?_) (fun hb => ?_)
  · have hlt : i < l.length := by simpa using hb
    have hlt' : (i : Int) < l.length := by omega
    clear hb
    have hun : 0 ≤ l[i].un := by
      have hd := hok.2.1 l[i] (List.getElem_mem hlt)
      rw [← rDeed_eq] at hd
      unfold rDeedB lastsB inI at hd
      simp only [Bool.and_eq_true, Bool.or_eq_true, decide_eq_true_eq, beq_iff_eq] at hd
      omega
    repeat refine cl_seq ?_
    refine cl_skip ?_
    repeat refine cl_seq ?_
    refine cl_block ?_
    repeat refine cl_seq ?_
    repeat refine cl_seq ?_
    refine cl_rs hΓ [5,7,13,14,15] [[7, 0]] fun K' hK => ?_
    simp only [go_sem, Nat.reduceLT, Nat.reduceAdd, Nat.reduceEqDiff, Nat.reduceSub, Nat.reduceMul, Nat.reduceBEq, reduceIte, reduceCtorEq, map_getD hlt, Int.toNat_natCast, Int.natCast_nonneg, hlt']
    repeat (refine ⟨by first | exact Bool.or_not_self _ | exact Bool.not_or_self _ | exact fun _ => by decide | exact fun h => ⟨h, by decide⟩ | omega | (simp only [decide_eq_true_eq]; omega) | exact xD | exact fun h => ⟨h, xD⟩ | exact xDD | exact fun h => ⟨h, xDD⟩ | exact ⟨_, rfl⟩ | exact fun h => ⟨h, _, rfl⟩ | exact ⟨_, _, rfl⟩ | exact fun h => ⟨h, _, _, rfl⟩ | exact fun h => ⟨h, _, _, _, rfl⟩ | exact ⟨_, _, _, _, rfl⟩ | exact fun h => ⟨h, _, _, _, _, rfl⟩ | exact ⟨[_, _], rfl⟩ | (simp; done) | (simp_all; done) | (simp_all; omega), ?_⟩)
    refine hK _ ?_ ?_
    · simp only [go_sem, Nat.reduceLT, Nat.reduceAdd, Nat.reduceEqDiff, Nat.reduceSub, Nat.reduceMul, Nat.reduceBEq, reduceIte, reduceCtorEq, map_getD hlt, Int.toNat_natCast, Int.natCast_nonneg, hlt']
    clear K' hK
    simp only [go_sem, Nat.reduceLT, Nat.reduceAdd, Nat.reduceEqDiff, Nat.reduceSub, Nat.reduceMul, Nat.reduceBEq, reduceIte, reduceCtorEq, map_getD hlt, Int.toNat_natCast, Int.natCast_nonneg, hlt']
    have hput := fun obj t => sPut_app (obj := obj) (t := t) (l := datesL (l.take i)) (n := l[i].kn) (by omega)
    repeat refine cl_seq ?_
    refine cl_rs hΓ [5,7,13,14,15] [[7, 0]] fun K' hK => ?_
    simp only [go_sem, Nat.reduceLT, Nat.reduceAdd, Nat.reduceEqDiff, Nat.reduceSub, Nat.reduceMul, Nat.reduceBEq, reduceIte, reduceCtorEq, hput]
    repeat (refine ⟨by first | exact Bool.or_not_self _ | exact Bool.not_or_self _ | exact fun _ => by decide | exact fun h => ⟨h, by decide⟩ | omega | (simp only [decide_eq_true_eq]; omega) | exact xD | exact fun h => ⟨h, xD⟩ | exact xDD | exact fun h => ⟨h, xDD⟩ | exact ⟨_, rfl⟩ | exact fun h => ⟨h, _, rfl⟩ | exact ⟨_, _, rfl⟩ | exact fun h => ⟨h, _, _, rfl⟩ | exact fun h => ⟨h, _, _, _, rfl⟩ | exact ⟨_, _, _, _, rfl⟩ | exact fun h => ⟨h, _, _, _, _, rfl⟩ | exact ⟨[_, _], rfl⟩ | (simp; done) | (simp_all; done) | (simp_all; omega), ?_⟩)
    refine hK _ ?_ ?_
    · simp only [go_sem, Nat.reduceLT, Nat.reduceAdd, Nat.reduceEqDiff, Nat.reduceSub, Nat.reduceMul, Nat.reduceBEq, reduceIte, reduceCtorEq, hput]
    clear K' hK
    simp only [go_sem, Nat.reduceLT, Nat.reduceAdd, Nat.reduceEqDiff, Nat.reduceSub, Nat.reduceMul, Nat.reduceBEq, reduceIte, reduceCtorEq, hput]
    repeat refine cl_seq ?_
    refine cl_rs hΓ [5,7,13,14,15,25] [[7, 0]] fun K' hK => ?_
    simp only [go_sem, Nat.reduceLT, Nat.reduceAdd, Nat.reduceEqDiff, Nat.reduceSub, Nat.reduceMul, Nat.reduceBEq, reduceIte, reduceCtorEq]
    repeat (refine ⟨by first | exact Bool.or_not_self _ | exact Bool.not_or_self _ | exact fun _ => by decide | exact fun h => ⟨h, by decide⟩ | omega | (simp only [decide_eq_true_eq]; omega) | exact xD | exact fun h => ⟨h, xD⟩ | exact xDD | exact fun h => ⟨h, xDD⟩ | exact ⟨_, rfl⟩ | exact fun h => ⟨h, _, rfl⟩ | exact ⟨_, _, rfl⟩ | exact fun h => ⟨h, _, _, rfl⟩ | exact fun h => ⟨h, _, _, _, rfl⟩ | exact ⟨_, _, _, _, rfl⟩ | exact fun h => ⟨h, _, _, _, _, rfl⟩ | exact ⟨[_, _], rfl⟩ | (simp; done) | (simp_all; done) | (simp_all; omega), ?_⟩)
    refine hK _ ?_ ?_
    · simp only [go_sem, Nat.reduceLT, Nat.reduceAdd, Nat.reduceEqDiff, Nat.reduceSub, Nat.reduceMul, Nat.reduceBEq, reduceIte, reduceCtorEq]
    clear K' hK
    simp only [go_sem, Nat.reduceLT, Nat.reduceAdd, Nat.reduceEqDiff, Nat.reduceSub, Nat.reduceMul, Nat.reduceBEq, reduceIte, reduceCtorEq]
    repeat refine cl_seq ?_
    have hn := datesL_next hlt
    refine cl_cond rfl rfl (fun hb => ?_) (fun hb => ?_)
    · repeat refine cl_seq ?_
      have hu : ¬ l[i].un = 0 := by
        have : 0 < l[i].un := by simpa using hb
        omega
      have hlen1 := insI_len (datesL (l.take i)) l[i].kn
      have hput := fun obj t => sPut_app (obj := obj) (t := t) (l := insI (datesL (l.take i)) l[i].kn) (n := l[i].un) (by omega)
      repeat refine cl_seq ?_
      refine cl_r hΓ fun K' hK => ?_
      simp only [go_sem, Nat.reduceLT, Nat.reduceAdd, Nat.reduceEqDiff, Nat.reduceSub, Nat.reduceMul, Nat.reduceBEq, reduceIte, reduceCtorEq, hput]
      repeat (refine ⟨by first | exact Bool.or_not_self _ | exact Bool.not_or_self _ | exact fun _ => by decide | exact fun h => ⟨h, by decide⟩ | omega | (simp only [decide_eq_true_eq]; omega) | exact xD | exact fun h => ⟨h, xD⟩ | exact xDD | exact fun h => ⟨h, xDD⟩ | exact ⟨_, rfl⟩ | exact fun h => ⟨h, _, rfl⟩ | exact ⟨_, _, rfl⟩ | exact fun h => ⟨h, _, _, rfl⟩ | exact fun h => ⟨h, _, _, _, rfl⟩ | exact ⟨_, _, _, _, rfl⟩ | exact fun h => ⟨h, _, _, _, _, rfl⟩ | exact ⟨[_, _], rfl⟩ | (simp; done) | (simp_all; done) | (simp_all; omega), ?_⟩)
      refine hK _ ?_
      clear K' hK
      simp only [go_sem, Nat.reduceLT, Nat.reduceAdd, Nat.reduceEqDiff, Nat.reduceSub, Nat.reduceMul, Nat.reduceBEq, reduceIte, reduceCtorEq]
      refine cl_keep [5,13,14,15] [] ?_ ?_
      · simp only [go_sem, Nat.reduceLT, Nat.reduceAdd, Nat.reduceEqDiff, Nat.reduceSub, Nat.reduceMul, Nat.reduceBEq, reduceIte, reduceCtorEq]
      simp only [go_sem, Nat.reduceLT, Nat.reduceAdd, Nat.reduceEqDiff, Nat.reduceSub, Nat.reduceMul, Nat.reduceBEq, reduceIte, reduceCtorEq]
      repeat refine cl_seq ?_
      refine cl_r hΓ fun K' hK => ?_
      simp only [go_sem, Nat.reduceLT, Nat.reduceAdd, Nat.reduceEqDiff, Nat.reduceSub, Nat.reduceMul, Nat.reduceBEq, reduceIte, reduceCtorEq]
      repeat (refine ⟨by first | exact Bool.or_not_self _ | exact Bool.not_or_self _ | exact fun _ => by decide | exact fun h => ⟨h, by decide⟩ | omega | (simp only [decide_eq_true_eq]; omega) | exact xD | exact fun h => ⟨h, xD⟩ | exact xDD | exact fun h => ⟨h, xDD⟩ | exact ⟨_, rfl⟩ | exact fun h => ⟨h, _, rfl⟩ | exact ⟨_, _, rfl⟩ | exact fun h => ⟨h, _, _, rfl⟩ | exact fun h => ⟨h, _, _, _, rfl⟩ | exact ⟨_, _, _, _, rfl⟩ | exact fun h => ⟨h, _, _, _, _, rfl⟩ | exact ⟨[_, _], rfl⟩ | (simp; done) | (simp_all; done) | (simp_all; omega), ?_⟩)
      refine hK _ ?_
      clear K' hK
      simp only [go_sem, Nat.reduceLT, Nat.reduceAdd, Nat.reduceEqDiff, Nat.reduceSub, Nat.reduceMul, Nat.reduceBEq, reduceIte, reduceCtorEq]
      refine ⟨i + 1, by omega, by omega, ?_⟩
      rw [hn]
      simp only [dateS, if_neg hu]
      refine weak_eq [5,13,14,15] [] ?_ ?_
      · simp only [go_sem, Nat.reduceLT, Nat.reduceAdd, Nat.reduceEqDiff, Nat.reduceSub, Nat.reduceMul, Nat.reduceBEq, reduceIte, reduceCtorEq, wrap_succ hlt hl, Int.natCast_add, Int.natCast_one]
      · simp only [go_sem, Nat.reduceLT, Nat.reduceAdd, Nat.reduceEqDiff, Nat.reduceSub, Nat.reduceMul, Nat.reduceBEq, reduceIte, reduceCtorEq, wrap_succ hlt hl, Int.natCast_add, Int.natCast_one]
    · have hu : l[i].un = 0 := by
        have : ¬ 0 < l[i].un := by simpa using hb
        omega
      repeat refine cl_seq ?_
      refine cl_skip ?_
      refine cl_nil ?_
      simp only [go_sem, Nat.reduceLT, Nat.reduceAdd, Nat.reduceEqDiff, Nat.reduceSub, Nat.reduceMul, Nat.reduceBEq, reduceIte, reduceCtorEq]
      refine cl_keep [5,13,14,15] [] ?_ ?_
      · simp only [go_sem, Nat.reduceLT, Nat.reduceAdd, Nat.reduceEqDiff, Nat.reduceSub, Nat.reduceMul, Nat.reduceBEq, reduceIte, reduceCtorEq]
      simp only [go_sem, Nat.reduceLT, Nat.reduceAdd, Nat.reduceEqDiff, Nat.reduceSub, Nat.reduceMul, Nat.reduceBEq, reduceIte, reduceCtorEq]
      repeat refine cl_seq ?_
      refine cl_r hΓ fun K' hK => ?_
      simp only [go_sem, Nat.reduceLT, Nat.reduceAdd, Nat.reduceEqDiff, Nat.reduceSub, Nat.reduceMul, Nat.reduceBEq, reduceIte, reduceCtorEq]
      repeat (refine ⟨by first | exact Bool.or_not_self _ | exact Bool.not_or_self _ | exact fun _ => by decide | exact fun h => ⟨h, by decide⟩ | omega | (simp only [decide_eq_true_eq]; omega) | exact xD | exact fun h => ⟨h, xD⟩ | exact xDD | exact fun h => ⟨h, xDD⟩ | exact ⟨_, rfl⟩ | exact fun h => ⟨h, _, rfl⟩ | exact ⟨_, _, rfl⟩ | exact fun h => ⟨h, _, _, rfl⟩ | exact fun h => ⟨h, _, _, _, rfl⟩ | exact ⟨_, _, _, _, rfl⟩ | exact fun h => ⟨h, _, _, _, _, rfl⟩ | exact ⟨[_, _], rfl⟩ | (simp; done) | (simp_all; done) | (simp_all; omega), ?_⟩)
      refine hK _ ?_
      clear K' hK
      simp only [go_sem, Nat.reduceLT, Nat.reduceAdd, Nat.reduceEqDiff, Nat.reduceSub, Nat.reduceMul, Nat.reduceBEq, reduceIte, reduceCtorEq]
      refine ⟨i + 1, by omega, by omega, ?_⟩
      rw [hn]
      simp only [dateS, if_pos hu]
      refine weak_eq [5,13,14,15] [] ?_ ?_
      · simp only [go_sem, Nat.reduceLT, Nat.reduceAdd, Nat.reduceEqDiff, Nat.reduceSub, Nat.reduceMul, Nat.reduceBEq, reduceIte, reduceCtorEq, wrap_succ hlt hl, Int.natCast_add, Int.natCast_one]
      · simp only [go_sem, Nat.reduceLT, Nat.reduceAdd, Nat.reduceEqDiff, Nat.reduceSub, Nat.reduceMul, Nat.reduceBEq, reduceIte, reduceCtorEq, wrap_succ hlt hl, Int.natCast_add, Int.natCast_one]
  · have hge : i = l.length := by
      have : ¬ (i : Int) < l.length := by simpa using hb
      omega
    subst hge
    repeat refine cl_seq ?_
    refine cl_exit ?_
    simp only [go_sem, Nat.reduceLT, Nat.reduceAdd, Nat.reduceEqDiff, Nat.reduceSub, Nat.reduceMul, Nat.reduceBEq, reduceIte, reduceCtorEq]
    refine cl_keep [5] [] ?_ ?_
    · simp only [go_sem, Nat.reduceLT, Nat.reduceAdd, Nat.reduceEqDiff, Nat.reduceSub, Nat.reduceMul, Nat.reduceBEq, reduceIte, reduceCtorEq]
    simp only [go_sem, Nat.reduceLT, Nat.reduceAdd, Nat.reduceEqDiff, Nat.reduceSub, Nat.reduceMul, Nat.reduceBEq, reduceIte, reduceCtorEq]
    rw [List.take_length]
    repeat refine cl_seq ?_
    refine cl_rs hΓ [2,3] [] fun K' hK => ?_
    simp only [go_sem, Nat.reduceLT, Nat.reduceAdd, Nat.reduceEqDiff, Nat.reduceSub, Nat.reduceMul, Nat.reduceBEq, reduceIte, reduceCtorEq]
    repeat (refine ⟨by first | exact Bool.or_not_self _ | exact Bool.not_or_self _ | exact fun _ => by decide | exact fun h => ⟨h, by decide⟩ | omega | (simp only [decide_eq_true_eq]; omega) | exact xD | exact fun h => ⟨h, xD⟩ | exact xDD | exact fun h => ⟨h, xDD⟩ | exact ⟨_, rfl⟩ | exact fun h => ⟨h, _, rfl⟩ | exact ⟨_, _, rfl⟩ | exact fun h => ⟨h, _, _, rfl⟩ | exact fun h => ⟨h, _, _, _, rfl⟩ | exact ⟨_, _, _, _, rfl⟩ | exact fun h => ⟨h, _, _, _, _, rfl⟩ | exact ⟨[_, _], rfl⟩ | (simp; done) | (simp_all; done) | (simp_all; omega), ?_⟩)
    refine hK _ ?_ ?_
    · simp only [go_sem, Nat.reduceLT, Nat.reduceAdd, Nat.reduceEqDiff, Nat.reduceSub, Nat.reduceMul, Nat.reduceBEq, reduceIte, reduceCtorEq]
    clear K' hK
    simp only [go_sem, Nat.reduceLT, Nat.reduceAdd, Nat.reduceEqDiff, Nat.reduceSub, Nat.reduceMul, Nat.reduceBEq, reduceIte, reduceCtorEq]
    refine cl_ret ?_
    simp only [go_sem, Nat.reduceLT, Nat.reduceAdd, Nat.reduceEqDiff, Nat.reduceSub, Nat.reduceMul, Nat.reduceBEq, reduceIte, reduceCtorEq]
    all_goals simp [datesV]
end Go.Eng
