import Derived.Test.YtofamdkaipongaaGreatK18
/- KeysChecks: for every list of deeds and every deed the Go function KeysChecks returns true and leaves its arguments as they were; no conditions. -/
set_option linter.all false
set_option linter.unnecessarySimpa false
set_option linter.unusedSimpArgs false
set_option linter.unusedVariables false
set_option linter.constructorNameAsVariable false
/- The engine's text of a call without arguments that was run: as a pure contract. -/
namespace Go.Eng
open Go

theorem outH_nil : outH [] = fun _ => none := by
  funext nm
  unfold outH
  split <;> simp
theorem ran_pure {P : Program} {f : FuncId} {b : V} {fl : Bool} (h : Ran P ⟨f, [], [], ⟨[], [], .v b⟩⟩) (hn : ∀ fn, P.funcs[f]? = some fn → (fn.name == "runtime.NumGoroutine") = false) (hy : f < 1000000000) (hfl : b.flat = true) :
    PSound P f ⟨fun xs => xs = [], fun _ => b, fl⟩ := by
  obtain ⟨fn, c, h1, h2, h3, h4⟩ := h
  have h1' : P.funcs[f]? = some fn := h1
  refine psound h1' h2 rfl rfl (enter_of h1' h2 (hn fn h1')) (Nat.ne_of_lt (show f < yid from hy)) (fun _ _ _ => hfl) ?_
  rintro xs rfl _
  refine ⟨Nat.zero_le _, ?_⟩
  have h4' : CW P c (mkS fn.ntmps [0] (fun _ => none) (argsL 0 []) []) (retC P fn.results.toList [] ⟨[], [], .v b⟩) := by
    have := h4
    simp only [outH_nil] at this
    exact this
  refine CW.mono h4' ?_
  intro e σ hK
  have key : ((resAll P σ fn.results.toList).ok ∧ (resAll P σ fn.results.toList).d = .v b ∧ endC [] ⟨[], [], .v b⟩ σ) → (resAll P σ fn.results.toList).ok ∧ (frz 6 σ.obj (resAll P σ fn.results.toList).d).ok ∧ (frz 6 σ.obj (resAll P σ fn.results.toList).d).x = b := by
    rintro ⟨k1, k2, _⟩
    rw [k2]
    exact ⟨k1, trivial, rfl⟩
  cases e with
  | normal => exact key hK
  | ret => exact key hK
  | _ => exact hK.elim
end Go.Eng
/- keys' sane: its contract. -/
namespace Go.Eng
open Go Go.Proofs
theorem s17 : PSound Tryz.prog 17 ⟨fun xs => xs = [], fun _ => .bool true, true⟩ :=
  ran_pure (b := .bool true) keR78 (by
    intro fn h
    have e : Tryz.prog.funcs[17]? = some Tryz.f17 := Tryz.func17
    rw [e] at h
    obtain rfl := Option.some.inj h
    exact (by kernel_rfl : (Tryz.f17.name == "runtime.NumGoroutine") = false)) (by decide) rfl
end Go.Eng
namespace Go.Eng
open Go Go.Proofs

noncomputable def sAdd : Spec := (pAdd fun l d => joinV (joinR l [d])).toSpec
theorem sAdd_app {obj : Name → Option O} {t : Name} {l : List Deed} {d : Deed} {dx : D} (hx : dx = rdD d) : sAdd.app obj t [.v (.sl (l.map encD)), dx] = ⟨True, .v (joinV (joinR l [d])), obj⟩ := by
  subst hx
  have e : frzL (frz 6) obj [.v (.sl (l.map encD)), rdD d] = ⟨True, [.sl (l.map encD), encD d], obj⟩ := by
    simp only [frzL, frz, rdD, D.one, V.one, List.map_cons, List.map_nil]
    simp [encD, D.one, V.one]
  simp only [sAdd, PSpec.toSpec, e]
  rw [pAdd_fn]
  congr 1
  simp only [eq_iff_iff, iff_true]
  exact ⟨trivial, l, d, rfl⟩
noncomputable def sDates : Spec := (pLen (fun _ => True) fun l => datesV (datesR l)).toSpec
theorem sDates_app {obj : Name → Option O} {t : Name} {l : List Deed} : sDates.app obj t [.v (.sl (l.map encD))] = ⟨True, .v (datesV (datesR l)), obj⟩ := by
  simp only [sDates, PSpec.toSpec, frzL, frz]
  rw [pLen_fn]
  congr 1
  simp only [eq_iff_iff, iff_true]
  exact ⟨⟨trivial, trivial⟩, l, rfl, trivial⟩
noncomputable def sSameD : Spec := pSameD.toSpec
theorem sSameD_app {obj : Name → Option O} {t : Name} {l k : List Deed} : sSameD.app obj t [.v (.sl (l.map encD)), .v (.sl (k.map encD))] = ⟨True, .v (.bool (decide (l = k))), obj⟩ := by
  simp only [sSameD, PSpec.toSpec, frzL, frz, pSameD_fn]
  congr 1
  simp only [eq_iff_iff, iff_true]
  exact ⟨⟨trivial, trivial, trivial⟩, l, k, rfl⟩
noncomputable def sSameI : Spec := pSameI.toSpec
theorem sSameI_app {obj : Name → Option O} {t : Name} {l k : List Int} : sSameI.app obj t [.v (.sl (l.map vInt)), .v (.sl (k.map vInt))] = ⟨True, .v (.bool (decide (l = k))), obj⟩ := by
  simp only [sSameI, PSpec.toSpec, frzL, frz, pSameI_fn]
  congr 1
  simp only [eq_iff_iff, iff_true]
  exact ⟨⟨trivial, trivial, trivial⟩, l, k, rfl⟩
noncomputable def sChkD : Spec := (pD fun d => vInt (if isDeedB d then 0 else 10)).toSpec
theorem s38' : SSound Tryz.prog 38 sChkD := by
  have e : (fun d => vInt (if rDeedB d then 0 else 10)) = (fun d => vInt (if isDeedB d then 0 else 10)) := funext fun d => by rw [rDeed_eq]
  have := s38.sound
  rw [e] at this
  exact this
theorem sChkD_app {obj : Name → Option O} {t : Name} {d : Deed} {dx : D} (hx : dx = rdD d) : sChkD.app obj t [dx] = ⟨True, .v (vInt (if isDeedB d then 0 else 10)), obj⟩ := by
  subst hx
  have e : frzL (frz 6) obj [rdD d] = ⟨True, [encD d], obj⟩ := by
    simp only [frzL, frz, rdD, D.one, V.one, List.map_cons, List.map_nil]
    simp [encD, D.one, V.one]
  simp only [sChkD, PSpec.toSpec, e]
  congr 1
  simp only [eq_iff_iff, iff_true]
  exact ⟨trivial, d, rfl⟩
noncomputable def K13 : FuncId → Option Spec := fun f => match f with
  | 19 => some sAdd
  | 35 => some sAdd
  | 34 => some sDates
  | 36 => some sDates
  | 15 => some sSameD
  | 24 => some sSameI
  | 37 => some sChkD
  | 38 => some sChkD
  | 17 => some (⟨fun xs => xs = [], fun _ => .bool true, true⟩ : PSpec).toSpec
  | f => K12 f
theorem K13_sound : ∀ f s, K13 f = some s → SSound Tryz.prog f s := by
  intro f s h
  unfold K13 at h
  split at h
  · cases h; exact s19.sound
  · cases h; exact s35.sound
  · cases h; exact s34.sound
  · cases h; exact s36.sound
  · cases h; exact s15.sound
  · cases h; exact s24.sound
  · cases h; exact s37.sound
  · cases h; exact s38'
  · cases h; exact s17.sound
  · exact K12_sound _ _ h
@[go_sem] theorem K13_19 : K13 19 = some sAdd := rfl
@[go_sem] theorem K13_35 : K13 35 = some sAdd := rfl
@[go_sem] theorem K13_34 : K13 34 = some sDates := rfl
@[go_sem] theorem K13_36 : K13 36 = some sDates := rfl
@[go_sem] theorem K13_15 : K13 15 = some sSameD := rfl
@[go_sem] theorem K13_24 : K13 24 = some sSameI := rfl
@[go_sem] theorem K13_37 : K13 37 = some sChkD := rfl
@[go_sem] theorem K13_38 : K13 38 = some sChkD := rfl
@[go_sem] theorem K13_39 : K13 39 = some sChk := rfl
@[go_sem] theorem K13_16 : K13 16 = some sRChk := rfl
@[go_sem] theorem K13_17 : K13 17 = some (⟨fun xs => xs = [], fun _ => .bool true, true⟩ : PSpec).toSpec := rfl
set_option maxRecDepth 100000 in
set_option maxHeartbeats 8000000 in
theorem s7 : PSound Tryz.prog 7 (pAdd fun _ _ => .bool true) := by
  refine psoundB (rs := [.tmp 4]) Tryz.func7 Tryz.ntmps7 (by rfl) (by kernel_rfl) (by decide) (fun h => by cases h) ⟨_, rfl, ?_⟩
  rintro xs ⟨l, d, rfl⟩ hw
  refine ⟨Nat.le_of_ble_eq_true rfl, ?_⟩
  rw [pAdd_fn]
  obtain ⟨pa, no, ki, lo, pe, dl, dh, kn, un⟩ := d
  have hΓ := K13_sound
  have hP := mixedK
  have hadd := fun (obj : Name → Option O) (t : Name) => sAdd_app (obj := obj) (t := t) (l := l) (d := (⟨pa, no, ki, lo, pe, dl, dh, kn, un⟩ : Deed)) (dx := rdD (⟨pa, no, ki, lo, pe, dl, dh, kn, un⟩ : Deed)) rfl
  unfold rdD at hadd
  have hchk := fun (obj : Name → Option O) (t : Name) => sChkD_app (obj := obj) (t := t) (d := (⟨pa, no, ki, lo, pe, dl, dh, kn, un⟩ : Deed)) (dx := rdD (⟨pa, no, ki, lo, pe, dl, dh, kn, un⟩ : Deed)) rfl
  unfold rdD at hchk
  repeat refine cl_seq ?_
  refine cl_rs hΓ [0,3] [[3, 0]] fun K' hK => ?_
  simp only [go_sem, Nat.reduceLT, Nat.reduceAdd, Nat.reduceEqDiff, Nat.reduceSub, Nat.reduceMul, Nat.reduceBEq, reduceIte, reduceCtorEq]
  repeat (refine ⟨by first | exact Bool.or_not_self _ | exact Bool.not_or_self _ | exact fun _ => by decide | exact fun h => ⟨h, by decide⟩ | omega | (simp only [decide_eq_true_eq]; omega) | exact xD | exact fun h => ⟨h, xD⟩ | exact xDD | exact fun h => ⟨h, xDD⟩ | exact ⟨_, rfl⟩ | exact fun h => ⟨h, _, rfl⟩ | exact ⟨_, _, rfl⟩ | exact fun h => ⟨h, _, _, rfl⟩ | exact fun h => ⟨h, _, _, _, rfl⟩ | exact ⟨_, _, _, _, rfl⟩ | exact fun h => ⟨h, _, _, _, _, rfl⟩ | exact ⟨[_, _], rfl⟩ | (simp; done) | (simp_all; done) | (simp_all; omega), ?_⟩)
  refine hK _ ?_ ?_
  · simp only [go_sem, Nat.reduceLT, Nat.reduceAdd, Nat.reduceEqDiff, Nat.reduceSub, Nat.reduceMul, Nat.reduceBEq, reduceIte, reduceCtorEq]
  clear K' hK
  simp only [go_sem, Nat.reduceLT, Nat.reduceAdd, Nat.reduceEqDiff, Nat.reduceSub, Nat.reduceMul, Nat.reduceBEq, reduceIte, reduceCtorEq]
  repeat refine cl_seq ?_
  refine cl_rs hΓ [0,3,5,6] [[3, 0]] fun K' hK => ?_
  simp only [go_sem, Nat.reduceLT, Nat.reduceAdd, Nat.reduceEqDiff, Nat.reduceSub, Nat.reduceMul, Nat.reduceBEq, reduceIte, reduceCtorEq, hadd, joinV]
  repeat (refine ⟨by first | exact Bool.or_not_self _ | exact Bool.not_or_self _ | exact fun _ => by decide | exact fun h => ⟨h, by decide⟩ | omega | (simp only [decide_eq_true_eq]; omega) | exact xD | exact fun h => ⟨h, xD⟩ | exact xDD | exact fun h => ⟨h, xDD⟩ | exact ⟨_, rfl⟩ | exact fun h => ⟨h, _, rfl⟩ | exact ⟨_, _, rfl⟩ | exact fun h => ⟨h, _, _, rfl⟩ | exact fun h => ⟨h, _, _, _, rfl⟩ | exact ⟨_, _, _, _, rfl⟩ | exact fun h => ⟨h, _, _, _, _, rfl⟩ | exact ⟨[_, _], rfl⟩ | (simp; done) | (simp_all; done) | (simp_all; omega), ?_⟩)
  refine hK _ ?_ ?_
  · simp only [go_sem, Nat.reduceLT, Nat.reduceAdd, Nat.reduceEqDiff, Nat.reduceSub, Nat.reduceMul, Nat.reduceBEq, reduceIte, reduceCtorEq, hadd, joinV]
  clear K' hK
  simp only [go_sem, Nat.reduceLT, Nat.reduceAdd, Nat.reduceEqDiff, Nat.reduceSub, Nat.reduceMul, Nat.reduceBEq, reduceIte, reduceCtorEq, hadd, joinV]
  repeat refine cl_seq ?_
  refine cl_rs hΓ [0,3,5,6,7,8] [[3, 0]] fun K' hK => ?_
  simp only [go_sem, Nat.reduceLT, Nat.reduceAdd, Nat.reduceEqDiff, Nat.reduceSub, Nat.reduceMul, Nat.reduceBEq, reduceIte, reduceCtorEq, hadd, joinV]
  repeat (refine ⟨by first | exact Bool.or_not_self _ | exact Bool.not_or_self _ | exact fun _ => by decide | exact fun h => ⟨h, by decide⟩ | omega | (simp only [decide_eq_true_eq]; omega) | exact xD | exact fun h => ⟨h, xD⟩ | exact xDD | exact fun h => ⟨h, xDD⟩ | exact ⟨_, rfl⟩ | exact fun h => ⟨h, _, rfl⟩ | exact ⟨_, _, rfl⟩ | exact fun h => ⟨h, _, _, rfl⟩ | exact fun h => ⟨h, _, _, _, rfl⟩ | exact ⟨_, _, _, _, rfl⟩ | exact fun h => ⟨h, _, _, _, _, rfl⟩ | exact ⟨[_, _], rfl⟩ | (simp; done) | (simp_all; done) | (simp_all; omega), ?_⟩)
  refine hK _ ?_ ?_
  · simp only [go_sem, Nat.reduceLT, Nat.reduceAdd, Nat.reduceEqDiff, Nat.reduceSub, Nat.reduceMul, Nat.reduceBEq, reduceIte, reduceCtorEq, hadd, joinV]
  clear K' hK
  simp only [go_sem, Nat.reduceLT, Nat.reduceAdd, Nat.reduceEqDiff, Nat.reduceSub, Nat.reduceMul, Nat.reduceBEq, reduceIte, reduceCtorEq, hadd, joinV]
  repeat refine cl_seq ?_
  refine cl_rs hΓ [0,3,5,6,7,8,9,10] [[3, 0]] fun K' hK => ?_
  simp only [go_sem, Nat.reduceLT, Nat.reduceAdd, Nat.reduceEqDiff, Nat.reduceSub, Nat.reduceMul, Nat.reduceBEq, reduceIte, reduceCtorEq, sDates_app, datesV]
  repeat (refine ⟨by first | exact Bool.or_not_self _ | exact Bool.not_or_self _ | exact fun _ => by decide | exact fun h => ⟨h, by decide⟩ | omega | (simp only [decide_eq_true_eq]; omega) | exact xD | exact fun h => ⟨h, xD⟩ | exact xDD | exact fun h => ⟨h, xDD⟩ | exact ⟨_, rfl⟩ | exact fun h => ⟨h, _, rfl⟩ | exact ⟨_, _, rfl⟩ | exact fun h => ⟨h, _, _, rfl⟩ | exact fun h => ⟨h, _, _, _, rfl⟩ | exact ⟨_, _, _, _, rfl⟩ | exact fun h => ⟨h, _, _, _, _, rfl⟩ | exact ⟨[_, _], rfl⟩ | (simp; done) | (simp_all; done) | (simp_all; omega), ?_⟩)
  refine hK _ ?_ ?_
  · simp only [go_sem, Nat.reduceLT, Nat.reduceAdd, Nat.reduceEqDiff, Nat.reduceSub, Nat.reduceMul, Nat.reduceBEq, reduceIte, reduceCtorEq, sDates_app, datesV]
  clear K' hK
  simp only [go_sem, Nat.reduceLT, Nat.reduceAdd, Nat.reduceEqDiff, Nat.reduceSub, Nat.reduceMul, Nat.reduceBEq, reduceIte, reduceCtorEq, sDates_app, datesV]
  repeat refine cl_seq ?_
  refine cl_rs hΓ [0,3,5,6,7,8,9,10,11,12] [[3, 0]] fun K' hK => ?_
  simp only [go_sem, Nat.reduceLT, Nat.reduceAdd, Nat.reduceEqDiff, Nat.reduceSub, Nat.reduceMul, Nat.reduceBEq, reduceIte, reduceCtorEq, sDates_app, datesV]
  repeat (refine ⟨by first | exact Bool.or_not_self _ | exact Bool.not_or_self _ | exact fun _ => by decide | exact fun h => ⟨h, by decide⟩ | omega | (simp only [decide_eq_true_eq]; omega) | exact xD | exact fun h => ⟨h, xD⟩ | exact xDD | exact fun h => ⟨h, xDD⟩ | exact ⟨_, rfl⟩ | exact fun h => ⟨h, _, rfl⟩ | exact ⟨_, _, rfl⟩ | exact fun h => ⟨h, _, _, rfl⟩ | exact fun h => ⟨h, _, _, _, rfl⟩ | exact ⟨_, _, _, _, rfl⟩ | exact fun h => ⟨h, _, _, _, _, rfl⟩ | exact ⟨[_, _], rfl⟩ | (simp; done) | (simp_all; done) | (simp_all; omega), ?_⟩)
  refine hK _ ?_ ?_
  · simp only [go_sem, Nat.reduceLT, Nat.reduceAdd, Nat.reduceEqDiff, Nat.reduceSub, Nat.reduceMul, Nat.reduceBEq, reduceIte, reduceCtorEq, sDates_app, datesV]
  clear K' hK
  simp only [go_sem, Nat.reduceLT, Nat.reduceAdd, Nat.reduceEqDiff, Nat.reduceSub, Nat.reduceMul, Nat.reduceBEq, reduceIte, reduceCtorEq, sDates_app, datesV]
  repeat refine cl_seq ?_
  refine cl_ds hΓ hP [[], [], [0, 1], [0, 1, 2], [0, 1, 2, 3], [0, 1, 2, 3], [0, 1, 2, 3, 4, 5], [0, 1, 2, 3, 4, 5, 6], [0, 1, 2, 3, 4, 5, 6, 7], [0, 1, 2, 3, 4, 5, 6, 7, 8], [0, 1, 2, 3, 4, 5, 6, 7, 8], [0, 1, 2, 3, 4, 5, 6, 7, 8, 9, 10], [0, 1, 2, 3, 4, 5, 6, 7, 8, 9, 10, 11], [0, 1, 2, 3, 4, 5, 6, 7, 8, 9, 10, 11, 12], [0, 1, 2, 3, 4, 5, 6, 7, 8, 9, 10, 11, 12, 13], [0, 1, 2, 3, 4, 5, 6, 7, 8, 9, 10, 11, 12, 13], [0, 1, 2, 3, 4, 5, 6, 7, 8, 9, 10, 11, 12, 13, 14, 15], [0, 1, 2, 3, 4, 5, 6, 7, 8, 9, 10, 11, 12, 13, 14, 15, 16], [0, 1, 2, 3, 4, 5, 6, 7, 8, 9, 10, 11, 12, 13, 14, 15, 16, 17], [0, 1, 2, 3, 4, 5, 6, 7, 8, 9, 10, 11, 12, 13, 14, 15, 16, 17, 18], [0, 1, 2, 3, 4, 5, 6, 7, 8, 9, 10, 11, 12, 13, 14, 15, 16, 17, 18, 19], [0, 1, 2, 3, 4, 5, 6, 7, 8, 9, 10, 11, 12, 13, 14, 15, 16, 17, 18], [0, 1, 2, 3, 4, 5, 6, 7, 8, 9, 10, 11, 12, 13, 14, 15, 16, 17, 18, 19, 20, 21], [0, 1, 2, 3, 4, 5, 6, 7, 8, 9, 10, 11, 12, 13, 14, 15, 16, 17, 18, 19, 20, 21, 22], [0, 1, 2, 3, 4, 5, 6, 7, 8, 9, 10, 11, 12, 13, 14, 15, 16, 17, 18, 19, 20, 21, 22, 23], [0, 1, 2, 3, 4, 5, 6, 7, 8, 9, 10, 11, 12, 13, 14, 15, 16, 17, 18, 19, 20, 21, 22, 23, 24], [0, 1, 2, 3, 4, 5, 6, 7, 8, 9, 10, 11, 12, 13, 14, 15, 16, 17, 18, 19, 20, 21, 22, 23, 24, 25], [0, 1, 2, 3, 4, 5, 6, 7, 8, 9, 10, 11, 12, 13, 14, 15, 16, 17, 18, 19, 20, 21, 22, 23, 24, 25, 26], [0, 1, 2, 3, 4, 5, 6, 7, 8, 9, 10, 11, 12, 13, 14, 15, 16, 17, 18, 19, 20, 21, 22, 23, 24, 25], [0, 1, 2, 3, 4, 5, 6, 7, 8, 9, 10, 11, 12, 13, 14, 15, 16, 17, 18, 19, 20, 21, 22, 23, 24, 25, 26, 27, 28], [0, 1, 2, 3, 4, 5, 6, 7, 8, 9, 10, 11, 12, 13, 14, 15, 16, 17, 18, 19, 20, 21, 22, 23, 24, 25, 26, 27, 28, 29], [0, 1, 2, 3, 4, 5, 6, 7, 8, 9, 10, 11, 12, 13, 14, 15, 16, 17, 18, 19, 20, 21, 22, 23, 24, 25, 26, 27, 28, 29, 30], [0, 1, 2, 3, 4, 5, 6, 7, 8, 9, 10, 11, 12, 13, 14, 15, 16, 17, 18, 19, 20, 21, 22, 23, 24, 25, 26, 27, 28, 29, 30, 31], [0, 1, 2, 3, 4, 5, 6, 7, 8, 9, 10, 11, 12, 13, 14, 15, 16, 17, 18, 19, 20, 21, 22, 23, 24, 25, 26, 27, 28, 29, 30, 31, 32], [0, 1, 2, 3, 4, 5, 6, 7, 8, 9, 10, 11, 12, 13, 14, 15, 16, 17, 18, 19, 20, 21, 22, 23, 24, 25, 26, 27, 28, 29, 30, 31, 32, 33], [0, 1, 2, 3, 4, 5, 6, 7, 8, 9, 10, 11, 12, 13, 14, 15, 16, 17, 18, 19, 20, 21, 22, 23, 24, 25, 26, 27, 28, 29, 30, 31, 32, 33, 34]] [4] [] (by kernel_rfl) fun K' hK => ?_
  simp only [go_sem, Nat.reduceLT, Nat.reduceAdd, Nat.reduceEqDiff, Nat.reduceSub, Nat.reduceMul, Nat.reduceBEq, reduceIte, reduceCtorEq, sSameD_app, sSameI_app, hchk, sChk_app, sRChk_app, decide_true, beq_self_eq_true]
  repeat (refine ⟨by first | exact Bool.or_not_self _ | exact Bool.not_or_self _ | exact fun _ => by decide | exact fun h => ⟨h, by decide⟩ | omega | (simp only [decide_eq_true_eq]; omega) | exact xD | exact fun h => ⟨h, xD⟩ | exact xDD | exact fun h => ⟨h, xDD⟩ | exact ⟨_, rfl⟩ | exact fun h => ⟨h, _, rfl⟩ | exact ⟨_, _, rfl⟩ | exact fun h => ⟨h, _, _, rfl⟩ | exact fun h => ⟨h, _, _, _, rfl⟩ | exact ⟨_, _, _, _, rfl⟩ | exact fun h => ⟨h, _, _, _, _, rfl⟩ | exact ⟨[_, _], rfl⟩ | (simp; done) | (simp_all; done) | (simp_all; omega), ?_⟩)
  first | refine ⟨by rfl, ?_⟩ | skip
  refine hK _ ?_ ?_
  · simp only [go_sem, Nat.reduceLT, Nat.reduceAdd, Nat.reduceEqDiff, Nat.reduceSub, Nat.reduceMul, Nat.reduceBEq, reduceIte, reduceCtorEq, sSameD_app, sSameI_app, hchk, sChk_app, sRChk_app, decide_true, beq_self_eq_true]
  clear K' hK
  simp only [go_sem, Nat.reduceLT, Nat.reduceAdd, Nat.reduceEqDiff, Nat.reduceSub, Nat.reduceMul, Nat.reduceBEq, reduceIte, reduceCtorEq, sSameD_app, sSameI_app, hchk, sChk_app, sRChk_app, decide_true, beq_self_eq_true]
  refine cl_ret ?_
  simp only [go_sem, Nat.reduceLT, Nat.reduceAdd, Nat.reduceEqDiff, Nat.reduceSub, Nat.reduceMul, Nat.reduceBEq, reduceIte, reduceCtorEq]
end Go.Eng
/- KeysChecks. -/
set_option maxRecDepth 100000
namespace Go.Eng
open Go Go.Proofs Go.Proofs.YtofamdkaipongaaGreat
theorem checks_said : Rows.KeysChecksSaid :=
  checks_holds fun W args xs ha hr => by
    obtain ⟨x, ys, rfl, h1, y, zs, rfl, h2, rfl⟩ := (show ArgsS Tryz.prog 6 [22, 35] xs from ha)
    obtain ⟨l, rfl⟩ := arg22 h1
    obtain ⟨d, rfl⟩ := arg35 h2
    exact calls_true s7 hr ⟨l, d, rfl⟩ rfl
end Go.Eng
namespace Go.Proofs.YtofamdkaipongaaGreat
theorem keysChecks_holds : Rows.KeysChecksSaid := Go.Eng.checks_said
end Go.Proofs.YtofamdkaipongaaGreat
#print axioms Go.Proofs.YtofamdkaipongaaGreat.keysChecks_holds
