import Derived.Test.YtofamdkaipongaaGreatK18
/- KeysJoins: for all two lists of deeds and all two numbers the Go function KeysJoins returns true and leaves its arguments as they were; no conditions. -/
set_option linter.all false
set_option linter.unnecessarySimpa false
set_option linter.unusedSimpArgs false
set_option linter.unusedVariables false
set_option linter.constructorNameAsVariable false
/- The engine's text of a call without arguments that was run: as a pure contract. -/
namespace Go.Eng
open Go

theorem outH_nil : outH [] = fun _ => none := by
  funext nm
  unfold outH
  split <;> simp
theorem ran_pure {P : Program} {f : FuncId} {b : V} {fl : Bool} (h : Ran P ⟨f, [], [], ⟨[], [], .v b⟩⟩) (hn : ∀ fn, P.funcs[f]? = some fn → (fn.name == "runtime.NumGoroutine") = false) (hy : f < 1000000000) (hfl : b.flat = true) :
    PSound P f ⟨fun xs => xs = [], fun _ => b, fl⟩ := by
  obtain ⟨fn, c, h1, h2, h3, h4⟩ := h
  have h1' : P.funcs[f]? = some fn := h1
  refine psound h1' h2 rfl rfl (enter_of h1' h2 (hn fn h1')) (Nat.ne_of_lt (show f < yid from hy)) (fun _ _ _ => hfl) ?_
  rintro xs rfl _
  refine ⟨Nat.zero_le _, ?_⟩
  have h4' : CW P c (mkS fn.ntmps [0] (fun _ => none) (argsL 0 []) []) (retC P fn.results.toList [] ⟨[], [], .v b⟩) := by
    have := h4
    simp only [outH_nil] at this
    exact this
  refine CW.mono h4' ?_
  intro e σ hK
  have key : ((resAll P σ fn.results.toList).ok ∧ (resAll P σ fn.results.toList).d = .v b ∧ endC [] ⟨[], [], .v b⟩ σ) → (resAll P σ fn.results.toList).ok ∧ (frz 6 σ.obj (resAll P σ fn.results.toList).d).ok ∧ (frz 6 σ.obj (resAll P σ fn.results.toList).d).x = b := by
    rintro ⟨k1, k2, _⟩
    rw [k2]
    exact ⟨k1, trivial, rfl⟩
  cases e with
  | normal => exact key hK
  | ret => exact key hK
  | _ => exact hK.elim
end Go.Eng
/- keys' sane: its contract. -/
namespace Go.Eng
open Go Go.Proofs
theorem s17 : PSound Tryz.prog 17 ⟨fun xs => xs = [], fun _ => .bool true, true⟩ :=
  ran_pure (b := .bool true) keR78 (by
    intro fn h
    have e : Tryz.prog.funcs[17]? = some Tryz.f17 := Tryz.func17
    rw [e] at h
    obtain rfl := Option.some.inj h
    exact (by kernel_rfl : (Tryz.f17.name == "runtime.NumGoroutine") = false)) (by decide) rfl
end Go.Eng
namespace Go.Eng
open Go Go.Proofs

noncomputable def sAdd : Spec := (pAdd fun l d => joinV (joinR l [d])).toSpec
theorem sAdd_app {obj : Name → Option O} {t : Name} {l : List Deed} {d : Deed} {dx : D} (hx : dx = rdD d) : sAdd.app obj t [.v (.sl (l.map encD)), dx] = ⟨True, .v (joinV (joinR l [d])), obj⟩ := by
  subst hx
  have e : frzL (frz 6) obj [.v (.sl (l.map encD)), rdD d] = ⟨True, [.sl (l.map encD), encD d], obj⟩ := by
    simp only [frzL, frz, rdD, D.one, V.one, List.map_cons, List.map_nil]
    simp [encD, D.one, V.one]
  simp only [sAdd, PSpec.toSpec, e]
  rw [pAdd_fn]
  congr 1
  simp only [eq_iff_iff, iff_true]
  exact ⟨trivial, l, d, rfl⟩
noncomputable def sDates : Spec := (pLen (fun _ => True) fun l => datesV (datesR l)).toSpec
theorem sDates_app {obj : Name → Option O} {t : Name} {l : List Deed} : sDates.app obj t [.v (.sl (l.map encD))] = ⟨True, .v (datesV (datesR l)), obj⟩ := by
  simp only [sDates, PSpec.toSpec, frzL, frz]
  rw [pLen_fn]
  congr 1
  simp only [eq_iff_iff, iff_true]
  exact ⟨⟨trivial, trivial⟩, l, rfl, trivial⟩
noncomputable def sSameD : Spec := pSameD.toSpec
theorem sSameD_app {obj : Name → Option O} {t : Name} {l k : List Deed} : sSameD.app obj t [.v (.sl (l.map encD)), .v (.sl (k.map encD))] = ⟨True, .v (.bool (decide (l = k))), obj⟩ := by
  simp only [sSameD, PSpec.toSpec, frzL, frz, pSameD_fn]
  congr 1
  simp only [eq_iff_iff, iff_true]
  exact ⟨⟨trivial, trivial, trivial⟩, l, k, rfl⟩
noncomputable def sSameI : Spec := pSameI.toSpec
theorem sSameI_app {obj : Name → Option O} {t : Name} {l k : List Int} : sSameI.app obj t [.v (.sl (l.map vInt)), .v (.sl (k.map vInt))] = ⟨True, .v (.bool (decide (l = k))), obj⟩ := by
  simp only [sSameI, PSpec.toSpec, frzL, frz, pSameI_fn]
  congr 1
  simp only [eq_iff_iff, iff_true]
  exact ⟨⟨trivial, trivial, trivial⟩, l, k, rfl⟩
noncomputable def sChkD : Spec := (pD fun d => vInt (if isDeedB d then 0 else 10)).toSpec
theorem s38' : SSound Tryz.prog 38 sChkD := by
  have e : (fun d => vInt (if rDeedB d then 0 else 10)) = (fun d => vInt (if isDeedB d then 0 else 10)) := funext fun d => by rw [rDeed_eq]
  have := s38.sound
  rw [e] at this
  exact this
theorem sChkD_app {obj : Name → Option O} {t : Name} {d : Deed} {dx : D} (hx : dx = rdD d) : sChkD.app obj t [dx] = ⟨True, .v (vInt (if isDeedB d then 0 else 10)), obj⟩ := by
  subst hx
  have e : frzL (frz 6) obj [rdD d] = ⟨True, [encD d], obj⟩ := by
    simp only [frzL, frz, rdD, D.one, V.one, List.map_cons, List.map_nil]
    simp [encD, D.one, V.one]
  simp only [sChkD, PSpec.toSpec, e]
  congr 1
  simp only [eq_iff_iff, iff_true]
  exact ⟨trivial, d, rfl⟩
noncomputable def K13 : FuncId → Option Spec := fun f => match f with
  | 19 => some sAdd
  | 35 => some sAdd
  | 34 => some sDates
  | 36 => some sDates
  | 15 => some sSameD
  | 24 => some sSameI
  | 37 => some sChkD
  | 38 => some sChkD
  | 17 => some (⟨fun xs => xs = [], fun _ => .bool true, true⟩ : PSpec).toSpec
  | f => K12 f
theorem K13_sound : ∀ f s, K13 f = some s → SSound Tryz.prog f s := by
  intro f s h
  unfold K13 at h
  split at h
  · cases h; exact s19.sound
  · cases h; exact s35.sound
  · cases h; exact s34.sound
  · cases h; exact s36.sound
  · cases h; exact s15.sound
  · cases h; exact s24.sound
  · cases h; exact s37.sound
  · cases h; exact s38'
  · cases h; exact s17.sound
  · exact K12_sound _ _ h
@[go_sem] theorem K13_19 : K13 19 = some sAdd := rfl
@[go_sem] theorem K13_35 : K13 35 = some sAdd := rfl
@[go_sem] theorem K13_34 : K13 34 = some sDates := rfl
@[go_sem] theorem K13_36 : K13 36 = some sDates := rfl
@[go_sem] theorem K13_15 : K13 15 = some sSameD := rfl
@[go_sem] theorem K13_24 : K13 24 = some sSameI := rfl
@[go_sem] theorem K13_37 : K13 37 = some sChkD := rfl
@[go_sem] theorem K13_38 : K13 38 = some sChkD := rfl
@[go_sem] theorem K13_39 : K13 39 = some sChk := rfl
@[go_sem] theorem K13_16 : K13 16 = some sRChk := rfl
@[go_sem] theorem K13_17 : K13 17 = some (⟨fun xs => xs = [], fun _ => .bool true, true⟩ : PSpec).toSpec := rfl
set_option maxRecDepth 100000 in
set_option maxHeartbeats 8000000 in
theorem s7 : PSound Tryz.prog 7 (pAdd fun _ _ => .bool true) := by
  refine psoundB (rs := [.tmp 4]) Tryz.func7 Tryz.ntmps7 (by rfl) (by kernel_rfl) (by decide) (fun h => by cases h) ⟨_, rfl, ?_⟩
  rintro xs ⟨l, d, rfl⟩ hw
  refine ⟨Nat.le_of_ble_eq_true rfl, ?_⟩
  rw [pAdd_fn]
  obtain ⟨pa, no, ki, lo, pe, dl, dh, kn, un⟩ := d
  have hΓ := K13_sound
  have hP := mixedK
  have hadd := fun (obj : Name → Option O) (t : Name) => sAdd_app (obj := obj) (t := t) (l := l) (d := (⟨pa, no, ki, lo, pe, dl, dh, kn, un⟩ : Deed)) (dx := rdD (⟨pa, no, ki, lo, pe, dl, dh, kn, un⟩ : Deed)) rfl
  unfold rdD at hadd
  have hchk := fun (obj : Name → Option O) (t : Name) => sChkD_app (obj := obj) (t := t) (d := (⟨pa, no, ki, lo, pe, dl, dh, kn, un⟩ : Deed)) (dx := rdD (⟨pa, no, ki, lo, pe, dl, dh, kn, un⟩ : Deed)) rfl
  unfold rdD at hchk
  repeat refine cl_seq ?_
  refine cl_rs hΓ [0,3] [[3, 0]] fun K' hK => ?_
  simp only [go_sem, Nat.reduceLT, Nat.reduceAdd, Nat.reduceEqDiff, Nat.reduceSub, Nat.reduceMul, Nat.reduceBEq, reduceIte, reduceCtorEq]
  repeat (refine ⟨by first | exact Bool.or_not_self _ | exact Bool.not_or_self _ | exact fun _ => by decide | exact fun h => ⟨h, by decide⟩ | omega | (simp only [decide_eq_true_eq]; omega) | exact xD | exact fun h => ⟨h, xD⟩ | exact xDD | exact fun h => ⟨h, xDD⟩ | exact ⟨_, rfl⟩ | exact fun h => ⟨h, _, rfl⟩ | exact ⟨_, _, rfl⟩ | exact fun h => ⟨h, _, _, rfl⟩ | exact fun h => ⟨h, _, _, _, rfl⟩ | exact ⟨_, _, _, _, rfl⟩ | exact fun h => ⟨h, _, _, _, _, rfl⟩ | exact ⟨[_, _], rfl⟩ | (simp; done) | (simp_all; done) | (simp_all; omega), ?_⟩)
  refine hK _ ?_ ?_
  · simp only [go_sem, Nat.reduceLT, Nat.reduceAdd, Nat.reduceEqDiff, Nat.reduceSub, Nat.reduceMul, Nat.reduceBEq, reduceIte, reduceCtorEq]
  clear K' hK
  simp only [go_sem, Nat.reduceLT, Nat.reduceAdd, Nat.reduceEqDiff, Nat.reduceSub, Nat.reduceMul, Nat.reduceBEq, reduceIte, reduceCtorEq]
  repeat refine cl_seq ?_
  refine cl_rs hΓ [0,3,5,6] [[3, 0]] fun K' hK => ?_
  simp only [go_sem, Nat.reduceLT, Nat.reduceAdd, Nat.reduceEqDiff, Nat.reduceSub, Nat.reduceMul, Nat.reduceBEq, reduceIte, reduceCtorEq, hadd, joinV]
  repeat (refine ⟨by first | exact Bool.or_not_self _ | exact Bool.not_or_self _ | exact fun _ => by decide | exact fun h => ⟨h, by decide⟩ | omega | (simp only [decide_eq_true_eq]; omega) | exact xD | exact fun h => ⟨h, xD⟩ | exact xDD | exact fun h => ⟨h, xDD⟩ | exact ⟨_, rfl⟩ | exact fun h => ⟨h, _, rfl⟩ | exact ⟨_, _, rfl⟩ | exact fun h => ⟨h, _, _, rfl⟩ | exact fun h => ⟨h, _, _, _, rfl⟩ | exact ⟨_, _, _, _, rfl⟩ | exact fun h => ⟨h, _, _, _, _, rfl⟩ | exact ⟨[_, _], rfl⟩ | (simp; done) | (simp_all; done) | (simp_all; omega), ?_⟩)
  refine hK _ ?_ ?_
  · simp only [go_sem, Nat.reduceLT, Nat.reduceAdd, Nat.reduceEqDiff, Nat.reduceSub, Nat.reduceMul, Nat.reduceBEq, reduceIte, reduceCtorEq, hadd, joinV]
  clear K' hK
  simp only [go_sem, Nat.reduceLT, Nat.reduceAdd, Nat.reduceEqDiff, Nat.reduceSub, Nat.reduceMul, Nat.reduceBEq, reduceIte, reduceCtorEq, hadd, joinV]
  repeat refine cl_seq ?_
  refine cl_rs hΓ [0,3,5,6,7,8] [[3, 0]] fun K' hK => ?_
  simp only [go_sem, Nat.reduceLT, Nat.reduceAdd, Nat.reduceEqDiff, Nat.reduceSub, Nat.reduceMul, Nat.reduceBEq, reduceIte, reduceCtorEq, hadd, joinV]
  repeat (refine ⟨by first | exact Bool.or_not_self _ | exact Bool.not_or_self _ | exact fun _ => by decide | exact fun h => ⟨h, by decide⟩ | omega | (simp only [decide_eq_true_eq]; omega) | exact xD | exact fun h => ⟨h, xD⟩ | exact xDD | exact fun h => ⟨h, xDD⟩ | exact ⟨_, rfl⟩ | exact fun h => ⟨h, _, rfl⟩ | exact ⟨_, _, rfl⟩ | exact fun h => ⟨h, _, _, rfl⟩ | exact fun h => ⟨h, _, _, _, rfl⟩ | exact ⟨_, _, _, _, rfl⟩ | exact fun h => ⟨h, _, _, _, _, rfl⟩ | exact ⟨[_, _], rfl⟩ | (simp; done) | (simp_all; done) | (simp_all; omega), ?_⟩)
  refine hK _ ?_ ?_
  · simp only [go_sem, Nat.reduceLT, Nat.reduceAdd, Nat.reduceEqDiff, Nat.reduceSub, Nat.reduceMul, Nat.reduceBEq, reduceIte, reduceCtorEq, hadd, joinV]
  clear K' hK
  simp only [go_sem, Nat.reduceLT, Nat.reduceAdd, Nat.reduceEqDiff, Nat.reduceSub, Nat.reduceMul, Nat.reduceBEq, reduceIte, reduceCtorEq, hadd, joinV]
  repeat refine cl_seq ?_
  refine cl_rs hΓ [0,3,5,6,7,8,9,10] [[3, 0]] fun K' hK => ?_
  simp only [go_sem, Nat.reduceLT, Nat.reduceAdd, Nat.reduceEqDiff, Nat.reduceSub, Nat.reduceMul, Nat.reduceBEq, reduceIte, reduceCtorEq, sDates_app, datesV]
  repeat (refine ⟨by first | exact Bool.or_not_self _ | exact Bool.not_or_self _ | exact fun _ => by decide | exact fun h => ⟨h, by decide⟩ | omega | (simp only [decide_eq_true_eq]; omega) | exact xD | exact fun h => ⟨h, xD⟩ | exact xDD | exact fun h => ⟨h, xDD⟩ | exact ⟨_, rfl⟩ | exact fun h => ⟨h, _, rfl⟩ | exact ⟨_, _, rfl⟩ | exact fun h => ⟨h, _, _, rfl⟩ | exact fun h => ⟨h, _, _, _, rfl⟩ | exact ⟨_, _, _, _, rfl⟩ | exact fun h => ⟨h, _, _, _, _, rfl⟩ | exact ⟨[_, _], rfl⟩ | (simp; done) | (simp_all; done) | (simp_all; omega), ?_⟩)
  refine hK _ ?_ ?_
  · simp only [go_sem, Nat.reduceLT, Nat.reduceAdd, Nat.reduceEqDiff, Nat.reduceSub, Nat.reduceMul, Nat.reduceBEq, reduceIte, reduceCtorEq, sDates_app, datesV]
  clear K' hK
  simp only [go_sem, Nat.reduceLT, Nat.reduceAdd, Nat.reduceEqDiff, Nat.reduceSub, Nat.reduceMul, Nat.reduceBEq, reduceIte, reduceCtorEq, sDates_app, datesV]
  repeat refine cl_seq ?_
  refine cl_rs hΓ [0,3,5,6,7,8,9,10,11,12] [[3, 0]] fun K' hK => ?_
  simp only [go_sem, Nat.reduceLT, Nat.reduceAdd, Nat.reduceEqDiff, Nat.reduceSub, Nat.reduceMul, Nat.reduceBEq, reduceIte, reduceCtorEq, sDates_app, datesV]
  repeat (refine ⟨by first | exact Bool.or_not_self _ | exact Bool.not_or_self _ | exact fun _ => by decide | exact fun h => ⟨h, by decide⟩ | omega | (simp only [decide_eq_true_eq]; omega) | exact xD | exact fun h => ⟨h, xD⟩ | exact xDD | exact fun h => ⟨h, xDD⟩ | exact ⟨_, rfl⟩ | exact fun h => ⟨h, _, rfl⟩ | exact ⟨_, _, rfl⟩ | exact fun h => ⟨h, _, _, rfl⟩ | exact fun h => ⟨h, _, _, _, rfl⟩ | exact ⟨_, _, _, _, rfl⟩ | exact fun h => ⟨h, _, _, _, _, rfl⟩ | exact ⟨[_, _], rfl⟩ | (simp; done) | (simp_all; done) | (simp_all; omega), ?_⟩)
  refine hK _ ?_ ?_
  · simp only [go_sem, Nat.reduceLT, Nat.reduceAdd, Nat.reduceEqDiff, Nat.reduceSub, Nat.reduceMul, Nat.reduceBEq, reduceIte, reduceCtorEq, sDates_app, datesV]
  clear K' hK
  simp only [go_sem, Nat.reduceLT, Nat.reduceAdd, Nat.reduceEqDiff, Nat.reduceSub, Nat.reduceMul, Nat.reduceBEq, reduceIte, reduceCtorEq, sDates_app, datesV]
  repeat refine cl_seq ?_
  refine cl_ds hΓ hP [[], [], [0, 1], [0, 1, 2], [0, 1, 2, 3], [0, 1, 2, 3], [0, 1, 2, 3, 4, 5], [0, 1, 2, 3, 4, 5, 6], [0, 1, 2, 3, 4, 5, 6, 7], [0, 1, 2, 3, 4, 5, 6, 7, 8], [0, 1, 2, 3, 4, 5, 6, 7, 8], [0, 1, 2, 3, 4, 5, 6, 7, 8, 9, 10], [0, 1, 2, 3, 4, 5, 6, 7, 8, 9, 10, 11], [0, 1, 2, 3, 4, 5, 6, 7, 8, 9, 10, 11, 12], [0, 1, 2, 3, 4, 5, 6, 7, 8, 9, 10, 11, 12, 13], [0, 1, 2, 3, 4, 5, 6, 7, 8, 9, 10, 11, 12, 13], [0, 1, 2, 3, 4, 5, 6, 7, 8, 9, 10, 11, 12, 13, 14, 15], [0, 1, 2, 3, 4, 5, 6, 7, 8, 9, 10, 11, 12, 13, 14, 15, 16], [0, 1, 2, 3, 4, 5, 6, 7, 8, 9, 10, 11, 12, 13, 14, 15, 16, 17], [0, 1, 2, 3, 4, 5, 6, 7, 8, 9, 10, 11, 12, 13, 14, 15, 16, 17, 18], [0, 1, 2, 3, 4, 5, 6, 7, 8, 9, 10, 11, 12, 13, 14, 15, 16, 17, 18, 19], [0, 1, 2, 3, 4, 5, 6, 7, 8, 9, 10, 11, 12, 13, 14, 15, 16, 17, 18], [0, 1, 2, 3, 4, 5, 6, 7, 8, 9, 10, 11, 12, 13, 14, 15, 16, 17, 18, 19, 20, 21], [0, 1, 2, 3, 4, 5, 6, 7, 8, 9, 10, 11, 12, 13, 14, 15, 16, 17, 18, 19, 20, 21, 22], [0, 1, 2, 3, 4, 5, 6, 7, 8, 9, 10, 11, 12, 13, 14, 15, 16, 17, 18, 19, 20, 21, 22, 23], [0, 1, 2, 3, 4, 5, 6, 7, 8, 9, 10, 11, 12, 13, 14, 15, 16, 17, 18, 19, 20, 21, 22, 23, 24], [0, 1, 2, 3, 4, 5, 6, 7, 8, 9, 10, 11, 12, 13, 14, 15, 16, 17, 18, 19, 20, 21, 22, 23, 24, 25], [0, 1, 2, 3, 4, 5, 6, 7, 8, 9, 10, 11, 12, 13, 14, 15, 16, 17, 18, 19, 20, 21, 22, 23, 24, 25, 26], [0, 1, 2, 3, 4, 5, 6, 7, 8, 9, 10, 11, 12, 13, 14, 15, 16, 17, 18, 19, 20, 21, 22, 23, 24, 25], [0, 1, 2, 3, 4, 5, 6, 7, 8, 9, 10, 11, 12, 13, 14, 15, 16, 17, 18, 19, 20, 21, 22, 23, 24, 25, 26, 27, 28], [0, 1, 2, 3, 4, 5, 6, 7, 8, 9, 10, 11, 12, 13, 14, 15, 16, 17, 18, 19, 20, 21, 22, 23, 24, 25, 26, 27, 28, 29], [0, 1, 2, 3, 4, 5, 6, 7, 8, 9, 10, 11, 12, 13, 14, 15, 16, 17, 18, 19, 20, 21, 22, 23, 24, 25, 26, 27, 28, 29, 30], [0, 1, 2, 3, 4, 5, 6, 7, 8, 9, 10, 11, 12, 13, 14, 15, 16, 17, 18, 19, 20, 21, 22, 23, 24, 25, 26, 27, 28, 29, 30, 31], [0, 1, 2, 3, 4, 5, 6, 7, 8, 9, 10, 11, 12, 13, 14, 15, 16, 17, 18, 19, 20, 21, 22, 23, 24, 25, 26, 27, 28, 29, 30, 31, 32], [0, 1, 2, 3, 4, 5, 6, 7, 8, 9, 10, 11, 12, 13, 14, 15, 16, 17, 18, 19, 20, 21, 22, 23, 24, 25, 26, 27, 28, 29, 30, 31, 32, 33], [0, 1, 2, 3, 4, 5, 6, 7, 8, 9, 10, 11, 12, 13, 14, 15, 16, 17, 18, 19, 20, 21, 22, 23, 24, 25, 26, 27, 28, 29, 30, 31, 32, 33, 34]] [4] [] (by kernel_rfl) fun K' hK => ?_
  simp only [go_sem, Nat.reduceLT, Nat.reduceAdd, Nat.reduceEqDiff, Nat.reduceSub, Nat.reduceMul, Nat.reduceBEq, reduceIte, reduceCtorEq, sSameD_app, sSameI_app, hchk, sChk_app, sRChk_app, decide_true, beq_self_eq_true]
  repeat (refine ⟨by first | exact Bool.or_not_self _ | exact Bool.not_or_self _ | exact fun _ => by decide | exact fun h => ⟨h, by decide⟩ | omega | (simp only [decide_eq_true_eq]; omega) | exact xD | exact fun h => ⟨h, xD⟩ | exact xDD | exact fun h => ⟨h, xDD⟩ | exact ⟨_, rfl⟩ | exact fun h => ⟨h, _, rfl⟩ | exact ⟨_, _, rfl⟩ | exact fun h => ⟨h, _, _, rfl⟩ | exact fun h => ⟨h, _, _, _, rfl⟩ | exact ⟨_, _, _, _, rfl⟩ | exact fun h => ⟨h, _, _, _, _, rfl⟩ | exact ⟨[_, _], rfl⟩ | (simp; done) | (simp_all; done) | (simp_all; omega), ?_⟩)
  first | refine ⟨by rfl, ?_⟩ | skip
  refine hK _ ?_ ?_
  · simp only [go_sem, Nat.reduceLT, Nat.reduceAdd, Nat.reduceEqDiff, Nat.reduceSub, Nat.reduceMul, Nat.reduceBEq, reduceIte, reduceCtorEq, sSameD_app, sSameI_app, hchk, sChk_app, sRChk_app, decide_true, beq_self_eq_true]
  clear K' hK
  simp only [go_sem, Nat.reduceLT, Nat.reduceAdd, Nat.reduceEqDiff, Nat.reduceSub, Nat.reduceMul, Nat.reduceBEq, reduceIte, reduceCtorEq, sSameD_app, sSameI_app, hchk, sChk_app, sRChk_app, decide_true, beq_self_eq_true]
  refine cl_ret ?_
  simp only [go_sem, Nat.reduceLT, Nat.reduceAdd, Nat.reduceEqDiff, Nat.reduceSub, Nat.reduceMul, Nat.reduceBEq, reduceIte, reduceCtorEq]
end Go.Eng
/- Join, said plainly: what is joined of one valid list, in any parts and any order, is that list. -/
namespace Go.Eng
open Go Go.Proofs

theorem ltD_irr {a : Deed} : ¬ ltD a a := by unfold ltD; omega
theorem cmpD_self (a : Deed) : cmpD a a = 0 := cmpD_eq.2 ⟨rfl, rfl⟩
theorem uniq_of {l : List Deed} (hs : l.Pairwise ltD) {a b : Deed} (ha : a ∈ l) (hb : b ∈ l) (h : cmpD a b = 0) : a = b := by
  obtain ⟨i, hi, rfl⟩ := List.getElem_of_mem ha
  obtain ⟨j, hj, rfl⟩ := List.getElem_of_mem hb
  have h0 := cmpD_eq.1 h
  have hp := List.pairwise_iff_getElem.1 hs
  rcases Nat.lt_trichotomy i j with h1 | h1 | h1
  · have := hp i j hi hj h1; unfold ltD at this; omega
  · subst h1; rfl
  · have := hp j i hj hi h1; unfold ltD at this; omega
theorem atD_mem : ∀ {l : List Deed} {x y : Deed}, atD l x = some y → y ∈ l ∧ cmpD y x = 0
  | [], x, y, h => by cases h
  | a :: r, x, y, h => by
    unfold atD at h
    split at h
    · have := atD_mem h; exact ⟨by simp [this.1], this.2⟩
    · split at h
      · cases h; exact ⟨by simp, by assumption⟩
      · cases h
theorem mem_insD_old : ∀ {l : List Deed} {x y : Deed}, y ∈ l → y ∈ insD l x
  | [], x, y, h => by simp at h
  | a :: r, x, y, h => by
    unfold insD
    split
    · rcases List.mem_cons.1 h with h | h
      · simp [h]
      · simp [mem_insD_old h]
    · split
      · exact h
      · exact List.mem_cons_of_mem _ h
theorem mem_insD_new : ∀ {l : List Deed} {x : Deed}, (∀ y ∈ l, cmpD y x = 0 → y = x) → x ∈ insD l x
  | [], x, _ => by simp [insD]
  | a :: r, x, h => by
    unfold insD
    split
    · exact List.mem_cons_of_mem _ (mem_insD_new fun y hy => h y (by simp [hy]))
    · split
      · rename_i hc; rw [h a (by simp) hc]; simp
      · simp
theorem sorted_ext : ∀ {a b : List Deed}, a.Pairwise ltD → b.Pairwise ltD → (∀ y, y ∈ a ↔ y ∈ b) → a = b
  | [], [], _, _, _ => rfl
  | [], y :: b, _, _, h => by have := (h y).2 (by simp); simp at this
  | x :: a, [], _, _, h => by have := (h x).1 (by simp); simp at this
  | x :: a, y :: b, ha, hb, h => by
    rw [List.pairwise_cons] at ha hb
    have hxy : x = y := by
      have h1 := (h x).1 (by simp)
      have h2 := (h y).2 (by simp)
      rcases List.mem_cons.1 h1 with h1 | h1
      · exact h1
      · rcases List.mem_cons.1 h2 with h2 | h2
        · exact h2.symm
        · exact (ltD_irr (ltD_trans (ha.1 y h2) (hb.1 x h1))).elim
    subst hxy
    congr 1
    refine sorted_ext ha.2 hb.2 fun z => ?_
    have hz := h z
    constructor
    · intro hm
      rcases List.mem_cons.1 (hz.1 (List.mem_cons_of_mem _ hm)) with e | h1
      · subst e; exact (ltD_irr (ha.1 z hm)).elim
      · exact h1
    · intro hm
      rcases List.mem_cons.1 (hz.2 (List.mem_cons_of_mem _ hm)) with e | h1
      · subst e; exact (ltD_irr (hb.1 z hm)).elim
      · exact h1
theorem sorted_len : ∀ {l s : List Deed}, l.Pairwise ltD → s.Pairwise ltD → (∀ y ∈ s, y ∈ l) → s.length ≤ l.length
  | _, [], _, _, _ => by simp
  | [], b :: t, _, _, h => by have := h b (by simp); simp at this
  | a :: r, b :: t, hl, hs, h => by
    rw [List.pairwise_cons] at hl hs
    by_cases e : b = a
    · subst e
      have := sorted_len hl.2 hs.2 fun y hy => by
        rcases List.mem_cons.1 (h y (by simp [hy])) with e | h1
        · subst e; exact (ltD_irr (hs.1 y hy)).elim
        · exact h1
      simp only [List.length_cons]; omega
    · have hb : b ∈ r := by
        rcases List.mem_cons.1 (h b (by simp)) with e' | h1
        · exact (e e').elim
        · exact h1
      have := sorted_len (s := b :: t) hl.2 (List.pairwise_cons.2 hs) fun y hy => by
        rcases List.mem_cons.1 (h y hy) with e' | h1
        · subst e'
          rcases List.mem_cons.1 hy with h2 | h2
          · exact (e h2.symm).elim
          · exact (ltD_irr (ltD_trans (hl.1 b hb) (hs.1 y h2))).elim
        · exact h1
      simp only [List.length_cons] at this ⊢; omega

def insAll (out ys : List Deed) : List Deed := ys.foldl insD out
theorem insAll_ok {l : List Deed} (hl : l.Pairwise ltD) : ∀ {ys out : List Deed}, out.Pairwise ltD → (∀ y ∈ out, y ∈ l) → (∀ y ∈ ys, y ∈ l) →
    (insAll out ys).Pairwise ltD ∧ ∀ y, y ∈ insAll out ys ↔ y ∈ out ∨ y ∈ ys
  | [], out, ho, _, _ => ⟨ho, fun y => by simp [insAll]⟩
  | d :: r, out, ho, h1, h2 => by
    have hd := h2 d (by simp)
    have ih := insAll_ok (l := l) hl (ys := r) (out := insD out d) (insD_sorted ho) (fun y hy => by
      rcases mem_insD hy with rfl | hy
      · exact hd
      · exact h1 y hy) fun y hy => h2 y (by simp [hy])
    refine ⟨ih.1, fun y => ?_⟩
    show y ∈ insAll (insD out d) r ↔ _
    rw [ih.2 y]
    constructor
    · rintro (h | h)
      · rcases mem_insD h with rfl | h
        · exact .inr (by simp)
        · exact .inl h
      · exact .inr (by simp [h])
    · rintro (h | h)
      · exact .inl (mem_insD_old h)
      · rcases List.mem_cons.1 h with rfl | h
        · exact .inl (mem_insD_new fun z hz hc => uniq_of hl (h1 z hz) hd hc)
        · exact .inr h
theorem joinL_sub {l : List Deed} (hl : okL l) : ∀ {ys out : List Deed}, out.Pairwise ltD → (∀ y ∈ out, y ∈ l) → (∀ y ∈ ys, y ∈ l) → joinL isDeedB out ys = (insAll out ys, 0)
  | [], out, ho, h1, _ => by
    rw [joinL_nil, if_neg]
    · rfl
    · have := sorted_len hl.1 ho h1
      have := hl.2.2
      omega
  | d :: r, out, ho, h1, h2 => by
    have hd := h2 d (by simp)
    have hc : clashD out d = false := by
      unfold clashD
      cases h : atD out d with
      | none => rfl
      | some y =>
        have := atD_mem h
        simp [uniq_of hl.1 (h1 y this.1) hd this.2]
    show (if isDeedB d = false then ([], 10) else if clashD out d = true then ([], 12) else joinL isDeedB (insD out d) r) = _
    rw [if_neg (by simp [hl.2.1 d hd]), if_neg (by simp [hc])]
    exact joinL_sub hl (insD_sorted ho) (fun y hy => by
      rcases mem_insD hy with rfl | hy
      · exact hd
      · exact h1 y hy) fun y hy => h2 y (by simp [hy])
theorem okL_sub {l s : List Deed} (hl : okL l) (hs : s.Pairwise ltD) (h : ∀ y ∈ s, y ∈ l) : okL s :=
  ⟨hs, fun d hd => hl.2.1 d (h d hd), by have := sorted_len hl.1 hs h; have := hl.2.2; omega⟩
theorem joinR_sub {l a b : List Deed} (hl : okL l) (ha : a.Pairwise ltD) (h1 : ∀ y ∈ a, y ∈ l) (h2 : ∀ y ∈ b, y ∈ l) : joinR a b = (insAll a b, 0) := by
  unfold joinR
  rw [if_pos (check_zero.2 (okL_sub hl ha h1)), joinL_sub hl ha h1 h2]
theorem insAll_all {l a b : List Deed} (hl : okL l) (ha : a.Pairwise ltD) (h1 : ∀ y ∈ a, y ∈ l) (h2 : ∀ y ∈ b, y ∈ l) (h3 : ∀ y ∈ l, y ∈ a ∨ y ∈ b) : insAll a b = l := by
  have h := insAll_ok hl.1 ha h1 h2
  refine sorted_ext h.1 hl.1 fun y => ?_
  rw [h.2 y]
  constructor
  · rintro (h | h)
    · exact h1 y h
    · exact h2 y h
  · exact h3 y
theorem insAll_sub {l a b : List Deed} (hl : okL l) (ha : a.Pairwise ltD) (h1 : ∀ y ∈ a, y ∈ l) (h2 : ∀ y ∈ b, y ∈ l) : (insAll a b).Pairwise ltD ∧ ∀ y ∈ insAll a b, y ∈ l := by
  have h := insAll_ok hl.1 ha h1 h2
  refine ⟨h.1, fun y hy => ?_⟩
  rcases (h.2 y).1 hy with h | h
  · exact h1 y h
  · exact h2 y h
end Go.Eng
/- The engine's text of rows built in place that are the frame's own (and may grow). -/
namespace Go.Eng
open Go

def aBuildM (P : Program) (obj : Name → Option O) (t : Name) (T : TypeId) (n : Nat) (parts : List (Nat × D)) : R :=
  match tElem P T with
  | some (e, sz, _) =>
    ⟨parts.map (·.1) = List.range n ∧ (frzL (frz 4) obj (parts.map (·.2))).ok ∧ (∀ x ∈ (frzL (frz 4) obj (parts.map (·.2))).xs, x.cells.length = sz ∧ x.okc = true) ∧
        n * sz ≤ 16777216 ∧ sz ≠ 0 ∧ (tZero P e).isSome = true ∧ 0 < n ∧ (frzL (frz 4) obj (parts.map (·.2))).obj (nmO t) = none,
      .msl (nmO t) n, upd (frzL (frz 4) obj (parts.map (·.2))).obj (nmO t) (some (.arr sz (frzL (frz 4) obj (parts.map (·.2))).xs))⟩
  | none => .bad obj

theorem s_buildM {P : Program} {G : Ghost} {φ : Name → Loc} {m : Mem} {σ : S} {a : Act} {w : World} (hC : Conc G φ m σ a w) {t : Name} {T : TypeId} {n : Nat} {parts : List (Nat × D)} {vals : Array (Nat × Value)}
    (he : parts.map (·.1) = vals.toList.map (·.1)) (hr : ∀ (k : Nat) (p : Nat × D) (q : Nat × Value), parts[k]? = some p → vals.toList[k]? = some q → RepD φ σ.obj m p.2 q.2)
    (hok : (aBuildM P σ.obj t T n parts).ok) :
    ∃ v w', (Instr.buildSlice T n vals).run P w = .ok v w' ∧ Done G σ a (aBuildM P σ.obj t T n parts) v w' := by
  unfold aBuildM at hok ⊢
  split at hok
  · rename_i e sz by_ hT
    obtain ⟨hu, i, hi, hs, _⟩ := tElem_spec hT
    have hsize : (sizeOf e).run P w = .ok sz w := by simp [sizeOf, typeInfo, hi, hs]
    obtain ⟨h1, h2, h3, h4, h5, h6, h7, h8⟩ := hok
    obtain ⟨z, hz⟩ := Option.isSome_iff_exists.1 h6
    have hlen : vals.toList.length = n := by
      have := congrArg List.length (he.symm.trans h1)
      simpa using this
    have hplen : parts.length = n := by
      have := congrArg List.length h1
      simpa using this
    obtain ⟨m1, a1, a2, a3, a4, a5, _⟩ := frzL_ok (frz_ok 4) (parts.map (·.2)) hC (vals.toList.map (·.2)) (by simp [hplen]; simpa using hlen.symm)
      (fun k h h' => by
        simp only [List.length_map] at h h'
        simp only [List.getElem_map]
        exact hr k _ _ (List.getElem?_eq_getElem h) (List.getElem?_eq_getElem h')) h2
    have a4' : (frzL (frz 4) σ.obj (parts.map (·.2))).xs.length = n := by rw [a4]; simpa using hplen
    obtain ⟨us', b1, b2, b3, b4⟩ := fill_consec sz vals.toList 0 ((Array.range (n * sz)).map (z.cells[· % z.cells.size]!))
      (by rw [← he, h1, hlen]; simp)
      (fun q hq => by
        obtain ⟨k, hk, rfl⟩ := List.mem_iff_getElem.1 hq
        have h8 := a5 k (by rw [a4']; omega) (by simpa using hk)
        have h9 := (h3 _ (List.getElem_mem (show k < _ by rw [a4']; omega))).1
        rw [← h9]
        simpa using h8.cells.symm) (by simp [hlen])
    have hx' := Ext.new (φ := φ) h8 ⟨w.heap.size, 0, n, false, none⟩ (.arr sz (frzL (frz 4) σ.obj (parts.map (·.2))).xs)
    refine ⟨.slice (some ⟨w.heap.size, 0, none⟩) n n, { w with heap := w.heap.push (.cells us' e) }, ?_, ?_⟩
    · simp only [Instr.buildSlice, Sem.run_bind, run_underlying hu, Result.andThen_ok, hsize]
      have hne : ¬ n * sz = 0 := by have := Nat.mul_pos h7 (Nat.pos_of_ne_zero h5); omega
      simp only [Sem.run_ite, Sem.run_bind, if_neg hne, run_zero hz, Result.andThen_ok, Sem.run_pure, b1, if_neg (show ¬ n * sz > 2 ^ 24 by omega)]
      rfl
    · refine ⟨upd φ (nmO t) ⟨w.heap.size, 0, n, false, none⟩, m1, a2.chg (nmO t) _ ⟨w.heap.size, 0, n, false, none⟩ hx' ⟨rfl, rfl, rfl, by show w.heap.size ≤ (w.heap.push _).size; simp⟩
        (fun b hb _ => heap_push_lt hb) (fun _ => .inl (Nat.le_refl _)) ?_, ?_⟩
      · refine .inr ⟨rfl, by rw [a4']; exact Nat.le_refl _, by show n ≤ maxLen; unfold maxLen; have := Nat.le_mul_of_pos_right n (Nat.pos_of_ne_zero h5); omega,
          fun i hi => (h3 _ (List.getElem_mem hi)).1, fun i hi x hx => ?_, us', e, (0, 0), heap_push_new, rfl, ?_, fun i j hi hj => ?_⟩
        · have hi' : i < vals.toList.length := by omega
          exact (a5 i hi (by simpa using hi')).ones (h3 _ (List.getElem_mem hi)).2 x hx
        · rw [b2]; simp
        · have hi' : i < vals.toList.length := by omega
          have h9 := (h3 _ (List.getElem_mem hi)).1
          have := b4 i j hi' (by omega)
          simp only [Nat.zero_add] at this
          have h8 := a5 i hi (by simpa using hi')
          have hcs : j < vals.toList[i].2.cells.size := by
            have := h8.cells
            simp only [List.getElem_map] at this
            omega
          rw [Array.getElem?_eq_getElem hcs] at this
          rw [Nat.zero_add]
          refine ⟨_, this, ?_⟩
          have h10 := h8.cell j hj (by simpa using hcs)
          simpa using h10
      · refine .msl _ _ _ ⟨_, _, upd_same _ _ _, rfl, by rw [a4']; exact Nat.le_refl _, fun _ => ?_⟩ rfl
        rw [upd_same]
        unfold Loc.slice
        simp
  · exact hok.elim

/-- The operations, with rows of the frame's own. -/
def aopM (P : Program) (Γ : FuncId → Option Spec) (σ : S) (t : Name) : Op → R
  | .buildSlice T n ps => aBuildM P σ.obj t T n (ps.toList.map fun p => (p.1, opD σ p.2))
  | o => aop P Γ σ t o
theorem aopM_sound {P : Program} {Γ : FuncId → Option Spec} (hΓ : ∀ f s, Γ f = some s → SSound P f s) {G : Ghost} {φ : Name → Loc} {m : Mem} {σ : S} {a : Act} {w : World} (hC : Conc G φ m σ a w)
    (o : Oper) (t : Name) (ht : ∃ k, t = k :: σ.pre) (hc : opConds σ o.op = true) (hok : (aopM P Γ σ t o.op).ok) : OpGoal P G σ a w o (aopM P Γ σ t o.op) := by
  cases ho : o.op with
  | buildSlice T n ps =>
    rw [ho] at hc hok
    obtain ⟨h1, h2⟩ := parts_rep hC (ps := ps) (fun p hp => mem_conds hc (by simp only [Op.operands, List.mem_map]; exact ⟨p, hp, rfl⟩))
    exact goal_done (s := Instr.buildSlice T n (ps.map fun (i, x) => (i, a.eval x))) (by simp [execOp, ho]) (s_buildM hC h1 h2 hok)
  | _ =>
    rw [ho] at hok
    have h := aop_sound hΓ hC o t ht hc (by rw [ho]; exact hok)
    rw [ho] at h
    exact h
theorem aopM_noDefer {P : Program} {Γ : FuncId → Option Spec} {σ : S} {t : Name} {op : Op} (h : (aopM P Γ σ t op).ok) : ∀ c, op ≠ .defer c := by
  intro c e
  subst e
  exact aop_noDefer (P := P) (Γ := Γ) (σ := σ) (t := t) h c rfl
def stepM (P : Program) (Γ : FuncId → Option Spec) (ops : Array Oper) (σ : S) (o : Oper) : S :=
  ⟨σ.nt, match o.dst with
    | some t => upd σ.env t ⟨gOf ops σ o, (aopM P Γ σ ((σ.base + t) :: σ.pre) o.op).d⟩
    | none => σ.env, if gOf ops σ o = true then (aopM P Γ σ ((σ.base + o.dst.getD 0) :: σ.pre) o.op).obj else σ.obj, σ.pre, σ.base⟩
def oblM (P : Program) (Γ : FuncId → Option Spec) (ops : Array Oper) (σ : S) (o : Oper) : Prop :=
  gOk ops σ o ∧ (match o.dst with | some t => t < σ.nt | none => True) ∧ (gOf ops σ o = true → opConds σ o.op = true ∧ (aopM P Γ σ ((σ.base + o.dst.getD 0) :: σ.pre) o.op).ok)
def RegM (P : Program) (Γ : FuncId → Option Spec) (ops : Array Oper) : List Oper → S → (S → Prop) → Prop
  | [], σ, K => K σ
  | o :: r, σ, K => oblM P Γ ops σ o ∧ RegM P Γ ops r (stepM P Γ ops σ o) K

theorem stepM_sound {P : Program} {Γ : FuncId → Option Spec} (hΓ : ∀ f s, Γ f = some s → SSound P f s) {G : Ghost} {φ : Name → Loc} {m : Mem} {σ : S} {a : Act} {w : World} (hC : Conc G φ m σ a w)
    {ops : Array Oper} {i : Nat} {o : Oper} (hi : ops[i]? = some o) (h : oblM P Γ ops σ o) {K : Act → World → Prop} {Q : Exit → Act → World → Prop}
    (hK : ∀ a' w' φ' m', Conc G φ' m' (stepM P Γ ops σ o) a' w' → K a' w') : wpOpIn (fen G.rd) 0 P ops Q i K a w := by
  obtain ⟨h1, h2, h3⟩ := h
  unfold wpOpIn
  simp only [hi, wanted_of hC h1]
  cases hg : gOf ops σ o with
  | true =>
    simp only [if_true]
    obtain ⟨h4, h5⟩ := h3 hg
    refine ⟨fun _ _ => trivial, ?_⟩
    rw [Oper.semAt_eq _ _ _ (aopM_noDefer h5)]
    refine (aopM_sound hΓ hC o ((σ.base + o.dst.getD 0) :: σ.pre) ⟨_, rfl⟩ h4 h5 _ _ fun v φ' m' w' hC' hr => hK _ _ φ' m' ?_)
    unfold stepM
    rw [hg]
    cases hd : o.dst with
    | none => simpa [hd, Act.put] using hC'
    | some t =>
      simp only [hd] at h2
      simp only [hd, Option.getD_some, if_true] at hC' hr ⊢
      refine hC'.put (e := ⟨true, _⟩) h2 ?_
      unfold RepE
      simpa using hr
  | false =>
    simp only [Bool.false_eq_true, if_false]
    refine ⟨fun _ _ => trivial, hK _ _ φ m ?_⟩
    unfold stepM
    rw [hg]
    cases hd : o.dst with
    | none => simpa [hd, Act.put] using hC
    | some t =>
      simp only [hd] at h2
      simp only [Bool.false_eq_true, if_false]
      refine hC.put (e := ⟨false, _⟩) h2 ?_
      unfold RepE
      simp
theorem regM_sound {P : Program} {Γ : FuncId → Option Spec} (hΓ : ∀ f s, Γ f = some s → SSound P f s) {G : Ghost} {ops : Array Oper} {Q : Exit → Act → World → Prop} {K : S → Prop} :
    ∀ (n k : Nat) {φ : Name → Loc} {m : Mem} {σ : S} {a : Act} {w : World}, k + n = ops.size → Conc G φ m σ a w → RegM P Γ ops (ops.toList.drop k) σ K →
      (∀ a' w' φ' m' σ', Conc G φ' m' σ' a' w' → K σ' → Q .normal a' w') → wpOpsIn (fen G.rd) 0 P ops Q (List.range' k n) a w
  | 0, k, φ, m, σ, a, w, hk, hC, hr, hQ => by
    have : ops.toList.drop k = [] := List.drop_eq_nil_of_le (by simp; omega)
    rw [this] at hr
    exact hQ _ _ φ m σ hC hr
  | n + 1, k, φ, m, σ, a, w, hk, hC, hr, hQ => by
    have hlt : k < ops.size := by omega
    have hd : ops.toList.drop k = ops[k] :: ops.toList.drop (k + 1) := by
      rw [List.drop_eq_getElem_cons (by simpa using hlt)]; simp
    rw [hd] at hr
    obtain ⟨h1, h2⟩ := hr
    rw [List.range'_succ, wpOpsIn_cons]
    exact stepM_sound hΓ hC (Array.getElem?_eq_getElem hlt) h1 fun a' w' φ' m' hC' => regM_sound hΓ n (k + 1) (by omega) hC' h2 hQ
theorem cw_regionM {P : Program} {Γ : FuncId → Option Spec} (hΓ : ∀ f s, Γ f = some s → SSound P f s) {id : Nat} {l : List Oper} {σ : S} {K : Exit → S → Prop}
    (h : ∀ K' : S → Prop, (∀ σ', K .normal σ' → K' σ') → RegM P Γ l.toArray l σ K') : CW P (.region id l.toArray false) σ K := by
  intro G φ m a w hC
  refine wpIn_region ?_
  rw [List.range_eq_range']
  refine regM_sound hΓ (ops := l.toArray) l.toArray.size 0 (by simp) hC (K := K .normal) (by simpa using h (K .normal) fun _ h => h) fun a' w' φ' m' σ' hC' hK => ⟨φ', m', σ', hC', hK⟩
theorem cl_rsM {P : Program} {Γ : FuncId → Option Spec} (hΓ : ∀ f s, Γ f = some s → SSound P f s) {id : Nat} {l : List Oper} {c : Code} {r : List Code} {σ : S} {K : Exit → S → Prop} (ks : List Nat) (ns : List Name)
    (h : ∀ K' : S → Prop, (∀ σ', clS ks ns σ' → CL P (c :: r) (keepS ks ns σ') K → K' σ') → RegM P Γ l.toArray l σ K') : CL P (.region id l.toArray false :: c :: r) σ K :=
  cw_regionM hΓ fun K' hK => h K' fun σ' hc hy => hK σ' (cw_keep ks ns hc hy)
theorem cl_rM {P : Program} {Γ : FuncId → Option Spec} (hΓ : ∀ f s, Γ f = some s → SSound P f s) {id : Nat} {l : List Oper} {σ : S} {K : Exit → S → Prop}
    (h : ∀ K' : S → Prop, (∀ σ', K .normal σ' → K' σ') → RegM P Γ l.toArray l σ K') : CL P [.region id l.toArray false] σ K :=
  cw_regionM hΓ fun K' hK => h K' fun σ' hc => hK σ' hc
attribute [go_sem] RegM oblM stepM aopM aBuildM List.cons_beq_cons
end Go.Eng
namespace Go.Eng
open Go Go.Proofs

@[go_sem] theorem ta23 : tAgg Tryz.prog 23 = some (true, 2) := by kernel_rfl
@[go_sem] theorem tr23 : tArr Tryz.prog 23 = some (2, 1, false) := by kernel_rfl
@[go_sem] theorem tp23 : tPlaces Tryz.prog 23 = some [(0, 1), (1, 1)] := by kernel_rfl
@[go_sem] theorem tz23 : tZero Tryz.prog 23 = some (.agg #[(.int .i64 0), (.int .i64 0)]) := by kernel_rfl
def modI (n m : Int) : Int := Int.tmod (IntKind.i64.wrap (Int.tmod n m + m)) m
def pMod : PSpec := ⟨fun xs => ∃ a b, xs = [vInt a, vInt b] ∧ b ≠ 0, fun xs => match xs with | [.int _ a, .int _ b] => vInt (modI a b) | _ => .bool false, true⟩
set_option maxRecDepth 10000 in
theorem s18 : PSound Tryz.prog 18 pMod := by
  refine psoundB (rs := [.tmp 4]) Tryz.func18 Tryz.ntmps18 (by rfl) (by kernel_rfl) (by decide) (by rintro _ xs ⟨a, b, rfl, _⟩; rfl) ⟨_, rfl, ?_⟩
  rintro xs ⟨a, b, rfl, hb⟩ _
  refine ⟨Nat.le_of_ble_eq_true rfl, ?_⟩
  have hΓ := @no_sound Tryz.prog
  repeat refine cl_seq ?_
  refine cl_rs hΓ [0,1] [] fun K' hK => ?_
  simp only [go_sem, Nat.reduceLT, Nat.reduceAdd, Nat.reduceEqDiff, Nat.reduceSub, Nat.reduceMul, Nat.reduceBEq, reduceIte, reduceCtorEq]
  repeat (refine ⟨by first | exact Bool.or_not_self _ | exact Bool.not_or_self _ | exact fun _ => by decide | exact fun h => ⟨h, by decide⟩ | omega | (simp only [decide_eq_true_eq]; omega) | exact xD | exact fun h => ⟨h, xD⟩ | exact xDD | exact fun h => ⟨h, xDD⟩ | exact ⟨_, rfl⟩ | exact fun h => ⟨h, _, rfl⟩ | exact ⟨_, _, rfl⟩ | exact fun h => ⟨h, _, _, rfl⟩ | exact fun h => ⟨h, _, _, _, rfl⟩ | exact ⟨_, _, _, _, rfl⟩ | exact fun h => ⟨h, _, _, _, _, rfl⟩ | exact ⟨[_, _], rfl⟩ | (simp; done) | (simp_all; done) | (simp_all; omega), ?_⟩)
  refine hK _ ?_ ?_
  · simp only [go_sem, Nat.reduceLT, Nat.reduceAdd, Nat.reduceEqDiff, Nat.reduceSub, Nat.reduceMul, Nat.reduceBEq, reduceIte, reduceCtorEq]
  clear K' hK
  simp only [go_sem, Nat.reduceLT, Nat.reduceAdd, Nat.reduceEqDiff, Nat.reduceSub, Nat.reduceMul, Nat.reduceBEq, reduceIte, reduceCtorEq]
  repeat refine cl_seq ?_
  refine cl_rs hΓ [4] [] fun K' hK => ?_
  simp only [go_sem, Nat.reduceLT, Nat.reduceAdd, Nat.reduceEqDiff, Nat.reduceSub, Nat.reduceMul, Nat.reduceBEq, reduceIte, reduceCtorEq]
  repeat (refine ⟨by first | exact Bool.or_not_self _ | exact Bool.not_or_self _ | exact fun _ => by decide | exact fun h => ⟨h, by decide⟩ | omega | (simp only [decide_eq_true_eq]; omega) | exact xD | exact fun h => ⟨h, xD⟩ | exact xDD | exact fun h => ⟨h, xDD⟩ | exact ⟨_, rfl⟩ | exact fun h => ⟨h, _, rfl⟩ | exact ⟨_, _, rfl⟩ | exact fun h => ⟨h, _, _, rfl⟩ | exact fun h => ⟨h, _, _, _, rfl⟩ | exact ⟨_, _, _, _, rfl⟩ | exact fun h => ⟨h, _, _, _, _, rfl⟩ | exact ⟨[_, _], rfl⟩ | (simp; done) | (simp_all; done) | (simp_all; omega), ?_⟩)
  refine hK _ ?_ ?_
  · simp only [go_sem, Nat.reduceLT, Nat.reduceAdd, Nat.reduceEqDiff, Nat.reduceSub, Nat.reduceMul, Nat.reduceBEq, reduceIte, reduceCtorEq]
  clear K' hK
  simp only [go_sem, Nat.reduceLT, Nat.reduceAdd, Nat.reduceEqDiff, Nat.reduceSub, Nat.reduceMul, Nat.reduceBEq, reduceIte, reduceCtorEq]
  refine cl_ret ?_
  simp only [go_sem, Nat.reduceLT, Nat.reduceAdd, Nat.reduceEqDiff, Nat.reduceSub, Nat.reduceMul, Nat.reduceBEq, reduceIte, reduceCtorEq]
  rfl
noncomputable def sMod : Spec := pMod.toSpec
theorem sMod_app {obj : Name → Option O} {t : Name} {a b : Int} (hb : b ≠ 0) : sMod.app obj t [.v (vInt a), .v (vInt b)] = ⟨True, .v (vInt (modI a b)), obj⟩ := by
  simp only [sMod, pMod, PSpec.toSpec, frzL, frz]
  congr 1
  simp only [eq_iff_iff, iff_true]
  exact ⟨⟨trivial, trivial, trivial⟩, a, b, rfl, hb⟩
noncomputable def K14 : FuncId → Option Spec := fun f => match f with
  | 18 => some sMod
  | f => K13 f
theorem K14_sound : ∀ f s, K14 f = some s → SSound Tryz.prog f s := by
  intro f s h
  unfold K14 at h
  split at h
  · cases h; exact s18.sound
  · exact K13_sound _ _ h
@[go_sem] theorem K14_18 : K14 18 = some sMod := rfl
@[go_sem] theorem K14_19 : K14 19 = some sAdd := rfl
@[go_sem] theorem K14_13 : K14 13 = some sJoin := rfl
@[go_sem] theorem K14_14 : K14 14 = some sJoin := rfl
@[go_sem] theorem K14_15 : K14 15 = some sSameD := rfl
@[go_sem] theorem K14_16 : K14 16 = some sRChk := rfl
@[go_sem] theorem K14_17 : K14 17 = some (⟨fun xs => xs = [], fun _ => .bool true, true⟩ : PSpec).toSpec := rfl
theorem sJoin_nil {obj : Name → Option O} {t : Name} {m : List Deed} : sJoin.app obj t [.nilsl, .v (.sl (m.map encD))] = ⟨True, .v (joinV (joinR [] m)), obj⟩ := by
  have h := sJoin_app (obj := obj) (t := t) (l := []) (m := m)
  rw [← h]
  rfl
end Go.Eng
namespace Go.Eng
open Go Go.Proofs

set_option maxRecDepth 100000 in
set_option maxHeartbeats 8000000 in
theorem w3 (l more : List Deed) (a b : Int) :
    ∃ c, Tryz.f3.body = some c ∧ CL Tryz.prog [c] (mkS 150 [0] (fun _ => none) (argsL 0 [.sl (l.map encD), .sl (more.map encD), .agg [vInt a, vInt b]]) []) (retK Tryz.prog [.tmp 6] (.bool true)) := by
  refine ⟨_, rfl, ?_⟩
  have hΓ := K14_sound
  have hP := mixedK
  repeat refine cl_seq ?_
  refine cl_rs hΓ [0,1,5] [[5, 0]] fun K' hK => ?_
  simp only [go_sem, Nat.reduceLT, Nat.reduceAdd, Nat.reduceEqDiff, Nat.reduceSub, Nat.reduceMul, Nat.reduceBEq, reduceIte, reduceCtorEq]
  repeat (refine ⟨by first | exact Bool.or_not_self _ | exact Bool.not_or_self _ | exact fun _ => by decide | exact fun h => ⟨h, by decide⟩ | omega | (simp only [decide_eq_true_eq]; omega) | exact xD | exact fun h => ⟨h, xD⟩ | exact xDD | exact fun h => ⟨h, xDD⟩ | exact ⟨_, rfl⟩ | exact fun h => ⟨h, _, rfl⟩ | exact ⟨_, _, rfl⟩ | exact fun h => ⟨h, _, _, rfl⟩ | exact fun h => ⟨h, _, _, _, rfl⟩ | exact ⟨_, _, _, _, rfl⟩ | exact fun h => ⟨h, _, _, _, _, rfl⟩ | exact ⟨[_, _], rfl⟩ | (simp; done) | (simp_all; done) | (simp_all; omega), ?_⟩)
  refine hK _ ?_ ?_
  · simp only [go_sem, Nat.reduceLT, Nat.reduceAdd, Nat.reduceEqDiff, Nat.reduceSub, Nat.reduceMul, Nat.reduceBEq, reduceIte, reduceCtorEq]
  clear K' hK
  simp only [go_sem, Nat.reduceLT, Nat.reduceAdd, Nat.reduceEqDiff, Nat.reduceSub, Nat.reduceMul, Nat.reduceBEq, reduceIte, reduceCtorEq]
  repeat refine cl_seq ?_
  refine cl_rs hΓ [0,1,5,7,8] [[5, 0]] fun K' hK => ?_
  simp only [go_sem, Nat.reduceLT, Nat.reduceAdd, Nat.reduceEqDiff, Nat.reduceSub, Nat.reduceMul, Nat.reduceBEq, reduceIte, reduceCtorEq, sJoin_app, joinV]
  repeat (refine ⟨by first | exact Bool.or_not_self _ | exact Bool.not_or_self _ | exact fun _ => by decide | exact fun h => ⟨h, by decide⟩ | omega | (simp only [decide_eq_true_eq]; omega) | exact xD | exact fun h => ⟨h, xD⟩ | exact xDD | exact fun h => ⟨h, xDD⟩ | exact ⟨_, rfl⟩ | exact fun h => ⟨h, _, rfl⟩ | exact ⟨_, _, rfl⟩ | exact fun h => ⟨h, _, _, rfl⟩ | exact fun h => ⟨h, _, _, _, rfl⟩ | exact ⟨_, _, _, _, rfl⟩ | exact fun h => ⟨h, _, _, _, _, rfl⟩ | exact ⟨[_, _], rfl⟩ | (simp; done) | (simp_all; done) | (simp_all; omega), ?_⟩)
  refine hK _ ?_ ?_
  · simp only [go_sem, Nat.reduceLT, Nat.reduceAdd, Nat.reduceEqDiff, Nat.reduceSub, Nat.reduceMul, Nat.reduceBEq, reduceIte, reduceCtorEq, sJoin_app, joinV]
  clear K' hK
  simp only [go_sem, Nat.reduceLT, Nat.reduceAdd, Nat.reduceEqDiff, Nat.reduceSub, Nat.reduceMul, Nat.reduceBEq, reduceIte, reduceCtorEq, sJoin_app, joinV]
  repeat refine cl_seq ?_
  refine cl_rs hΓ [0,5,7,8,9,10] [[5, 0]] fun K' hK => ?_
  simp only [go_sem, Nat.reduceLT, Nat.reduceAdd, Nat.reduceEqDiff, Nat.reduceSub, Nat.reduceMul, Nat.reduceBEq, reduceIte, reduceCtorEq, sJoin_app, joinV]
  repeat (refine ⟨by first | exact Bool.or_not_self _ | exact Bool.not_or_self _ | exact fun _ => by decide | exact fun h => ⟨h, by decide⟩ | omega | (simp only [decide_eq_true_eq]; omega) | exact xD | exact fun h => ⟨h, xD⟩ | exact xDD | exact fun h => ⟨h, xDD⟩ | exact ⟨_, rfl⟩ | exact fun h => ⟨h, _, rfl⟩ | exact ⟨_, _, rfl⟩ | exact fun h => ⟨h, _, _, rfl⟩ | exact fun h => ⟨h, _, _, _, rfl⟩ | exact ⟨_, _, _, _, rfl⟩ | exact fun h => ⟨h, _, _, _, _, rfl⟩ | exact ⟨[_, _], rfl⟩ | (simp; done) | (simp_all; done) | (simp_all; omega), ?_⟩)
  refine hK _ ?_ ?_
  · simp only [go_sem, Nat.reduceLT, Nat.reduceAdd, Nat.reduceEqDiff, Nat.reduceSub, Nat.reduceMul, Nat.reduceBEq, reduceIte, reduceCtorEq, sJoin_app, joinV]
  clear K' hK
  simp only [go_sem, Nat.reduceLT, Nat.reduceAdd, Nat.reduceEqDiff, Nat.reduceSub, Nat.reduceMul, Nat.reduceBEq, reduceIte, reduceCtorEq, sJoin_app, joinV]
  repeat refine cl_seq ?_
  refine cl_rs hΓ [0,5,48] [[5, 0]] fun K' hK => ?_
  simp only [go_sem, Nat.reduceLT, Nat.reduceAdd, Nat.reduceEqDiff, Nat.reduceSub, Nat.reduceMul, Nat.reduceBEq, reduceIte, reduceCtorEq, sSameD_app, decide_true, bne_self_eq_false]
  repeat (refine ⟨by first | exact Bool.or_not_self _ | exact Bool.not_or_self _ | exact fun _ => by decide | exact fun h => ⟨h, by decide⟩ | omega | (simp only [decide_eq_true_eq]; omega) | exact xD | exact fun h => ⟨h, xD⟩ | exact xDD | exact fun h => ⟨h, xDD⟩ | exact ⟨_, rfl⟩ | exact fun h => ⟨h, _, rfl⟩ | exact ⟨_, _, rfl⟩ | exact fun h => ⟨h, _, _, rfl⟩ | exact fun h => ⟨h, _, _, _, rfl⟩ | exact ⟨_, _, _, _, rfl⟩ | exact fun h => ⟨h, _, _, _, _, rfl⟩ | exact ⟨[_, _], rfl⟩ | (simp; done) | (simp_all; done) | (simp_all; omega), ?_⟩)
  refine hK _ ?_ ?_
  · simp only [go_sem, Nat.reduceLT, Nat.reduceAdd, Nat.reduceEqDiff, Nat.reduceSub, Nat.reduceMul, Nat.reduceBEq, reduceIte, reduceCtorEq, sSameD_app, decide_true, bne_self_eq_false]
  clear K' hK
  simp only [go_sem, Nat.reduceLT, Nat.reduceAdd, Nat.reduceEqDiff, Nat.reduceSub, Nat.reduceMul, Nat.reduceBEq, reduceIte, reduceCtorEq, sSameD_app, decide_true, bne_self_eq_false]
  repeat refine cl_seq ?_
  refine cl_cond rfl rfl (fun hb => ?_) (fun hb => ?_)
  · simp at hb
  clear hb
  repeat refine cl_seq ?_
  refine cl_skip ?_
  repeat refine cl_seq ?_
  refine cl_rs hΓ [0,5,51] [[5, 0]] fun K' hK => ?_
  simp only [go_sem, Nat.reduceLT, Nat.reduceAdd, Nat.reduceEqDiff, Nat.reduceSub, Nat.reduceMul, Nat.reduceBEq, reduceIte, reduceCtorEq, sRChk_app]
  repeat (refine ⟨by first | exact Bool.or_not_self _ | exact Bool.not_or_self _ | exact fun _ => by decide | exact fun h => ⟨h, by decide⟩ | omega | (simp only [decide_eq_true_eq]; omega) | exact xD | exact fun h => ⟨h, xD⟩ | exact xDD | exact fun h => ⟨h, xDD⟩ | exact ⟨_, rfl⟩ | exact fun h => ⟨h, _, rfl⟩ | exact ⟨_, _, rfl⟩ | exact fun h => ⟨h, _, _, rfl⟩ | exact fun h => ⟨h, _, _, _, rfl⟩ | exact ⟨_, _, _, _, rfl⟩ | exact fun h => ⟨h, _, _, _, _, rfl⟩ | exact ⟨[_, _], rfl⟩ | (simp; done) | (simp_all; done) | (simp_all; omega), ?_⟩)
  refine hK _ ?_ ?_
  · simp only [go_sem, Nat.reduceLT, Nat.reduceAdd, Nat.reduceEqDiff, Nat.reduceSub, Nat.reduceMul, Nat.reduceBEq, reduceIte, reduceCtorEq, sRChk_app]
  clear K' hK
  simp only [go_sem, Nat.reduceLT, Nat.reduceAdd, Nat.reduceEqDiff, Nat.reduceSub, Nat.reduceMul, Nat.reduceBEq, reduceIte, reduceCtorEq, sRChk_app]
  repeat refine cl_seq ?_
  refine cl_cond rfl rfl (fun hb => ?_) (fun hb => ?_)
  · repeat refine cl_seq ?_
    repeat refine cl_seq ?_
    refine cl_rs hΓ [6] [] fun K' hK => ?_
    simp only [go_sem, Nat.reduceLT, Nat.reduceAdd, Nat.reduceEqDiff, Nat.reduceSub, Nat.reduceMul, Nat.reduceBEq, reduceIte, reduceCtorEq]
    repeat (refine ⟨by first | exact Bool.or_not_self _ | exact Bool.not_or_self _ | exact fun _ => by decide | exact fun h => ⟨h, by decide⟩ | omega | (simp only [decide_eq_true_eq]; omega) | exact xD | exact fun h => ⟨h, xD⟩ | exact xDD | exact fun h => ⟨h, xDD⟩ | exact ⟨_, rfl⟩ | exact fun h => ⟨h, _, rfl⟩ | exact ⟨_, _, rfl⟩ | exact fun h => ⟨h, _, _, rfl⟩ | exact fun h => ⟨h, _, _, _, rfl⟩ | exact ⟨_, _, _, _, rfl⟩ | exact fun h => ⟨h, _, _, _, _, rfl⟩ | exact ⟨[_, _], rfl⟩ | (simp; done) | (simp_all; done) | (simp_all; omega), ?_⟩)
    refine hK _ ?_ ?_
    · simp only [go_sem, Nat.reduceLT, Nat.reduceAdd, Nat.reduceEqDiff, Nat.reduceSub, Nat.reduceMul, Nat.reduceBEq, reduceIte, reduceCtorEq]
    clear K' hK
    simp only [go_sem, Nat.reduceLT, Nat.reduceAdd, Nat.reduceEqDiff, Nat.reduceSub, Nat.reduceMul, Nat.reduceBEq, reduceIte, reduceCtorEq]
    refine cl_ret ?_
    simp only [go_sem, Nat.reduceLT, Nat.reduceAdd, Nat.reduceEqDiff, Nat.reduceSub, Nat.reduceMul, Nat.reduceBEq, reduceIte, reduceCtorEq]
  have hz : checkI l = 0 := by simpa using hb
  have hok := check_zero.1 hz
  have hl60 := hok.2.2
  have hl : l.length ≤ maxLen := by unfold maxLen; omega
  clear hb
  repeat refine cl_seq ?_
  refine cl_skip ?_
  repeat refine cl_seq ?_
  refine cl_rs hΓ [0,5,11] [[5, 0]] fun K' hK => ?_
  simp only [go_sem, Nat.reduceLT, Nat.reduceAdd, Nat.reduceEqDiff, Nat.reduceSub, Nat.reduceMul, Nat.reduceBEq, reduceIte, reduceCtorEq]
  repeat (refine ⟨by first | exact Bool.or_not_self _ | exact Bool.not_or_self _ | exact fun _ => by decide | exact fun h => ⟨h, by decide⟩ | omega | (simp only [decide_eq_true_eq]; omega) | exact xD | exact fun h => ⟨h, xD⟩ | exact xDD | exact fun h => ⟨h, xDD⟩ | exact ⟨_, rfl⟩ | exact fun h => ⟨h, _, rfl⟩ | exact ⟨_, _, rfl⟩ | exact fun h => ⟨h, _, _, rfl⟩ | exact fun h => ⟨h, _, _, _, rfl⟩ | exact ⟨_, _, _, _, rfl⟩ | exact fun h => ⟨h, _, _, _, _, rfl⟩ | exact ⟨[_, _], rfl⟩ | (simp; done) | (simp_all; done) | (simp_all; omega), ?_⟩)
  refine hK _ ?_ ?_
  · simp only [go_sem, Nat.reduceLT, Nat.reduceAdd, Nat.reduceEqDiff, Nat.reduceSub, Nat.reduceMul, Nat.reduceBEq, reduceIte, reduceCtorEq]
  clear K' hK
  simp only [go_sem, Nat.reduceLT, Nat.reduceAdd, Nat.reduceEqDiff, Nat.reduceSub, Nat.reduceMul, Nat.reduceBEq, reduceIte, reduceCtorEq]
  refine cl_weakM (σ' := mkS 150 [0] (fun _ => none) [(0, ⟨true, .v (.sl (l.map encD))⟩), (5, ⟨true, .ref [5, 0] 0⟩), (11, ⟨true, .msl [73, 0] 0⟩)] [([5, 0], .box [.v (vInt a), .v (vInt b)]), ([73, 0], .arr 9 [])]) (weakM_ghostk 11 [73, 0] 9 (by simp only [go_sem, Nat.reduceLT, Nat.reduceAdd, Nat.reduceEqDiff, Nat.reduceSub, Nat.reduceMul, Nat.reduceBEq, reduceIte, reduceCtorEq]) (by simp only [go_sem, Nat.reduceLT, Nat.reduceAdd, Nat.reduceEqDiff, Nat.reduceSub, Nat.reduceMul, Nat.reduceBEq, reduceIte, reduceCtorEq]) [0, 5, 11] [[5, 0], [73, 0]] ?_ ?_) ?_
  · simp only [go_sem, Nat.reduceLT, Nat.reduceAdd, Nat.reduceEqDiff, Nat.reduceSub, Nat.reduceMul, Nat.reduceBEq, reduceIte, reduceCtorEq]
  · simp only [go_sem, Nat.reduceLT, Nat.reduceAdd, Nat.reduceEqDiff, Nat.reduceSub, Nat.reduceMul, Nat.reduceBEq, reduceIte, reduceCtorEq]
  repeat refine cl_seq ?_
  refine cl_rs hΓ [0,5,11,12] [[5, 0], [73, 0]] fun K' hK => ?_
  simp only [go_sem, Nat.reduceLT, Nat.reduceAdd, Nat.reduceEqDiff, Nat.reduceSub, Nat.reduceMul, Nat.reduceBEq, reduceIte, reduceCtorEq]
  repeat (refine ⟨by first | exact Bool.or_not_self _ | exact Bool.not_or_self _ | exact fun _ => by decide | exact fun h => ⟨h, by decide⟩ | omega | (simp only [decide_eq_true_eq]; omega) | exact xD | exact fun h => ⟨h, xD⟩ | exact xDD | exact fun h => ⟨h, xDD⟩ | exact ⟨_, rfl⟩ | exact fun h => ⟨h, _, rfl⟩ | exact ⟨_, _, rfl⟩ | exact fun h => ⟨h, _, _, rfl⟩ | exact fun h => ⟨h, _, _, _, rfl⟩ | exact ⟨_, _, _, _, rfl⟩ | exact fun h => ⟨h, _, _, _, _, rfl⟩ | exact ⟨[_, _], rfl⟩ | (simp; done) | (simp_all; done) | (simp_all; omega), ?_⟩)
  refine hK _ ?_ ?_
  · simp only [go_sem, Nat.reduceLT, Nat.reduceAdd, Nat.reduceEqDiff, Nat.reduceSub, Nat.reduceMul, Nat.reduceBEq, reduceIte, reduceCtorEq]
  clear K' hK
  simp only [go_sem, Nat.reduceLT, Nat.reduceAdd, Nat.reduceEqDiff, Nat.reduceSub, Nat.reduceMul, Nat.reduceBEq, reduceIte, reduceCtorEq]
  refine cl_weakM (σ' := mkS 150 [0] (fun _ => none) [(0, ⟨true, .v (.sl (l.map encD))⟩), (5, ⟨true, .ref [5, 0] 0⟩), (11, ⟨true, .msl [73, 0] 0⟩), (12, ⟨true, .v (.sl [])⟩)] [([5, 0], .box [.v (vInt a), .v (vInt b)]), ([73, 0], .arr 9 [])]) (weakM_frzk 12 .nilsl (by simp only [go_sem, Nat.reduceLT, Nat.reduceAdd, Nat.reduceEqDiff, Nat.reduceSub, Nat.reduceMul, Nat.reduceBEq, reduceIte, reduceCtorEq]) (by simp only [go_sem, Nat.reduceLT, Nat.reduceAdd, Nat.reduceEqDiff, Nat.reduceSub, Nat.reduceMul, Nat.reduceBEq, reduceIte, reduceCtorEq]) [0, 5, 11, 12] [[5, 0], [73, 0]] ?_ ?_) ?_
  · simp only [go_sem, Nat.reduceLT, Nat.reduceAdd, Nat.reduceEqDiff, Nat.reduceSub, Nat.reduceMul, Nat.reduceBEq, reduceIte, reduceCtorEq]
  · simp only [go_sem, Nat.reduceLT, Nat.reduceAdd, Nat.reduceEqDiff, Nat.reduceSub, Nat.reduceMul, Nat.reduceBEq, reduceIte, reduceCtorEq]
  repeat refine cl_seq ?_
  refine cl_rs hΓ [0,5,11,12,53,54,55] [[5, 0], [73, 0]] fun K' hK => ?_
  simp only [go_sem, Nat.reduceLT, Nat.reduceAdd, Nat.reduceEqDiff, Nat.reduceSub, Nat.reduceMul, Nat.reduceBEq, reduceIte, reduceCtorEq]
  repeat (refine ⟨by first | exact Bool.or_not_self _ | exact Bool.not_or_self _ | exact fun _ => by decide | exact fun h => ⟨h, by decide⟩ | omega | (simp only [decide_eq_true_eq]; omega) | exact xD | exact fun h => ⟨h, xD⟩ | exact xDD | exact fun h => ⟨h, xDD⟩ | exact ⟨_, rfl⟩ | exact fun h => ⟨h, _, rfl⟩ | exact ⟨_, _, rfl⟩ | exact fun h => ⟨h, _, _, rfl⟩ | exact fun h => ⟨h, _, _, _, rfl⟩ | exact ⟨_, _, _, _, rfl⟩ | exact fun h => ⟨h, _, _, _, _, rfl⟩ | exact ⟨[_, _], rfl⟩ | (simp; done) | (simp_all; done) | (simp_all; omega), ?_⟩)
  refine hK _ ?_ ?_
  · simp only [go_sem, Nat.reduceLT, Nat.reduceAdd, Nat.reduceEqDiff, Nat.reduceSub, Nat.reduceMul, Nat.reduceBEq, reduceIte, reduceCtorEq]
  clear K' hK
  simp only [go_sem, Nat.reduceLT, Nat.reduceAdd, Nat.reduceEqDiff, Nat.reduceSub, Nat.reduceMul, Nat.reduceBEq, reduceIte, reduceCtorEq]
  repeat refine cl_seq ?_
  refine cl_block ?_
  repeat refine cl_seq ?_
  refine cl_loopM (fun i : Nat × List Deed × List Deed => [(11, ⟨true, .msl [73, 0] i.2.1.length⟩), (12, ⟨true, .v (.sl (i.2.2.map encD))⟩), (55, ⟨true, .v (vInt i.1)⟩)]) (fun i => [([73, 0], .arr 9 (i.2.1.map encD))]) (fun i => i.1 ≤ l.length ∧ (∀ d ∈ i.2.1, d ∈ l) ∧ (∀ d ∈ i.2.2, d ∈ l) ∧ (∀ j (h : j < l.length), j < i.1 → l[j] ∈ i.2.1 ∨ l[j] ∈ i.2.2) ∧ i.2.1.length ≤ i.1 ∧ i.2.2.length ≤ i.1) (fun i => l.length - i.1) (0, [], []) ?_ ?_ ?_
  · exact ⟨Nat.zero_le _, by simp, by simp, fun j h hj => by omega, by simp, by simp⟩
  · exact WeakM.refl _
  rintro ⟨i, x, y⟩ ⟨hi, hx, hy, hxy, hxl, hyl⟩
  simp only at hi hx hy hxy hxl hyl
  simp only [go_sem, Nat.reduceLT, Nat.reduceAdd, Nat.reduceEqDiff, Nat.reduceSub, Nat.reduceMul, Nat.reduceBEq, reduceIte, reduceCtorEq]
  repeat refine cl_seq ?_
  repeat refine cl_seq ?_
  refine cl_rs hΓ [0,5,11,12,53,54,55,56] [[5, 0], [73, 0]] fun K' hK => ?_
  simp only [go_sem, Nat.reduceLT, Nat.reduceAdd, Nat.reduceEqDiff, Nat.reduceSub, Nat.reduceMul, Nat.reduceBEq, reduceIte, reduceCtorEq]
  repeat (refine ⟨by first | exact Bool.or_not_self _ | exact Bool.not_or_self _ | exact fun _ => by decide | exact fun h => ⟨h, by decide⟩ | omega | (simp only [decide_eq_true_eq]; omega) | exact xD | exact fun h => ⟨h, xD⟩ | exact xDD | exact fun h => ⟨h, xDD⟩ | exact ⟨_, rfl⟩ | exact fun h => ⟨h, _, rfl⟩ | exact ⟨_, _, rfl⟩ | exact fun h => ⟨h, _, _, rfl⟩ | exact fun h => ⟨h, _, _, _, rfl⟩ | exact ⟨_, _, _, _, rfl⟩ | exact fun h => ⟨h, _, _, _, _, rfl⟩ | exact ⟨[_, _], rfl⟩ | (simp; done) | (simp_all; done) | (simp_all; omega), ?_⟩)
  refine hK _ ?_ ?_
  · simp only [go_sem, Nat.reduceLT, Nat.reduceAdd, Nat.reduceEqDiff, Nat.reduceSub, Nat.reduceMul, Nat.reduceBEq, reduceIte, reduceCtorEq]
  clear K' hK
  simp only [go_sem, Nat.reduceLT, Nat.reduceAdd, Nat.reduceEqDiff, Nat.reduceSub, Nat.reduceMul, Nat.reduceBEq, reduceIte, reduceCtorEq]
  repeat refine cl_seq ?_
  refine cl_cond rfl rfl (fun hb => ?_) (fun hb => ?_)
  · have hlt : i < l.length := by simpa using hb
    have hlt' : (i : Int) < l.length := by omega
    have hmem : l[i] ∈ l := List.getElem_mem hlt
    clear hb
    repeat refine cl_seq ?_
    refine cl_skip ?_
    repeat refine cl_seq ?_
    refine cl_block ?_
    repeat refine cl_seq ?_
    repeat refine cl_seq ?_
    refine cl_rs hΓ [0,5,11,12,13,14,53,54,55] [[5, 0],[14, 0],[73, 0]] fun K' hK => ?_
    simp only [go_sem, Nat.reduceLT, Nat.reduceAdd, Nat.reduceEqDiff, Nat.reduceSub, Nat.reduceMul, Nat.reduceBEq, reduceIte, reduceCtorEq, map_getD hlt, Int.toNat_natCast, Int.natCast_nonneg, hlt']
    repeat (refine ⟨by first | exact Bool.or_not_self _ | exact Bool.not_or_self _ | exact fun _ => by decide | exact fun h => ⟨h, by decide⟩ | omega | (simp only [decide_eq_true_eq]; omega) | exact xD | exact fun h => ⟨h, xD⟩ | exact xDD | exact fun h => ⟨h, xDD⟩ | exact ⟨_, rfl⟩ | exact fun h => ⟨h, _, rfl⟩ | exact ⟨_, _, rfl⟩ | exact fun h => ⟨h, _, _, rfl⟩ | exact fun h => ⟨h, _, _, _, rfl⟩ | exact ⟨_, _, _, _, rfl⟩ | exact fun h => ⟨h, _, _, _, _, rfl⟩ | exact ⟨[_, _], rfl⟩ | (simp; done) | (simp_all; done) | (simp_all; omega), ?_⟩)
    refine hK _ ?_ ?_
    · simp only [go_sem, Nat.reduceLT, Nat.reduceAdd, Nat.reduceEqDiff, Nat.reduceSub, Nat.reduceMul, Nat.reduceBEq, reduceIte, reduceCtorEq, map_getD hlt, Int.toNat_natCast, Int.natCast_nonneg, hlt']
    clear K' hK
    simp only [go_sem, Nat.reduceLT, Nat.reduceAdd, Nat.reduceEqDiff, Nat.reduceSub, Nat.reduceMul, Nat.reduceBEq, reduceIte, reduceCtorEq, map_getD hlt, Int.toNat_natCast, Int.natCast_nonneg, hlt']
    have hm7 := fun (obj : Name → Option O) (t : Name) (n : Int) => sMod_app (obj := obj) (t := t) (a := n) (b := 7) (by decide)
    have hm3 := fun (obj : Name → Option O) (t : Name) (n : Int) => sMod_app (obj := obj) (t := t) (a := n) (b := 3) (by decide)
    repeat refine cl_seq ?_
    refine cl_ds hΓ hP [[], [0], [], [], [3], [3, 4], [2, 3, 4, 5], [0, 1, 2, 3, 4, 5, 6], [0, 1, 2, 3, 4, 5, 6, 7], [0, 1, 2, 3, 4, 5, 6, 7, 8]] [0,5,11,12,14,53,54,55,69] [[5, 0],[14, 0],[73, 0]] (by kernel_rfl) fun K' hK => ?_
    simp only [go_sem, Nat.reduceLT, Nat.reduceAdd, Nat.reduceEqDiff, Nat.reduceSub, Nat.reduceMul, Nat.reduceBEq, reduceIte, reduceCtorEq, hm7, hm3, Int.reduceToNat]
    repeat (refine ⟨by first | exact Bool.or_not_self _ | exact Bool.not_or_self _ | exact fun _ => by decide | exact fun h => ⟨h, by decide⟩ | omega | (simp only [decide_eq_true_eq]; omega) | exact xD | exact fun h => ⟨h, xD⟩ | exact xDD | exact fun h => ⟨h, xDD⟩ | exact ⟨_, rfl⟩ | exact fun h => ⟨h, _, rfl⟩ | exact ⟨_, _, rfl⟩ | exact fun h => ⟨h, _, _, rfl⟩ | exact fun h => ⟨h, _, _, _, rfl⟩ | exact ⟨_, _, _, _, rfl⟩ | exact fun h => ⟨h, _, _, _, _, rfl⟩ | exact ⟨[_, _], rfl⟩ | (simp; done) | (simp_all; done) | (simp_all; omega), ?_⟩)
    first | refine ⟨by rfl, ?_⟩ | skip
    refine hK _ ?_ ?_
    · simp only [go_sem, Nat.reduceLT, Nat.reduceAdd, Nat.reduceEqDiff, Nat.reduceSub, Nat.reduceMul, Nat.reduceBEq, reduceIte, reduceCtorEq, hm7, hm3, Int.reduceToNat]
    clear K' hK
    simp only [go_sem, Nat.reduceLT, Nat.reduceAdd, Nat.reduceEqDiff, Nat.reduceSub, Nat.reduceMul, Nat.reduceBEq, reduceIte, reduceCtorEq, hm7, hm3, Int.reduceToNat]
    repeat refine cl_seq ?_
    refine cl_cond rfl rfl (fun hb => ?_) (fun hb => ?_)
    · clear hb
      repeat refine cl_seq ?_
      refine cl_r hΓ fun K' hK => ?_
      simp only [go_sem, Nat.reduceLT, Nat.reduceAdd, Nat.reduceEqDiff, Nat.reduceSub, Nat.reduceMul, Nat.reduceBEq, reduceIte, reduceCtorEq, te22, tz35]
      repeat' apply And.intro
      all_goals first | rfl | omega | exact Int.le_refl _ | exact Bool.or_not_self _ | exact Bool.not_or_self _ | exact enc_okI _ | exact enc_ok _ | exact fun x hx => (enc_okI _ x hx).1 | exact fun x hx => (enc_ok _ x hx).1 | (simp only [List.length_take, List.length_append, List.length_map, List.length_drop, List.length_cons, List.length_nil]; done) | (simp only [List.length_take, List.length_append, List.length_map, List.length_drop, List.length_cons, List.length_nil]; omega) | (simp only [List.length_take, List.length_append, List.length_map, List.length_drop, List.length_cons, List.length_nil, maxLen]; omega) | (exact fun _ => by decide) | (exact fun h => ⟨h, by decide⟩) | (simp only [decide_eq_true_eq]; omega) | skip
      refine hK _ ?_
      clear K' hK
      simp only [go_sem, Nat.reduceLT, Nat.reduceAdd, Nat.reduceEqDiff, Nat.reduceSub, Nat.reduceMul, Nat.reduceBEq, reduceIte, reduceCtorEq]
      refine cl_keep [0,5,11,12,53,54,55] [[5, 0],[73, 0]] ?_ ?_
      · simp only [go_sem, Nat.reduceLT, Nat.reduceAdd, Nat.reduceEqDiff, Nat.reduceSub, Nat.reduceMul, Nat.reduceBEq, reduceIte, reduceCtorEq]
      simp only [go_sem, Nat.reduceLT, Nat.reduceAdd, Nat.reduceEqDiff, Nat.reduceSub, Nat.reduceMul, Nat.reduceBEq, reduceIte, reduceCtorEq]
      repeat refine cl_seq ?_
      refine cl_r hΓ fun K' hK => ?_
      simp only [go_sem, Nat.reduceLT, Nat.reduceAdd, Nat.reduceEqDiff, Nat.reduceSub, Nat.reduceMul, Nat.reduceBEq, reduceIte, reduceCtorEq]
      repeat (refine ⟨by first | exact Bool.or_not_self _ | exact Bool.not_or_self _ | exact fun _ => by decide | exact fun h => ⟨h, by decide⟩ | omega | (simp only [decide_eq_true_eq]; omega) | exact xD | exact fun h => ⟨h, xD⟩ | exact xDD | exact fun h => ⟨h, xDD⟩ | exact ⟨_, rfl⟩ | exact fun h => ⟨h, _, rfl⟩ | exact ⟨_, _, rfl⟩ | exact fun h => ⟨h, _, _, rfl⟩ | exact fun h => ⟨h, _, _, _, rfl⟩ | exact ⟨_, _, _, _, rfl⟩ | exact fun h => ⟨h, _, _, _, _, rfl⟩ | exact ⟨[_, _], rfl⟩ | (simp; done) | (simp_all; done) | (simp_all; omega), ?_⟩)
      refine hK _ ?_
      clear K' hK
      simp only [go_sem, Nat.reduceLT, Nat.reduceAdd, Nat.reduceEqDiff, Nat.reduceSub, Nat.reduceMul, Nat.reduceBEq, reduceIte, reduceCtorEq]
      refine ⟨(i + 1, x ++ [l[i]], y), ⟨by omega, fun d hd => ?_, hy, fun j h hj => ?_, by simp; omega, (show y.length ≤ i + 1 by omega)⟩, by omega, ?_⟩
      · rcases List.mem_append.1 hd with h | h
        · exact hx d h
        · simp at h; subst h; exact hmem
      · rcases Nat.lt_succ_iff_lt_or_eq.1 hj with h' | h'
        · rcases hxy j h h' with h2 | h2
          · exact .inl (List.mem_append_left _ h2)
          · exact .inr h2
        · subst h'; exact .inl (by simp)
      · refine Weak.toM ?_
        refine weak_eq [0,5,11,12,53,54,55] [[5, 0],[73, 0]] ?_ ?_
        · simp only [go_sem, Nat.reduceLT, Nat.reduceAdd, Nat.reduceEqDiff, Nat.reduceSub, Nat.reduceMul, Nat.reduceBEq, reduceIte, reduceCtorEq]
        · simp only [go_sem, Nat.reduceLT, Nat.reduceAdd, Nat.reduceEqDiff, Nat.reduceSub, Nat.reduceMul, Nat.reduceBEq, reduceIte, reduceCtorEq, wrap_succ hlt hl, Int.natCast_add, Int.natCast_one]
          all_goals simp [encD]
    · clear hb
      repeat refine cl_seq ?_
      refine cl_rM hΓ fun K' hK => ?_
      simp only [go_sem, Nat.reduceLT, Nat.reduceAdd, Nat.reduceEqDiff, Nat.reduceSub, Nat.reduceMul, Nat.reduceBEq, reduceIte, reduceCtorEq, te22, tz35]
      repeat' apply And.intro
      all_goals first | rfl | omega | exact Int.le_refl _ | exact Bool.or_not_self _ | exact Bool.not_or_self _ | exact enc_okI _ | exact enc_ok _ | exact fun x hx => (enc_okI _ x hx).1 | exact fun x hx => (enc_ok _ x hx).1 | (simp only [List.length_take, List.length_append, List.length_map, List.length_drop, List.length_cons, List.length_nil]; done) | (simp only [List.length_take, List.length_append, List.length_map, List.length_drop, List.length_cons, List.length_nil]; omega) | (simp only [List.length_take, List.length_append, List.length_map, List.length_drop, List.length_cons, List.length_nil, maxLen]; omega) | (exact fun _ => by decide) | (exact fun h => ⟨h, by decide⟩) | (simp only [decide_eq_true_eq]; omega) | skip
      refine hK _ ?_
      clear K' hK
      simp only [go_sem, Nat.reduceLT, Nat.reduceAdd, Nat.reduceEqDiff, Nat.reduceSub, Nat.reduceMul, Nat.reduceBEq, reduceIte, reduceCtorEq]
      refine cl_keep [0,5,11,12,53,54,55] [[5, 0],[73, 0],[75, 0]] ?_ ?_
      · simp only [go_sem, Nat.reduceLT, Nat.reduceAdd, Nat.reduceEqDiff, Nat.reduceSub, Nat.reduceMul, Nat.reduceBEq, reduceIte, reduceCtorEq]
      simp only [go_sem, Nat.reduceLT, Nat.reduceAdd, Nat.reduceEqDiff, Nat.reduceSub, Nat.reduceMul, Nat.reduceBEq, reduceIte, reduceCtorEq]
      repeat refine cl_seq ?_
      refine cl_r hΓ fun K' hK => ?_
      simp only [go_sem, Nat.reduceLT, Nat.reduceAdd, Nat.reduceEqDiff, Nat.reduceSub, Nat.reduceMul, Nat.reduceBEq, reduceIte, reduceCtorEq]
      repeat (refine ⟨by first | exact Bool.or_not_self _ | exact Bool.not_or_self _ | exact fun _ => by decide | exact fun h => ⟨h, by decide⟩ | omega | (simp only [decide_eq_true_eq]; omega) | exact xD | exact fun h => ⟨h, xD⟩ | exact xDD | exact fun h => ⟨h, xDD⟩ | exact ⟨_, rfl⟩ | exact fun h => ⟨h, _, rfl⟩ | exact ⟨_, _, rfl⟩ | exact fun h => ⟨h, _, _, rfl⟩ | exact fun h => ⟨h, _, _, _, rfl⟩ | exact ⟨_, _, _, _, rfl⟩ | exact fun h => ⟨h, _, _, _, _, rfl⟩ | exact ⟨[_, _], rfl⟩ | (simp; done) | (simp_all; done) | (simp_all; omega), ?_⟩)
      refine hK _ ?_
      clear K' hK
      simp only [go_sem, Nat.reduceLT, Nat.reduceAdd, Nat.reduceEqDiff, Nat.reduceSub, Nat.reduceMul, Nat.reduceBEq, reduceIte, reduceCtorEq]
      refine ⟨(i + 1, x, l[i] :: y), ⟨by omega, hx, fun d hd => ?_, fun j h hj => ?_, (show x.length ≤ i + 1 by omega), by simp; omega⟩, by omega, ?_⟩
      · rcases List.mem_cons.1 hd with h | h
        · subst h; exact hmem
        · exact hy d h
      · rcases Nat.lt_succ_iff_lt_or_eq.1 hj with h' | h'
        · rcases hxy j h h' with h2 | h2
          · exact .inl h2
          · exact .inr (List.mem_cons_of_mem _ h2)
        · subst h'; exact .inr (by simp)
      · refine weakM_frzk 12 (.msl [75, 0] (1 + y.length)) (by simp only [go_sem, Nat.reduceLT, Nat.reduceAdd, Nat.reduceEqDiff, Nat.reduceSub, Nat.reduceMul, Nat.reduceBEq, reduceIte, reduceCtorEq]) (by
          simp only [go_sem, Nat.reduceLT, Nat.reduceAdd, Nat.reduceEqDiff, Nat.reduceSub, Nat.reduceMul, Nat.reduceBEq, reduceIte, reduceCtorEq]
          all_goals first | omega | (simp; done) | (simp; omega)) [0,5,11,12,53,54,55] [[5, 0],[73, 0]] ?_ ?_
        · simp only [go_sem, Nat.reduceLT, Nat.reduceAdd, Nat.reduceEqDiff, Nat.reduceSub, Nat.reduceMul, Nat.reduceBEq, reduceIte, reduceCtorEq]
        · simp only [go_sem, Nat.reduceLT, Nat.reduceAdd, Nat.reduceEqDiff, Nat.reduceSub, Nat.reduceMul, Nat.reduceBEq, reduceIte, reduceCtorEq, wrap_succ hlt hl, Int.natCast_add, Int.natCast_one]
          all_goals simp [encD]
  · have hge : i = l.length := by
      have : ¬ (i : Int) < l.length := by simpa using hb
      omega
    subst hge
    clear hb
    have hall : ∀ d ∈ l, d ∈ y ∨ d ∈ x := fun d hd => by
      obtain ⟨j, hj, rfl⟩ := List.getElem_of_mem hd
      exact (hxy j hj hj).symm
    have hs0 : ([] : List Deed).Pairwise ltD := .nil
    have j1 : joinR [] y = (insAll [] y, 0) := joinR_sub hok hs0 (by simp) hy
    obtain ⟨s1, m1⟩ := insAll_sub hok hs0 (by simp) hy
    have j2 : joinR (insAll [] y) x = (l, 0) := by
      rw [joinR_sub hok s1 m1 hx, insAll_all hok s1 m1 hx]
      intro d hd
      rcases hall d hd with h | h
      · exact .inl (((insAll_ok hok.1 hs0 (by simp) hy).2 d).2 (.inr h))
      · exact .inr h
    have j5 : joinR (insAll [] x) y = (l, 0) := by
      obtain ⟨s2, m2⟩ := insAll_sub hok hs0 (by simp) hx
      rw [joinR_sub hok s2 m2 hy, insAll_all hok s2 m2 hy]
      intro d hd
      rcases hall d hd with h | h
      · exact .inr h
      · exact .inl (((insAll_ok hok.1 hs0 (by simp) hx).2 d).2 (.inr h))
    have j6 : joinR l y = (l, 0) := by
      rw [joinR_sub hok hok.1 (fun _ h => h) hy, insAll_all hok hok.1 (fun _ h => h) hy fun _ h => .inl h]
    have p1 := fun (obj : Name → Option O) (t : Name) => sJoin_nil (obj := obj) (t := t) (m := y)
    rw [j1] at p1
    have p2 := fun (obj : Name → Option O) (t : Name) => sJoin_app (obj := obj) (t := t) (l := insAll [] y) (m := x)
    rw [j2] at p2
    have p5 := fun (obj : Name → Option O) (t : Name) => sJoin_app (obj := obj) (t := t) (l := insAll [] x) (m := y)
    rw [j5] at p5
    have p6 := fun (obj : Name → Option O) (t : Name) => sJoin_app (obj := obj) (t := t) (l := l) (m := y)
    rw [j6] at p6
    repeat refine cl_seq ?_
    refine cl_exit ?_
    simp only [go_sem, Nat.reduceLT, Nat.reduceAdd, Nat.reduceEqDiff, Nat.reduceSub, Nat.reduceMul, Nat.reduceBEq, reduceIte, reduceCtorEq]
    refine cl_keep [0,11,12] [[73, 0]] ?_ ?_
    · simp only [go_sem, Nat.reduceLT, Nat.reduceAdd, Nat.reduceEqDiff, Nat.reduceSub, Nat.reduceMul, Nat.reduceBEq, reduceIte, reduceCtorEq]
    simp only [go_sem, Nat.reduceLT, Nat.reduceAdd, Nat.reduceEqDiff, Nat.reduceSub, Nat.reduceMul, Nat.reduceBEq, reduceIte, reduceCtorEq]
    refine cl_weakM (σ' := mkS 150 [0] (fun _ => none) [(0, ⟨true, .v (.sl (l.map encD))⟩), (11, ⟨true, .v (.sl (x.map encD))⟩), (12, ⟨true, .v (.sl (y.map encD))⟩)] []) (weakM_frzk 11 (.msl [73, 0] x.length) (by simp only [go_sem, Nat.reduceLT, Nat.reduceAdd, Nat.reduceEqDiff, Nat.reduceSub, Nat.reduceMul, Nat.reduceBEq, reduceIte, reduceCtorEq]) (by simp only [go_sem, Nat.reduceLT, Nat.reduceAdd, Nat.reduceEqDiff, Nat.reduceSub, Nat.reduceMul, Nat.reduceBEq, reduceIte, reduceCtorEq]) [0, 11, 12] [] ?_ ?_) ?_
    · simp only [go_sem, Nat.reduceLT, Nat.reduceAdd, Nat.reduceEqDiff, Nat.reduceSub, Nat.reduceMul, Nat.reduceBEq, reduceIte, reduceCtorEq]
    · simp only [go_sem, Nat.reduceLT, Nat.reduceAdd, Nat.reduceEqDiff, Nat.reduceSub, Nat.reduceMul, Nat.reduceBEq, reduceIte, reduceCtorEq]
    repeat refine cl_seq ?_
    refine cl_rs hΓ [0,11,12,15,16] [] fun K' hK => ?_
    simp only [go_sem, Nat.reduceLT, Nat.reduceAdd, Nat.reduceEqDiff, Nat.reduceSub, Nat.reduceMul, Nat.reduceBEq, reduceIte, reduceCtorEq, p1, joinV]
    repeat (refine ⟨by first | exact Bool.or_not_self _ | exact Bool.not_or_self _ | exact fun _ => by decide | exact fun h => ⟨h, by decide⟩ | omega | (simp only [decide_eq_true_eq]; omega) | exact xD | exact fun h => ⟨h, xD⟩ | exact xDD | exact fun h => ⟨h, xDD⟩ | exact ⟨_, rfl⟩ | exact fun h => ⟨h, _, rfl⟩ | exact ⟨_, _, rfl⟩ | exact fun h => ⟨h, _, _, rfl⟩ | exact fun h => ⟨h, _, _, _, rfl⟩ | exact ⟨_, _, _, _, rfl⟩ | exact fun h => ⟨h, _, _, _, _, rfl⟩ | exact ⟨[_, _], rfl⟩ | (simp; done) | (simp_all; done) | (simp_all; omega), ?_⟩)
    refine hK _ ?_ ?_
    · simp only [go_sem, Nat.reduceLT, Nat.reduceAdd, Nat.reduceEqDiff, Nat.reduceSub, Nat.reduceMul, Nat.reduceBEq, reduceIte, reduceCtorEq, p1, joinV]
    clear K' hK
    simp only [go_sem, Nat.reduceLT, Nat.reduceAdd, Nat.reduceEqDiff, Nat.reduceSub, Nat.reduceMul, Nat.reduceBEq, reduceIte, reduceCtorEq, p1, joinV]
    repeat refine cl_seq ?_
    refine cl_rs hΓ [0,11,12,16,17,18] [] fun K' hK => ?_
    simp only [go_sem, Nat.reduceLT, Nat.reduceAdd, Nat.reduceEqDiff, Nat.reduceSub, Nat.reduceMul, Nat.reduceBEq, reduceIte, reduceCtorEq, p2, joinV]
    repeat (refine ⟨by first | exact Bool.or_not_self _ | exact Bool.not_or_self _ | exact fun _ => by decide | exact fun h => ⟨h, by decide⟩ | omega | (simp only [decide_eq_true_eq]; omega) | exact xD | exact fun h => ⟨h, xD⟩ | exact xDD | exact fun h => ⟨h, xDD⟩ | exact ⟨_, rfl⟩ | exact fun h => ⟨h, _, rfl⟩ | exact ⟨_, _, rfl⟩ | exact fun h => ⟨h, _, _, rfl⟩ | exact fun h => ⟨h, _, _, _, rfl⟩ | exact ⟨_, _, _, _, rfl⟩ | exact fun h => ⟨h, _, _, _, _, rfl⟩ | exact ⟨[_, _], rfl⟩ | (simp; done) | (simp_all; done) | (simp_all; omega), ?_⟩)
    refine hK _ ?_ ?_
    · simp only [go_sem, Nat.reduceLT, Nat.reduceAdd, Nat.reduceEqDiff, Nat.reduceSub, Nat.reduceMul, Nat.reduceBEq, reduceIte, reduceCtorEq, p2, joinV]
    clear K' hK
    simp only [go_sem, Nat.reduceLT, Nat.reduceAdd, Nat.reduceEqDiff, Nat.reduceSub, Nat.reduceMul, Nat.reduceBEq, reduceIte, reduceCtorEq, p2, joinV]
    repeat refine cl_seq ?_
    refine cl_rs hΓ [0,11,12,16,17,18,19] [] fun K' hK => ?_
    simp only [go_sem, Nat.reduceLT, Nat.reduceAdd, Nat.reduceEqDiff, Nat.reduceSub, Nat.reduceMul, Nat.reduceBEq, reduceIte, reduceCtorEq]
    repeat (refine ⟨by first | exact Bool.or_not_self _ | exact Bool.not_or_self _ | exact fun _ => by decide | exact fun h => ⟨h, by decide⟩ | omega | (simp only [decide_eq_true_eq]; omega) | exact xD | exact fun h => ⟨h, xD⟩ | exact xDD | exact fun h => ⟨h, xDD⟩ | exact ⟨_, rfl⟩ | exact fun h => ⟨h, _, rfl⟩ | exact ⟨_, _, rfl⟩ | exact fun h => ⟨h, _, _, rfl⟩ | exact fun h => ⟨h, _, _, _, rfl⟩ | exact ⟨_, _, _, _, rfl⟩ | exact fun h => ⟨h, _, _, _, _, rfl⟩ | exact ⟨[_, _], rfl⟩ | (simp; done) | (simp_all; done) | (simp_all; omega), ?_⟩)
    refine hK _ ?_ ?_
    · simp only [go_sem, Nat.reduceLT, Nat.reduceAdd, Nat.reduceEqDiff, Nat.reduceSub, Nat.reduceMul, Nat.reduceBEq, reduceIte, reduceCtorEq]
    clear K' hK
    simp only [go_sem, Nat.reduceLT, Nat.reduceAdd, Nat.reduceEqDiff, Nat.reduceSub, Nat.reduceMul, Nat.reduceBEq, reduceIte, reduceCtorEq]
    refine cl_weakM (σ' := mkS 150 [0] (fun _ => none) [(0, ⟨true, .v (.sl (l.map encD))⟩), (11, ⟨true, .v (.sl (x.map encD))⟩), (12, ⟨true, .v (.sl (y.map encD))⟩), (16, ⟨true, .v (vInt 0)⟩), (17, ⟨true, .v (.sl (l.map encD))⟩), (18, ⟨true, .v (vInt 0)⟩), (19, ⟨true, .v (.sl [])⟩)] []) (weakM_frzk 19 .nilsl (by simp only [go_sem, Nat.reduceLT, Nat.reduceAdd, Nat.reduceEqDiff, Nat.reduceSub, Nat.reduceMul, Nat.reduceBEq, reduceIte, reduceCtorEq]) (by simp only [go_sem, Nat.reduceLT, Nat.reduceAdd, Nat.reduceEqDiff, Nat.reduceSub, Nat.reduceMul, Nat.reduceBEq, reduceIte, reduceCtorEq]) [0,11,12,16,17,18,19] [] ?_ ?_) ?_
    · simp only [go_sem, Nat.reduceLT, Nat.reduceAdd, Nat.reduceEqDiff, Nat.reduceSub, Nat.reduceMul, Nat.reduceBEq, reduceIte, reduceCtorEq]
    · simp only [go_sem, Nat.reduceLT, Nat.reduceAdd, Nat.reduceEqDiff, Nat.reduceSub, Nat.reduceMul, Nat.reduceBEq, reduceIte, reduceCtorEq]
    repeat refine cl_seq ?_
    refine cl_rs hΓ [0,12,16,17,18,19,90,91,92] [] fun K' hK => ?_
    simp only [go_sem, Nat.reduceLT, Nat.reduceAdd, Nat.reduceEqDiff, Nat.reduceSub, Nat.reduceMul, Nat.reduceBEq, reduceIte, reduceCtorEq]
    repeat (refine ⟨by first | exact Bool.or_not_self _ | exact Bool.not_or_self _ | exact fun _ => by decide | exact fun h => ⟨h, by decide⟩ | omega | (simp only [decide_eq_true_eq]; omega) | exact xD | exact fun h => ⟨h, xD⟩ | exact xDD | exact fun h => ⟨h, xDD⟩ | exact ⟨_, rfl⟩ | exact fun h => ⟨h, _, rfl⟩ | exact ⟨_, _, rfl⟩ | exact fun h => ⟨h, _, _, rfl⟩ | exact fun h => ⟨h, _, _, _, rfl⟩ | exact ⟨_, _, _, _, rfl⟩ | exact fun h => ⟨h, _, _, _, _, rfl⟩ | exact ⟨[_, _], rfl⟩ | (simp; done) | (simp_all; done) | (simp_all; omega), ?_⟩)
    refine hK _ ?_ ?_
    · simp only [go_sem, Nat.reduceLT, Nat.reduceAdd, Nat.reduceEqDiff, Nat.reduceSub, Nat.reduceMul, Nat.reduceBEq, reduceIte, reduceCtorEq]
    clear K' hK
    simp only [go_sem, Nat.reduceLT, Nat.reduceAdd, Nat.reduceEqDiff, Nat.reduceSub, Nat.reduceMul, Nat.reduceBEq, reduceIte, reduceCtorEq]
    repeat refine cl_seq ?_
    refine cl_block ?_
    repeat refine cl_seq ?_
    refine cl_loop' (fun i : Nat => [(19, ⟨true, .v (.sl ((insAll [] (x.take i)).map encD))⟩), (92, ⟨true, .v (vInt i)⟩)]) (fun i => []) (fun i => i ≤ x.length) (fun i => x.length - i) 0 ?_ ?_ ?_ ?_
    · exact Nat.zero_le _
    · rfl
    · rfl
    intro i hi
    simp only [go_sem, Nat.reduceLT, Nat.reduceAdd, Nat.reduceEqDiff, Nat.reduceSub, Nat.reduceMul, Nat.reduceBEq, reduceIte, reduceCtorEq]
    repeat refine cl_seq ?_
    repeat refine cl_seq ?_
    refine cl_rs hΓ [0,12,16,17,18,19,90,91,92,93] [] fun K' hK => ?_
    simp only [go_sem, Nat.reduceLT, Nat.reduceAdd, Nat.reduceEqDiff, Nat.reduceSub, Nat.reduceMul, Nat.reduceBEq, reduceIte, reduceCtorEq]
    repeat (refine ⟨by first | exact Bool.or_not_self _ | exact Bool.not_or_self _ | exact fun _ => by decide | exact fun h => ⟨h, by decide⟩ | omega | (simp only [decide_eq_true_eq]; omega) | exact xD | exact fun h => ⟨h, xD⟩ | exact xDD | exact fun h => ⟨h, xDD⟩ | exact ⟨_, rfl⟩ | exact fun h => ⟨h, _, rfl⟩ | exact ⟨_, _, rfl⟩ | exact fun h => ⟨h, _, _, rfl⟩ | exact fun h => ⟨h, _, _, _, rfl⟩ | exact ⟨_, _, _, _, rfl⟩ | exact fun h => ⟨h, _, _, _, _, rfl⟩ | exact ⟨[_, _], rfl⟩ | (simp; done) | (simp_all; done) | (simp_all; omega), ?_⟩)
    refine hK _ ?_ ?_
    · simp only [go_sem, Nat.reduceLT, Nat.reduceAdd, Nat.reduceEqDiff, Nat.reduceSub, Nat.reduceMul, Nat.reduceBEq, reduceIte, reduceCtorEq]
    clear K' hK
    simp only [go_sem, Nat.reduceLT, Nat.reduceAdd, Nat.reduceEqDiff, Nat.reduceSub, Nat.reduceMul, Nat.reduceBEq, reduceIte, reduceCtorEq]
    repeat refine cl_seq ?_
    refine cl_cond rfl rfl (fun hb => ?_) (fun hb => ?_)
    · have hlt : i < x.length := by simpa using hb
      have hlt' : (i : Int) < x.length := by omega
      have htk : ∀ d ∈ x.take i, d ∈ l := fun d hd => hx d (List.mem_of_mem_take hd)
      obtain ⟨s3, m3⟩ := insAll_sub hok hs0 (by simp) htk
      have j3 : joinR (insAll [] (x.take i)) [x[i]] = (insAll [] (x.take (i + 1)), 0) := by
        rw [joinR_sub hok s3 m3 (by simp; exact hx _ (List.getElem_mem hlt))]
        congr 1
        rw [List.take_add_one, List.getElem?_eq_getElem hlt]
        unfold insAll
        rw [List.foldl_append]
        rfl
      have p3 := fun (obj : Name → Option O) (t : Name) => sAdd_app (obj := obj) (t := t) (l := insAll [] (x.take i)) (d := x[i]) (dx := rdD x[i]) rfl
      unfold rdD at p3
      rw [j3] at p3
      clear hb
      repeat refine cl_seq ?_
      refine cl_skip ?_
      repeat refine cl_seq ?_
      refine cl_block ?_
      repeat refine cl_seq ?_
      repeat refine cl_seq ?_
      refine cl_rs hΓ [0,12,16,17,18,19,21,90,91,92] [[21, 0]] fun K' hK => ?_
      simp only [go_sem, Nat.reduceLT, Nat.reduceAdd, Nat.reduceEqDiff, Nat.reduceSub, Nat.reduceMul, Nat.reduceBEq, reduceIte, reduceCtorEq, map_getD hlt, Int.toNat_natCast, Int.natCast_nonneg, hlt']
      repeat (refine ⟨by first | exact Bool.or_not_self _ | exact Bool.not_or_self _ | exact fun _ => by decide | exact fun h => ⟨h, by decide⟩ | omega | (simp only [decide_eq_true_eq]; omega) | exact xD | exact fun h => ⟨h, xD⟩ | exact xDD | exact fun h => ⟨h, xDD⟩ | exact ⟨_, rfl⟩ | exact fun h => ⟨h, _, rfl⟩ | exact ⟨_, _, rfl⟩ | exact fun h => ⟨h, _, _, rfl⟩ | exact fun h => ⟨h, _, _, _, rfl⟩ | exact ⟨_, _, _, _, rfl⟩ | exact fun h => ⟨h, _, _, _, _, rfl⟩ | exact ⟨[_, _], rfl⟩ | (simp; done) | (simp_all; done) | (simp_all; omega), ?_⟩)
      refine hK _ ?_ ?_
      · simp only [go_sem, Nat.reduceLT, Nat.reduceAdd, Nat.reduceEqDiff, Nat.reduceSub, Nat.reduceMul, Nat.reduceBEq, reduceIte, reduceCtorEq, map_getD hlt, Int.toNat_natCast, Int.natCast_nonneg, hlt']
      clear K' hK
      simp only [go_sem, Nat.reduceLT, Nat.reduceAdd, Nat.reduceEqDiff, Nat.reduceSub, Nat.reduceMul, Nat.reduceBEq, reduceIte, reduceCtorEq, map_getD hlt, Int.toNat_natCast, Int.natCast_nonneg, hlt']
      repeat refine cl_seq ?_
      refine cl_rs hΓ [0,12,16,17,18,22,23,90,91,92] [] fun K' hK => ?_
      simp only [go_sem, Nat.reduceLT, Nat.reduceAdd, Nat.reduceEqDiff, Nat.reduceSub, Nat.reduceMul, Nat.reduceBEq, reduceIte, reduceCtorEq, p3, joinV]
      repeat (refine ⟨by first | exact Bool.or_not_self _ | exact Bool.not_or_self _ | exact fun _ => by decide | exact fun h => ⟨h, by decide⟩ | omega | (simp only [decide_eq_true_eq]; omega) | exact xD | exact fun h => ⟨h, xD⟩ | exact xDD | exact fun h => ⟨h, xDD⟩ | exact ⟨_, rfl⟩ | exact fun h => ⟨h, _, rfl⟩ | exact ⟨_, _, rfl⟩ | exact fun h => ⟨h, _, _, rfl⟩ | exact fun h => ⟨h, _, _, _, rfl⟩ | exact ⟨_, _, _, _, rfl⟩ | exact fun h => ⟨h, _, _, _, _, rfl⟩ | exact ⟨[_, _], rfl⟩ | (simp; done) | (simp_all; done) | (simp_all; omega), ?_⟩)
      refine hK _ ?_ ?_
      · simp only [go_sem, Nat.reduceLT, Nat.reduceAdd, Nat.reduceEqDiff, Nat.reduceSub, Nat.reduceMul, Nat.reduceBEq, reduceIte, reduceCtorEq, p3, joinV]
      clear K' hK
      simp only [go_sem, Nat.reduceLT, Nat.reduceAdd, Nat.reduceEqDiff, Nat.reduceSub, Nat.reduceMul, Nat.reduceBEq, reduceIte, reduceCtorEq, p3, joinV]
      repeat refine cl_seq ?_
      refine cl_rs hΓ [0,12,16,17,18,22,90,91,92,103] [] fun K' hK => ?_
      simp only [go_sem, Nat.reduceLT, Nat.reduceAdd, Nat.reduceEqDiff, Nat.reduceSub, Nat.reduceMul, Nat.reduceBEq, reduceIte, reduceCtorEq, bne_self_eq_false]
      repeat (refine ⟨by first | exact Bool.or_not_self _ | exact Bool.not_or_self _ | exact fun _ => by decide | exact fun h => ⟨h, by decide⟩ | omega | (simp only [decide_eq_true_eq]; omega) | exact xD | exact fun h => ⟨h, xD⟩ | exact xDD | exact fun h => ⟨h, xDD⟩ | exact ⟨_, rfl⟩ | exact fun h => ⟨h, _, rfl⟩ | exact ⟨_, _, rfl⟩ | exact fun h => ⟨h, _, _, rfl⟩ | exact fun h => ⟨h, _, _, _, rfl⟩ | exact ⟨_, _, _, _, rfl⟩ | exact fun h => ⟨h, _, _, _, _, rfl⟩ | exact ⟨[_, _], rfl⟩ | (simp; done) | (simp_all; done) | (simp_all; omega), ?_⟩)
      refine hK _ ?_ ?_
      · simp only [go_sem, Nat.reduceLT, Nat.reduceAdd, Nat.reduceEqDiff, Nat.reduceSub, Nat.reduceMul, Nat.reduceBEq, reduceIte, reduceCtorEq, bne_self_eq_false]
      clear K' hK
      simp only [go_sem, Nat.reduceLT, Nat.reduceAdd, Nat.reduceEqDiff, Nat.reduceSub, Nat.reduceMul, Nat.reduceBEq, reduceIte, reduceCtorEq, bne_self_eq_false]
      repeat refine cl_seq ?_
      refine cl_cond rfl rfl (fun hb => ?_) (fun hb => ?_)
      · simp at hb
      · repeat refine cl_seq ?_
        refine cl_skip ?_
        repeat refine cl_seq ?_
        refine cl_r hΓ fun K' hK => ?_
        simp only [go_sem, Nat.reduceLT, Nat.reduceAdd, Nat.reduceEqDiff, Nat.reduceSub, Nat.reduceMul, Nat.reduceBEq, reduceIte, reduceCtorEq]
        repeat (refine ⟨by first | exact Bool.or_not_self _ | exact Bool.not_or_self _ | exact fun _ => by decide | exact fun h => ⟨h, by decide⟩ | omega | (simp only [decide_eq_true_eq]; omega) | exact xD | exact fun h => ⟨h, xD⟩ | exact xDD | exact fun h => ⟨h, xDD⟩ | exact ⟨_, rfl⟩ | exact fun h => ⟨h, _, rfl⟩ | exact ⟨_, _, rfl⟩ | exact fun h => ⟨h, _, _, rfl⟩ | exact fun h => ⟨h, _, _, _, rfl⟩ | exact ⟨_, _, _, _, rfl⟩ | exact fun h => ⟨h, _, _, _, _, rfl⟩ | exact ⟨[_, _], rfl⟩ | (simp; done) | (simp_all; done) | (simp_all; omega), ?_⟩)
        refine hK _ ?_
        clear K' hK
        simp only [go_sem, Nat.reduceLT, Nat.reduceAdd, Nat.reduceEqDiff, Nat.reduceSub, Nat.reduceMul, Nat.reduceBEq, reduceIte, reduceCtorEq]
        refine cl_keep [0,12,16,17,18,19,90,91,92] [] ?_ ?_
        · simp only [go_sem, Nat.reduceLT, Nat.reduceAdd, Nat.reduceEqDiff, Nat.reduceSub, Nat.reduceMul, Nat.reduceBEq, reduceIte, reduceCtorEq]
        simp only [go_sem, Nat.reduceLT, Nat.reduceAdd, Nat.reduceEqDiff, Nat.reduceSub, Nat.reduceMul, Nat.reduceBEq, reduceIte, reduceCtorEq]
        repeat refine cl_seq ?_
        refine cl_r hΓ fun K' hK => ?_
        simp only [go_sem, Nat.reduceLT, Nat.reduceAdd, Nat.reduceEqDiff, Nat.reduceSub, Nat.reduceMul, Nat.reduceBEq, reduceIte, reduceCtorEq]
        repeat (refine ⟨by first | exact Bool.or_not_self _ | exact Bool.not_or_self _ | exact fun _ => by decide | exact fun h => ⟨h, by decide⟩ | omega | (simp only [decide_eq_true_eq]; omega) | exact xD | exact fun h => ⟨h, xD⟩ | exact xDD | exact fun h => ⟨h, xDD⟩ | exact ⟨_, rfl⟩ | exact fun h => ⟨h, _, rfl⟩ | exact ⟨_, _, rfl⟩ | exact fun h => ⟨h, _, _, rfl⟩ | exact fun h => ⟨h, _, _, _, rfl⟩ | exact ⟨_, _, _, _, rfl⟩ | exact fun h => ⟨h, _, _, _, _, rfl⟩ | exact ⟨[_, _], rfl⟩ | (simp; done) | (simp_all; done) | (simp_all; omega), ?_⟩)
        refine hK _ ?_
        clear K' hK
        simp only [go_sem, Nat.reduceLT, Nat.reduceAdd, Nat.reduceEqDiff, Nat.reduceSub, Nat.reduceMul, Nat.reduceBEq, reduceIte, reduceCtorEq]
        refine ⟨i + 1, by omega, by omega, ?_⟩
        refine weak_eq [0,12,16,17,18,19,90,91,92] [] ?_ ?_
        · simp only [go_sem, Nat.reduceLT, Nat.reduceAdd, Nat.reduceEqDiff, Nat.reduceSub, Nat.reduceMul, Nat.reduceBEq, reduceIte, reduceCtorEq, wrap_succ (n := x.length) hlt (by omega), Int.natCast_add, Int.natCast_one]
        · simp only [go_sem, Nat.reduceLT, Nat.reduceAdd, Nat.reduceEqDiff, Nat.reduceSub, Nat.reduceMul, Nat.reduceBEq, reduceIte, reduceCtorEq, wrap_succ (n := x.length) hlt (by omega), Int.natCast_add, Int.natCast_one]
    · have hge : i = x.length := by
        have : ¬ (i : Int) < x.length := by simpa using hb
        omega
      subst hge
      repeat refine cl_seq ?_
      refine cl_exit ?_
      simp only [go_sem, Nat.reduceLT, Nat.reduceAdd, Nat.reduceEqDiff, Nat.reduceSub, Nat.reduceMul, Nat.reduceBEq, reduceIte, reduceCtorEq]
      refine cl_keep [0,12,16,17,18,19] [] ?_ ?_
      · simp only [go_sem, Nat.reduceLT, Nat.reduceAdd, Nat.reduceEqDiff, Nat.reduceSub, Nat.reduceMul, Nat.reduceBEq, reduceIte, reduceCtorEq]
      simp only [go_sem, Nat.reduceLT, Nat.reduceAdd, Nat.reduceEqDiff, Nat.reduceSub, Nat.reduceMul, Nat.reduceBEq, reduceIte, reduceCtorEq]
      rw [List.take_length]
      repeat refine cl_seq ?_
      refine cl_rs hΓ [0,12,16,17,18,24,25] [] fun K' hK => ?_
      simp only [go_sem, Nat.reduceLT, Nat.reduceAdd, Nat.reduceEqDiff, Nat.reduceSub, Nat.reduceMul, Nat.reduceBEq, reduceIte, reduceCtorEq, p5, joinV]
      repeat (refine ⟨by first | exact Bool.or_not_self _ | exact Bool.not_or_self _ | exact fun _ => by decide | exact fun h => ⟨h, by decide⟩ | omega | (simp only [decide_eq_true_eq]; omega) | exact xD | exact fun h => ⟨h, xD⟩ | exact xDD | exact fun h => ⟨h, xDD⟩ | exact ⟨_, rfl⟩ | exact fun h => ⟨h, _, rfl⟩ | exact ⟨_, _, rfl⟩ | exact fun h => ⟨h, _, _, rfl⟩ | exact fun h => ⟨h, _, _, _, rfl⟩ | exact ⟨_, _, _, _, rfl⟩ | exact fun h => ⟨h, _, _, _, _, rfl⟩ | exact ⟨[_, _], rfl⟩ | (simp; done) | (simp_all; done) | (simp_all; omega), ?_⟩)
      refine hK _ ?_ ?_
      · simp only [go_sem, Nat.reduceLT, Nat.reduceAdd, Nat.reduceEqDiff, Nat.reduceSub, Nat.reduceMul, Nat.reduceBEq, reduceIte, reduceCtorEq, p5, joinV]
      clear K' hK
      simp only [go_sem, Nat.reduceLT, Nat.reduceAdd, Nat.reduceEqDiff, Nat.reduceSub, Nat.reduceMul, Nat.reduceBEq, reduceIte, reduceCtorEq, p5, joinV]
      repeat refine cl_seq ?_
      refine cl_rs hΓ [0,16,17,18,24,25,26,27] [] fun K' hK => ?_
      simp only [go_sem, Nat.reduceLT, Nat.reduceAdd, Nat.reduceEqDiff, Nat.reduceSub, Nat.reduceMul, Nat.reduceBEq, reduceIte, reduceCtorEq, p6, joinV]
      repeat (refine ⟨by first | exact Bool.or_not_self _ | exact Bool.not_or_self _ | exact fun _ => by decide | exact fun h => ⟨h, by decide⟩ | omega | (simp only [decide_eq_true_eq]; omega) | exact xD | exact fun h => ⟨h, xD⟩ | exact xDD | exact fun h => ⟨h, xDD⟩ | exact ⟨_, rfl⟩ | exact fun h => ⟨h, _, rfl⟩ | exact ⟨_, _, rfl⟩ | exact fun h => ⟨h, _, _, rfl⟩ | exact fun h => ⟨h, _, _, _, rfl⟩ | exact ⟨_, _, _, _, rfl⟩ | exact fun h => ⟨h, _, _, _, _, rfl⟩ | exact ⟨[_, _], rfl⟩ | (simp; done) | (simp_all; done) | (simp_all; omega), ?_⟩)
      refine hK _ ?_ ?_
      · simp only [go_sem, Nat.reduceLT, Nat.reduceAdd, Nat.reduceEqDiff, Nat.reduceSub, Nat.reduceMul, Nat.reduceBEq, reduceIte, reduceCtorEq, p6, joinV]
      clear K' hK
      simp only [go_sem, Nat.reduceLT, Nat.reduceAdd, Nat.reduceEqDiff, Nat.reduceSub, Nat.reduceMul, Nat.reduceBEq, reduceIte, reduceCtorEq, p6, joinV]
      repeat refine cl_seq ?_
      refine cl_rs hΓ [6] [] fun K' hK => ?_
      simp only [go_sem, Nat.reduceLT, Nat.reduceAdd, Nat.reduceEqDiff, Nat.reduceSub, Nat.reduceMul, Nat.reduceBEq, reduceIte, reduceCtorEq, sSameD_app, decide_true, beq_self_eq_true]
      repeat (refine ⟨by first | exact Bool.or_not_self _ | exact Bool.not_or_self _ | exact fun _ => by decide | exact fun h => ⟨h, by decide⟩ | omega | (simp only [decide_eq_true_eq]; omega) | exact xD | exact fun h => ⟨h, xD⟩ | exact xDD | exact fun h => ⟨h, xDD⟩ | exact ⟨_, rfl⟩ | exact fun h => ⟨h, _, rfl⟩ | exact ⟨_, _, rfl⟩ | exact fun h => ⟨h, _, _, rfl⟩ | exact fun h => ⟨h, _, _, _, rfl⟩ | exact ⟨_, _, _, _, rfl⟩ | exact fun h => ⟨h, _, _, _, _, rfl⟩ | exact ⟨[_, _], rfl⟩ | (simp; done) | (simp_all; done) | (simp_all; omega), ?_⟩)
      refine hK _ ?_ ?_
      · simp only [go_sem, Nat.reduceLT, Nat.reduceAdd, Nat.reduceEqDiff, Nat.reduceSub, Nat.reduceMul, Nat.reduceBEq, reduceIte, reduceCtorEq, sSameD_app, decide_true, beq_self_eq_true]
      clear K' hK
      simp only [go_sem, Nat.reduceLT, Nat.reduceAdd, Nat.reduceEqDiff, Nat.reduceSub, Nat.reduceMul, Nat.reduceBEq, reduceIte, reduceCtorEq, sSameD_app, decide_true, beq_self_eq_true]
      refine cl_ret ?_
      simp only [go_sem, Nat.reduceLT, Nat.reduceAdd, Nat.reduceEqDiff, Nat.reduceSub, Nat.reduceMul, Nat.reduceBEq, reduceIte, reduceCtorEq]
end Go.Eng
set_option linter.constructorNameAsVariable false
namespace Go.Eng
open Go Go.Proofs Go.Proofs.YtofamdkaipongaaGreat Go.RowKit Go.ChangeShapes

theorem keysJoins_lifted (hc : ∀ (W : World) (args : Array Value) (xs : List V), ArgsS Tryz.prog 6 Tryz.f3.params.toList xs → RepVs (memOf W) xs args.toList → Calls Tryz.prog 3 args W fun e W' => e = .returned (.bool true) ∧ Below W.heap.size W W')
    (os : Os) (started : os.Started) (H : Type) (enc : TypeId × Value → H) :
    ReturnsInHanded {} Tryz.checked os 3 .any (Rows.keysJoinsSpec.pre6 enc Tryz.prog Tryz.f3 Rows.keysJoinsRow.domain false) (Rows.keysJoinsSpec.post enc Tryz.prog Tryz.f3 false true false false) := by
  refine law_lifted (C := Tryz.checked) (n := 6) (tb := 4) kOwn started (by kernel_rfl) Tryz.func3
    (ChangeSpec.witness6 (enc := enc) (C := Tryz.checked) false ⟨#[], #[.slice none 0 0, .slice none 0 0, .agg #[.int .i64 0, .int .i64 0]], []⟩ 8 (by kernel_rfl) (by kernel_rfl) (by kernel_rfl) (by kernel_rfl))
    kLaid ?_ (by kernel_rfl) (by kernel_rfl) rfl ?_ hc
  · have h : (Tryz.f3.params.toList.all fun t => plainT Tryz.prog 6 t && Tryz.prog.readableRec t && decide (t < Tryz.prog.types.size)) = true := by kernel_rfl
    intro t ht
    have := List.all_eq_true.1 h t ht
    simp only [Bool.and_eq_true, decide_eq_true_eq] at this
    exact ⟨this.1.1, this.1.2, this.2⟩
  · intro ds hds
    have hl : Tryz.f3.params.toList.length = 3 := by kernel_rfl
    rw [hl] at hds
    match ds, hds with
    | [d1, d2, d3], _ => exact ⟨rfl, rfl, rfl⟩

theorem keysJoins_said (hc : ∀ (W : World) (args : Array Value) (xs : List V), ArgsS Tryz.prog 6 Tryz.f3.params.toList xs → RepVs (memOf W) xs args.toList → Calls Tryz.prog 3 args W fun e W' => e = .returned (.bool true) ∧ Below W.heap.size W W') :
    Rows.KeysJoinsSaid :=
  OpenClaim.holds_of_wide 3 Tryz.f3 rfl rfl rfl rfl rfl rfl rfl ⟨rfl, rfl, rfl, rfl, rfl⟩ rfl rfl rfl rfl rfl (by kernel_rfl) Tryz.func3 (by kernel_rfl)
    (of_decide_eq_true (by kernel_rfl)) (by unfold Func.isWrapper; first | (rw [if_pos (by decide +kernel)]; kernel_rfl) | (rw [if_neg (by decide +kernel)]; exact ⟨rfl, rfl⟩))
    (fun os started H enc _ => keysJoins_lifted hc os started H enc)
end Go.Eng
set_option maxRecDepth 100000
namespace Go.Eng
open Go Go.Proofs Go.Proofs.YtofamdkaipongaaGreat
def pJoins : PSpec := ⟨fun xs => ∃ (l m : List Deed) (a b : Int), xs = [.sl (l.map encD), .sl (m.map encD), .agg [vInt a, vInt b]], fun _ => .bool true, true⟩
theorem s3 : PSound Tryz.prog 3 pJoins := by
  refine psoundB (rs := [.tmp 6]) Tryz.func3 Tryz.ntmps3 (by rfl) (by kernel_rfl) (by decide) (fun _ xs _ => rfl) ?_
  obtain ⟨c, hc, _⟩ := w3 [] [] 0 0
  refine ⟨c, hc, ?_⟩
  rintro xs ⟨l, m, a, b, rfl⟩ hw
  refine ⟨Nat.le_of_ble_eq_true rfl, ?_⟩
  obtain ⟨c', hc', h⟩ := w3 l m a b
  rw [hc] at hc'
  cases hc'
  exact h
theorem aggT23 : aggT Tryz.prog 23 = true := by kernel_rfl
theorem arg23 {x : V} (h : ArgS Tryz.prog 6 23 x) : ∃ a b, x = .agg [vInt a, vInt b] := by
  obtain ⟨xs, h1, rfl⟩ := h
  rw [aggT23]
  unfold Shp at h1
  simp only [Tryz.underlying23] at h1
  obtain ⟨x, y, rfl, k1, x2, y2, rfl, k2, rfl⟩ := (show ShpL (Shp Tryz.prog 5) [3, 3] xs from h1)
  obtain ⟨a, rfl, _⟩ := shp3 k1
  obtain ⟨b, rfl, _⟩ := shp3 k2
  exact ⟨a, b, rfl⟩
theorem joins_holds : Rows.KeysJoinsSaid :=
  keysJoins_said fun W args xs ha hr => by
    obtain ⟨x, ys, rfl, h1, y, zs, rfl, h2, z, us, rfl, h3, rfl⟩ := (show ArgsS Tryz.prog 6 [22, 22, 23] xs from ha)
    obtain ⟨l, rfl⟩ := arg22 h1
    obtain ⟨m, rfl⟩ := arg22 h2
    obtain ⟨a, b, rfl⟩ := arg23 h3
    exact calls_true s3 hr ⟨l, m, a, b, rfl⟩ rfl
end Go.Eng
namespace Go.Proofs.YtofamdkaipongaaGreat
theorem keysJoins_holds : Rows.KeysJoinsSaid := Go.Eng.joins_holds
end Go.Proofs.YtofamdkaipongaaGreat
#print axioms Go.Proofs.YtofamdkaipongaaGreat.keysJoins_holds
