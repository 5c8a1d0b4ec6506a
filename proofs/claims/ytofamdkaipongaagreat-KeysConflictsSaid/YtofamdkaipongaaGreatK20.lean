import Derived.Test.YtofamdkaipongaaGreatK19
/- KeysConflicts answers true whatever the input: the contracts of its functions, and the law. -/
set_option linter.all false
set_option linter.unnecessarySimpa false
set_option linter.unusedSimpArgs false
set_option linter.unusedVariables false
set_option linter.constructorNameAsVariable false
namespace Go.Eng
open Go Go.Proofs
set_option maxRecDepth 100000
@[go_sem] theorem ta41 : tAgg Tryz.prog 41 = some (true, 6) := by kernel_rfl
@[go_sem] theorem tf41_0 : tField Tryz.prog 41 0 = some (0, 2, true) := by kernel_rfl
@[go_sem] theorem tf41_1 : tField Tryz.prog 41 1 = some (2, 1, false) := by kernel_rfl
@[go_sem] theorem tf41_2 : tField Tryz.prog 41 2 = some (3, 1, false) := by kernel_rfl
@[go_sem] theorem tf41_3 : tField Tryz.prog 41 3 = some (4, 1, false) := by kernel_rfl
@[go_sem] theorem tf41_4 : tField Tryz.prog 41 4 = some (5, 1, false) := by kernel_rfl
theorem guard33 : Tryz.prog.eqGuardType Tryz.prog.depth 33 = false := by kernel_rfl
@[go_sem] theorem aEqS33 (obj : Name → Option O) (op : BinOp) (a b a' b' : Int) : aEqS Tryz.prog obj op 33 (.agg [vInt a, vInt b]) (.agg [vInt a', vInt b']) =
    ⟨op = .eql ∨ op = .neq, .v (.bool (if op = .eql then (a == a' && b == b') else !(a == a' && b == b'))), obj⟩ := by
  unfold aEqS
  rw [show Op.maxDepth = 9998 + 2 from rfl, eqV33]
  simp only [guard33, true_and]
/-- What is asked. -/
def encAsk (a b d k l : Int) (ds : List Int) : V := .agg [vInt a, vInt b, vInt d, vInt k, vInt l, .sl (ds.map vInt)]
noncomputable def sLItI (f : List Deed → Int → Int → Int → V) : Spec := (pLItI f).toSpec
theorem sLItI_app {f : List Deed → Int → Int → Int → V} {obj : Name → Option O} {t : Name} {l : List Deed} {a b k : Int} : (sLItI f).app obj t [.v (.sl (l.map encD)), .agg [.v (vInt a), .v (vInt b)], .v (vInt k)] = ⟨True, .v (f l a b k), obj⟩ := by
  have e : frzL (frz 6) obj [.v (.sl (l.map encD)), .agg [.v (vInt a), .v (vInt b)], .v (vInt k)] = ⟨True, [.sl (l.map encD), .agg [vInt a, vInt b], vInt k], obj⟩ := by
    simp [frzL, frz, D.one, V.one]
  simp only [sLItI, PSpec.toSpec, e, pLItI_fn]
  simp only [pLItI, if_true]
  congr 1
  simp only [eq_iff_iff, iff_true]
  exact ⟨trivial, l, a, b, k, rfl⟩
noncomputable def sLKD (f : List Deed → Int → List Int → V) : Spec := (pLKD f).toSpec
theorem sLKD_app {f : List Deed → Int → List Int → V} {obj : Name → Option O} {t : Name} {l : List Deed} {k : Int} {b : List Int} : (sLKD f).app obj t [.v (.sl (l.map encD)), .v (vInt k), .v (.sl (b.map vInt))] = ⟨True, .v (f l k b), obj⟩ := by
  simp only [sLKD, PSpec.toSpec, frzL, frz, pLKD_fn]
  simp only [pLKD, if_true]
  congr 1
  simp only [eq_iff_iff, iff_true]
  exact ⟨⟨trivial, trivial, trivial, trivial⟩, l, k, b, rfl⟩
noncomputable def sSameIt : Spec := pSameIt.toSpec
theorem sSameIt_app {obj : Name → Option O} {t : Name} {l k : List (Int × Int)} : sSameIt.app obj t [.v (.sl (l.map vIt)), .v (.sl (k.map vIt))] = ⟨True, .v (.bool (decide (l = k))), obj⟩ := by
  simp only [sSameIt, PSpec.toSpec, frzL, frz, pSameIt_fn]
  congr 1
  simp only [eq_iff_iff, iff_true]
  exact ⟨⟨trivial, trivial, trivial⟩, l, k, rfl⟩
noncomputable def sLKI3 (f : List Deed → Int → List (Int × Int) → V) : Spec := (pLKI f).toSpec
theorem sLKI3_app {f : List Deed → Int → List (Int × Int) → V} {obj : Name → Option O} {t : Name} {l : List Deed} {k : Int} {b : List (Int × Int)} : (sLKI3 f).app obj t [.v (.sl (l.map encD)), .v (vInt k), .v (.sl (b.map vIt))] = ⟨True, .v (f l k b), obj⟩ := by
  simp only [sLKI3, PSpec.toSpec, frzL, frz, pLKI_fn]
  simp only [pLKI, if_true]
  congr 1
  simp only [eq_iff_iff, iff_true]
  exact ⟨⟨trivial, trivial, trivial, trivial⟩, l, k, b, rfl⟩
theorem whenV_ex (l : List Deed) (a b k : Int) : ∃ x y e, whenV l a b k = .tup [.agg [vInt x, vInt y], vInt e] := by
  unfold whenV
  split
  · split
    · exact ⟨_, _, _, rfl⟩
    · split <;> exact ⟨_, _, _, rfl⟩
  · exact ⟨_, _, _, rfl⟩
theorem conflV_ex (l : List Deed) (k : Int) : ∃ (x : List (Int × Int)) (e : Int), conflV l k = .tup [.sl (x.map vIt), vInt e] := by
  unfold conflV
  split
  · split
    · exact ⟨_, _, rfl⟩
    · exact ⟨[], _, rfl⟩
  · exact ⟨[], _, rfl⟩
theorem consV_ex (l : List Deed) (k : Int) : ∃ (x : Bool) (e : Int), consV l k = .tup [.bool x, vInt e] := by
  unfold consV
  split <;> exact ⟨_, _, rfl⟩
noncomputable def K43 : FuncId → Option Spec := fun f => match f with
  | 27 => some (sLI (fun _ => True) consV true)
  | 52 => some (sLI (fun _ => True) consV true)
  | 40 => some (sLI (fun _ => True) conflV false)
  | 53 => some (sLI (fun _ => True) conflV false)
  | 30 => some (sLItI whenV)
  | 54 => some (sLItI whenV)
  | 41 => some (sLKI3 fun l k b => vInt (chkConf l k b))
  | 56 => some (sLKI3 fun l k b => vInt (chkConf l k b))
  | 57 => some (sLKD fun l k ds => vInt (ctI q1 l k ds))
  | 58 => some (sLKD fun l k ds => vInt (ctI sameThB l k ds))
  | 55 => some sSameIt
  | 17 => some (⟨fun xs => xs = [], fun _ => .bool true, true⟩ : PSpec).toSpec
  | _ => none
theorem K43_sound : ∀ f s, K43 f = some s → SSound Tryz.prog f s := by
  intro f s h
  unfold K43 at h
  split at h
  · cases h; exact s27.sound
  · cases h; exact s52.sound
  · cases h; exact s40.sound
  · cases h; exact s53.sound
  · cases h; exact s30.sound
  · cases h; exact s54.sound
  · cases h; exact s41.sound
  · cases h; exact s56.sound
  · cases h; exact s57.sound
  · cases h; exact s58.sound
  · cases h; exact s55.sound
  · cases h; exact s17.sound
  · cases h
@[go_sem] theorem K43_27 : K43 27 = some (sLI (fun _ => True) consV true) := rfl
@[go_sem] theorem K43_52 : K43 52 = some (sLI (fun _ => True) consV true) := rfl
@[go_sem] theorem K43_40 : K43 40 = some (sLI (fun _ => True) conflV false) := rfl
@[go_sem] theorem K43_53 : K43 53 = some (sLI (fun _ => True) conflV false) := rfl
@[go_sem] theorem K43_30 : K43 30 = some (sLItI whenV) := rfl
@[go_sem] theorem K43_54 : K43 54 = some (sLItI whenV) := rfl
@[go_sem] theorem K43_41 : K43 41 = some (sLKI3 fun l k b => vInt (chkConf l k b)) := rfl
@[go_sem] theorem K43_56 : K43 56 = some (sLKI3 fun l k b => vInt (chkConf l k b)) := rfl
@[go_sem] theorem K43_57 : K43 57 = some (sLKD fun l k ds => vInt (ctI q1 l k ds)) := rfl
@[go_sem] theorem K43_58 : K43 58 = some (sLKD fun l k ds => vInt (ctI sameThB l k ds)) := rfl
@[go_sem] theorem K43_55 : K43 55 = some sSameIt := rfl
@[go_sem] theorem K43_17 : K43 17 = some (⟨fun xs => xs = [], fun _ => .bool true, true⟩ : PSpec).toSpec := rfl
set_option maxHeartbeats 8000000 in
theorem w10 (l : List Deed) (by_ : List (Int × Int)) (a b d k la : Int) (ds : List Int) :
    ∃ c, Tryz.f10.body = some c ∧ CL Tryz.prog [c] (mkS 124 [0] (fun _ => none) (argsL 0 [.sl (l.map encD), .sl (by_.map vIt), encAsk a b d k la ds]) []) (retK Tryz.prog [.tmp 6] (.bool true)) := by
  refine ⟨_, rfl, ?_⟩
  have hΓ := K43_sound
  have hP := mixedK
  obtain ⟨c1, c2, e1⟩ := consV_ex l k
  obtain ⟨f1, f2, e2⟩ := conflV_ex l k
  obtain ⟨w1, w2, w3, e3⟩ := whenV_ex l a b k
  have e4 := ct_same (l := l) (k := k) (ds := ds)
  have hcf := fun (obj : Name → Option O) (t : Name) (f : List Deed → Int → V) (fl : Bool) => sLI_app (P := fun _ => True) (f := f) (fl := fl) (obj := obj) (t := t) (l := l) (k := k) trivial
  have hck := fun (f : List Deed → Int → List (Int × Int) → V) (obj : Name → Option O) (t : Name) (b : List (Int × Int)) => sLKI3_app (f := f) (obj := obj) (t := t) (l := l) (k := k) (b := b)
  unfold encAsk
  repeat refine cl_seq ?_
  refine cl_rs hΓ [0,1,5] [[5, 0]] fun K' hK => ?_
  simp only [go_sem, Nat.reduceLT, Nat.reduceAdd, Nat.reduceEqDiff, Nat.reduceSub, Nat.reduceMul, Nat.reduceBEq, reduceIte, reduceCtorEq]
  repeat (refine ⟨ob, ?_⟩)
  refine hK _ ?_ ?_ <;> clear K' hK <;> simp only [go_sem, Nat.reduceLT, Nat.reduceAdd, Nat.reduceEqDiff, Nat.reduceSub, Nat.reduceMul, Nat.reduceBEq, reduceIte, reduceCtorEq]
  repeat refine cl_seq ?_
  refine cl_rs hΓ [0,1,5,7,8] [[5, 0]] fun K' hK => ?_
  simp only [go_sem, Nat.reduceLT, Nat.reduceAdd, Nat.reduceEqDiff, Nat.reduceSub, Nat.reduceMul, Nat.reduceBEq, reduceIte, reduceCtorEq, hcf, e1]
  repeat (refine ⟨ob, ?_⟩)
  refine hK _ ?_ ?_ <;> clear K' hK <;> simp only [go_sem, Nat.reduceLT, Nat.reduceAdd, Nat.reduceEqDiff, Nat.reduceSub, Nat.reduceMul, Nat.reduceBEq, reduceIte, reduceCtorEq, hcf, e1]
  repeat refine cl_seq ?_
  refine cl_rs hΓ [0,1,5,7,8,9,10] [[5, 0]] fun K' hK => ?_
  simp only [go_sem, Nat.reduceLT, Nat.reduceAdd, Nat.reduceEqDiff, Nat.reduceSub, Nat.reduceMul, Nat.reduceBEq, reduceIte, reduceCtorEq, hcf, e1]
  repeat (refine ⟨ob, ?_⟩)
  refine hK _ ?_ ?_ <;> clear K' hK <;> simp only [go_sem, Nat.reduceLT, Nat.reduceAdd, Nat.reduceEqDiff, Nat.reduceSub, Nat.reduceMul, Nat.reduceBEq, reduceIte, reduceCtorEq, hcf, e1]
  repeat refine cl_seq ?_
  refine cl_rs hΓ [0,1,5,7,8,9,10,11,12] [[5, 0]] fun K' hK => ?_
  simp only [go_sem, Nat.reduceLT, Nat.reduceAdd, Nat.reduceEqDiff, Nat.reduceSub, Nat.reduceMul, Nat.reduceBEq, reduceIte, reduceCtorEq, hcf, e2]
  repeat (refine ⟨ob, ?_⟩)
  refine hK _ ?_ ?_ <;> clear K' hK <;> simp only [go_sem, Nat.reduceLT, Nat.reduceAdd, Nat.reduceEqDiff, Nat.reduceSub, Nat.reduceMul, Nat.reduceBEq, reduceIte, reduceCtorEq, hcf, e2]
  repeat refine cl_seq ?_
  refine cl_rs hΓ [0,1,5,7,8,9,10,11,12,13,14] [[5, 0]] fun K' hK => ?_
  simp only [go_sem, Nat.reduceLT, Nat.reduceAdd, Nat.reduceEqDiff, Nat.reduceSub, Nat.reduceMul, Nat.reduceBEq, reduceIte, reduceCtorEq, hcf, e2]
  repeat (refine ⟨ob, ?_⟩)
  refine hK _ ?_ ?_ <;> clear K' hK <;> simp only [go_sem, Nat.reduceLT, Nat.reduceAdd, Nat.reduceEqDiff, Nat.reduceSub, Nat.reduceMul, Nat.reduceBEq, reduceIte, reduceCtorEq, hcf, e2]
  repeat refine cl_seq ?_
  refine cl_rs hΓ [0,1,5,7,8,9,10,11,12,13,14,15,16] [[5, 0],[15, 0]] fun K' hK => ?_
  simp only [go_sem, Nat.reduceLT, Nat.reduceAdd, Nat.reduceEqDiff, Nat.reduceSub, Nat.reduceMul, Nat.reduceBEq, reduceIte, reduceCtorEq, sLItI_app, e3]
  repeat (refine ⟨ob, ?_⟩)
  refine hK _ ?_ ?_ <;> clear K' hK <;> simp only [go_sem, Nat.reduceLT, Nat.reduceAdd, Nat.reduceEqDiff, Nat.reduceSub, Nat.reduceMul, Nat.reduceBEq, reduceIte, reduceCtorEq, sLItI_app, e3]
  repeat refine cl_seq ?_
  refine cl_rs hΓ [0,1,5,7,8,9,10,11,12,13,14,15,16,17,18] [[5, 0],[15, 0],[17, 0]] fun K' hK => ?_
  simp only [go_sem, Nat.reduceLT, Nat.reduceAdd, Nat.reduceEqDiff, Nat.reduceSub, Nat.reduceMul, Nat.reduceBEq, reduceIte, reduceCtorEq, sLItI_app, e3]
  repeat (refine ⟨ob, ?_⟩)
  refine hK _ ?_ ?_ <;> clear K' hK <;> simp only [go_sem, Nat.reduceLT, Nat.reduceAdd, Nat.reduceEqDiff, Nat.reduceSub, Nat.reduceMul, Nat.reduceBEq, reduceIte, reduceCtorEq, sLItI_app, e3]
  repeat refine cl_seq ?_
  refine cl_ds hΓ hP [[], [], [0, 1], [0, 1, 2], [0, 1, 2, 3], [0, 1, 2, 3], [0, 1, 2, 3, 4, 5], [0, 1, 2, 3, 4, 5, 6], [0, 1, 2, 3, 4, 5, 6, 7], [0, 1, 2, 3, 4, 5, 6, 7, 8], [0, 1, 2, 3, 4, 5, 6, 7, 8], [0, 1, 2, 3, 4, 5, 6, 7, 8, 9, 10], [0, 1, 2, 3, 4, 5, 6, 7, 8, 9, 10, 11], [0, 1, 2, 3, 4, 5, 6, 7, 8, 9, 10, 11, 12], [0, 1, 2, 3, 4, 5, 6, 7, 8, 9, 10, 11, 12, 13], [0, 1, 2, 3, 4, 5, 6, 7, 8, 9, 10, 11, 12, 13], [0, 1, 2, 3, 4, 5, 6, 7, 8, 9, 10, 11, 12, 13, 14, 15], [0, 1, 2, 3, 4, 5, 6, 7, 8, 9, 10, 11, 12, 13, 14, 15, 16], [0, 1, 2, 3, 4, 5, 6, 7, 8, 9, 10, 11, 12, 13, 14, 15, 16, 17], [0, 1, 2, 3, 4, 5, 6, 7, 8, 9, 10, 11, 12, 13, 14, 15, 16, 17, 18], [0, 1, 2, 3, 4, 5, 6, 7, 8, 9, 10, 11, 12, 13, 14, 15, 16, 17, 18], [0, 1, 2, 3, 4, 5, 6, 7, 8, 9, 10, 11, 12, 13, 14, 15, 16, 17, 18, 19, 20], [0, 1, 2, 3, 4, 5, 6, 7, 8, 9, 10, 11, 12, 13, 14, 15, 16, 17, 18, 19, 20, 21], [0, 1, 2, 3, 4, 5, 6, 7, 8, 9, 10, 11, 12, 13, 14, 15, 16, 17, 18, 19, 20, 21, 22], [0, 1, 2, 3, 4, 5, 6, 7, 8, 9, 10, 11, 12, 13, 14, 15, 16, 17, 18, 19, 20, 21, 22, 23], [0, 1, 2, 3, 4, 5, 6, 7, 8, 9, 10, 11, 12, 13, 14, 15, 16, 17, 18, 19, 20, 21, 22, 23], [0, 1, 2, 3, 4, 5, 6, 7, 8, 9, 10, 11, 12, 13, 14, 15, 16, 17, 18, 19, 20, 21, 22, 23, 24, 25], [0, 1, 2, 3, 4, 5, 6, 7, 8, 9, 10, 11, 12, 13, 14, 15, 16, 17, 18, 19, 20, 21, 22, 23, 24, 25, 26], [0, 1, 2, 3, 4, 5, 6, 7, 8, 9, 10, 11, 12, 13, 14, 15, 16, 17, 18, 19, 20, 21, 22, 23, 24, 25, 26, 27], [0, 1, 2, 3, 4, 5, 6, 7, 8, 9, 10, 11, 12, 13, 14, 15, 16, 17, 18, 19, 20, 21, 22, 23, 24, 25, 26, 27, 28], [0, 1, 2, 3, 4, 5, 6, 7, 8, 9, 10, 11, 12, 13, 14, 15, 16, 17, 18, 19, 20, 21, 22, 23, 24, 25, 26, 27, 28], [0, 1, 2, 3, 4, 5, 6, 7, 8, 9, 10, 11, 12, 13, 14, 15, 16, 17, 18, 19, 20, 21, 22, 23, 24, 25, 26, 27, 28, 30], [0, 1, 2, 3, 4, 5, 6, 7, 8, 9, 10, 11, 12, 13, 14, 15, 16, 17, 18, 19, 20, 21, 22, 23, 24, 25, 26, 27, 28], [0, 1, 2, 3, 4, 5, 6, 7, 8, 9, 10, 11, 12, 13, 14, 15, 16, 17, 18, 19, 20, 21, 22, 23, 24, 25, 26, 27, 28, 29, 30, 31, 32], [0, 1, 2, 3, 4, 5, 6, 7, 8, 9, 10, 11, 12, 13, 14, 15, 16, 17, 18, 19, 20, 21, 22, 23, 24, 25, 26, 27, 28], [0, 1, 2, 3, 4, 5, 6, 7, 8, 9, 10, 11, 12, 13, 14, 15, 16, 17, 18, 19, 20, 21, 22, 23, 24, 25, 26, 27, 28], [0, 1, 2, 3, 4, 5, 6, 7, 8, 9, 10, 11, 12, 13, 14, 15, 16, 17, 18, 19, 20, 21, 22, 23, 24, 25, 26, 27, 28, 35], [0, 1, 2, 3, 4, 5, 6, 7, 8, 9, 10, 11, 12, 13, 14, 15, 16, 17, 18, 19, 20, 21, 22, 23, 24, 25, 26, 27, 28], [0, 1, 2, 3, 4, 5, 6, 7, 8, 9, 10, 11, 12, 13, 14, 15, 16, 17, 18, 19, 20, 21, 22, 23, 24, 25, 26, 27, 28, 29, 30, 31, 32, 33, 34, 35, 36, 37], [0, 1, 2, 3, 4, 5, 6, 7, 8, 9, 10, 11, 12, 13, 14, 15, 16, 17, 18, 19, 20, 21, 22, 23, 24, 25, 26, 27, 28, 29, 30, 31, 32, 33, 34, 35, 36, 37, 38], [0, 1, 2, 3, 4, 5, 6, 7, 8, 9, 10, 11, 12, 13, 14, 15, 16, 17, 18, 19, 20, 21, 22, 23, 24, 25, 26, 27, 28, 29, 30, 31, 32, 33, 34, 35, 36, 37, 38, 39], [0, 1, 2, 3, 4, 5, 6, 7, 8, 9, 10, 11, 12, 13, 14, 15, 16, 17, 18, 19, 20, 21, 22, 23, 24, 25, 26, 27, 28, 29, 30, 31, 32, 33, 34, 35, 36, 37, 38, 39, 40], [0, 1, 2, 3, 4, 5, 6, 7, 8, 9, 10, 11, 12, 13, 14, 15, 16, 17, 18, 19, 20, 21, 22, 23, 24, 25, 26, 27, 28, 29, 30, 31, 32, 33, 34, 35, 36, 37, 38, 39, 40, 41], [0, 1, 2, 3, 4, 5, 6, 7, 8, 9, 10, 11, 12, 13, 14, 15, 16, 17, 18, 19, 20, 21, 22, 23, 24, 25, 26, 27, 28, 29, 30, 31, 32, 33, 34, 35, 36, 37, 38, 39, 40, 41], [0, 1, 2, 3, 4, 5, 6, 7, 8, 9, 10, 11, 12, 13, 14, 15, 16, 17, 18, 19, 20, 21, 22, 23, 24, 25, 26, 27, 28, 29, 30, 31, 32, 33, 34, 35, 36, 37, 38, 39, 40, 41, 43], [0, 1, 2, 3, 4, 5, 6, 7, 8, 9, 10, 11, 12, 13, 14, 15, 16, 17, 18, 19, 20, 21, 22, 23, 24, 25, 26, 27, 28, 29, 30, 31, 32, 33, 34, 35, 36, 37, 38, 39, 40, 41], [0, 1, 2, 3, 4, 5, 6, 7, 8, 9, 10, 11, 12, 13, 14, 15, 16, 17, 18, 19, 20, 21, 22, 23, 24, 25, 26, 27, 28, 29, 30, 31, 32, 33, 34, 35, 36, 37, 38, 39, 40, 41, 45], [0, 1, 2, 3, 4, 5, 6, 7, 8, 9, 10, 11, 12, 13, 14, 15, 16, 17, 18, 19, 20, 21, 22, 23, 24, 25, 26, 27, 28, 29, 30, 31, 32, 33, 34, 35, 36, 37, 38, 39, 40, 41, 42, 43, 44, 45, 46], [0, 1, 2, 3, 4, 5, 6, 7, 8, 9, 10, 11, 12, 13, 14, 15, 16, 17, 18, 19, 20, 21, 22, 23, 24, 25, 26, 27, 28, 29, 30, 31, 32, 33, 34, 35, 36, 37, 38, 39, 40, 41], [0, 1, 2, 3, 4, 5, 6, 7, 8, 9, 10, 11, 12, 13, 14, 15, 16, 17, 18, 19, 20, 21, 22, 23, 24, 25, 26, 27, 28, 29, 30, 31, 32, 33, 34, 35, 36, 37, 38, 39, 40, 41], [0, 1, 2, 3, 4, 5, 6, 7, 8, 9, 10, 11, 12, 13, 14, 15, 16, 17, 18, 19, 20, 21, 22, 23, 24, 25, 26, 27, 28, 29, 30, 31, 32, 33, 34, 35, 36, 37, 38, 39, 40, 41, 49], [0, 1, 2, 3, 4, 5, 6, 7, 8, 9, 10, 11, 12, 13, 14, 15, 16, 17, 18, 19, 20, 21, 22, 23, 24, 25, 26, 27, 28, 29, 30, 31, 32, 33, 34, 35, 36, 37, 38, 39, 40, 41], [0, 1, 2, 3, 4, 5, 6, 7, 8, 9, 10, 11, 12, 13, 14, 15, 16, 17, 18, 19, 20, 21, 22, 23, 24, 25, 26, 27, 28, 29, 30, 31, 32, 33, 34, 35, 36, 37, 38, 39, 40, 41, 51], [0, 1, 2, 3, 4, 5, 6, 7, 8, 9, 10, 11, 12, 13, 14, 15, 16, 17, 18, 19, 20, 21, 22, 23, 24, 25, 26, 27, 28, 29, 30, 31, 32, 33, 34, 35, 36, 37, 38, 39, 40, 41, 42, 43, 44, 45, 46, 47, 48, 49, 50, 51, 52], [0, 1, 2, 3, 4, 5, 6, 7, 8, 9, 10, 11, 12, 13, 14, 15, 16, 17, 18, 19, 20, 21, 22, 23, 24, 25, 26, 27, 28, 29, 30, 31, 32, 33, 34, 35, 36, 37, 38, 39, 40, 41, 42, 43, 44, 45, 46, 47, 48, 49, 50, 51, 52, 53], [0, 1, 2, 3, 4, 5, 6, 7, 8, 9, 10, 11, 12, 13, 14, 15, 16, 17, 18, 19, 20, 21, 22, 23, 24, 25, 26, 27, 28, 29, 30, 31, 32, 33, 34, 35, 36, 37, 38, 39, 40, 41, 42, 43, 44, 45, 46, 47, 48, 49, 50, 51, 52, 53, 54], [0, 1, 2, 3, 4, 5, 6, 7, 8, 9, 10, 11, 12, 13, 14, 15, 16, 17, 18, 19, 20, 21, 22, 23, 24, 25, 26, 27, 28, 29, 30, 31, 32, 33, 34, 35, 36, 37, 38, 39, 40, 41, 42, 43, 44, 45, 46, 47, 48, 49, 50, 51, 52, 53, 54, 55], [0, 1, 2, 3, 4, 5, 6, 7, 8, 9, 10, 11, 12, 13, 14, 15, 16, 17, 18, 19, 20, 21, 22, 23, 24, 25, 26, 27, 28, 29, 30, 31, 32, 33, 34, 35, 36, 37, 38, 39, 40, 41, 42, 43, 44, 45, 46, 47, 48, 49, 50, 51, 52, 53, 54, 55, 56], [0, 1, 2, 3, 4, 5, 6, 7, 8, 9, 10, 11, 12, 13, 14, 15, 16, 17, 18, 19, 20, 21, 22, 23, 24, 25, 26, 27, 28, 29, 30, 31, 32, 33, 34, 35, 36, 37, 38, 39, 40, 41, 42, 43, 44, 45, 46, 47, 48, 49, 50, 51, 52, 53, 54, 55, 56, 57], [0, 1, 2, 3, 4, 5, 6, 7, 8, 9, 10, 11, 12, 13, 14, 15, 16, 17, 18, 19, 20, 21, 22, 23, 24, 25, 26, 27, 28, 29, 30, 31, 32, 33, 34, 35, 36, 37, 38, 39, 40, 41, 42, 43, 44, 45, 46, 47, 48, 49, 50, 51, 52, 53, 54, 55, 56, 57, 58]] [6] [] (by kernel_rfl) fun K' hK => ?_
  simp only [go_sem, Nat.reduceLT, Nat.reduceAdd, Nat.reduceEqDiff, Nat.reduceSub, Nat.reduceMul, Nat.reduceBEq, reduceIte, reduceCtorEq, hck, sSameIt_app, sLKD_app, e4, decide_true, beq_self_eq_true, Bool.and_self]
  repeat (refine ⟨ob, ?_⟩)
  first | refine ⟨by rfl, ?_⟩ | skip
  refine hK _ ?_ ?_ <;> clear K' hK <;> simp only [go_sem, Nat.reduceLT, Nat.reduceAdd, Nat.reduceEqDiff, Nat.reduceSub, Nat.reduceMul, Nat.reduceBEq, reduceIte, reduceCtorEq, hck, sSameIt_app, sLKD_app, e4, decide_true, beq_self_eq_true, Bool.and_self]
  refine cl_ret ?_
  simp only [go_sem, Nat.reduceLT, Nat.reduceAdd, Nat.reduceEqDiff, Nat.reduceSub, Nat.reduceMul, Nat.reduceBEq, reduceIte, reduceCtorEq]
def pConfl : PSpec := ⟨fun xs => ∃ (l : List Deed) (bs : List (Int × Int)) (a b d k la : Int) (ds : List Int), xs = [.sl (l.map encD), .sl (bs.map vIt), encAsk a b d k la ds], fun _ => .bool true, true⟩
theorem s10 : PSound Tryz.prog 10 pConfl := by
  refine psoundB (rs := [.tmp 6]) Tryz.func10 Tryz.ntmps10 (by rfl) (by kernel_rfl) (by decide) (fun _ xs _ => rfl) ?_
  obtain ⟨c, hc, _⟩ := w10 [] [] 0 0 0 0 0 []
  refine ⟨c, hc, ?_⟩
  rintro xs ⟨l, bs, a, b, d, k, la, ds, rfl⟩ hw
  refine ⟨Nat.le_of_ble_eq_true rfl, ?_⟩
  obtain ⟨c', hc', h⟩ := w10 l bs a b d k la ds
  rw [hc] at hc'
  cases hc'
  exact h
end Go.Eng
set_option linter.constructorNameAsVariable false
namespace Go.Eng
open Go Go.Proofs Go.Proofs.YtofamdkaipongaaGreat Go.RowKit Go.ChangeShapes

theorem keysConflicts_lifted (hc : ∀ (W : World) (args : Array Value) (xs : List V), ArgsS Tryz.prog 6 Tryz.f10.params.toList xs → RepVs (memOf W) xs args.toList → Calls Tryz.prog 10 args W fun e W' => e = .returned (.bool true) ∧ Below W.heap.size W W')
    (os : Os) (started : os.Started) (H : Type) (enc : TypeId × Value → H) :
    ReturnsInHanded {} Tryz.checked os 10 .any (Rows.keysConflictsSpec.pre6 enc Tryz.prog Tryz.f10 Rows.keysConflictsRow.domain false) (Rows.keysConflictsSpec.post enc Tryz.prog Tryz.f10 false true false false) := by
  refine law_lifted (C := Tryz.checked) (n := 6) (tb := 4) kOwn started (by kernel_rfl) Tryz.func10
    (ChangeSpec.witness6 (enc := enc) (C := Tryz.checked) false ⟨#[], #[.slice none 0 0, .slice none 0 0, .agg #[.int .i64 0, .int .i64 0, .int .i64 0, .int .i64 0, .int .i64 0, .slice none 0 0]], []⟩ 8 (by kernel_rfl) (by kernel_rfl) (by kernel_rfl) (by kernel_rfl))
    kLaid ?_ (by kernel_rfl) (by kernel_rfl) rfl ?_ hc
  · have h : (Tryz.f10.params.toList.all fun t => plainT Tryz.prog 6 t && Tryz.prog.readableRec t && decide (t < Tryz.prog.types.size)) = true := by kernel_rfl
    intro t ht
    have := List.all_eq_true.1 h t ht
    simp only [Bool.and_eq_true, decide_eq_true_eq] at this
    exact ⟨this.1.1, this.1.2, this.2⟩
  · intro ds hds
    have hl : Tryz.f10.params.toList.length = 3 := by kernel_rfl
    rw [hl] at hds
    match ds, hds with
    | [d1, d2, d3], _ => exact ⟨rfl, rfl, rfl⟩

theorem keysConflicts_said (hc : ∀ (W : World) (args : Array Value) (xs : List V), ArgsS Tryz.prog 6 Tryz.f10.params.toList xs → RepVs (memOf W) xs args.toList → Calls Tryz.prog 10 args W fun e W' => e = .returned (.bool true) ∧ Below W.heap.size W W') :
    Rows.KeysConflictsSaid :=
  OpenClaim.holds_of_wide 10 Tryz.f10 rfl rfl rfl rfl rfl rfl rfl ⟨rfl, rfl, rfl, rfl, rfl⟩ rfl rfl rfl rfl rfl (by kernel_rfl) Tryz.func10 (by kernel_rfl)
    (of_decide_eq_true (by kernel_rfl)) (by unfold Func.isWrapper; first | (rw [if_pos (by decide +kernel)]; kernel_rfl) | (rw [if_neg (by decide +kernel)]; exact ⟨rfl, rfl⟩))
    (fun os started H enc _ => keysConflicts_lifted hc os started H enc)
end Go.Eng
set_option maxRecDepth 100000
namespace Go.Eng
open Go Go.Proofs Go.Proofs.YtofamdkaipongaaGreat
theorem aggT68 : aggT Tryz.prog 68 = false := by kernel_rfl
theorem aggT31 : aggT Tryz.prog 31 = true := by kernel_rfl
theorem aggT41 : aggT Tryz.prog 41 = true := by kernel_rfl
theorem arg68 {x : V} (h : ArgS Tryz.prog 6 68 x) : ∃ l : List (Int × Int), x = .sl (l.map vIt) := by
  obtain ⟨xs, h1, rfl⟩ := h
  rw [aggT68]
  unfold Shp at h1
  simp only [Tryz.underlying68] at h1
  obtain ⟨ls, rfl, _, h3⟩ := h1
  rw [aggT31]
  obtain ⟨m, hm⟩ := map_ex (f := vIt) (P := fun y => ∃ d, y = vIt d) (fun y h => h) (l := ls.map (packV true)) fun y hy => by
    obtain ⟨z, hz, rfl⟩ := List.mem_map.1 hy
    obtain ⟨a, b, rfl⟩ := shp31 (h3 z hz)
    exact ⟨(a, b), rfl⟩
  exact ⟨m, by rw [hm]; rfl⟩
theorem shp39 {n : Nat} {xs : List V} (h : Shp Tryz.prog (n + 2) 39 xs) : ∃ l : List Int, xs = [.sl (l.map vInt)] := by
  unfold Shp at h
  simp only [Tryz.underlying39] at h
  obtain ⟨ls, rfl, _, h3⟩ := h
  rw [aggT3]
  obtain ⟨m, hm⟩ := map_ex (f := vInt) (P := fun y => ∃ d, y = vInt d) (fun y h => h) (l := ls.map (packV false)) fun y hy => by
    obtain ⟨z, hz, rfl⟩ := List.mem_map.1 hy
    obtain ⟨k, rfl, hk⟩ := shp3 (h3 z hz)
    exact ⟨k, rfl⟩
  exact ⟨m, by rw [hm]⟩
theorem shp41 {n : Nat} {xs : List V} (h : Shp Tryz.prog (n + 3) 41 xs) : ∃ a b d k la ds, V.agg xs = encAsk a b d k la ds := by
  unfold Shp at h
  simp only [Tryz.underlying41] at h
  obtain ⟨x1, y, rfl, h1, x2, y2, rfl, h2, x3, y3, rfl, h3, x4, y4, rfl, h4, x5, y5, rfl, h5, rfl⟩ := h
  obtain ⟨a, b, rfl⟩ := shp31 h1
  obtain ⟨c, rfl, _⟩ := shp3 h2
  obtain ⟨d, rfl, _⟩ := shp3 h3
  obtain ⟨e, rfl, _⟩ := shp3 h4
  obtain ⟨f, rfl⟩ := shp39 h5
  exact ⟨a, b, c, d, e, f, rfl⟩
theorem arg41 {x : V} (h : ArgS Tryz.prog 6 41 x) : ∃ a b d k la ds, x = encAsk a b d k la ds := by
  obtain ⟨xs, h1, rfl⟩ := h
  rw [aggT41]
  exact shp41 h1
theorem conflicts_holds : Rows.KeysConflictsSaid :=
  keysConflicts_said fun W args xs ha hr => by
    obtain ⟨x, ys, rfl, h1, y, zs, rfl, h2, z, us, rfl, h3, rfl⟩ := (show ArgsS Tryz.prog 6 [22, 68, 41] xs from ha)
    obtain ⟨l, rfl⟩ := arg22 h1
    obtain ⟨m, rfl⟩ := arg68 h2
    obtain ⟨a, b, d, k, la, ds, rfl⟩ := arg41 h3
    exact calls_true s10 hr ⟨l, m, a, b, d, k, la, ds, rfl⟩ rfl
end Go.Eng
namespace Go.Proofs.YtofamdkaipongaaGreat
theorem keysConflicts_holds : Rows.KeysConflictsSaid := Go.Eng.conflicts_holds
end Go.Proofs.YtofamdkaipongaaGreat
#print axioms Go.Proofs.YtofamdkaipongaaGreat.keysConflicts_holds
