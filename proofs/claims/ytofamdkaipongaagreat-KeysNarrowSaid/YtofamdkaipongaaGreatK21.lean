import Derived.Test.YtofamdkaipongaaGreatK20
/- Narrower days: the law holds of all deeds, numbers and openings. -/
set_option linter.all false
set_option linter.unnecessarySimpa false
set_option linter.unusedSimpArgs false
set_option linter.unusedVariables false
set_option linter.constructorNameAsVariable false
namespace Go.Eng
open Go Go.Proofs
set_option maxRecDepth 10000
@[go_sem] theorem ta53 : tAgg Tryz.prog 53 = some (true, 4) := by kernel_rfl
@[go_sem] theorem tp53 : tPlaces Tryz.prog 53 = some [(0, 1), (1, 1), (2, 1), (3, 1)] := by kernel_rfl
@[go_sem] theorem tf53_0 : tField Tryz.prog 53 0 = some (0, 1, false) := by kernel_rfl
@[go_sem] theorem tf53_2 : tField Tryz.prog 53 2 = some (2, 1, false) := by kernel_rfl
@[go_sem] theorem tf53_3 : tField Tryz.prog 53 3 = some (3, 1, false) := by kernel_rfl
def encO (ps ds : List Int) (da kn : Int) : V := .agg [.sl (ps.map vInt), .sl (ds.map vInt), vInt da, vInt kn]
noncomputable def K98 : FuncId → Option Spec := fun f => match f with
 | 16 => some sRChk
 | 25 => some (pInt isDayB)
 | 26 => some sAre
 | 17 => some ((⟨fun xs => xs = [], fun _ => .bool true, true⟩ : PSpec).toSpec)
 | 18 => some sMod
 | 27 => some (sLI (fun _ => True) consV true)
 | 28 => some (sLPI (fun l ps day k => .tup [vInt (lwA l ps day k), vInt (lwE l ps day k)]) true)
 | 29 => some (sLI okL (fun l k => .sl ((countL l k).map encD)) false)
 | 30 => some (sLItI whenV)
 | 31 => some (sLI3 (fun l lock day k => .tup [.sl ((whoR (·.h) l lock day k).map vInt), vInt (lockE l lock day k [])]) false)
 | 32 => some (sLI3 (fun l lock day k => .tup [.sl ((whoR (·.n) l lock day k).map vInt), vInt (lockE l lock day k [])]) false)
 | 33 => some (sLL fun a b => .bool (amB a b))
 | _ => none
theorem K98_sound : ∀ f s, K98 f = some s → SSound Tryz.prog f s := by
 intro f s h
 unfold K98 at h
 split at h
 ·cases h; exact s16'
 ·cases h; exact s25.sound
 ·cases h; exact s26.sound
 ·cases h; exact s17.sound
 ·cases h; exact s18.sound
 ·cases h; exact s27.sound
 ·cases h; exact s28.sound
 ·cases h; exact s29.sound
 ·cases h; exact s30.sound
 ·cases h; exact s31.sound
 ·cases h; exact s32.sound
 ·cases h; exact s33.sound
 ·cases h
@[go_sem] theorem K98_16 : K98 16 = some sRChk := rfl
@[go_sem] theorem K98_25 : K98 25 = some (pInt isDayB) := rfl
@[go_sem] theorem K98_26 : K98 26 = some sAre := rfl
@[go_sem] theorem K98_17 : K98 17 = some ((⟨fun xs => xs = [], fun _ => .bool true, true⟩ : PSpec).toSpec) := rfl
@[go_sem] theorem K98_18 : K98 18 = some sMod := rfl
@[go_sem] theorem K98_27 : K98 27 = some (sLI (fun _ => True) consV true) := rfl
@[go_sem] theorem K98_28 : K98 28 = some (sLPI (fun l ps day k => .tup [vInt (lwA l ps day k), vInt (lwE l ps day k)]) true) := rfl
@[go_sem] theorem K98_29 : K98 29 = some (sLI okL (fun l k => .sl ((countL l k).map encD)) false) := rfl
@[go_sem] theorem K98_30 : K98 30 = some (sLItI whenV) := rfl
@[go_sem] theorem K98_31 : K98 31 = some (sLI3 (fun l lock day k => .tup [.sl ((whoR (·.h) l lock day k).map vInt), vInt (lockE l lock day k [])]) false) := rfl
@[go_sem] theorem K98_32 : K98 32 = some (sLI3 (fun l lock day k => .tup [.sl ((whoR (·.n) l lock day k).map vInt), vInt (lockE l lock day k [])]) false) := rfl
@[go_sem] theorem K98_33 : K98 33 = some (sLL fun a b => .bool (amB a b)) := rfl
theorem am_who {f : Sta → Int} {l m : List Deed} {k lock day : Int} (hm : okL m) (h : Nar (thrL (countL l k) lock 0) (thrL (countL m k) lock 0)) (hn : ¬ (confP (countL m k)).isSome = true) (hl : 1 ≤ lock) (h0 : 0 ≤ day) :
  amB (whoL f (thrL (countL m k) lock 0) day) (whoL f (thrL (countL l k) lock 0) day) = true := by
 obtain ⟨n, h1, h2⟩ := lock_some hm hn hl h0
 have hmem : f (stA (thrL (countL m k) lock 0) n) ∈ whoL f (thrL (countL m k) lock 0) day := mem_who.2 ⟨n, h1, h2, rfl⟩
 have hpos := List.length_pos_of_mem hmem
 unfold amB
 rw [Bool.and_eq_true]
 refine ⟨List.all_eq_true.2 fun x hx => List.any_eq_true.2 ⟨x, nar_who h hx, by simp⟩, by simp; omega⟩
set_option maxHeartbeats 16000000 in
theorem w5 (l : List Deed) (n0 n1 n2 da kn : Int) (ps ds : List Int) :
  ∃ c, Tryz.f5.body = some c ∧ CL Tryz.prog [c] (mkS 281 [0] (fun _ => none) (argsL 0 [.sl (l.map encD), .agg [vInt n0, vInt n1, vInt n2], encO ps ds da kn]) []) (retK Tryz.prog [.tmp 6] (.bool true)) := by
 refine ⟨_, rfl, ?_⟩
 have hΓ := K98_sound
 have hP := mixedK
 have hin := fun (obj : Name → Option O) (t : Name) (n : Int) => pInt_app (g := isDayB) (obj := obj) (t := t) (n := n)
 unfold encO
 repeat refine cl_seq ?_
 refine cl_rs hΓ [0,4,5] [[4, 0],[5, 0]] fun K' hK => ?_
 simp only [go_sem]
 repeat (refine ⟨ob, ?_⟩)
 refine hK _ ?_ ?_ <;> clear K' hK <;> simp only [go_sem]
 obtain ⟨c, hc⟩ : ∃ c : Bool, c = !(decide (checkI l = 0) && isDayB kn && isDayB da && areB ps && decide (l.length ≠ 0)) := ⟨_, rfl⟩
 repeat refine cl_seq ?_
 refine cl_rw hΓ (mkS 281 [0] (fun _ => none) [(0, ⟨true, .v (.sl (l.map encD))⟩), (4, ⟨true, .ref [4, 0] 0⟩), (5, ⟨true, .ref [5, 0] 0⟩), (56, ⟨true, .v (.bool c)⟩)] [([4, 0], .box [.v (vInt n0), .v (vInt n1), .v (vInt n2)]), ([5, 0], .box [.v (.sl (ps.map vInt)), .v (.sl (ds.map vInt)), .v (vInt da), .v (vInt kn)])]) ?_ fun K' hK => ?_
 rotate_left
 ·by_cases h1 : checkI l = 0
  ·have hbn : (checkI l != 0) = false := by simpa using h1
   cases h2 : isDayB kn
   ·have hct : c = true := by rw [hc, h2]; simp
    simp only [go_sem, sRChk_app, hbn, hin, h2]
    repeat (refine ⟨ob, ?_⟩)
    refine hK _ (weakM_keep [0, 4, 5, 56] [[4, 0], [5, 0]] ?_ ?_)
    ·simp only [go_sem]
    ·simp only [go_sem, hct]
   ·cases h3 : isDayB da
    ·have hct : c = true := by rw [hc, h2, h3]; simp
     simp only [go_sem, sRChk_app, hbn, hin, h2, h3]
     repeat (refine ⟨ob, ?_⟩)
     refine hK _ (weakM_keep [0, 4, 5, 56] [[4, 0], [5, 0]] ?_ ?_)
     ·simp only [go_sem]
     ·simp only [go_sem, hct]
    ·cases h4 : areB ps
     ·have hct : c = true := by rw [hc, h2, h3, h4]; simp
      simp only [go_sem, sRChk_app, hbn, hin, h2, h3, h4, sAre_app]
      repeat (refine ⟨ob, ?_⟩)
      refine hK _ (weakM_keep [0, 4, 5, 56] [[4, 0], [5, 0]] ?_ ?_)
      ·simp only [go_sem]
      ·simp only [go_sem, hct]
     ·have hct : c = ((l.length : Int) == 0) := by
       rw [hc, h2, h3, h4]
       cases l <;> simp [h1]
       omega
      simp only [go_sem, sRChk_app, hbn, hin, h2, h3, h4, sAre_app]
      repeat (refine ⟨ob, ?_⟩)
      refine hK _ (weakM_keep [0, 4, 5, 56] [[4, 0], [5, 0]] ?_ ?_)
      ·simp only [go_sem]
      ·simp only [go_sem, hct]
  ·have hct : c = true := by rw [hc]; simp [h1]
   have hbn : (checkI l != 0) = true := by simpa using h1
   simp only [go_sem, sRChk_app, hbn]
   repeat (refine ⟨ob, ?_⟩)
   refine hK _ (weakM_keep [0, 4, 5, 56] [[4, 0], [5, 0]] ?_ ?_)
   ·simp only [go_sem]
   ·simp only [go_sem, hct]
 repeat refine cl_seq ?_
 refine cl_cond rfl rfl (fun hb => ?_) (fun hb => ?_)
 ·repeat refine cl_seq ?_
  repeat refine cl_seq ?_
  refine cl_rs hΓ [6] [] fun K' hK => ?_
  simp only [go_sem]
  repeat (refine ⟨ob, ?_⟩)
  refine hK _ ?_ ?_ <;> clear K' hK <;> simp only [go_sem]
  refine cl_ret ?_
  simp only [go_sem]
 rw [hb] at hc
 have hc2 : checkI l = 0 ∧ isDayB kn = true ∧ isDayB da = true ∧ areB ps = true ∧ l.length ≠ 0 := by
  simp at hc
  exact ⟨hc.1.1.1.1, hc.1.1.1.2, hc.1.1.2, hc.1.2, by simpa using hc.2⟩
 obtain ⟨h1, hkn, hda, har, hne⟩ := hc2
 clear hb hc
 have hok := check_zero.1 h1
 have hl60 := hok.2.2
 have hm0 := fun (obj : Name → Option O) (t : Name) => sMod_app (obj := obj) (t := t) (a := n0) (b := l.length) (by omega)
 have hr0 := modI_range (a := n0) (n := l.length) (by omega) (by omega)
 obtain ⟨j, hj⟩ : ∃ j : Nat, modI n0 l.length = (j : Int) := ⟨(modI n0 l.length).toNat, by omega⟩
 have hlt : j < l.length := by omega
 have hlt' : (j : Int) < l.length := by omega
 repeat refine cl_seq ?_
 refine cl_skip ?_
 repeat refine cl_seq ?_
 refine cl_rs hΓ [0,4,5,7] [[4, 0],[5, 0],[60, 0]] fun K' hK => ?_
 simp only [go_sem, te22, tz35]
 repeat' apply And.intro
 all_goals first | rfl | omega | exact Int.le_refl _ | exact Bool.or_not_self _ | exact Bool.not_or_self _ | exact enc_okI _ | exact enc_ok _ | exact fun x hx => (enc_okI _ x hx).1 | exact fun x hx => (enc_ok _ x hx).1 | (simp only [List.length_take, List.length_append, List.length_map, List.length_drop, List.length_cons, List.length_nil]; done) | (simp only [List.length_take, List.length_append, List.length_map, List.length_drop, List.length_cons, List.length_nil]; omega) | (simp only [List.length_take, List.length_append, List.length_map, List.length_drop, List.length_cons, List.length_nil, maxLen]; omega) | (exact fun _ => by decide) | (exact fun h => ⟨h, by decide⟩) | (simp only [decide_eq_true_eq]; omega) | skip
 refine hK _ ?_ ?_ <;> clear K' hK <;> simp only [go_sem]
 repeat refine cl_seq ?_
 refine cl_rs hΓ [0,4,5,7,8] [[4, 0],[5, 0],[60, 0]] fun K' hK => ?_
 simp only [go_sem, hm0, hj]
 repeat (refine ⟨ob, ?_⟩)
 refine hK _ ?_ ?_ <;> clear K' hK <;> simp only [go_sem, hm0, hj]
 repeat refine cl_seq ?_
 refine cl_rs hΓ [0,4,5,7,8,9] [[4, 0],[5, 0],[9, 0],[60, 0]] fun K' hK => ?_
 simp only [go_sem, map_getD hlt, Int.toNat_natCast, Int.natCast_nonneg, hlt', encD]
 repeat (refine ⟨ob, ?_⟩)
 refine hK _ ?_ ?_ <;> clear K' hK <;> simp only [go_sem, map_getD hlt, Int.toNat_natCast, Int.natCast_nonneg, hlt', encD]
 have hd := day_of (hok.2.1 _ (List.getElem_mem hlt))
 have w1 : IntKind.i64.wrap (IntKind.i64.wrap (l[j].dh - l[j].dl) + 1) = l[j].dh - l[j].dl + 1 := by
  rw [wrap_i64 (x := l[j].dh - l[j].dl) (by omega) (by omega), wrap_i64 (by omega) (by omega)]
 have hr1 := modI_range (a := n1) (n := l[j].dh - l[j].dl + 1) (by omega) (by omega)
 have hm1 := fun (obj : Name → Option O) (t : Name) => sMod_app (obj := obj) (t := t) (a := n1) (b := l[j].dh - l[j].dl + 1) (by omega)
 generalize modI n1 (l[j].dh - l[j].dl + 1) = x1 at *
 have w2 : IntKind.i64.wrap (l[j].dl + x1) = l[j].dl + x1 := wrap_i64 (by omega) (by omega)
 repeat refine cl_seq ?_
 refine cl_ds hΓ hP [[], [0], [], [2], [], [4], [], [6], [4, 5, 6, 7], [4, 5, 6, 7, 8], [2, 3, 4, 5, 6, 7, 8, 9], [0, 1, 2, 3, 4, 5, 6, 7, 8, 9, 10], [0, 1, 2, 3, 4, 5, 6, 7, 8, 9, 10, 11], [0, 1, 2, 3, 4, 5, 6, 7, 8, 9, 10, 11, 12]] [0,4,5,7,8,9] [[4, 0],[5, 0],[9, 0],[60, 0]] (by kernel_rfl) fun K' hK => ?_
 simp only [go_sem, w1, hm1, w2, Int.reduceToNat, List.getD_cons_zero, List.getD_cons_succ]
 repeat (refine ⟨ob, ?_⟩)
 first | refine ⟨by rfl, ?_⟩ | skip
 refine hK _ ?_ ?_ <;> clear K' hK <;> simp only [go_sem, w1, hm1, w2, Int.reduceToNat, List.getD_cons_zero, List.getD_cons_succ]
 generalize hdl : l[j].dl + x1 = dl at *
 have w3 : IntKind.i64.wrap (IntKind.i64.wrap (l[j].dh - dl) + 1) = l[j].dh - dl + 1 := by
  rw [wrap_i64 (x := l[j].dh - dl) (by omega) (by omega), wrap_i64 (by omega) (by omega)]
 have hr2 := modI_range (a := n2) (n := l[j].dh - dl + 1) (by omega) (by omega)
 have hm2 := fun (obj : Name → Option O) (t : Name) => sMod_app (obj := obj) (t := t) (a := n2) (b := l[j].dh - dl + 1) (by omega)
 generalize modI n2 (l[j].dh - dl + 1) = x2 at *
 have w4 : IntKind.i64.wrap (l[j].dh - x2) = l[j].dh - x2 := wrap_i64 (by omega) (by omega)
 repeat refine cl_seq ?_
 refine cl_ds hΓ hP [[], [0], [], [2], [], [4], [], [6], [4, 5, 6, 7], [4, 5, 6, 7, 8], [2, 3, 4, 5, 6, 7, 8, 9], [0, 1, 2, 3, 4, 5, 6, 7, 8, 9, 10], [0, 1, 2, 3, 4, 5, 6, 7, 8, 9, 10, 11], [0, 1, 2, 3, 4, 5, 6, 7, 8, 9, 10, 11, 12]] [0,4,5,7,8,9] [[4, 0],[5, 0],[9, 0],[60, 0]] (by kernel_rfl) fun K' hK => ?_
 simp only [go_sem, w3, hm2, w4, Int.reduceToNat, List.getD_cons_zero, List.getD_cons_succ]
 repeat (refine ⟨ob, ?_⟩)
 first | refine ⟨by rfl, ?_⟩ | skip
 refine hK _ ?_ ?_ <;> clear K' hK <;> simp only [go_sem, w3, hm2, w4, Int.reduceToNat, List.getD_cons_zero, List.getD_cons_succ]
 generalize hdh : l[j].dh - x2 = dh at *
 repeat refine cl_seq ?_
 refine cl_rs hΓ [0,5,7] [[5, 0],[60, 0]] fun K' hK => ?_
 simp only [go_sem, map_getD hlt, Int.toNat_natCast, Int.natCast_nonneg, hlt']
 repeat (refine ⟨ob, ?_⟩)
 refine hK _ ?_ ?_ <;> clear K' hK <;> simp only [go_sem, map_getD hlt, Int.toNat_natCast, Int.natCast_nonneg, hlt']
 obtain ⟨m, hmm⟩ : ∃ m, m = l.set j ⟨l[j].pa, l[j].no, l[j].ki, l[j].lo, l[j].pe, dl, dh, l[j].kn, l[j].un⟩ := ⟨_, rfl⟩
 have hnar : Nar l m := by rw [hmm]; exact nar_set hok.2.1 hlt ⟨rfl, rfl, rfl, rfl, rfl, rfl, rfl, by simp only; omega, by simp only; omega, by simp only; omega⟩
 have hmlen : m.length = l.length := nar_len hnar
 have hem : m.map encD = (l.map encD).set j (encD ⟨l[j].pa, l[j].no, l[j].ki, l[j].lo, l[j].pe, dl, dh, l[j].kn, l[j].un⟩) := by rw [hmm, List.map_set]
 refine cl_weakM (σ' := mkS 281 [0] (fun _ => none) [(0, ⟨true, .v (.sl (l.map encD))⟩), (5, ⟨true, .ref [5, 0] 0⟩), (7, ⟨true, .v (.sl (m.map encD))⟩)] [([5, 0], .box [.v (.sl (ps.map vInt)), .v (.sl (ds.map vInt)), .v (vInt da), .v (vInt kn)])]) (weakM_frzk 7 (.msl [60, 0] l.length) (by simp only [go_sem]) (by simp only [go_sem, List.length_set, List.length_map]) [0, 5, 7] [[5, 0]] ?_ ?_) ?_
 ·simp only [go_sem]
 ·simp only [go_sem, hem, encD]
 clear hm0 hr0 hj hlt hlt' hd w1 hr1 hm1 hdl w2 w3 hr2 hm2 hdh w4 hmm hem hne hmlen
 have hokm := nar_ok hnar hok
 have h1m := check_zero.2 hokm
 have hkd := day_iff.1 hkn
 have hdd := day_iff.1 hda
 have zm : daysI m [kn] = 0 := by unfold daysI; rw [if_pos h1m]; simp [hkn]
 have hcs := fun (obj : Name → Option O) (t : Name) (f : List Deed → Int → V) (fl : Bool) => sLI_app (P := fun _ => True) (f := f) (fl := fl) (obj := obj) (t := t) (l := m) (k := kn) trivial
 have ecs : consV m kn = .tup [.bool (!(confP (countL m kn)).isSome), vInt 0] := by unfold consV; rw [if_pos zm]
 have hcn := fun (obj : Name → Option O) (t : Name) (f : List Deed → Int → V) (fl : Bool) => sLI_app (P := okL) (f := f) (fl := fl) (obj := obj) (t := t) (k := kn) hok
 repeat refine cl_seq ?_
 refine cl_rs hΓ [0,5,7,10,11] [[5, 0]] fun K' hK => ?_
 simp only [go_sem, hcs, ecs]
 repeat (refine ⟨ob, ?_⟩)
 refine hK _ ?_ ?_ <;> clear K' hK <;> simp only [go_sem, hcs, ecs]
 repeat refine cl_seq ?_
 refine cl_rs hΓ [0,5,7,10,110] [[5, 0]] fun K' hK => ?_
 simp only [go_sem]
 repeat (refine ⟨ob, ?_⟩)
 refine hK _ ?_ ?_ <;> clear K' hK <;> simp only [go_sem]
 repeat refine cl_seq ?_
 refine cl_cond rfl rfl (fun hb => ?_) (fun hb => ?_)
 ·simp at hb
 repeat refine cl_seq ?_
 refine cl_skip ?_
 clear hb
 have eE := lwE_of (ps := ps) h1 har hda hkn
 have eEm := lwE_of (ps := ps) h1m har hda hkn
 repeat refine cl_seq ?_
 refine cl_rs hΓ [0,5,7,10,12,13] [[5, 0]] fun K' hK => ?_
 simp only [go_sem, sLPI_app]
 repeat (refine ⟨ob, ?_⟩)
 refine hK _ ?_ ?_ <;> clear K' hK <;> simp only [go_sem, sLPI_app]
 repeat refine cl_seq ?_
 refine cl_rs hΓ [0,5,7,10,12,13,14,15] [[5, 0]] fun K' hK => ?_
 simp only [go_sem, sLPI_app]
 repeat (refine ⟨ob, ?_⟩)
 refine hK _ ?_ ?_ <;> clear K' hK <;> simp only [go_sem, sLPI_app]
 repeat refine cl_seq ?_
 refine cl_rs hΓ [0,5,7,10,12,13,14,15,134] [[5, 0]] fun K' hK => ?_
 simp only [go_sem]
 repeat (refine ⟨ob, ?_⟩)
 refine hK _ ?_ ?_ <;> clear K' hK <;> simp only [go_sem]
 repeat refine cl_seq ?_
 refine cl_cond rfl rfl (fun hb => ?_) (fun hb => ?_)
 ·have hcf : (confP (countL m kn)).isSome = true := by simpa using hb
  have e13 : lwE m ps da kn = 13 := by rw [eEm]; unfold gE; rw [if_pos hcf]
  rw [e13]
  repeat refine cl_seq ?_
  repeat refine cl_seq ?_
  refine cl_rs hΓ [6] [] fun K' hK => ?_
  simp only [go_sem]
  repeat (refine ⟨ob, ?_⟩)
  refine hK _ ?_ ?_ <;> clear K' hK <;> simp only [go_sem]
  refine cl_ret ?_
  simp only [go_sem]
 have hcf : ¬ (confP (countL m kn)).isSome = true := by simpa using hb
 clear hb
 have hcl := nar_conf (nar_count hnar kn) hcf
 have g0 : gE (countL l kn) = 0 := by unfold gE; rw [if_neg hcl]
 have g0m : gE (countL m kn) = 0 := by unfold gE; rw [if_neg hcf]
 rw [g0] at eE
 rw [g0m] at eEm
 have eA : lwA l ps da kn = ansW (countL l kn) da ps := by rw [lwA_of h1 har hda hkn, if_pos g0]
 have eAm : lwA m ps da kn = ansW (countL m kn) da ps := by rw [lwA_of h1m har hda hkn, if_pos g0m]
 have hab := fun ha => ans_nar hok hnar hcf hdd.1 (ps := ps) ha
 rw [eE, eEm, eA, eAm]
 repeat refine cl_seq ?_
 refine cl_skip ?_
 repeat refine cl_seq ?_
 refine cl_rw hΓ (mkS 281 [0] (fun _ => none) [(0, ⟨true, .v (.sl (l.map encD))⟩), (5, ⟨true, .ref [5, 0] 0⟩), (7, ⟨true, .v (.sl (m.map encD))⟩), (154, ⟨true, .v (.bool false)⟩)] [([5, 0], .box [.v (.sl (ps.map vInt)), .v (.sl (ds.map vInt)), .v (vInt da), .v (vInt kn)])]) ?_ fun K' hK => ?_
 rotate_left
 ·by_cases h2 : ansW (countL l kn) da ps = 2
  ·have hb2 : (ansW (countL l kn) da ps != 2) = false := by simpa using h2
   simp only [go_sem, hb2]
   repeat (refine ⟨ob, ?_⟩)
   refine hK _ (weakM_keep [0, 5, 7, 154] [[5, 0]] ?_ ?_)
   ·simp only [go_sem]
   ·simp only [go_sem, bne_self_eq_false]
  ·have hb2 : (ansW (countL l kn) da ps != 2) = true := by simpa using h2
   have hb3 : (ansW (countL l kn) da ps != ansW (countL m kn) da ps) = false := by simpa using hab h2
   simp only [go_sem, hb2, hb3]
   repeat (refine ⟨ob, ?_⟩)
   refine hK _ (weakM_keep [0, 5, 7, 154] [[5, 0]] ?_ ?_)
   ·simp only [go_sem]
   ·simp only [go_sem, bne_self_eq_false]
 repeat refine cl_seq ?_
 refine cl_cond rfl rfl (fun hb => ?_) (fun hb => ?_)
 ·cases hb
 repeat refine cl_seq ?_
 refine cl_skip ?_
 clear hb
 have hwh : ∀ d ∈ countL l kn, _ := fun d hd => nar_when hok hnar hkn hcf hd
 have hll : (countL l kn).length ≤ 60 := by have := countL_len l kn; omega
 have hlm : (countL l kn).length ≤ maxLen := by unfold maxLen; omega
 repeat refine cl_seq ?_
 refine cl_rs hΓ [0,5,7,158,159,160] [[5, 0]] fun K' hK => ?_
 simp only [go_sem, hcn]
 repeat (refine ⟨ob, ?_⟩)
 refine hK _ ?_ ?_ <;> clear K' hK <;> simp only [go_sem, hcn]
 generalize countL l kn = c at hwh hll hlm ⊢
 repeat refine cl_seq ?_
 refine cl_block ?_
 repeat refine cl_seq ?_
 refine cl_loop' (fun s : Nat => [(160, ⟨true, .v (vInt s)⟩)]) (fun s => []) (fun s => s ≤ c.length) (fun s => c.length - s) 0 ?_ ?_ ?_ ?_
 ·exact Nat.zero_le _
 ·rfl
 ·rfl
 rintro i hi
 simp only [go_sem]
 repeat refine cl_seq ?_
 repeat refine cl_seq ?_
 refine cl_rs hΓ [0,5,7,158,159,160,161] [[5, 0]] fun K' hK => ?_
 simp only [go_sem]
 repeat (refine ⟨ob, ?_⟩)
 refine hK _ ?_ ?_ <;> clear K' hK <;> simp only [go_sem]
 repeat refine cl_seq ?_
 refine cl_cond rfl rfl (fun hb => ?_) (fun hb => ?_)
 ·have hlt : i < c.length := by simpa using hb
  have hlt' : (i : Int) < c.length := by omega
  clear hb
  repeat refine cl_seq ?_
  refine cl_skip ?_
  repeat refine cl_seq ?_
  refine cl_block ?_
  repeat refine cl_seq ?_
  obtain ⟨a, b, a', b', v1, v2, v3, v4, v5⟩ := hwh _ (List.getElem_mem hlt)
  repeat refine cl_seq ?_
  refine cl_rs hΓ [0,5,7,17,158,159,160] [[5, 0],[17, 0]] fun K' hK => ?_
  simp only [go_sem, map_getD hlt, Int.toNat_natCast, Int.natCast_nonneg, hlt']
  repeat (refine ⟨ob, ?_⟩)
  refine hK _ ?_ ?_ <;> clear K' hK <;> simp only [go_sem, map_getD hlt, Int.toNat_natCast, Int.natCast_nonneg, hlt']
  repeat refine cl_seq ?_
  refine cl_rs hΓ [0,5,7,17,18,19,158,159,160] [[5, 0],[17, 0],[18, 0]] fun K' hK => ?_
  simp only [go_sem, sLItI_app, v1]
  repeat (refine ⟨ob, ?_⟩)
  refine hK _ ?_ ?_ <;> clear K' hK <;> simp only [go_sem, sLItI_app, v1]
  repeat refine cl_seq ?_
  refine cl_rs hΓ [0,5,7,18,19,20,21,158,159,160] [[5, 0],[18, 0],[20, 0]] fun K' hK => ?_
  simp only [go_sem, sLItI_app, v2]
  repeat (refine ⟨ob, ?_⟩)
  refine hK _ ?_ ?_ <;> clear K' hK <;> simp only [go_sem, sLItI_app, v2]
  have hd1 : decide (a' < a) = false := decide_eq_false (by omega)
  have hd2 : decide (b' > b) = false := decide_eq_false (by omega)
  have hd3 : decide (a' > b') = false := decide_eq_false (by omega)
  repeat refine cl_seq ?_
  refine cl_rs hΓ [0,5,7,158,159,160,208] [[5, 0]] fun K' hK => ?_
  simp only [go_sem, hd1, hd2, hd3, bne_self_eq_false]
  repeat (refine ⟨ob, ?_⟩)
  refine hK _ ?_ ?_ <;> clear K' hK <;> simp only [go_sem, hd1, hd2, hd3, bne_self_eq_false]
  repeat refine cl_seq ?_
  refine cl_cond rfl rfl (fun hb => ?_) (fun hb => ?_)
  ·cases hb
  repeat refine cl_seq ?_
  refine cl_skip ?_
  refine cl_nil ?_
  simp only [go_sem]
  refine cl_keep [0,5,7,158,159,160] [[5, 0]] ?_ ?_
  ·simp only [go_sem]
  simp only [go_sem]
  repeat refine cl_seq ?_
  refine cl_r hΓ fun K' hK => ?_
  simp only [go_sem]
  repeat (refine ⟨ob, ?_⟩)
  refine hK _ ?_
  clear K' hK
  simp only [go_sem]
  refine ⟨i + 1, hlt, (show c.length - (i + 1) < c.length - i by omega), ?_⟩
  refine weak_eq [0,5,7,158,159,160] [[5, 0]] ?_ ?_
  ·simp only [go_sem, wrap_succ hlt hlm, Int.natCast_add, Int.natCast_one]
  ·simp only [go_sem, wrap_succ hlt hlm, Int.natCast_add, Int.natCast_one]
 ·have hge : i = c.length := by
   have : ¬ (i : Int) < c.length := by simpa using hb
   omega
  subst hge
  clear hb
  repeat refine cl_seq ?_
  refine cl_exit ?_
  simp only [go_sem]
  refine cl_keep [0,5,7] [[5, 0]] ?_ ?_
  ·simp only [go_sem]
  simp only [go_sem]
  repeat refine cl_seq ?_
  refine cl_rs hΓ [0,5,7,22] [[5, 0]] fun K' hK => ?_
  simp only [go_sem]
  repeat (refine ⟨ob, ?_⟩)
  refine hK _ ?_ ?_ <;> clear K' hK <;> simp only [go_sem]
  repeat refine cl_seq ?_
  refine cl_block ?_
  repeat refine cl_seq ?_
  refine cl_loop' (fun s : Nat => [(22, ⟨true, .v (vInt s)⟩)]) (fun s => []) (fun s => 1 ≤ s ∧ s ≤ 4) (fun s => 4 - s) 1 ?_ ?_ ?_ ?_
  ·exact ⟨Nat.le_refl _, by decide⟩
  ·rfl
  ·rfl
  rintro i ⟨hi1, hi⟩
  simp only [go_sem]
  repeat refine cl_seq ?_
  repeat refine cl_seq ?_
  refine cl_rs hΓ [0,5,7,22,211] [[5, 0]] fun K' hK => ?_
  simp only [go_sem]
  repeat (refine ⟨ob, ?_⟩)
  refine hK _ ?_ ?_ <;> clear K' hK <;> simp only [go_sem]
  repeat refine cl_seq ?_
  refine cl_cond rfl rfl (fun hb => ?_) (fun hb => ?_)
  ·have hle : i ≤ 3 := by
    have : (i : Int) ≤ 3 := by simpa using hb
    omega
   have hws : IntKind.i64.wrap ((i : Int) + 1) = ((i + 1 : Nat) : Int) := wrap_succ (n := 4) (by omega) (by unfold maxLen; omega)
   clear hb
   repeat refine cl_seq ?_
   refine cl_skip ?_
   repeat refine cl_seq ?_
   refine cl_block ?_
   repeat refine cl_seq ?_
   have hlk : isLockB (i : Int) = true := by unfold isLockB; exact inI_iff.2 ⟨by omega, by omega⟩
   have w1 := fun f => who_of (f := f) h1 hlk hda hkn
   have w2 := fun f => who_of (f := f) h1m hlk hda hkn
   have k1 := lock_of h1 hlk hda hkn
   have k2 := lock_of h1m hlk hda hkn
   rw [g0] at w1 k1
   rw [g0m] at w2 k2
   simp only [if_true] at w1 w2
   have hA := am_who (f := fun x => x.h) hokm (nar_thr (nar_count hnar kn) (i : Int) 0) hcf (show (1 : Int) ≤ i by omega) hdd.1
   have hB := am_who (f := fun x => x.n) hokm (nar_thr (nar_count hnar kn) (i : Int) 0) hcf (show (1 : Int) ≤ i by omega) hdd.1
   repeat refine cl_seq ?_
   refine cl_rs hΓ [0,5,7,22,23,24] [[5, 0]] fun K' hK => ?_
   simp only [go_sem, sLI3_app, w1, k1]
   repeat (refine ⟨ob, ?_⟩)
   refine hK _ ?_ ?_ <;> clear K' hK <;> simp only [go_sem, sLI3_app, w1, k1]
   repeat refine cl_seq ?_
   refine cl_rs hΓ [0,5,7,22,23,24,25,26] [[5, 0]] fun K' hK => ?_
   simp only [go_sem, sLI3_app, w2, k2]
   repeat (refine ⟨ob, ?_⟩)
   refine hK _ ?_ ?_ <;> clear K' hK <;> simp only [go_sem, sLI3_app, w2, k2]
   repeat refine cl_seq ?_
   refine cl_rs hΓ [0,5,7,22,23,24,25,26,27,28] [[5, 0]] fun K' hK => ?_
   simp only [go_sem, sLI3_app, w1, k1]
   repeat (refine ⟨ob, ?_⟩)
   refine hK _ ?_ ?_ <;> clear K' hK <;> simp only [go_sem, sLI3_app, w1, k1]
   repeat refine cl_seq ?_
   refine cl_rs hΓ [0,5,7,22,23,24,25,26,27,28,29,30] [[5, 0]] fun K' hK => ?_
   simp only [go_sem, sLI3_app, w2, k2]
   repeat (refine ⟨ob, ?_⟩)
   refine hK _ ?_ ?_ <;> clear K' hK <;> simp only [go_sem, sLI3_app, w2, k2]
   repeat refine cl_seq ?_
   refine cl_rs hΓ [0,5,7,22,279] [[5, 0]] fun K' hK => ?_
   simp only [go_sem, sLL_app, hA, hB, bne_self_eq_false, Bool.not_true]
   repeat (refine ⟨ob, ?_⟩)
   refine hK _ ?_ ?_ <;> clear K' hK <;> simp only [go_sem, sLL_app, hA, hB, bne_self_eq_false, Bool.not_true]
   repeat refine cl_seq ?_
   refine cl_cond rfl rfl (fun hb => ?_) (fun hb => ?_)
   ·cases hb
   repeat refine cl_seq ?_
   refine cl_skip ?_
   refine cl_nil ?_
   simp only [go_sem]
   refine cl_keep [0,5,7,22] [[5, 0]] ?_ ?_
   ·simp only [go_sem]
   simp only [go_sem]
   repeat refine cl_seq ?_
   refine cl_r hΓ fun K' hK => ?_
   simp only [go_sem]
   repeat (refine ⟨ob, ?_⟩)
   refine hK _ ?_
   clear K' hK
   simp only [go_sem]
   refine ⟨i + 1, by omega, by omega, ?_⟩
   refine weak_eq [0,5,7,22] [[5, 0]] ?_ ?_
   ·simp only [go_sem, hws, Int.natCast_add, Int.natCast_one]
   ·simp only [go_sem, hws, Int.natCast_add, Int.natCast_one]
  ·have hge : i = 4 := by
    have : ¬ (i : Int) ≤ 3 := by simpa using hb
    omega
   subst hge
   clear hb
   repeat refine cl_seq ?_
   refine cl_exit ?_
   simp only [go_sem]
   refine cl_keep [] [] ?_ ?_
   ·simp only [go_sem]
   simp only [go_sem]
   repeat refine cl_seq ?_
   refine cl_rs hΓ [6] [] fun K' hK => ?_
   simp only [go_sem]
   repeat (refine ⟨ob, ?_⟩)
   refine hK _ ?_ ?_ <;> clear K' hK <;> simp only [go_sem]
   refine cl_ret ?_
   simp only [go_sem]
def pNar5 : PSpec := ⟨fun xs => ∃ (l : List Deed) (n0 n1 n2 da kn : Int) (ps ds : List Int), xs = [.sl (l.map encD), .agg [vInt n0, vInt n1, vInt n2], encO ps ds da kn], fun _ => .bool true, true⟩
theorem s5 : PSound Tryz.prog 5 pNar5 := by
 refine psoundB (rs := [.tmp 6]) Tryz.func5 Tryz.ntmps5 (by rfl) (by kernel_rfl) (by decide) (fun _ xs _ => rfl) ?_
 obtain ⟨c, hc, _⟩ := w5 [] 0 0 0 0 0 [] []
 refine ⟨c, hc, ?_⟩
 rintro xs ⟨l, n0, n1, n2, da, kn, ps, ds, rfl⟩ hw
 refine ⟨Nat.le_of_ble_eq_true rfl, ?_⟩
 obtain ⟨c', hc', h⟩ := w5 l n0 n1 n2 da kn ps ds
 rw [hc] at hc'
 cases hc'
 exact h
end Go.Eng
set_option linter.constructorNameAsVariable false
namespace Go.Eng
open Go Go.Proofs Go.Proofs.YtofamdkaipongaaGreat Go.RowKit Go.ChangeShapes
theorem keysNarrow_lifted (hc : ∀ (W : World) (args : Array Value) (xs : List V), ArgsS Tryz.prog 6 Tryz.f5.params.toList xs → RepVs (memOf W) xs args.toList → Calls Tryz.prog 5 args W fun e W' => e = .returned (.bool true) ∧ Below W.heap.size W W')
    (os : Os) (started : os.Started) (H : Type) (enc : TypeId × Value → H) :
    ReturnsInHanded {} Tryz.checked os 5 .any (Rows.keysNarrowSpec.pre6 enc Tryz.prog Tryz.f5 Rows.keysNarrowRow.domain false) (Rows.keysNarrowSpec.post enc Tryz.prog Tryz.f5 false true false false) := by
  refine law_lifted (C := Tryz.checked) (n := 6) (tb := 4) kOwn started (by kernel_rfl) Tryz.func5
    (ChangeSpec.witness6 (enc := enc) (C := Tryz.checked) false ⟨#[], #[.slice none 0 0, .agg #[.int .i64 0, .int .i64 0, .int .i64 0], .agg #[.slice none 0 0, .slice none 0 0, .int .i64 0, .int .i64 0]], []⟩ 8 (by kernel_rfl) (by kernel_rfl) (by kernel_rfl) (by kernel_rfl))
    kLaid ?_ (by kernel_rfl) (by kernel_rfl) rfl ?_ hc
  · have h : (Tryz.f5.params.toList.all fun t => plainT Tryz.prog 6 t && Tryz.prog.readableRec t && decide (t < Tryz.prog.types.size)) = true := by kernel_rfl
    intro t ht
    have := List.all_eq_true.1 h t ht
    simp only [Bool.and_eq_true, decide_eq_true_eq] at this
    exact ⟨this.1.1, this.1.2, this.2⟩
  · intro ds hds
    have hl : Tryz.f5.params.toList.length = 3 := by kernel_rfl
    rw [hl] at hds
    match ds, hds with
    | [d1, d2, d3], _ => exact ⟨rfl, rfl, rfl⟩
theorem keysNarrow_said (hc : ∀ (W : World) (args : Array Value) (xs : List V), ArgsS Tryz.prog 6 Tryz.f5.params.toList xs → RepVs (memOf W) xs args.toList → Calls Tryz.prog 5 args W fun e W' => e = .returned (.bool true) ∧ Below W.heap.size W W') :
    Rows.KeysNarrowSaid :=
  OpenClaim.holds_of_wide 5 Tryz.f5 rfl rfl rfl rfl rfl rfl rfl ⟨rfl, rfl, rfl, rfl, rfl⟩ rfl rfl rfl rfl rfl (by kernel_rfl) Tryz.func5 (by kernel_rfl)
    (of_decide_eq_true (by kernel_rfl)) (by unfold Func.isWrapper; first | (rw [if_pos (by decide +kernel)]; kernel_rfl) | (rw [if_neg (by decide +kernel)]; exact ⟨rfl, rfl⟩))
    (fun os started H enc _ => keysNarrow_lifted hc os started H enc)
end Go.Eng
set_option maxRecDepth 100000
namespace Go.Eng
open Go Go.Proofs Go.Proofs.YtofamdkaipongaaGreat
theorem aggN51 : aggT Tryz.prog 51 = true := by kernel_rfl
theorem aggN53 : aggT Tryz.prog 53 = true := by kernel_rfl
theorem argN51 {x : V} (h : ArgS Tryz.prog 6 51 x) : ∃ a b c, x = .agg [vInt a, vInt b, vInt c] := by
 obtain ⟨xs, h1, rfl⟩ := h
 rw [aggN51]
 unfold Shp at h1
 simp only [Tryz.underlying51] at h1
 obtain ⟨x, y, rfl, k1, x2, y2, rfl, k2, x3, y3, rfl, k3, rfl⟩ := (show ShpL (Shp Tryz.prog 5) [3, 3, 3] xs from h1)
 obtain ⟨a, rfl, _⟩ := shp3 k1
 obtain ⟨b, rfl, _⟩ := shp3 k2
 obtain ⟨c, rfl, _⟩ := shp3 k3
 exact ⟨a, b, c, rfl⟩
theorem shpN39 {n : Nat} {xs : List V} (h : Shp Tryz.prog (n + 2) 39 xs) : ∃ l : List Int, xs = [.sl (l.map vInt)] := by
 unfold Shp at h
 simp only [Tryz.underlying39] at h
 obtain ⟨ls, rfl, _, h3⟩ := h
 rw [aggT3]
 obtain ⟨m, hm⟩ := map_ex (f := vInt) (P := fun y => ∃ d, y = vInt d) (fun y h => h) (l := ls.map (packV false)) fun y hy => by
  obtain ⟨z, hz, rfl⟩ := List.mem_map.1 hy
  obtain ⟨k, rfl, hk⟩ := shp3 (h3 z hz)
  exact ⟨k, rfl⟩
 exact ⟨m, by rw [hm]⟩
theorem shpN53 {n : Nat} {xs : List V} (h : Shp Tryz.prog (n + 3) 53 xs) : ∃ ps ds da kn, V.agg xs = encO ps ds da kn := by
 unfold Shp at h
 simp only [Tryz.underlying53] at h
 obtain ⟨x1, y, rfl, h1, x2, y2, rfl, h2, x3, y3, rfl, h3, x4, y4, rfl, h4, rfl⟩ := h
 obtain ⟨a, rfl⟩ := shpN39 h1
 obtain ⟨b, rfl⟩ := shpN39 h2
 obtain ⟨c, rfl, _⟩ := shp3 h3
 obtain ⟨d, rfl, _⟩ := shp3 h4
 exact ⟨a, b, c, d, rfl⟩
theorem argN53 {x : V} (h : ArgS Tryz.prog 6 53 x) : ∃ ps ds da kn, x = encO ps ds da kn := by
 obtain ⟨xs, h1, rfl⟩ := h
 rw [aggN53]
 exact shpN53 h1
theorem narrow_holds : Rows.KeysNarrowSaid :=
 keysNarrow_said fun W args xs ha hr => by
  obtain ⟨x, ys, rfl, h1, y, zs, rfl, h2, z, us, rfl, h3, rfl⟩ := (show ArgsS Tryz.prog 6 [22, 51, 53] xs from ha)
  obtain ⟨l, rfl⟩ := arg22 h1
  obtain ⟨a, b, c, rfl⟩ := argN51 h2
  obtain ⟨ps, ds, da, kn, rfl⟩ := argN53 h3
  exact calls_true s5 hr ⟨l, a, b, c, da, kn, ps, ds, rfl⟩ rfl
end Go.Eng
namespace Go.Proofs.YtofamdkaipongaaGreat
theorem keysNarrow_holds : Rows.KeysNarrowSaid := Go.Eng.narrow_holds
end Go.Proofs.YtofamdkaipongaaGreat
#print axioms Go.Proofs.YtofamdkaipongaaGreat.keysNarrow_holds
