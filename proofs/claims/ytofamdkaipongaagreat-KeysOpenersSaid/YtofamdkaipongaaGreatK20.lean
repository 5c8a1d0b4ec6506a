import Derived.Test.YtofamdkaipongaaGreatK19
/- Openers. -/
set_option linter.all false
namespace Go.Eng
open Go Go.Proofs
set_option maxRecDepth 10000
def wP (c : List Deed) (lo pe many day : Int) (out : List Int) : List Int := wrL c lo pe (pickL (thrL c lo pe) many day) out
theorem wP_len (c : List Deed) (lo pe many day : Int) (out : List Int) : (wP c lo pe many day out).length = out.length := wrT_len c lo pe _ out _
theorem pickL_len (t : List Deed) (many day : Int) : (pickL t many day).length = t.length := by simp [pickL]
def perT (c : List Deed) (day : Int) : Nat → List Int
 | 0 => List.replicate c.length 0
 | s + 1 => if s = 0 then List.replicate c.length 0 else wP c 0 s (thrL c 0 s).length day (perT c day s)
theorem perT_len (c : List Deed) (day : Int) : ∀ s, (perT c day s).length = c.length
 | 0 => by simp [perT]
 | s + 1 => by
  unfold perT
  split
  ·simp
  ·rw [wP_len]; exact perT_len c day s
structure Way where
 l0 : Int
 l1 : Int
 l2 : Int
 p0 : Int
 p1 : Int
 p2 : Int
 x : Sta
 y : Sta
 z : Sta
def encWay (w : Way) : V := encW w.l0 w.l1 w.l2 w.p0 w.p1 w.p2 w.x w.y w.z
def wayL (w : Way) (i : Nat) : Int := [w.l0, w.l1, w.l2].getD i 0
def wayH (w : Way) (i : Nat) : Sta := [w.x, w.y, w.z].getD i zeroS
def wayP (w : Way) (i : Nat) : Int := [w.p0, w.p1, w.p2].getD i 0
def lckT (c : List Deed) (day : Int) (w : Way) (lf : Bool) : Nat → List Int
 | 0 => perT c day 100
 | s + 1 => if lf then wP c 0 (wayH w s).h (wayP w s) day (wP c ((s + 1 : Nat) : Int) 0 (wayL w s) day (lckT c day w lf s)) else wP c ((s + 1 : Nat) : Int) 0 (wayL w s) day (lckT c day w lf s)
theorem lckT_len (c : List Deed) (day : Int) (w : Way) (lf : Bool) : ∀ s, (lckT c day w lf s).length = c.length
 | 0 => perT_len c day 100
 | s + 1 => by
  unfold lckT
  split
  ·rw [wP_len, wP_len]; exact lckT_len c day w lf s
  ·rw [wP_len]; exact lckT_len c day w lf s
def showL (c : List Deed) (day : Int) (w : Way) (lf : Bool) (ho : Int) : List Int :=
 if ho > 0 then wP c 0 ho (offFind (thrL c 0 ho) false day).1 day (lckT c day w lf 3) else lckT c day w lf 3
theorem sOff_ap2 {obj : Name → Option O} {t : Name} {c : List Deed} {day pe : Int} {inn : Bool} (hl : c.length ≤ 60) (hk : ∀ d ∈ c, kindOk d) :
  sOff.app obj t [.agg [.v (.sl (c.map encD)), .v (vInt day)], .v (vInt pe), .v (.bool inn)] = ⟨True, .v (.tup [vInt (offFind (thrL c 0 pe) inn day).1, .bool (offFind (thrL c 0 pe) inn day).2]), obj⟩ := by
 simp only [sOff, PSpec.toSpec, frz_op (r := [.v (vInt pe), .v (.bool inn)]) (xs := [vInt pe, .bool inn]) (obj := obj) (by simp [frzL, frz]), pOff_fn]
 simp only [pOff, if_true]
 congr 1
 simp only [eq_iff_iff, iff_true]
 exact ⟨trivial, c, day, pe, inn, rfl, hl, hk⟩
noncomputable def sPk : Spec := (pPk pickL).toSpec
theorem sPk_app {obj : Name → Option O} {tm : Name} {t : List Deed} {m day : Int} (h : t.length ≤ 60) (h0 : 0 ≤ day) (h1 : day ≤ 100000) : sPk.app obj tm [.v (.sl (t.map encD)), .v (vInt m), .v (vInt day)] = ⟨True, .v (.sl ((pickL t m day).map vInt)), obj⟩ := by
 simp only [sPk, PSpec.toSpec, frzL, frz, pPk_fn, ite_self]
 congr 1
 simp only [eq_iff_iff, iff_true]
 exact ⟨⟨trivial, trivial, trivial, trivial⟩, t, m, day, rfl, h, h0, h1⟩
noncomputable def K106 : FuncId → Option Spec := fun f => match f with
 | 86 => some (sLII (fun l => l.length ≤ 60) (fun l lo pe => .sl ((thrL l lo pe).map encD)) false)
 | 159 => some sOff
 | 160 => some wrC.toSpec
 | 161 => some sPk
 | _ => none
theorem K106_sound : ∀ f s, K106 f = some s → SSound Tryz.prog f s := by
 intro f s h
 unfold K106 at h
 split at h
 ·cases h; exact s86.sound
 ·cases h; exact s159.sound
 ·cases h; exact s160
 ·cases h; exact s161.sound
 ·cases h
@[go_sem] theorem K106_86 : K106 86 = some (sLII (fun l => l.length ≤ 60) (fun l lo pe => .sl ((thrL l lo pe).map encD)) false) := rfl
@[go_sem] theorem K106_159 : K106 159 = some sOff := rfl
@[go_sem] theorem K106_160 : K106 160 = some wrC.toSpec := rfl
@[go_sem] theorem K106_161 : K106 161 = some sPk := rfl
def pShow : PSpec := ⟨fun xs => ∃ (c : List Deed) (day : Int) (w : Way) (lf : Bool) (ho : Int), xs = [.agg [.sl (c.map encD), vInt day], encWay w, .bool lf, vInt ho] ∧ c.length ≤ 60 ∧ (∀ d ∈ c, kindOk d) ∧ 0 ≤ day ∧ day ≤ 100000,
 fun xs => match xs with | [.agg [.sl c, .int _ day], .agg [.int _ a, .int _ b, .int _ d, .int _ p, .int _ q, .int _ r, .int _ x1, .int _ x2, .bool x3, .int _ y1, .int _ y2, .bool y3, .int _ z1, .int _ z2, .bool z3], .bool lf, .int _ ho] => .sl ((showL (c.map decD) day ⟨a, b, d, p, q, r, ⟨x1, x2, x3⟩, ⟨y1, y2, y3⟩, ⟨z1, z2, z3⟩⟩ lf ho).map vInt) | _ => .bool false, false⟩
theorem pShow_fn (c : List Deed) (day : Int) (w : Way) (lf : Bool) (ho : Int) : pShow.fn [.agg [.sl (c.map encD), vInt day], encWay w, .bool lf, vInt ho] = .sl ((showL c day w lf ho).map vInt) := by
 simp only [pShow, encWay, encW, decD_map]
theorem cl_dwE {P : Program} {Γ : FuncId → Option Spec} (hΓ : ∀ f s, Γ f = some s → SSound P f s) (hP : P.follows .mixedOrders = true) {id : Nat} {l : List Oper} {c : Code} {r : List Code} {σ : S} {K K1 : Exit → S → Prop} (az : List (List Nat)) (τ : S)
  (hs : statOk l.toArray az = true) (hn : ∀ σ', CL P (c :: r) σ' K1 → K .normal σ') (h : CL P (c :: r) τ K1) (h' : ∀ K' : S → Prop, (∀ σ', WeakM σ' τ → K' σ') → RegE P Γ l.toArray 0 az l [] σ K') : CL P [.region id l.toArray true] σ K :=
 cl_d hΓ hP az hs fun K' hK => h' K' fun σ' hw => hK σ' (hn σ' (cl_weakM hw h))
set_option maxHeartbeats 32000000 in
theorem s129 : PSound Tryz.prog 129 pShow := by
 refine psoundB (rs := [.tmp 8]) Tryz.func129 Tryz.ntmps129 (by rfl) (by kernel_rfl) (by decide) (fun h => by cases h) ⟨_, rfl, ?_⟩
 rintro xs ⟨c, day, w, lf, ho, rfl, hc60, hkc, hd0, hd1⟩ hw
 refine ⟨lb rfl, ?_⟩
 rw [pShow_fn]
 have hΓ := K106_sound
 have hP := mixedK
 have hcm : c.length ≤ maxLen := by unfold maxLen; omega
 have hth := fun (obj : Name → Option O) (t : Name) (f : List Deed → Int → Int → V) (fl : Bool) (k j : Int) => sLII_app (P := fun l => l.length ≤ 60) (f := f) (fl := fl) (obj := obj) (t := t) (l := c) (k := k) (j := j) hc60
 have htl : ∀ lo pe, (thrL c lo pe).length ≤ 60 := fun lo pe => by have := List.length_filter_le (fun d => isOfB d lo pe) c; unfold thrL; omega
 have hpk := fun (obj : Name → Option O) (t : Name) (lo pe m : Int) => sPk_app (obj := obj) (tm := t) (t := thrL c lo pe) (m := m) (htl lo pe) hd0 hd1
 have hwr := fun (obj : Name → Option O) (t : Name) (lo pe m : Int) (out : List Int) (h1 : obj [21, 0] = _) (h2 : out.length = c.length) => wr_app (obj := obj) (t := t) (nm := [21, 0]) (c := c) (day := day) (lo := lo) (pe := pe) (q := pickL (thrL c lo pe) m day) (out := out) h1 h2 (pickL_len _ _ _) hc60
 unfold encWay encW
 obtain ⟨l0, l1, l2, p0, p1, p2, ⟨x1, x2, x3⟩, ⟨y1, y2, y3⟩, ⟨z1, z2, z3⟩⟩ := w
 repeat refine sq ?_
 refine cl_rs hΓ [2,3,4,5] [[4, 0],[5, 0]] fun K' hK => ?_
 simp only [go_sem]
 repeat refine ⟨ob, ?_⟩
 refine hK _ ?_ ?_ <;> clear K' hK <;> simp only [go_sem]
 repeat refine sq ?_
 refine cl_rs hΓ [2,3,4,5,9] [[4, 0],[5, 0],[21, 0]] fun K' hK => ?_
 simp only [go_sem, te39, tz3, Int.toNat_natCast, Int.natCast_nonneg]
 repeat' apply And.intro
 all_goals first | rfl | omega | exact Int.le_refl _ | exact Bool.or_not_self _ | exact Bool.not_or_self _ | exact enc_okI _ | exact enc_ok _ | exact fun x hx => (enc_okI _ x hx).1 | exact fun x hx => (enc_ok _ x hx).1 | (simp only [List.length_take, List.length_append, List.length_map, List.length_drop, List.length_cons, List.length_nil]; done) | (simp only [List.length_take, List.length_append, List.length_map, List.length_drop, List.length_cons, List.length_nil]; omega) | (simp only [List.length_take, List.length_append, List.length_map, List.length_drop, List.length_cons, List.length_nil, maxLen]; omega) | (exact fun _ => by decide) | (exact fun h => ⟨h, by decide⟩) | (simp only [decide_eq_true_eq]; omega) | skip
 refine hK _ ?_ ?_ <;> clear K' hK <;> simp only [go_sem]
 have h0 : List.replicate c.length (V.int IntKind.i64 0) = (perT c day 1).map vInt := by simp [perT]
 rw [h0]
 repeat refine sq ?_
 refine cl_rs hΓ [2,3,4,5,9,10] [[4, 0],[5, 0],[21, 0]] fun K' hK => ?_
 simp only [go_sem]
 repeat refine ⟨ob, ?_⟩
 refine hK _ ?_ ?_ <;> clear K' hK <;> simp only [go_sem]
 repeat refine sq ?_
 refine cl_block ?_
 repeat refine sq ?_
 refine cl_loop' (fun s : Nat => [(10, ⟨true, .v (vInt s)⟩)]) (fun s => [([21, 0], .arr 1 ((perT c day s).map vInt))]) (fun s => 1 ≤ s ∧ s ≤ 100) (fun s => 100 - s) 1 ?_ ?_ ?_ ?_
 ·exact ⟨Nat.le_refl _, by decide⟩
 ·rfl
 ·rfl
 rintro i ⟨hi1, hi⟩
 simp only [go_sem]
 repeat refine sq ?_
 refine cl_rs hΓ [2,3,4,5,9,10,23] [[4, 0],[5, 0],[21, 0]] fun K' hK => ?_
 simp only [go_sem]
 repeat refine ⟨ob, ?_⟩
 refine hK _ ?_ ?_ <;> clear K' hK <;> simp only [go_sem]
 repeat refine sq ?_
 refine cl_cond rfl rfl (fun hb => ?_) fun hb => ?_
 ·have hle : i ≤ 99 := by
   have : (i : Int) ≤ 99 := by simpa using hb
   omega
  have hws : IntKind.i64.wrap ((i : Int) + 1) = ((i + 1 : Nat) : Int) := wrap_succ (n := 100) (by omega) (by unfold maxLen; omega)
  have hnx : perT c day (i + 1) = wP c 0 i (thrL c 0 i).length day (perT c day i) := by show (if i = 0 then _ else _) = _; rw [if_neg (by omega)]
  have hpl := perT_len c day i
  clear hb
  repeat refine sq ?_
  refine cl_skip ?_
  repeat refine sq ?_
  refine cl_block ?_
  repeat refine sq ?_
  refine cl_rs hΓ [2,3,4,5,9,10,11] [[4, 0],[5, 0],[21, 0]] fun K' hK => ?_
  simp only [go_sem, hth]
  repeat refine ⟨ob, ?_⟩
  refine hK _ ?_ ?_ <;> clear K' hK <;> simp only [go_sem, hth]
  have hw1 := fun (obj : Name → Option O) (t : Name) (h1 : obj [21, 0] = _) => hwr obj t 0 i (thrL c 0 i).length (perT c day i) h1 hpl
  rw [hpl] at hw1
  have hwp : wrL c 0 i (pickL (thrL c 0 i) (thrL c 0 i).length day) (perT c day i) = perT c day (i + 1) := hnx.symm
  rw [hwp] at hw1
  repeat refine sq ?_
  refine cl_d hΓ hP [[], [], [], [], [], [4], [], [6], [3, 4, 5, 6, 7], [0, 1, 2, 3, 4, 5, 6, 7, 8]] (by kernel_rfl) fun K' hK => ?_
  simp only [go_sem, hpk, hw1, te116]
  repeat refine ⟨ob, ?_⟩
  refine ⟨by rfl, ?_⟩
  refine hK _ ?_
  clear K' hK
  simp only [go_sem]
  refine cl_keep [2,3,4,5,9,10] [[4, 0],[5, 0],[21, 0]] ?_ ?_
  ·simp only [go_sem]
  simp only [go_sem]
  repeat refine sq ?_
  refine cl_r hΓ fun K' hK => ?_
  simp only [go_sem]
  repeat refine ⟨ob, ?_⟩
  refine hK _ ?_
  clear K' hK
  simp only [go_sem]
  refine ⟨i + 1, by omega, by omega, ?_⟩
  refine weak_eq [2,3,4,5,9,10] [[4, 0],[5, 0],[21, 0]] ?_ ?_
  ·simp only [go_sem, hws, Int.natCast_add, Int.natCast_one]
  ·simp only [go_sem, hws, Int.natCast_add, Int.natCast_one]
 have hge : i = 100 := by
  have : ¬ (i : Int) ≤ 99 := by simpa using hb
  omega
 subst hge
 clear hb
 repeat refine sq ?_
 refine cl_exit ?_
 simp only [go_sem]
 refine cl_keep [2,3,4,5,9] [[4, 0],[5, 0],[21, 0]] ?_ ?_
 ·simp only [go_sem]
 simp only [go_sem]
 have h00 : perT c day 100 = lckT c day ⟨l0, l1, l2, p0, p1, p2, ⟨x1, x2, x3⟩, ⟨y1, y2, y3⟩, ⟨z1, z2, z3⟩⟩ lf 0 := rfl
 rw [h00]
 obtain ⟨w, hww⟩ : ∃ w : Way, w = ⟨l0, l1, l2, p0, p1, p2, ⟨x1, x2, x3⟩, ⟨y1, y2, y3⟩, ⟨z1, z2, z3⟩⟩ := ⟨_, rfl⟩
 rw [← hww]
 repeat refine sq ?_
 refine cl_rs hΓ [2,3,4,5,9,41,42] [[4, 0],[5, 0],[21, 0]] fun K' hK => ?_
 simp only [go_sem, tp150, tf152_2, tr150]
 repeat refine ⟨ob, ?_⟩
 refine hK _ ?_ ?_ <;> clear K' hK <;> simp only [go_sem, tp150, tf152_2, tr150]
 repeat refine sq ?_
 refine cl_block ?_
 repeat refine sq ?_
 refine cl_loop' (fun s : Nat => [(42, ⟨true, .v (vInt s)⟩)]) (fun s => [([21, 0], .arr 1 ((lckT c day w lf s).map vInt))]) (fun s => s ≤ 3) (fun s => 3 - s) 0 ?_ ?_ ?_ ?_
 ·exact Nat.zero_le _
 ·rfl
 ·rfl
 intro i hi
 simp only [go_sem]
 repeat refine sq ?_
 refine cl_rs hΓ [2,3,4,5,9,41,42,43] [[4, 0],[5, 0],[21, 0]] fun K' hK => ?_
 simp only [go_sem]
 repeat refine ⟨ob, ?_⟩
 refine hK _ ?_ ?_ <;> clear K' hK <;> simp only [go_sem]
 repeat refine sq ?_
 refine cl_cond rfl rfl (fun hb => ?_) fun hb => ?_
 ·have hlt : i < 3 := by
   have : (i : Int) < 3 := by simpa using hb
   omega
  have hws : IntKind.i64.wrap ((i : Int) + 1) = ((i + 1 : Nat) : Int) := wrap_succ (n := 3) hlt (by unfold maxLen; omega)
  clear hb
  repeat refine sq ?_
  refine cl_skip ?_
  repeat refine sq ?_
  refine cl_block ?_
  repeat refine sq ?_
  have hi3 : i = 0 ∨ i = 1 ∨ i = 2 := by omega
  have h3 : (i : Int) < 3 := by omega
  obtain ⟨h, n, o, hs⟩ : ∃ h n o, wayH w i = ⟨h, n, o⟩ := ⟨_, _, _, rfl⟩
  have hnx : lckT c day w lf (i + 1) = if lf then wP c 0 (wayH w i).h (wayP w i) day (wP c ((i + 1 : Nat) : Int) 0 (wayL w i) day (lckT c day w lf i)) else wP c ((i + 1 : Nat) : Int) 0 (wayL w i) day (lckT c day w lf i) := rfl
  have hll := lckT_len c day w lf i
  rw [hs] at hnx
  generalize lckT c day w lf i = o1 at hll hnx ⊢
  obtain ⟨o2, ho2⟩ : ∃ o2, o2 = wP c ((i + 1 : Nat) : Int) 0 (wayL w i) day o1 := ⟨_, rfl⟩
  have ho2l : o2.length = c.length := by rw [ho2, wP_len]; exact hll
  have hw1 := fun (obj : Name → Option O) (t : Name) (h1 : obj [21, 0] = _) => hwr obj t ((i + 1 : Nat) : Int) 0 (wayL w i) o1 h1 hll
  rw [hll] at hw1
  have hwp : wrL c ((i + 1 : Nat) : Int) 0 (pickL (thrL c ((i + 1 : Nat) : Int) 0) (wayL w i) day) o1 = o2 := ho2.symm
  rw [hwp] at hw1
  rw [← ho2] at hnx
  have hw2 := fun (obj : Name → Option O) (t : Name) (h1 : obj [21, 0] = _) => hwr obj t 0 h (wayP w i) o2 h1 ho2l
  rw [ho2l] at hw2
  obtain ⟨o3, ho3⟩ : ∃ o3, o3 = wP c 0 h (wayP w i) day o2 := ⟨_, rfl⟩
  have hwp3 : wrL c 0 h (pickL (thrL c 0 h) (wayP w i) day) o2 = o3 := ho3.symm
  rw [hwp3] at hw2
  rw [← ho3] at hnx
  obtain ⟨li, hli⟩ : ∃ li, li = wayL w i := ⟨_, rfl⟩
  obtain ⟨pi, hpi⟩ : ∃ pi, pi = wayP w i := ⟨_, rfl⟩
  rw [← hli] at hw1
  rw [← hpi] at hw2
  clear ho2 ho3 hwp hwp3
  refine cl_rw hΓ (mkS 105 [0] (fun _ => none) [(2, ⟨true, .v (.bool lf)⟩), (3, ⟨true, .v (vInt ho)⟩), (4, ⟨true, .ref [4, 0] 0⟩), (5, ⟨true, .ref [5, 0] 0⟩), (9, ⟨true, .msl [21, 0] c.length⟩), (12, ⟨true, .v (vInt i)⟩), (13, ⟨true, .ref [13, 0] 0⟩), (41, ⟨true, .agg [.v (vInt x1), .v (vInt x2), .v (.bool x3), .v (vInt y1), .v (vInt y2), .v (.bool y3), .v (vInt z1), .v (vInt z2), .v (.bool z3)]⟩), (42, ⟨true, .v (vInt i)⟩)] [([4, 0], .box [.v (.sl (c.map encD)), .v (vInt day)]), ([5, 0], .box [.v (vInt l0), .v (vInt l1), .v (vInt l2), .v (vInt p0), .v (vInt p1), .v (vInt p2), .v (vInt x1), .v (vInt x2), .v (.bool x3), .v (vInt y1), .v (vInt y2), .v (.bool y3), .v (vInt z1), .v (vInt z2), .v (.bool z3)]), ([13, 0], .box [.v (vInt h), .v (vInt n), .v (.bool o)]), ([21, 0], .arr 1 (o1.map vInt))]) ?_ fun K' hK => ?_
  rotate_left
  ·rcases hi3 with rfl | rfl | rfl
   all_goals
    rw [hww] at hs
    simp only [wayH, List.getD_cons_zero, List.getD_cons_succ, Sta.mk.injEq] at hs
    obtain ⟨rfl, rfl, rfl⟩ := hs
    simp only [go_sem, tz137, tp137, Nat.reduceLeDiff, Nat.le_refl, Int.toNat_natCast, Int.natCast_nonneg, h3]
    repeat refine ⟨ob, ?_⟩
    refine hK _ (weakM_keep [2,3,4,5,9,12,13,41,42] [[4, 0],[5, 0],[13, 0],[21, 0]] ?_ ?_)
    ·simp only [go_sem]
    ·simp only [go_sem]
  repeat refine sq ?_
  refine cl_rs hΓ [2,3,4,5,9,12,13,14,41,42] [[4, 0],[5, 0],[13, 0],[21, 0]] fun K' hK => ?_
  simp only [go_sem, hws, hth]
  repeat refine ⟨ob, ?_⟩
  refine hK _ ?_ ?_ <;> clear K' hK <;> simp only [go_sem, hws, hth]
  repeat refine sq ?_
  refine cl_dw hΓ hP [[], [], [], [2], [], [], [], [5, 6], [5, 6, 7], [], [9], [4, 5, 6, 7, 8, 9, 10], [0, 1, 2, 3, 4, 5, 6, 7, 8, 9, 10, 11]] (mkS 105 [0] (fun _ => none) [(2, ⟨true, .v (.bool lf)⟩), (3, ⟨true, .v (vInt ho)⟩), (4, ⟨true, .ref [4, 0] 0⟩), (5, ⟨true, .ref [5, 0] 0⟩), (9, ⟨true, .msl [21, 0] c.length⟩), (12, ⟨true, .v (vInt i)⟩), (13, ⟨true, .ref [13, 0] 0⟩), (41, ⟨true, .agg [.v (vInt x1), .v (vInt x2), .v (.bool x3), .v (vInt y1), .v (vInt y2), .v (.bool y3), .v (vInt z1), .v (vInt z2), .v (.bool z3)]⟩), (42, ⟨true, .v (vInt i)⟩)] [([4, 0], .box [.v (.sl (c.map encD)), .v (vInt day)]), ([5, 0], .box [.v (vInt l0), .v (vInt l1), .v (vInt l2), .v (vInt p0), .v (vInt p1), .v (vInt p2), .v (vInt x1), .v (vInt x2), .v (.bool x3), .v (vInt y1), .v (vInt y2), .v (.bool y3), .v (vInt z1), .v (vInt z2), .v (.bool z3)]), ([13, 0], .box [.v (vInt h), .v (vInt n), .v (.bool o)]), ([21, 0], .arr 1 (o2.map vInt))]) (by kernel_rfl) ?_ fun K' hK => ?_
  rotate_left
  ·rcases hi3 with rfl | rfl | rfl
   all_goals
    rw [hww] at hli
    simp only [wayL, List.getD_cons_zero, List.getD_cons_succ] at hli
    subst hli
    simp only [go_sem, hws, tf152_0, tr51, tp51, Nat.reduceLeDiff, Nat.le_refl, Int.toNat_natCast, Int.natCast_nonneg, h3, hpk, hw1]
    repeat refine ⟨ob, ?_⟩
    first | refine ⟨by rfl, ?_⟩ | skip
    refine hK _ (weakM_keep [2,3,4,5,9,12,13,41,42] [[4, 0],[5, 0],[13, 0],[21, 0]] ?_ ?_)
    ·simp only [go_sem]
    ·simp only [go_sem]
  repeat refine sq ?_
  refine cl_rs hΓ [2,3,4,5,9,12,13,41,42,64] [[4, 0],[5, 0],[13, 0],[21, 0]] fun K' hK => ?_
  simp only [go_sem]
  repeat refine ⟨ob, ?_⟩
  refine hK _ ?_ ?_ <;> clear K' hK <;> simp only [go_sem]
  repeat refine sq ?_
  refine cl_cond rfl rfl (fun hb => ?_) fun hb => ?_
  ·rw [if_pos hb] at hnx
   repeat refine sq ?_
   refine cl_rs hΓ [2,3,4,5,9,12,13,15,41,42] [[4, 0],[5, 0],[13, 0],[21, 0]] fun K' hK => ?_
   simp only [go_sem, hth]
   repeat refine ⟨ob, ?_⟩
   refine hK _ ?_ ?_ <;> clear K' hK <;> simp only [go_sem, hth]
   repeat refine sq ?_
   refine cl_dwE hΓ hP [[], [], [], [2], [], [], [], [5, 6], [5, 6, 7], [], [9], [4, 5, 6, 7, 8, 9, 10], [0, 1, 2, 3, 4, 5, 6, 7, 8, 9, 10, 11]] (mkS 105 [0] (fun _ => none) [(2, ⟨true, .v (.bool lf)⟩), (3, ⟨true, .v (vInt ho)⟩), (4, ⟨true, .ref [4, 0] 0⟩), (5, ⟨true, .ref [5, 0] 0⟩), (9, ⟨true, .msl [21, 0] c.length⟩), (41, ⟨true, .agg [.v (vInt x1), .v (vInt x2), .v (.bool x3), .v (vInt y1), .v (vInt y2), .v (.bool y3), .v (vInt z1), .v (vInt z2), .v (.bool z3)]⟩), (42, ⟨true, .v (vInt i)⟩)] [([4, 0], .box [.v (.sl (c.map encD)), .v (vInt day)]), ([5, 0], .box [.v (vInt l0), .v (vInt l1), .v (vInt l2), .v (vInt p0), .v (vInt p1), .v (vInt p2), .v (vInt x1), .v (vInt x2), .v (.bool x3), .v (vInt y1), .v (vInt y2), .v (.bool y3), .v (vInt z1), .v (vInt z2), .v (.bool z3)]), ([21, 0], .arr 1 (o3.map vInt))]) (by kernel_rfl) (fun _ h => h) ?_ fun K' hK => ?_
   rotate_left
   ·rcases hi3 with rfl | rfl | rfl
    all_goals
     rw [hww] at hpi
     simp only [wayP, List.getD_cons_zero, List.getD_cons_succ] at hpi
     subst hpi
     simp only [go_sem, tf152_1, tr51, tp51, Nat.reduceLeDiff, Nat.le_refl, Int.toNat_natCast, Int.natCast_nonneg, h3, hpk, hw2]
     repeat refine ⟨ob, ?_⟩
     first | refine ⟨by rfl, ?_⟩ | skip
     refine hK _ (weakM_keep [2,3,4,5,9,41,42] [[4, 0],[5, 0],[21, 0]] ?_ ?_)
     ·simp only [go_sem]
     ·simp only [go_sem]
   repeat refine sq ?_
   refine cl_r hΓ fun K' hK => ?_
   simp only [go_sem]
   repeat refine ⟨ob, ?_⟩
   refine hK _ ?_
   clear K' hK
   simp only [go_sem]
   refine ⟨i + 1, by omega, by omega, ?_⟩
   rw [hnx]
   refine weak_eq [2,3,4,5,9,41,42] [[4, 0],[5, 0],[21, 0]] ?_ ?_
   ·simp only [go_sem, hws, Int.natCast_add, Int.natCast_one]
   ·simp only [go_sem, hws, Int.natCast_add, Int.natCast_one]
  ·rw [if_neg (by simp [hb])] at hnx
   repeat refine sq ?_
   refine cl_skip ?_
   refine cl_nil ?_
   simp only [go_sem]
   refine cl_keep [2,3,4,5,9,41,42] [[4, 0],[5, 0],[21, 0]] ?_ ?_
   ·simp only [go_sem]
   simp only [go_sem]
   repeat refine sq ?_
   refine cl_r hΓ fun K' hK => ?_
   simp only [go_sem]
   repeat refine ⟨ob, ?_⟩
   refine hK _ ?_
   clear K' hK
   simp only [go_sem]
   refine ⟨i + 1, by omega, by omega, ?_⟩
   rw [hnx]
   refine weak_eq [2,3,4,5,9,41,42] [[4, 0],[5, 0],[21, 0]] ?_ ?_
   ·simp only [go_sem, hws, Int.natCast_add, Int.natCast_one]
   ·simp only [go_sem, hws, Int.natCast_add, Int.natCast_one]
 have hge : i = 3 := by
  have : ¬ (i : Int) < 3 := by simpa using hb
  omega
 subst hge
 clear hb
 repeat refine sq ?_
 refine cl_exit ?_
 simp only [go_sem]
 refine cl_keep [2,3,4,9] [[4, 0],[21, 0]] ?_ ?_
 ·simp only [go_sem]
 simp only [go_sem]
 unfold showL
 have hll := lckT_len c day w lf 3
 generalize lckT c day w lf 3 = o1 at hll ⊢
 repeat refine sq ?_
 refine cl_rs hΓ [3,4,9,85] [[4, 0],[21, 0]] fun K' hK => ?_
 simp only [go_sem]
 repeat refine ⟨ob, ?_⟩
 refine hK _ ?_ ?_ <;> clear K' hK <;> simp only [go_sem]
 have hof := fun (obj : Name → Option O) (t : Name) => sOff_ap2 (obj := obj) (t := t) (c := c) (day := day) (pe := ho) (inn := false) hc60 hkc
 by_cases hh : ho > 0
 ·rw [if_pos hh]
  repeat refine sq ?_
  refine cl_cond rfl rfl (fun _ => ?_) (fun hb => absurd hh (by simpa using hb))
  repeat refine sq ?_
  have hw2 := fun (obj : Name → Option O) (t : Name) (h1 : obj [21, 0] = _) => hwr obj t 0 ho (offFind (thrL c 0 ho) false day).1 o1 h1 hll
  rw [hll] at hw2
  have hwp3 : wrL c 0 ho (pickL (thrL c 0 ho) (offFind (thrL c 0 ho) false day).1 day) o1 = wP c 0 ho (offFind (thrL c 0 ho) false day).1 day o1 := rfl
  rw [hwp3] at hw2
  have hwl : (wP c 0 ho (offFind (thrL c 0 ho) false day).1 day o1).length = c.length := by rw [wP_len]; exact hll
  generalize wP c 0 ho (offFind (thrL c 0 ho) false day).1 day o1 = o3 at hw2 hwl ⊢
  repeat refine sq ?_
  refine cl_rs hΓ [3,4,9,16] [[4, 0],[21, 0]] fun K' hK => ?_
  simp only [go_sem, hof]
  repeat refine ⟨ob, ?_⟩
  refine hK _ ?_ ?_ <;> clear K' hK <;> simp only [go_sem, hof]
  repeat refine sq ?_
  refine cl_ds hΓ hP [[], [], [], [], [3], [], [3, 4, 5], [], [], [8], [3, 4, 5, 6, 7, 8, 9], [0, 1, 2, 3, 4, 5, 6, 7, 8, 9, 10]] [9] [[21, 0]] (by kernel_rfl) fun K' hK => ?_
  simp only [go_sem, hth, hpk, hw2]
  repeat refine ⟨ob, ?_⟩
  first | refine ⟨by rfl, ?_⟩ | skip
  refine hK _ ?_ ?_ <;> clear K' hK <;> simp only [go_sem]
  repeat refine sq ?_
  refine cl_rs hΓ [8] [[21, 0]] fun K' hK => ?_
  simp only [go_sem]
  repeat refine ⟨ob, ?_⟩
  refine hK _ ?_ ?_ <;> clear K' hK <;> simp only [go_sem]
  refine cl_ret ?_
  simp only [go_sem]
  all_goals simp [hwl]
 ·rw [if_neg hh]
  repeat refine sq ?_
  refine cl_cond rfl rfl (fun hb => absurd (by simpa using hb) hh) (fun _ => ?_)
  repeat refine sq ?_
  refine cl_skip ?_
  repeat refine sq ?_
  refine cl_rs hΓ [8] [[21, 0]] fun K' hK => ?_
  simp only [go_sem]
  repeat refine ⟨ob, ?_⟩
  refine hK _ ?_ ?_ <;> clear K' hK <;> simp only [go_sem]
  refine cl_ret ?_
  simp only [go_sem]
  all_goals simp [hll]
def lawY (c : List Deed) (day : Int) (ps : List Int) : Way := match (List.range (wN c day)).find? (goodW c day ps) with
 | some k => ⟨wA c day k, wB c day k, wC c day k, (offA c day (wX c day k) true).1, (offA c day (wY c day k) true).1, (offA c day (wZ c day k) true).1, wX c day k, wY c day k, wZ c day k⟩
 | none => ⟨0, 0, 0, 0, 0, 0, zeroS, zeroS, zeroS⟩
def unY (c : List Deed) (day : Int) (ps : List Int) : Way := match (List.range (wN c day)).find? (badW c day ps) with
 | some k => ⟨wA c day k, wB c day k, wC c day k, 0, 0, 0, wX c day k, wY c day k, wZ c day k⟩
 | none => ⟨0, 0, 0, 0, 0, 0, zeroS, zeroS, zeroS⟩
theorem lawY_eq (c : List Deed) (day : Int) (ps : List Int) : (lawW c day ps).1 = encWay (lawY c day ps) := by
 unfold lawW lawY
 cases (List.range (wN c day)).find? (goodW c day ps) <;> rfl
theorem unY_eq (c : List Deed) (day : Int) (ps : List Int) : (unW c day ps).1 = encWay (unY c day ps) := by
 unfold unW unY
 cases (List.range (wN c day)).find? (badW c day ps) <;> rfl
noncomputable def shIs (c : List Deed) (day : Int) (ps : List Int) (lf : Bool) : Bool := if lf then (lawW c day ps).2 else (unW c day ps).2.2
noncomputable def shE (l : List Deed) (ps : List Int) (day k : Int) (lf : Bool) : Int := if lwE l ps day k = 0 then (if shIs (countL l k) day ps lf then 0 else 3) else lwE l ps day k
def shL (c : List Deed) (day : Int) (ps : List Int) (lf : Bool) : List Int := if lf then showL c day (lawY c day ps) true 0 else showL c day (unY c day ps) false (unW c day ps).2.1
noncomputable def shD (l : List Deed) (ps : List Int) (day k : Int) (lf : Bool) : List Int := if shE l ps day k lf = 0 then shL (countL l k) day ps lf else []
noncomputable def sShow : Spec := pShow.toSpec
theorem sShow_app {obj : Name → Option O} {t : Name} {c : List Deed} {day a b d p q r x1 x2 y1 y2 z1 z2 ho : Int} {x3 y3 z3 lf : Bool} (hl : c.length ≤ 60) (hk : ∀ d ∈ c, kindOk d) (h0 : 0 ≤ day) (h1 : day ≤ 100000) :
  sShow.app obj t [.agg [.v (.sl (c.map encD)), .v (vInt day)], .agg [.v (vInt a), .v (vInt b), .v (vInt d), .v (vInt p), .v (vInt q), .v (vInt r), .v (vInt x1), .v (vInt x2), .v (.bool x3), .v (vInt y1), .v (vInt y2), .v (.bool y3), .v (vInt z1), .v (vInt z2), .v (.bool z3)], .v (.bool lf), .v (vInt ho)] = ⟨True, .v (.sl ((showL c day ⟨a, b, d, p, q, r, ⟨x1, x2, x3⟩, ⟨y1, y2, y3⟩, ⟨z1, z2, z3⟩⟩ lf ho).map vInt)), obj⟩ := by
 have e : frzL (frz 6) obj [.agg [.v (vInt a), .v (vInt b), .v (vInt d), .v (vInt p), .v (vInt q), .v (vInt r), .v (vInt x1), .v (vInt x2), .v (.bool x3), .v (vInt y1), .v (vInt y2), .v (.bool y3), .v (vInt z1), .v (vInt z2), .v (.bool z3)], .v (.bool lf), .v (vInt ho)] = ⟨True, [encWay ⟨a, b, d, p, q, r, ⟨x1, x2, x3⟩, ⟨y1, y2, y3⟩, ⟨z1, z2, z3⟩⟩, .bool lf, vInt ho], obj⟩ := by
  simp [frzL, frz, D.one, V.one, encWay, encW]
 simp only [sShow, PSpec.toSpec, frz_op e, pShow_fn]
 simp only [pShow, Bool.false_eq_true, if_false]
 congr 1
 simp only [eq_iff_iff, iff_true]
 exact ⟨trivial, c, day, _, lf, ho, rfl, hl, hk, h0, h1⟩
noncomputable def K107 : FuncId → Option Spec := fun f => match f with
 | 82 => some (sLPI openV false)
 | 83 => some (sLI okL contV false)
 | 127 => some sLaw
 | 128 => some sUn
 | 129 => some sShow
 | _ => none
theorem K107_sound : ∀ f s, K107 f = some s → SSound Tryz.prog f s := by
 intro f s h
 unfold K107 at h
 split at h
 ·cases h; exact s82.sound
 ·cases h; exact s83.sound
 ·cases h; exact s127.sound
 ·cases h; exact s128.sound
 ·cases h; exact s129.sound
 ·cases h
@[go_sem] theorem K107_82 : K107 82 = some (sLPI openV false) := rfl
@[go_sem] theorem K107_83 : K107 83 = some (sLI okL contV false) := rfl
@[go_sem] theorem K107_127 : K107 127 = some sLaw := rfl
@[go_sem] theorem K107_128 : K107 128 = some sUn := rfl
@[go_sem] theorem K107_129 : K107 129 = some sShow := rfl
def pShw (f : List Deed → List Int → Int → Int → Bool → V) : PSpec := ⟨fun xs => ∃ (l : List Deed) (ps : List Int) (a b : Int) (lf : Bool), xs = [.sl (l.map encD), .sl (ps.map vInt), vInt a, vInt b, .bool lf], fun xs => match xs with | [.sl l, .sl ps, .int _ a, .int _ b, .bool lf] => f (l.map decD) (ps.map decI) a b lf | _ => .bool false, false⟩
theorem pShw_fn (f : List Deed → List Int → Int → Int → Bool → V) (l : List Deed) (ps : List Int) (a b : Int) (lf : Bool) : (pShw f).fn [.sl (l.map encD), .sl (ps.map vInt), vInt a, vInt b, .bool lf] = f l ps a b lf := by
 simp only [pShw, decD_map, decI_map]
set_option maxHeartbeats 16000000 in
theorem s66 : PSound Tryz.prog 66 (pShw fun l ps day k lf => .tup [.sl ((shD l ps day k lf).map vInt), vInt (shE l ps day k lf)]) := by
 refine psoundB (rs := [.tmp 10, .tmp 11]) Tryz.func66 Tryz.ntmps66 (by rfl) (by kernel_rfl) (by decide) (fun h => by cases h) ⟨_, rfl, ?_⟩
 rintro xs ⟨l, ps, day, k, lf, rfl⟩ hw
 refine ⟨lb rfl, ?_⟩
 rw [pShw_fn]
 have hΓ := K107_sound
 repeat refine sq ?_
 refine cl_rs hΓ [0,1,2,3,4] [] fun K' hK => ?_
 simp only [go_sem]
 repeat refine ⟨ob, ?_⟩
 refine hK _ ?_ ?_ <;> clear K' hK <;> simp only [go_sem]
 by_cases ho : openE l ps day k = 0
 rotate_left
 ·have hov : openV l ps day k = .tup [.agg [.sl [], vInt 0], vInt (openE l ps day k)] := by unfold openV; rw [if_neg ho]
  have hE : lwE l ps day k = openE l ps day k := by unfold lwE; rw [if_neg ho]
  have hS : shE l ps day k lf = openE l ps day k := by unfold shE; rw [hE, if_neg ho]
  have hD : shD l ps day k lf = [] := by unfold shD; rw [hS, if_neg ho]
  rw [hD, hS]
  repeat refine sq ?_
  refine cl_rs hΓ [13] [] fun K' hK => ?_
  simp only [go_sem, sLPI_app, hov, tz111, tp111, Nat.reduceLeDiff, Nat.le_refl]
  repeat refine ⟨ob, ?_⟩
  refine hK _ ?_ ?_ <;> clear K' hK <;> simp only [go_sem, sLPI_app, hov, tz111, tp111, Nat.reduceLeDiff, Nat.le_refl]
  repeat refine sq ?_
  refine cl_rs hΓ [13,28] [] fun K' hK => ?_
  simp only [go_sem]
  repeat refine ⟨ob, ?_⟩
  refine hK _ ?_ ?_ <;> clear K' hK <;> simp only [go_sem]
  repeat refine sq ?_
  refine cl_cond rfl rfl (fun hb => ?_) fun hb => ?_
  ·repeat refine sq ?_
   refine cl_rs hΓ [10,11] [] fun K' hK => ?_
   simp only [go_sem]
   repeat refine ⟨ob, ?_⟩
   refine hK _ ?_ ?_ <;> clear K' hK <;> simp only [go_sem]
   refine cl_ret ?_
   simp only [go_sem]
  ·exact (ho (by simpa using hb)).elim
 obtain ⟨hz, har, hdz⟩ := openE_ok ho
 have hov : openV l ps day k = .tup [.agg [.sl ((countL l k).map encD), vInt day], vInt 0] := by unfold openV; rw [if_pos ho]
 have hok := days_ok hdz
 have hlen : (countL l k).length ≤ 60 := by have := countL_len l k; have := hok.2.2; omega
 have hkc : ∀ d ∈ countL l k, kindOk d := fun d hd => kind_of (countL_valid hok k d hd)
 have hc := fun (obj : Name → Option O) (t : Name) (f : List Deed → Int → V) (fl : Bool) => sLI_app (P := okL) (f := f) (fl := fl) (obj := obj) (t := t) (k := k) hok
 have hdd : 0 ≤ day ∧ day ≤ 100000 := by
  unfold daysI at hdz
  rw [if_pos hz] at hdz
  split at hdz
  ·cases hdz
  ·rename_i h; simp at h; exact day_iff.1 h.1
 repeat refine sq ?_
 refine cl_rs hΓ [0,1,3,4,12,13] [[12, 0]] fun K' hK => ?_
 simp only [go_sem, sLPI_app, hov, tz111, tp111, Nat.reduceLeDiff, Nat.le_refl]
 repeat refine ⟨ob, ?_⟩
 refine hK _ ?_ ?_ <;> clear K' hK <;> simp only [go_sem, sLPI_app, hov, tz111, tp111, Nat.reduceLeDiff, Nat.le_refl]
 repeat refine sq ?_
 refine cl_rs hΓ [0,1,3,4,12,28] [[12, 0]] fun K' hK => ?_
 simp only [go_sem]
 repeat refine ⟨ob, ?_⟩
 refine hK _ ?_ ?_ <;> clear K' hK <;> simp only [go_sem]
 repeat refine sq ?_
 refine cl_cond rfl rfl (fun hb => ?_) fun hb => ?_
 ·simp at hb
 repeat refine sq ?_
 refine cl_skip ?_
 by_cases hcf : (confP (countL l k)).isSome = true
 ·have he : contV l k = .tup [.sl [], vInt 13] := by unfold contV; rw [if_pos hcf]
  have hE : lwE l ps day k = 13 := by unfold lwE; rw [if_pos ho, if_pos hcf]
  have hS : shE l ps day k lf = 13 := by unfold shE; rw [hE]; rfl
  have hD : shD l ps day k lf = [] := by unfold shD; rw [hS]; rfl
  rw [hD, hS]
  repeat refine sq ?_
  refine cl_rs hΓ [15] [] fun K' hK => ?_
  simp only [go_sem, hc, he]
  repeat refine ⟨ob, ?_⟩
  refine hK _ ?_ ?_ <;> clear K' hK <;> simp only [go_sem, hc, he]
  repeat refine sq ?_
  refine cl_rs hΓ [15,37] [] fun K' hK => ?_
  simp only [go_sem]
  repeat refine ⟨ob, ?_⟩
  refine hK _ ?_ ?_ <;> clear K' hK <;> simp only [go_sem]
  repeat refine sq ?_
  refine cl_cond rfl rfl (fun hb => ?_) fun hb => ?_
  ·repeat refine sq ?_
   refine cl_rs hΓ [10,11] [] fun K' hK => ?_
   simp only [go_sem]
   repeat refine ⟨ob, ?_⟩
   refine hK _ ?_ ?_ <;> clear K' hK <;> simp only [go_sem]
   refine cl_ret ?_
   simp only [go_sem]
  ·simp at hb
 have he : contV l k = .tup [.sl ((countL l k).map encD), vInt 0] := by unfold contV; rw [if_neg hcf]
 have hE : lwE l ps day k = 0 := by unfold lwE; rw [if_pos ho, if_neg hcf]
 have hS : shE l ps day k lf = if shIs (countL l k) day ps lf then 0 else 3 := by unfold shE; rw [if_pos hE]
 have hD : shD l ps day k lf = if shIs (countL l k) day ps lf then shL (countL l k) day ps lf else [] := by
  unfold shD; rw [hS]; cases shIs (countL l k) day ps lf <;> rfl
 repeat refine sq ?_
 refine cl_rs hΓ [1,4,12,15] [[12, 0]] fun K' hK => ?_
 simp only [go_sem, hc, he]
 repeat refine ⟨ob, ?_⟩
 refine hK _ ?_ ?_ <;> clear K' hK <;> simp only [go_sem, hc, he]
 repeat refine sq ?_
 refine cl_rs hΓ [1,4,12,37] [[12, 0]] fun K' hK => ?_
 simp only [go_sem]
 repeat refine ⟨ob, ?_⟩
 refine hK _ ?_ ?_ <;> clear K' hK <;> simp only [go_sem]
 repeat refine sq ?_
 refine cl_cond rfl rfl (fun hb => ?_) fun hb => ?_
 ·simp at hb
 repeat refine sq ?_
 refine cl_skip ?_
 have hlw := fun (obj : Name → Option O) (t : Name) => sLaw_app (obj := obj) (t := t) (day := day) (ps := ps) hlen hkc
 have hun := fun (obj : Name → Option O) (t : Name) => sUn_app (obj := obj) (t := t) (day := day) (ps := ps) hlen hkc
 have hly := lawY_eq (countL l k) day ps
 have huy := unY_eq (countL l k) day ps
 rw [hly] at hlw
 rw [huy] at hun
 generalize countL l k = c at hlen hkc hlw hun hS hD ⊢
 have hsh := fun (obj : Name → Option O) (t : Name) (a b d p q r x1 x2 y1 y2 z1 z2 ho : Int) (x3 y3 z3 lf : Bool) => sShow_app (obj := obj) (t := t) (day := day) (a := a) (b := b) (d := d) (p := p) (q := q) (r := r) (x1 := x1) (x2 := x2) (y1 := y1) (y2 := y2) (z1 := z1) (z2 := z2) (x3 := x3) (y3 := y3) (z3 := z3) (lf := lf) (ho := ho) hlen hkc hdd.1 hdd.2
 repeat refine sq ?_
 refine cl_rs hΓ [1,4,12,16] [[12, 0],[16, 0]] fun K' hK => ?_
 simp only [go_sem, tz152]
 repeat refine ⟨ob, ?_⟩
 refine hK _ ?_ ?_ <;> clear K' hK <;> simp only [go_sem, tz152]
 repeat refine sq ?_
 refine cl_rs hΓ [1,4,12,16,17,18] [[12, 0],[16, 0]] fun K' hK => ?_
 simp only [go_sem, tz152]
 repeat refine ⟨ob, ?_⟩
 refine hK _ ?_ ?_ <;> clear K' hK <;> simp only [go_sem, tz152]
 repeat refine sq ?_
 refine cl_rs hΓ [1,4,12,16,17,18,39] [[12, 0],[16, 0]] fun K' hK => ?_
 simp only [go_sem, tz152]
 repeat refine ⟨ob, ?_⟩
 refine hK _ ?_ ?_ <;> clear K' hK <;> simp only [go_sem, tz152]
 unfold encWay encW at hlw hun
 cases lf with
 | true =>
  have hY : shL c day ps true = showL c day (lawY c day ps) true 0 := by unfold shL; rw [if_pos rfl]
  have hI : shIs c day ps true = (lawW c day ps).2 := by unfold shIs; rw [if_pos rfl]
  rw [hI] at hS hD
  rw [hY] at hD
  rw [hS, hD]
  generalize (lawW c day ps).2 = is at hlw ⊢
  generalize lawY c day ps = w at hlw ⊢
  obtain ⟨l0, l1, l2, p0, p1, p2, ⟨x1, x2, x3⟩, ⟨y1, y2, y3⟩, ⟨z1, z2, z3⟩⟩ := w
  repeat refine sq ?_
  refine cl_condJ (mkS 60 [0] (fun _ => none) [(4, ⟨true, .v (.bool true)⟩), (12, ⟨true, .ref [12, 0] 0⟩), (16, ⟨true, .ref [16, 0] 0⟩), (17, ⟨true, .v (vInt 0)⟩), (18, ⟨true, .v (.bool is)⟩)] [([12, 0], .box [.v (.sl (c.map encD)), .v (vInt day)]), ([16, 0], .box [.v (vInt l0), .v (vInt l1), .v (vInt l2), .v (vInt p0), .v (vInt p1), .v (vInt p2), .v (vInt x1), .v (vInt x2), .v (.bool x3), .v (vInt y1), .v (vInt y2), .v (.bool y3), .v (vInt z1), .v (vInt z2), .v (.bool z3)])]) rfl rfl (fun hb => ?_) (fun hb => by cases hb) ?_
  ·repeat refine sq ?_
   refine cl_r hΓ fun K' hK => ?_
   simp only [go_sem, hlw, tp152, Nat.reduceLeDiff, Nat.le_refl]
   repeat refine ⟨ob, ?_⟩
   refine hK _ ?_
   clear K' hK
   refine weakM_keep [4,12,16,17,18] [[12, 0],[16, 0]] ?_ ?_
   ·simp only [go_sem]
   ·simp only [go_sem]
  repeat refine sq ?_
  refine cl_rs hΓ [4,12,16,17,54] [[12, 0],[16, 0]] fun K' hK => ?_
  simp only [go_sem]
  repeat refine ⟨ob, ?_⟩
  refine hK _ ?_ ?_ <;> clear K' hK <;> simp only [go_sem]
  repeat refine sq ?_
  refine cl_cond rfl rfl (fun hb => ?_) fun hb => ?_
  ·have hi : is = false := by simpa using hb
   subst hi
   repeat refine sq ?_
   refine cl_rs hΓ [10,11] [] fun K' hK => ?_
   simp only [go_sem]
   repeat refine ⟨ob, ?_⟩
   refine hK _ ?_ ?_ <;> clear K' hK <;> simp only [go_sem]
   refine cl_ret ?_
   simp only [go_sem]
  have hi : is = true := by simpa using hb
  subst hi
  repeat refine sq ?_
  refine cl_skip ?_
  repeat refine sq ?_
  refine cl_rs hΓ [10,11] [] fun K' hK => ?_
  simp only [go_sem, hsh]
  repeat refine ⟨ob, ?_⟩
  refine hK _ ?_ ?_ <;> clear K' hK <;> simp only [go_sem, hsh]
  refine cl_ret ?_
  simp only [go_sem]
 | false =>
  have hY : shL c day ps false = showL c day (unY c day ps) false (unW c day ps).2.1 := by unfold shL; rw [if_neg Bool.false_ne_true]
  have hI : shIs c day ps false = (unW c day ps).2.2 := by unfold shIs; rw [if_neg Bool.false_ne_true]
  rw [hI] at hS hD
  rw [hY] at hD
  rw [hS, hD]
  generalize (unW c day ps).2.2 = is at hun ⊢
  generalize (unW c day ps).2.1 = ho at hun ⊢
  generalize unY c day ps = w at hun ⊢
  obtain ⟨l0, l1, l2, p0, p1, p2, ⟨x1, x2, x3⟩, ⟨y1, y2, y3⟩, ⟨z1, z2, z3⟩⟩ := w
  repeat refine sq ?_
  refine cl_condJ (mkS 60 [0] (fun _ => none) [(4, ⟨true, .v (.bool false)⟩), (12, ⟨true, .ref [12, 0] 0⟩), (16, ⟨true, .ref [16, 0] 0⟩), (17, ⟨true, .v (vInt ho)⟩), (18, ⟨true, .v (.bool is)⟩)] [([12, 0], .box [.v (.sl (c.map encD)), .v (vInt day)]), ([16, 0], .box [.v (vInt l0), .v (vInt l1), .v (vInt l2), .v (vInt p0), .v (vInt p1), .v (vInt p2), .v (vInt x1), .v (vInt x2), .v (.bool x3), .v (vInt y1), .v (vInt y2), .v (.bool y3), .v (vInt z1), .v (vInt z2), .v (.bool z3)])]) rfl rfl (fun hb => by cases hb) (fun hb => ?_) ?_
  ·repeat refine sq ?_
   refine cl_r hΓ fun K' hK => ?_
   simp only [go_sem, hun, tp152, Nat.reduceLeDiff, Nat.le_refl]
   repeat refine ⟨ob, ?_⟩
   refine hK _ ?_
   clear K' hK
   refine weakM_keep [4,12,16,17,18] [[12, 0],[16, 0]] ?_ ?_
   ·simp only [go_sem]
   ·simp only [go_sem]
  repeat refine sq ?_
  refine cl_rs hΓ [4,12,16,17,54] [[12, 0],[16, 0]] fun K' hK => ?_
  simp only [go_sem]
  repeat refine ⟨ob, ?_⟩
  refine hK _ ?_ ?_ <;> clear K' hK <;> simp only [go_sem]
  repeat refine sq ?_
  refine cl_cond rfl rfl (fun hb => ?_) fun hb => ?_
  ·have hi : is = false := by simpa using hb
   subst hi
   repeat refine sq ?_
   refine cl_rs hΓ [10,11] [] fun K' hK => ?_
   simp only [go_sem]
   repeat refine ⟨ob, ?_⟩
   refine hK _ ?_ ?_ <;> clear K' hK <;> simp only [go_sem]
   refine cl_ret ?_
   simp only [go_sem]
  have hi : is = true := by simpa using hb
  subst hi
  repeat refine sq ?_
  refine cl_skip ?_
  repeat refine sq ?_
  refine cl_rs hΓ [10,11] [] fun K' hK => ?_
  simp only [go_sem, hsh]
  repeat refine ⟨ob, ?_⟩
  refine hK _ ?_ ?_ <;> clear K' hK <;> simp only [go_sem, hsh]
  refine cl_ret ?_
  simp only [go_sem]
def opnF (o : List Int) (x : Int) : List Int := if x > 0 then insI o x else o
def opnT (c : List Deed) (day : Int) : Nat → List Int
 | 0 => []
 | s + 1 => if s = 0 then [] else (whoL (fun x => x.n) (thrL c s 0) day).foldl opnF (opnT c day s)
def opnL (c : List Deed) (day : Int) : List Int := opnT c day 4
theorem opF_ok : ∀ (ws o : List Int), o.Pairwise (· < ·) → (ws.foldl opnF o).Pairwise (· < ·) ∧ (ws.foldl opnF o).length ≤ o.length + ws.length
 | [], o, h => ⟨h, Nat.le_refl _⟩
 | x :: r, o, h => by
  have h1 : (opnF o x).Pairwise (· < ·) ∧ (opnF o x).length ≤ o.length + 1 := by
   unfold opnF
   split
   ·exact ⟨insI_sorted h, insI_len o x⟩
   ·exact ⟨h, by omega⟩
  obtain ⟨h2, h3⟩ := opF_ok r (opnF o x) h1.1
  rw [List.foldl_cons]
  refine ⟨h2, ?_⟩
  simp only [List.length_cons]
  omega
theorem whoL_len (f : Sta → Int) (t : List Deed) (day : Int) : (whoL f t day).length ≤ t.length + 1 := (whoTo_ok f t day (t.length + 1)).2
theorem opT_ok {c : List Deed} (h : c.length ≤ 60) (day : Int) : ∀ s, (opnT c day s).Pairwise (· < ·) ∧ (opnT c day s).length ≤ 61 * s
 | 0 => ⟨.nil, Nat.le_refl _⟩
 | s + 1 => by
  obtain ⟨h1, h2⟩ := opT_ok h day s
  unfold opnT
  split
  ·exact ⟨.nil, by simp⟩
  ·obtain ⟨h3, h4⟩ := opF_ok (whoL (fun x => x.n) (thrL c s 0) day) (opnT c day s) h1
   have h5 := whoL_len (fun x => x.n) (thrL c s 0) day
   have h6 := List.length_filter_le (fun d => isOfB d s 0) c
   have h7 : (thrL c s 0).length ≤ 60 := by unfold thrL; omega
   exact ⟨h3, by omega⟩
noncomputable def opnI (c : List Deed) (day : Int) : Int := if areB (opnL c day) = true then (if ansW c day (opnL c day) = 1 then 0 else 18) else 18
noncomputable def opnE (l : List Deed) (day k : Int) : Int := if askE l day k = 0 then opnI (countL l k) day else askE l day k
noncomputable def opnD (l : List Deed) (day k : Int) : List Int := if opnE l day k = 0 then opnL (countL l k) day else []
noncomputable def K108 : FuncId → Option Spec := fun f => match f with
 | 110 => some (sLII (fun _ => True) askV false)
 | 86 => some (sLII (fun l => l.length ≤ 60) (fun l lo pe => .sl ((thrL l lo pe).map encD)) false)
 | 91 => some sWho
 | 94 => some sPutI
 | 126 => some sAre
 | 84 => some sAnsW
 | _ => none
theorem K108_sound : ∀ f s, K108 f = some s → SSound Tryz.prog f s := by
 intro f s h
 unfold K108 at h
 split at h
 ·cases h; exact s110.sound
 ·cases h; exact s86.sound
 ·cases h; exact s91.sound
 ·cases h; exact K56_sound _ _ rfl
 ·cases h; exact s126.sound
 ·cases h; exact s84.sound
 ·cases h
@[go_sem] theorem K108_110 : K108 110 = some (sLII (fun _ => True) askV false) := rfl
@[go_sem] theorem K108_86 : K108 86 = some (sLII (fun l => l.length ≤ 60) (fun l lo pe => .sl ((thrL l lo pe).map encD)) false) := rfl
@[go_sem] theorem K108_91 : K108 91 = some sWho := rfl
@[go_sem] theorem K108_94 : K108 94 = some sPutI := rfl
@[go_sem] theorem K108_126 : K108 126 = some sAre := rfl
@[go_sem] theorem K108_84 : K108 84 = some sAnsW := rfl
set_option maxHeartbeats 16000000 in
theorem s65 : PSound Tryz.prog 65 (pLII (fun _ => True) (fun l day k => .tup [.sl ((opnD l day k).map vInt), vInt (opnE l day k)]) false) := by
 refine psoundB (rs := [.tmp 6, .tmp 7]) Tryz.func65 Tryz.ntmps65 (by rfl) (by kernel_rfl) (by decide) (fun h => by cases h) ⟨_, rfl, ?_⟩
 rintro xs ⟨l, day, k, rfl, _⟩ hw
 refine ⟨lb rfl, ?_⟩
 rw [pLII_fn]
 have hΓ := K108_sound
 have hak := fun (obj : Name → Option O) (t : Name) (f : List Deed → Int → Int → V) (fl : Bool) (a b : Int) => sLII_app (P := fun _ => True) (f := f) (fl := fl) (obj := obj) (t := t) (l := l) (k := a) (j := b) trivial
 have hae := askV_eq l day k
 repeat refine sq ?_
 refine cl_rs hΓ [0,1,2] [] fun K' hK => ?_
 simp only [go_sem]
 repeat refine ⟨ob, ?_⟩
 refine hK _ ?_ ?_ <;> clear K' hK <;> simp only [go_sem]
 by_cases ha : askE l day k = 0
 rotate_left
 ·rw [if_neg ha] at hae
  have hE : opnE l day k = askE l day k := by unfold opnE; rw [if_neg ha]
  have hD : opnD l day k = [] := by unfold opnD; rw [hE, if_neg ha]
  rw [hD, hE]
  repeat refine sq ?_
  refine cl_rs hΓ [8,9] [] fun K' hK => ?_
  simp only [go_sem, hak, hae]
  repeat refine ⟨ob, ?_⟩
  refine hK _ ?_ ?_ <;> clear K' hK <;> simp only [go_sem, hak, hae]
  repeat refine sq ?_
  refine cl_rs hΓ [9,23] [] fun K' hK => ?_
  simp only [go_sem]
  repeat refine ⟨ob, ?_⟩
  refine hK _ ?_ ?_ <;> clear K' hK <;> simp only [go_sem]
  repeat refine sq ?_
  refine cl_cond rfl rfl (fun hb => ?_) fun hb => ?_
  ·repeat refine sq ?_
   refine cl_rs hΓ [6,7] [] fun K' hK => ?_
   simp only [go_sem]
   repeat refine ⟨ob, ?_⟩
   refine hK _ ?_ ?_ <;> clear K' hK <;> simp only [go_sem]
   refine cl_ret ?_
   simp only [go_sem]
  ·exact (ha (by simpa using hb)).elim
 rw [if_pos ha, ha] at hae
 obtain ⟨hok, hcf, _⟩ := askE_ok ha
 have hc60 : (countL l k).length ≤ 60 := by have := countL_len l k; have := hok.2.2; omega
 have hkc : ∀ d ∈ countL l k, kindOk d := fun d hd => kind_of (countL_valid hok k d hd)
 have hE : opnE l day k = opnI (countL l k) day := by unfold opnE; rw [if_pos ha]
 have hD : opnD l day k = if opnI (countL l k) day = 0 then opnL (countL l k) day else [] := by unfold opnD; rw [hE]
 rw [hD, hE]
 generalize countL l k = c at hae hc60 hkc ⊢
 repeat refine sq ?_
 refine cl_rs hΓ [1,8,9] [] fun K' hK => ?_
 simp only [go_sem, hak, hae]
 repeat refine ⟨ob, ?_⟩
 refine hK _ ?_ ?_ <;> clear K' hK <;> simp only [go_sem, hak, hae]
 repeat refine sq ?_
 refine cl_rs hΓ [1,8,23] [] fun K' hK => ?_
 simp only [go_sem]
 repeat refine ⟨ob, ?_⟩
 refine hK _ ?_ ?_ <;> clear K' hK <;> simp only [go_sem]
 repeat refine sq ?_
 refine cl_cond rfl rfl (fun hb => ?_) fun hb => ?_
 ·simp at hb
 repeat refine sq ?_
 refine cl_skip ?_
 have hth := fun (obj : Name → Option O) (t : Name) (f : List Deed → Int → Int → V) (fl : Bool) (a b : Int) => sLII_app (P := fun l => l.length ≤ 60) (f := f) (fl := fl) (obj := obj) (t := t) (l := c) (k := a) (j := b) hc60
 have htl : ∀ lo pe, (thrL c lo pe).length ≤ 60 := fun lo pe => by have := List.length_filter_le (fun d => isOfB d lo pe) c; unfold thrL; omega
 have htk : ∀ lo pe, ∀ d ∈ thrL c lo pe, kindOk d := fun lo pe d hd => hkc d (List.mem_filter.1 hd).1
 have hwho := fun (obj : Name → Option O) (tm : Name) (lo pe : Int) => sWho_app (obj := obj) (tm := tm) (day := day) (g := 93) (.inr rfl) (htl lo pe) (htk lo pe)
 have hf : fW 93 = fun s => s.n := rfl
 rw [hf] at hwho
 repeat refine sq ?_
 refine cl_rs hΓ [1,8,10] [[10, 0]] fun K' hK => ?_
 simp only [go_sem, tz111, tp111, Nat.reduceLeDiff, Nat.le_refl]
 repeat refine ⟨ob, ?_⟩
 refine hK _ ?_ ?_ <;> clear K' hK <;> simp only [go_sem, tz111, tp111, Nat.reduceLeDiff, Nat.le_refl]
 repeat refine sq ?_
 refine cl_rs hΓ [1,8,10,11] [[10, 0]] fun K' hK => ?_
 simp only [go_sem]
 repeat refine ⟨ob, ?_⟩
 refine hK _ ?_ ?_ <;> clear K' hK <;> simp only [go_sem]
 refine cl_weakM (σ' := mkS 58 [0] (fun _ => none) [(1, ⟨true, .v (vInt day)⟩), (8, ⟨true, .v (.sl (c.map encD))⟩), (10, ⟨true, .ref [10, 0] 0⟩), (11, ⟨true, .msl [46, 0] 0⟩)] [([10, 0], .box [.v (.sl (c.map encD)), .v (vInt day)]), ([46, 0], .arr 1 [])]) (weakM_ghostk 11 [46, 0] 1 (by simp only [go_sem]) (by simp only [go_sem]) [1, 8, 10, 11] [[10, 0],[46, 0]] ?_ ?_) ?_
 ·simp only [go_sem]
 ·simp only [go_sem]
 repeat refine sq ?_
 refine cl_rs hΓ [1,8,10,11,12] [[10, 0],[46, 0]] fun K' hK => ?_
 simp only [go_sem]
 repeat refine ⟨ob, ?_⟩
 refine hK _ ?_ ?_ <;> clear K' hK <;> simp only [go_sem]
 repeat refine sq ?_
 refine cl_block ?_
 repeat refine sq ?_
 refine cl_loop' (fun s : Nat => [(11, ⟨true, .msl [46, 0] (opnT c day s).length⟩), (12, ⟨true, .v (vInt s)⟩)]) (fun s => [([46, 0], .arr 1 ((opnT c day s).map vInt))]) (fun s => 1 ≤ s ∧ s ≤ 4) (fun s => 4 - s) 1 ?_ ?_ ?_ ?_
 ·exact ⟨Nat.le_refl _, by decide⟩
 ·rfl
 ·rfl
 rintro i ⟨hi1, hi⟩
 simp only [go_sem]
 repeat refine sq ?_
 refine cl_rs hΓ [1,8,10,11,12,29] [[10, 0],[46, 0]] fun K' hK => ?_
 simp only [go_sem]
 repeat refine ⟨ob, ?_⟩
 refine hK _ ?_ ?_ <;> clear K' hK <;> simp only [go_sem]
 repeat refine sq ?_
 refine cl_cond rfl rfl (fun hb => ?_) fun hb => ?_
 ·have hle : i ≤ 3 := by
   have : (i : Int) ≤ 3 := by simpa using hb
   omega
  have hws : IntKind.i64.wrap ((i : Int) + 1) = ((i + 1 : Nat) : Int) := wrap_succ (n := 4) (by omega) (by unfold maxLen; omega)
  have hnx : opnT c day (i + 1) = (whoL (fun x => x.n) (thrL c i 0) day).foldl opnF (opnT c day i) := by show (if i = 0 then _ else _) = _; rw [if_neg (by omega)]
  obtain ⟨hs1, hs2⟩ := opT_ok hc60 day i
  have hwl := whoL_len (fun x => x.n) (thrL c i 0) day
  have htl1 := htl i 0
  clear hb
  repeat refine sq ?_
  refine cl_skip ?_
  repeat refine sq ?_
  refine cl_block ?_
  repeat refine sq ?_
  refine cl_rs hΓ [1,8,10,11,12,36,37,38] [[10, 0],[46, 0]] fun K' hK => ?_
  simp only [go_sem, hth, hwho]
  repeat refine ⟨ob, ?_⟩
  refine hK _ ?_ ?_ <;> clear K' hK <;> simp only [go_sem, hth, hwho]
  obtain ⟨ws, hwse⟩ : ∃ ws, ws = whoL (fun x => x.n) (thrL c i 0) day := ⟨_, rfl⟩
  rw [← hwse] at hnx hwl ⊢
  generalize opnT c day i = o0 at hs1 hs2 hnx ⊢
  have hwm : ws.length ≤ maxLen := by unfold maxLen; omega
  have hini : (([] : List Int).foldl opnF o0) = o0 := rfl
  repeat refine sq ?_
  refine cl_block ?_
  repeat refine sq ?_
  refine cl_loop' (fun s : Nat => [(11, ⟨true, .msl [46, 0] ((ws.take s).foldl opnF o0).length⟩), (38, ⟨true, .v (vInt s)⟩)]) (fun s => [([46, 0], .arr 1 (((ws.take s).foldl opnF o0).map vInt))]) (fun s => s ≤ ws.length) (fun s => ws.length - s) 0 ?_ ?_ ?_ ?_
  ·exact Nat.zero_le _
  ·rfl
  ·rfl
  rintro j hj
  simp only [go_sem]
  repeat refine sq ?_
  refine cl_rs hΓ [1,8,10,11,12,36,37,38,39] [[10, 0],[46, 0]] fun K' hK => ?_
  simp only [go_sem]
  repeat refine ⟨ob, ?_⟩
  refine hK _ ?_ ?_ <;> clear K' hK <;> simp only [go_sem]
  repeat refine sq ?_
  refine cl_cond rfl rfl (fun hb => ?_) fun hb => ?_
  ·have hlt : j < ws.length := by simpa using hb
   have hlt' : (j : Int) < ws.length := by omega
   clear hb
   repeat refine sq ?_
   refine cl_skip ?_
   repeat refine sq ?_
   refine cl_block ?_
   repeat refine sq ?_
   have hn2 : (ws.take (j + 1)).foldl opnF o0 = opnF ((ws.take j).foldl opnF o0) ws[j] := by
    rw [List.take_add_one, List.getElem?_eq_getElem hlt, List.foldl_append]; rfl
   obtain ⟨hp1, hp2⟩ := opF_ok (ws.take j) o0 hs1
   have hp3 : (ws.take j).length ≤ ws.length := by simp; omega
   generalize (ws.take j).foldl opnF o0 = o1 at hn2 hp1 hp2 ⊢
   repeat refine sq ?_
   refine cl_rs hΓ [1,8,10,11,12,14,36,37,38] [[10, 0],[46, 0]] fun K' hK => ?_
   simp only [go_sem, map_getD hlt, Int.toNat_natCast, Int.natCast_nonneg, hlt']
   repeat refine ⟨ob, ?_⟩
   refine hK _ ?_ ?_ <;> clear K' hK <;> simp only [go_sem, map_getD hlt, Int.toNat_natCast, Int.natCast_nonneg, hlt']
   repeat refine sq ?_
   refine cl_rs hΓ [1,8,10,11,12,14,36,37,38,43] [[10, 0],[46, 0]] fun K' hK => ?_
   simp only [go_sem]
   repeat refine ⟨ob, ?_⟩
   refine hK _ ?_ ?_ <;> clear K' hK <;> simp only [go_sem]
   have hq : opnF o1 ws[j] = if ws[j] > 0 then insI o1 ws[j] else o1 := rfl
   rw [hq] at hn2
   repeat refine sq ?_
   refine cl_cond rfl rfl (fun hb => ?_) fun hb => ?_
   ·have hg : ws[j] > 0 := by simpa using hb
    rw [if_pos hg] at hn2
    have hput := fun obj t (ho : obj [46, 0] = _) => sPutI_app (obj := obj) (t := t) (nm := [46, 0]) (k := o1.length) (l := o1) (x := ws[j]) ho rfl hp1 (by omega)
    simp only [putI_ins _ hp1] at hput
    repeat refine sq ?_
    refine cl_r hΓ fun K' hK => ?_
    simp only [go_sem, hput]
    repeat refine ⟨ob, ?_⟩
    refine hK _ ?_
    clear K' hK
    simp only [go_sem]
    refine cl_keep [1,8,10,11,12,36,37,38] [[10, 0],[46, 0]] ?_ ?_
    ·simp only [go_sem]
    simp only [go_sem]
    repeat refine sq ?_
    refine cl_r hΓ fun K' hK => ?_
    simp only [go_sem]
    repeat refine ⟨ob, ?_⟩
    refine hK _ ?_
    clear K' hK
    simp only [go_sem]
    refine ⟨j + 1, hlt, (show ws.length - (j + 1) < ws.length - j by omega), ?_⟩
    rw [hn2]
    refine weak_eq [1,8,10,11,12,36,37,38] [[10, 0],[46, 0]] ?_ ?_
    ·simp only [go_sem, wrap_succ hlt hwm, Int.natCast_add, Int.natCast_one]
    ·simp only [go_sem, wrap_succ hlt hwm, Int.natCast_add, Int.natCast_one]
   ·have hg : ¬ ws[j] > 0 := by simpa using hb
    rw [if_neg hg] at hn2
    repeat refine sq ?_
    refine cl_skip ?_
    refine cl_nil ?_
    simp only [go_sem]
    refine cl_keep [1,8,10,11,12,36,37,38] [[10, 0],[46, 0]] ?_ ?_
    ·simp only [go_sem]
    simp only [go_sem]
    repeat refine sq ?_
    refine cl_r hΓ fun K' hK => ?_
    simp only [go_sem]
    repeat refine ⟨ob, ?_⟩
    refine hK _ ?_
    clear K' hK
    simp only [go_sem]
    refine ⟨j + 1, hlt, (show ws.length - (j + 1) < ws.length - j by omega), ?_⟩
    rw [hn2]
    refine weak_eq [1,8,10,11,12,36,37,38] [[10, 0],[46, 0]] ?_ ?_
    ·simp only [go_sem, wrap_succ hlt hwm, Int.natCast_add, Int.natCast_one]
    ·simp only [go_sem, wrap_succ hlt hwm, Int.natCast_add, Int.natCast_one]
  ·have hge : j = ws.length := by
    have : ¬ (j : Int) < ws.length := by simpa using hb
    omega
   subst hge
   clear hb
   repeat refine sq ?_
   refine cl_exit ?_
   simp only [go_sem]
   refine cl_keep [1,8,10,11,12] [[10, 0],[46, 0]] ?_ ?_
   ·simp only [go_sem]
   simp only [go_sem]
   rw [List.take_length, ← hnx]
   repeat refine sq ?_
   refine cl_r hΓ fun K' hK => ?_
   simp only [go_sem]
   repeat refine ⟨ob, ?_⟩
   refine hK _ ?_
   clear K' hK
   simp only [go_sem]
   refine ⟨i + 1, by omega, by omega, ?_⟩
   refine weak_eq [1,8,10,11,12] [[10, 0],[46, 0]] ?_ ?_
   ·simp only [go_sem, hws, Int.natCast_add, Int.natCast_one]
   ·simp only [go_sem, hws, Int.natCast_add, Int.natCast_one]
 have hge : i = 4 := by
  have : ¬ (i : Int) ≤ 3 := by simpa using hb
  omega
 subst hge
 clear hb
 repeat refine sq ?_
 refine cl_exit ?_
 simp only [go_sem]
 have ho4 : opnT c day 4 = opnL c day := rfl
 have haw := fun (obj : Name → Option O) (t : Name) => sAnsW_app (obj := obj) (t := t) (day := day) (ps := opnL c day) hc60 hkc
 rw [ho4]
 unfold opnI
 generalize opnL c day = ps at haw ⊢
 refine cl_keep [10,11] [[10, 0],[46, 0]] ?_ ?_
 ·simp only [go_sem]
 simp only [go_sem]
 refine cl_weakM (σ' := mkS 58 [0] (fun _ => none) [(10, ⟨true, .ref [10, 0] 0⟩), (11, ⟨true, .v (.sl (ps.map vInt))⟩)] [([10, 0], .box [.v (.sl (c.map encD)), .v (vInt day)])]) (weakM_frzk 11 (.msl [46, 0] ps.length) (by simp only [go_sem]) (by simp only [go_sem, List.length_map]) [10, 11] [[10, 0]] ?_ ?_) ?_
 ·simp only [go_sem]
 ·simp only [go_sem]
 by_cases h1 : areB ps = true
 ·rw [if_pos h1]
  by_cases h2 : ansW c day ps = 1
  ·have h3 : (ansW c day ps != 1) = false := by simpa using h2
   rw [if_pos h2]
   repeat refine sq ?_
   refine cl_rs hΓ [11,56] [] fun K' hK => ?_
   simp only [go_sem, sAre_app, h1, haw, h3]
   repeat refine ⟨ob, ?_⟩
   refine hK _ ?_ ?_ <;> clear K' hK <;> simp only [go_sem, sAre_app, h1, haw, h3]
   repeat refine sq ?_
   refine cl_cond rfl rfl (fun hb => by cases hb) (fun _ => ?_)
   repeat refine sq ?_
   refine cl_skip ?_
   repeat refine sq ?_
   refine cl_rs hΓ [6,7] [] fun K' hK => ?_
   simp only [go_sem]
   repeat refine ⟨ob, ?_⟩
   refine hK _ ?_ ?_ <;> clear K' hK <;> simp only [go_sem]
   refine cl_ret ?_
   simp only [go_sem]
  ·have h3 : (ansW c day ps != 1) = true := by simpa using h2
   rw [if_neg h2]
   repeat refine sq ?_
   refine cl_rs hΓ [11,56] [] fun K' hK => ?_
   simp only [go_sem, sAre_app, h1, haw, h3]
   repeat refine ⟨ob, ?_⟩
   refine hK _ ?_ ?_ <;> clear K' hK <;> simp only [go_sem, sAre_app, h1, haw, h3]
   repeat refine sq ?_
   refine cl_cond rfl rfl (fun _ => ?_) (fun hb => by cases hb)
   repeat refine sq ?_
   refine cl_rs hΓ [6,7] [] fun K' hK => ?_
   simp only [go_sem]
   repeat refine ⟨ob, ?_⟩
   refine hK _ ?_ ?_ <;> clear K' hK <;> simp only [go_sem]
   refine cl_ret ?_
   simp only [go_sem]
   rfl
 ·have h1' : areB ps = false := by simpa using h1
  rw [if_neg h1]
  repeat refine sq ?_
  refine cl_rs hΓ [11,56] [] fun K' hK => ?_
  simp only [go_sem, sAre_app, h1']
  repeat refine ⟨ob, ?_⟩
  refine hK _ ?_ ?_ <;> clear K' hK <;> simp only [go_sem, sAre_app, h1']
  repeat refine sq ?_
  refine cl_cond rfl rfl (fun _ => ?_) (fun hb => by cases hb)
  repeat refine sq ?_
  refine cl_rs hΓ [6,7] [] fun K' hK => ?_
  simp only [go_sem]
  repeat refine ⟨ob, ?_⟩
  refine hK _ ?_ ?_ <;> clear K' hK <;> simp only [go_sem]
  refine cl_ret ?_
  simp only [go_sem]
  rfl
theorem mem_opF : ∀ {ws o : List Int} {x : Int}, x ∈ ws.foldl opnF o ↔ x ∈ o ∨ (x ∈ ws ∧ x > 0)
 | [], o, x => by simp
 | a :: r, o, x => by
  rw [List.foldl_cons, mem_opF (ws := r)]
  have h1 : x ∈ opnF o a ↔ x ∈ o ∨ (x = a ∧ x > 0) := by
   unfold opnF
   split
   ·rename_i ha
    constructor
    ·intro h
     rcases mem_insI h with h | h
     ·exact .inr ⟨h, by omega⟩
     ·exact .inl h
    ·rintro (h | ⟨h, _⟩)
     ·exact insI_has (.inr h)
     ·exact insI_has (.inl h)
   ·rename_i ha
    constructor
    ·exact .inl
    ·rintro (h | ⟨h, h'⟩)
     ·exact h
     ·omega
  rw [h1, List.mem_cons]
  constructor
  ·rintro ((h | h) | h)
   ·exact .inl h
   ·exact .inr ⟨.inl h.1, h.2⟩
   ·exact .inr ⟨.inr h.1, h.2⟩
  ·rintro (h | ⟨h | h, h'⟩)
   ·exact .inl (.inl h)
   ·exact .inl (.inr ⟨h, h'⟩)
   ·exact .inr ⟨h, h'⟩
theorem mem_op {c : List Deed} {day x : Int} : x ∈ opnL c day ↔ x > 0 ∧ ∃ lock : Nat, 1 ≤ lock ∧ lock ≤ 3 ∧ ∃ s, mayP (thrL c lock 0) day s ∧ s.n = x := by
 have hw : ∀ lock : Nat, x ∈ whoL (fun s => s.n) (thrL c lock 0) day ↔ ∃ s, mayP (thrL c lock 0) day s ∧ s.n = x := fun lock => by
  rw [mem_who]
  constructor
  ·rintro ⟨n, h1, h2, h3⟩; exact ⟨_, ⟨n, h1, h2, rfl⟩, h3.symm⟩
  ·rintro ⟨s, ⟨n, h1, h2, rfl⟩, h3⟩; exact ⟨n, h1, h2, h3.symm⟩
 have e : opnL c day = (whoL (fun s => s.n) (thrL c (3 : Nat) 0) day).foldl opnF ((whoL (fun s => s.n) (thrL c (2 : Nat) 0) day).foldl opnF ((whoL (fun s => s.n) (thrL c (1 : Nat) 0) day).foldl opnF [])) := rfl
 rw [e, mem_opF, mem_opF, mem_opF, hw, hw, hw]
 constructor
 ·rintro (((h | h) | h) | h)
  ·cases h
  ·exact ⟨h.2, 1, by decide, by decide, h.1⟩
  ·exact ⟨h.2, 2, by decide, by decide, h.1⟩
  ·exact ⟨h.2, 3, by decide, by decide, h.1⟩
 ·rintro ⟨h0, lock, h1, h2, h3⟩
  have : lock = 1 ∨ lock = 2 ∨ lock = 3 := by omega
  rcases this with rfl | rfl | rfl
  ·exact .inl (.inl (.inr ⟨h3, h0⟩))
  ·exact .inl (.inr ⟨h3, h0⟩)
  ·exact .inr ⟨h3, h0⟩
theorem three_iff {L : List Sta} {ps : List Int} : threeB L ps = true ↔ ∀ i, i < 3 → (L.getD i zeroS).h ≠ 0 ∧ (∀ x ∈ L.take i, x.h ≠ (L.getD i zeroS).h) ∧ (L.getD i zeroS).n ∈ ps := by
 unfold threeB
 rw [List.all_eq_true]
 have hb : ∀ i, (!badK L ps i) = true ↔ (L.getD i zeroS).h ≠ 0 ∧ (∀ x ∈ L.take i, x.h ≠ (L.getD i zeroS).h) ∧ (L.getD i zeroS).n ∈ ps := fun i => by
  unfold badK
  simp only [Bool.not_or, Bool.and_eq_true, Bool.not_eq_true', beq_eq_false_iff_ne, Bool.not_not, List.any_eq_true, beq_iff_eq, ne_eq, List.any_eq_false]
  constructor
  ·rintro ⟨⟨h1, h2⟩, x, h3, h4⟩
   exact ⟨h1, fun y hy => by simpa using h2 y hy, h4 ▸ h3⟩
  ·rintro ⟨h1, h2, h3⟩
   exact ⟨⟨h1, fun y hy => by simpa using h2 y hy⟩, _, h3, rfl⟩
 constructor
 ·intro h i hi
  exact (hb i).1 (h i (List.mem_range.2 hi))
 ·intro h i hi
  exact (hb i).2 (h i (List.mem_range.1 hi))
theorem hands_in {l : List Deed} (h : okL l) {k : Int} (hn : ¬ (confP (countL l k)).isSome = true) {day : Int} (h0 : 0 ≤ day) {ps : List Int} (ha : ¬ unP (countL l k) day ps) {lock : Nat} (h1 : 1 ≤ lock) (h2 : lock ≤ 3) {s : Sta} (hs : mayP (thrL (countL l k) lock 0) day s) : s.n ∈ ps := by
 obtain ⟨g1, _⟩ := mayP_some h hn h0
 obtain ⟨x, hx⟩ := g1 1 (by decide)
 obtain ⟨y, hy⟩ := g1 2 (by decide)
 obtain ⟨z, hz⟩ := g1 3 (by decide)
 have key : ∀ x y z, mayP (thrL (countL l k) 1 0) day x → mayP (thrL (countL l k) 2 0) day y → mayP (thrL (countL l k) 3 0) day z → threeB [x, y, z] ps = true := fun x y z hx hy hz => by
  cases ht : threeB [x, y, z] ps with
  | true => rfl
  | false => exact (ha ⟨x, y, z, hx, hy, hz, .inl ht⟩).elim
 have : lock = 1 ∨ lock = 2 ∨ lock = 3 := by omega
 rcases this with rfl | rfl | rfl
 ·exact (three_iff.1 (key s y z hs hy hz) 0 (by decide)).2.2
 ·exact (three_iff.1 (key x s z hx hs hz) 1 (by decide)).2.2
 ·exact (three_iff.1 (key x y s hx hy hs) 2 (by decide)).2.2
theorem three_mono {c : List Deed} {day : Int} {x y z : Sta} {p q : List Int} (hx : mayP (thrL c 1 0) day x) (hy : mayP (thrL c 2 0) day y) (hz : mayP (thrL c 3 0) day z)
  (hpq : ∀ lock : Nat, 1 ≤ lock → lock ≤ 3 → ∀ s, mayP (thrL c lock 0) day s → s.n ∈ p → s.n ∈ q) (h : threeB [x, y, z] p = true) : threeB [x, y, z] q = true := by
 rw [three_iff] at h ⊢
 intro i hi
 obtain ⟨h1, h2, h3⟩ := h i hi
 refine ⟨h1, h2, ?_⟩
 have : i = 0 ∨ i = 1 ∨ i = 2 := by omega
 rcases this with rfl | rfl | rfl
 ·exact hpq 1 (by decide) (by decide) x hx h3
 ·exact hpq 2 (by decide) (by decide) y hy h3
 ·exact hpq 3 (by decide) (by decide) z hz h3
theorem un_mono {c : List Deed} {day : Int} {p q : List Int} (hpq : ∀ lock : Nat, 1 ≤ lock → lock ≤ 3 → ∀ s, mayP (thrL c lock 0) day s → s.n ∈ p → s.n ∈ q) (h : ¬ unP c day p) : ¬ unP c day q := by
 rintro ⟨x, y, z, hx, hy, hz, ht⟩
 refine h ⟨x, y, z, hx, hy, hz, ?_⟩
 rcases ht with ht | ht
 ·refine .inl ?_
  cases hp : threeB [x, y, z] p with
  | false => rfl
  | true => rw [three_mono hx hy hz hpq hp] at ht; cases ht
 ·exact .inr ht
theorem are_pos {ps : List Int} (h : areB ps = true) : ∀ x ∈ ps, 1 ≤ x ∧ x ≤ 99 := by
 intro x hx
 unfold areB at h
 simp only [decide_eq_true_eq] at h
 obtain ⟨i, hi, rfl⟩ := List.getElem_of_mem hx
 have := (h.1 i hi hi).1
 unfold isPersB at this
 exact inI_iff.1 this
theorem sub_len : ∀ {a b : List Int}, a.Pairwise (· < ·) → (∀ x ∈ a, x ∈ b) → a.length ≤ b.length
 | [], b, _, _ => Nat.zero_le _
 | x :: r, b, h, hs => by
  obtain ⟨h1, h2⟩ := List.pairwise_cons.1 h
  have hx : x ∈ b := hs x (by simp)
  have := sub_len (b := b.erase x) h2 fun y hy => by
   have hne : y ≠ x := by have := h1 y hy; omega
   exact (List.mem_erase_of_ne hne).2 (hs y (by simp [hy]))
  rw [List.length_erase_of_mem hx] at this
  have := List.length_pos_of_mem hx
  simp only [List.length_cons]
  omega
theorem op_are {c : List Deed} (hc : c.length ≤ 60) {day : Int} {ps : List Int} (hp : areB ps = true) (hs : ∀ x ∈ opnL c day, x ∈ ps) : areB (opnL c day) = true := by
 obtain ⟨h1, _⟩ := opT_ok hc day 4
 have h1 : (opnL c day).Pairwise (· < ·) := h1
 have h2 := sub_len h1 hs
 have hl : ps.length ≤ 12 := by unfold areB at hp; simp only [decide_eq_true_eq] at hp; exact hp.2
 unfold areB
 simp only [decide_eq_true_eq]
 refine ⟨fun j hj _ => ⟨?_, fun h0 => ?_⟩, by omega⟩
 ·have := are_pos hp _ (hs _ (List.getElem_mem hj))
  unfold isPersB
  exact inI_iff.2 this
 ·exact List.pairwise_iff_getElem.1 h1 (j - 1) j (by omega) hj (by omega)
theorem op_law {l : List Deed} (h : okL l) {k : Int} (hn : ¬ (confP (countL l k)).isSome = true) {day : Int} (h0 : 0 ≤ day) {ps : List Int} (hp : areB ps = true) :
  (opnI (countL l k) day = 0 → areB (opnL (countL l k) day) = true ∧ ansW (countL l k) day (opnL (countL l k) day) = 1 ∧ ((∀ x ∈ opnL (countL l k) day, x ∈ ps) ↔ ansW (countL l k) day ps = 1)) ∧
  (opnI (countL l k) day ≠ 0 → opnI (countL l k) day = 18 ∧ ansW (countL l k) day ps ≠ 1) := by
 have hc := count_ok h k
 obtain ⟨a1, _, _⟩ := ans_if (c := countL l k) (day := day) (ps := ps)
 obtain ⟨b1, _, _⟩ := ans_if (c := countL l k) (day := day) (ps := opnL (countL l k) day)
 have hin : ansW (countL l k) day ps = 1 → ∀ x ∈ opnL (countL l k) day, x ∈ ps := fun ha x hx => by
  obtain ⟨_, lock, g1, g2, s, hs, rfl⟩ := mem_op.1 hx
  exact hands_in h hn h0 (a1.1 ha) g1 g2 hs
 have hop : ansW (countL l k) day ps = 1 → ansW (countL l k) day (opnL (countL l k) day) = 1 := fun ha => by
  refine b1.2 (un_mono (p := ps) ?_ (a1.1 ha))
  intro lock g1 g2 s hs hm
  exact mem_op.2 ⟨by have := are_pos hp _ hm; omega, lock, g1, g2, s, hs, rfl⟩
 constructor
 ·intro hi
  unfold opnI at hi
  split at hi
  ·rename_i h1
   split at hi
   ·rename_i h2
    refine ⟨h1, h2, fun hs => ?_, hin⟩
    refine a1.2 (un_mono (p := opnL (countL l k) day) ?_ (b1.1 h2))
    intro lock g1 g2 s hs' hm
    exact hs _ hm
   ·cases hi
  ·cases hi
 ·intro hi
  have h18 : opnI (countL l k) day = 18 := by
   unfold opnI at hi ⊢
   split
   ·rename_i h1
    rw [if_pos h1] at hi
    split
    ·rename_i h2; rw [if_pos h2] at hi; exact (hi rfl).elim
    ·rfl
   ·rfl
  refine ⟨h18, fun ha => hi ?_⟩
  unfold opnI
  rw [if_pos (op_are hc.2.2 hp (hin ha)), if_pos (hop ha)]
theorem le_loM : ∀ {X : List Deed} {d : Deed}, d ∈ X → d.dl ≤ loM X := by
  have key : ∀ (X : List Deed) (m : Int) (d : Deed), (m ≤ X.foldl (fun m d => if d.dl > m then d.dl else m) m) ∧ (d ∈ X → d.dl ≤ X.foldl (fun m d => if d.dl > m then d.dl else m) m) := by
    intro X
    induction X with
    | nil => intro m d; exact ⟨Int.le_refl _, fun h => by cases h⟩
    | cons a r ih =>
      intro m d
      simp only [List.foldl_cons]
      obtain ⟨h1, h2⟩ := ih (if a.dl > m then a.dl else m) d
      refine ⟨Int.le_trans (by split <;> omega) h1, fun h => ?_⟩
      rcases List.mem_cons.1 h with rfl | h
      · exact Int.le_trans (by split <;> omega) h1
      · exact h2 h
  intro X d h
  exact (key X 0 d).2 h
theorem hiM_le' : ∀ {X : List Deed} {d : Deed}, d ∈ X → hiM X ≤ d.dh := by
  have key : ∀ (X : List Deed) (m : Int) (d : Deed), (X.foldl (fun m d => if d.dh < m then d.dh else m) m ≤ m) ∧ (d ∈ X → X.foldl (fun m d => if d.dh < m then d.dh else m) m ≤ d.dh) := by
    intro X
    induction X with
    | nil => intro m d; exact ⟨Int.le_refl _, fun h => by cases h⟩
    | cons a r ih =>
      intro m d
      simp only [List.foldl_cons]
      obtain ⟨h1, h2⟩ := ih (if a.dh < m then a.dh else m) d
      refine ⟨Int.le_trans h1 (by split <;> omega), fun h => ?_⟩
      rcases List.mem_cons.1 h with rfl | h
      · exact Int.le_trans h1 (by split <;> omega)
      · exact h2 h
  intro X d h
  exact (key X 100000 d).2 h
theorem pkF_le {t : List Deed} {many day v : Int} (h0 : 0 ≤ v) : ∀ s, (∀ i < s, (t.getD i zeroD).dl ≤ v) → (∀ i : Nat, i < s → many ≤ i → day + 1 ≤ v) → pkF t many day s ≤ v
  | 0, _, _ => h0
  | s + 1, h1, h2 => by
    have ih := pkF_le h0 s (fun i hi => h1 i (by omega)) (fun i hi => h2 i (by omega))
    have h3 := h1 s (by omega)
    have h4 := h2 s (by omega)
    have hm : pkM t many day (pkF t many day s) s ≤ v := by unfold pkM; split <;> omega
    simp only [pkF]
    split
    · rename_i hq
      have := h4 hq
      split <;> omega
    · exact hm
theorem pkF_ge (t : List Deed) (many day : Int) (s : Nat) : pkF t many day s ≤ pkF t many day (s + 1) ∧ (t.getD s zeroD).dl ≤ pkF t many day (s + 1) ∧ (many ≤ s → day + 1 ≤ pkF t many day (s + 1)) := by
  have hm : pkF t many day s ≤ pkM t many day (pkF t many day s) s ∧ (t.getD s zeroD).dl ≤ pkM t many day (pkF t many day s) s := by unfold pkM; split <;> omega
  have e : pkF t many day (s + 1) = if many ≤ s then (if day + 1 > pkM t many day (pkF t many day s) s then day + 1 else pkM t many day (pkF t many day s) s) else pkM t many day (pkF t many day s) s := rfl
  rw [e]
  split
  · split <;> omega
  · omega
theorem pkF_mono (t : List Deed) (many day : Int) {i j : Nat} (h : i ≤ j) : pkF t many day i ≤ pkF t many day j := by
  induction j with
  | zero => have : i = 0 := by omega
            subst this; exact Int.le_refl _
  | succ j ih =>
    rcases Nat.lt_or_eq_of_le h with h | h
    · exact Int.le_trans (ih (by omega)) (pkF_ge t many day j).1
    · subst h; exact Int.le_refl _
def cnt' (p : Deed → Bool) (c : List Deed) (i : Nat) : Nat := ((c.take i).filter p).length
theorem rank_at {p : Deed → Bool} {c : List Deed} {i : Nat} (h : i < c.length) (hp : p c[i] = true) : (c.filter p).getD (cnt' p c i) zeroD = c[i] := by
  have e : c = c.take i ++ c[i] :: c.drop (i + 1) := by rw [List.getElem_cons_drop h, List.take_append_drop]
  have h2 : c.filter p = (c.take i).filter p ++ c[i] :: (c.drop (i + 1)).filter p := by
    have : c.filter p = (c.take i ++ c[i] :: c.drop (i + 1)).filter p := by rw [← e]
    rw [this, List.filter_append, List.filter_cons, if_pos hp]
  rw [h2]
  unfold cnt'
  simp [List.getD_eq_getElem?_getD]
theorem rank_lt {p : Deed → Bool} {c : List Deed} {j i : Nat} (h : i ≤ c.length) (hji : j < i) (hp : p (c[j]'(by omega)) = true) : cnt' p c j < cnt' p c i := by
  unfold cnt'
  have hj : j < (c.take i).length := by simp; omega
  have := cnt_lt (c := c.take i) (p := p) hj (by rw [List.getElem_take]; exact hp)
  rw [List.take_take, show min j i = j by omega] at this
  exact this
theorem wrT_at {c : List Deed} {lo pe : Int} {q out : List Int} (ho : out.length = c.length) : ∀ s, s ≤ c.length → ∀ i (hi : i < c.length),
    (wrT c lo pe q out s).1.getD i 0 = if i < s ∧ isOfB c[i] lo pe = true then q.getD (cnt' (fun d => isOfB d lo pe) c i) 0 else out.getD i 0
  | 0, _, i, hi => by rw [if_neg (by omega)]; rfl
  | s + 1, hs, i, hi => by
    have ih := wrT_at (q := q) (lo := lo) (pe := pe) ho s (by omega) i hi
    have hc := wrT_cnt c lo pe q out s (by omega)
    have hl := wrT_len c lo pe q out s
    have hsl : s < c.length := by omega
    have e : wrT c lo pe q out (s + 1) = if isOfB (c.getD s zeroD) lo pe then ((wrT c lo pe q out s).1.set s (q.getD (wrT c lo pe q out s).2 0), (wrT c lo pe q out s).2 + 1) else wrT c lo pe q out s := rfl
    rw [e, getD_at hsl]
    by_cases hp : isOfB c[s] lo pe = true
    · rw [if_pos hp]
      by_cases his : i = s
      · subst his
        rw [if_pos ⟨by omega, hp⟩, hc]
        simp only [List.getD_eq_getElem?_getD]
        rw [List.getElem?_set_self (by omega)]
        rfl
      · have : ((wrT c lo pe q out s).1.set s (q.getD (wrT c lo pe q out s).2 0)).getD i 0 = (wrT c lo pe q out s).1.getD i 0 := by
          simp only [List.getD_eq_getElem?_getD]
          rw [List.getElem?_set_ne (by omega)]
        rw [this, ih]
        by_cases hq : i < s ∧ isOfB c[i] lo pe = true
        · rw [if_pos hq, if_pos ⟨by omega, hq.2⟩]
        · rw [if_neg hq, if_neg fun h => hq ⟨by omega, h.2⟩]
    · rw [if_neg hp, ih]
      by_cases hq : i < s ∧ isOfB c[i] lo pe = true
      · rw [if_pos hq, if_pos ⟨by omega, hq.2⟩]
      · rw [if_neg hq, if_neg fun h => ?_]
        refine hq ⟨?_, h.2⟩
        by_cases his : i = s
        · subst his; exact (hp h.2).elim
        · omega
theorem wP_at {c : List Deed} {lo pe many day : Int} {out : List Int} (ho : out.length = c.length) {i : Nat} (hi : i < c.length) :
    (wP c lo pe many day out).getD i 0 = if isOfB c[i] lo pe = true then pkF (thrL c lo pe) many day (cnt' (fun d => isOfB d lo pe) c i + 1) else out.getD i 0 := by
  have h := wrT_at (q := pickL (thrL c lo pe) many day) (lo := lo) (pe := pe) ho c.length (Nat.le_refl _) i hi
  show (wrT c lo pe (pickL (thrL c lo pe) many day) out c.length).1.getD i 0 = _
  rw [h]
  by_cases hp : isOfB c[i] lo pe = true
  · rw [if_pos ⟨hi, hp⟩, if_pos hp]
    have hlt : cnt' (fun d => isOfB d lo pe) c i < (thrL c lo pe).length := cnt_lt (p := fun d => isOfB d lo pe) hi hp
    unfold pickL
    simp [List.getD_eq_getElem?_getD, hlt]
  · rw [if_neg fun h => hp h.2, if_neg hp]
def thT (c : List Deed) (lo pe : Int) (out : List Int) : Prop := ∀ i (hi : i < c.length), isOfB c[i] lo pe = true → (c[i].dl ≤ out.getD i 0 ∧ out.getD i 0 ≤ c[i].dh) ∧ ∀ j (hj : j < i), isOfB (c[j]'(by omega)) lo pe = true → out.getD j 0 ≤ out.getD i 0
def rkT (c : List Deed) (lo pe day many : Int) (out : List Int) : Prop := ∀ i (hi : i < c.length), isOfB c[i] lo pe = true → (out.getD i 0 ≤ day ↔ (cnt' (fun d => isOfB d lo pe) c i : Int) < many)
theorem wP_thT {c : List Deed} (hv : ∀ d ∈ c, isDeedB d = true) {lo pe many day : Int} {out : List Int} (ho : out.length = c.length) (he : evenT (thrL c lo pe)) (hm : ∀ r (hr : r < (thrL c lo pe).length), many ≤ r → day < (thrL c lo pe)[r].dh) : thT c lo pe (wP c lo pe many day out) := by
  intro i hi hp
  have hlt : cnt' (fun d => isOfB d lo pe) c i < (thrL c lo pe).length := cnt_lt (p := fun d => isOfB d lo pe) hi hp
  have hr : (thrL c lo pe).getD (cnt' (fun d => isOfB d lo pe) c i) zeroD = c[i] := rank_at (p := fun d => isOfB d lo pe) hi hp
  rw [wP_at ho hi, if_pos hp]
  have hg := pkF_ge (thrL c lo pe) many day (cnt' (fun d => isOfB d lo pe) c i)
  rw [hr] at hg
  have hd := day_of (hv _ (List.getElem_mem hi))
  have hr' : (thrL c lo pe)[cnt' (fun d => isOfB d lo pe) c i] = c[i] := by rw [← hr, getD_at hlt]
  refine ⟨⟨hg.2.1, ?_⟩, fun j hj hpj => ?_⟩
  · refine pkF_le (by omega) _ (fun k hk => ?_) (fun k hk hmk => ?_)
    · have hk' : k < (thrL c lo pe).length := by omega
      rw [getD_at hk']
      have := he k (cnt' (fun d => isOfB d lo pe) c i) hk' hlt (by omega)
      rw [hr'] at this
      exact this
    · have := hm (cnt' (fun d => isOfB d lo pe) c i) hlt (by omega)
      rw [hr'] at this
      omega
  · rw [wP_at ho (by omega), if_pos hpj]
    have := rank_lt (p := fun d => isOfB d lo pe) (by omega : i ≤ c.length) hj hpj
    exact pkF_mono _ _ _ (by omega)
theorem wP_rkT {c : List Deed} {lo pe day : Int} {many : Nat} {out : List Int} (ho : out.length = c.length) (h0 : 0 ≤ day) (hm : mayB (thrL c lo pe) many day = true) : rkT c lo pe day many (wP c lo pe many day out) := by
  intro i hi hp
  have hlt : cnt' (fun d => isOfB d lo pe) c i < (thrL c lo pe).length := cnt_lt (p := fun d => isOfB d lo pe) hi hp
  rw [wP_at ho hi, if_pos hp]
  have hg := pkF_ge (thrL c lo pe) many day (cnt' (fun d => isOfB d lo pe) c i)
  constructor
  · intro hle
    by_cases h : (many : Int) ≤ cnt' (fun d => isOfB d lo pe) c i
    · have := hg.2.2 h; omega
    · omega
  · intro hlt'
    refine pkF_le h0 _ (fun k hk => ?_) (fun k hk hmk => by omega)
    have hk' : k < (thrL c lo pe).length := by omega
    rw [getD_at hk']
    unfold mayB at hm
    simp only [Bool.and_eq_true, Bool.or_eq_true, beq_iff_eq, decide_eq_true_eq] at hm
    have hmem : (thrL c lo pe)[k] ∈ (thrL c lo pe).take many := by
      rw [List.mem_iff_getElem]
      exact ⟨k, by simp; omega, by rw [List.getElem_take]⟩
    rcases hm.1 with h | h
    · omega
    · exact Int.le_trans (le_loM hmem) h
theorem may_hi {t : List Deed} {many : Nat} {day : Int} (hm : mayB t many day = true) : ∀ r (hr : r < t.length), (many : Int) ≤ r → day < t[r].dh := by
  intro r hr h
  unfold mayB at hm
  simp only [Bool.and_eq_true, Bool.or_eq_true, beq_iff_eq, decide_eq_true_eq] at hm
  have hmem : t[r] ∈ t.drop many := by
    rw [List.mem_iff_getElem]
    exact ⟨r - many, by simp; omega, by rw [List.getElem_drop]; congr 1; omega⟩
  have := hiM_le' hmem
  rcases hm.2 with h' | h'
  · omega
  · omega
def apart (c : List Deed) (lo pe lo' pe' : Int) : Prop := ∀ d ∈ c, isOfB d lo pe = true → isOfB d lo' pe' = true → False
theorem wP_keep {c : List Deed} {lo pe many day lo' pe' : Int} {out : List Int} (ho : out.length = c.length) (ha : apart c lo pe lo' pe') {i : Nat} (hi : i < c.length) (hp : isOfB c[i] lo' pe' = true) : (wP c lo pe many day out).getD i 0 = out.getD i 0 := by
  rw [wP_at ho hi, if_neg fun h => ha _ (List.getElem_mem hi) h hp]
theorem thT_keep {c : List Deed} {lo pe many day lo' pe' : Int} {out : List Int} (ho : out.length = c.length) (ha : apart c lo pe lo' pe') (h : thT c lo' pe' out) : thT c lo' pe' (wP c lo pe many day out) := by
  intro i hi hp
  obtain ⟨h1, h2⟩ := h i hi hp
  rw [wP_keep ho ha hi hp]
  refine ⟨h1, fun j hj hpj => ?_⟩
  rw [wP_keep ho ha (by omega) hpj]
  exact h2 j hj hpj
theorem rkT_keep {c : List Deed} {lo pe many day lo' pe' d m : Int} {out : List Int} (ho : out.length = c.length) (ha : apart c lo pe lo' pe') (h : rkT c lo' pe' d m out) : rkT c lo' pe' d m (wP c lo pe many day out) := by
  intro i hi hp
  rw [wP_keep ho ha hi hp]
  exact h i hi hp
theorem hap_take {c : List Deed} {lo pe day : Int} {many : Nat} {out : List Int} (ho : out.length = c.length) (h : rkT c lo pe day many out) : hapL (fun d => isOfB d lo pe) c out day = (thrL c lo pe).take many := by
  have key : ∀ s, s ≤ c.length → hapL (fun d => isOfB d lo pe) (c.take s) (out.take s) day = ((c.take s).filter fun d => isOfB d lo pe).take many := by
    intro s
    induction s with
    | zero => intro _; simp [hapL]
    | succ s ih =>
      intro hs
      have hsl : s < c.length := by omega
      have ih := ih (by omega)
      have e1 : hapL (fun d => isOfB d lo pe) (c.take (s + 1)) (out.take (s + 1)) day = hapL (fun d => isOfB d lo pe) (c.take s) (out.take s) day ++ (if isOfB c[s] lo pe && decide (out[s] ≤ day) then [c[s]] else []) := by
        unfold hapL
        rw [zip_take', zip_take', List.take_add_one, List.getElem?_eq_getElem (by rw [List.length_zip]; omega), List.filter_append, List.map_append]
        simp only [List.getElem_zip, Option.toList_some, List.filter_cons, List.filter_nil]
        split <;> rfl
      rw [e1, ih, List.take_add_one, List.getElem?_eq_getElem hsl, List.filter_append]
      simp only [Option.toList_some, List.filter_cons, List.filter_nil]
      by_cases hp : isOfB c[s] lo pe = true
      · have hk := h s hsl hp
        have hos : out.getD s 0 = out[s] := getD_at (by omega)
        rw [hos] at hk
        have hc : cnt' (fun d => isOfB d lo pe) c s = ((c.take s).filter fun d => isOfB d lo pe).length := rfl
        rw [if_pos hp]
        by_cases hd : out[s] ≤ day
        · have := hk.1 hd
          rw [if_pos (by simp [hp, hd])]
          generalize ((c.take s).filter fun d => isOfB d lo pe) = X at hc ⊢
          rw [List.take_of_length_le (l := X) (by omega), List.take_of_length_le (l := X ++ [c[s]]) (by rw [List.length_append]; simp; omega)]
        · have : ¬ (cnt' (fun d => isOfB d lo pe) c s : Int) < many := fun hh => hd (hk.2 hh)
          rw [if_neg (by simp [hd]), List.append_nil, List.take_append_of_le_length (by omega)]
      · rw [if_neg (by simp [hp]), if_neg hp, List.append_nil, List.append_nil]
  have := key c.length (Nat.le_refl _)
  rw [List.take_length, ← ho, List.take_length] at this
  exact this
theorem then_take {c : List Deed} {lo pe day : Int} {many : Nat} {out : List Int} (ho : out.length = c.length) (h : rkT c lo pe day many out) : thenS c out lo pe day = stA (thrL c lo pe) many := by
  unfold thenS
  rw [hap_take ho h]
  rfl
theorem apart_ll {c : List Deed} {a b : Int} (ha : 1 ≤ a) (hb : 1 ≤ b) (hn : a ≠ b) : apart c a 0 b 0 := by
  intro d _ h1 h2
  unfold isOfB at h1 h2
  rw [if_pos (by omega)] at h1 h2
  simp only [beq_iff_eq] at h1 h2
  omega
theorem apart_pp {c : List Deed} {a b : Int} (hn : a ≠ b) : apart c 0 a 0 b := by
  intro d _ h1 h2
  unfold isOfB at h1 h2
  rw [if_neg (by omega)] at h1 h2
  simp only [Bool.and_eq_true, beq_iff_eq] at h1 h2
  omega
theorem apart_lp {c : List Deed} {a b : Int} (ha : 1 ≤ a) : apart c a 0 0 b := by
  intro d _ h1 h2
  unfold isOfB at h1 h2
  rw [if_pos (by omega)] at h1
  rw [if_neg (by omega)] at h2
  simp only [Bool.and_eq_true, beq_iff_eq] at h1 h2
  omega
theorem apart_pl {c : List Deed} {a b : Int} (ha : 1 ≤ a) : apart c 0 b a 0 := fun d hd h1 h2 => apart_lp ha d hd h2 h1
theorem even_lock {c : List Deed} (hc : okL c) (hp : pairI clashB c = none) {lock : Int} (hl : 1 ≤ lock) : evenT (thrL c lock 0) := by
  rw [thrL_lock hc.2.1 hl]
  exact even_thr hc.1 hc.2.1 hp (thrB_of lock hl)
theorem even_pers {c : List Deed} (hc : okL c) (hp : pairI clashB c = none) (pe : Int) : evenT (thrL c 0 pe) := by
  rw [thrL_pers hc.2.1 pe]
  exact even_thr hc.1 hc.2.1 hp (offpB_of pe)
theorem perT_ok {c : List Deed} (hc : okL c) (hp : pairI clashB c = none) (day : Int) : ∀ s : Nat, ∀ pe : Nat, 1 ≤ pe → pe < s → thT c 0 pe (perT c day s)
  | 0, pe, _, h => by omega
  | s + 1, pe, h1, h => by
    have hl := perT_len c day s
    have e : perT c day (s + 1) = wP c 0 s (thrL c 0 s).length day (perT c day s) := by show (if s = 0 then _ else _) = _; rw [if_neg (by omega)]
    rw [e]
    by_cases hs : pe = s
    · subst hs
      exact wP_thT hc.2.1 hl (even_pers hc hp _) fun r hr h => by omega
    · exact thT_keep hl (apart_pp (by omega)) (perT_ok hc hp day s pe h1 (by omega))
structure wayOk (c : List Deed) (day : Int) (w : Way) (lf : Bool) : Prop where
  locks : ∀ i : Nat, i < 3 → ∃ n : Nat, wayL w i = n ∧ mayB (thrL c ((i + 1 : Nat) : Int) 0) n day = true ∧ stA (thrL c ((i + 1 : Nat) : Int) 0) n = wayH w i
  offs : lf = true → ∀ i : Nat, i < 3 → ∃ n : Nat, wayP w i = n ∧ mayB (thrL c 0 (wayH w i).h) n day = true ∧ (stA (thrL c 0 (wayH w i).h) n).o = true
  dist : lf = true → ∀ i j : Nat, j < i → i < 3 → (wayH w j).h ≠ (wayH w i).h
theorem lckT_ok {c : List Deed} (hc : okL c) (hp : pairI clashB c = none) {day : Int} (h0 : 0 ≤ day) {w : Way} {lf : Bool} (hw : wayOk c day w lf) : ∀ s : Nat, s ≤ 3 →
    (∀ pe : Nat, 1 ≤ pe → pe < 100 → thT c 0 pe (lckT c day w lf s)) ∧
    (∀ i : Nat, i < s → thT c ((i + 1 : Nat) : Int) 0 (lckT c day w lf s) ∧ rkT c ((i + 1 : Nat) : Int) 0 day (wayL w i) (lckT c day w lf s)) ∧
    (lf = true → ∀ i : Nat, i < s → rkT c 0 (wayH w i).h day (wayP w i) (lckT c day w lf s))
  | 0, _ => ⟨fun pe h1 h2 => perT_ok hc hp day 100 pe h1 h2, fun i hi => by omega, fun _ i hi => by omega⟩
  | s + 1, hs => by
    obtain ⟨h1, h2, h3⟩ := lckT_ok hc hp h0 hw s (by omega)
    have hl := lckT_len c day w lf s
    obtain ⟨n, hn1, hn2, _⟩ := hw.locks s (by omega)
    have hl2 : (wP c ((s + 1 : Nat) : Int) 0 (wayL w s) day (lckT c day w lf s)).length = c.length := by rw [wP_len]; exact hl
    have k1 : ∀ pe : Nat, 1 ≤ pe → pe < 100 → thT c 0 pe (wP c ((s + 1 : Nat) : Int) 0 (wayL w s) day (lckT c day w lf s)) := fun pe g1 g2 => thT_keep hl (apart_lp (by omega)) (h1 pe g1 g2)
    have k2 : ∀ i : Nat, i < s + 1 → thT c ((i + 1 : Nat) : Int) 0 (wP c ((s + 1 : Nat) : Int) 0 (wayL w s) day (lckT c day w lf s)) ∧ rkT c ((i + 1 : Nat) : Int) 0 day (wayL w i) (wP c ((s + 1 : Nat) : Int) 0 (wayL w s) day (lckT c day w lf s)) := fun i hi => by
      by_cases his : i = s
      · subst his
        rw [hn1]
        exact ⟨wP_thT hc.2.1 hl (even_lock hc hp (by omega)) (may_hi hn2), wP_rkT hl h0 hn2⟩
      · exact ⟨thT_keep hl (apart_ll (by omega) (by omega) (by omega)) (h2 i (by omega)).1, rkT_keep hl (apart_ll (by omega) (by omega) (by omega)) (h2 i (by omega)).2⟩
    have k3 : lf = true → ∀ i : Nat, i < s → rkT c 0 (wayH w i).h day (wayP w i) (wP c ((s + 1 : Nat) : Int) 0 (wayL w s) day (lckT c day w lf s)) := fun hf i hi => rkT_keep hl (apart_lp (by omega)) (h3 hf i hi)
    have e : lckT c day w lf (s + 1) = if lf then wP c 0 (wayH w s).h (wayP w s) day (wP c ((s + 1 : Nat) : Int) 0 (wayL w s) day (lckT c day w lf s)) else wP c ((s + 1 : Nat) : Int) 0 (wayL w s) day (lckT c day w lf s) := rfl
    rw [e]
    generalize wP c ((s + 1 : Nat) : Int) 0 (wayL w s) day (lckT c day w lf s) = o2 at hl2 k1 k2 k3 ⊢
    cases hlf : lf with
    | false =>
      rw [if_neg Bool.false_ne_true]
      exact ⟨k1, k2, fun h => by cases h⟩
    | true =>
      rw [if_pos rfl]
      obtain ⟨m, hm1, hm2, _⟩ := hw.offs hlf s (by omega)
      rw [hm1]
      refine ⟨fun pe g1 g2 => ?_, fun i hi => ⟨thT_keep hl2 (apart_pl (by omega)) (k2 i hi).1, rkT_keep hl2 (apart_pl (by omega)) (k2 i hi).2⟩, fun _ i hi => ?_⟩
      · by_cases hpe : (wayH w s).h = pe
        · rw [hpe] at hm2 ⊢
          exact wP_thT hc.2.1 hl2 (even_pers hc hp _) (may_hi hm2)
        · exact thT_keep hl2 (apart_pp hpe) (k1 pe g1 g2)
      · by_cases his : i = s
        · subst his
          rw [hm1]
          exact wP_rkT hl2 h0 hm2
        · exact rkT_keep hl2 (apart_pp (hw.dist hlf s i (by omega) (by omega)).symm) (k3 hlf i (by omega))
theorem true_of {c : List Deed} (hc : okL c) {out : List Int} (ho : out.length = c.length) (h1 : ∀ pe : Nat, 1 ≤ pe → pe < 100 → thT c 0 pe out) (h2 : ∀ i : Nat, i < 3 → thT c ((i + 1 : Nat) : Int) 0 out) : trueP sameThB c out := by
  refine ⟨ho, fun i hi hi' => ?_⟩
  have hv : ∀ a (ha : a < c.length), isDeedB c[a] = true := fun a ha => hc.2.1 _ (List.getElem_mem ha)
  have hk : ∃ lo pe, thT c lo pe out ∧ isOfB c[i] lo pe = true ∧ ∀ d, isDeedB d = true → sameThB d c[i] = true → isOfB d lo pe = true := by
    rcases valid_kind (hv i hi) with ⟨g1, g2, g3, g4⟩ | ⟨g1, g2, g3⟩
    · refine ⟨0, c[i].pe, ?_, ?_, fun d hd hs => ?_⟩
      · have := h1 c[i].pe.toNat (by omega) (by omega)
        rwa [show ((c[i].pe.toNat : Nat) : Int) = c[i].pe by omega] at this
      · unfold isOfB; rw [if_neg (by omega)]; simp [g2]
      · have hs' := same_sym hs hd (hv i hi)
        rw [same_is (hv i hi) hd, g2] at hs'
        exact hs'
    · refine ⟨c[i].lo, 0, ?_, ?_, fun d hd hs => ?_⟩
      · have := h2 (c[i].lo.toNat - 1) (by omega)
        rwa [show ((c[i].lo.toNat - 1 + 1 : Nat) : Int) = c[i].lo by omega] at this
      · unfold isOfB; rw [if_pos (by omega)]; simp
      · have hs' := same_sym hs hd (hv i hi)
        rw [same_is (hv i hi) hd] at hs'
        unfold isOfB at hs' ⊢
        rw [if_pos (by omega)] at hs' ⊢
        exact hs'
  obtain ⟨lo, pe, ht, hi1, hi2⟩ := hk
  obtain ⟨q1, q2⟩ := ht i hi hi1
  rw [getD_at hi'] at q1 q2
  refine ⟨inI_iff.2 q1, fun k hk => ?_⟩
  cases hs : sameThB c[k] c[i] with
  | false => rfl
  | true =>
    have := q2 k hk (hi2 _ (hv k (by omega)) hs)
    rw [getD_at (by omega : k < out.length)] at this
    simp
    exact this
theorem kT_may {c : List Deed} {l day : Int} {i : Nat} (h : i < nT c l day) : mayB (thrL c l 0) (kT c l day i) day = true := by
  have hm : kT c l day i ∈ mayL (thrL c l 0) day ((thrL c l 0).length + 1) := by
    unfold kT
    unfold nT at h
    rw [List.getD_eq_getElem?_getD, List.getElem?_eq_getElem h, Option.getD_some]
    exact List.getElem_mem h
  exact (mayL_lt _ hm).2
theorem off_is {t : List Deed} {b : Bool} {day : Int} (h : (offFind t b day).2 = true) : ∃ n : Nat, (offFind t b day).1 = n ∧ mayB t n day = true ∧ (stA t n).o = b := by
  unfold offFind at h ⊢
  cases hf : (mayN t day).find? (fun n => (stA t n).o == b) with
  | some n =>
    have h1 := List.find?_some hf
    have h2 := mayL_lt _ (List.mem_of_find?_eq_some hf)
    exact ⟨n, rfl, h2.2, by simpa using h1⟩
  | none => rw [hf] at h; cases h
theorem st_pos {t : List Deed} (h : ∀ d ∈ t, 0 ≤ d.pe) (n : Nat) : 0 ≤ (stA t n).h := by
  have key : ∀ (t : List Deed) (s : Sta), 0 ≤ s.h → (∀ d ∈ t, 0 ≤ d.pe) → 0 ≤ (t.foldl (fun s d => doS d.ki s d.pe) s).h := by
    intro t
    induction t with
    | nil => intro s h _; exact h
    | cons d r ih =>
      intro s hs hd
      simp only [List.foldl_cons]
      refine ih _ ?_ fun e he => hd e (by simp [he])
      have := hd d (by simp)
      unfold doS
      split
      · exact Int.le_refl _
      · split
        · exact this
        · split
          · split
            · exact hs
            · exact hs
          · split
            · exact hs
            · exact Int.le_refl _
  exact key _ _ (Int.le_refl _) fun d hd => h d (List.mem_of_mem_take hd)
theorem pe_pos {d : Deed} (h : isDeedB d = true) : 0 ≤ d.pe := by
  unfold isDeedB at h
  simp only [Bool.and_eq_true] at h
  have h7 := h.2
  by_cases h1 : d.ki = 1 ∨ d.ki = 2
  · rw [if_pos h1] at h7
    simp only [Bool.and_eq_true, beq_iff_eq, inI_iff] at h7
    omega
  · rw [if_neg h1] at h7
    by_cases h2 : d.ki = 3 ∨ d.ki = 4
    · rw [if_pos h2] at h7
      simp only [Bool.and_eq_true, inI_iff] at h7
      omega
    · rw [if_neg h2] at h7
      by_cases h3 : d.ki = 5 ∨ d.ki = 6
      · rw [if_pos h3] at h7
        simp only [Bool.and_eq_true, inI_iff, beq_iff_eq] at h7
        omega
      · rw [if_neg h3] at h7; cases h7
theorem way_then {c : List Deed} {day : Int} {w : Way} {lf : Bool} (hw : wayOk c day w lf) {out : List Int} (ho : out.length = c.length) (h : ∀ i : Nat, i < 3 → rkT c ((i + 1 : Nat) : Int) 0 day (wayL w i) out) : ∀ i : Nat, i < 3 → thenS c out ((i + 1 : Nat) : Int) 0 day = wayH w i := by
  intro i hi
  obtain ⟨n, h1, h2, h3⟩ := hw.locks i hi
  have := h i hi
  rw [h1] at this
  rw [then_take ho this, h3]
theorem was_way {c : List Deed} {day : Int} {w : Way} {out : List Int} {ps : List Int} (h : ∀ i : Nat, i < 3 → thenS c out ((i + 1 : Nat) : Int) 0 day = wayH w i) :
    wasB c out ps day = (threeB [w.x, w.y, w.z] ps && [w.x, w.y, w.z].all fun s => (thenS c out 0 s.h day).o) := by
  have e1 : thenS c out 1 0 day = w.x := h 0 (by decide)
  have e2 : thenS c out 2 0 day = w.y := h 1 (by decide)
  have e3 : thenS c out 3 0 day = w.z := h 2 (by decide)
  unfold wasB
  rw [e1, e2, e3]
theorem lock_way {c : List Deed} {day : Int} {k : Nat} (hk : k < wN c day) {w : Way} (h0 : w.l0 = wA c day k) (h1 : w.l1 = wB c day k) (h2 : w.l2 = wC c day k) (hx : w.x = wX c day k) (hy : w.y = wY c day k) (hz : w.z = wZ c day k) :
    ∀ i : Nat, i < 3 → ∃ n : Nat, wayL w i = n ∧ mayB (thrL c ((i + 1 : Nat) : Int) 0) n day = true ∧ stA (thrL c ((i + 1 : Nat) : Int) 0) n = wayH w i := by
  obtain ⟨g1, g2, g3⟩ := w_lt hk
  intro i hi
  have : i = 0 ∨ i = 1 ∨ i = 2 := by omega
  rcases this with rfl | rfl | rfl
  · exact ⟨_, h0, kT_may g1, hx.symm⟩
  · exact ⟨_, h1, kT_may g2, hy.symm⟩
  · exact ⟨_, h2, kT_may g3, hz.symm⟩
theorem show_yes {c : List Deed} (hc : okL c) (hp : pairI clashB c = none) {day : Int} (h0 : 0 ≤ day) {ps : List Int} (h : (lawW c day ps).2 = true) :
    trueP sameThB c (showL c day (lawY c day ps) true 0) ∧ wasB c (showL c day (lawY c day ps) true 0) ps day = true := by
  unfold lawW at h
  unfold lawY
  cases hf : (List.range (wN c day)).find? (goodW c day ps) with
  | none => rw [hf] at h; cases h
  | some k =>
    have hk : k < wN c day := List.mem_range.1 (List.mem_of_find?_eq_some hf)
    have hg := List.find?_some hf
    unfold goodW at hg
    simp only [Bool.and_eq_true] at hg
    obtain ⟨⟨⟨ht, f1⟩, f2⟩, f3⟩ := hg
    dsimp only
    obtain ⟨w, hw⟩ : ∃ w : Way, w = ⟨wA c day k, wB c day k, wC c day k, (offA c day (wX c day k) true).1, (offA c day (wY c day k) true).1, (offA c day (wZ c day k) true).1, wX c day k, wY c day k, wZ c day k⟩ := ⟨_, rfl⟩
    rw [← hw]
    have hth := three_iff.1 ht
    have hok : wayOk c day w true := by
      refine ⟨lock_way hk (by rw [hw]) (by rw [hw]) (by rw [hw]) (by rw [hw]) (by rw [hw]) (by rw [hw]), fun _ i hi => ?_, fun _ i j hji hi => ?_⟩
      · have : i = 0 ∨ i = 1 ∨ i = 2 := by omega
        rw [hw]
        rcases this with rfl | rfl | rfl
        · exact off_is f1
        · exact off_is f2
        · exact off_is f3
      · have h3 := (hth i hi).2.1
        have : (i = 1 ∧ j = 0) ∨ (i = 2 ∧ j = 0) ∨ (i = 2 ∧ j = 1) := by omega
        rw [hw]
        rcases this with ⟨rfl, rfl⟩ | ⟨rfl, rfl⟩ | ⟨rfl, rfl⟩
        · exact h3 _ (by simp [wayH])
        · exact h3 _ (by simp [wayH])
        · exact h3 _ (by simp [wayH])
    obtain ⟨k1, k2, k3⟩ := lckT_ok hc hp h0 hok 3 (Nat.le_refl _)
    have hl := lckT_len c day w true 3
    have hs : showL c day w true 0 = lckT c day w true 3 := by unfold showL; rw [if_neg (by decide)]
    rw [hs]
    generalize lckT c day w true 3 = out at k1 k2 k3 hl ⊢
    have htn := way_then hok hl fun i hi => (k2 i hi).2
    refine ⟨true_of hc hl k1 fun i hi => (k2 i hi).1, ?_⟩
    rw [was_way htn]
    have hto : ∀ i : Nat, i < 3 → (thenS c out 0 (wayH w i).h day).o = true := fun i hi => by
      obtain ⟨m, g1, g2, g3⟩ := hok.offs rfl i hi
      have := k3 rfl i hi
      rw [g1] at this
      rw [then_take hl this, g3]
    have ht' : threeB [w.x, w.y, w.z] ps = true := by rw [hw]; exact ht
    rw [ht', Bool.true_and, List.all_eq_true]
    intro s hs'
    simp only [List.mem_cons, List.not_mem_nil, or_false] at hs'
    rcases hs' with rfl | rfl | rfl
    · exact hto 0 (by decide)
    · exact hto 1 (by decide)
    · exact hto 2 (by decide)
theorem show_no {c : List Deed} (hc : okL c) (hp : pairI clashB c = none) {day : Int} (h0 : 0 ≤ day) {ps : List Int} (h : (unW c day ps).2.2 = true) :
    trueP sameThB c (showL c day (unY c day ps) false (unW c day ps).2.1) ∧ wasB c (showL c day (unY c day ps) false (unW c day ps).2.1) ps day = false := by
  unfold unW at h ⊢
  unfold unY
  cases hf : (List.range (wN c day)).find? (badW c day ps) with
  | none => rw [hf] at h; cases h
  | some k =>
    have hk : k < wN c day := List.mem_range.1 (List.mem_of_find?_eq_some hf)
    have hg := List.find?_some hf
    dsimp only
    obtain ⟨w, hw⟩ : ∃ w : Way, w = ⟨wA c day k, wB c day k, wC c day k, 0, 0, 0, wX c day k, wY c day k, wZ c day k⟩ := ⟨_, rfl⟩
    rw [← hw]
    have hok : wayOk c day w false := ⟨lock_way hk (by rw [hw]) (by rw [hw]) (by rw [hw]) (by rw [hw]) (by rw [hw]) (by rw [hw]), fun hb => by (cases hb), fun hb => by (cases hb)⟩
    obtain ⟨k1, k2, _⟩ := lckT_ok hc hp h0 hok 3 (Nat.le_refl _)
    have hl := lckT_len c day w false 3
    have hL : [w.x, w.y, w.z] = threeW c day k := by rw [hw]; rfl
    unfold showL
    generalize lckT c day w false 3 = out at k1 k2 hl ⊢
    cases ht : threeB (threeW c day k) ps with
    | false =>
      have hh : holdW c day ps k = 0 := by unfold holdW; rw [ht, if_neg Bool.false_ne_true]
      rw [hh, if_neg (by decide)]
      have htn := way_then hok hl fun i hi => (k2 i hi).2
      refine ⟨true_of hc hl k1 fun i hi => (k2 i hi).1, ?_⟩
      rw [was_way htn, hL, ht, Bool.false_and]
    | true =>
      unfold badW at hg
      rw [ht] at hg
      simp only [Bool.not_true, Bool.false_or] at hg
      obtain ⟨s0, hs0, hs1⟩ := List.any_eq_true.1 hg
      cases hfi : (threeW c day k).find? (fun x => (offA c day x false).2) with
      | none => exact (List.find?_eq_none.1 hfi s0 hs0 hs1).elim
      | some s =>
        have hsm := List.mem_of_find?_eq_some hfi
        have hso := List.find?_some hfi
        have hh : holdW c day ps k = s.h := by unfold holdW; rw [ht, if_pos rfl, hfi]; rfl
        have hne : s.h ≠ 0 := by
          have hth := three_iff.1 ht
          rw [← hL] at hsm hth
          simp only [List.mem_cons, List.not_mem_nil, or_false] at hsm
          rcases hsm with rfl | rfl | rfl
          · exact (hth 0 (by decide)).1
          · exact (hth 1 (by decide)).1
          · exact (hth 2 (by decide)).1
        have hpos : s.h > 0 := by
          have : 0 ≤ s.h := by
            have hq : ∀ i : Nat, i < 3 → 0 ≤ (wayH w i).h := fun i hi => by
              obtain ⟨n, _, _, g3⟩ := hok.locks i hi
              rw [← g3]
              exact st_pos (fun d hd => pe_pos (hc.2.1 d (List.mem_filter.1 hd).1)) n
            rw [← hL] at hsm
            simp only [List.mem_cons, List.not_mem_nil, or_false] at hsm
            rcases hsm with rfl | rfl | rfl
            · exact hq 0 (by decide)
            · exact hq 1 (by decide)
            · exact hq 2 (by decide)
          omega
        rw [hh, if_pos hpos]
        obtain ⟨m, g1, g2, g3⟩ := off_is (t := thrL c 0 s.h) (b := false) (day := day) hso
        rw [g1]
        have hl2 : (wP c 0 s.h m day out).length = c.length := by rw [wP_len]; exact hl
        have r1 : rkT c 0 s.h day m (wP c 0 s.h m day out) := wP_rkT hl h0 g2
        have r2 : ∀ i : Nat, i < 3 → thT c ((i + 1 : Nat) : Int) 0 (wP c 0 s.h m day out) ∧ rkT c ((i + 1 : Nat) : Int) 0 day (wayL w i) (wP c 0 s.h m day out) := fun i hi => ⟨thT_keep hl (apart_pl (by omega)) (k2 i hi).1, rkT_keep hl (apart_pl (by omega)) (k2 i hi).2⟩
        have r3 : ∀ pe : Nat, 1 ≤ pe → pe < 100 → thT c 0 pe (wP c 0 s.h m day out) := fun pe q1 q2 => by
          by_cases hpe : s.h = pe
          · rw [hpe] at g2 ⊢
            exact wP_thT hc.2.1 hl (even_pers hc hp _) (may_hi g2)
          · exact thT_keep hl (apart_pp hpe) (k1 pe q1 q2)
        have htn := way_then hok hl2 fun i hi => (r2 i hi).2
        refine ⟨true_of hc hl2 r3 fun i hi => (r2 i hi).1, ?_⟩
        rw [was_way htn, hL, ht, Bool.true_and, List.all_eq_false]
        refine ⟨s, hsm, ?_⟩
        rw [then_take hl2 r1, g3]
        exact Bool.false_ne_true
set_option maxRecDepth 100000
@[go_sem] theorem ta41 : tAgg Tryz.prog 41 = some (true, 6) := by kernel_rfl
@[go_sem] theorem tf41_0 : tField Tryz.prog 41 0 = some (0, 2, true) := by kernel_rfl
@[go_sem] theorem tf41_1 : tField Tryz.prog 41 1 = some (2, 1, false) := by kernel_rfl
@[go_sem] theorem tf41_2 : tField Tryz.prog 41 2 = some (3, 1, false) := by kernel_rfl
@[go_sem] theorem tf41_3 : tField Tryz.prog 41 3 = some (4, 1, false) := by kernel_rfl
@[go_sem] theorem tf41_4 : tField Tryz.prog 41 4 = some (5, 1, false) := by kernel_rfl
theorem guard33 : Tryz.prog.eqGuardType Tryz.prog.depth 33 = false := by kernel_rfl
@[go_sem] theorem aEqS33 (obj : Name → Option O) (op : BinOp) (a b a' b' : Int) : aEqS Tryz.prog obj op 33 (.agg [vInt a, vInt b]) (.agg [vInt a', vInt b']) =
  ⟨op = .eql ∨ op = .neq, .v (.bool (if op = .eql then (a == a' && b == b') else !(a == a' && b == b'))), obj⟩ := by
 unfold aEqS
 rw [show Op.maxDepth = 9998 + 2 from rfl, eqV33]
 simp only [guard33, true_and]
@[go_sem] theorem ta53 : tAgg Tryz.prog 53 = some (true, 4) := by kernel_rfl
@[go_sem] theorem tp53 : tPlaces Tryz.prog 53 = some [(0, 1), (1, 1), (2, 1), (3, 1)] := by kernel_rfl
@[go_sem] theorem tf53_0 : tField Tryz.prog 53 0 = some (0, 1, false) := by kernel_rfl
@[go_sem] theorem tf53_2 : tField Tryz.prog 53 2 = some (2, 1, false) := by kernel_rfl
@[go_sem] theorem tf53_3 : tField Tryz.prog 53 3 = some (3, 1, false) := by kernel_rfl
def encO (ps ds : List Int) (da kn : Int) : V := .agg [.sl (ps.map vInt), .sl (ds.map vInt), vInt da, vInt kn]
theorem true_q1' {c : List Deed} (hv : ∀ d ∈ c, isDeedB d = true) {ds : List Int} (h : trueP sameThB c ds) : trueB q1 c ds = true := by
 unfold trueB
 simp only [decide_eq_true_eq]
 exact (trueP_congr fun a ha b hb => (same_is (hv a ha) (hv b hb)).symm).2 h
noncomputable def sShw (f : List Deed → List Int → Int → Int → Bool → V) : Spec := (pShw f).toSpec
theorem sShw_app {f : List Deed → List Int → Int → Int → Bool → V} {obj : Name → Option O} {t : Name} {l : List Deed} {ps : List Int} {a b : Int} {lf : Bool} : (sShw f).app obj t [.v (.sl (l.map encD)), .v (.sl (ps.map vInt)), .v (vInt a), .v (vInt b), .v (.bool lf)] = ⟨True, .v (f l ps a b lf), obj⟩ := by
 simp only [sShw, PSpec.toSpec, frzL, frz, pShw_fn, ite_self]
 congr 1
 simp only [eq_iff_iff, iff_true]
 exact ⟨⟨trivial, trivial, trivial, trivial, trivial, trivial⟩, l, ps, a, b, lf, rfl⟩
noncomputable def K109 : FuncId → Option Spec := fun f => match f with
 | 16 => some sRChk
 | 25 => some (pInt isDayB)
 | 26 => some sAre
 | 17 => some ((⟨fun xs => xs = [], fun _ => .bool true, true⟩ : PSpec).toSpec)
 | 27 => some (sLI (fun _ => True) consV true)
 | 28 => some (sLPI (fun l ps day k => .tup [vInt (lwA l ps day k), vInt (lwE l ps day k)]) true)
 | 60 => some (sTrue fun l ps ds day k => .tup [.bool (trA l ps ds day k), vInt (trE l ps ds day k)])
 | 62 => some (sLV fun l v => .bool (l.any fun x => x == v))
 | 65 => some (sLII (fun _ => True) (fun l day k => .tup [.sl ((opnD l day k).map vInt), vInt (opnE l day k)]) false)
 | 66 => some (sShw fun l ps day k lf => .tup [.sl ((shD l ps day k lf).map vInt), vInt (shE l ps day k lf)])
 | _ => none
theorem K109_sound : ∀ f s, K109 f = some s → SSound Tryz.prog f s := by
 intro f s h
 unfold K109 at h
 split at h
 ·cases h; exact s16'
 ·cases h; exact s25.sound
 ·cases h; exact s26.sound
 ·cases h; exact s17.sound
 ·cases h; exact s27.sound
 ·cases h; exact s28.sound
 ·cases h; exact s60.sound
 ·cases h; exact s62.sound
 ·cases h; exact s65.sound
 ·cases h; exact s66.sound
 ·cases h
@[go_sem] theorem K109_16 : K109 16 = some sRChk := rfl
@[go_sem] theorem K109_25 : K109 25 = some (pInt isDayB) := rfl
@[go_sem] theorem K109_26 : K109 26 = some sAre := rfl
@[go_sem] theorem K109_17 : K109 17 = some ((⟨fun xs => xs = [], fun _ => .bool true, true⟩ : PSpec).toSpec) := rfl
@[go_sem] theorem K109_27 : K109 27 = some (sLI (fun _ => True) consV true) := rfl
@[go_sem] theorem K109_28 : K109 28 = some (sLPI (fun l ps day k => .tup [vInt (lwA l ps day k), vInt (lwE l ps day k)]) true) := rfl
@[go_sem] theorem K109_60 : K109 60 = some (sTrue fun l ps ds day k => .tup [.bool (trA l ps ds day k), vInt (trE l ps ds day k)]) := rfl
@[go_sem] theorem K109_62 : K109 62 = some (sLV fun l v => .bool (l.any fun x => x == v)) := rfl
@[go_sem] theorem K109_65 : K109 65 = some (sLII (fun _ => True) (fun l day k => .tup [.sl ((opnD l day k).map vInt), vInt (opnE l day k)]) false) := rfl
@[go_sem] theorem K109_66 : K109 66 = some (sShw fun l ps day k lf => .tup [.sl ((shD l ps day k lf).map vInt), vInt (shE l ps day k lf)]) := rfl
theorem shw_law {l : List Deed} {ps : List Int} {da kn : Int} (h1 : checkI l = 0) (har : areB ps = true) (hda : isDayB da = true) (hkn : isDayB kn = true) (hcf : ¬ (confP (countL l kn)).isSome = true) (lf : Bool) {can : Bool}
  (hcan : can = if lf then !(ansW (countL l kn) da ps == 0) else !(ansW (countL l kn) da ps == 1)) :
  shE l ps da kn lf = (if can then 0 else 3) ∧ (can = true → trE l ps (shD l ps da kn lf) da kn = 0 ∧ trA l ps (shD l ps da kn lf) da kn = lf) := by
 have hok := check_zero.1 h1
 have hdd := day_iff.1 hda
 have hokc := count_ok hok kn
 have hcl := conf_clash hok hcf
 have g0 : gE (countL l kn) = 0 := by unfold gE; rw [if_neg hcf]
 have hE0 : lwE l ps da kn = 0 := by rw [lwE_of h1 har hda hkn, g0]
 have hop : openE l ps da kn = 0 := by unfold openE; rw [if_pos h1, if_pos har, days_two h1 hda hkn]
 obtain ⟨b1, b0, b2⟩ := ans_if (c := countL l kn) (day := da) (ps := ps)
 have hor := law_or_un hok hcf hdd.1 ps
 have his : shIs (countL l kn) da ps lf = can := by
  rw [hcan]
  unfold shIs
  cases lf with
  | true =>
   rw [if_pos rfl, if_pos rfl]
   by_cases hl : lawP (countL l kn) da ps
   ·have : ansW (countL l kn) da ps ≠ 0 := fun h => (b0.1 h).2 hl
    rw [law_iff.2 hl]
    simp [this]
   ·have h0 : ansW (countL l kn) da ps = 0 := b0.2 ⟨hor.resolve_left hl, hl⟩
    have : (lawW (countL l kn) da ps).2 = false := by
     cases h : (lawW (countL l kn) da ps).2 with
     | false => rfl
     | true => exact (hl (law_iff.1 h)).elim
    rw [this, h0]
    rfl
  | false =>
   rw [if_neg Bool.false_ne_true, if_neg Bool.false_ne_true]
   by_cases hl : unP (countL l kn) da ps
   ·have : ansW (countL l kn) da ps ≠ 1 := fun h => b1.1 h hl
    rw [un_iff.2 hl]
    simp [this]
   ·have h0 : ansW (countL l kn) da ps = 1 := b1.2 hl
    have : (unW (countL l kn) da ps).2.2 = false := by
     cases h : (unW (countL l kn) da ps).2.2 with
     | false => rfl
     | true => exact (hl (un_iff.1 h)).elim
    rw [this, h0]
    rfl
 have hS : shE l ps da kn lf = if can then 0 else 3 := by unfold shE; rw [if_pos hE0, his]
 refine ⟨hS, fun hc => ?_⟩
 rw [hc, if_pos rfl] at hS
 have hD : shD l ps da kn lf = shL (countL l kn) da ps lf := by unfold shD; rw [if_pos hS]
 rw [hD]
 have key : trueP sameThB (countL l kn) (shL (countL l kn) da ps lf) ∧ wasB (countL l kn) (shL (countL l kn) da ps lf) ps da = lf := by
  rw [hc] at his
  unfold shIs at his
  unfold shL
  cases lf with
  | true =>
   rw [if_pos rfl] at his
   rw [if_pos rfl]
   exact show_yes hokc hcl hdd.1 his
  | false =>
   rw [if_neg Bool.false_ne_true] at his
   rw [if_neg Bool.false_ne_true]
   exact show_no hokc hcl hdd.1 his
 have htq := true_q1' hokc.2.1 key.1
 have hT : trE l ps (shL (countL l kn) da ps lf) da kn = 0 := by unfold trE; rw [if_pos hop, if_pos htq]
 refine ⟨hT, ?_⟩
 unfold trA
 rw [if_pos hT]
 exact key.2
set_option maxHeartbeats 16000000 in
theorem w12 (l : List Deed) (da kn : Int) (ps ds0 : List Int) :
  ∃ c, Tryz.f12.body = some c ∧ CL Tryz.prog [c] (mkS 192 [0] (fun _ => none) (argsL 0 [.sl (l.map encD), encO ps ds0 da kn]) []) (retK Tryz.prog [.tmp 4] (.bool true)) := by
 refine ⟨_, rfl, ?_⟩
 have hΓ := K109_sound
 have hin := fun (obj : Name → Option O) (t : Name) (n : Int) => pInt_app (g := isDayB) (obj := obj) (t := t) (n := n)
 unfold encO
 repeat refine sq ?_
 refine cl_rs hΓ [0,3] [[3, 0]] fun K' hK => ?_
 simp only [go_sem]
 repeat refine ⟨ob, ?_⟩
 refine hK _ ?_ ?_ <;> clear K' hK <;> simp only [go_sem]
 obtain ⟨c, hc⟩ : ∃ c : Bool, c = !(decide (checkI l = 0) && isDayB kn && isDayB da && areB ps) := ⟨_, rfl⟩
 repeat refine sq ?_
 refine cl_rw hΓ (mkS 192 [0] (fun _ => none) [(0, ⟨true, .v (.sl (l.map encD))⟩), (3, ⟨true, .ref [3, 0] 0⟩), (42, ⟨true, .v (.bool c)⟩)] [([3, 0], .box [.v (.sl (ps.map vInt)), .v (.sl (ds0.map vInt)), .v (vInt da), .v (vInt kn)])]) ?_ fun K' hK => ?_
 rotate_left
 ·by_cases h1 : checkI l = 0
  ·have hbn : (checkI l != 0) = false := by simpa using h1
   cases h2 : isDayB kn
   ·have hct : c = true := by rw [hc, h2]; simp
    simp only [go_sem, sRChk_app, hbn, hin, h2]
    repeat refine ⟨ob, ?_⟩
    refine hK _ (weakM_keep [0, 3, 42] [[3, 0]] ?_ ?_)
    ·simp only [go_sem]
    ·simp only [go_sem, hct]
   ·cases h3 : isDayB da
    ·have hct : c = true := by rw [hc, h2, h3]; simp
     simp only [go_sem, sRChk_app, hbn, hin, h2, h3]
     repeat refine ⟨ob, ?_⟩
     refine hK _ (weakM_keep [0, 3, 42] [[3, 0]] ?_ ?_)
     ·simp only [go_sem]
     ·simp only [go_sem, hct]
    ·have hct : c = !areB ps := by rw [hc, h2, h3]; simp [h1]
     simp only [go_sem, sRChk_app, hbn, hin, h2, h3, sAre_app]
     repeat refine ⟨ob, ?_⟩
     refine hK _ (weakM_keep [0, 3, 42] [[3, 0]] ?_ ?_)
     ·simp only [go_sem]
     ·simp only [go_sem, hct]
  ·have hct : c = true := by rw [hc]; simp [h1]
   have hbn : (checkI l != 0) = true := by simpa using h1
   simp only [go_sem, sRChk_app, hbn]
   repeat refine ⟨ob, ?_⟩
   refine hK _ (weakM_keep [0, 3, 42] [[3, 0]] ?_ ?_)
   ·simp only [go_sem]
   ·simp only [go_sem, hct]
 repeat refine sq ?_
 refine cl_cond rfl rfl (fun hb => ?_) fun hb => ?_
 ·repeat refine sq ?_
  refine cl_rs hΓ [4] [] fun K' hK => ?_
  simp only [go_sem]
  repeat refine ⟨ob, ?_⟩
  refine hK _ ?_ ?_ <;> clear K' hK <;> simp only [go_sem]
  refine cl_ret ?_
  simp only [go_sem]
 rw [hb] at hc
 have hc2 : checkI l = 0 ∧ isDayB kn = true ∧ isDayB da = true ∧ areB ps = true := by
  simp at hc
  exact ⟨hc.1.1.1, hc.1.1.2, hc.1.2, hc.2⟩
 obtain ⟨h1, hkn, hda, har⟩ := hc2
 clear hb hc
 have hok := check_zero.1 h1
 have hdd := day_iff.1 hda
 have z : daysI l [kn] = 0 := by unfold daysI; rw [if_pos h1]; simp [hkn]
 have hcs := fun (obj : Name → Option O) (t : Name) (f : List Deed → Int → V) (fl : Bool) => sLI_app (P := fun _ => True) (f := f) (fl := fl) (obj := obj) (t := t) (l := l) (k := kn) trivial
 have ecs : consV l kn = .tup [.bool (!(confP (countL l kn)).isSome), vInt 0] := by unfold consV; rw [if_pos z]
 repeat refine sq ?_
 refine cl_skip ?_
 by_cases hcf : (confP (countL l kn)).isSome = true
 ·rw [hcf] at ecs
  repeat refine sq ?_
  refine cl_rs hΓ [0,3,5,6] [[3, 0]] fun K' hK => ?_
  simp only [go_sem, hcs, ecs]
  repeat refine ⟨ob, ?_⟩
  refine hK _ ?_ ?_ <;> clear K' hK <;> simp only [go_sem, hcs, ecs]
  repeat refine sq ?_
  refine cl_rs hΓ [6,56] [] fun K' hK => ?_
  simp only [go_sem, bne_self_eq_false]
  repeat refine ⟨ob, ?_⟩
  refine hK _ ?_ ?_ <;> clear K' hK <;> simp only [go_sem, bne_self_eq_false]
  repeat refine sq ?_
  refine cl_cond rfl rfl (fun hb => ?_) (fun hb => by simp at hb)
  repeat refine sq ?_
  refine cl_rs hΓ [4] [] fun K' hK => ?_
  simp only [go_sem, beq_self_eq_true]
  repeat refine ⟨ob, ?_⟩
  refine hK _ ?_ ?_ <;> clear K' hK <;> simp only [go_sem, beq_self_eq_true]
  refine cl_ret ?_
  simp only [go_sem]
 have hcf' : (confP (countL l kn)).isSome = false := by simpa using hcf
 rw [hcf'] at ecs
 repeat refine sq ?_
 refine cl_rs hΓ [0,3,5,6] [[3, 0]] fun K' hK => ?_
 simp only [go_sem, hcs, ecs]
 repeat refine ⟨ob, ?_⟩
 refine hK _ ?_ ?_ <;> clear K' hK <;> simp only [go_sem, hcs, ecs]
 repeat refine sq ?_
 refine cl_rs hΓ [0,3,56] [[3, 0]] fun K' hK => ?_
 simp only [go_sem, bne_self_eq_false]
 repeat refine ⟨ob, ?_⟩
 refine hK _ ?_ ?_ <;> clear K' hK <;> simp only [go_sem, bne_self_eq_false]
 repeat refine sq ?_
 refine cl_cond rfl rfl (fun hb => by simp at hb) (fun hb => ?_)
 repeat refine sq ?_
 refine cl_skip ?_
 clear hb
 have g0 : gE (countL l kn) = 0 := by unfold gE; rw [if_neg hcf]
 have eE0 : ∀ ps, areB ps = true → lwE l ps da kn = 0 := fun ps hp => by rw [lwE_of h1 hp hda hkn, g0]
 have eA : ∀ ps, areB ps = true → lwA l ps da kn = ansW (countL l kn) da ps := fun ps hp => by rw [lwA_of h1 hp hda hkn, if_pos g0]
 have hokc := count_ok hok kn
 have hcl := conf_clash hok hcf
 have hask : askE l da kn = 0 := by unfold askE; rw [days_two h1 hda hkn, if_pos rfl, if_neg hcf]
 have hopE : opnE l da kn = opnI (countL l kn) da := by unfold opnE; rw [if_pos hask]
 obtain ⟨law1, law2⟩ := op_law hok hcf hdd.1 har
 have hoa := fun (obj : Name → Option O) (t : Name) (f : List Deed → Int → Int → V) (fl : Bool) (a b : Int) => sLII_app (P := fun _ => True) (f := f) (fl := fl) (obj := obj) (t := t) (l := l) (k := a) (j := b) trivial
 obtain ⟨a, ha⟩ : ∃ a, a = ansW (countL l kn) da ps := ⟨_, rfl⟩
 have a0 := eE0 ps har
 have a1 := eA ps har
 rw [← ha] at a1 law1 law2
 repeat refine sq ?_
 refine cl_rs hΓ [0,3,7,8] [[3, 0]] fun K' hK => ?_
 simp only [go_sem, hoa, hopE]
 repeat refine ⟨ob, ?_⟩
 refine hK _ ?_ ?_ <;> clear K' hK <;> simp only [go_sem, hoa, hopE]
 repeat refine sq ?_
 refine cl_rs hΓ [0,3,7,8,9,10] [[3, 0]] fun K' hK => ?_
 simp only [go_sem, sLPI_app, a0, a1]
 repeat refine ⟨ob, ?_⟩
 refine hK _ ?_ ?_ <;> clear K' hK <;> simp only [go_sem, sLPI_app, a0, a1]
 have hshw := fun lf {can} (hcan : can = if lf then !(ansW (countL l kn) da ps == 0) else !(ansW (countL l kn) da ps == 1)) => shw_law h1 har hda hkn hcf lf hcan
 rw [← ha] at hshw
 have hsa := fun (obj : Name → Option O) (t : Name) (f : List Deed → List Int → Int → Int → Bool → V) (lf : Bool) => sShw_app (f := f) (obj := obj) (t := t) (l := l) (ps := ps) (a := da) (b := kn) (lf := lf)
 have hxD : opnI (countL l kn) da = 0 → opnD l da kn = opnL (countL l kn) da := fun h => by unfold opnD; rw [if_pos (by rw [hopE]; exact h)]
 generalize opnI (countL l kn) da = x at hopE law1 law2 hxD ⊢
 repeat refine sq ?_
 refine cl_rw hΓ (mkS 192 [0] (fun _ => none) [(0, ⟨true, .v (.sl (l.map encD))⟩), (3, ⟨true, .ref [3, 0] 0⟩), (7, ⟨true, .v (.sl ((opnD l da kn).map vInt))⟩), (8, ⟨true, .v (vInt x)⟩), (9, ⟨true, .v (vInt a)⟩), (95, ⟨true, .v (.bool false)⟩)] [([3, 0], .box [.v (.sl (ps.map vInt)), .v (.sl (ds0.map vInt)), .v (vInt da), .v (vInt kn)])]) ?_ fun K' hK => ?_
 rotate_left
 ·by_cases hx : x = 0
  ·subst hx
   simp only [go_sem, bne_self_eq_false]
   repeat refine ⟨ob, ?_⟩
   refine hK _ (weakM_keep [0,3,7,8,9,95] [[3, 0]] ?_ ?_)
   ·simp only [go_sem]
   ·simp only [go_sem, bne_self_eq_false]
  ·obtain ⟨hx18, hna⟩ := law2 hx
   subst hx18
   have e1 : ((18 : Int) != 0) = true := rfl
   have e2 : (a == 1) = false := by simpa using hna
   simp only [go_sem, bne_self_eq_false, e1, e2]
   repeat refine ⟨ob, ?_⟩
   refine hK _ (weakM_keep [0,3,7,8,9,95] [[3, 0]] ?_ ?_)
   ·simp only [go_sem]
   ·simp only [go_sem, bne_self_eq_false, e2]
 repeat refine sq ?_
 refine cl_cond rfl rfl (fun hb => by cases hb) (fun _ => ?_)
 repeat refine sq ?_
 refine cl_skip ?_
 repeat refine sq ?_
 refine cl_rs hΓ [0,3,7,9,97] [[3, 0]] fun K' hK => ?_
 simp only [go_sem]
 repeat refine ⟨ob, ?_⟩
 refine hK _ ?_ ?_ <;> clear K' hK <;> simp only [go_sem]
 repeat refine sq ?_
 refine cl_condJ (mkS 192 [0] (fun _ => none) [(0, ⟨true, .v (.sl (l.map encD))⟩), (3, ⟨true, .ref [3, 0] 0⟩), (9, ⟨true, .v (vInt a)⟩)] [([3, 0], .box [.v (.sl (ps.map vInt)), .v (.sl (ds0.map vInt)), .v (vInt da), .v (vInt kn)])]) rfl rfl (fun hb => ?_) (fun hb => ?_) ?_
 ·have hx : x = 0 := by simpa using hb
  obtain ⟨q1, q2, q3⟩ := law1 hx
  rw [hxD hx]
  have b0 := eE0 _ q1
  have b1 := eA _ q1
  rw [q2] at b1
  generalize opnL (countL l kn) da = ops at q1 q2 q3 b0 b1 ⊢
  have hol : ops.length ≤ maxLen := by unfold areB at q1; simp only [decide_eq_true_eq] at q1; unfold maxLen; omega
  have hall : (ops.all (fun y => ps.any fun v => v == y) != (a == 1)) = false := by
   have : ops.all (fun y => ps.any fun v => v == y) = (a == 1) := by
    rw [Bool.eq_iff_iff, List.all_eq_true]
    simp only [List.any_eq_true, beq_iff_eq]
    rw [← q3]
    constructor
    ·intro h y hy
     obtain ⟨v, hv, rfl⟩ := h y hy
     exact hv
    ·intro h y hy
     exact ⟨y, h y hy, rfl⟩
   rw [this]
   exact bne_self_eq_false _
  repeat refine sq ?_
  refine cl_rs hΓ [0,3,7,9,11] [[3, 0]] fun K' hK => ?_
  simp only [go_sem]
  repeat refine ⟨ob, ?_⟩
  refine hK _ ?_ ?_ <;> clear K' hK <;> simp only [go_sem]
  repeat refine sq ?_
  refine cl_rs hΓ [0,3,7,9,11,98,99,100] [[3, 0]] fun K' hK => ?_
  simp only [go_sem]
  repeat refine ⟨ob, ?_⟩
  refine hK _ ?_ ?_ <;> clear K' hK <;> simp only [go_sem]
  repeat refine sq ?_
  refine cl_block ?_
  repeat refine sq ?_
  refine cl_loop' (fun s : Nat => [(11, ⟨true, .v (.bool ((ops.take s).all fun y => ps.any fun v => v == y))⟩), (100, ⟨true, .v (vInt s)⟩)]) (fun s => []) (fun s => s ≤ ops.length) (fun s => ops.length - s) 0 ?_ ?_ ?_ ?_
  ·exact Nat.zero_le _
  ·rfl
  ·rfl
  rintro i hi
  simp only [go_sem]
  repeat refine sq ?_
  refine cl_rs hΓ [0,3,7,9,11,98,99,100,101] [[3, 0]] fun K' hK => ?_
  simp only [go_sem]
  repeat refine ⟨ob, ?_⟩
  refine hK _ ?_ ?_ <;> clear K' hK <;> simp only [go_sem]
  repeat refine sq ?_
  refine cl_cond rfl rfl (fun hb => ?_) fun hb => ?_
  ·have hlt : i < ops.length := by simpa using hb
   have hlt' : (i : Int) < ops.length := by omega
   clear hb
   repeat refine sq ?_
   refine cl_skip ?_
   repeat refine sq ?_
   refine cl_block ?_
   repeat refine sq ?_
   have hn2 : ((ops.take (i + 1)).all fun y => ps.any fun v => v == y) = (((ops.take i).all fun y => ps.any fun v => v == y) && (ps.any fun v => v == ops[i])) := by
    rw [List.take_add_one, List.getElem?_eq_getElem hlt, List.all_append]; simp
   generalize ((ops.take i).all fun y => ps.any fun v => v == y) = b2 at hn2 ⊢
   repeat refine sq ?_
   refine cl_rs hΓ [0,3,7,9,11,13,98,99,100] [[3, 0]] fun K' hK => ?_
   simp only [go_sem, map_getD hlt, Int.toNat_natCast, Int.natCast_nonneg, hlt']
   repeat refine ⟨ob, ?_⟩
   refine hK _ ?_ ?_ <;> clear K' hK <;> simp only [go_sem, map_getD hlt, Int.toNat_natCast, Int.natCast_nonneg, hlt']
   generalize ops[i] = y at hn2 ⊢
   repeat refine sq ?_
   refine cl_rwE hΓ (mkS 192 [0] (fun _ => none) [(0, ⟨true, .v (.sl (l.map encD))⟩), (3, ⟨true, .ref [3, 0] 0⟩), (7, ⟨true, .v (.sl (ops.map vInt))⟩), (9, ⟨true, .v (vInt a)⟩), (11, ⟨true, .v (.bool (b2 && (ps.any fun v => v == y)))⟩), (98, ⟨true, .v (.sl (ops.map vInt))⟩), (99, ⟨true, .v (vInt ops.length)⟩), (100, ⟨true, .v (vInt i)⟩)] [([3, 0], .box [.v (.sl (ps.map vInt)), .v (.sl (ds0.map vInt)), .v (vInt da), .v (vInt kn)])]) (fun _ h => h) ?_ fun K' hK => ?_
   rotate_left
   ·cases b2
    ·simp only [go_sem]
     repeat refine ⟨ob, ?_⟩
     refine hK _ (weakM_keep [0,3,7,9,11,98,99,100] [[3, 0]] ?_ ?_)
     ·simp only [go_sem]
     ·simp only [go_sem, Bool.false_and]
    ·simp only [go_sem, sLV_app]
     repeat refine ⟨ob, ?_⟩
     refine hK _ (weakM_keep [0,3,7,9,11,98,99,100] [[3, 0]] ?_ ?_)
     ·simp only [go_sem]
     ·simp only [go_sem, Bool.true_and]
   repeat refine sq ?_
   refine cl_r hΓ fun K' hK => ?_
   simp only [go_sem]
   repeat refine ⟨ob, ?_⟩
   refine hK _ ?_
   clear K' hK
   simp only [go_sem]
   refine ⟨i + 1, hlt, (show ops.length - (i + 1) < ops.length - i by omega), ?_⟩
   rw [hn2]
   refine weak_eq [0,3,7,9,11,98,99,100] [[3, 0]] ?_ ?_
   ·simp only [go_sem, wrap_succ hlt hol, Int.natCast_add, Int.natCast_one]
   ·simp only [go_sem, wrap_succ hlt hol, Int.natCast_add, Int.natCast_one]
  ·have hge : i = ops.length := by
    have : ¬ (i : Int) < ops.length := by simpa using hb
    omega
   subst hge
   clear hb
   repeat refine sq ?_
   refine cl_exit ?_
   simp only [go_sem]
   refine cl_keep [0,3,7,9,11] [[3, 0]] ?_ ?_
   ·simp only [go_sem, List.take_length]
   simp only [go_sem, List.take_length]
   repeat refine sq ?_
   refine cl_rs hΓ [0,3,9,11,14,15] [[3, 0]] fun K' hK => ?_
   simp only [go_sem, sLPI_app, b0, b1]
   repeat refine ⟨ob, ?_⟩
   refine hK _ ?_ ?_ <;> clear K' hK <;> simp only [go_sem, sLPI_app, b0, b1]
   generalize ops.all (fun y => ps.any fun v => v == y) = al at hall ⊢
   repeat refine sq ?_
   refine cl_rs hΓ [0,3,9,133] [[3, 0]] fun K' hK => ?_
   simp only [go_sem, bne_self_eq_false, hall]
   repeat refine ⟨ob, ?_⟩
   refine hK _ ?_ ?_ <;> clear K' hK <;> simp only [go_sem, bne_self_eq_false, hall]
   repeat refine sq ?_
   refine cl_cond rfl rfl (fun hb => by (have h2 : (al != (a == 1)) = true := hb); rw [hall] at h2; cases h2) (fun _ => ?_)
   repeat refine sq ?_
   refine cl_skip ?_
   refine cl_nil ?_
   refine weakM_keep [0,3,9] [[3, 0]] ?_ ?_
   ·simp only [go_sem]
   ·simp only [go_sem]
 ·repeat refine sq ?_
  refine cl_skip ?_
  refine cl_nil ?_
  refine weakM_keep [0,3,9] [[3, 0]] ?_ ?_
  ·simp only [go_sem]
  ·simp only [go_sem]
 repeat refine sq ?_
 refine cl_rs hΓ [0,3,9,16] [[3, 0]] fun K' hK => ?_
 simp only [go_sem]
 repeat refine ⟨ob, ?_⟩
 refine hK _ ?_ ?_ <;> clear K' hK <;> simp only [go_sem]
 repeat refine sq ?_
 refine cl_block ?_
 repeat refine sq ?_
 refine cl_loop' (fun s : Nat => [(16, ⟨true, .v (vInt s)⟩)]) (fun s => []) (fun s => s ≤ 2) (fun s => 2 - s) 0 ?_ ?_ ?_ ?_
 ·exact Nat.zero_le _
 ·rfl
 ·rfl
 intro i hi
 simp only [go_sem]
 repeat refine sq ?_
 refine cl_rs hΓ [0,3,9,16,135] [[3, 0]] fun K' hK => ?_
 simp only [go_sem]
 repeat refine ⟨ob, ?_⟩
 refine hK _ ?_ ?_ <;> clear K' hK <;> simp only [go_sem]
 repeat refine sq ?_
 refine cl_cond rfl rfl (fun hb => ?_) fun hb => ?_
 ·have hlt : i < 2 := by
   have : (i : Int) < 2 := by simpa using hb
   omega
  have hws : IntKind.i64.wrap ((i : Int) + 1) = ((i + 1 : Nat) : Int) := wrap_succ (n := 2) hlt (by unfold maxLen; omega)
  clear hb
  repeat refine sq ?_
  refine cl_skip ?_
  repeat refine sq ?_
  refine cl_block ?_
  repeat refine sq ?_
  obtain ⟨lf, hl1, hl0⟩ : ∃ lf : Bool, ((i : Int) == 1) = lf ∧ ((i : Int) == 0) = !lf := by
   have : i = 0 ∨ i = 1 := by omega
   rcases this with rfl | rfl
   ·exact ⟨false, rfl, rfl⟩
   ·exact ⟨true, rfl, rfl⟩
  obtain ⟨can, hcan⟩ : ∃ can : Bool, can = if lf then !(a == 0) else !(a == 1) := ⟨_, rfl⟩
  obtain ⟨s1, s2⟩ := hshw lf hcan
  repeat refine sq ?_
  refine cl_rs hΓ [0,3,9,16,17,18] [[3, 0]] fun K' hK => ?_
  simp only [go_sem, hl1, hsa, s1]
  repeat refine ⟨ob, ?_⟩
  refine hK _ ?_ ?_ <;> clear K' hK <;> simp only [go_sem, hl1, hsa, s1]
  generalize shD l ps da kn lf = ds at s2 ⊢
  repeat refine sq ?_
  refine cl_rw hΓ (mkS 192 [0] (fun _ => none) [(0, ⟨true, .v (.sl (l.map encD))⟩), (3, ⟨true, .ref [3, 0] 0⟩), (9, ⟨true, .v (vInt a)⟩), (16, ⟨true, .v (vInt i)⟩), (17, ⟨true, .v (.sl (ds.map vInt))⟩), (18, ⟨true, .v (vInt (if can then 0 else 3))⟩), (19, ⟨true, .v (.bool can)⟩)] [([3, 0], .box [.v (.sl (ps.map vInt)), .v (.sl (ds0.map vInt)), .v (vInt da), .v (vInt kn)])]) ?_ fun K' hK => ?_
  rotate_left
  ·cases lf with
   | true =>
    rw [if_pos rfl] at hcan
    have hb : (a != 0) = can := hcan.symm
    simp only [go_sem, hl1, hl0, hb, Bool.not_true]
    repeat refine ⟨ob, ?_⟩
    refine hK _ (weakM_keep [0,3,9,16,17,18,19] [[3, 0]] ?_ ?_)
    ·simp only [go_sem]
    ·simp only [go_sem, hl1, hl0, hb, Bool.or_false, Bool.true_and]
   | false =>
    rw [if_neg Bool.false_ne_true] at hcan
    have hb : (a != 1) = can := hcan.symm
    simp only [go_sem, hl1, hl0, hb, Bool.not_false]
    repeat refine ⟨ob, ?_⟩
    refine hK _ (weakM_keep [0,3,9,16,17,18,19] [[3, 0]] ?_ ?_)
    ·simp only [go_sem]
    ·simp only [go_sem, hl1, hl0, hb, Bool.false_or, Bool.true_and]
  have hce : ((((if can then 0 else 3) : Int) == 0) != can) = false := by cases can <;> rfl
  repeat refine sq ?_
  refine cl_rs hΓ [0,3,9,16,17,19,168] [[3, 0]] fun K' hK => ?_
  simp only [go_sem, hce]
  repeat refine ⟨ob, ?_⟩
  refine hK _ ?_ ?_ <;> clear K' hK <;> simp only [go_sem, hce]
  repeat refine sq ?_
  refine cl_cond rfl rfl (fun hb => by (have h2 : ((((if can then 0 else 3) : Int) == 0) != can) = true := hb); rw [hce] at h2; cases h2) (fun _ => ?_)
  repeat refine sq ?_
  refine cl_skip ?_
  repeat refine sq ?_
  refine cl_rs hΓ [0,3,9,16,17,170] [[3, 0]] fun K' hK => ?_
  simp only [go_sem]
  repeat refine ⟨ob, ?_⟩
  refine hK _ ?_ ?_ <;> clear K' hK <;> simp only [go_sem]
  repeat refine sq ?_
  refine cl_cond rfl rfl (fun hb => ?_) fun hb => ?_
  ·repeat refine sq ?_
   refine cl_exit ?_
   simp only [go_sem]
   refine cl_keep [0,3,9,16] [[3, 0]] ?_ ?_
   ·simp only [go_sem]
   simp only [go_sem]
   repeat refine sq ?_
   refine cl_r hΓ fun K' hK => ?_
   simp only [go_sem]
   repeat refine ⟨ob, ?_⟩
   refine hK _ ?_
   clear K' hK
   simp only [go_sem]
   refine ⟨i + 1, by omega, by omega, ?_⟩
   refine weak_eq [0,3,9,16] [[3, 0]] ?_ ?_
   ·simp only [go_sem, hws, Int.natCast_add, Int.natCast_one]
   ·simp only [go_sem, hws, Int.natCast_add, Int.natCast_one]
  have hct : can = true := by simpa using hb
  obtain ⟨t1, t2⟩ := s2 hct
  repeat refine sq ?_
  refine cl_skip ?_
  repeat refine sq ?_
  refine cl_rs hΓ [0,3,9,16,20,21] [[3, 0]] fun K' hK => ?_
  simp only [go_sem, sTrue_app, t1, t2]
  repeat refine ⟨ob, ?_⟩
  refine hK _ ?_ ?_ <;> clear K' hK <;> simp only [go_sem, sTrue_app, t1, t2]
  repeat refine sq ?_
  refine cl_rs hΓ [0,3,9,16,190] [[3, 0]] fun K' hK => ?_
  simp only [go_sem, hl1, bne_self_eq_false]
  repeat refine ⟨ob, ?_⟩
  refine hK _ ?_ ?_ <;> clear K' hK <;> simp only [go_sem, hl1, bne_self_eq_false]
  repeat refine sq ?_
  refine cl_cond rfl rfl (fun hb => by cases hb) (fun _ => ?_)
  repeat refine sq ?_
  refine cl_skip ?_
  refine cl_nil ?_
  simp only [go_sem]
  refine cl_keep [0,3,9,16] [[3, 0]] ?_ ?_
  ·simp only [go_sem]
  simp only [go_sem]
  repeat refine sq ?_
  refine cl_r hΓ fun K' hK => ?_
  simp only [go_sem]
  repeat refine ⟨ob, ?_⟩
  refine hK _ ?_
  clear K' hK
  simp only [go_sem]
  refine ⟨i + 1, by omega, by omega, ?_⟩
  refine weak_eq [0,3,9,16] [[3, 0]] ?_ ?_
  ·simp only [go_sem, hws, Int.natCast_add, Int.natCast_one]
  ·simp only [go_sem, hws, Int.natCast_add, Int.natCast_one]
 have hge : i = 2 := by
  have : ¬ (i : Int) < 2 := by simpa using hb
  omega
 subst hge
 clear hb
 repeat refine sq ?_
 refine cl_exit ?_
 simp only [go_sem]
 refine cl_keep [] [] ?_ ?_
 ·simp only [go_sem]
 simp only [go_sem]
 repeat refine sq ?_
 refine cl_rs hΓ [4] [] fun K' hK => ?_
 simp only [go_sem]
 repeat refine ⟨ob, ?_⟩
 refine hK _ ?_ ?_ <;> clear K' hK <;> simp only [go_sem]
 refine cl_ret ?_
 simp only [go_sem]
def pOp12 : PSpec := ⟨fun xs => ∃ (l : List Deed) (da kn : Int) (ps ds : List Int), xs = [.sl (l.map encD), encO ps ds da kn], fun _ => .bool true, true⟩
theorem s12 : PSound Tryz.prog 12 pOp12 := by
 refine psoundB (rs := [.tmp 4]) Tryz.func12 Tryz.ntmps12 (by rfl) (by kernel_rfl) (by decide) (fun _ xs _ => rfl) ?_
 obtain ⟨c, hc, _⟩ := w12 [] 0 0 [] []
 refine ⟨c, hc, ?_⟩
 rintro xs ⟨l, da, kn, ps, ds, rfl⟩ hw
 refine ⟨lb rfl, ?_⟩
 obtain ⟨c', hc', h⟩ := w12 l da kn ps ds
 rw [hc] at hc'
 cases hc'
 exact h
end Go.Eng
set_option linter.constructorNameAsVariable false
namespace Go.Eng
open Go Go.Proofs Go.Proofs.YtofamdkaipongaaGreat Go.RowKit Go.ChangeShapes
theorem keysOpeners_lifted (hc : ∀ (W : World) (args : Array Value) (xs : List V), ArgsS Tryz.prog 6 Tryz.f12.params.toList xs → RepVs (memOf W) xs args.toList → Calls Tryz.prog 12 args W fun e W' => e = .returned (.bool true) ∧ Below W.heap.size W W')
    (os : Os) (started : os.Started) (H : Type) (enc : TypeId × Value → H) :
    ReturnsInHanded {} Tryz.checked os 12 .any (Rows.keysOpenersSpec.pre6 enc Tryz.prog Tryz.f12 Rows.keysOpenersRow.domain false) (Rows.keysOpenersSpec.post enc Tryz.prog Tryz.f12 false true false false) := by
  refine law_lifted (C := Tryz.checked) (n := 6) (tb := 4) kOwn started (by kernel_rfl) Tryz.func12
    (ChangeSpec.witness6 (enc := enc) (C := Tryz.checked) false ⟨#[], #[.slice none 0 0, .agg #[.slice none 0 0, .slice none 0 0, .int .i64 0, .int .i64 0]], []⟩ 8 (by kernel_rfl) (by kernel_rfl) (by kernel_rfl) (by kernel_rfl))
    kLaid ?_ (by kernel_rfl) (by kernel_rfl) rfl ?_ hc
  · have h : (Tryz.f12.params.toList.all fun t => plainT Tryz.prog 6 t && Tryz.prog.readableRec t && decide (t < Tryz.prog.types.size)) = true := by kernel_rfl
    intro t ht
    have := List.all_eq_true.1 h t ht
    simp only [Bool.and_eq_true, decide_eq_true_eq] at this
    exact ⟨this.1.1, this.1.2, this.2⟩
  · intro ds hds
    have hl : Tryz.f12.params.toList.length = 2 := by kernel_rfl
    rw [hl] at hds
    match ds, hds with
    | [d1, d2], _ => exact ⟨rfl, rfl, rfl⟩
theorem keysOpeners_said (hc : ∀ (W : World) (args : Array Value) (xs : List V), ArgsS Tryz.prog 6 Tryz.f12.params.toList xs → RepVs (memOf W) xs args.toList → Calls Tryz.prog 12 args W fun e W' => e = .returned (.bool true) ∧ Below W.heap.size W W') :
    Rows.KeysOpenersSaid :=
  OpenClaim.holds_of_wide 12 Tryz.f12 rfl rfl rfl rfl rfl rfl rfl ⟨rfl, rfl, rfl, rfl, rfl⟩ rfl rfl rfl rfl rfl (by kernel_rfl) Tryz.func12 (by kernel_rfl)
    (of_decide_eq_true (by kernel_rfl)) (by unfold Func.isWrapper; first | (rw [if_pos (by decide +kernel)]; kernel_rfl) | (rw [if_neg (by decide +kernel)]; exact ⟨rfl, rfl⟩))
    (fun os started H enc _ => keysOpeners_lifted hc os started H enc)
end Go.Eng
set_option maxRecDepth 100000
namespace Go.Eng
open Go Go.Proofs Go.Proofs.YtofamdkaipongaaGreat
theorem aggO53 : aggT Tryz.prog 53 = true := by kernel_rfl
theorem shpO39 {n : Nat} {xs : List V} (h : Shp Tryz.prog (n + 2) 39 xs) : ∃ l : List Int, xs = [.sl (l.map vInt)] := by
 unfold Shp at h
 simp only [Tryz.underlying39] at h
 obtain ⟨ls, rfl, _, h3⟩ := h
 rw [aggT3]
 obtain ⟨m, hm⟩ := map_ex (f := vInt) (P := fun y => ∃ d, y = vInt d) (fun y h => h) (l := ls.map (packV false)) fun y hy => by
  obtain ⟨z, hz, rfl⟩ := List.mem_map.1 hy
  obtain ⟨k, rfl, hk⟩ := shp3 (h3 z hz)
  exact ⟨k, rfl⟩
 exact ⟨m, by rw [hm]⟩
theorem shpO53 {n : Nat} {xs : List V} (h : Shp Tryz.prog (n + 3) 53 xs) : ∃ ps ds da kn, V.agg xs = encO ps ds da kn := by
 unfold Shp at h
 simp only [Tryz.underlying53] at h
 obtain ⟨x1, y, rfl, h1, x2, y2, rfl, h2, x3, y3, rfl, h3, x4, y4, rfl, h4, rfl⟩ := h
 obtain ⟨a, rfl⟩ := shpO39 h1
 obtain ⟨b, rfl⟩ := shpO39 h2
 obtain ⟨c, rfl, _⟩ := shp3 h3
 obtain ⟨d, rfl, _⟩ := shp3 h4
 exact ⟨a, b, c, d, rfl⟩
theorem argO53 {x : V} (h : ArgS Tryz.prog 6 53 x) : ∃ ps ds da kn, x = encO ps ds da kn := by
 obtain ⟨xs, h1, rfl⟩ := h
 rw [aggO53]
 exact shpO53 h1
theorem openers_holds : Rows.KeysOpenersSaid :=
 keysOpeners_said fun W args xs ha hr => by
  obtain ⟨x, ys, rfl, h1, y, zs, rfl, h2, rfl⟩ := (show ArgsS Tryz.prog 6 [22, 53] xs from ha)
  obtain ⟨l, rfl⟩ := arg22 h1
  obtain ⟨os, ds, da, kn, rfl⟩ := argO53 h2
  exact calls_true s12 hr ⟨l, da, kn, os, ds, rfl⟩ rfl
end Go.Eng
namespace Go.Proofs.YtofamdkaipongaaGreat
theorem keysOpeners_holds : Rows.KeysOpenersSaid := Go.Eng.openers_holds
end Go.Proofs.YtofamdkaipongaaGreat
#print axioms Go.Proofs.YtofamdkaipongaaGreat.keysOpeners_holds
