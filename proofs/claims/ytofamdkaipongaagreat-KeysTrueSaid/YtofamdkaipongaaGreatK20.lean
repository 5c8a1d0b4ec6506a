import Derived.Test.YtofamdkaipongaaGreatK19
import Derived.SizedLaws
/- True days. -/
set_option linter.all false
namespace Go.Eng
open Go Go.Proofs
set_option maxRecDepth 10000
noncomputable def sLock : Spec := (pLock lockV).toSpec
theorem sLock_nil {obj : Name → Option O} {t : Name} {l : List Deed} {a b c : Int} : sLock.app obj t [.v (.sl (l.map encD)), .v (vInt a), .v (vInt b), .v (vInt c), .nilsl] = ⟨True, .v (lockV l a b c []), obj⟩ := by
 have e := pLock_fn lockV l a b c []
 simp only [List.map_nil] at e
 simp only [sLock, PSpec.toSpec, frzL, frz, e]
 simp only [pLock, Bool.false_eq_true, if_false]
 congr 1
 simp only [eq_iff_iff, iff_true]
 exact ⟨⟨trivial, trivial, trivial, trivial, trivial, trivial⟩, l, a, b, c, [], rfl⟩
theorem sLock_one {obj : Name → Option O} {t : Name} {l : List Deed} {a b c p : Int} : sLock.app obj t [.v (.sl (l.map encD)), .v (vInt a), .v (vInt b), .v (vInt c), .v (.sl [vInt p])] = ⟨True, .v (lockV l a b c [p]), obj⟩ := by
 have e := pLock_fn lockV l a b c [p]
 simp only [List.map_cons, List.map_nil] at e
 simp only [sLock, PSpec.toSpec, frzL, frz, e]
 simp only [pLock, Bool.false_eq_true, if_false]
 congr 1
 simp only [eq_iff_iff, iff_true]
 exact ⟨⟨trivial, trivial, trivial, trivial, trivial, trivial⟩, l, a, b, c, [p], rfl⟩
noncomputable def K63 : FuncId → Option Spec := fun f => match f with
 | 90 => some sLock
 | 91 => some sWho
 | 105 => some sAns
 | _ => none
theorem K63_sound : ∀ f s, K63 f = some s → SSound Tryz.prog f s := by
 intro f s h
 unfold K63 at h
 split at h
 ·cases h; exact s90.sound
 ·cases h; exact s91.sound
 ·cases h; exact s105.sound
 ·cases h
@[go_sem] theorem K63_90 : K63 90 = some sLock := rfl
@[go_sem] theorem K63_91 : K63 91 = some sWho := rfl
@[go_sem] theorem K63_105 : K63 105 = some sAns := rfl
def pLI4 (f : List Deed → Int → Int → Int → Int → V) (fl : Bool) : PSpec := ⟨fun xs => ∃ (l : List Deed) (a b c d : Int), xs = [.sl (l.map encD), vInt a, vInt b, vInt c, vInt d], fun xs => match xs with | [.sl l, .int _ a, .int _ b, .int _ c, .int _ d] => f (l.map decD) a b c d | _ => .bool false, fl⟩
theorem pLI4_fn (f : List Deed → Int → Int → Int → Int → V) (fl : Bool) (l : List Deed) (a b c d : Int) : (pLI4 f fl).fn [.sl (l.map encD), vInt a, vInt b, vInt c, vInt d] = f l a b c d := by
 simp only [pLI4, decD_map]
set_option maxHeartbeats 8000000 in
theorem s31 : PSound Tryz.prog 31 (pLI3 (fun l lock day k => .tup [.sl ((whoR (·.h) l lock day k).map vInt), vInt (lockE l lock day k [])]) false) := by
 refine psoundB (rs := [.tmp 8, .tmp 9]) Tryz.func31 Tryz.ntmps31 (by rfl) (by kernel_rfl) (by decide) (fun h => by cases h) ⟨_, rfl, ?_⟩
 rintro xs ⟨l, lock, day, k, rfl⟩ hw
 refine ⟨lb rfl, ?_⟩
 rw [pLI3_fn]
 have hΓ := K63_sound
 have hle := lockV_eq l lock day k []
 unfold whoR
 repeat refine sq ?_
 refine rs hΓ [0,1,2,3] [] ?_
 repeat refine sq ?_
 refine rx hΓ [2,10,11] [] (fun K' hK => by simp only [go_sem, sLock_nil, hle]; exact fin) ?_
 repeat refine sq ?_
 refine rs hΓ [2,10,11,21] [] ?_
 repeat refine sq ?_
 refine cl_cond rfl rfl (fun hb => ?_) fun hb => ?_
 ·repeat refine sq ?_
  have hn : ¬ lockE l lock day k [] = 0 := by simpa using hb
  simp only [if_neg hn]
  repeat refine sq ?_
  refine rs hΓ [8,9] [] ?_
  exact rt
 have hq : lockE l lock day k [] = 0 := by simpa using hb
 obtain ⟨hq1, hq2⟩ := lockE_ok hq
 have h3 := (askE_ok hq1).1
 have hwho := fun (obj : Name → Option O) (tm : Name) => sWho_app (obj := obj) (tm := tm) (day := day) (g := 92) (by decide) (thr_len h3 k lock 0) (thr_kind h3 k lock 0)
 have hf : fW 92 = fun s => s.h := rfl
 rw [hf] at hwho
 simp only [hq, if_true]
 repeat refine sq ?_
 refine cl_skip ?_
 repeat refine sq ?_
 refine rx hΓ [8,9] [] (fun K' hK => by simp only [go_sem, hwho]; exact fin) ?_
 exact rt
set_option maxHeartbeats 8000000 in
theorem s32 : PSound Tryz.prog 32 (pLI3 (fun l lock day k => .tup [.sl ((whoR (·.n) l lock day k).map vInt), vInt (lockE l lock day k [])]) false) := by
 refine psoundB (rs := [.tmp 8, .tmp 9]) Tryz.func32 Tryz.ntmps32 (by rfl) (by kernel_rfl) (by decide) (fun h => by cases h) ⟨_, rfl, ?_⟩
 rintro xs ⟨l, lock, day, k, rfl⟩ hw
 refine ⟨lb rfl, ?_⟩
 rw [pLI3_fn]
 have hΓ := K63_sound
 have hle := lockV_eq l lock day k []
 unfold whoR
 repeat refine sq ?_
 refine rs hΓ [0,1,2,3] [] ?_
 repeat refine sq ?_
 refine rx hΓ [2,10,11] [] (fun K' hK => by simp only [go_sem, sLock_nil, hle]; exact fin) ?_
 repeat refine sq ?_
 refine rs hΓ [2,10,11,21] [] ?_
 repeat refine sq ?_
 refine cl_cond rfl rfl (fun hb => ?_) fun hb => ?_
 ·repeat refine sq ?_
  have hn : ¬ lockE l lock day k [] = 0 := by simpa using hb
  simp only [if_neg hn]
  repeat refine sq ?_
  refine rs hΓ [8,9] [] ?_
  exact rt
 have hq : lockE l lock day k [] = 0 := by simpa using hb
 obtain ⟨hq1, hq2⟩ := lockE_ok hq
 have h3 := (askE_ok hq1).1
 have hwho := fun (obj : Name → Option O) (tm : Name) => sWho_app (obj := obj) (tm := tm) (day := day) (g := 93) (by decide) (thr_len h3 k lock 0) (thr_kind h3 k lock 0)
 have hf : fW 93 = fun s => s.n := rfl
 rw [hf] at hwho
 simp only [hq, if_true]
 repeat refine sq ?_
 refine cl_skip ?_
 repeat refine sq ?_
 refine rx hΓ [8,9] [] (fun K' hK => by simp only [go_sem, hwho]; exact fin) ?_
 exact rt
set_option maxHeartbeats 8000000 in
theorem s44 : PSound Tryz.prog 44 (pLI4 (fun l lock pe day k => .tup [vInt (ansR (fun s => s.h == pe) l lock pe day k), vInt (lockE l lock day k [pe])]) true) := by
 refine psoundB (rs := [.tmp 10, .tmp 11]) Tryz.func44 Tryz.ntmps44 (by rfl) (by kernel_rfl) (by decide) (by rintro _ xs ⟨l, a, b, c, d, rfl⟩; rw [pLI4_fn]; rfl) ⟨_, rfl, ?_⟩
 rintro xs ⟨l, lock, pe, day, k, rfl⟩ hw
 refine ⟨lb rfl, ?_⟩
 rw [pLI4_fn]
 have hΓ := K63_sound
 have hle := lockV_eq l lock day k [pe]
 unfold ansR
 repeat refine sq ?_
 refine rs hΓ [0,1,3,4,7] [[7, 0]] ?_
 repeat refine sq ?_
 refine rx hΓ [3,7,12,13] [[7, 0]] (fun K' hK => by simp only [go_sem, sLock_one, hle]; exact fin) ?_
 repeat refine sq ?_
 refine rs hΓ [3,7,12,13,25] [[7, 0]] ?_
 repeat refine sq ?_
 refine cl_cond rfl rfl (fun hb => ?_) fun hb => ?_
 ·repeat refine sq ?_
  have hn : ¬ lockE l lock day k [pe] = 0 := by simpa using hb
  simp only [if_neg hn]
  repeat refine sq ?_
  refine rs hΓ [10,11] [] ?_
  exact rt
 have hq : lockE l lock day k [pe] = 0 := by simpa using hb
 obtain ⟨hq1, hq2⟩ := lockE_ok hq
 have h3 := (askE_ok hq1).1
 have hans := fun (obj : Name → Option O) (tm : Name) (b : Name) (ho : obj b = some (.box [.v (vInt pe)])) => sAns_by (obj := obj) (tm := tm) (b := b) (day := day) (k := pe) (g := 106) (by decide) ho (thr_len h3 k lock 0) (thr_kind h3 k lock 0)
 have hf : (if 106 = 106 then fun (s : Sta) => s.h == pe else fun s => s.n == pe) = fun s => s.h == pe := rfl
 rw [hf] at hans
 simp only [hq, if_true]
 repeat refine sq ?_
 refine cl_skip ?_
 repeat refine sq ?_
 refine rx hΓ [10,11] [] (fun K' hK => by simp only [go_sem, hans]; exact fin) ?_
 exact rt
set_option maxHeartbeats 8000000 in
theorem s46 : PSound Tryz.prog 46 (pLI4 (fun l lock pe day k => .tup [vInt (ansR (fun s => s.n == pe) l lock pe day k), vInt (lockE l lock day k [pe])]) true) := by
 refine psoundB (rs := [.tmp 10, .tmp 11]) Tryz.func46 Tryz.ntmps46 (by rfl) (by kernel_rfl) (by decide) (by rintro _ xs ⟨l, a, b, c, d, rfl⟩; rw [pLI4_fn]; rfl) ⟨_, rfl, ?_⟩
 rintro xs ⟨l, lock, pe, day, k, rfl⟩ hw
 refine ⟨lb rfl, ?_⟩
 rw [pLI4_fn]
 have hΓ := K63_sound
 have hle := lockV_eq l lock day k [pe]
 unfold ansR
 repeat refine sq ?_
 refine rs hΓ [0,1,3,4,7] [[7, 0]] ?_
 repeat refine sq ?_
 refine rx hΓ [3,7,12,13] [[7, 0]] (fun K' hK => by simp only [go_sem, sLock_one, hle]; exact fin) ?_
 repeat refine sq ?_
 refine rs hΓ [3,7,12,13,25] [[7, 0]] ?_
 repeat refine sq ?_
 refine cl_cond rfl rfl (fun hb => ?_) fun hb => ?_
 ·repeat refine sq ?_
  have hn : ¬ lockE l lock day k [pe] = 0 := by simpa using hb
  simp only [if_neg hn]
  repeat refine sq ?_
  refine rs hΓ [10,11] [] ?_
  exact rt
 have hq : lockE l lock day k [pe] = 0 := by simpa using hb
 obtain ⟨hq1, hq2⟩ := lockE_ok hq
 have h3 := (askE_ok hq1).1
 have hans := fun (obj : Name → Option O) (tm : Name) (b : Name) (ho : obj b = some (.box [.v (vInt pe)])) => sAns_by (obj := obj) (tm := tm) (b := b) (day := day) (k := pe) (g := 108) (by decide) ho (thr_len h3 k lock 0) (thr_kind h3 k lock 0)
 have hf : (if 108 = 106 then fun (s : Sta) => s.h == pe else fun s => s.n == pe) = fun s => s.n == pe := rfl
 rw [hf] at hans
 simp only [hq, if_true]
 repeat refine sq ?_
 refine cl_skip ?_
 repeat refine sq ?_
 refine rx hΓ [10,11] [] (fun K' hK => by simp only [go_sem, hans]; exact fin) ?_
 exact rt
theorem insI_has : ∀ {l : List Int} {x y : Int}, y = x ∨ y ∈ l → y ∈ insI l x
 | [], x, y, h => by simpa [insI] using h
 | a :: r, x, y, h => by
  unfold insI
  split
  ·rcases h with rfl | h
   ·exact List.mem_cons_of_mem _ (insI_has (.inl rfl))
   ·rcases List.mem_cons.1 h with rfl | h
    ·simp
    ·exact List.mem_cons_of_mem _ (insI_has (.inr h))
  ·split
   ·rename_i h1 h2
    rcases h with rfl | h
    ·simp; omega
    ·exact h
   ·rcases h with rfl | h
    ·simp
    ·exact List.mem_cons_of_mem _ h
theorem count_ok {l : List Deed} (h : okL l) (k : Int) : okL (countL l k) :=
 ⟨h.1.filter _, fun d hd => h.2.1 d (List.mem_filter.1 hd).1, Nat.le_trans (List.length_filter_le _ _) h.2.2⟩
theorem days_two {l : List Deed} {a b : Int} (h : checkI l = 0) (ha : isDayB a = true) (hb : isDayB b = true) : daysI l [a, b] = 0 := by
 unfold daysI
 rw [if_pos h]
 simp [ha, hb]
noncomputable def gE (c : List Deed) : Int := if (confP c).isSome then 13 else 0
theorem lock_of {l : List Deed} {lock day k : Int} (h : checkI l = 0) (hl : isLockB lock = true) (ha : isDayB day = true) (hb : isDayB k = true) : lockE l lock day k [] = gE (countL l k) := by
 unfold lockE askE
 rw [if_pos h, if_pos hl, days_two h ha hb]
 rfl
theorem who_of {l : List Deed} {lock day k : Int} {f : Sta → Int} (h : checkI l = 0) (hl : isLockB lock = true) (ha : isDayB day = true) (hb : isDayB k = true) : whoR f l lock day k = if gE (countL l k) = 0 then whoL f (thrL (countL l k) lock 0) day else [] := by
 unfold whoR
 rw [lock_of h hl ha hb]
theorem lwE_of {l : List Deed} {ps : List Int} {day k : Int} (h : checkI l = 0) (hp : areB ps = true) (ha : isDayB day = true) (hb : isDayB k = true) : lwE l ps day k = gE (countL l k) := by
 unfold lwE openE
 rw [if_pos h, if_pos hp, days_two h ha hb]
 rfl
theorem lwA_of {l : List Deed} {ps : List Int} {day k : Int} (h : checkI l = 0) (hp : areB ps = true) (ha : isDayB day = true) (hb : isDayB k = true) : lwA l ps day k = if gE (countL l k) = 0 then ansW (countL l k) day ps else 0 := by
 unfold lwA
 rw [lwE_of h hp ha hb]
theorem day_iff {n : Int} : isDayB n = true ↔ 0 ≤ n ∧ n ≤ 100000 := by
 unfold isDayB inI
 simp
def modI (n m : Int) : Int := Int.tmod (IntKind.i64.wrap (Int.tmod n m + m)) m
def pMod : PSpec := ⟨fun xs => ∃ a b, xs = [vInt a, vInt b] ∧ b ≠ 0, fun xs => match xs with | [.int _ a, .int _ b] => vInt (modI a b) | _ => .bool false, true⟩
set_option maxRecDepth 10000 in
theorem s18 : PSound Tryz.prog 18 pMod := by
 refine psoundB (rs := [.tmp 4]) Tryz.func18 Tryz.ntmps18 (by rfl) (by kernel_rfl) (by decide) (by rintro _ xs ⟨a, b, rfl, _⟩; rfl) ⟨_, rfl, ?_⟩
 rintro xs ⟨a, b, rfl, hb⟩ _
 refine ⟨lb rfl, ?_⟩
 have hΓ := @no_sound Tryz.prog
 repeat refine sq ?_
 refine rs hΓ [0,1] [] ?_
 repeat refine sq ?_
 refine rs hΓ [4] [] ?_
 refine cl_ret ?_
 simp only [go_sem]
 rfl
noncomputable def sMod : Spec := pMod.toSpec
theorem sMod_app {obj : Name → Option O} {t : Name} {a b : Int} (hb : b ≠ 0) : sMod.app obj t [.v (vInt a), .v (vInt b)] = ⟨True, .v (vInt (modI a b)), obj⟩ := by
 simp only [sMod, pMod, PSpec.toSpec, frzL, frz]
 congr 1
 simp only [eq_iff_iff, iff_true]
 exact ⟨⟨trivial, trivial, trivial⟩, a, b, rfl, hb⟩
structure narD (a b : Deed) : Prop where
 pa : b.pa = a.pa
 no : b.no = a.no
 ki : b.ki = a.ki
 lo : b.lo = a.lo
 pe : b.pe = a.pe
 kn : b.kn = a.kn
 un : b.un = a.un
 d1 : a.dl ≤ b.dl
 d2 : b.dl ≤ b.dh
 d3 : b.dh ≤ a.dh
inductive Nar : List Deed → List Deed → Prop
 | nil : Nar [] []
 | cons {a b l m} : narD a b → Nar l m → Nar (a :: l) (b :: m)
theorem mem_who {f : Sta → Int} {t : List Deed} {day : Int} {x : Int} : x ∈ whoL f t day ↔ ∃ n, n ≤ t.length ∧ mayB t n day = true ∧ x = f (stA t n) := by
 have key : ∀ s, x ∈ whoTo f t day s ↔ ∃ n, n < s ∧ mayB t n day = true ∧ x = f (stA t n) := by
  intro s
  induction s with
  | zero => exact ⟨fun h => (by cases h), fun ⟨n, hn, _⟩ => by omega⟩
  | succ s ih =>
   rw [whoTo_next]
   by_cases hm : mayB t s day = true
   ·rw [if_pos hm]
    constructor
    ·intro h
     rcases mem_insI h with h | h
     ·exact ⟨s, by omega, hm, h⟩
     ·obtain ⟨n, hn, h⟩ := ih.1 h
      exact ⟨n, by omega, h⟩
    ·rintro ⟨n, hn, h1, h2⟩
     refine insI_has ?_
     by_cases hs : n = s
     ·subst hs; exact .inl h2
     ·exact .inr (ih.2 ⟨n, by omega, h1, h2⟩)
   ·rw [if_neg hm, ih]
    constructor
    ·rintro ⟨n, hn, h⟩; exact ⟨n, by omega, h⟩
    ·rintro ⟨n, hn, h⟩
     refine ⟨n, ?_, h⟩
     by_cases hs : n = s
     ·subst hs; exact (hm h.1).elim
     ·omega
 unfold whoL
 rw [key]
 constructor
 ·rintro ⟨n, hn, h⟩; exact ⟨n, by omega, h⟩
 ·rintro ⟨n, hn, h⟩; exact ⟨n, by omega, h⟩
def mayP (t : List Deed) (day : Int) (s : Sta) : Prop := ∃ n, n ≤ t.length ∧ mayB t n day = true ∧ s = stA t n
theorem sT_may {c : List Deed} {l day : Int} {i : Nat} (h : i < nT c l day) : mayP (thrL c l 0) day (sT c l day i) := by
 have hm : kT c l day i ∈ mayL (thrL c l 0) day ((thrL c l 0).length + 1) := by
  unfold kT
  unfold nT at h
  rw [List.getD_eq_getElem?_getD, List.getElem?_eq_getElem h, Option.getD_some]
  exact List.getElem_mem h
 obtain ⟨h1, h2⟩ := mayL_lt _ hm
 exact ⟨_, by omega, h2, rfl⟩
theorem may_sT {c : List Deed} {l day : Int} {s : Sta} (h : mayP (thrL c l 0) day s) : ∃ i, i < nT c l day ∧ sT c l day i = s := by
 obtain ⟨n, h1, h2, h3⟩ := h
 have hm : n ∈ mayN (thrL c l 0) day := List.mem_filter.2 ⟨List.mem_range.2 (by omega), h2⟩
 obtain ⟨i, hi, e⟩ := List.getElem_of_mem hm
 refine ⟨i, hi, ?_⟩
 unfold sT kT
 rw [List.getD_eq_getElem?_getD, List.getElem?_eq_getElem hi, Option.getD_some, e, h3]
def offP (c : List Deed) (day : Int) (x : Sta) (b : Bool) : Prop := ∃ s, mayP (thrL c 0 x.h) day s ∧ s.o = b
theorem off_iff {c : List Deed} {day : Int} {x : Sta} {b : Bool} : (offA c day x b).2 = true ↔ offP c day x b := by
 unfold offA offFind
 cases hf : (mayN (thrL c 0 x.h) day).find? (fun n => (stA (thrL c 0 x.h) n).o == b) with
 | some n =>
  refine ⟨fun _ => ?_, fun _ => rfl⟩
  have h1 := List.find?_some hf
  obtain ⟨h2, h3⟩ := mayL_lt _ (List.mem_of_find?_eq_some hf)
  exact ⟨_, ⟨n, by omega, h3, rfl⟩, by simpa using h1⟩
 | none =>
  refine ⟨fun h => (by cases h), ?_⟩
  rintro ⟨s, ⟨n, h1, h2, rfl⟩, h4⟩
  have := List.find?_eq_none.1 hf n (List.mem_filter.2 ⟨List.mem_range.2 (by omega), h2⟩)
  simp [h4] at this
def lawP (c : List Deed) (day : Int) (ps : List Int) : Prop := ∃ x y z, mayP (thrL c 1 0) day x ∧ mayP (thrL c 2 0) day y ∧ mayP (thrL c 3 0) day z ∧ threeB [x, y, z] ps = true ∧ ∀ s ∈ [x, y, z], offP c day s true
def unP (c : List Deed) (day : Int) (ps : List Int) : Prop := ∃ x y z, mayP (thrL c 1 0) day x ∧ mayP (thrL c 2 0) day y ∧ mayP (thrL c 3 0) day z ∧ (threeB [x, y, z] ps = false ∨ ∃ s ∈ [x, y, z], offP c day s false)
theorem way_of {c : List Deed} {day : Int} {x y z : Sta} (h1 : mayP (thrL c 1 0) day x) (h2 : mayP (thrL c 2 0) day y) (h3 : mayP (thrL c 3 0) day z) : ∃ k, k < wN c day ∧ wX c day k = x ∧ wY c day k = y ∧ wZ c day k = z := by
 obtain ⟨i, hi, e1⟩ := may_sT h1
 obtain ⟨j, hj, e2⟩ := may_sT h2
 obtain ⟨l, hl, e3⟩ := may_sT h3
 obtain ⟨g1, g2, g3⟩ := w_split (i := i) hj hl rfl
 refine ⟨i * (nT c 2 day * nT c 3 day) + j * nT c 3 day + l, ?_, ?_, ?_, ?_⟩
 ·unfold wN
  have : j * nT c 3 day + nT c 3 day ≤ nT c 2 day * nT c 3 day := by
   have := Nat.mul_le_mul_right (nT c 3 day) hj
   rw [Nat.succ_mul] at this
   exact this
  have : i * (nT c 2 day * nT c 3 day) + nT c 2 day * nT c 3 day ≤ nT c 1 day * (nT c 2 day * nT c 3 day) := by
   have := Nat.mul_le_mul_right (nT c 2 day * nT c 3 day) hi
   rw [Nat.succ_mul] at this
   exact this
  omega
 ·unfold wX wi; rw [g3, e1]
 ·unfold wY wj; rw [g2, e2]
 ·unfold wZ wl; rw [g1, e3]
theorem law_iff {c : List Deed} {day : Int} {ps : List Int} : (lawW c day ps).2 = true ↔ lawP c day ps := by
 have hg : ∀ k, goodW c day ps k = true ↔ threeB [wX c day k, wY c day k, wZ c day k] ps = true ∧ ∀ s ∈ [wX c day k, wY c day k, wZ c day k], offP c day s true := fun k => by
  unfold goodW
  simp only [Bool.and_eq_true, List.forall_mem_cons, off_iff]
  constructor
  ·rintro ⟨⟨⟨h1, h2⟩, h3⟩, h4⟩; exact ⟨h1, h2, h3, h4, fun _ h => by cases h⟩
  ·rintro ⟨h1, h2, h3, h4, _⟩; exact ⟨⟨⟨h1, h2⟩, h3⟩, h4⟩
 unfold lawW
 cases hf : (List.range (wN c day)).find? (goodW c day ps) with
 | some k =>
  refine ⟨fun _ => ?_, fun _ => rfl⟩
  obtain ⟨h1, h2, h3⟩ := w_lt (List.mem_range.1 (List.mem_of_find?_eq_some hf))
  exact ⟨_, _, _, sT_may h1, sT_may h2, sT_may h3, (hg k).1 (List.find?_some hf)⟩
 | none =>
  refine ⟨fun h => (Bool.false_ne_true h).elim, ?_⟩
  rintro ⟨x, y, z, h1, h2, h3, h4⟩
  obtain ⟨k, hk, rfl, rfl, rfl⟩ := way_of h1 h2 h3
  exact (List.find?_eq_none.1 hf k (List.mem_range.2 hk) ((hg k).2 h4)).elim
theorem un_iff {c : List Deed} {day : Int} {ps : List Int} : (unW c day ps).2.2 = true ↔ unP c day ps := by
 have hg : ∀ k, badW c day ps k = true ↔ threeB [wX c day k, wY c day k, wZ c day k] ps = false ∨ ∃ s ∈ [wX c day k, wY c day k, wZ c day k], offP c day s false := fun k => by
  unfold badW
  rw [Bool.or_eq_true, Bool.not_eq_true', List.any_eq_true]
  exact or_congr Iff.rfl (exists_congr fun s => and_congr Iff.rfl off_iff)
 unfold unW
 cases hf : (List.range (wN c day)).find? (badW c day ps) with
 | some k =>
  refine ⟨fun _ => ?_, fun _ => rfl⟩
  obtain ⟨h1, h2, h3⟩ := w_lt (List.mem_range.1 (List.mem_of_find?_eq_some hf))
  exact ⟨_, _, _, sT_may h1, sT_may h2, sT_may h3, (hg k).1 (List.find?_some hf)⟩
 | none =>
  refine ⟨fun h => (Bool.false_ne_true h).elim, ?_⟩
  rintro ⟨x, y, z, h1, h2, h3, h4⟩
  obtain ⟨k, hk, rfl, rfl, rfl⟩ := way_of h1 h2 h3
  exact (List.find?_eq_none.1 hf k (List.mem_range.2 hk) ((hg k).2 h4)).elim
theorem ans_if {c : List Deed} {day : Int} {ps : List Int} : (ansW c day ps = 1 ↔ ¬ unP c day ps) ∧ (ansW c day ps = 0 ↔ unP c day ps ∧ ¬ lawP c day ps) ∧ (ansW c day ps = 2 ↔ unP c day ps ∧ lawP c day ps) := by
 rw [← law_iff, ← un_iff]
 unfold ansW
 cases (unW c day ps).2.2 <;> cases (lawW c day ps).2 <;> simp
theorem rLo_le {d : Deed} : ∀ {X : List Deed} {m v : Int}, m ≤ v → (∀ o ∈ X, sameThB d o = true → o.dl ≤ v) → X.foldl (fun m o => if sameThB d o then (if o.dl > m then o.dl else m) else m) m ≤ v
 | [], m, v, h, _ => h
 | o :: r, m, v, h, hx => by
  simp only [List.foldl_cons]
  refine rLo_le ?_ fun o' ho' => hx o' (by simp [ho'])
  have := hx o (by simp)
  split
  ·rename_i hs
   have := this hs
   split <;> omega
  ·exact h
theorem le_rHi {d : Deed} : ∀ {X : List Deed} {m v : Int}, v ≤ m → (∀ o ∈ X, sameThB d o = true → v ≤ o.dh) → v ≤ X.foldl (fun m o => if sameThB d o then (if o.dh < m then o.dh else m) else m) m
 | [], m, v, h, _ => h
 | o :: r, m, v, h, hx => by
  simp only [List.foldl_cons]
  refine le_rHi ?_ fun o' ho' => hx o' (by simp [ho'])
  have := hx o (by simp)
  split
  ·rename_i hs
   have := this hs
   split <;> omega
  ·exact h
theorem same_self (a : Deed) : sameThB a a = true := by unfold sameThB; split <;> simp_all
theorem same_sym {x y : Deed} (hs : sameThB x y = true) (hx : isDeedB x = true) (hy : isDeedB y = true) : sameThB y x = true := by
 have k1 := valid_kind hx
 have k2 := valid_kind hy
 unfold sameThB at hs ⊢
 rcases k1 with ⟨k1, k3, _⟩ | ⟨k1, k3⟩ <;> rcases k2 with ⟨k2, k4, _⟩ | ⟨k2, k4⟩ <;> simp [k1, k2] at hs ⊢
 ·exact hs.symm
 ·omega
 ·exact hs.symm
theorem same_tr {x y z : Deed} (hs : sameThB x y = true) (hs' : sameThB x z = true) (hx : isDeedB x = true) (hy : isDeedB y = true) (hz : isDeedB z = true) : sameThB y z = true := by
 have k1 := valid_kind hx
 have k2 := valid_kind hy
 have k3 := valid_kind hz
 unfold sameThB at hs hs' ⊢
 rcases k1 with ⟨k1, k4, _⟩ | ⟨k1, k4⟩ <;> rcases k2 with ⟨k2, k5, _⟩ | ⟨k2, k5⟩ <;> rcases k3 with ⟨k3, k6, _⟩ | ⟨k3, k6⟩ <;> simp [k1, k2, k3] at hs hs' ⊢ <;> omega
theorem days_even {c : List Deed} (hc : okL c) (hp : pairI clashB c = none) {i : Nat} (hi : i < c.length) : rLo c[i] (c.take i) ≤ rHi c[i] (c.drop (i + 1)) := by
 have hv : ∀ a (ha : a < c.length), isDeedB c[a] = true := fun a ha => hc.2.1 _ (List.getElem_mem ha)
 have key : ∀ a b (ha : a < c.length) (hb : b < c.length), a ≤ b → sameThB c[a] c[b] = true → c[a].dl ≤ c[b].dh := by
  intro a b ha hb hab hs
  rcases Nat.lt_or_eq_of_le hab with h1 | h1
  ·have := pairI_not hp a b ha hb h1
   unfold clashB at this
   rw [hs] at this
   simp at this
   exact this
  ·subst h1
   exact (day_of (hv a ha)).2.1
 refine rLo_le ?_ fun o ho hs => ?_
 ·refine le_rHi (key i i hi hi (Nat.le_refl _) (same_self _)) fun o ho hs => ?_
  obtain ⟨b, hb, rfl⟩ := List.getElem_of_mem ho
  rw [List.getElem_drop] at hs ⊢
  simp at hb
  exact key i (i + 1 + b) hi (by omega) (by omega) hs
 ·obtain ⟨a, ha, rfl⟩ := List.getElem_of_mem ho
  rw [List.getElem_take] at hs ⊢
  simp at ha
  refine le_rHi (key a i (by omega) hi (by omega) (same_sym hs (hv _ _) (hv _ _))) fun o ho hs' => ?_
  obtain ⟨b, hb, rfl⟩ := List.getElem_of_mem ho
  rw [List.getElem_drop] at hs' ⊢
  simp at hb
  exact key a (i + 1 + b) (by omega) (by omega) (by omega) (same_tr hs hs' (hv _ _) (hv _ _) (hv _ _))
theorem modI_range {a n : Int} (h1 : 1 ≤ n) (h2 : n ≤ 1152921504606846976) : 0 ≤ modI a n ∧ modI a n < n := by
 have h3 : -n < a.tmod n ∧ a.tmod n < n := ⟨Int.lt_tmod_of_pos a (by omega), Int.tmod_lt_of_pos a (by omega)⟩
 have hw : IntKind.i64.wrap (a.tmod n + n) = a.tmod n + n := wrap_i64 (by omega) (by omega)
 unfold modI
 rw [hw]
 exact ⟨Int.tmod_nonneg _ (by omega), Int.tmod_lt_of_pos _ (by omega)⟩
set_option maxHeartbeats 2000000 in
theorem s62 : PSound Tryz.prog 62 (pLV fun l v => .bool (l.any fun x => x == v)) := by
 refine psoundB (rs := [.tmp 4]) Tryz.func62 Tryz.ntmps62 (by rfl) (by kernel_rfl) (by decide) (by rintro _ xs ⟨l, v, rfl⟩; rfl) ⟨_, rfl, ?_⟩
 rintro xs ⟨l, v, rfl⟩ hw
 have hl : l.length ≤ maxLen := by have := hw.1.1; simpa using this
 refine ⟨lb rfl, ?_⟩
 rw [pLV_fn]
 have hΓ := K0n_sound
 repeat refine sq ?_
 refine rs hΓ [0,1] [] ?_
 repeat refine sq ?_
 refine rs hΓ [0,1,7,8,9] [] ?_
 repeat refine sq ?_
 refine cl_block ?_
 repeat refine sq ?_
 refine cl_loop' (fun s : Nat => [(9, ⟨true, .v (vInt s)⟩)]) (fun s => []) (fun s => s ≤ l.length ∧ ∀ j (h : j < l.length), j < s → (l[j] == v) = false) (fun s => l.length - s) 0 ?_ ?_ ?_ ?_
 ·exact ⟨Nat.zero_le _, fun j h hj => by omega⟩
 ·rfl
 ·rfl
 rintro i ⟨hi, hz⟩
 simp only [go_sem]
 repeat refine sq ?_
 refine rs hΓ [0,1,7,8,9,10] [] ?_
 repeat refine sq ?_
 refine cl_cond rfl rfl (fun hb => ?_) fun hb => ?_
 ·have hlt : i < l.length := by simpa using hb
  have hlt' : (i : Int) < l.length := by omega
  clear hb
  repeat refine sq ?_
  refine cl_skip ?_
  repeat refine sq ?_
  refine cl_block ?_
  repeat refine sq ?_
  refine rx hΓ [0,1,6,7,8,9] [] (fun K' hK => by simp only [go_sem, map_getD hlt, Int.toNat_natCast, Int.natCast_nonneg, hlt']; exact fin) ?_
  repeat refine sq ?_
  refine rs hΓ [0,1,6,7,8,9,15] [] ?_
  repeat refine sq ?_
  refine cl_cond rfl rfl (fun hb => ?_) fun hb => ?_
  ·repeat refine sq ?_
   refine rs hΓ [4] [] ?_
   refine cl_ret ?_
   simp only [go_sem]
   have : (l.any fun x => x == v) = true := List.any_eq_true.2 ⟨_, List.getElem_mem hlt, hb⟩
   rw [this]
  ·have hn : (l[i] == v) = false := hb
   clear hb
   repeat refine sq ?_
   refine cl_skip ?_
   refine cl_nil ?_
   simp only [go_sem]
   refine cl_keep [0,1,7,8,9] [] ?_ ?_ <;> simp only [go_sem]
   repeat refine sq ?_
   refine cl_r hΓ fun K' hK => ?_
   simp only [go_sem]
   repeat refine ⟨ob, ?_⟩
   refine hK _ ?_
   clear K' hK
   simp only [go_sem]
   refine ⟨i + 1, ⟨by omega, fun j h hj => ?_⟩, by omega, ?_⟩
   ·rcases Nat.lt_succ_iff_lt_or_eq.1 hj with h1 | h1
    ·exact hz j h h1
    ·subst h1; exact hn
   refine weak_eq [0,1,7,8,9] [] ?_ ?_ <;> simp only [go_sem, wrap_succ hlt hl, Int.natCast_add, Int.natCast_one]
 ·have hge : i = l.length := by
   have : ¬ (i : Int) < l.length := by simpa using hb
   omega
  subst hge
  clear hb
  repeat refine sq ?_
  refine cl_exit ?_
  simp only [go_sem]
  refine cl_keep [] [] ?_ ?_ <;> simp only [go_sem]
  repeat refine sq ?_
  refine rs hΓ [4] [] ?_
  refine cl_ret ?_
  simp only [go_sem]
  have : (l.any fun x => x == v) = false := by
   rw [List.any_eq_false]
   intro x hx
   obtain ⟨j, hj, rfl⟩ := List.getElem_of_mem hx
   rw [hz j hj hj]
   exact Bool.false_ne_true
  rw [this]
noncomputable def K97 : FuncId → Option Spec := fun f => match f with
 | 62 => some (sLV fun l v => .bool (l.any fun x => x == v))
 | 18 => some sMod
 | _ => none
theorem K97_sound : ∀ f s, K97 f = some s → SSound Tryz.prog f s := by
 intro f s h
 unfold K97 at h
 split at h
 ·cases h; exact s62.sound
 ·cases h; exact s18.sound
 ·cases h
@[go_sem] theorem K97_62 : K97 62 = some (sLV fun l v => .bool (l.any fun x => x == v)) := rfl
@[go_sem] theorem K97_18 : K97 18 = some sMod := rfl
def pIBv (f : Int → Bool → V) : PSpec := ⟨fun xs => ∃ a b, xs = [vInt a, .bool b], fun xs => match xs with | [.int _ a, .bool b] => f a b | _ => .bool false, true⟩
noncomputable def sIBv (f : Int → Bool → V) : Spec := (pIBv f).toSpec
theorem sIBv_app {f : Int → Bool → V} {obj : Name → Option O} {t : Name} {a : Int} {b : Bool} : (sIBv f).app obj t [.v (vInt a), .v (.bool b)] = ⟨True, .v (f a b), obj⟩ := by
 simp only [sIBv, pIBv, PSpec.toSpec, frzL, frz]
 congr 1
 simp only [eq_iff_iff, iff_true]
 exact ⟨⟨trivial, trivial, trivial⟩, a, b, rfl⟩
def wrongB (a : Int) (b : Bool) : Bool := (a == 1 && !b) || (a == 0 && b)
set_option maxHeartbeats 4000000 in
theorem s63 : PSound Tryz.prog 63 (pIBv fun a b => .bool (wrongB a b)) := by
 refine psoundB (rs := [.tmp 4]) Tryz.func63 Tryz.ntmps63 (by rfl) (by kernel_rfl) (by decide) (by rintro _ xs ⟨a, b, rfl⟩; rfl) ⟨_, rfl, ?_⟩
 rintro xs ⟨a, b, rfl⟩ _
 refine ⟨lb rfl, ?_⟩
 have hΓ := K0n_sound
 show CL _ _ _ (retK _ _ (.bool (wrongB a b)))
 unfold wrongB
 cases h1 : (a == 1) <;> cases h2 : (a == 0) <;> cases b
 all_goals
  repeat refine sq ?_
  refine rs hΓ [0,1] [] ?_
  repeat refine sq ?_
  refine rx hΓ [4] [] (fun K' hK => by simp only [go_sem, h1, h2]; exact fin) ?_
  exact rt
def pickI (l : List Int) (i : Int) : Int := if l.length = 0 then 0 else l.getD (modI i l.length).toNat 0
def pPick : PSpec := ⟨fun xs => ∃ (l : List Int) (v : Int), xs = [.sl (l.map vInt), vInt v] ∧ l.length ≤ 1152921504606846976, fun xs => match xs with | [.sl l, .int _ v] => vInt (pickI (l.map decI) v) | _ => .bool false, true⟩
theorem pPick_fn (l : List Int) (v : Int) : pPick.fn [.sl (l.map vInt), vInt v] = vInt (pickI l v) := by
 simp only [pPick, decI_map]
noncomputable def sPick : Spec := pPick.toSpec
theorem sPick_app {obj : Name → Option O} {t : Name} {l : List Int} {v : Int} (h : l.length ≤ 1152921504606846976) : sPick.app obj t [.v (.sl (l.map vInt)), .v (vInt v)] = ⟨True, .v (vInt (pickI l v)), obj⟩ := by
 simp only [sPick, PSpec.toSpec, frzL, frz, pPick_fn, ite_self]
 simp only [pPick, if_true]
 congr 1
 simp only [eq_iff_iff, iff_true]
 exact ⟨⟨trivial, trivial, trivial⟩, l, v, rfl, h⟩
set_option maxHeartbeats 4000000 in
theorem s120 : PSound Tryz.prog 120 pPick := by
 refine psoundB (rs := [.tmp 4]) Tryz.func120 Tryz.ntmps120 (by rfl) (by kernel_rfl) (by decide) (by rintro _ xs ⟨l, v, rfl, _⟩; rfl) ⟨_, rfl, ?_⟩
 rintro xs ⟨l, v, rfl, hl⟩ hw
 refine ⟨lb rfl, ?_⟩
 rw [pPick_fn]
 have hΓ := K97_sound
 unfold pickI
 repeat refine sq ?_
 refine rs hΓ [0,1] [] ?_
 repeat refine sq ?_
 refine rs hΓ [0,1,7] [] ?_
 repeat refine sq ?_
 refine cl_cond rfl rfl (fun hb => ?_) fun hb => ?_
 ·have h0 : l.length = 0 := by simpa using hb
  repeat refine sq ?_
  refine rs hΓ [4] [] ?_
  refine cl_ret ?_
  simp only [go_sem]
  rw [if_pos h0]
 have h0 : ¬ l.length = 0 := by simpa using hb
 repeat refine sq ?_
 refine cl_skip ?_
 rw [if_neg h0]
 have hr := modI_range (a := v) (n := l.length) (by omega) (by omega)
 have hm := fun (obj : Name → Option O) (t : Name) => sMod_app (obj := obj) (t := t) (a := v) (b := l.length) (by omega)
 obtain ⟨j, hj⟩ : ∃ j : Nat, modI v l.length = (j : Int) := ⟨(modI v l.length).toNat, by omega⟩
 have hlt : j < l.length := by omega
 have hlt' : (j : Int) < l.length := by omega
 rw [hj, Int.toNat_natCast, List.getD_eq_getElem?_getD, List.getElem?_eq_getElem hlt, Option.getD_some]
 repeat refine sq ?_
 refine rx hΓ [4] [] (fun K' hK => by simp only [go_sem, hm, hj, map_getD hlt, Int.toNat_natCast, Int.natCast_nonneg, hlt']; exact fin) ?_
 exact rt
theorem sorted_split {day : Int} : ∀ {z : List (Deed × Int)}, z.Pairwise (fun x y => x.2 ≤ y.2) → ∃ n, n ≤ z.length ∧ z.filter (fun x => decide (x.2 ≤ day)) = z.take n ∧ (∀ x ∈ z.take n, x.2 ≤ day) ∧ ∀ x ∈ z.drop n, day < x.2
 | [], _ => ⟨0, Nat.le_refl _, rfl, fun x h => by simp at h, fun x h => by simp at h⟩
 | a :: z, h => by
  obtain ⟨h1, h2⟩ := List.pairwise_cons.1 h
  by_cases ha : a.2 ≤ day
  ·obtain ⟨n, k1, k2, k3, k4⟩ := sorted_split (day := day) h2
   refine ⟨n + 1, by simp; omega, ?_, ?_, ?_⟩
   ·rw [List.filter_cons, if_pos (by simpa using ha), k2, List.take_succ_cons]
   ·intro x hx
    rw [List.take_succ_cons] at hx
    rcases List.mem_cons.1 hx with rfl | hx
    ·exact ha
    ·exact k3 x hx
   ·intro x hx
    rw [List.drop_succ_cons] at hx
    exact k4 x hx
  ·refine ⟨0, by simp, ?_, fun x hx => by simp at hx, ?_⟩
   ·rw [List.take_zero, List.filter_eq_nil_iff]
    intro x hx
    have : day < x.2 := by
     rcases List.mem_cons.1 hx with rfl | hx
     ·omega
     ·have := h1 x hx; omega
    simp; omega
   ·intro x hx
    rw [List.drop_zero] at hx
    rcases List.mem_cons.1 hx with rfl | hx
    ·omega
    ·have := h1 x hx; omega
def hapL (p : Deed → Bool) (c : List Deed) (ds : List Int) (day : Int) : List Deed := ((c.zip ds).filter fun x => p x.1 && decide (x.2 ≤ day)).map (·.1)
theorem hap_may {p : Deed → Bool} (hp : thB p) {c : List Deed} (hv : ∀ d ∈ c, isDeedB d = true) {ds : List Int} (ht : trueP sameThB c ds) {day : Int} (h0 : 0 ≤ day) :
  ∃ n, n ≤ (c.filter p).length ∧ mayB (c.filter p) n day = true ∧ hapL p c ds day = (c.filter p).take n := by
 obtain ⟨hlen, htr⟩ := ht
 have hz : ((c.zip ds).filter fun x => p x.1).map (·.1) = c.filter p := by
  have h1 : (c.zip ds).map (·.1) = c := List.map_fst_zip (by omega)
  have h2 := List.filter_map (f := fun x : Deed × Int => x.1) (p := p) (l := c.zip ds)
  rw [h1] at h2
  exact h2.symm
 have hpw : ((c.zip ds).filter fun x => p x.1).Pairwise (fun x y => x.2 ≤ y.2) := by
  rw [List.pairwise_filter, List.pairwise_iff_getElem]
  intro i j hi hj hij hpi hpj
  simp at hi hj
  simp only [List.getElem_zip] at hpi hpj ⊢
  have h1 := (htr j (by omega) (by omega)).2 i hij
  have h2 := hp c[i] c[j] (hv _ (List.getElem_mem _)) (hv _ (List.getElem_mem _)) hpi
  rw [h2, hpj] at h1
  simp at h1
  exact h1
 have hin : ∀ x ∈ (c.zip ds).filter (fun x => p x.1), x.1.dl ≤ x.2 ∧ x.2 ≤ x.1.dh ∧ x.1.dh ≤ 100000 := by
  intro x hx
  obtain ⟨i, hi, rfl⟩ := List.getElem_of_mem (List.mem_filter.1 hx).1
  simp at hi
  simp only [List.getElem_zip]
  have h1 := inI_iff.1 (htr i (by omega) (by omega)).1
  have h2 := day_of (hv _ (List.getElem_mem (by omega : i < c.length)))
  omega
 obtain ⟨n, k1, k2, k3, k4⟩ := sorted_split (day := day) hpw
 have hl : ((c.zip ds).filter fun x => p x.1).length = (c.filter p).length := by rw [← hz, List.length_map]
 refine ⟨n, by omega, ?_, ?_⟩
 ·have e1 : (c.filter p).take n = (((c.zip ds).filter fun x => p x.1).take n).map (·.1) := by rw [← hz, List.map_take]
  have e2 : (c.filter p).drop n = (((c.zip ds).filter fun x => p x.1).drop n).map (·.1) := by rw [← hz, List.map_drop]
  have g1 : loM ((c.filter p).take n) ≤ day := loM_le h0 fun d hd => by
   rw [e1] at hd
   obtain ⟨x, hx, rfl⟩ := List.mem_map.1 hd
   have := k3 x hx
   have := hin x (List.mem_of_mem_take hx)
   omega
  have g2 : n = (c.filter p).length ∨ hiM ((c.filter p).drop n) > day := by
   by_cases hn : n = (c.filter p).length
   ·exact .inl hn
   refine .inr (Int.not_le.1 fun hle => ?_)
   rcases hiM_le hle with h | ⟨d, hd, h⟩
   ·have hlt : n < ((c.zip ds).filter fun x => p x.1).length := by omega
    have hx : ((c.zip ds).filter fun x => p x.1)[n] ∈ ((c.zip ds).filter fun x => p x.1).drop n := by
     rw [List.drop_eq_getElem_cons hlt]; exact List.mem_cons_self
    have := k4 _ hx
    have := hin _ (List.getElem_mem hlt)
    omega
   ·rw [e2] at hd
    obtain ⟨x, hx, rfl⟩ := List.mem_map.1 hd
    have := k4 x hx
    have := hin x (List.mem_of_mem_drop hx)
    omega
  unfold mayB
  simp only [Bool.and_eq_true, Bool.or_eq_true, decide_eq_true_eq, beq_iff_eq]
  exact ⟨.inr g1, g2⟩
 ·unfold hapL
  have e : (c.zip ds).filter (fun x => p x.1 && decide (x.2 ≤ day)) = ((c.zip ds).filter fun x => p x.1).filter fun x => decide (x.2 ≤ day) := by
   rw [List.filter_filter]
   congr 1
   funext x
   exact Bool.and_comm _ _
  rw [e, k2, List.map_take, hz]
theorem idx_hap {α : Type} {p : Deed → Bool} {f : α → Deed → α} {day : Int} {C : List Deed} {D : List Int} : ∀ (c : List Deed) (ds : List Int) (n : Nat) (a : α), ds.length = c.length → C.drop n = c → D.drop n = ds →
  (idxF p n c).foldl (fun a i => if D.getD i 0 ≤ day then f a (C.getD i zeroD) else a) a = (hapL p c ds day).foldl f a
 | [], ds, n, a, _, _, _ => by cases ds <;> rfl
 | d :: c, [], n, a, h, _, _ => by simp at h
 | d :: c, x :: ds, n, a, h, h1, h2 => by
  have g1 : C.getD n zeroD = d := by
   rw [List.getD_eq_getElem?_getD, ← List.head?_drop, h1]; rfl
  have g2 : D.getD n 0 = x := by
   rw [List.getD_eq_getElem?_getD, ← List.head?_drop, h2]; rfl
  have t1 : C.drop (n + 1) = c := by rw [← List.tail_drop, h1]; rfl
  have t2 : D.drop (n + 1) = ds := by rw [← List.tail_drop, h2]; rfl
  have ih := fun a => idx_hap (f := f) (p := p) (day := day) c ds (n + 1) a (by simpa using h) t1 t2
  unfold hapL at ih ⊢
  simp only [idxF, List.zip_cons_cons, List.filter_cons]
  by_cases hp : p d = true
  ·by_cases hx : x ≤ day
   ·rw [if_pos hp, List.foldl_cons, g1, g2, if_pos hx, ih, if_pos (by simp [hp, hx])]
    rfl
   ·rw [if_pos hp, List.foldl_cons, g2, if_neg hx, ih, if_neg (by simp [hx])]
  ·rw [if_neg hp, ih, if_neg (by simp [hp])]
theorem hap_congr {p q : Deed → Bool} {c : List Deed} {ds : List Int} {day : Int} (h : ∀ d ∈ c, p d = q d) : hapL p c ds day = hapL q c ds day := by
 unfold hapL
 congr 1
 refine List.filter_congr fun x hx => ?_
 rw [h x.1 (List.of_mem_zip hx).1]
def thenS (c : List Deed) (ds : List Int) (lo pe day : Int) : Sta := (hapL (fun d => isOfB d lo pe) c ds day).foldl (fun s d => doS d.ki s d.pe) zeroS
def keyO (c : List Deed) (ds : List Int) (lock day : Int) : Int × Int := (hapL (thrB lock) c ds day).foldl keyA (0, 0)
def inO (c : List Deed) (ds : List Int) (pe day : Int) : Bool := (hapL (offpB pe) c ds day).foldl (fun _ d => d.ki == 1) false
theorem filt_iff {p q : Deed → Bool} {c : List Deed} (h : c.filter p = c.filter q) : ∀ d ∈ c, p d = q d := by
 intro d hd
 cases hp : p d with
 | true =>
  have : d ∈ c.filter q := by rw [← h]; exact List.mem_filter.2 ⟨hd, hp⟩
  exact (List.mem_filter.1 this).2.symm
 | false =>
  cases hq : q d with
  | false => rfl
  | true =>
   have : d ∈ c.filter p := by rw [h]; exact List.mem_filter.2 ⟨hd, hq⟩
   rw [(List.mem_filter.1 this).2] at hp; cases hp
theorem lock_hap {c : List Deed} (hv : ∀ d ∈ c, isDeedB d = true) {lock : Int} (hl : 1 ≤ lock) (ds : List Int) (day : Int) : hapL (fun d => isOfB d lock 0) c ds day = hapL (thrB lock) c ds day :=
 hap_congr (filt_iff (thrL_lock hv hl))
theorem pers_hap {c : List Deed} (hv : ∀ d ∈ c, isDeedB d = true) (pe : Int) (ds : List Int) (day : Int) : hapL (fun d => isOfB d 0 pe) c ds day = hapL (offpB pe) c ds day :=
 hap_congr (filt_iff (thrL_pers hv pe))
theorem then_lock {c : List Deed} (hv : ∀ d ∈ c, isDeedB d = true) {ds : List Int} (ht : trueP sameThB c ds) {lock day : Int} (hl : 1 ≤ lock) (h0 : 0 ≤ day) : mayP (thrL c lock 0) day (thenS c ds lock 0 day) := by
 obtain ⟨n, h1, h2, h3⟩ := hap_may (thrB_of lock hl) hv ht h0
 unfold thenS
 rw [lock_hap hv hl, h3, thrL_lock hv hl]
 exact ⟨n, h1, h2, rfl⟩
theorem then_pers {c : List Deed} (hv : ∀ d ∈ c, isDeedB d = true) {ds : List Int} (ht : trueP sameThB c ds) {pe day : Int} (h0 : 0 ≤ day) : mayP (thrL c 0 pe) day (thenS c ds 0 pe day) := by
 obtain ⟨n, h1, h2, h3⟩ := hap_may (offpB_of pe) hv ht h0
 unfold thenS
 rw [pers_hap hv pe, h3, thrL_pers hv]
 exact ⟨n, h1, h2, rfl⟩
theorem key_then {c : List Deed} (hv : ∀ d ∈ c, isDeedB d = true) (ds : List Int) {lock : Int} (hl : 1 ≤ lock) (day : Int) : keyO c ds lock day = ((thenS c ds lock 0 day).h, (thenS c ds lock 0 day).n) := by
 unfold thenS keyO
 rw [lock_hap hv hl]
 refine (fold_key zeroS fun d hd => ?_).symm
 unfold hapL at hd
 obtain ⟨x, hx, rfl⟩ := List.mem_map.1 hd
 obtain ⟨h1, h2⟩ := List.mem_filter.1 hx
 simp only [Bool.and_eq_true] at h2
 exact thrB_kind (hv _ (List.of_mem_zip h1).1) h2.1
theorem in_then {c : List Deed} (hv : ∀ d ∈ c, isDeedB d = true) (ds : List Int) (pe day : Int) : inO c ds pe day = (thenS c ds 0 pe day).o := by
 unfold thenS inO
 rw [pers_hap hv pe]
 have hk : ∀ d ∈ hapL (offpB pe) c ds day, d.ki = 1 ∨ d.ki = 2 := by
  intro d hd
  unfold hapL at hd
  obtain ⟨x, hx, rfl⟩ := List.mem_map.1 hd
  obtain ⟨h1, h2⟩ := List.mem_filter.1 hx
  simp only [Bool.and_eq_true] at h2
  have := h2.1
  unfold offpB offB at this
  simp at this
  exact this.1
 generalize hapL (offpB pe) c ds day = t at hk
 have key : ∀ (t : List Deed) (b : Bool) (s : Sta), s.o = b → (∀ d ∈ t, d.ki = 1 ∨ d.ki = 2) → t.foldl (fun _ d => d.ki == 1) b = (t.foldl (fun s d => doS d.ki s d.pe) s).o := by
  intro t
  induction t with
  | nil => intro b s h _; exact h.symm
  | cons d t ih =>
   intro b s h hk
   simp only [List.foldl_cons]
   refine ih _ _ ?_ fun e he => hk e (by simp [he])
   rcases hk d (by simp) with h1 | h1 <;> rw [h1] <;> rfl
 exact key t false zeroS rfl hk
theorem ansP_true {p : Sta → Bool} {t : List Deed} {day : Int} {s : Sta} (hs : mayP t day s) : (ansP p t day = 1 → p s = true) ∧ (ansP p t day = 0 → p s = false) := by
 obtain ⟨n, h1, h2, rfl⟩ := hs
 have hm : n ∈ mayL t day (t.length + 1) := List.mem_filter.2 ⟨List.mem_range.2 (by omega), h2⟩
 have hy : yesTo p t day (t.length + 1) = true ↔ ∃ n ∈ mayL t day (t.length + 1), p (stA t n) = true := by unfold yesTo; rw [List.any_eq_true]
 have hn : noTo p t day (t.length + 1) = true ↔ ∃ n ∈ mayL t day (t.length + 1), (!p (stA t n)) = true := by unfold noTo; rw [List.any_eq_true]
 unfold ansP
 constructor
 ·intro h
  cases hp : p (stA t n) with
  | true => rfl
  | false =>
   rw [if_pos (hn.2 ⟨n, hm, by rw [hp]; rfl⟩)] at h
   split at h <;> omega
 ·intro h
  cases hp : p (stA t n) with
  | false => rfl
  | true =>
   have := hy.2 ⟨n, hm, hp⟩
   rw [this] at h
   split at h <;> simp at h
def wasB (c : List Deed) (ds : List Int) (ps : List Int) (day : Int) : Bool :=
 threeB [thenS c ds 1 0 day, thenS c ds 2 0 day, thenS c ds 3 0 day] ps && [thenS c ds 1 0 day, thenS c ds 2 0 day, thenS c ds 3 0 day].all fun s => (thenS c ds 0 s.h day).o
theorem was_right {c : List Deed} (hv : ∀ d ∈ c, isDeedB d = true) {ds : List Int} (ht : trueP sameThB c ds) {day : Int} (h0 : 0 ≤ day) (ps : List Int) :
  (ansW c day ps = 1 → wasB c ds ps day = true) ∧ (ansW c day ps = 0 → wasB c ds ps day = false) := by
 obtain ⟨a1, a2, _⟩ := ans_if (c := c) (day := day) (ps := ps)
 have m1 := then_lock hv ht (lock := 1) (by decide) h0
 have m2 := then_lock hv ht (lock := 2) (by decide) h0
 have m3 := then_lock hv ht (lock := 3) (by decide) h0
 constructor
 ·intro h
  have hu := a1.1 h
  unfold wasB
  cases h3 : threeB [thenS c ds 1 0 day, thenS c ds 2 0 day, thenS c ds 3 0 day] ps with
  | false => exact (hu ⟨_, _, _, m1, m2, m3, .inl h3⟩).elim
  | true =>
   rw [Bool.true_and, List.all_eq_true]
   intro s hs
   cases ho : (thenS c ds 0 s.h day).o with
   | true => rfl
   | false => exact (hu ⟨_, _, _, m1, m2, m3, .inr ⟨s, hs, _, then_pers hv ht h0, ho⟩⟩).elim
 ·intro h
  have hl := (a2.1 h).2
  cases hw : wasB c ds ps day with
  | false => rfl
  | true =>
   unfold wasB at hw
   rw [Bool.and_eq_true, List.all_eq_true] at hw
   exact (hl ⟨_, _, _, m1, m2, m3, hw.1, fun s hs => ⟨_, then_pers hv ht h0, hw.2 s hs⟩⟩).elim
theorem le_rLo {d : Deed} : ∀ {X : List Deed} {m : Int}, m ≤ X.foldl (fun m o => if sameThB d o then (if o.dl > m then o.dl else m) else m) m
 | [], m => Int.le_refl _
 | o :: r, m => by
  simp only [List.foldl_cons]
  refine Int.le_trans ?_ le_rLo
  split
  ·split <;> omega
  ·exact Int.le_refl _
theorem rHi_le {d : Deed} : ∀ {X : List Deed} {m : Int}, X.foldl (fun m o => if sameThB d o then (if o.dh < m then o.dh else m) else m) m ≤ m ∧ ∀ o ∈ X, sameThB d o = true → X.foldl (fun m o => if sameThB d o then (if o.dh < m then o.dh else m) else m) m ≤ o.dh
 | [], m => ⟨Int.le_refl _, fun o h => by cases h⟩
 | o :: r, m => by
  obtain ⟨h1, h2⟩ := rHi_le (d := d) (X := r) (m := if sameThB d o then (if o.dh < m then o.dh else m) else m)
  simp only [List.foldl_cons]
  refine ⟨Int.le_trans h1 ?_, fun x hx hs => ?_⟩
  ·split
   ·split <;> omega
   ·exact Int.le_refl _
  ·rcases List.mem_cons.1 hx with rfl | hx
   ·refine Int.le_trans h1 ?_
    rw [if_pos hs]
    split <;> omega
   ·exact h2 x hx hs
theorem rHi_mono {c : List Deed} (hv : ∀ d ∈ c, isDeedB d = true) {k i : Nat} (hki : k < i) (hi : i < c.length) (hs : sameThB (c[k]'(by omega)) c[i] = true) : rHi (c[k]'(by omega)) (c.drop (k + 1)) ≤ rHi c[i] (c.drop (i + 1)) := by
 have hw : ∀ a (ha : a < c.length), isDeedB c[a] = true := fun a ha => hv _ (List.getElem_mem ha)
 have hmem : ∀ b (hb : b < c.length), k + 1 ≤ b → c[b] ∈ c.drop (k + 1) := fun b hb hle => by
  rw [List.mem_iff_getElem]
  exact ⟨b - (k + 1), by simp; omega, by rw [List.getElem_drop]; congr 1; omega⟩
 refine le_rHi (rHi_le.2 _ (hmem i hi (by omega)) hs) fun o ho hso => ?_
 obtain ⟨b, hb, rfl⟩ := List.getElem_of_mem ho
 rw [List.getElem_drop] at hso ⊢
 simp at hb
 exact rHi_le.2 _ (hmem (i + 1 + b) (by omega) (by omega)) (same_tr (same_sym hs (hw _ _) (hw _ _)) hso (hw _ _) (hw _ _) (hw _ _))
def trLo (c : List Deed) (out : List Int) (i : Nat) : Nat → Int
 | 0 => (dayR c i).1
 | k + 1 => if sameThB (c.getD k zeroD) (c.getD i zeroD) then (if out.getD k 0 > trLo c out i k then out.getD k 0 else trLo c out i k) else trLo c out i k
def trX (c : List Deed) (picks out : List Int) (i : Nat) : Int := trLo c out i i + modI (pickI picks i) ((dayR c i).2 - trLo c out i i + 1)
def trN (c : List Deed) (picks : List Int) : Nat → List Int
 | 0 => []
 | i + 1 => trN c picks i ++ [trX c picks (trN c picks i) i]
theorem trN_len (c : List Deed) (picks : List Int) : ∀ i, (trN c picks i).length = i
 | 0 => rfl
 | i + 1 => by simp [trN, trN_len c picks i]
theorem getD_at {α : Type} {l : List α} {d : α} {i : Nat} (h : i < l.length) : l.getD i d = l[i] := by simp [List.getD_eq_getElem?_getD, h]
theorem trLo_ok {c : List Deed} {out : List Int} {i : Nat} {v : Int} (h0 : (dayR c i).1 ≤ v) : ∀ k, (∀ j < k, sameThB (c.getD j zeroD) (c.getD i zeroD) = true → out.getD j 0 ≤ v) → trLo c out i k ≤ v ∧ (dayR c i).1 ≤ trLo c out i k ∧ ∀ j < k, sameThB (c.getD j zeroD) (c.getD i zeroD) = true → out.getD j 0 ≤ trLo c out i k
 | 0, _ => ⟨h0, Int.le_refl _, fun j hj => by omega⟩
 | k + 1, h => by
  obtain ⟨h1, h2, h3⟩ := trLo_ok h0 k fun j hj => h j (by omega)
  have hk := h k (by omega)
  unfold trLo
  split
  ·rename_i hs
   have hk := hk hs
   split
   ·refine ⟨by omega, by omega, fun j hj hs' => ?_⟩
    by_cases e : j = k
    ·subst e; omega
    ·have := h3 j (by omega) hs'; omega
   ·refine ⟨h1, h2, fun j hj hs' => ?_⟩
    by_cases e : j = k
    ·subst e; omega
    ·exact h3 j (by omega) hs'
  ·rename_i hs
   refine ⟨h1, h2, fun j hj hs' => ?_⟩
   by_cases e : j = k
   ·subst e; exact (hs hs').elim
   ·exact h3 j (by omega) hs'
theorem dayR_at {c : List Deed} {i : Nat} (hi : i < c.length) : dayR c i = (rLo c[i] (c.take i), rHi c[i] (c.drop (i + 1))) := by
 unfold dayR
 rw [getD_at hi]
theorem tr_ok {c : List Deed} (hc : okL c) (hp : pairI clashB c = none) (picks : List Int) : ∀ i, i ≤ c.length →
  (∀ a (ha : a < c.length), a < i → (dayR c a).1 ≤ (trN c picks i).getD a 0 ∧ (trN c picks i).getD a 0 ≤ (dayR c a).2 ∧ ∀ b (hb : b < a), sameThB (c[b]'(by omega)) c[a] = true → (trN c picks i).getD b 0 ≤ (trN c picks i).getD a 0)
 | 0, _, a, ha, h => by omega
 | i + 1, hle, a, ha, hai => by
  have ih := tr_ok hc hp picks i (by omega)
  have hn := trN_len c picks i
  have hgl : ∀ b, b < i → (trN c picks (i + 1)).getD b 0 = (trN c picks i).getD b 0 := fun b hb => by
   simp only [trN, List.getD_eq_getElem?_getD]
   rw [List.getElem?_append_left (by omega)]
  have hge : (trN c picks (i + 1)).getD i 0 = trX c picks (trN c picks i) i := by
   simp only [trN, List.getD_eq_getElem?_getD]
   rw [List.getElem?_append_right (by omega), hn]
   simp
  by_cases e : a = i
  ·subst e
   rw [hge]
   have hev := days_even hc hp ha
   have hdr := dayR_at ha
   obtain ⟨k1, k2, k3⟩ := trLo_ok (c := c) (out := trN c picks a) (i := a) (v := (dayR c a).2) (by rw [hdr]; exact hev) a fun j hj hs => by
    rw [getD_at ha, getD_at (by omega : j < c.length)] at hs
    have h1 := (ih j (by omega) hj).2.1
    rw [dayR_at (by omega : j < c.length)] at h1
    have h2 := rHi_mono hc.2.1 hj ha hs
    rw [hdr]
    exact Int.le_trans h1 h2
   have hd := day_of (hc.2.1 _ (List.getElem_mem ha))
   have hb1 : c[a].dl ≤ (dayR c a).1 := by rw [hdr]; exact le_rLo
   have hb2 : (dayR c a).2 ≤ c[a].dh := by rw [hdr]; exact rHi_le.1
   have hr := modI_range (a := pickI picks a) (n := (dayR c a).2 - trLo c (trN c picks a) a a + 1) (by omega) (by omega)
   unfold trX
   refine ⟨by omega, by omega, fun b hb hs => ?_⟩
   rw [hgl b hb]
   have := k3 b hb (by rw [getD_at ha, getD_at (by omega : b < c.length)]; exact hs)
   omega
  ·obtain ⟨k1, k2, k3⟩ := ih a ha (by omega)
   rw [hgl a (by omega)]
   refine ⟨k1, k2, fun b hb hs => ?_⟩
   rw [hgl b (by omega)]
   exact k3 b hb hs
theorem tr_true {c : List Deed} (hc : okL c) (hp : pairI clashB c = none) (picks : List Int) : trueP sameThB c (trN c picks c.length) := by
 have hn := trN_len c picks c.length
 refine ⟨hn, fun i hi hi' => ?_⟩
 obtain ⟨k1, k2, k3⟩ := tr_ok hc hp picks c.length (Nat.le_refl _) i hi hi
 have hdr := dayR_at hi
 have hb1 : c[i].dl ≤ (dayR c i).1 := by rw [hdr]; exact le_rLo
 have hb2 : (dayR c i).2 ≤ c[i].dh := by rw [hdr]; exact rHi_le.1
 rw [getD_at hi'] at k1 k2
 refine ⟨inI_iff.2 ⟨by omega, by omega⟩, fun k hk => ?_⟩
 cases hs : sameThB c[k] c[i] with
 | false => rfl
 | true =>
  have := k3 k hk hs
  rw [getD_at hi', getD_at (by omega : k < (trN c picks c.length).length)] at this
  simp
  exact this
noncomputable def sLI3 (f : List Deed → Int → Int → Int → V) (fl : Bool) : Spec := (pLI3 f fl).toSpec
theorem sLI3_app {f : List Deed → Int → Int → Int → V} {fl : Bool} {obj : Name → Option O} {t : Name} {l : List Deed} {a b c : Int} : (sLI3 f fl).app obj t [.v (.sl (l.map encD)), .v (vInt a), .v (vInt b), .v (vInt c)] = ⟨True, .v (f l a b c), obj⟩ := by
 simp only [sLI3, PSpec.toSpec, frzL, frz, pLI3_fn, ite_self]
 congr 1
 simp only [eq_iff_iff, iff_true]
 exact ⟨⟨trivial, trivial, trivial, trivial, trivial⟩, l, a, b, c, rfl⟩
noncomputable def sLI4 (f : List Deed → Int → Int → Int → Int → V) (fl : Bool) : Spec := (pLI4 f fl).toSpec
theorem sLI4_app {f : List Deed → Int → Int → Int → Int → V} {fl : Bool} {obj : Name → Option O} {t : Name} {l : List Deed} {a b c d : Int} : (sLI4 f fl).app obj t [.v (.sl (l.map encD)), .v (vInt a), .v (vInt b), .v (vInt c), .v (vInt d)] = ⟨True, .v (f l a b c d), obj⟩ := by
 simp only [sLI4, PSpec.toSpec, frzL, frz, pLI4_fn, ite_self]
 congr 1
 simp only [eq_iff_iff, iff_true]
 exact ⟨⟨trivial, trivial, trivial, trivial, trivial, trivial⟩, l, a, b, c, d, rfl⟩
def foldT {α : Type} (f : α → Nat → α) (a : α) (th : List Nat) (s : Nat) : α := (th.take s).foldl f a
theorem foldT_next {α : Type} {f : α → Nat → α} {a : α} {th : List Nat} {s : Nat} (h : s < th.length) : foldT f a th (s + 1) = f (foldT f a th s) th[s] := by
 unfold foldT
 rw [List.take_add_one, List.getElem?_eq_getElem h, List.foldl_append]
 rfl
theorem foldT_all {α : Type} (f : α → Nat → α) (a : α) (th : List Nat) : foldT f a th th.length = th.foldl f a := by
 unfold foldT
 rw [List.take_length]
def pCDA (f : List Deed → List Int → Aska → V) (fl : Bool) : PSpec := ⟨fun xs => ∃ (c : List Deed) (ds : List Int) (a : Aska), xs = [.sl (c.map encD), .sl (ds.map vInt), encA a] ∧ ds.length = c.length ∧ c.length ≤ 60, fun xs => match xs with | [.sl c, .sl ds, .agg [.int _ a, .int _ b, .int _ d, .int _ e]] => f (c.map decD) (ds.map decI) ⟨a, b, d, e⟩ | _ => .bool false, fl⟩
theorem pCDA_fn (f : List Deed → List Int → Aska → V) (fl : Bool) (c : List Deed) (ds : List Int) (a : Aska) : (pCDA f fl).fn [.sl (c.map encD), .sl (ds.map vInt), encA a] = f c ds a := by
 simp only [pCDA, encA, decD_map, decI_map]
noncomputable def sCDA (f : List Deed → List Int → Aska → V) (fl : Bool) : Spec := (pCDA f fl).toSpec
theorem sCDA_app {f : List Deed → List Int → Aska → V} {fl : Bool} {obj : Name → Option O} {t : Name} {c : List Deed} {ds : List Int} {a b d e : Int} (h : ds.length = c.length) (hl : c.length ≤ 60) : (sCDA f fl).app obj t [.v (.sl (c.map encD)), .v (.sl (ds.map vInt)), .agg [.v (vInt a), .v (vInt b), .v (vInt d), .v (vInt e)]] = ⟨True, .v (f c ds ⟨a, b, d, e⟩), obj⟩ := by
 have e : frzL (frz 6) obj [.v (.sl (c.map encD)), .v (.sl (ds.map vInt)), .agg [.v (vInt a), .v (vInt b), .v (vInt d), .v (vInt e)]] = ⟨True, [.sl (c.map encD), .sl (ds.map vInt), encA ⟨a, b, d, e⟩], obj⟩ := by
  simp [frzL, frz, D.one, V.one, encA]
 simp only [sCDA, PSpec.toSpec, e, pCDA_fn, ite_self]
 congr 1
 simp only [eq_iff_iff, iff_true]
 exact ⟨trivial, c, ds, _, rfl, h, hl⟩
noncomputable def K99 : FuncId → Option Spec := fun f => match f with
 | 123 => some (sLI (fun c => c.length ≤ 60) thrV false)
 | 124 => some (sKD fun k d => encK (keyA k d))
 | 125 => some (sLI (fun c => c.length ≤ 60) offpV false)
 | _ => none
theorem K99_sound : ∀ f s, K99 f = some s → SSound Tryz.prog f s := by
 intro f s h
 unfold K99 at h
 split at h
 ·cases h; exact s123.sound
 ·cases h; exact s124.sound
 ·cases h; exact s125.sound
 ·cases h
@[go_sem] theorem K99_123 : K99 123 = some (sLI (fun c => c.length ≤ 60) thrV false) := rfl
@[go_sem] theorem K99_124 : K99 124 = some (sKD fun k d => encK (keyA k d)) := rfl
@[go_sem] theorem K99_125 : K99 125 = some (sLI (fun c => c.length ≤ 60) offpV false) := rfl
set_option maxHeartbeats 8000000 in
theorem s61 : PSound Tryz.prog 61 (pCDA (fun c ds a => encK (keyO c ds a.lo a.da)) true) := by
 refine psoundB (rs := [.cell 6 85]) Tryz.func61 Tryz.ntmps61 (by rfl) (by kernel_rfl) (by decide) (by rintro _ xs ⟨c, ds, a, rfl, _⟩; rw [pCDA_fn]; rfl) ⟨_, rfl, ?_⟩
 rintro xs ⟨c, ds, ⟨lo, pe, da, kn⟩, rfl, hds, hc60⟩ hw
 refine ⟨lb rfl, ?_⟩
 rw [pCDA_fn]
 have hΓ := K99_sound
 have hP := mixedK
 have hth := fun (obj : Name → Option O) (t : Name) (f : List Deed → Int → V) (fl : Bool) => sLI_app (P := fun c => c.length ≤ 60) (f := f) (fl := fl) (obj := obj) (t := t) (l := c) (k := lo) hc60
 have e0 : thrV c lo = .sl ((idxF (thrB lo) 0 c).map vNat) := rfl
 have hltc : ∀ i ∈ idxF (thrB lo) 0 c, i < c.length := fun i hi => by have := idxF_lt (thrB lo) c 0 i hi; omega
 have hln : (idxF (thrB lo) 0 c).length ≤ 60 := by have := idxF_len (thrB lo) c 0; omega
 have hko : keyO c ds lo da = foldT (fun a i => if ds.getD i 0 ≤ da then keyA a (c.getD i zeroD) else a) (0, 0) (idxF (thrB lo) 0 c) (idxF (thrB lo) 0 c).length := by
  rw [foldT_all]
  exact (idx_hap c ds 0 (0, 0) hds rfl rfl).symm
 show CL _ _ _ (retK _ _ (encK (keyO c ds lo da)))
 rw [hko]
 generalize idxF (thrB lo) 0 c = th at e0 hltc hln
 generalize hf : (fun (a : Int × Int) (i : Nat) => if ds.getD i 0 ≤ da then keyA a (c.getD i zeroD) else a) = f
 have hfx : ∀ a i, f a i = if ds.getD i 0 ≤ da then keyA a (c.getD i zeroD) else a := fun a i => by rw [← hf]
 unfold encA
 repeat refine sq ?_
 refine rx hΓ [0,1,5,6] [[5, 0],[6, 0]] (fun K' hK => by simp only [go_sem, tz85]; exact fin) ?_
 repeat refine sq ?_
 refine rx hΓ [0,1,5,6,7] [[5, 0],[6, 0],[7, 0]] (fun K' hK => by simp only [go_sem, tz85, tp85, Nat.reduceLeDiff, Nat.le_refl]; exact fin) ?_
 repeat refine sq ?_
 refine rx hΓ [0,1,5,6,7,14,15,16] [[5, 0],[6, 0],[7, 0]] (fun K' hK => by simp only [go_sem, hth, e0]; exact fin) ?_
 have hlm : th.length ≤ maxLen := by unfold maxLen; omega
 repeat refine sq ?_
 refine cl_block ?_
 repeat refine sq ?_
 refine cl_loop' (fun s : Nat => [(16, ⟨true, .v (vInt s)⟩)]) (fun s => [([7, 0], .box [.v (vInt (foldT f (0, 0) th s).1), .v (vInt (foldT f (0, 0) th s).2)])]) (fun s => s ≤ th.length) (fun s => th.length - s) 0 ?_ ?_ ?_ ?_
 ·exact Nat.zero_le _
 ·rfl
 ·rfl
 rintro i hi
 simp only [go_sem]
 repeat refine sq ?_
 refine rs hΓ [0,1,5,6,7,14,15,16,17] [[5, 0],[6, 0],[7, 0]] ?_
 repeat refine sq ?_
 refine cl_cond rfl rfl (fun hb => ?_) fun hb => ?_
 ·have hlt : i < th.length := by simpa using hb
  have hlt' : (i : Int) < th.length := by omega
  clear hb
  repeat refine sq ?_
  refine cl_skip ?_
  repeat refine sq ?_
  refine cl_block ?_
  repeat refine sq ?_
  have hm : th[i] < c.length := hltc _ (List.getElem_mem hlt)
  have hm' : (th[i] : Int) < c.length := by omega
  have hd : th[i] < ds.length := by omega
  have hd' : (th[i] : Int) < ds.length := by omega
  repeat refine sq ?_
  refine rx hΓ [0,1,5,6,7,9,14,15,16] [[5, 0],[6, 0],[7, 0]] (fun K' hK => by simp only [go_sem, map_getD hlt, vNat, Int.toNat_natCast, Int.natCast_nonneg, hlt']; exact fin) ?_
  repeat refine sq ?_
  refine cl_ds hΓ hP [[], [], [0, 1], [0, 1, 2], [], [4], [0, 1, 2, 3, 4, 5]] [0,1,5,6,7,9,14,15,16,26] [[5, 0],[6, 0],[7, 0]] (by kernel_rfl) fun K' hK => ?_
  simp only [go_sem, map_getD hd, Int.toNat_natCast, Int.natCast_nonneg, hd']
  repeat refine ⟨ob, ?_⟩
  first | refine ⟨by rfl, ?_⟩ | skip
  refine hK _ ?_ ?_ <;> clear K' hK <;> simp only [go_sem, map_getD hd, Int.toNat_natCast, Int.natCast_nonneg, hd']
  repeat refine sq ?_
  refine cl_cond rfl rfl (fun hb => ?_) fun hb => ?_
  ·have hb' : ds[th[i]] ≤ da := by simpa using hb
   have en : foldT f (0, 0) th (i + 1) = keyA ((foldT f (0, 0) th i).1, (foldT f (0, 0) th i).2) c[th[i]] := by
    rw [foldT_next hlt, hfx, getD_at hd, getD_at hm, if_pos hb']
   have hkd := fun (f : Int × Int → Deed → V) (obj : Name → Option O) (t : Name) (a b : Int) (d : Deed) => sKD_app (f := f) (obj := obj) (t := t) (a := a) (b := b) (d := d)
   simp only [encD] at hkd
   repeat refine sq ?_
   refine cl_d hΓ hP [[], [], [], [1, 2], [1, 2, 3], [0, 1, 2, 3, 4], [0, 1, 2, 3, 4, 5]] (by kernel_rfl) fun K' hK => ?_
   simp only [go_sem, map_getD hm, Int.toNat_natCast, Int.natCast_nonneg, hm', te39, te22, hkd, ← en, encK]
   repeat refine ⟨ob, ?_⟩
   first | refine ⟨by rfl, ?_⟩ | skip
   refine hK _ ?_
   clear K' hK
   simp only [go_sem]
   refine cl_keep [0,1,5,6,7,14,15,16] [[5, 0],[6, 0],[7, 0]] ?_ ?_ <;> simp only [go_sem]
   repeat refine sq ?_
   refine cl_r hΓ fun K' hK => ?_
   simp only [go_sem]
   repeat refine ⟨ob, ?_⟩
   refine hK _ ?_
   clear K' hK
   simp only [go_sem]
   refine ⟨i + 1, hlt, (show th.length - (i + 1) < th.length - i by omega), ?_⟩
   refine weak_eq [0,1,5,6,7,14,15,16] [[5, 0],[6, 0],[7, 0]] ?_ ?_ <;> simp only [go_sem, wrap_succ hlt hlm, Int.natCast_add, Int.natCast_one]
  ·have hb' : ¬ ds[th[i]] ≤ da := by simpa using hb
   have en : foldT f (0, 0) th (i + 1) = foldT f (0, 0) th i := by
    rw [foldT_next hlt, hfx, getD_at hd, if_neg hb']
   repeat refine sq ?_
   refine cl_skip ?_
   refine cl_nil ?_
   simp only [go_sem]
   refine cl_keep [0,1,5,6,7,14,15,16] [[5, 0],[6, 0],[7, 0]] ?_ ?_ <;> simp only [go_sem]
   repeat refine sq ?_
   refine cl_r hΓ fun K' hK => ?_
   simp only [go_sem]
   repeat refine ⟨ob, ?_⟩
   refine hK _ ?_
   clear K' hK
   simp only [go_sem]
   refine ⟨i + 1, hlt, (show th.length - (i + 1) < th.length - i by omega), ?_⟩
   rw [en]
   refine weak_eq [0,1,5,6,7,14,15,16] [[5, 0],[6, 0],[7, 0]] ?_ ?_ <;> simp only [go_sem, wrap_succ hlt hlm, Int.natCast_add, Int.natCast_one]
 ·have hge : i = th.length := by
   have : ¬ (i : Int) < th.length := by simpa using hb
   omega
  subst hge
  clear hb
  repeat refine sq ?_
  refine cl_exit ?_
  simp only [go_sem]
  refine cl_keep [6,7] [[6, 0],[7, 0]] ?_ ?_ <;> simp only [go_sem]
  repeat refine sq ?_
  refine rx hΓ [6] [[6, 0]] (fun K' hK => by simp only [go_sem, tp85, Nat.reduceLeDiff, Nat.le_refl]; exact fin) ?_
  refine cl_ret ?_
  simp only [go_sem, encK]
  all_goals first | done | rfl | exact ⟨by decide, rfl⟩ | exact ⟨by decide, trivial⟩ | decide
set_option maxHeartbeats 8000000 in
theorem s64 : PSound Tryz.prog 64 (pCDA (fun c ds a => .bool (inO c ds a.pe a.da)) true) := by
 refine psoundB (rs := [.tmp 6]) Tryz.func64 Tryz.ntmps64 (by rfl) (by kernel_rfl) (by decide) (by rintro _ xs ⟨c, ds, a, rfl, _⟩; rw [pCDA_fn]; rfl) ⟨_, rfl, ?_⟩
 rintro xs ⟨c, ds, ⟨lo, pe, da, kn⟩, rfl, hds, hc60⟩ hw
 refine ⟨lb rfl, ?_⟩
 rw [pCDA_fn]
 have hΓ := K99_sound
 have hP := mixedK
 have hth := fun (obj : Name → Option O) (t : Name) (f : List Deed → Int → V) (fl : Bool) => sLI_app (P := fun c => c.length ≤ 60) (f := f) (fl := fl) (obj := obj) (t := t) (l := c) (k := pe) hc60
 have e0 : offpV c pe = .sl ((idxF (offpB pe) 0 c).map vNat) := rfl
 have hltc : ∀ i ∈ idxF (offpB pe) 0 c, i < c.length := fun i hi => by have := idxF_lt (offpB pe) c 0 i hi; omega
 have hln : (idxF (offpB pe) 0 c).length ≤ 60 := by have := idxF_len (offpB pe) c 0; omega
 have hko : inO c ds pe da = foldT (fun a i => if ds.getD i 0 ≤ da then (c.getD i zeroD).ki == 1 else a) false (idxF (offpB pe) 0 c) (idxF (offpB pe) 0 c).length := by
  rw [foldT_all]
  exact (idx_hap (f := fun (_ : Bool) (d : Deed) => d.ki == 1) c ds 0 false hds rfl rfl).symm
 show CL _ _ _ (retK _ _ (.bool (inO c ds pe da)))
 rw [hko]
 generalize idxF (offpB pe) 0 c = th at e0 hltc hln
 generalize hf : (fun (a : Bool) (i : Nat) => if ds.getD i 0 ≤ da then (c.getD i zeroD).ki == 1 else a) = f
 have hfx : ∀ a i, f a i = if ds.getD i 0 ≤ da then (c.getD i zeroD).ki == 1 else a := fun a i => by rw [← hf]
 unfold encA
 repeat refine sq ?_
 refine rs hΓ [0,1,5] [[5, 0]] ?_
 repeat refine sq ?_
 refine rs hΓ [0,1,5,7] [[5, 0]] ?_
 repeat refine sq ?_
 refine rx hΓ [0,1,5,7,13,14,15] [[5, 0]] (fun K' hK => by simp only [go_sem, hth, e0]; exact fin) ?_
 have hlm : th.length ≤ maxLen := by unfold maxLen; omega
 repeat refine sq ?_
 refine cl_block ?_
 repeat refine sq ?_
 refine cl_loop' (fun s : Nat => [(7, ⟨true, .v (.bool (foldT f false th s))⟩), (15, ⟨true, .v (vInt s)⟩)]) (fun s => []) (fun s => s ≤ th.length) (fun s => th.length - s) 0 ?_ ?_ ?_ ?_
 ·exact Nat.zero_le _
 ·rfl
 ·rfl
 rintro i hi
 simp only [go_sem]
 repeat refine sq ?_
 refine rs hΓ [0,1,5,7,13,14,15,16] [[5, 0]] ?_
 repeat refine sq ?_
 refine cl_cond rfl rfl (fun hb => ?_) fun hb => ?_
 ·have hlt : i < th.length := by simpa using hb
  have hlt' : (i : Int) < th.length := by omega
  clear hb
  repeat refine sq ?_
  refine cl_skip ?_
  repeat refine sq ?_
  refine cl_block ?_
  repeat refine sq ?_
  have hm : th[i] < c.length := hltc _ (List.getElem_mem hlt)
  have hm' : (th[i] : Int) < c.length := by omega
  have hd : th[i] < ds.length := by omega
  have hd' : (th[i] : Int) < ds.length := by omega
  repeat refine sq ?_
  refine rx hΓ [0,1,5,7,9,13,14,15] [[5, 0]] (fun K' hK => by simp only [go_sem, map_getD hlt, vNat, Int.toNat_natCast, Int.natCast_nonneg, hlt']; exact fin) ?_
  repeat refine sq ?_
  refine cl_ds hΓ hP [[], [], [0, 1], [0, 1, 2], [], [4], [0, 1, 2, 3, 4, 5]] [0,1,5,7,9,13,14,15,25] [[5, 0]] (by kernel_rfl) fun K' hK => ?_
  simp only [go_sem, map_getD hd, Int.toNat_natCast, Int.natCast_nonneg, hd']
  repeat refine ⟨ob, ?_⟩
  first | refine ⟨by rfl, ?_⟩ | skip
  refine hK _ ?_ ?_ <;> clear K' hK <;> simp only [go_sem, map_getD hd, Int.toNat_natCast, Int.natCast_nonneg, hd']
  repeat refine sq ?_
  refine cl_cond rfl rfl (fun hb => ?_) fun hb => ?_
  ·have hb' : ds[th[i]] ≤ da := by simpa using hb
   have en : foldT f false th (i + 1) = (c[th[i]].ki == 1) := by
    rw [foldT_next hlt, hfx, getD_at hd, getD_at hm, if_pos hb']
   repeat refine sq ?_
   refine cl_r hΓ fun K' hK => ?_
   simp only [go_sem, map_getD hm, Int.toNat_natCast, Int.natCast_nonneg, hm', te39, te22]
   repeat refine ⟨ob, ?_⟩
   refine hK _ ?_
   clear K' hK
   simp only [go_sem]
   refine cl_keep [0,1,5,7,13,14,15] [[5, 0]] ?_ ?_ <;> simp only [go_sem]
   repeat refine sq ?_
   refine cl_r hΓ fun K' hK => ?_
   simp only [go_sem]
   repeat refine ⟨ob, ?_⟩
   refine hK _ ?_
   clear K' hK
   simp only [go_sem]
   refine ⟨i + 1, hlt, (show th.length - (i + 1) < th.length - i by omega), ?_⟩
   rw [en]
   refine weak_eq [0,1,5,7,13,14,15] [[5, 0]] ?_ ?_ <;> simp only [go_sem, wrap_succ hlt hlm, Int.natCast_add, Int.natCast_one]
  ·have hb' : ¬ ds[th[i]] ≤ da := by simpa using hb
   have en : foldT f false th (i + 1) = foldT f false th i := by
    rw [foldT_next hlt, hfx, getD_at hd, if_neg hb']
   repeat refine sq ?_
   refine cl_skip ?_
   refine cl_nil ?_
   simp only [go_sem]
   refine cl_keep [0,1,5,7,13,14,15] [[5, 0]] ?_ ?_ <;> simp only [go_sem]
   repeat refine sq ?_
   refine cl_r hΓ fun K' hK => ?_
   simp only [go_sem]
   repeat refine ⟨ob, ?_⟩
   refine hK _ ?_
   clear K' hK
   simp only [go_sem]
   refine ⟨i + 1, hlt, (show th.length - (i + 1) < th.length - i by omega), ?_⟩
   rw [en]
   refine weak_eq [0,1,5,7,13,14,15] [[5, 0]] ?_ ?_ <;> simp only [go_sem, wrap_succ hlt hlm, Int.natCast_add, Int.natCast_one]
 ·have hge : i = th.length := by
   have : ¬ (i : Int) < th.length := by simpa using hb
   omega
  subst hge
  clear hb
  repeat refine sq ?_
  refine cl_exit ?_
  simp only [go_sem]
  refine cl_keep [7] [] ?_ ?_ <;> simp only [go_sem]
  repeat refine sq ?_
  refine rs hΓ [6] [] ?_
  exact rt
def thenT (c : List Deed) (ds : List Int) (lo pe day : Int) (s : Nat) : Sta := thenS (c.take s) (ds.take s) lo pe day
theorem zip_take' {α β : Type} (c : List α) (ds : List β) (s : Nat) : (c.take s).zip (ds.take s) = (c.zip ds).take s := by
 rw [List.zip_eq_zipWith, List.zip_eq_zipWith, List.take_zipWith]
theorem thenT_next {c : List Deed} {ds : List Int} {lo pe day : Int} {s : Nat} (h : s < c.length) (h' : s < ds.length) :
  thenT c ds lo pe day (s + 1) = if isOfB c[s] lo pe && decide (ds[s] ≤ day) then doS c[s].ki (thenT c ds lo pe day s) c[s].pe else thenT c ds lo pe day s := by
 unfold thenT thenS hapL
 rw [zip_take', zip_take', List.take_add_one, List.getElem?_eq_getElem (by rw [List.length_zip]; omega), List.filter_append, List.map_append, List.foldl_append]
 simp only [List.getElem_zip, Option.toList_some, List.filter_cons, List.filter_nil]
 split <;> rfl
theorem thenT_all {c : List Deed} {ds : List Int} (h : ds.length = c.length) (lo pe day : Int) : thenT c ds lo pe day c.length = thenS c ds lo pe day := by
 unfold thenT
 rw [List.take_length, ← h, List.take_length]
def pThen : PSpec := ⟨fun xs => ∃ (c : List Deed) (day : Int) (ds : List Int) (lo pe : Int), xs = [.agg [.sl (c.map encD), vInt day], .sl (ds.map vInt), vInt lo, vInt pe] ∧ ds.length = c.length ∧ c.length ≤ 60 ∧ ∀ d ∈ c, kindOk d,
 fun xs => match xs with | [.agg [.sl c, .int _ day], .sl ds, .int _ lo, .int _ pe] => encS (thenS (c.map decD) (ds.map decI) lo pe day) | _ => .bool false, true⟩
theorem pThen_fn (c : List Deed) (day : Int) (ds : List Int) (lo pe : Int) : pThen.fn [.agg [.sl (c.map encD), vInt day], .sl (ds.map vInt), vInt lo, vInt pe] = encS (thenS c ds lo pe day) := by
 simp only [pThen, decD_map, decI_map]
noncomputable def sThen : Spec := pThen.toSpec
theorem sThen_app {obj : Name → Option O} {t : Name} {c : List Deed} {day : Int} {ds : List Int} {lo pe : Int} (h : ds.length = c.length) (hl : c.length ≤ 60) (hk : ∀ d ∈ c, kindOk d) :
  sThen.app obj t [.agg [.v (.sl (c.map encD)), .v (vInt day)], .v (.sl (ds.map vInt)), .v (vInt lo), .v (vInt pe)] = ⟨True, .v (encS (thenS c ds lo pe day)), obj⟩ := by
 simp only [sThen, PSpec.toSpec, frz_op (r := [.v (.sl (ds.map vInt)), .v (vInt lo), .v (vInt pe)]) (xs := [.sl (ds.map vInt), vInt lo, vInt pe]) (obj := obj) (by simp [frzL, frz]), pThen_fn]
 simp only [pThen, if_true]
 congr 1
 simp only [eq_iff_iff, iff_true]
 exact ⟨trivial, c, day, ds, lo, pe, rfl, h, hl, hk⟩
noncomputable def K100 : FuncId → Option Spec := fun f => match f with
 | 144 => some (sDII fun d k j => .bool (isOfB d k j))
 | f => K45 f
theorem K100_sound : ∀ f s, K100 f = some s → SSound Tryz.prog f s := by
 intro f s h
 unfold K100 at h
 split at h
 ·cases h; exact s144.sound
 ·exact K45_sound _ _ h
@[go_sem] theorem K100_144 : K100 144 = some (sDII fun d k j => .bool (isOfB d k j)) := rfl
@[go_sem] theorem K100_156 : K100 156 = some sDoes := rfl
theorem does_at2 {k : Int} (h : 1 ≤ k ∧ k ≤ 6) : ∃ g, mget doesM (vInt k) = some (.clo (.func g) [] []) ∧ K100 g = some (sSt (doS k)) ∧ ¬ g = 1000000000 := by
 obtain ⟨h1, h2⟩ := h
 have : k = 1 ∨ k = 2 ∨ k = 3 ∨ k = 4 ∨ k = 5 ∨ k = 6 := by omega
 rcases this with rfl | rfl | rfl | rfl | rfl | rfl
 ·exact ⟨170, rfl, rfl, by decide⟩
 ·exact ⟨171, rfl, rfl, by decide⟩
 ·exact ⟨172, rfl, rfl, by decide⟩
 ·exact ⟨173, rfl, rfl, by decide⟩
 ·exact ⟨174, rfl, rfl, by decide⟩
 ·exact ⟨175, rfl, rfl, by decide⟩
set_option maxHeartbeats 16000000 in
theorem s121 : PSound Tryz.prog 121 pThen := by
 refine psoundB (rs := [.cell 8 137]) Tryz.func121 Tryz.ntmps121 (by rfl) (by kernel_rfl) (by decide) (by rintro _ xs ⟨c, day, ds, lo, pe, rfl, _⟩; rfl) ⟨_, rfl, ?_⟩
 rintro xs ⟨c, day, ds, lo, pe, rfl, hds, hc60, hk⟩ hw
 refine ⟨lb rfl, ?_⟩
 rw [pThen_fn, ← thenT_all hds]
 have hΓ := K100_sound
 have hP := mixedK
 have hcm : c.length ≤ maxLen := by unfold maxLen; omega
 repeat refine sq ?_
 refine rx hΓ [1,2,3,4,8] [[4, 0],[8, 0]] (fun K' hK => by simp only [go_sem, tz137]; exact fin) ?_
 repeat refine sq ?_
 refine rx hΓ [1,2,3,4,8,9] [[4, 0],[8, 0],[9, 0]] (fun K' hK => by simp only [go_sem, tz137]; exact fin) ?_
 repeat refine sq ?_
 refine rx hΓ [1,2,3,4,8,9,10] [[4, 0],[8, 0],[9, 0],[1, 0, 13, 0]] (fun K' hK => by simp only [go_sem, sDoes_app]; exact fin) ?_
 repeat refine sq ?_
 refine rs hΓ [1,2,3,4,8,9,10,15,16,17] [[4, 0],[8, 0],[9, 0],[1, 0, 13, 0]] ?_
 repeat refine sq ?_
 refine cl_block ?_
 repeat refine sq ?_
 refine cl_loop' (fun s : Nat => [(17, ⟨true, .v (vInt s)⟩)]) (fun s => [([9, 0], .box [.v (vInt (thenT c ds lo pe day s).h), .v (vInt (thenT c ds lo pe day s).n), .v (.bool (thenT c ds lo pe day s).o)])]) (fun s => s ≤ c.length) (fun s => c.length - s) 0 ?_ ?_ ?_ ?_
 ·exact Nat.zero_le _
 ·rfl
 ·rfl
 rintro i hi
 simp only [go_sem]
 repeat refine sq ?_
 refine rs hΓ [1,2,3,4,8,9,10,15,16,17,18] [[4, 0],[8, 0],[9, 0],[1, 0, 13, 0]] ?_
 repeat refine sq ?_
 refine cl_cond rfl rfl (fun hb => ?_) fun hb => ?_
 ·have hlt : i < c.length := by simpa using hb
  have hlt' : (i : Int) < c.length := by omega
  clear hb
  repeat refine sq ?_
  refine cl_skip ?_
  repeat refine sq ?_
  refine cl_block ?_
  repeat refine sq ?_
  have hd : i < ds.length := by omega
  have hd' : (i : Int) < ds.length := by omega
  have hnx := thenT_next (lo := lo) (pe := pe) (day := day) hlt hd
  repeat refine sq ?_
  refine rx hΓ [1,2,3,4,8,9,10,11,12,15,16,17] [[4, 0],[8, 0],[9, 0],[12, 0],[1, 0, 13, 0]] (fun K' hK => by simp only [go_sem, map_getD hlt, Int.toNat_natCast, Int.natCast_nonneg, hlt']; exact fin) ?_
  have hcc := fun (g : Deed → Int → Int → V) (obj : Name → Option O) (t : Name) (n m : Int) => sDII_app (g := g) (obj := obj) (t := t) (k := n) (j := m) (d := c[i]) (dx := rdD c[i]) rfl
  unfold rdD at hcc
  obtain ⟨T, hT⟩ : ∃ T, T = thenT c ds lo pe day i := ⟨_, rfl⟩
  rw [← hT] at hnx ⊢
  repeat refine sq ?_
  refine cl_dw hΓ hP [[], [], [], [0, 1, 2], [0, 1, 2, 3], [0, 1, 2, 3, 4], [0, 1, 2, 3, 4], [0, 1, 2, 3, 4, 5, 6], [0, 1, 2, 3, 4, 5, 6, 7], [0, 1, 2, 3, 4], [0, 1, 2, 3, 4, 9], [0, 1, 2, 3, 4, 5, 6, 7, 8, 9, 10], [0, 1, 2, 3, 4, 5, 6, 7, 8, 9, 10, 11]] (mkS 45 [0] (fun _ => none) [(1, ⟨true, .v (.sl (ds.map vInt))⟩), (2, ⟨true, .v (vInt lo)⟩), (3, ⟨true, .v (vInt pe)⟩), (4, ⟨true, .ref [4, 0] 0⟩), (8, ⟨true, .ref [8, 0] 0⟩), (9, ⟨true, .ref [9, 0] 0⟩), (10, ⟨true, .map [1, 0, 13, 0]⟩), (12, ⟨true, .ref [12, 0] 0⟩), (15, ⟨true, .v (.sl (c.map encD))⟩), (16, ⟨true, .v (vInt c.length)⟩), (17, ⟨true, .v (vInt i)⟩), (34, ⟨true, .v (.bool (isOfB c[i] lo pe && decide (ds[i] ≤ day)))⟩)]
   [([4, 0], .box [.v (.sl (c.map encD)), .v (vInt day)]), ([8, 0], .box [.v (vInt 0), .v (vInt 0), .v (.bool false)]), ([9, 0], .box [.v (vInt T.h), .v (vInt T.n), .v (.bool T.o)]), ([12, 0], .box (rdD c[i]).cells), ([1, 0, 13, 0], .map 0 doesM)]) (by kernel_rfl) ?_ fun K' hK => ?_
  rotate_left
  ·cases hq : isOfB c[i] lo pe with
   | true =>
    simp only [go_sem, hcc, hq, map_getD hd, Int.toNat_natCast, Int.natCast_nonneg, hd']
    repeat refine ⟨ob, ?_⟩
    first | refine ⟨by rfl, ?_⟩ | skip
    refine hK _ (weakM_keep [1,2,3,4,8,9,10,12,15,16,17,34] [[4, 0],[8, 0],[9, 0],[12, 0],[1, 0, 13, 0]] ?_ ?_)
    ·simp only [go_sem]
    ·simp only [go_sem, rdD, Bool.true_and, hq]
   | false =>
    simp only [go_sem, hcc, hq]
    repeat refine ⟨ob, ?_⟩
    first | refine ⟨by rfl, ?_⟩ | skip
    refine hK _ (weakM_keep [1,2,3,4,8,9,10,12,15,16,17,34] [[4, 0],[8, 0],[9, 0],[12, 0],[1, 0, 13, 0]] ?_ ?_)
    ·simp only [go_sem]
    ·simp only [go_sem, rdD, Bool.false_and, hq]
  simp only [go_sem, rdD]
  repeat refine sq ?_
  refine cl_cond rfl rfl (fun hb => ?_) fun hb => ?_
  ·rw [if_pos hb] at hnx
   obtain ⟨g, hg1, hg2, hg3⟩ := does_at2 (hk _ (List.getElem_mem hlt))
   repeat refine sq ?_
   refine cl_r hΓ fun K' hK => ?_
   simp only [go_sem, tz185, hg1, hg2, hg3, keyIs, Option.getD_some, sSt_app, encS]
   repeat refine ⟨ob, ?_⟩
   refine hK _ ?_
   clear K' hK
   simp only [go_sem]
   refine cl_keep [1,2,3,4,8,9,10,15,16,17] [[4, 0],[8, 0],[9, 0],[1, 0, 13, 0]] ?_ ?_ <;> simp only [go_sem]
   repeat refine sq ?_
   refine cl_r hΓ fun K' hK => ?_
   simp only [go_sem]
   repeat refine ⟨ob, ?_⟩
   refine hK _ ?_
   clear K' hK
   simp only [go_sem]
   refine ⟨i + 1, hlt, (show c.length - (i + 1) < c.length - i by omega), ?_⟩
   rw [hnx]
   refine weak_eq [1,2,3,4,8,9,10,15,16,17] [[4, 0],[8, 0],[9, 0],[1, 0, 13, 0]] ?_ ?_ <;> simp only [go_sem, wrap_succ hlt hcm, Int.natCast_add, Int.natCast_one]
  ·rw [if_neg (by simp [hb])] at hnx
   repeat refine sq ?_
   refine cl_skip ?_
   refine cl_nil ?_
   simp only [go_sem]
   refine cl_keep [1,2,3,4,8,9,10,15,16,17] [[4, 0],[8, 0],[9, 0],[1, 0, 13, 0]] ?_ ?_ <;> simp only [go_sem]
   repeat refine sq ?_
   refine cl_r hΓ fun K' hK => ?_
   simp only [go_sem]
   repeat refine ⟨ob, ?_⟩
   refine hK _ ?_
   clear K' hK
   simp only [go_sem]
   refine ⟨i + 1, hlt, (show c.length - (i + 1) < c.length - i by omega), ?_⟩
   rw [hnx]
   refine weak_eq [1,2,3,4,8,9,10,15,16,17] [[4, 0],[8, 0],[9, 0],[1, 0, 13, 0]] ?_ ?_ <;> simp only [go_sem, wrap_succ hlt hcm, Int.natCast_add, Int.natCast_one]
 ·have hge : i = c.length := by
   have : ¬ (i : Int) < c.length := by simpa using hb
   omega
  subst hge
  clear hb
  repeat refine sq ?_
  refine cl_exit ?_
  simp only [go_sem]
  refine cl_keep [8,9] [[8, 0],[9, 0]] ?_ ?_ <;> simp only [go_sem]
  repeat refine sq ?_
  refine rx hΓ [8] [[8, 0]] (fun K' hK => by simp only [go_sem, tp137, Nat.reduceLeDiff, Nat.le_refl]; exact fin) ?_
  refine cl_ret ?_
  simp only [go_sem, encS]
  all_goals first | done | rfl | exact ⟨by decide, rfl⟩ | exact ⟨by decide, trivial⟩ | decide
def cntB (s k : Nat) (v : Bool) : Bool := if k < s then v else false
@[go_sem] theorem cntB_0 (k : Nat) (v : Bool) : cntB 0 k v = false := rfl
@[go_sem] theorem cntB_10 (v : Bool) : cntB 1 0 v = v := rfl
@[go_sem] theorem cntB_11 (v : Bool) : cntB 1 1 v = false := rfl
@[go_sem] theorem cntB_12 (v : Bool) : cntB 1 2 v = false := rfl
@[go_sem] theorem cntB_20 (v : Bool) : cntB 2 0 v = v := rfl
@[go_sem] theorem cntB_21 (v : Bool) : cntB 2 1 v = v := rfl
@[go_sem] theorem cntB_22 (v : Bool) : cntB 2 2 v = false := rfl
@[go_sem] theorem cntB_30 (v : Bool) : cntB 3 0 v = v := rfl
@[go_sem] theorem cntB_31 (v : Bool) : cntB 3 1 v = v := rfl
@[go_sem] theorem cntB_32 (v : Bool) : cntB 3 2 v = v := rfl
noncomputable def trE (l : List Deed) (ps ds : List Int) (day k : Int) : Int := if openE l ps day k = 0 then (if trueB q1 (countL l k) ds then 0 else 17) else openE l ps day k
noncomputable def trA (l : List Deed) (ps ds : List Int) (day k : Int) : Bool := if trE l ps ds day k = 0 then wasB (countL l k) ds ps day else false
def pTrue (f : List Deed → List Int → List Int → Int → Int → V) : PSpec := ⟨fun xs => ∃ (l : List Deed) (ps ds : List Int) (a b : Int), xs = [.sl (l.map encD), .sl (ps.map vInt), .sl (ds.map vInt), vInt a, vInt b], fun xs => match xs with | [.sl l, .sl ps, .sl ds, .int _ a, .int _ b] => f (l.map decD) (ps.map decI) (ds.map decI) a b | _ => .bool false, true⟩
theorem pTrue_fn (f : List Deed → List Int → List Int → Int → Int → V) (l : List Deed) (ps ds : List Int) (a b : Int) : (pTrue f).fn [.sl (l.map encD), .sl (ps.map vInt), .sl (ds.map vInt), vInt a, vInt b] = f l ps ds a b := by
 simp only [pTrue, decD_map, decI_map]
noncomputable def sTrue (f : List Deed → List Int → List Int → Int → Int → V) : Spec := (pTrue f).toSpec
theorem sTrue_app {f : List Deed → List Int → List Int → Int → Int → V} {obj : Name → Option O} {t : Name} {l : List Deed} {ps ds : List Int} {a b : Int} : (sTrue f).app obj t [.v (.sl (l.map encD)), .v (.sl (ps.map vInt)), .v (.sl (ds.map vInt)), .v (vInt a), .v (vInt b)] = ⟨True, .v (f l ps ds a b), obj⟩ := by
 simp only [sTrue, PSpec.toSpec, frzL, frz, pTrue_fn, ite_self]
 simp only [pTrue, if_true]
 congr 1
 simp only [eq_iff_iff, iff_true]
 exact ⟨⟨trivial, trivial, trivial, trivial, trivial, trivial⟩, l, ps, ds, a, b, rfl⟩
noncomputable def K101 : FuncId → Option Spec := fun f => match f with
 | 82 => some (sLPI openV false)
 | 118 => some (sDays2 fun c ds => .bool (trueB q1 c ds))
 | 121 => some sThen
 | 122 => some sThree
 | _ => none
theorem K101_sound : ∀ f s, K101 f = some s → SSound Tryz.prog f s := by
 intro f s h
 unfold K101 at h
 split at h
 ·cases h; exact s82.sound
 ·cases h; exact s118.sound
 ·cases h; exact s121.sound
 ·cases h; exact s122.sound
 ·cases h
@[go_sem] theorem K101_82 : K101 82 = some (sLPI openV false) := rfl
@[go_sem] theorem K101_118 : K101 118 = some (sDays2 fun c ds => .bool (trueB q1 c ds)) := rfl
@[go_sem] theorem K101_121 : K101 121 = some sThen := rfl
@[go_sem] theorem K101_122 : K101 122 = some sThree := rfl
set_option maxHeartbeats 16000000 in
theorem s60 : PSound Tryz.prog 60 (pTrue fun l ps ds day k => .tup [.bool (trA l ps ds day k), vInt (trE l ps ds day k)]) := by
 refine psoundB (rs := [.tmp 10, .tmp 11]) Tryz.func60 Tryz.ntmps60 (by rfl) (by kernel_rfl) (by decide) (by rintro _ xs ⟨l, ps, ds, a, b, rfl⟩; rw [pTrue_fn]; rfl) ⟨_, rfl, ?_⟩
 rintro xs ⟨l, ps, ds, day, k, rfl⟩ hw
 refine ⟨lb rfl, ?_⟩
 rw [pTrue_fn]
 have hΓ := K101_sound
 repeat refine sq ?_
 refine rs hΓ [0,1,2,3,4] [] ?_
 by_cases ho : openE l ps day k = 0
 rotate_left
 ·have hov : openV l ps day k = .tup [.agg [.sl [], vInt 0], vInt (openE l ps day k)] := by unfold openV; rw [if_neg ho]
  have het : trE l ps ds day k = openE l ps day k := by unfold trE; rw [if_neg ho]
  have hA : trA l ps ds day k = false := by unfold trA; rw [het, if_neg ho]
  rw [het, hA]
  repeat refine sq ?_
  refine rx hΓ [13] [] (fun K' hK => by simp only [go_sem, sLPI_app, hov, tz111, tp111, Nat.reduceLeDiff, Nat.le_refl]; exact fin) ?_
  repeat refine sq ?_
  refine rs hΓ [13,28] [] ?_
  repeat refine sq ?_
  refine cl_cond rfl rfl (fun hb => ?_) fun hb => ?_
  ·repeat refine sq ?_
   refine rs hΓ [10,11] [] ?_
   exact rt
  ·exact (ho (by simpa using hb)).elim
 obtain ⟨hz, har, hdz⟩ := openE_ok ho
 have hov : openV l ps day k = .tup [.agg [.sl ((countL l k).map encD), vInt day], vInt 0] := by unfold openV; rw [if_pos ho]
 have hok := days_ok hdz
 have hc60 : (countL l k).length ≤ 60 := by have := countL_len l k; have := hok.2.2; omega
 have hkc : ∀ d ∈ countL l k, kindOk d := fun d hd => kind_of (countL_valid hok k d hd)
 have het : trE l ps ds day k = if trueB q1 (countL l k) ds then 0 else 17 := by unfold trE; rw [if_pos ho]
 obtain ⟨c, hcd⟩ : ∃ c, c = countL l k := ⟨_, rfl⟩
 rw [← hcd] at hov hc60 hkc het
 repeat refine sq ?_
 refine rx hΓ [1,2,12,13] [[12, 0]] (fun K' hK => by simp only [go_sem, sLPI_app, hov, tz111, tp111, Nat.reduceLeDiff, Nat.le_refl]; exact fin) ?_
 repeat refine sq ?_
 refine rs hΓ [1,2,12,13,28] [[12, 0]] ?_
 repeat refine sq ?_
 refine cl_cond rfl rfl (fun hb => ?_) fun hb => ?_
 ·simp at hb
 repeat refine sq ?_
 refine cl_skip ?_
 repeat refine sq ?_
 refine rx hΓ [1,2,12,34] [[12, 0]] (fun K' hK => by simp only [go_sem, sDays2_app]; exact fin) ?_
 repeat refine sq ?_
 refine cl_cond rfl rfl (fun hb => ?_) fun hb => ?_
 ·have ht : trueB q1 c ds = false := by simpa using hb
  have hA : trA l ps ds day k = false := by unfold trA; rw [het, ht]; rfl
  rw [hA, het, ht]
  repeat refine sq ?_
  refine rs hΓ [10,11] [] ?_
  exact rt
 have ht : trueB q1 c ds = true := by simpa using hb
 have hds : ds.length = c.length := by
  unfold trueB at ht
  simp only [decide_eq_true_eq] at ht
  exact ht.1
 have hA : trA l ps ds day k = wasB c ds ps day := by unfold trA; rw [het, if_pos ht, if_pos rfl, ← hcd]
 rw [hA, het, if_pos ht]
 clear hb ht
 repeat refine sq ?_
 refine cl_skip ?_
 have hth := fun (obj : Name → Option O) (t : Name) (lo pe : Int) => sThen_app (obj := obj) (t := t) (day := day) (ds := ds) (lo := lo) (pe := pe) hds hc60 hkc
 obtain ⟨x, hx⟩ : ∃ x, x = thenS c ds 1 0 day := ⟨_, rfl⟩
 obtain ⟨y, hy⟩ : ∃ x, x = thenS c ds 2 0 day := ⟨_, rfl⟩
 obtain ⟨z, hz⟩ : ∃ x, x = thenS c ds 3 0 day := ⟨_, rfl⟩
 obtain ⟨L, hL⟩ : ∃ L : List Sta, L = [x, y, z] := ⟨_, rfl⟩
 have hwas : wasB c ds ps day = (threeB L ps && L.all fun s => (thenS c ds 0 s.h day).o) := by unfold wasB; rw [hL, hx, hy, hz]
 rw [hwas]
 repeat refine sq ?_
 refine rx hΓ [1,2,12,14] [[12, 0],[14, 0]] (fun K' hK => by simp only [go_sem, tz152]; exact fin) ?_
 repeat refine sq ?_
 refine rs hΓ [1,2,12,14,35] [[12, 0],[14, 0]] ?_
 repeat refine sq ?_
 refine cl_block ?_
 repeat refine sq ?_
 refine cl_loop' (fun s : Nat => [(35, ⟨true, .v (vInt s)⟩)]) (fun s => [([14, 0], .box [.v (vInt 0), .v (vInt 0), .v (vInt 0), .v (vInt 0), .v (vInt 0), .v (vInt 0), .v (vInt (cnt s 0 x.h)), .v (vInt (cnt s 0 x.n)), .v (.bool (cntB s 0 x.o)), .v (vInt (cnt s 1 y.h)), .v (vInt (cnt s 1 y.n)), .v (.bool (cntB s 1 y.o)), .v (vInt (cnt s 2 z.h)), .v (vInt (cnt s 2 z.n)), .v (.bool (cntB s 2 z.o))])]) (fun s => s ≤ 3) (fun s => 3 - s) 0 ?_ ?_ ?_ ?_
 ·exact Nat.zero_le _
 ·rfl
 ·rfl
 intro i hi
 simp only [go_sem]
 repeat refine sq ?_
 refine rs hΓ [1,2,12,14,35,36] [[12, 0],[14, 0]] ?_
 repeat refine sq ?_
 refine cl_cond rfl rfl (fun hb => ?_) fun hb => ?_
 ·have hlt : i < 3 := by
   have : (i : Int) < 3 := by simpa using hb
   omega
  have hws : IntKind.i64.wrap ((i : Int) + 1) = ((i + 1 : Nat) : Int) := wrap_succ (n := 3) hlt (by unfold maxLen; omega)
  clear hb
  repeat refine sq ?_
  refine cl_skip ?_
  repeat refine sq ?_
  refine cl_block ?_
  repeat refine sq ?_
  have hi3 : i = 0 ∨ i = 1 ∨ i = 2 := by omega
  have h3 : (i : Int) < 3 := by omega
  repeat refine sq ?_
  refine rs hΓ [1,2,12,14,15,35] [[12, 0],[14, 0]] ?_
  obtain ⟨h, n, o, hs⟩ : ∃ h n o, thenS c ds ((i + 1 : Nat) : Int) 0 day = ⟨h, n, o⟩ := ⟨_, _, _, rfl⟩
  have hti := fun (obj : Name → Option O) (t : Name) => hth obj t ((i + 1 : Nat) : Int) 0
  simp only [hs, encS] at hti
  repeat refine sq ?_
  refine cl_rwE hΓ (mkS 66 [0] (fun _ => none) [(1, ⟨true, .v (.sl (ps.map vInt))⟩), (2, ⟨true, .v (.sl (ds.map vInt))⟩), (12, ⟨true, .ref [12, 0] 0⟩), (14, ⟨true, .ref [14, 0] 0⟩), (35, ⟨true, .v (vInt i)⟩)] [([12, 0], .box [.v (.sl (c.map encD)), .v (vInt day)]), ([14, 0], .box [.v (vInt 0), .v (vInt 0), .v (vInt 0), .v (vInt 0), .v (vInt 0), .v (vInt 0), .v (vInt (cnt (i + 1) 0 x.h)), .v (vInt (cnt (i + 1) 0 x.n)), .v (.bool (cntB (i + 1) 0 x.o)), .v (vInt (cnt (i + 1) 1 y.h)), .v (vInt (cnt (i + 1) 1 y.n)), .v (.bool (cntB (i + 1) 1 y.o)), .v (vInt (cnt (i + 1) 2 z.h)), .v (vInt (cnt (i + 1) 2 z.n)), .v (.bool (cntB (i + 1) 2 z.o))])]) (fun _ h => h) ?_ fun K' hK => ?_
  rotate_left
  ·rcases hi3 with rfl | rfl | rfl
   all_goals
    first
     | (have e : (⟨h, n, o⟩ : Sta) = x := by rw [hx, ← hs]; rfl)
     | (have e : (⟨h, n, o⟩ : Sta) = y := by rw [hy, ← hs]; rfl)
     | (have e : (⟨h, n, o⟩ : Sta) = z := by rw [hz, ← hs]; rfl)
    subst e
    simp only [go_sem, hws, hti, tf152_2, tr150, tp137, Nat.reduceLeDiff, Nat.le_refl, Int.toNat_natCast, Int.natCast_nonneg, h3]
    repeat refine ⟨ob, ?_⟩
    refine hK _ (weakM_keep [1,2,12,14,35] [[12, 0],[14, 0]] ?_ ?_)
    ·simp only [go_sem]
    ·simp only [go_sem, Nat.reduceAdd]
  repeat refine sq ?_
  refine cl_r hΓ fun K' hK => ?_
  simp only [go_sem]
  repeat refine ⟨ob, ?_⟩
  refine hK _ ?_
  clear K' hK
  simp only [go_sem]
  refine ⟨i + 1, by omega, by omega, ?_⟩
  refine weak_eq [1,2,12,14,35] [[12, 0],[14, 0]] ?_ ?_ <;> simp only [go_sem, hws, Int.natCast_add, Int.natCast_one]
 have hge : i = 3 := by
  have : ¬ (i : Int) < 3 := by simpa using hb
  omega
 subst hge
 clear hb
 repeat refine sq ?_
 refine cl_exit ?_
 simp only [go_sem]
 refine cl_keep [1,2,12,14] [[12, 0],[14, 0]] ?_ ?_ <;> simp only [go_sem]
 repeat refine sq ?_
 refine rx hΓ [2,12,14,16] [[12, 0],[14, 0]] (fun K' hK => by simp only [go_sem, sThree_app]; exact fin) ?_
 rw [show threeB [⟨x.h, x.n, x.o⟩, ⟨y.h, y.n, y.o⟩, ⟨z.h, z.n, z.o⟩] ps = threeB L ps by rw [hL]]
 generalize threeB L ps = b0
 repeat refine sq ?_
 refine rx hΓ [2,12,16,51,52] [[12, 0]] (fun K' hK => by simp only [go_sem, tp150, tf152_2, tr150]; exact fin) ?_
 have hL3 : L.length = 3 := by rw [hL]; rfl
 repeat refine sq ?_
 refine cl_block ?_
 repeat refine sq ?_
 refine cl_loop' (fun s : Nat => [(16, ⟨true, .v (.bool (b0 && (L.take s).all fun s => (thenS c ds 0 s.h day).o))⟩), (52, ⟨true, .v (vInt s)⟩)]) (fun s => []) (fun s => s ≤ 3) (fun s => 3 - s) 0 ?_ ?_ ?_ ?_
 ·exact Nat.zero_le _
 ·simp only [List.take_zero, List.all_nil, Bool.and_true]
  rfl
 ·rfl
 intro i hi
 simp only [go_sem]
 repeat refine sq ?_
 refine rs hΓ [2,12,16,51,52,53] [[12, 0]] ?_
 repeat refine sq ?_
 refine cl_cond rfl rfl (fun hb => ?_) fun hb => ?_
 ·have hlt : i < 3 := by
   have : (i : Int) < 3 := by simpa using hb
   omega
  have hws : IntKind.i64.wrap ((i : Int) + 1) = ((i + 1 : Nat) : Int) := wrap_succ (n := 3) hlt (by unfold maxLen; omega)
  clear hb
  repeat refine sq ?_
  refine cl_skip ?_
  repeat refine sq ?_
  refine cl_block ?_
  repeat refine sq ?_
  have hi3 : i = 0 ∨ i = 1 ∨ i = 2 := by omega
  have h3 : (i : Int) < 3 := by omega
  obtain ⟨h, n, o, hs⟩ : ∃ h n o, L.getD i zeroS = ⟨h, n, o⟩ := ⟨_, _, _, rfl⟩
  have hnx : ((L.take (i + 1)).all fun s => (thenS c ds 0 s.h day).o) = (((L.take i).all fun s => (thenS c ds 0 s.h day).o) && (thenS c ds 0 h day).o) := by
   have e : L[i]'(by omega) = ⟨h, n, o⟩ := by rw [← hs, getD_at (by omega : i < L.length)]
   rw [List.take_add_one, List.getElem?_eq_getElem (by omega : i < L.length), e, List.all_append]
   simp
  generalize ((L.take i).all fun s => (thenS c ds 0 s.h day).o) = b1 at hnx ⊢
  have hb1 : ∀ b : Bool, (b0 && b1 && b) = (b0 && (b1 && b)) := fun b => Bool.and_assoc ..
  obtain ⟨bb, hbb⟩ : ∃ bb, bb = (b0 && b1) := ⟨_, rfl⟩
  rw [← hbb] at hb1 ⊢
  refine cl_rw hΓ (mkS 66 [0] (fun _ => none) [(2, ⟨true, .v (.sl (ds.map vInt))⟩), (12, ⟨true, .ref [12, 0] 0⟩), (16, ⟨true, .v (.bool bb)⟩), (18, ⟨true, .ref [18, 0] 0⟩), (51, ⟨true, .agg [.v (vInt x.h), .v (vInt x.n), .v (.bool x.o), .v (vInt y.h), .v (vInt y.n), .v (.bool y.o), .v (vInt z.h), .v (vInt z.n), .v (.bool z.o)]⟩), (52, ⟨true, .v (vInt i)⟩)] [([12, 0], .box [.v (.sl (c.map encD)), .v (vInt day)]), ([18, 0], .box [.v (vInt h), .v (vInt n), .v (.bool o)])]) ?_ fun K' hK => ?_
  rotate_left
  ·rcases hi3 with rfl | rfl | rfl
   all_goals
    rw [hL] at hs
    simp only [List.getD_cons_zero, List.getD_cons_succ, Sta.mk.injEq] at hs
    obtain ⟨rfl, rfl, rfl⟩ := hs
    simp only [go_sem, tz137, tp137, Nat.reduceLeDiff, Nat.le_refl, Int.toNat_natCast, Int.natCast_nonneg, h3]
    repeat refine ⟨ob, ?_⟩
    refine hK _ (weakM_keep [2,12,16,18,51,52] [[12, 0], [18, 0]] ?_ ?_)
    ·simp only [go_sem]
    ·simp only [go_sem]
  have hti := fun (obj : Name → Option O) (t : Name) => hth obj t 0 h
  obtain ⟨h', n', o', hs'⟩ : ∃ h' n' o', thenS c ds 0 h day = ⟨h', n', o'⟩ := ⟨_, _, _, rfl⟩
  simp only [hs', encS] at hti hnx
  repeat refine sq ?_
  refine cl_rwE hΓ (mkS 66 [0] (fun _ => none) [(2, ⟨true, .v (.sl (ds.map vInt))⟩), (12, ⟨true, .ref [12, 0] 0⟩), (16, ⟨true, .v (.bool (b0 && (b1 && o')))⟩), (51, ⟨true, .agg [.v (vInt x.h), .v (vInt x.n), .v (.bool x.o), .v (vInt y.h), .v (vInt y.n), .v (.bool y.o), .v (vInt z.h), .v (vInt z.n), .v (.bool z.o)]⟩), (52, ⟨true, .v (vInt i)⟩)] [([12, 0], .box [.v (.sl (c.map encD)), .v (vInt day)])]) (fun _ h => h) ?_ fun K' hK => ?_
  rotate_left
  ·rw [← hb1 o'] at hK
   cases bb
   ·simp only [go_sem]
    repeat refine ⟨ob, ?_⟩
    refine hK _ (weakM_keep [2,12,16,51,52] [[12, 0]] ?_ ?_)
    ·simp only [go_sem]
    ·simp only [go_sem, Bool.false_and]
   ·simp only [go_sem, hti]
    repeat refine ⟨ob, ?_⟩
    refine hK _ (weakM_keep [2,12,16,51,52] [[12, 0]] ?_ ?_)
    ·simp only [go_sem]
    ·simp only [go_sem, Bool.true_and]
  repeat refine sq ?_
  refine cl_r hΓ fun K' hK => ?_
  simp only [go_sem]
  repeat refine ⟨ob, ?_⟩
  refine hK _ ?_
  clear K' hK
  simp only [go_sem]
  refine ⟨i + 1, by omega, by omega, ?_⟩
  rw [hnx]
  refine weak_eq [2,12,16,51,52] [[12, 0]] ?_ ?_ <;> simp only [go_sem, hws, Int.natCast_add, Int.natCast_one]
 have hge : i = 3 := by
  have : ¬ (i : Int) < 3 := by simpa using hb
  omega
 subst hge
 clear hb
 repeat refine sq ?_
 refine cl_exit ?_
 simp only [go_sem]
 refine cl_keep [16] [] ?_ ?_ <;> simp only [go_sem]
 rw [List.take_of_length_le (by omega : L.length ≤ 3)]
 repeat refine sq ?_
 refine rs hΓ [10,11] [] ?_
 exact rt
def evP (c : List Deed) : Prop := okL c ∧ pairI clashB c = none
def pDP (P : List Deed → Prop) (f : List Deed → List Int → V) : PSpec := ⟨fun xs => ∃ (l : List Deed) (ds : List Int), xs = [.sl (l.map encD), .sl (ds.map vInt)] ∧ P l ∧ ds.length ≤ 1152921504606846976, fun xs => match xs with | [.sl l, .sl ds] => f (l.map decD) (ds.map decI) | _ => .bool false, false⟩
theorem pDP_fn (P : List Deed → Prop) (f : List Deed → List Int → V) (l : List Deed) (ds : List Int) : (pDP P f).fn [.sl (l.map encD), .sl (ds.map vInt)] = f l ds := by
 simp only [pDP, decD_map, decI_map]
noncomputable def sDP (P : List Deed → Prop) (f : List Deed → List Int → V) : Spec := (pDP P f).toSpec
theorem sDP_app {P : List Deed → Prop} {f : List Deed → List Int → V} {obj : Name → Option O} {t : Name} {l : List Deed} {ds : List Int} (h : P l) (hd : ds.length ≤ 1152921504606846976) : (sDP P f).app obj t [.v (.sl (l.map encD)), .v (.sl (ds.map vInt))] = ⟨True, .v (f l ds), obj⟩ := by
 simp only [sDP, PSpec.toSpec, frzL, frz, pDP_fn, ite_self]
 congr 1
 simp only [eq_iff_iff, iff_true]
 exact ⟨⟨trivial, trivial, trivial⟩, l, ds, rfl, h, hd⟩
noncomputable def K102 : FuncId → Option Spec := fun f => match f with
 | 116 => some (sL (fun c => c.length ≤ 60) fun c => .sl ((daysRL c).map vIt))
 | 117 => some (sDDb fun a b => .bool (sameThB a b))
 | 120 => some sPick
 | 18 => some sMod
 | _ => none
theorem K102_sound : ∀ f s, K102 f = some s → SSound Tryz.prog f s := by
 intro f s h
 unfold K102 at h
 split at h
 ·cases h; exact s116.sound
 ·cases h; exact s117.sound
 ·cases h; exact s120.sound
 ·cases h; exact s18.sound
 ·cases h
@[go_sem] theorem K102_116 : K102 116 = some (sL (fun c => c.length ≤ 60) fun c => .sl ((daysRL c).map vIt)) := rfl
@[go_sem] theorem K102_117 : K102 117 = some (sDDb fun a b => .bool (sameThB a b)) := rfl
@[go_sem] theorem K102_120 : K102 120 = some sPick := rfl
@[go_sem] theorem K102_18 : K102 18 = some sMod := rfl
theorem trX_ok {c : List Deed} (hc : okL c) (hp : pairI clashB c = none) (picks : List Int) {i : Nat} (hi : i < c.length) :
  0 ≤ trLo c (trN c picks i) i i ∧ trLo c (trN c picks i) i i ≤ (dayR c i).2 ∧ (dayR c i).2 ≤ 100000 := by
 have hdr := dayR_at hi
 have hd := day_of (hc.2.1 _ (List.getElem_mem hi))
 have hb1 : c[i].dl ≤ (dayR c i).1 := by rw [hdr]; exact le_rLo
 have hb2 : (dayR c i).2 ≤ c[i].dh := by rw [hdr]; exact rHi_le.1
 obtain ⟨k1, k2, k3⟩ := trLo_ok (c := c) (out := trN c picks i) (i := i) (v := (dayR c i).2) (by rw [hdr]; exact days_even hc hp hi) i fun j hj hs => by
  rw [getD_at hi, getD_at (by omega : j < c.length)] at hs
  have h1 := (tr_ok hc hp picks i (by omega) j (by omega) hj).2.1
  rw [dayR_at (by omega : j < c.length)] at h1
  have h2 := rHi_mono hc.2.1 hj hi hs
  rw [hdr]
  exact Int.le_trans h1 h2
 omega
set_option maxHeartbeats 16000000 in
theorem s59 : PSound Tryz.prog 59 (pDP evP fun c picks => .sl ((trN c picks c.length).map vInt)) := by
 refine psoundB (rs := [.tmp 4]) Tryz.func59 Tryz.ntmps59 (by rfl) (by kernel_rfl) (by decide) (fun h => by cases h) ⟨_, rfl, ?_⟩
 rintro xs ⟨c, picks, rfl, ⟨hok, hp⟩, hpl⟩ hw
 refine ⟨lb rfl, ?_⟩
 rw [pDP_fn]
 have hΓ := K102_sound
 have hP := mixedK
 have hc60 := hok.2.2
 have hcm : c.length ≤ maxLen := by unfold maxLen; omega
 have hdy := fun (obj : Name → Option O) (t : Name) (f : List Deed → V) => sL_app (P := fun c => c.length ≤ 60) (f := f) (obj := obj) (t := t) (l := c) hc60
 have hpk := fun (obj : Name → Option O) (t : Name) (v : Int) => sPick_app (obj := obj) (t := t) (l := picks) (v := v) hpl
 have hdl : (daysRL c).length = c.length := daysRL_len c
 repeat refine sq ?_
 refine rs hΓ [0,1] [] ?_
 repeat refine sq ?_
 refine rx hΓ [0,1,5] [] (fun K' hK => by simp only [go_sem, hdy]; exact fin) ?_
 repeat refine sq ?_
 refine rs hΓ [0,1,5,6] [] ?_
 refine cl_weakM (σ' := mkS 58 [0] (fun _ => none) [(0, ⟨true, .v (.sl (c.map encD))⟩), (1, ⟨true, .v (.sl (picks.map vInt))⟩), (5, ⟨true, .v (.sl ((daysRL c).map vIt))⟩), (6, ⟨true, .msl [55, 0] 0⟩)] [([55, 0], .arr 1 [])]) (weakM_ghostk 6 [55, 0] 1 (by simp only [go_sem]) (by simp only [go_sem]) [0, 1, 5, 6] [[55, 0]] ?_ ?_) ?_
 ·simp only [go_sem]
 ·simp only [go_sem]
 repeat refine sq ?_
 refine rx hΓ [0,1,6,13,14,15] [[55, 0]] (fun K' hK => by simp only [go_sem, hdl]; exact fin) ?_
 repeat refine sq ?_
 refine cl_block ?_
 repeat refine sq ?_
 refine cl_loop' (fun s : Nat => [(6, ⟨true, .msl [55, 0] s⟩), (15, ⟨true, .v (vInt s)⟩)]) (fun s => [([55, 0], .arr 1 ((trN c picks s).map vInt))]) (fun s => s ≤ c.length) (fun s => c.length - s) 0 ?_ ?_ ?_ ?_
 ·exact Nat.zero_le _
 ·rfl
 ·rfl
 rintro i hi
 simp only [go_sem]
 repeat refine sq ?_
 refine rs hΓ [0,1,6,13,14,15,16] [[55, 0]] ?_
 repeat refine sq ?_
 refine cl_cond rfl rfl (fun hb => ?_) fun hb => ?_
 ·have hlt : i < c.length := by simpa using hb
  have hlt' : (i : Int) < c.length := by omega
  clear hb
  repeat refine sq ?_
  refine cl_skip ?_
  repeat refine sq ?_
  refine cl_block ?_
  repeat refine sq ?_
  have hltd : i < (daysRL c).length := by omega
  have edr : (daysRL c)[i] = dayR c i := by simp [daysRL]
  have hnl := trN_len c picks i
  repeat refine sq ?_
  refine rx hΓ [0,1,6,7,8,13,14,15] [[8, 0],[55, 0]] (fun K' hK => by simp only [go_sem, map_getD hltd, edr, vIt, Int.toNat_natCast, Int.natCast_nonneg, hlt', hdl]; exact fin) ?_
  repeat refine sq ?_
  refine rs hΓ [0,1,6,7,8,9,13,14,15] [[8, 0],[55, 0]] ?_
  repeat refine sq ?_
  refine rs hΓ [0,1,6,7,8,9,10,13,14,15] [[8, 0],[55, 0]] ?_
  repeat refine sq ?_
  refine cl_block ?_
  repeat refine sq ?_
  refine cl_loop' (fun s : Nat => [(9, ⟨true, .v (vInt (trLo c (trN c picks i) i s))⟩), (10, ⟨true, .v (vInt s)⟩)]) (fun s => []) (fun s => s ≤ i) (fun s => i - s) 0 ?_ ?_ ?_ ?_
  ·exact Nat.zero_le _
  ·rfl
  ·rfl
  rintro k hk
  simp only [go_sem]
  repeat refine sq ?_
  refine rs hΓ [0,1,6,7,8,9,10,13,14,15,24] [[8, 0],[55, 0]] ?_
  repeat refine sq ?_
  refine cl_cond rfl rfl (fun hb => ?_) fun hb => ?_
  ·have hlt : k < i := by simpa using hb
   have hlt' : (k : Int) < i := by omega
   clear hb
   repeat refine sq ?_
   refine cl_skip ?_
   repeat refine sq ?_
   refine cl_block ?_
   repeat refine sq ?_
   have hic : i < c.length := by omega
   have hic' : (i : Int) < c.length := by omega
   have hkc : k < c.length := by omega
   have hkc' : (k : Int) < c.length := by omega
   have hko : k < (trN c picks i).length := by omega
   have hko' : (k : Int) < (i : Int) := by omega
   have nx : trLo c (trN c picks i) i (k + 1) = if sameThB c[k] c[i] then (if (trN c picks i)[k] > trLo c (trN c picks i) i k then (trN c picks i)[k] else trLo c (trN c picks i) i k) else trLo c (trN c picks i) i k := by
    simp only [trLo, getD_at hic, getD_at hkc, getD_at hko]
   have hsd := fun (g : Deed → Deed → V) (obj : Name → Option O) (t : Name) => sDDb_v (g := g) (obj := obj) (t := t) (a := c[k]) (b := c[i])
   simp only [encD] at hsd
   repeat refine sq ?_
   refine cl_ds hΓ hP [[], [], [0, 1], [0, 1, 2], [], [], [4, 5], [4, 5, 6], [0, 1, 2, 3, 4, 5, 6, 7]] [0,1,6,7,8,9,10,13,14,15,35] [[8, 0],[55, 0]] (by kernel_rfl) fun K' hK => ?_
   simp only [go_sem, map_getD hic, map_getD hkc, Int.toNat_natCast, Int.natCast_nonneg, hic', hkc', hsd]
   repeat refine ⟨ob, ?_⟩
   first | refine ⟨by rfl, ?_⟩ | skip
   refine hK _ ?_ ?_ <;> clear K' hK <;> simp only [go_sem, map_getD hic, map_getD hkc, Int.toNat_natCast, Int.natCast_nonneg, hic', hkc', hsd]
   repeat refine sq ?_
   refine cl_cond rfl rfl (fun hb => ?_) fun hb => ?_
   ·rw [if_pos hb] at nx
    repeat refine sq ?_
    refine cl_r hΓ fun K' hK => ?_
    simp only [go_sem, map_getD hko, Int.toNat_natCast, Int.natCast_nonneg, hko', hnl]
    repeat refine ⟨ob, ?_⟩
    refine hK _ ?_
    clear K' hK
    simp only [go_sem]
    refine cl_keep [0,1,6,7,8,9,10,13,14,15] [[8, 0],[55, 0]] ?_ ?_ <;> simp only [go_sem]
    repeat refine sq ?_
    refine cl_r hΓ fun K' hK => ?_
    simp only [go_sem]
    repeat refine ⟨ob, ?_⟩
    refine hK _ ?_
    clear K' hK
    simp only [go_sem]
    refine ⟨k + 1, hlt, (show i - (k + 1) < i - k by omega), ?_⟩
    rw [nx]
    refine weak_eq [0,1,6,7,8,9,10,13,14,15] [[8, 0],[55, 0]] ?_ ?_ <;> simp only [go_sem, wrap_succ hkc hcm, Int.natCast_add, Int.natCast_one]
   ·rw [if_neg (by simp [hb])] at nx
    repeat refine sq ?_
    refine cl_skip ?_
    refine cl_nil ?_
    simp only [go_sem]
    refine cl_keep [0,1,6,7,8,9,10,13,14,15] [[8, 0],[55, 0]] ?_ ?_ <;> simp only [go_sem]
    repeat refine sq ?_
    refine cl_r hΓ fun K' hK => ?_
    simp only [go_sem]
    repeat refine ⟨ob, ?_⟩
    refine hK _ ?_
    clear K' hK
    simp only [go_sem]
    refine ⟨k + 1, hlt, (show i - (k + 1) < i - k by omega), ?_⟩
    rw [nx]
    refine weak_eq [0,1,6,7,8,9,10,13,14,15] [[8, 0],[55, 0]] ?_ ?_ <;> simp only [go_sem, wrap_succ hkc hcm, Int.natCast_add, Int.natCast_one]
  ·have hge : k = i := by
    have : ¬ (k : Int) < i := by simpa using hb
    omega
   subst hge
   clear hb
   repeat refine sq ?_
   refine cl_exit ?_
   simp only [go_sem]
   refine cl_keep [0,1,6,7,8,9,13,14,15] [[8, 0],[55, 0]] ?_ ?_ <;> simp only [go_sem]
   have hic : k < c.length := by omega
   obtain ⟨q1, q2, q3⟩ := trX_ok hok hp picks hic
   have nx : trN c picks (k + 1) = trN c picks k ++ [trX c picks (trN c picks k) k] := rfl
   unfold trX at nx
   generalize trLo c (trN c picks k) k k = lo at *
   have w1 : IntKind.i64.wrap (IntKind.i64.wrap ((dayR c k).2 - lo) + 1) = (dayR c k).2 - lo + 1 := by
    rw [wrap_i64 (x := (dayR c k).2 - lo) (by omega) (by omega), wrap_i64 (by omega) (by omega)]
   have hr := modI_range (a := pickI picks k) (n := (dayR c k).2 - lo + 1) (by omega) (by omega)
   have hm := fun (obj : Name → Option O) (t : Name) => sMod_app (obj := obj) (t := t) (a := pickI picks k) (b := (dayR c k).2 - lo + 1) (by omega)
   generalize modI (pickI picks k) ((dayR c k).2 - lo + 1) = x at *
   have w2 : IntKind.i64.wrap (lo + x) = lo + x := wrap_i64 (by omega) (by omega)
   repeat refine sq ?_
   refine cl_d hΓ hP [[], [], [], [], [2, 3], [], [5], [], [5, 6, 7], [5, 6, 7, 8], [2, 3, 4, 5, 6, 7, 8, 9], [1, 2, 3, 4, 5, 6, 7, 8, 9, 10], [1, 2, 3, 4, 5, 6, 7, 8, 9, 10, 11], [0, 1, 2, 3, 4, 5, 6, 7, 8, 9, 10, 11, 12], [0, 1, 2, 3, 4, 5, 6, 7, 8, 9, 10, 11, 12, 13]] (by kernel_rfl) fun K' hK => ?_
   simp only [go_sem, hpk, w1, hm, w2, te39, tz3, hnl]
   repeat' apply And.intro
   all_goals first | rfl | omega | exact Int.le_refl _ | exact Bool.or_not_self _ | exact Bool.not_or_self _ | exact enc_okI _ | exact enc_ok _ | exact fun x hx => (enc_okI _ x hx).1 | exact fun x hx => (enc_ok _ x hx).1 | (simp only [List.length_take, List.length_append, List.length_map, List.length_drop, List.length_cons, List.length_nil]; done) | (simp only [List.length_take, List.length_append, List.length_map, List.length_drop, List.length_cons, List.length_nil]; omega) | (simp only [List.length_take, List.length_append, List.length_map, List.length_drop, List.length_cons, List.length_nil, maxLen]; omega) | (exact fun _ => by decide) | (exact fun h => ⟨h, by decide⟩) | (simp only [decide_eq_true_eq]; omega) | (simp only [List.length_map, List.length_cons, List.length_nil, maxLen, hnl]; omega) | skip
   refine hK _ ?_
   clear K' hK
   simp only [go_sem]
   refine cl_keep [0,1,6,13,14,15] [[55, 0]] ?_ ?_ <;> simp only [go_sem]
   repeat refine sq ?_
   refine cl_r hΓ fun K' hK => ?_
   simp only [go_sem]
   repeat refine ⟨ob, ?_⟩
   refine hK _ ?_
   clear K' hK
   simp only [go_sem]
   refine ⟨k + 1, hlt, (show c.length - (k + 1) < c.length - k by omega), ?_⟩
   rw [nx]
   refine wq [0,1,6,13,14,15] [[55, 0]] ?_
   simp only [go_sem, wrap_succ hlt hcm, Int.natCast_add, Int.natCast_one, List.map_append, hnl]
 ·have hge : i = c.length := by
   have : ¬ (i : Int) < c.length := by simpa using hb
   omega
  subst hge
  clear hb
  repeat refine sq ?_
  refine cl_exit ?_
  simp only [go_sem]
  refine cl_keep [6] [[55, 0]] ?_ ?_ <;> simp only [go_sem]
  repeat refine sq ?_
  refine rs hΓ [4] [[55, 0]] ?_
  refine cl_ret ?_
  simp only [go_sem]
  exact (trN_len c picks c.length).symm
set_option maxRecDepth 100000
@[go_sem] theorem ta41 : tAgg Tryz.prog 41 = some (true, 6) := by kernel_rfl
@[go_sem] theorem tf41_0 : tField Tryz.prog 41 0 = some (0, 2, true) := by kernel_rfl
@[go_sem] theorem tf41_1 : tField Tryz.prog 41 1 = some (2, 1, false) := by kernel_rfl
@[go_sem] theorem tf41_2 : tField Tryz.prog 41 2 = some (3, 1, false) := by kernel_rfl
@[go_sem] theorem tf41_3 : tField Tryz.prog 41 3 = some (4, 1, false) := by kernel_rfl
@[go_sem] theorem tf41_4 : tField Tryz.prog 41 4 = some (5, 1, false) := by kernel_rfl
theorem guard33 : Tryz.prog.eqGuardType Tryz.prog.depth 33 = false := by kernel_rfl
@[go_sem] theorem aEqS33 (obj : Name → Option O) (op : BinOp) (a b a' b' : Int) : aEqS Tryz.prog obj op 33 (.agg [vInt a, vInt b]) (.agg [vInt a', vInt b']) =
  ⟨op = .eql ∨ op = .neq, .v (.bool (if op = .eql then (a == a' && b == b') else !(a == a' && b == b'))), obj⟩ := by
 unfold aEqS
 rw [show Op.maxDepth = 9998 + 2 from rfl, eqV33]
 simp only [guard33, true_and]
noncomputable def sLKD (f : List Deed → Int → List Int → V) : Spec := (pLKD f).toSpec
theorem sLKD_app {f : List Deed → Int → List Int → V} {obj : Name → Option O} {t : Name} {l : List Deed} {k : Int} {b : List Int} : (sLKD f).app obj t [.v (.sl (l.map encD)), .v (vInt k), .v (.sl (b.map vInt))] = ⟨True, .v (f l k b), obj⟩ := by
 simp only [sLKD, PSpec.toSpec, frzL, frz, pLKD_fn]
 simp only [pLKD, if_true]
 congr 1
 simp only [eq_iff_iff, iff_true]
 exact ⟨⟨trivial, trivial, trivial, trivial⟩, l, k, b, rfl⟩
@[go_sem] theorem ta53 : tAgg Tryz.prog 53 = some (true, 4) := by kernel_rfl
@[go_sem] theorem tp53 : tPlaces Tryz.prog 53 = some [(0, 1), (1, 1), (2, 1), (3, 1)] := by kernel_rfl
@[go_sem] theorem tf53_0 : tField Tryz.prog 53 0 = some (0, 1, false) := by kernel_rfl
@[go_sem] theorem tf53_2 : tField Tryz.prog 53 2 = some (2, 1, false) := by kernel_rfl
@[go_sem] theorem tf53_3 : tField Tryz.prog 53 3 = some (3, 1, false) := by kernel_rfl
def encO (ps ds : List Int) (da kn : Int) : V := .agg [.sl (ps.map vInt), .sl (ds.map vInt), vInt da, vInt kn]
theorem wrong_law {p : Sta → Bool} {t : List Deed} {day : Int} {s : Sta} (hs : mayP t day s) : wrongB (ansP p t day) (p s) = false := by
 obtain ⟨h1, h0⟩ := ansP_true (p := p) hs
 unfold wrongB
 by_cases e1 : ansP p t day = 1
 ·rw [h1 e1, e1]; rfl
 ·by_cases e0 : ansP p t day = 0
  ·rw [h0 e0, e0]; rfl
  ·simp [e1, e0]
theorem lock_of1 {l : List Deed} {lock day k pe : Int} (h : checkI l = 0) (hl : isLockB lock = true) (hp : isPersB pe = true) (ha : isDayB day = true) (hb : isDayB k = true) : lockE l lock day k [pe] = gE (countL l k) := by
 unfold lockE askE
 rw [if_pos h, if_pos hl, if_neg (by simp [hp]), days_two h ha hb]
 rfl
theorem ans_of {l : List Deed} {lock day k pe : Int} {p : Sta → Bool} (h : checkI l = 0) (hl : isLockB lock = true) (hp : isPersB pe = true) (ha : isDayB day = true) (hb : isDayB k = true) (hg : gE (countL l k) = 0) : ansR p l lock pe day k = ansP p (thrL (countL l k) lock 0) day := by
 unfold ansR
 rw [lock_of1 h hl hp ha hb, if_pos hg]
theorem in_of {l : List Deed} {day k pe : Int} (h : checkI l = 0) (hp : isPersB pe = true) (ha : isDayB day = true) (hb : isDayB k = true) (hg : gE (countL l k) = 0) : inE l pe day k = 0 ∧ inR l pe day k = offI (countL l k) pe day := by
 have e : inE l pe day k = 0 := by
  unfold inE askE
  rw [if_pos h, if_pos hp, days_two h ha hb]
  exact hg
 refine ⟨e, ?_⟩
 unfold inR
 rw [if_pos e]
theorem true_q1 {c : List Deed} (hv : ∀ d ∈ c, isDeedB d = true) {ds : List Int} (h : trueP sameThB c ds) : trueB q1 c ds = true := by
 unfold trueB
 simp only [decide_eq_true_eq]
 exact (trueP_congr fun a ha b hb => (same_is (hv a ha) (hv b hb)).symm).2 h
theorem tp48 : tPlaces Tryz.prog 48 = some [(0, 1), (1, 1), (2, 1), (3, 1)] := by kernel_rfl
theorem tz48 : tZero Tryz.prog 48 = some (.agg #[(.int .i64 0), (.int .i64 0), (.int .i64 0), (.int .i64 0)]) := by kernel_rfl
noncomputable def K103 : FuncId → Option Spec := fun f => match f with
 | 16 => some sRChk
 | 25 => some (pInt isDayB)
 | 26 => some sAre
 | 17 => some ((⟨fun xs => xs = [], fun _ => .bool true, true⟩ : PSpec).toSpec)
 | 27 => some (sLI (fun _ => True) consV true)
 | 28 => some (sLPI (fun l ps day k => .tup [vInt (lwA l ps day k), vInt (lwE l ps day k)]) true)
 | 29 => some (sLI okL (fun l k => .sl ((countL l k).map encD)) false)
 | 59 => some (sDP evP fun c picks => .sl ((trN c picks c.length).map vInt))
 | 60 => some (sTrue fun l ps ds day k => .tup [.bool (trA l ps ds day k), vInt (trE l ps ds day k)])
 | 57 => some (sLKD fun l k ds => vInt (ctI q1 l k ds))
 | 61 => some (sCDA (fun c ds a => encK (keyO c ds a.lo a.da)) true)
 | 31 => some (sLI3 (fun l lock day k => .tup [.sl ((whoR (·.h) l lock day k).map vInt), vInt (lockE l lock day k [])]) false)
 | 32 => some (sLI3 (fun l lock day k => .tup [.sl ((whoR (·.n) l lock day k).map vInt), vInt (lockE l lock day k [])]) false)
 | 62 => some (sLV fun l v => .bool (l.any fun x => x == v))
 | 44 => some (sLI4 (fun l lock pe day k => .tup [vInt (ansR (fun s => s.h == pe) l lock pe day k), vInt (lockE l lock day k [pe])]) true)
 | 46 => some (sLI4 (fun l lock pe day k => .tup [vInt (ansR (fun s => s.n == pe) l lock pe day k), vInt (lockE l lock day k [pe])]) true)
 | 63 => some (sIBv fun a b => .bool (wrongB a b))
 | 48 => some (sLI3 (fun l pe day k => .tup [vInt (inR l pe day k), vInt (inE l pe day k)]) true)
 | 64 => some (sCDA (fun c ds a => .bool (inO c ds a.pe a.da)) true)
 | _ => none
theorem K103_sound : ∀ f s, K103 f = some s → SSound Tryz.prog f s := by
 intro f s h
 unfold K103 at h
 split at h
 ·cases h; exact s16'
 ·cases h; exact s25.sound
 ·cases h; exact s26.sound
 ·cases h; exact s17.sound
 ·cases h; exact s27.sound
 ·cases h; exact s28.sound
 ·cases h; exact s29.sound
 ·cases h; exact s59.sound
 ·cases h; exact s60.sound
 ·cases h; exact s57.sound
 ·cases h; exact s61.sound
 ·cases h; exact s31.sound
 ·cases h; exact s32.sound
 ·cases h; exact s62.sound
 ·cases h; exact s44.sound
 ·cases h; exact s46.sound
 ·cases h; exact s63.sound
 ·cases h; exact s48.sound
 ·cases h; exact s64.sound
 ·cases h
@[go_sem] theorem K103_16 : K103 16 = some sRChk := rfl
@[go_sem] theorem K103_25 : K103 25 = some (pInt isDayB) := rfl
@[go_sem] theorem K103_26 : K103 26 = some sAre := rfl
@[go_sem] theorem K103_17 : K103 17 = some ((⟨fun xs => xs = [], fun _ => .bool true, true⟩ : PSpec).toSpec) := rfl
@[go_sem] theorem K103_27 : K103 27 = some (sLI (fun _ => True) consV true) := rfl
@[go_sem] theorem K103_28 : K103 28 = some (sLPI (fun l ps day k => .tup [vInt (lwA l ps day k), vInt (lwE l ps day k)]) true) := rfl
@[go_sem] theorem K103_29 : K103 29 = some (sLI okL (fun l k => .sl ((countL l k).map encD)) false) := rfl
@[go_sem] theorem K103_59 : K103 59 = some (sDP evP fun c picks => .sl ((trN c picks c.length).map vInt)) := rfl
@[go_sem] theorem K103_60 : K103 60 = some (sTrue fun l ps ds day k => .tup [.bool (trA l ps ds day k), vInt (trE l ps ds day k)]) := rfl
@[go_sem] theorem K103_57 : K103 57 = some (sLKD fun l k ds => vInt (ctI q1 l k ds)) := rfl
@[go_sem] theorem K103_61 : K103 61 = some (sCDA (fun c ds a => encK (keyO c ds a.lo a.da)) true) := rfl
@[go_sem] theorem K103_31 : K103 31 = some (sLI3 (fun l lock day k => .tup [.sl ((whoR (·.h) l lock day k).map vInt), vInt (lockE l lock day k [])]) false) := rfl
@[go_sem] theorem K103_32 : K103 32 = some (sLI3 (fun l lock day k => .tup [.sl ((whoR (·.n) l lock day k).map vInt), vInt (lockE l lock day k [])]) false) := rfl
@[go_sem] theorem K103_62 : K103 62 = some (sLV fun l v => .bool (l.any fun x => x == v)) := rfl
@[go_sem] theorem K103_44 : K103 44 = some (sLI4 (fun l lock pe day k => .tup [vInt (ansR (fun s => s.h == pe) l lock pe day k), vInt (lockE l lock day k [pe])]) true) := rfl
@[go_sem] theorem K103_46 : K103 46 = some (sLI4 (fun l lock pe day k => .tup [vInt (ansR (fun s => s.n == pe) l lock pe day k), vInt (lockE l lock day k [pe])]) true) := rfl
@[go_sem] theorem K103_63 : K103 63 = some (sIBv fun a b => .bool (wrongB a b)) := rfl
@[go_sem] theorem K103_48 : K103 48 = some (sLI3 (fun l pe day k => .tup [vInt (inR l pe day k), vInt (inE l pe day k)]) true) := rfl
@[go_sem] theorem K103_64 : K103 64 = some (sCDA (fun c ds a => .bool (inO c ds a.pe a.da)) true) := rfl
set_option maxHeartbeats 16000000 in
theorem w11 (l : List Deed) (picks : List Int) (hpl : picks.length ≤ 1152921504606846976) (da kn : Int) (ps ds0 : List Int) :
  ∃ c, Tryz.f11.body = some c ∧ CL Tryz.prog [c] (mkS 274 [0] (fun _ => none) (argsL 0 [.sl (l.map encD), .sl (picks.map vInt), encO ps ds0 da kn]) []) (retK Tryz.prog [.tmp 6] (.bool true)) := by
 refine ⟨_, rfl, ?_⟩
 have hΓ := K103_sound
 have hin := fun (obj : Name → Option O) (t : Name) (n : Int) => pInt_app (g := isDayB) (obj := obj) (t := t) (n := n)
 unfold encO
 repeat refine sq ?_
 refine rs hΓ [0,1,5] [[5, 0]] ?_
 obtain ⟨c, hc⟩ : ∃ c : Bool, c = !(decide (checkI l = 0) && isDayB kn && isDayB da && areB ps) := ⟨_, rfl⟩
 repeat refine sq ?_
 refine cl_rw hΓ (mkS 274 [0] (fun _ => none) [(0, ⟨true, .v (.sl (l.map encD))⟩), (1, ⟨true, .v (.sl (picks.map vInt))⟩), (5, ⟨true, .ref [5, 0] 0⟩), (53, ⟨true, .v (.bool c)⟩)] [([5, 0], .box [.v (.sl (ps.map vInt)), .v (.sl (ds0.map vInt)), .v (vInt da), .v (vInt kn)])]) ?_ fun K' hK => ?_
 rotate_left
 ·by_cases h1 : checkI l = 0
  ·have hbn : (checkI l != 0) = false := by simpa using h1
   cases h2 : isDayB kn
   ·have hct : c = true := by rw [hc, h2]; simp
    simp only [go_sem, sRChk_app, hbn, hin, h2]
    repeat refine ⟨ob, ?_⟩
    refine hK _ (weakM_keep [0, 1, 5, 53] [[5, 0]] ?_ ?_)
    ·simp only [go_sem]
    ·simp only [go_sem, hct]
   ·cases h3 : isDayB da
    ·have hct : c = true := by rw [hc, h2, h3]; simp
     simp only [go_sem, sRChk_app, hbn, hin, h2, h3]
     repeat refine ⟨ob, ?_⟩
     refine hK _ (weakM_keep [0, 1, 5, 53] [[5, 0]] ?_ ?_)
     ·simp only [go_sem]
     ·simp only [go_sem, hct]
    ·have hct : c = !areB ps := by rw [hc, h2, h3]; simp [h1]
     simp only [go_sem, sRChk_app, hbn, hin, h2, h3, sAre_app]
     repeat refine ⟨ob, ?_⟩
     refine hK _ (weakM_keep [0, 1, 5, 53] [[5, 0]] ?_ ?_)
     ·simp only [go_sem]
     ·simp only [go_sem, hct]
  ·have hct : c = true := by rw [hc]; simp [h1]
   have hbn : (checkI l != 0) = true := by simpa using h1
   simp only [go_sem, sRChk_app, hbn]
   repeat refine ⟨ob, ?_⟩
   refine hK _ (weakM_keep [0, 1, 5, 53] [[5, 0]] ?_ ?_)
   ·simp only [go_sem]
   ·simp only [go_sem, hct]
 repeat refine sq ?_
 refine cl_cond rfl rfl (fun hb => ?_) fun hb => ?_
 ·repeat refine sq ?_
  refine rs hΓ [6] [] ?_
  exact rt
 rw [hb] at hc
 have hc2 : checkI l = 0 ∧ isDayB kn = true ∧ isDayB da = true ∧ areB ps = true := by
  simp at hc
  exact ⟨hc.1.1.1, hc.1.1.2, hc.1.2, hc.2⟩
 obtain ⟨h1, hkn, hda, har⟩ := hc2
 clear hb hc
 have hok := check_zero.1 h1
 have hdd := day_iff.1 hda
 have z : daysI l [kn] = 0 := by unfold daysI; rw [if_pos h1]; simp [hkn]
 have hcs := fun (obj : Name → Option O) (t : Name) (f : List Deed → Int → V) (fl : Bool) => sLI_app (P := fun _ => True) (f := f) (fl := fl) (obj := obj) (t := t) (l := l) (k := kn) trivial
 have ecs : consV l kn = .tup [.bool (!(confP (countL l kn)).isSome), vInt 0] := by unfold consV; rw [if_pos z]
 have hcn := fun (obj : Name → Option O) (t : Name) (f : List Deed → Int → V) (fl : Bool) => sLI_app (P := okL) (f := f) (fl := fl) (obj := obj) (t := t) (k := kn) hok
 have eE := lwE_of (ps := ps) h1 har hda hkn
 repeat refine sq ?_
 refine cl_skip ?_
 repeat refine sq ?_
 refine rx hΓ [0,1,5,7,8] [[5, 0]] (fun K' hK => by simp only [go_sem, hcs, ecs]; exact fin) ?_
 repeat refine sq ?_
 refine rs hΓ [0,1,5,7,63] [[5, 0]] ?_
 repeat refine sq ?_
 refine cl_cond rfl rfl (fun hb => ?_) fun hb => ?_
 ·simp at hb
 repeat refine sq ?_
 refine cl_skip ?_
 clear hb
 repeat refine sq ?_
 refine rs hΓ [0,1,5,65] [[5, 0]] ?_
 repeat refine sq ?_
 refine cl_cond rfl rfl (fun hb => ?_) fun hb => ?_
 ·have hcf : (confP (countL l kn)).isSome = true := by simpa using hb
  have e13 : lwE l ps da kn = 13 := by rw [eE]; unfold gE; rw [if_pos hcf]
  repeat refine sq ?_
  refine rx hΓ [10] [] (fun K' hK => by simp only [go_sem, sLPI_app, e13]; exact fin) ?_
  repeat refine sq ?_
  refine rs hΓ [6] [] ?_
  exact rt
 have hcf : ¬ (confP (countL l kn)).isSome = true := by simpa using hb
 clear hb
 have g0 : gE (countL l kn) = 0 := by unfold gE; rw [if_neg hcf]
 have eE0 : lwE l ps da kn = 0 := by rw [eE, g0]
 have eA : lwA l ps da kn = ansW (countL l kn) da ps := by rw [lwA_of h1 har hda hkn, if_pos g0]
 have hokc := count_ok hok kn
 have hev : evP (countL l kn) := ⟨hokc, conf_clash hok hcf⟩
 have htp := tr_true hokc hev.2 picks
 have hdl : (trN (countL l kn) picks (countL l kn).length).length = (countL l kn).length := trN_len _ _ _
 have hop : openE l ps da kn = 0 := by unfold openE; rw [if_pos h1, if_pos har, days_two h1 hda hkn]
 have htq := true_q1 hokc.2.1 htp
 have etE : trE l ps (trN (countL l kn) picks (countL l kn).length) da kn = 0 := by unfold trE; rw [if_pos hop, if_pos htq]
 have etA : trA l ps (trN (countL l kn) picks (countL l kn).length) da kn = wasB (countL l kn) (trN (countL l kn) picks (countL l kn).length) ps da := by unfold trA; rw [if_pos etE]
 have ect : ctI q1 l kn (trN (countL l kn) picks (countL l kn).length) = 0 := by unfold ctI; rw [if_pos z, if_pos htq]
 obtain ⟨hw1, hw0⟩ := was_right hokc.2.1 htp hdd.1 ps
 have hdp := fun (obj : Name → Option O) (t : Name) (f : List Deed → List Int → V) => sDP_app (P := evP) (f := f) (obj := obj) (t := t) (ds := picks) hev hpl
 repeat refine sq ?_
 refine cl_skip ?_
 repeat refine sq ?_
 refine rx hΓ [0,1,5,11] [[5, 0]] (fun K' hK => by simp only [go_sem, hcn]; exact fin) ?_
 repeat refine sq ?_
 refine rx hΓ [0,5,11,12] [[5, 0]] (fun K' hK => by simp only [go_sem, hdp]; exact fin) ?_
 generalize trN (countL l kn) picks (countL l kn).length = ds at *
 have hcd := fun (obj : Name → Option O) (t : Name) (f : List Deed → List Int → Aska → V) (fl : Bool) (a b d e : Int) => sCDA_app (f := f) (fl := fl) (obj := obj) (t := t) (a := a) (b := b) (d := d) (e := e) hdl hokc.2.2
 repeat refine sq ?_
 refine rx hΓ [0,5,11,12,13,14] [[5, 0]] (fun K' hK => by simp only [go_sem, sLPI_app, eE0, eA]; exact fin) ?_
 repeat refine sq ?_
 refine rx hΓ [0,5,11,12,13,14,15,16] [[5, 0]] (fun K' hK => by simp only [go_sem, sTrue_app, etE, etA]; exact fin) ?_
 repeat refine sq ?_
 refine cl_rw hΓ (mkS 274 [0] (fun _ => none) [(0, ⟨true, .v (.sl (l.map encD))⟩), (5, ⟨true, .ref [5, 0] 0⟩), (11, ⟨true, .v (.sl ((countL l kn).map encD))⟩), (12, ⟨true, .v (.sl (ds.map vInt))⟩), (140, ⟨true, .v (.bool false)⟩)] [([5, 0], .box [.v (.sl (ps.map vInt)), .v (.sl (ds0.map vInt)), .v (vInt da), .v (vInt kn)])]) ?_ fun K' hK => ?_
 rotate_left
 ·by_cases a1 : ansW (countL l kn) da ps = 1
  ·have b1 : (ansW (countL l kn) da ps == 1) = true := by simpa using a1
   have b0 : (ansW (countL l kn) da ps == 0) = false := by rw [a1]; rfl
   rw [hw1 a1]
   simp only [go_sem, sLKD_app, ect, b1, b0, bne_self_eq_false]
   repeat refine ⟨ob, ?_⟩
   refine hK _ (weakM_keep [0, 5, 11, 12, 140] [[5, 0]] ?_ ?_)
   ·simp only [go_sem]
   ·simp only [go_sem, bne_self_eq_false, b0]
  ·have b1 : (ansW (countL l kn) da ps == 1) = false := by simpa using a1
   by_cases a0 : ansW (countL l kn) da ps = 0
   ·have b0 : (ansW (countL l kn) da ps == 0) = true := by simpa using a0
    rw [hw0 a0]
    simp only [go_sem, sLKD_app, ect, b1, b0, bne_self_eq_false]
    repeat refine ⟨ob, ?_⟩
    refine hK _ (weakM_keep [0, 5, 11, 12, 140] [[5, 0]] ?_ ?_)
    ·simp only [go_sem]
    ·simp only [go_sem, bne_self_eq_false]
   ·have b0 : (ansW (countL l kn) da ps == 0) = false := by simpa using a0
    simp only [go_sem, sLKD_app, ect, b1, b0, bne_self_eq_false]
    repeat refine ⟨ob, ?_⟩
    refine hK _ (weakM_keep [0, 5, 11, 12, 140] [[5, 0]] ?_ ?_)
    ·simp only [go_sem]
    ·simp only [go_sem, bne_self_eq_false, b0]
 repeat refine sq ?_
 refine cl_cond rfl rfl (fun hb => ?_) fun hb => ?_
 ·cases hb
 repeat refine sq ?_
 refine cl_skip ?_
 clear hb hw1 hw0
 obtain ⟨P, hP⟩ : ∃ P : List Int, P = [11, 12, 13, 14] := ⟨_, rfl⟩
 have hP4 : P.length = 4 := by rw [hP]; rfl
 have hP4' : P.length ≤ maxLen := by rw [hP4]; unfold maxLen; omega
 have hPi : [V.int IntKind.i64 11, V.int IntKind.i64 12, V.int IntKind.i64 13, V.int IntKind.i64 14] = P.map vInt := by rw [hP]; rfl
 have hPj : ((4 : Nat) : Int) = (P.length : Int) := by rw [hP4]
 have hPp : ∀ x ∈ P, isPersB x = true := by rw [hP]; decide
 repeat refine sq ?_
 refine rs hΓ [0,5,11,12,17] [[5, 0]] ?_
 repeat refine sq ?_
 refine cl_block ?_
 repeat refine sq ?_
 refine cl_loop' (fun s : Nat => [(17, ⟨true, .v (vInt s)⟩)]) (fun s => []) (fun s => 1 ≤ s ∧ s ≤ 4) (fun s => 4 - s) 1 ?_ ?_ ?_ ?_
 ·exact ⟨Nat.le_refl _, by decide⟩
 ·rfl
 ·rfl
 rintro i ⟨hi1, hi⟩
 simp only [go_sem]
 repeat refine sq ?_
 refine rs hΓ [0,5,11,12,17,142] [[5, 0]] ?_
 repeat refine sq ?_
 refine cl_cond rfl rfl (fun hb => ?_) fun hb => ?_
 ·have hle : i ≤ 3 := by
   have : (i : Int) ≤ 3 := by simpa using hb
   omega
  have hws : IntKind.i64.wrap ((i : Int) + 1) = ((i + 1 : Nat) : Int) := wrap_succ (n := 4) (by omega) (by unfold maxLen; omega)
  clear hb
  repeat refine sq ?_
  refine cl_skip ?_
  repeat refine sq ?_
  refine cl_block ?_
  repeat refine sq ?_
  have hlk : isLockB (i : Int) = true := by unfold isLockB; exact inI_iff.2 ⟨by omega, by omega⟩
  have w1 := fun f => who_of (f := f) h1 hlk hda hkn
  have k1 := lock_of h1 hlk hda hkn
  rw [g0] at w1 k1
  simp only [if_true] at w1
  have hmy := then_lock hokc.2.1 htp (show (1 : Int) ≤ i by omega) hdd.1
  have hky := key_then hokc.2.1 ds (show (1 : Int) ≤ i by omega) da
  obtain ⟨s, hs⟩ : ∃ s, s = thenS (countL l kn) ds i 0 da := ⟨_, rfl⟩
  rw [← hs] at hmy hky
  have hA : ((whoL (fun x => x.h) (thrL (countL l kn) i 0) da).any fun x => x == s.h) = true := by
   obtain ⟨n, q1, q2, q3⟩ := hmy
   exact List.any_eq_true.2 ⟨s.h, mem_who.2 ⟨n, q1, q2, by rw [q3]⟩, by simp⟩
  have hB : ((whoL (fun x => x.n) (thrL (countL l kn) i 0) da).any fun x => x == s.n) = true := by
   obtain ⟨n, q1, q2, q3⟩ := hmy
   exact List.any_eq_true.2 ⟨s.n, mem_who.2 ⟨n, q1, q2, by rw [q3]⟩, by simp⟩
  repeat refine sq ?_
  refine rx hΓ [0,5,11,12,17,18] [[5, 0],[18, 0]] (fun K' hK => by simp only [go_sem, hcd, hky, encK, tz48, tp48, tz85, tp85, Nat.reduceLeDiff, Nat.le_refl]; exact fin) ?_
  repeat refine sq ?_
  refine rx hΓ [0,5,11,12,17,18,19,20] [[5, 0],[18, 0]] (fun K' hK => by simp only [go_sem, sLI3_app, w1, k1]; exact fin) ?_
  repeat refine sq ?_
  refine rx hΓ [0,5,11,12,17,18,19,20,21,22] [[5, 0],[18, 0]] (fun K' hK => by simp only [go_sem, sLI3_app, w1, k1]; exact fin) ?_
  repeat refine sq ?_
  refine rx hΓ [0,5,11,12,17,18,191] [[5, 0],[18, 0]] (fun K' hK => by simp only [go_sem, sLV_app, hA, hB, bne_self_eq_false, Bool.not_true]; exact fin) ?_
  repeat refine sq ?_
  refine cl_cond rfl rfl (fun hb => ?_) fun hb => ?_
  ·cases hb
  repeat refine sq ?_
  refine cl_skip ?_
  clear hb
  repeat refine sq ?_
  refine rs hΓ [0,5,11,12,17,18,192,193,194] [[5, 0],[18, 0]] ?_
  rw [hPi, hPj]
  repeat refine sq ?_
  refine cl_block ?_
  repeat refine sq ?_
  refine cl_loop' (fun s : Nat => [(194, ⟨true, .v (vInt s)⟩)]) (fun s => []) (fun s => s ≤ P.length) (fun s => P.length - s) 0 ?_ ?_ ?_ ?_
  ·exact Nat.zero_le _
  ·rfl
  ·rfl
  rintro j hj
  simp only [go_sem]
  repeat refine sq ?_
  refine rs hΓ [0,5,11,12,17,18,192,193,194,195] [[5, 0],[18, 0]] ?_
  repeat refine sq ?_
  refine cl_cond rfl rfl (fun hb => ?_) fun hb => ?_
  ·have hlt : j < P.length := by simpa using hb
   have hlt' : (j : Int) < P.length := by omega
   clear hb
   repeat refine sq ?_
   refine cl_skip ?_
   repeat refine sq ?_
   refine cl_block ?_
   repeat refine sq ?_
   have hpe := hPp _ (List.getElem_mem hlt)
   repeat refine sq ?_
   refine rx hΓ [0,5,11,12,17,18,24,192,193,194] [[5, 0],[18, 0]] (fun K' hK => by simp only [go_sem, map_getD hlt, Int.toNat_natCast, Int.natCast_nonneg, hlt']; exact fin) ?_
   generalize P[j] = pe at hpe ⊢
   have a1 := ans_of (p := fun s => s.h == pe) h1 hlk hpe hda hkn g0
   have a2 := ans_of (p := fun s => s.n == pe) h1 hlk hpe hda hkn g0
   have k2 := lock_of1 h1 hlk hpe hda hkn
   rw [g0] at k2
   have q1 : wrongB (ansP (fun s => s.h == pe) (thrL (countL l kn) i 0) da) (s.h == pe) = false := wrong_law (p := fun s => s.h == pe) hmy
   have q2 : wrongB (ansP (fun s => s.n == pe) (thrL (countL l kn) i 0) da) (s.n == pe) = false := wrong_law (p := fun s => s.n == pe) hmy
   repeat refine sq ?_
   refine rx hΓ [0,5,11,12,17,18,24,25,26,192,193,194] [[5, 0],[18, 0]] (fun K' hK => by simp only [go_sem, sLI4_app, a1, k2]; exact fin) ?_
   repeat refine sq ?_
   refine rx hΓ [0,5,11,12,17,18,24,25,26,27,28,192,193,194] [[5, 0],[18, 0]] (fun K' hK => by simp only [go_sem, sLI4_app, a2, k2]; exact fin) ?_
   repeat refine sq ?_
   refine rx hΓ [0,5,11,12,17,18,192,193,194,241] [[5, 0],[18, 0]] (fun K' hK => by simp only [go_sem, sIBv_app, q1, q2, bne_self_eq_false]; exact fin) ?_
   repeat refine sq ?_
   refine cl_cond rfl rfl (fun hb => ?_) fun hb => ?_
   ·cases hb
   repeat refine sq ?_
   refine cl_skip ?_
   refine cl_nil ?_
   simp only [go_sem]
   refine cl_keep [0,5,11,12,17,18,192,193,194] [[5, 0],[18, 0]] ?_ ?_ <;> simp only [go_sem]
   repeat refine sq ?_
   refine cl_r hΓ fun K' hK => ?_
   simp only [go_sem]
   repeat refine ⟨ob, ?_⟩
   refine hK _ ?_
   clear K' hK
   simp only [go_sem]
   refine ⟨j + 1, hlt, (show P.length - (j + 1) < P.length - j by omega), ?_⟩
   refine weak_eq [0,5,11,12,17,18,192,193,194] [[5, 0],[18, 0]] ?_ ?_ <;> simp only [go_sem, wrap_succ hlt hP4', Int.natCast_add, Int.natCast_one]
  ·have hge : j = P.length := by
    have : ¬ (j : Int) < P.length := by simpa using hb
    omega
   subst hge
   clear hb
   repeat refine sq ?_
   refine cl_exit ?_
   simp only [go_sem]
   refine cl_keep [0,5,11,12,17] [[5, 0]] ?_ ?_ <;> simp only [go_sem]
   repeat refine sq ?_
   refine cl_r hΓ fun K' hK => ?_
   simp only [go_sem]
   repeat refine ⟨ob, ?_⟩
   refine hK _ ?_
   clear K' hK
   simp only [go_sem]
   refine ⟨i + 1, by omega, by omega, ?_⟩
   refine weak_eq [0,5,11,12,17] [[5, 0]] ?_ ?_ <;> simp only [go_sem, hws, Int.natCast_add, Int.natCast_one]
 have hge : i = 4 := by
  have : ¬ (i : Int) ≤ 3 := by simpa using hb
  omega
 subst hge
 clear hb
 repeat refine sq ?_
 refine cl_exit ?_
 simp only [go_sem]
 refine cl_keep [0,5,11,12] [[5, 0]] ?_ ?_ <;> simp only [go_sem]
 repeat refine sq ?_
 refine rs hΓ [0,5,11,12,243,244,245] [[5, 0]] ?_
 rw [hPi, hPj]
 repeat refine sq ?_
 refine cl_block ?_
 repeat refine sq ?_
 refine cl_loop' (fun s : Nat => [(245, ⟨true, .v (vInt s)⟩)]) (fun s => []) (fun s => s ≤ P.length) (fun s => P.length - s) 0 ?_ ?_ ?_ ?_
 ·exact Nat.zero_le _
 ·rfl
 ·rfl
 rintro j hj
 simp only [go_sem]
 repeat refine sq ?_
 refine rs hΓ [0,5,11,12,243,244,245,246] [[5, 0]] ?_
 repeat refine sq ?_
 refine cl_cond rfl rfl (fun hb => ?_) fun hb => ?_
 ·have hlt : j < P.length := by simpa using hb
  have hlt' : (j : Int) < P.length := by omega
  clear hb
  repeat refine sq ?_
  refine cl_skip ?_
  repeat refine sq ?_
  refine cl_block ?_
  repeat refine sq ?_
  have hpe := hPp _ (List.getElem_mem hlt)
  repeat refine sq ?_
  refine rx hΓ [0,5,11,12,30,243,244,245] [[5, 0]] (fun K' hK => by simp only [go_sem, map_getD hlt, Int.toNat_natCast, Int.natCast_nonneg, hlt']; exact fin) ?_
  generalize P[j] = pe at hpe ⊢
  obtain ⟨a1, a2⟩ := in_of h1 hpe hda hkn g0
  have hof := off_may hok hcf (pe := pe) hdd.1
  have hmy := then_pers hokc.2.1 htp (pe := pe) hdd.1
  have hio := in_then hokc.2.1 ds pe da
  have q1 : wrongB (offI (countL l kn) pe da) (inO (countL l kn) ds pe da) = false := by
   rw [← hof, hio]
   exact wrong_law (p := fun s => s.o) hmy
  repeat refine sq ?_
  refine rx hΓ [0,5,11,12,30,31,32,243,244,245] [[5, 0]] (fun K' hK => by simp only [go_sem, sLI3_app, a1, a2]; exact fin) ?_
  repeat refine sq ?_
  refine rx hΓ [0,5,11,12,243,244,245,271] [[5, 0]] (fun K' hK => by simp only [go_sem, hcd, tz48, tp48, Nat.reduceLeDiff, Nat.le_refl, sIBv_app, q1, bne_self_eq_false]; exact fin) ?_
  repeat refine sq ?_
  refine cl_cond rfl rfl (fun hb => ?_) fun hb => ?_
  ·cases hb
  repeat refine sq ?_
  refine cl_skip ?_
  refine cl_nil ?_
  simp only [go_sem]
  refine cl_keep [0,5,11,12,243,244,245] [[5, 0]] ?_ ?_ <;> simp only [go_sem]
  repeat refine sq ?_
  refine cl_r hΓ fun K' hK => ?_
  simp only [go_sem]
  repeat refine ⟨ob, ?_⟩
  refine hK _ ?_
  clear K' hK
  simp only [go_sem]
  refine ⟨j + 1, hlt, (show P.length - (j + 1) < P.length - j by omega), ?_⟩
  refine weak_eq [0,5,11,12,243,244,245] [[5, 0]] ?_ ?_ <;> simp only [go_sem, wrap_succ hlt hP4', Int.natCast_add, Int.natCast_one]
 ·have hge : j = P.length := by
   have : ¬ (j : Int) < P.length := by simpa using hb
   omega
  subst hge
  clear hb
  repeat refine sq ?_
  refine cl_exit ?_
  simp only [go_sem]
  refine cl_keep [] [] ?_ ?_ <;> simp only [go_sem]
  repeat refine sq ?_
  refine rs hΓ [6] [] ?_
  exact rt
def pTr11 : PSpec := ⟨fun xs => ∃ (l : List Deed) (picks : List Int) (da kn : Int) (ps ds : List Int), xs = [.sl (l.map encD), .sl (picks.map vInt), encO ps ds da kn] ∧ picks.length ≤ 1152921504606846976, fun _ => .bool true, true⟩
theorem s11 : PSound Tryz.prog 11 pTr11 := by
 refine psoundB (rs := [.tmp 6]) Tryz.func11 Tryz.ntmps11 (by rfl) (by kernel_rfl) (by decide) (fun _ xs _ => rfl) ?_
 obtain ⟨c, hc, _⟩ := w11 [] [] (by simp) 0 0 [] []
 refine ⟨c, hc, ?_⟩
 rintro xs ⟨l, picks, da, kn, ps, ds, rfl, hpl⟩ hw
 refine ⟨lb rfl, ?_⟩
 obtain ⟨c', hc', h⟩ := w11 l picks hpl da kn ps ds
 rw [hc] at hc'
 cases hc'
 exact h
open Go Go.RowKit Go.ChangeShapes Go.WideShapes Go.ChangeAt
theorem mapM_len {α β : Type} {f : α → Option β} : ∀ {l : List α} {r : List β}, l.mapM f = some r → r.length = l.length
 | [], r, h => by simp at h; subst h; rfl
 | a :: l, r, h => by
  rw [List.mapM_cons] at h
  simp only [Option.bind_eq_bind, Option.bind_eq_some_iff, Option.pure_def, Option.some.injEq] at h
  obtain ⟨b, _, s, hs, rfl⟩ := h
  simp [mapM_len hs]
theorem trod_slice_len {H : Type} {enc : TypeId × Value → H} {P : Program} {w : World} {b0 : Nat} {spare : Nat → Bool} {held : Bool} {t e : TypeId} {a : Option Addr} {n cap : Nat} {d : DataW H} {ps : List MemPlace}
  (hu : P.underlying t = some (.slice e)) (h : DataW.Trod enc P w b0 spare held t (.slice a n cap) d ps) : n = 0 ∨ ∃ el sp, d = .slice el sp ∧ el.length = n := by
 obtain ⟨fuel, hf⟩ := h
 have hcs : (Value.slice a n cap).cells.toList = [.slice a n cap] := rfl
 rw [hcs] at hf
 cases fuel with
 | zero => simp [DataW.trod] at hf
 | succ fuel =>
  unfold DataW.trod at hf
  rw [hu] at hf
  cases a with
  | none =>
   cases n with
   | zero => exact .inl rfl
   | succ n => simp at hf
  | some a =>
   refine .inr ?_
   simp only at hf
   split at hf
   ·rw [Option.bind_eq_some_iff] at hf
    obtain ⟨el, h1, h2⟩ := hf
    have hl := mapM_len h1
    rw [List.length_range] at hl
    rw [Option.map_eq_some_iff] at h2
    obtain ⟨rest, _, h3⟩ := h2
    simp only [Prod.mk.injEq] at h3
    obtain ⟨rfl, _⟩ := h3
    exact ⟨_, _, rfl, by simp [hl]⟩
   ·cases hf
theorem trodAll_at {H : Type} {enc : TypeId × Value → H} {P : Program} {w : World} {b0 : Nat} {spare : Nat → Bool} {held : Bool} : ∀ {ts : List TypeId} {vs : List Value} {ds : List (DataW H)} {ps : List MemPlace}, DataW.TrodAll enc P w b0 spare held ts vs ds ps →
  ∀ (j : Nat) t v, ts[j]? = some t → vs[j]? = some v → ∃ d p, ds[j]? = some d ∧ DataW.Trod enc P w b0 spare held t v d p
 | [], vs, ds, ps, _, j, t, v, h, _ => by simp at h
 | t :: ts, [], ds, ps, h, _, _, _, _, _ => by cases ds <;> simp [DataW.TrodAll] at h
 | t :: ts, v :: vs, [], ps, h, _, _, _, _, _ => by simp [DataW.TrodAll] at h
 | t :: ts, v :: vs, d :: ds, ps, h, j, t', v', h1, h2 => by
  obtain ⟨p, q, k1, k2, _⟩ := h
  cases j with
  | zero =>
   simp only [List.getElem?_cons_zero, Option.some.injEq] at h1 h2
   subst h1 h2
   exact ⟨d, p, rfl, k1⟩
  | succ j => exact trodAll_at k2 j t' v' (by simpa using h1) (by simpa using h2)
def sizedX (P : Program) (ts : List TypeId) (xs : List V) : Prop := ∀ (j : Nat) t e L, ts[j]? = some t → P.underlying t = some (.slice e) → xs[j]? = some (V.sl L) → L.length * P.bytesOf e ≤ reachBytes
theorem law_lifted_sized {H : Type} {enc : TypeId × Value → H} {C : Checked} {os : Os} {f : FuncId} {fn : Func} {s : ChangeSpec} {conds : List PathCond} {n : Nat} {tb : TypeId}
  (own : ownKnob C.prog.godebug = none) (started : os.Started) (noInit : C.prog.inits.idxOf? f = none) (hfn : C.prog.funcs[f]? = some fn)
  (witness : ∃ (w : World) (tape : Tape) (i : Input), w.os = os ∧ (w.forCall tape i).Shaped C.prog ∧ i.vars = [] ∧ Input.okWide C.prog (w.forCall tape i) .any w.heap.size f i ∧
   s.pre6 enc C.prog fn conds false (w.forCall tape i).memory i.args ∧ ({} : Assume).holds C.prog (lone (Frame.enter C.prog f i.args .normal) [] (w.forCall tape i)))
  (hl : laidOutB C.prog = true) (hps : ∀ t ∈ fn.params.toList, plainT C.prog n t = true ∧ C.prog.readableRec t = true ∧ t < C.prog.types.size) (hres : fn.resultTypes = #[tb]) (htb : C.prog.underlying tb = some .bool)
  (hvars : s.vars = []) (hs : ∀ ds : List (DataW H), ds.length = fn.params.toList.length → (s.fn H ds).results = [.lit (.bool true)] ∧ (s.fn H ds).args = ds ∧ (s.fn H ds).vars = [])
  (hcalls : ∀ (W : World) (args : Array Value) (xs : List V), ArgsS C.prog n fn.params.toList xs → sizedX C.prog fn.params.toList xs → RepVs (memOf W) xs args.toList → Calls C.prog f args W fun e W' => e = .returned (.bool true) ∧ Below W.heap.size W W') :
  ReturnsInHanded {} C os f .any (s.pre6 enc C.prog fn conds false) (s.post enc C.prog fn false true false false) := by
 refine returnsInHanded_of_change_sized own started noInit hfn witness ?_
 intro W base args ds gs before hval hW _ hsz _
 have hW' := hW
 obtain ⟨p, q, hA, hV, rfl, _, _⟩ := hW
 rw [hvars] at hV
 obtain ⟨rfl, rfl⟩ := trodVars_none hV
 simp only [List.append_nil] at hW' hsz
 have hlt : ∀ y ∈ p, y.block < W.heap.size := fun y hy => by simpa using hW'.lt y hy
 obtain ⟨xs, h1, h2⟩ := args_rep (vs := args.toList) (ts := fn.params.toList) (fun t ht => (hps t ht).1) (fun j t v h h' => hval j t v (by simpa using h) (by simpa using h')) hA
 obtain ⟨e1, e2, e3⟩ := hs ds (trodAll_len hA)
 have hx : sizedX C.prog fn.params.toList xs := by
  intro j t e L ht hu hL
  obtain ⟨hjx, hLx⟩ := List.getElem?_eq_some_iff.1 hL
  have hja : j < args.toList.length := by rw [← h2.1]; exact hjx
  have hrv := h2.2 j hjx hja
  rw [hLx] at hrv
  obtain ⟨d, pp, hd, htr⟩ := trodAll_at hA j t _ ht (List.getElem?_eq_getElem hja)
  have key : ∀ v, RepV (memOf W) (.sl L) v → ∃ a cap, v = .slice a L.length cap := by
   intro v hv
   cases hv with
   | slnil a cap => exact ⟨a, cap, rfl⟩
   | sl l b o cap sz c hn hl hcap hs hc hr ho => exact ⟨_, cap, rfl⟩
  obtain ⟨a, cap, hv⟩ := key _ hrv
  rw [hv] at htr
  rcases trod_slice_len hu htr with h0 | ⟨el, sp, rfl, hel⟩
  ·rw [h0]; simp
  ·have ht' : (fn.params.toList ++ s.plain.varTypes C.prog)[j]? = some t := by
    rw [List.getElem?_append_left (List.getElem?_eq_some_iff.1 ht).1]; exact ht
   have := sized_slice hsz ht' hd hu
   rw [← hel]
   exact Nat.le_trans (Nat.mul_le_mul_right _ (Nat.le_add_right _ _)) this
 refine (hcalls W args xs h1 hx h2).mono fun e W' ⟨he, hn⟩ => ?_
 subst he
 refine ⟨_, rfl, ds, [], p, [], p, [], hW', ?_, ?_, ?_, hn.frame _, fun h => by cases h⟩
 ·rw [List.append_nil, e1, hres]
  exact trodAll_mk1 (shut_bool htb _)
 ·rw [List.append_nil, e2]
  exact args_trod hl hn (fun t ht => (hps t ht).2) hA hlt
 ·rw [List.append_nil, e3, hvars]
  rfl
end Go.Eng
set_option linter.constructorNameAsVariable false
namespace Go.Eng
open Go Go.Proofs Go.Proofs.YtofamdkaipongaaGreat Go.RowKit Go.ChangeShapes
theorem keysTrue_lifted (hc : ∀ (W : World) (args : Array Value) (xs : List V), ArgsS Tryz.prog 6 Tryz.f11.params.toList xs → sizedX Tryz.prog Tryz.f11.params.toList xs → RepVs (memOf W) xs args.toList → Calls Tryz.prog 11 args W fun e W' => e = .returned (.bool true) ∧ Below W.heap.size W W')
  (os : Os) (started : os.Started) (H : Type) (enc : TypeId × Value → H) :
  ReturnsInHanded {} Tryz.checked os 11 .any (Rows.keysTrueSpec.pre6 enc Tryz.prog Tryz.f11 Rows.keysTrueRow.domain false) (Rows.keysTrueSpec.post enc Tryz.prog Tryz.f11 false true false false) := by
 refine law_lifted_sized (C := Tryz.checked) (n := 6) (tb := 4) kOwn started (by kernel_rfl) Tryz.func11
  (ChangeSpec.witness6 (enc := enc) (C := Tryz.checked) false ⟨#[], #[.slice none 0 0, .slice none 0 0, .agg #[.slice none 0 0, .slice none 0 0, .int .i64 0, .int .i64 0]], []⟩ 8 (by kernel_rfl) (by kernel_rfl) (by kernel_rfl) (by kernel_rfl))
  kLaid ?_ (by kernel_rfl) (by kernel_rfl) rfl ?_ hc
 ·have h : (Tryz.f11.params.toList.all fun t => plainT Tryz.prog 6 t && Tryz.prog.readableRec t && decide (t < Tryz.prog.types.size)) = true := by kernel_rfl
  intro t ht
  have := List.all_eq_true.1 h t ht
  simp only [Bool.and_eq_true, decide_eq_true_eq] at this
  exact ⟨this.1.1, this.1.2, this.2⟩
 ·intro ds hds
  have hl : Tryz.f11.params.toList.length = 3 := by kernel_rfl
  rw [hl] at hds
  match ds, hds with
  | [d1, d2, d3], _ => exact ⟨rfl, rfl, rfl⟩
theorem keysTrue_said (hc : ∀ (W : World) (args : Array Value) (xs : List V), ArgsS Tryz.prog 6 Tryz.f11.params.toList xs → sizedX Tryz.prog Tryz.f11.params.toList xs → RepVs (memOf W) xs args.toList → Calls Tryz.prog 11 args W fun e W' => e = .returned (.bool true) ∧ Below W.heap.size W W') :
  Rows.KeysTrueSaid :=
 OpenClaim.holds_of_wide 11 Tryz.f11 rfl rfl rfl rfl rfl rfl rfl ⟨rfl, rfl, rfl, rfl, rfl⟩ rfl rfl rfl rfl rfl (by kernel_rfl) Tryz.func11 (by kernel_rfl)
  (of_decide_eq_true (by kernel_rfl)) (by unfold Func.isWrapper; first | (rw [if_pos (by decide +kernel)]; kernel_rfl) | (rw [if_neg (by decide +kernel)]; exact ⟨rfl, rfl⟩))
  (fun os started H enc _ => keysTrue_lifted hc os started H enc)
end Go.Eng
set_option maxRecDepth 100000
namespace Go.Eng
open Go Go.Proofs Go.Proofs.YtofamdkaipongaaGreat
theorem aggU53 : aggT Tryz.prog 53 = true := by kernel_rfl
theorem shpU39 {n : Nat} {xs : List V} (h : Shp Tryz.prog (n + 2) 39 xs) : ∃ l : List Int, xs = [.sl (l.map vInt)] := by
 unfold Shp at h
 simp only [Tryz.underlying39] at h
 obtain ⟨ls, rfl, _, h3⟩ := h
 rw [aggT3]
 obtain ⟨m, hm⟩ := map_ex (f := vInt) (P := fun y => ∃ d, y = vInt d) (fun y h => h) (l := ls.map (packV false)) fun y hy => by
  obtain ⟨z, hz, rfl⟩ := List.mem_map.1 hy
  obtain ⟨k, rfl, hk⟩ := shp3 (h3 z hz)
  exact ⟨k, rfl⟩
 exact ⟨m, by rw [hm]⟩
theorem shpU53 {n : Nat} {xs : List V} (h : Shp Tryz.prog (n + 3) 53 xs) : ∃ ps ds da kn, V.agg xs = encO ps ds da kn := by
 unfold Shp at h
 simp only [Tryz.underlying53] at h
 obtain ⟨x1, y, rfl, h1, x2, y2, rfl, h2, x3, y3, rfl, h3, x4, y4, rfl, h4, rfl⟩ := h
 obtain ⟨a, rfl⟩ := shpU39 h1
 obtain ⟨b, rfl⟩ := shpU39 h2
 obtain ⟨c, rfl, _⟩ := shp3 h3
 obtain ⟨d, rfl, _⟩ := shp3 h4
 exact ⟨a, b, c, d, rfl⟩
theorem argU53 {x : V} (h : ArgS Tryz.prog 6 53 x) : ∃ ps ds da kn, x = encO ps ds da kn := by
 obtain ⟨xs, h1, rfl⟩ := h
 rw [aggU53]
 exact shpU53 h1
theorem true_holds : Rows.KeysTrueSaid :=
 keysTrue_said fun W args xs ha hs hr => by
  obtain ⟨x, ys, rfl, h1, y, zs, rfl, h2, z, us, rfl, h3, rfl⟩ := (show ArgsS Tryz.prog 6 [22, 39, 53] xs from ha)
  obtain ⟨l, rfl⟩ := arg22 h1
  obtain ⟨ps, rfl, _⟩ := arg39 h2
  obtain ⟨os, ds, da, kn, rfl⟩ := argU53 h3
  have hz := hs 1 39 3 (ps.map vInt) rfl Tryz.underlying39 rfl
  have hb : Tryz.prog.bytesOf 3 = 8 := by kernel_rfl
  rw [hb, List.length_map] at hz
  have : reachBytes < 2 ^ 47 := by decide
  exact calls_true s11 hr ⟨l, ps, da, kn, os, ds, rfl, by omega⟩ rfl
end Go.Eng
namespace Go.Proofs.YtofamdkaipongaaGreat
theorem keysTrue_holds : Rows.KeysTrueSaid := Go.Eng.true_holds
end Go.Proofs.YtofamdkaipongaaGreat
#print axioms Go.Proofs.YtofamdkaipongaaGreat.keysTrue_holds
