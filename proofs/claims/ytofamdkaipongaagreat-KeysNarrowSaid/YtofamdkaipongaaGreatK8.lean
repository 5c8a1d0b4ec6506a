import Derived.Test.YtofamdkaipongaaGreatK7
/- A part of the proof engine and of the walks (texts KW11 to KJ2). -/
set_option linter.all false
set_option linter.unnecessarySimpa false
set_option linter.unusedSimpArgs false
set_option linter.unusedVariables false
set_option linter.constructorNameAsVariable false
namespace Go.Eng
open Go Go.Proofs
structure Plain {α : Type} (rd : α → D) : Prop where
 names : ∀ x c k nm, namesL [.msl nm k, rd x, .v c] = [nm]
 ren : ∀ f x, (rd x).ren f = rd x
 clos : ∀ dom x, D.clos dom (rd x) = true
def putC {α : Type} (sz : Nat) (g : FuncId) (enc : α → V) (dec : V → α) (rd : α → D) (un : D → α) (f : List α → α → List α) (pre : List α → α → Prop) : CSpec where
 pre := fun os ds => ∃ l x, os = [.arr sz (l.map enc)] ∧ ds = [.msl [0, 1] l.length, rd x, .v (.clo (.func g) [] [])] ∧ pre l x
 out := fun os ds => match os, ds with
  | [.arr _ l], [_, x, _] => ⟨[(0, .arr sz ((f (l.map dec) (un x)).map enc))], [], .msl [0, 1] (f (l.map dec) (un x)).length⟩
  | _, _ => default
theorem putC_out {α : Type} {sz : Nat} {g : FuncId} {enc : α → V} {dec : V → α} {rd : α → D} {un : D → α} {f : List α → α → List α} {pre : List α → α → Prop} (hd : ∀ l : List α, (l.map enc).map dec = l) (hu : ∀ x, un (rd x) = x) (l : List α) (x : α) :
  (putC sz g enc dec rd un f pre).out [.arr sz (l.map enc)] [.msl [0, 1] l.length, rd x, .v (.clo (.func g) [] [])] = ⟨[(0, .arr sz ((f l x).map enc))], [], .msl [0, 1] (f l x).length⟩ := by
 simp only [putC, hd, hu]
theorem putC_app {α : Type} {sz : Nat} {g : FuncId} {enc : α → V} {dec : V → α} {rd : α → D} {un : D → α} {f : List α → α → List α} {pre : List α → α → Prop} (hd : ∀ l : List α, (l.map enc).map dec = l) (hu : ∀ x, un (rd x) = x) (hp : Plain rd)
  {obj : Name → Option O} {t nm : Name} {l : List α} {x : α} (ho : obj nm = some (.arr sz (l.map enc))) (h : pre l x) :
  (putC sz g enc dec rd un f pre).toSpec.app obj t [.msl nm l.length, rd x, .v (.clo (.func g) [] [])] = ⟨True, .msl nm (f l x).length, upd obj nm (some (.arr sz ((f l x).map enc)))⟩ := by
 have hr : reach obj [.msl nm l.length, rd x, .v (.clo (.func g) [] [])] = [nm] := by
  unfold reach
  rw [hp.names]
  show reachL obj (2998 + 1 + 1) [nm] [] = [nm]
  simp only [reachL, inL, List.any_nil, Bool.false_eq_true, if_false, ho]
  rfl
 have h1 : cOs obj [.msl nm l.length, rd x, .v (.clo (.func g) [] [])] = [.arr sz (l.map enc)] := by
  unfold cOs
  rw [hr]
  simp only [List.map_cons, List.map_nil, canonO, ho, O.ren]
 have h2 : cDs obj [.msl nm l.length, rd x, .v (.clo (.func g) [] [])] = [.msl [0, 1] l.length, rd x, .v (.clo (.func g) [] [])] := by
  unfold cDs
  rw [hr]
  simp [D.renL, D.ren, hp.ren, cin, idx]
 simp only [CSpec.toSpec, h1, h2, hr, putC_out hd hu]
 have e1 : (shut obj [nm] && D.closL (inL [nm]) [.msl nm l.length, rd x, .v (.clo (.func g) [] [])] && fresh obj t []) = true := by
  simp [shut, ho, O.clos, D.closL, D.clos, hp.clos, inL, fresh]
 have e2 : (putC sz g enc dec rd un f pre).pre [.arr sz (l.map enc)] [.msl [0, 1] l.length, rd x, .v (.clo (.func g) [] [])] := ⟨l, x, rfl, rfl, h⟩
 rw [e1]
 simp only [e2, putU, putN, List.getD_cons_zero, O.ren, D.ren, cout, and_self]
def putI (l : List Int) (x : Int) : List Int := if hasI l x then l else l.take (lowI l x) ++ [x] ++ l.drop (lowI l x)
def rdI (n : Int) : D := .v (vInt n)
def unI (d : D) : Int := match d with | .v (.int _ n) => n | _ => 0
theorem plainI : Plain rdI := ⟨fun _ _ _ _ => rfl, fun _ _ => rfl, fun _ _ => rfl⟩
noncomputable def sPutI : Spec := (putC 1 95 vInt decI rdI unI putI fun l _ => l.Pairwise (· < ·) ∧ l.length < 1000000).toSpec
theorem sPutI_app {obj : Name → Option O} {t nm : Name} {k : Nat} {l : List Int} {x : Int} (ho : obj nm = some (.arr 1 (l.map vInt))) (hk : k = l.length) (hs : l.Pairwise (· < ·)) (hl : l.length < 1000000) :
  sPutI.app obj t [.msl nm k, .v (vInt x), .v (.clo (.func 95) [] [])] = ⟨True, .msl nm (putI l x).length, upd obj nm (some (.arr 1 ((putI l x).map vInt)))⟩ := by
 subst hk
 exact putC_app (x := x) decI_map (fun _ => rfl) plainI ho ⟨hs, hl⟩
def sBsI : Spec := pBsI.toSpec
def sBsD : Spec := pBsD.toSpec
noncomputable def K7 : FuncId → Option Spec := fun f => match f with
 | 148 => some sBsI
 | 149 => some (insSpec Tryz.prog 39)
 | 76 => some (cloneSpec Tryz.prog 22)
 | f => K6 f
theorem K7_sound : ∀ f s, K7 f = some s → SSound Tryz.prog f s := by
 intro f s h
 unfold K7 at h
 split at h
 ·cases h; exact s148.sound
 ·cases h; exact ins_sound ins149
 ·cases h; exact clone_sound clone76
 ·exact K6_sound _ _ h
@[go_sem] theorem K7_148 : K7 148 = some sBsI := rfl
@[go_sem] theorem K7_149 : K7 149 = some (insSpec Tryz.prog 39) := rfl
@[go_sem] theorem K7_76 : K7 76 = some (cloneSpec Tryz.prog 22) := rfl
theorem pBsI_app {obj : Name → Option O} {t nm : Name} {k sz : Nat} {l : List Int} {n : Int} {L : List V} (hL : L = l.map vInt) (ho : obj nm = some (.arr sz L)) (hk : k = L.length) (hs : l.Pairwise (· < ·)) :
  sBsI.app obj t [.msl nm k, .v (vInt n), .v (.clo (.func 95) [] [])] = ⟨True, .v (.tup [vInt (lowI l n), .bool (hasI l n)]), obj⟩ := by
 subst hL; subst hk
 simp only [sBsI, PSpec.toSpec, pBsI, frzL, frz, ho, decI_map, if_true]
 congr 1
 simp only [true_and, eq_iff_iff, iff_true]
 all_goals first | trivial | exact ⟨l, n, rfl, hs⟩ | exact ⟨by trivial, l, n, rfl, hs⟩ | skip
theorem ins_app {P : Program} {T e sz by_ : Nat} {z : Value} {obj : Name → Option O} {t nm : Name} {k i : Nat} {L : List V} {x : V} (hT : tElem P T = some (e, sz, by_)) (hz : tZero P e = some z) (hzs : z.cells.size = sz)
  (hx : x.cells.length = sz ∧ x.okc = true) (hb : (L.length + 1) * by_ ≤ 140737488355328) (hm : L.length + 1 ≤ maxLen) (ho : obj nm = some (.arr sz L)) (hk : k = L.length) (hi : i ≤ L.length) :
  (insSpec P T).app obj t [.msl nm k, .v (.int .i64 (i : Int)), .v (.sl [x])] = ⟨(insSpec P T).app obj t [.msl nm k, .v (.int .i64 (i : Int)), .v (.sl [x])] |>.ok, .msl nm (L.length + 1), upd obj nm (some (.arr sz (L.take i ++ [x] ++ L.drop i)))⟩ ∧
  ((insSpec P T).app obj t [.msl nm k, .v (.int .i64 (i : Int)), .v (.sl [x])]).ok := by
 subst hk
 have hap : (aAppend P obj t T T (.msl nm L.length) (.v (.sl [x]))) = ⟨(aAppend P obj t T T (.msl nm L.length) (.v (.sl [x]))).ok, .msl nm (L.length + 1), upd obj nm (some (.arr sz (L ++ [x])))⟩ ∧ (aAppend P obj t T T (.msl nm L.length) (.v (.sl [x]))).ok := by
  simp only [aAppend, hT, hz, ho, srcL, List.length_singleton, true_and]
  refine ⟨?_, hzs, hb, hm, trivial⟩
  intro y hy
  simp only [List.mem_singleton] at hy
  subst hy; exact hx
 simp only [insSpec, aInsert, ho, Int.toNat_natCast]
 by_cases he : i = L.length
 ·have hb : Nat.beq i L.length = true := by simp [he]
  simp only [hb]
  refine ⟨?_, hap.2, by omega, by simp⟩
  rw [hap.1]
  simp [he]
 ·have hb : Nat.beq i L.length = false := by
   cases h : Nat.beq i L.length with
   | false => rfl
   | true => exact (he (Nat.eq_of_beq_eq_true h)).elim
  simp only [hb, List.length_singleton]
  exact ⟨trivial, hap.2, by omega, by omega, by simp⟩
theorem R.eta_of {r : R} {d : D} {obj : Name → Option O} (h : r = ⟨r.ok, d, obj⟩ ∧ r.ok) : r = ⟨True, d, obj⟩ := by
 obtain ⟨h1, h2⟩ := h
 rw [h1]; simp [h2]
theorem lowI_le (l : List Int) (x : Int) : lowI l x ≤ l.length := by
 unfold lowI
 exact (List.takeWhile_prefix _).length_le
set_option maxRecDepth 10000 in
set_option maxHeartbeats 4000000 in
theorem s94 : SSound Tryz.prog 94 sPutI := by
 unfold sPutI
 refine csound (nt := 23) (rs := [.tmp 6]) Tryz.func94 rfl (by rfl) (by kernel_rfl) (enter_of Tryz.func94 rfl (by kernel_rfl)) (notYid _ (by decide)) ?_
 rintro os ds ⟨l, n, rfl, rfl, hs, hlen⟩
 refine ⟨Nat.le_of_ble_eq_true rfl, cl_of ?_⟩
 rw [putC_out decI_map (fun _ => rfl)]
 unfold rdI
 have hΓ := K7_sound
 have hP := mixedK
 have hbs := fun obj t ho => pBsI_app (sz := 1) (obj := obj) (t := t) (nm := [0, 1]) (n := n) (k := l.length) (L := l.map vInt) rfl ho (by simp) hs
 have hlow := lowI_le l n
 have hins := fun obj t ho => R.eta_of (ins_app (obj := obj) (t := t) (nm := [0, 1]) (k := l.length) (i := lowI l n) (L := l.map vInt) (x := vInt n) te39 tz3 rfl ⟨rfl, rfl⟩ (by simp; omega) (by simp [maxLen]; omega) ho (by simp) (by simpa using hlow))
 simp only [List.length_map] at hins
 obtain ⟨H, hH, hH0, hO1, hO2⟩ := outH_one 1 (l.map vInt)
 rw [← hH]
 clear hH
 repeat refine cl_seq ?_
 refine cl_rs hΓ [0,1,2] [] fun K' hK => ?_
 simp only [go_sem, hO1, hO2, hH0]
 repeat (refine ⟨ob, ?_⟩)
 refine hK _ ?_ ?_ <;> clear K' hK <;> simp only [go_sem, hO1, hO2, hH0]
 repeat refine cl_seq ?_
 refine cl_rs hΓ [0,1,7,8] [] fun K' hK => ?_
 simp only [go_sem, hO1, hO2, hH0, hbs]
 repeat (refine ⟨ob, ?_⟩)
 refine hK _ ?_ ?_ <;> clear K' hK <;> simp only [go_sem, hO1, hO2, hH0, hbs]
 repeat refine cl_seq ?_
 refine cl_rs hΓ [0,1,7,16] [] fun K' hK => ?_
 simp only [go_sem, hO1, hO2, hH0]
 repeat (refine ⟨ob, ?_⟩)
 refine hK _ ?_ ?_ <;> clear K' hK <;> simp only [go_sem, hO1, hO2, hH0]
 repeat refine cl_seq ?_
 refine cl_cond rfl rfl (fun hb => ?_) (fun hb => ?_)
 ·repeat refine cl_seq ?_
  repeat refine cl_seq ?_
  refine cl_rs hΓ [6] [] fun K' hK => ?_
  simp only [go_sem, hO1, hO2, hH0]
  repeat (refine ⟨ob, ?_⟩)
  refine hK _ ?_ ?_ <;> clear K' hK <;> simp only [go_sem, hO1, hO2, hH0]
  refine cl_ret ?_
  simp only [go_sem, hO1, hO2, hH0, putI, hb]
  all_goals first | rfl | (simp; done) | (simp [List.map_take, List.map_drop]; omega)
 ·repeat refine cl_seq ?_
  refine cl_skip ?_
  repeat refine cl_seq ?_
  refine cl_rs hΓ [6] [] fun K' hK => ?_
  simp only [go_sem, hO1, hO2, hH0, hins]
  repeat (refine ⟨ob, ?_⟩)
  refine hK _ ?_ ?_ <;> clear K' hK <;> simp only [go_sem, hO1, hO2, hH0, hins]
  refine cl_ret ?_
  simp only [go_sem, hO1, hO2, hH0, putI, hb]
  all_goals first | rfl | (simp; done) | (simp [List.map_take, List.map_drop]; omega)
def rdD (d : Deed) : D := .agg [.v (vInt d.pa), .v (vInt d.no), .v (vInt d.ki), .v (vInt d.lo), .v (vInt d.pe), .v (vInt d.dl), .v (vInt d.dh), .v (vInt d.kn), .v (vInt d.un)]
end Go.Eng
namespace Go.Eng
open Go Go.Proofs
def atD : List Deed → Deed → Option Deed
 | [], _ => none
 | a :: r, x => if ltD a x then atD r x else if cmpD a x = 0 then some a else none
theorem lowD_cons (a : Deed) (r : List Deed) (x : Deed) : lowD (a :: r) x = if ltD a x then lowD r x + 1 else 0 := by
 unfold lowD
 by_cases h : ltD a x <;> simp [h]
theorem hasD_cons (a : Deed) (r : List Deed) (x : Deed) : hasD (a :: r) x = if ltD a x then hasD r x else cmpD a x == 0 := by
 unfold hasD
 rw [lowD_cons]
 by_cases h : ltD a x <;> simp [h]
theorem hasD_some : ∀ (l : List Deed) (x : Deed), hasD l x = (atD l x).isSome
 | [], x => rfl
 | a :: r, x => by
  rw [hasD_cons]
  unfold atD
  by_cases h : ltD a x
  ·simp only [h, if_true]; exact hasD_some r x
  ·by_cases k : cmpD a x = 0 <;> simp [h, k]
theorem atD_low : ∀ (l : List Deed) (x : Deed), hasD l x = true → l[lowD l x]? = atD l x
 | [], x, h => by cases h
 | a :: r, x, h => by
  rw [hasD_cons] at h
  rw [lowD_cons]
  unfold atD
  by_cases k : ltD a x
  ·simp only [k, if_true] at h ⊢
   rw [List.getElem?_cons_succ]
   exact atD_low r x h
  ·simp only [k, if_false, beq_iff_eq] at h ⊢
   simp [h]
end Go.Eng
namespace Go.Eng
open Go Go.Proofs
theorem inI_iff {n lo hi : Int} : inI n lo hi = true ↔ lo ≤ n ∧ n ≤ hi := by unfold inI; simp
theorem rDeed_eq (d : Deed) : rDeedB d = isDeedB d := by
 obtain ⟨pa, no, ki, lo, pe, dl, dh, kn, un⟩ := d
 unfold rDeedB isDeedB lastsB
 simp only
 generalize (if ki = 1 ∨ ki = 2 then lo == 0 && inI pe 1 99 else if ki = 3 ∨ ki = 4 then inI lo 1 3 && inI pe 1 99 else if ki = 5 ∨ ki = 6 then inI lo 1 3 && pe == 0 else false) = K
 by_cases hk : inI kn 0 100000 = true
 ·have hk' := inI_iff.1 hk
  rw [wrap_i64 (x := kn + 1) (by omega) (by omega), Bool.eq_iff_iff]
  simp only [Bool.and_eq_true, Bool.or_eq_true, decide_eq_true_eq, inI_iff, beq_iff_eq]
  constructor
  ·rintro ⟨⟨⟨h1, h2⟩, h3⟩, h4⟩
   refine ⟨?_, h1⟩
   grind
  ·rintro ⟨h, h1⟩
   refine ⟨⟨⟨h1, ?_⟩, ?_⟩, ?_⟩ <;> grind
 ·rw [Bool.eq_iff_iff]
  simp only [Bool.and_eq_true, Bool.or_eq_true, decide_eq_true_eq, beq_iff_eq]
  constructor
  ·rintro ⟨⟨⟨h1, h2⟩, h3⟩, h4⟩
   exact (hk (by grind)).elim
  ·rintro ⟨h, h1⟩
   exact (hk (by grind)).elim
theorem before_iff {a b : Deed} : beforeB a.pa a.no b.pa b.no = true ↔ ltD a b := by
 unfold beforeB ltD
 simp
theorem okR_iff (l : List Deed) (i : Nat) : okR l i ↔ okD l i := by
 unfold okR okD
 simp only [rDeed_eq, before_iff, cmpD_lt]
theorem check_eq (l : List Deed) : rcheckI l = checkI l := by
 have e : okR l l.length = okD l l.length := propext (okR_iff l l.length)
 unfold rcheckI checkI
 rw [e]
def okL (l : List Deed) : Prop := l.Pairwise ltD ∧ (∀ d ∈ l, isDeedB d = true) ∧ l.length ≤ 60
theorem pairwise_next {α : Type} {r : α → α → Prop} (ht : ∀ a b c, r a b → r b c → r a c) : ∀ {l : List α}, (∀ j (h : j < l.length), 0 < j → r l[j - 1] l[j]) → l.Pairwise r
 | [], _ => .nil
 | [a], _ => by simp
 | a :: b :: s, h => by
  have hb : (b :: s).Pairwise r := pairwise_next ht fun j hj h0 => by
   have := h (j + 1) (by simpa using hj) (by omega)
   obtain ⟨k, rfl⟩ : ∃ k, j = k + 1 := ⟨j - 1, by omega⟩
   simpa using this
  rw [List.pairwise_cons]
  refine ⟨fun y hy => ?_, hb⟩
  have hab : r a b := by have := h 1 (by simp) (by omega); simpa using this
  rcases List.mem_cons.1 hy with rfl | hy
  ·exact hab
  ·exact ht _ _ _ hab ((List.pairwise_cons.1 hb).1 y hy)
theorem check_ok {l : List Deed} (h : okD l l.length ∧ l.length ≤ 60) : okL l := by
 obtain ⟨h, hl⟩ := h
 have h1 : l.Pairwise ltD := by
  refine pairwise_next (r := ltD) (fun a b c h k => ltD_trans h k) fun j hj h0 => ?_
  have h2 := (h j hj hj).2 h0
  exact cmpD_lt.1 h2
 refine ⟨h1, fun d hd => ?_, hl⟩
 obtain ⟨j, hj, rfl⟩ := List.getElem_of_mem hd
 exact (h j hj hj).1
theorem check_or (l : List Deed) : checkI l = 0 ∧ okL l ∨ checkI l = 11 := by
 unfold checkI
 split
 ·rename_i h
  exact .inl ⟨rfl, check_ok h⟩
 ·exact .inr rfl
theorem okD_of {l : List Deed} (h : okL l) : okD l l.length ∧ l.length ≤ 60 := by
 refine ⟨fun j hj _ => ⟨h.2.1 _ (List.getElem_mem hj), fun h0 => cmpD_lt.2 (List.pairwise_iff_getElem.1 h.1 (j - 1) j (by omega) hj (by omega))⟩, h.2.2⟩
theorem check_zero {l : List Deed} : checkI l = 0 ↔ okL l := by
 constructor
 ·intro h
  rcases check_or l with h' | h'
  ·exact h'.2
  ·rw [h'] at h; cases h
 ·intro h
  unfold checkI
  rw [if_pos (okD_of h)]
def insI : List Int → Int → List Int
 | [], x => [x]
 | a :: r, x => if a < x then a :: insI r x else if a = x then a :: r else x :: a :: r
theorem lowI_cons (a : Int) (r : List Int) (x : Int) : lowI (a :: r) x = if a < x then lowI r x + 1 else 0 := by
 unfold lowI
 by_cases h : a < x <;> simp [h]
theorem putI_ins : ∀ {l : List Int} (x : Int), l.Pairwise (· < ·) → putI l x = insI l x
 | [], x, _ => rfl
 | a :: r, x, hs => by
  rw [List.pairwise_cons] at hs
  have ih := putI_ins (l := r) x hs.2
  unfold putI hasI at ih ⊢
  rw [lowI_cons]
  unfold insI
  by_cases h : a < x
  ·have hne : a ≠ x := by omega
   have : (x == a) = false := by simp; omega
   simp only [h, if_true, List.take_succ_cons, List.drop_succ_cons, List.contains_cons, this, Bool.false_or]
   rw [← ih]
   split <;> simp
  ·by_cases e : a = x
   ·subst e
    simp
   ·have hx : (a :: r).contains x = false := by
     rw [Bool.eq_false_iff, ne_eq, List.contains_iff_mem]
     intro hm
     rcases List.mem_cons.1 hm with rfl | hm
     ·exact e rfl
     ·have := hs.1 x hm; omega
    simp only [hx, h, e, if_false, Bool.false_eq_true, List.take_zero, List.drop_zero]
    rfl
theorem mem_insI : ∀ {l : List Int} {x y : Int}, y ∈ insI l x → y = x ∨ y ∈ l
 | [], x, y, h => by simpa [insI] using h
 | a :: r, x, y, h => by
  unfold insI at h
  split at h
  ·rcases List.mem_cons.1 h with h | h
   ·exact .inr (by simp [h])
   ·rcases mem_insI h with h | h
    ·exact .inl h
    ·exact .inr (by simp [h])
  ·split at h
   ·exact .inr h
   ·rcases List.mem_cons.1 h with h | h
    ·exact .inl h
    ·exact .inr h
theorem insI_sorted : ∀ {l : List Int} {x : Int}, l.Pairwise (· < ·) → (insI l x).Pairwise (· < ·)
 | [], x, _ => by simp [insI]
 | a :: r, x, h => by
  unfold insI
  rw [List.pairwise_cons] at h
  split
  ·rename_i hax
   rw [List.pairwise_cons]
   refine ⟨fun y hy => ?_, insI_sorted h.2⟩
   rcases mem_insI hy with rfl | hy
   ·exact hax
   ·exact h.1 y hy
  ·split
   ·exact List.pairwise_cons.2 h
   ·rw [List.pairwise_cons]
    refine ⟨fun y hy => ?_, List.pairwise_cons.2 h⟩
    rcases List.mem_cons.1 hy with rfl | hy
    ·omega
    ·have := h.1 y hy; omega
theorem insI_len : ∀ (l : List Int) (x : Int), (insI l x).length ≤ l.length + 1
 | [], x => by simp [insI]
 | a :: r, x => by
  have := insI_len r x
  unfold insI
  split
  ·simp only [List.length_cons]; omega
  ·split <;> simp
end Go.Eng
namespace Go.Eng
open Go Go.Proofs
theorem enc_ok (l : List Deed) : ∀ x ∈ l.map encD, (match x with | V.agg l => l | x => [x]).length = 9 ∧ (match x with | V.tup _ => false | _ => true) = true := by
 intro x hx
 obtain ⟨y, _, rfl⟩ := List.mem_map.1 hx
 exact ⟨rfl, rfl⟩
theorem lowD_lt {l : List Deed} {x : Deed} (h : hasD l x = true) : ∃ hl : lowD l x < l.length, atD l x = some l[lowD l x] := by
 have h1 := atD_low l x h
 have h2 := hasD_some l x
 rw [h] at h2
 cases hg : l[lowD l x]? with
 | none => rw [← h1, hg] at h2; cases h2
 | some y =>
  obtain ⟨hl, e⟩ := List.getElem?_eq_some_iff.1 hg
  exact ⟨hl, by rw [← h1, hg, e]⟩
end Go.Eng
namespace Go.Eng
open Go Go.Proofs
def pLen (P : List Deed → Prop) (f : List Deed → V) : PSpec := ⟨fun xs => ∃ l : List Deed, xs = [.sl (l.map encD)] ∧ P l, fun xs => match xs with | [.sl l] => f (l.map decD) | _ => .bool false, false⟩
theorem pLen_fn (P : List Deed → Prop) (f : List Deed → V) (l : List Deed) : (pLen P f).fn [.sl (l.map encD)] = f l := by
 simp only [pLen, decD_map]
noncomputable def sChk : Spec := (pLD (fun l => vInt (checkI l)) true).toSpec
theorem s39' : SSound Tryz.prog 39 sChk := s39.sound
theorem sChk_app {obj : Name → Option O} {t : Name} {l : List Deed} : sChk.app obj t [.v (.sl (l.map encD))] = ⟨True, .v (vInt (checkI l)), obj⟩ := by
 simp only [sChk, PSpec.toSpec, frzL, frz, pLD_fn]
 congr 1
 simp only [eq_iff_iff, iff_true]
 exact ⟨⟨trivial, trivial⟩, l, rfl⟩
def pAdd (f : List Deed → Deed → V) : PSpec := ⟨fun xs => ∃ (l : List Deed) (d : Deed), xs = [.sl (l.map encD), encD d], fun xs => match xs with | [.sl l, d] => f (l.map decD) (decD d) | _ => .bool false, false⟩
end Go.Eng
namespace Go.Eng
open Go Go.Proofs
theorem enc_okI (l : List Int) : ∀ x ∈ l.map vInt, (match x with | V.agg l => l | x => [x]).length = 1 ∧ (match x with | V.tup _ => false | _ => true) = true := by
 intro x hx
 obtain ⟨y, _, rfl⟩ := List.mem_map.1 hx
 exact ⟨rfl, rfl⟩
noncomputable def sRChk : Spec := (pLD (fun l => vInt (checkI l)) true).toSpec
theorem s16' : SSound Tryz.prog 16 sRChk := by
 have e : (fun l => vInt (rcheckI l)) = (fun l => vInt (checkI l)) := funext fun l => by rw [check_eq]
 have := s16.sound
 rw [e] at this
 exact this
theorem sRChk_app {obj : Name → Option O} {t : Name} {l : List Deed} : sRChk.app obj t [.v (.sl (l.map encD))] = ⟨True, .v (vInt (checkI l)), obj⟩ := sChk_app
end Go.Eng
namespace Go.Eng
open Go Go.Proofs
end Go.Eng
namespace Go.Eng
open Go
def aBuildM (P : Program) (obj : Name → Option O) (t : Name) (T : TypeId) (n : Nat) (parts : List (Nat × D)) : R :=
  match tElem P T with
  | some (e, sz, _) =>
    ⟨parts.map (·.1) = List.range n ∧ (frzL (frz 4) obj (parts.map (·.2))).ok ∧ (∀ x ∈ (frzL (frz 4) obj (parts.map (·.2))).xs, x.cells.length = sz ∧ x.okc = true) ∧
        n * sz ≤ 16777216 ∧ sz ≠ 0 ∧ (tZero P e).isSome = true ∧ 0 < n ∧ (frzL (frz 4) obj (parts.map (·.2))).obj (nmO t) = none,
      .msl (nmO t) n, upd (frzL (frz 4) obj (parts.map (·.2))).obj (nmO t) (some (.arr sz (frzL (frz 4) obj (parts.map (·.2))).xs))⟩
  | none => .bad obj
def aopM (P : Program) (Γ : FuncId → Option Spec) (σ : S) (t : Name) : Op → R
  | .buildSlice T n ps => aBuildM P σ.obj t T n (ps.toList.map fun p => (p.1, opD σ p.2))
  | o => aop P Γ σ t o
def stepM (P : Program) (Γ : FuncId → Option Spec) (ops : Array Oper) (σ : S) (o : Oper) : S :=
  ⟨σ.nt, match o.dst with
    | some t => upd σ.env t ⟨gOf ops σ o, (aopM P Γ σ ((σ.base + t) :: σ.pre) o.op).d⟩
    | none => σ.env, if gOf ops σ o = true then (aopM P Γ σ ((σ.base + o.dst.getD 0) :: σ.pre) o.op).obj else σ.obj, σ.pre, σ.base⟩
def oblM (P : Program) (Γ : FuncId → Option Spec) (ops : Array Oper) (σ : S) (o : Oper) : Prop :=
  gOk ops σ o ∧ (match o.dst with | some t => t < σ.nt | none => True) ∧ (gOf ops σ o = true → opConds σ o.op = true ∧ (aopM P Γ σ ((σ.base + o.dst.getD 0) :: σ.pre) o.op).ok)
def RegM (P : Program) (Γ : FuncId → Option Spec) (ops : Array Oper) : List Oper → S → (S → Prop) → Prop
  | [], σ, K => K σ
  | o :: r, σ, K => oblM P Γ ops σ o ∧ RegM P Γ ops r (stepM P Γ ops σ o) K
attribute [go_sem] RegM oblM stepM aopM aBuildM List.cons_beq_cons
end Go.Eng
namespace Go.Eng
open Go Go.Proofs
def countsB (kn un k : Int) : Bool := decide (kn ≤ k) && (un == 0 || decide (k < un))
def isOfB (d : Deed) (lo pe : Int) : Bool := if 0 < lo then d.lo == lo else d.lo == 0 && d.pe == pe
def contraB (a b : Deed) : Bool := isOfB b a.lo a.pe && decide (b.dh < a.dl)
def offB (k : Int) : Bool := k == 1 || k == 2
def sameThB (a b : Deed) : Bool := if offB a.ki then offB b.ki && a.pe == b.pe else a.lo == b.lo
def pDI (g : Deed → Int → V) : PSpec := ⟨fun xs => ∃ d k, xs = [encD d, vInt k], fun xs => match xs with | [x, .int _ k] => g (decD x) k | _ => .bool false, true⟩
def pDII (g : Deed → Int → Int → V) : PSpec := ⟨fun xs => ∃ d k j, xs = [encD d, vInt k, vInt j], fun xs => match xs with | [x, .int _ k, .int _ j] => g (decD x) k j | _ => .bool false, true⟩
def pDp (g : Deed → Int → V) : PSpec := ⟨fun xs => ∃ d k, xs = [encD d, .ptr [vInt k]], fun xs => match xs with | [x, .ptr [.int _ k]] => g (decD x) k | _ => .bool false, true⟩
def pDpp (g : Deed → Int → Int → V) : PSpec := ⟨fun xs => ∃ d k j, xs = [encD d, .ptr [vInt k], .ptr [vInt j]], fun xs => match xs with | [x, .ptr [.int _ k], .ptr [.int _ j]] => g (decD x) k j | _ => .bool false, true⟩
def pDp2 (g : Deed → Int → Int → V) : PSpec := ⟨fun xs => ∃ d k j, xs = [encD d, .ptr [vInt k, vInt j]], fun xs => match xs with | [x, .ptr [.int _ k, .int _ j]] => g (decD x) k j | _ => .bool false, true⟩
def pIII (g : Int → Int → Int → V) : PSpec := ⟨fun xs => ∃ a b c, xs = [vInt a, vInt b, vInt c], fun xs => match xs with | [.int _ a, .int _ b, .int _ c] => g a b c | _ => .bool false, true⟩
theorem frzD {obj : Name → Option O} {d : Deed} : frz 6 obj (rdD d) = ⟨True, encD d, obj⟩ := by
 simp only [frz, rdD, frzL, D.one, V.one, List.map_cons, List.map_nil]
 simp [encD, D.one, V.one]
def sDI (g : Deed → Int → V) : Spec := (pDI g).toSpec
theorem sDI_app {g : Deed → Int → V} {obj : Name → Option O} {t : Name} {d : Deed} {k : Int} {dx : D} (h : dx = rdD d) : (sDI g).app obj t [dx, .v (vInt k)] = ⟨True, .v (g d k), obj⟩ := by
 subst h
 simp only [sDI, PSpec.toSpec, frzL, frzD, pDI, decD_enc, if_true]
 simp only [frz]
 congr 1
 simp only [eq_iff_iff, iff_true]
 exact ⟨⟨trivial, trivial, trivial⟩, d, k, rfl⟩
def sDII (g : Deed → Int → Int → V) : Spec := (pDII g).toSpec
theorem sDII_app {g : Deed → Int → Int → V} {obj : Name → Option O} {t : Name} {d : Deed} {k j : Int} {dx : D} (h : dx = rdD d) : (sDII g).app obj t [dx, .v (vInt k), .v (vInt j)] = ⟨True, .v (g d k j), obj⟩ := by
 subst h
 simp only [sDII, PSpec.toSpec, frzL, frzD, pDII, decD_enc, if_true]
 simp only [frz]
 congr 1
 simp only [eq_iff_iff, iff_true]
 exact ⟨⟨trivial, trivial, trivial, trivial⟩, d, k, j, rfl⟩
set_option maxRecDepth 10000
theorem s142 : PSound Tryz.prog 142 (pDI fun d k => .bool (countsB d.kn d.un k)) := by
 refine psoundB (rs := [.tmp 4]) Tryz.func142 Tryz.ntmps142 (by rfl) (by kernel_rfl) (by decide) (by rintro _ xs ⟨d, k, rfl⟩; rfl) ⟨_, rfl, ?_⟩
 rintro xs ⟨⟨pa, no, ki, lo, pe, dl, dh, kn, un⟩, k, rfl⟩ _
 refine ⟨Nat.le_of_ble_eq_true rfl, ?_⟩
 have hΓ := @no_sound Tryz.prog
 have hP := mixedK
 repeat refine cl_seq ?_
 refine cl_rs hΓ [1,2] [[2, 0]] fun K' hK => ?_
 simp only [go_sem]
 repeat (refine ⟨ob, ?_⟩)
 refine hK _ ?_ ?_ <;> clear K' hK <;> simp only [go_sem]
 repeat refine cl_seq ?_
 refine cl_rs hΓ [4] [] fun K' hK => ?_
 simp only [go_sem]
 repeat (refine ⟨ob, ?_⟩)
 refine hK _ ?_ ?_ <;> clear K' hK <;> simp only [go_sem]
 refine cl_ret ?_
 simp only [go_sem]
 all_goals first | rfl | (simp; done) | (grind [countsB, pDI, decD, encD]; done)
theorem s144 : PSound Tryz.prog 144 (pDII fun d k j => .bool (isOfB d k j)) := by
 refine psoundB (rs := [.tmp 6]) Tryz.func144 Tryz.ntmps144 (by rfl) (by kernel_rfl) (by decide) (by rintro _ xs ⟨d, k, j, rfl⟩; rfl) ⟨_, rfl, ?_⟩
 rintro xs ⟨⟨pa, no, ki, lo, pe, dl, dh, kn, un⟩, k, j, rfl⟩ _
 refine ⟨Nat.le_of_ble_eq_true rfl, ?_⟩
 have hΓ := @no_sound Tryz.prog
 have hP := mixedK
 repeat refine cl_seq ?_
 refine cl_rs hΓ [1,2,3] [[3, 0]] fun K' hK => ?_
 simp only [go_sem]
 repeat (refine ⟨ob, ?_⟩)
 refine hK _ ?_ ?_ <;> clear K' hK <;> simp only [go_sem]
 repeat refine cl_seq ?_
 refine cl_rs hΓ [1,2,3,8] [[3, 0]] fun K' hK => ?_
 simp only [go_sem]
 repeat (refine ⟨ob, ?_⟩)
 refine hK _ ?_ ?_ <;> clear K' hK <;> simp only [go_sem]
 repeat refine cl_seq ?_
 refine cl_cond rfl rfl (fun hb => ?_) (fun hb => ?_)
 ·skip
  repeat refine cl_seq ?_
  repeat refine cl_seq ?_
  refine cl_rs hΓ [6] [] fun K' hK => ?_
  simp only [go_sem]
  repeat (refine ⟨ob, ?_⟩)
  refine hK _ ?_ ?_ <;> clear K' hK <;> simp only [go_sem]
  refine cl_ret ?_
  simp only [go_sem]
  all_goals first | rfl | (simp; done) | (grind [isOfB, pDII, decD, encD]; done)
 ·skip
  repeat refine cl_seq ?_
  refine cl_skip ?_
  repeat refine cl_seq ?_
  refine cl_rs hΓ [6] [] fun K' hK => ?_
  simp only [go_sem]
  repeat (refine ⟨ob, ?_⟩)
  refine hK _ ?_ ?_ <;> clear K' hK <;> simp only [go_sem]
  refine cl_ret ?_
  simp only [go_sem]
  all_goals first | rfl | (simp; done) | (grind [isOfB, pDII, decD, encD]; done)
theorem s85 : PSound Tryz.prog 85 (pIII fun a b c => .bool (countsB a b c)) := by
 refine psoundB (rs := [.tmp 6]) Tryz.func85 Tryz.ntmps85 (by rfl) (by kernel_rfl) (by decide) (by rintro _ xs ⟨a, b, c, rfl⟩; rfl) ⟨_, rfl, ?_⟩
 rintro xs ⟨a, b, c, rfl⟩ _
 refine ⟨Nat.le_of_ble_eq_true rfl, ?_⟩
 have hΓ := @no_sound Tryz.prog
 have hP := mixedK
 repeat refine cl_seq ?_
 refine cl_rs hΓ [0,1,2] [] fun K' hK => ?_
 simp only [go_sem]
 repeat (refine ⟨ob, ?_⟩)
 refine hK _ ?_ ?_ <;> clear K' hK <;> simp only [go_sem]
 repeat refine cl_seq ?_
 refine cl_rs hΓ [6] [] fun K' hK => ?_
 simp only [go_sem]
 repeat (refine ⟨ob, ?_⟩)
 refine hK _ ?_ ?_ <;> clear K' hK <;> simp only [go_sem]
 refine cl_ret ?_
 simp only [go_sem]
 all_goals first | rfl | (simp; done) | (grind [countsB, pIII]; done)
def K20 : FuncId → Option Spec := fun f => match f with
 | 142 => some (sDI fun d k => .bool (countsB d.kn d.un k))
 | 144 => some (sDII fun d k j => .bool (isOfB d k j))
 | _ => none
theorem K20_sound : ∀ f s, K20 f = some s → SSound Tryz.prog f s := by
 intro f s h
 unfold K20 at h
 split at h
 ·cases h; exact s142.sound
 ·cases h; exact s144.sound
 ·cases h
@[go_sem] theorem K20_142 : K20 142 = some (sDI fun d k => .bool (countsB d.kn d.un k)) := rfl
@[go_sem] theorem K20_144 : K20 144 = some (sDII fun d k j => .bool (isOfB d k j)) := rfl
theorem s141 : PSound Tryz.prog 141 (pDp fun d k => .bool (!countsB d.kn d.un k)) := by
 refine psoundB (rs := [.tmp 3]) Tryz.func141 Tryz.ntmps141 (by rfl) (by kernel_rfl) (by decide) (by rintro _ xs ⟨d, k, rfl⟩; rfl) ⟨_, rfl, ?_⟩
 rintro xs ⟨⟨pa, no, ki, lo, pe, dl, dh, kn, un⟩, k, rfl⟩ _
 refine ⟨Nat.le_of_ble_eq_true rfl, ?_⟩
 have hΓ := K20_sound
 have hP := mixedK
 have hc := fun (g : Deed → Int → V) (obj : Name → Option O) (t : Name) (n : Int) => sDI_app (g := g) (obj := obj) (t := t) (k := n) (d := (⟨pa, no, ki, lo, pe, dl, dh, kn, un⟩ : Deed)) (dx := rdD (⟨pa, no, ki, lo, pe, dl, dh, kn, un⟩ : Deed)) rfl
 unfold rdD at hc
 repeat refine cl_seq ?_
 refine cl_rs hΓ [1,2] [[2, 0]] fun K' hK => ?_
 simp only [go_sem]
 repeat (refine ⟨ob, ?_⟩)
 refine hK _ ?_ ?_ <;> clear K' hK <;> simp only [go_sem]
 repeat refine cl_seq ?_
 refine cl_rs hΓ [3] [] fun K' hK => ?_
 simp only [go_sem, hc]
 repeat (refine ⟨ob, ?_⟩)
 refine hK _ ?_ ?_ <;> clear K' hK <;> simp only [go_sem, hc]
 refine cl_ret ?_
 simp only [go_sem]
 rfl
theorem s143 : PSound Tryz.prog 143 (pDpp fun d k j => .bool (!isOfB d k j)) := by
 refine psoundB (rs := [.tmp 4]) Tryz.func143 Tryz.ntmps143 (by rfl) (by kernel_rfl) (by decide) (by rintro _ xs ⟨d, k, j, rfl⟩; rfl) ⟨_, rfl, ?_⟩
 rintro xs ⟨⟨pa, no, ki, lo, pe, dl, dh, kn, un⟩, k, j, rfl⟩ _
 refine ⟨Nat.le_of_ble_eq_true rfl, ?_⟩
 have hΓ := K20_sound
 have hP := mixedK
 have hc := fun (g : Deed → Int → Int → V) (obj : Name → Option O) (t : Name) (n m : Int) => sDII_app (g := g) (obj := obj) (t := t) (k := n) (j := m) (d := (⟨pa, no, ki, lo, pe, dl, dh, kn, un⟩ : Deed)) (dx := rdD (⟨pa, no, ki, lo, pe, dl, dh, kn, un⟩ : Deed)) rfl
 unfold rdD at hc
 repeat refine cl_seq ?_
 refine cl_rs hΓ [1,2,3] [[3, 0]] fun K' hK => ?_
 simp only [go_sem]
 repeat (refine ⟨ob, ?_⟩)
 refine hK _ ?_ ?_ <;> clear K' hK <;> simp only [go_sem]
 repeat refine cl_seq ?_
 refine cl_rs hΓ [4] [] fun K' hK => ?_
 simp only [go_sem, hc]
 repeat (refine ⟨ob, ?_⟩)
 refine hK _ ?_ ?_ <;> clear K' hK <;> simp only [go_sem, hc]
 refine cl_ret ?_
 simp only [go_sem]
 rfl
theorem s77 : PSound Tryz.prog 77 (pDp2 fun d a b => .bool (d.pa == a && d.no == b)) := by
 refine psoundB (rs := [.tmp 3]) Tryz.func77 Tryz.ntmps77 (by rfl) (by kernel_rfl) (by decide) (by rintro _ xs ⟨d, k, j, rfl⟩; rfl) ⟨_, rfl, ?_⟩
 rintro xs ⟨⟨pa, no, ki, lo, pe, dl, dh, kn, un⟩, k, j, rfl⟩ _
 refine ⟨Nat.le_of_ble_eq_true rfl, ?_⟩
 have hΓ := K20_sound
 have hP := mixedK
 repeat refine cl_seq ?_
 refine cl_rs hΓ [1,2] [[2, 0]] fun K' hK => ?_
 simp only [go_sem]
 repeat (refine ⟨ob, ?_⟩)
 refine hK _ ?_ ?_ <;> clear K' hK <;> simp only [go_sem]
 repeat refine cl_seq ?_
 refine cl_rs hΓ [3] [] fun K' hK => ?_
 simp only [go_sem]
 repeat (refine ⟨ob, ?_⟩)
 refine hK _ ?_ ?_ <;> clear K' hK <;> simp only [go_sem]
 refine cl_ret ?_
 simp only [go_sem]
 all_goals first | rfl | (simp; done) | (simp_all; done)
end Go.Eng
namespace Go.Eng
open Go Go.Proofs
def firstI (p : Deed → Bool) (l : List Deed) : Int := if l.findIdx p < l.length then (l.findIdx p : Int) else -1
@[go_sem] theorem ta104 : tAgg Tryz.prog 104 = some (false, 1) := by kernel_rfl
@[go_sem] theorem tz104 : tZero Tryz.prog 104 = some .nilFunc := by kernel_rfl
@[go_sem] theorem ta116 : tAgg Tryz.prog 116 = some (false, 1) := by kernel_rfl
@[go_sem] theorem te116 : tElem Tryz.prog 116 = some (35, 9, 72) := by kernel_rfl
@[go_sem] theorem tl116 : tLen Tryz.prog 116 = some 0 := by kernel_rfl
@[go_sem] theorem tz116 : tZero Tryz.prog 116 = some (.slice none 0 0) := by kernel_rfl
set_option maxRecDepth 10000 in
set_option maxHeartbeats 4000000 in
theorem w140 {Γ : FuncId → Option Spec} (hΓ : ∀ f s, Γ f = some s → SSound Tryz.prog f s) {g : FuncId} {sG : Spec} {caps : List V} {p : Deed → Bool} (hg : ¬ g = 1000000000) (hs : Γ g = some sG)
  (hp : ∀ (obj : Name → Option O) (t : Name) (d : Deed), sG.app obj t (.v (encD d) :: caps.map .v) = ⟨True, .v (.bool (p d)), obj⟩) (l : List Deed) (hl : l.length ≤ maxLen) :
  ∃ c, Tryz.f140.body = some c ∧ CL Tryz.prog [c] (mkS 19 [0] (fun _ => none) (argsL 0 [.sl (l.map encD), .clo (.func g) [] caps]) []) (retK Tryz.prog [.tmp 4] (vInt (firstI p l))) := by
 refine ⟨_, rfl, ?_⟩
 simp only [encD] at hp
 repeat refine cl_seq ?_
 refine cl_rs hΓ [0,1] [] fun K' hK => ?_
 simp only [go_sem]
 repeat (refine ⟨ob, ?_⟩)
 refine hK _ ?_ ?_ <;> clear K' hK <;> simp only [go_sem]
 repeat refine cl_seq ?_
 refine cl_rs hΓ [0,1,6,7,8] [] fun K' hK => ?_
 simp only [go_sem]
 repeat (refine ⟨ob, ?_⟩)
 refine hK _ ?_ ?_ <;> clear K' hK <;> simp only [go_sem]
 repeat refine cl_seq ?_
 refine cl_block ?_
 repeat refine cl_seq ?_
 refine cl_loop' (fun i : Nat => [(8, ⟨true, .v (vInt i)⟩)]) (fun i => []) (fun i => i ≤ l.length ∧ ∀ j (h : j < l.length), j < i → p l[j] = false) (fun i => l.length - i) 0 ?_ ?_ ?_ ?_
 ·exact ⟨Nat.zero_le _, fun j h hj => by omega⟩
 ·rfl
 ·rfl
 rintro i ⟨hi, hz⟩
 simp only [go_sem]
 repeat refine cl_seq ?_
 repeat refine cl_seq ?_
 refine cl_rs hΓ [0,1,6,7,8,9] [] fun K' hK => ?_
 simp only [go_sem]
 repeat (refine ⟨ob, ?_⟩)
 refine hK _ ?_ ?_ <;> clear K' hK <;> simp only [go_sem]
 repeat refine cl_seq ?_
 refine cl_cond rfl rfl (fun hb => ?_) (fun hb => ?_)
 ·have hlt : i < l.length := by simpa using hb
  have hlt' : (i : Int) < l.length := by omega
  clear hb
  repeat refine cl_seq ?_
  refine cl_skip ?_
  repeat refine cl_seq ?_
  refine cl_block ?_
  repeat refine cl_seq ?_
  repeat refine cl_seq ?_
  refine cl_rs hΓ [0,1,5,6,7,8] [] fun K' hK => ?_
  simp only [go_sem]
  repeat (refine ⟨ob, ?_⟩)
  refine hK _ ?_ ?_ <;> clear K' hK <;> simp only [go_sem]
  repeat refine cl_seq ?_
  refine cl_rs hΓ [0,1,5,6,7,8,16] [] fun K' hK => ?_
  simp only [go_sem, map_getD hlt, Int.toNat_natCast, Int.natCast_nonneg, hlt', hg, hs, hp]
  repeat (refine ⟨ob, ?_⟩)
  refine hK _ ?_ ?_ <;> clear K' hK <;> simp only [go_sem, map_getD hlt, Int.toNat_natCast, Int.natCast_nonneg, hlt', hg, hs, hp]
  repeat refine cl_seq ?_
  refine cl_cond rfl rfl (fun hb => ?_) (fun hb => ?_)
  ·repeat refine cl_seq ?_
   repeat refine cl_seq ?_
   refine cl_rs hΓ [4] [] fun K' hK => ?_
   simp only [go_sem]
   repeat (refine ⟨ob, ?_⟩)
   refine hK _ ?_ ?_ <;> clear K' hK <;> simp only [go_sem]
   refine cl_ret ?_
   simp only [go_sem]
   have hf : l.findIdx p = i := by
    rw [List.findIdx_eq hlt]
    exact ⟨by simpa using hb, fun j hj => hz j (by omega) hj⟩
   unfold firstI
   rw [hf, if_pos hlt]
  ·have hn : p l[i] = false := by simpa using hb
   clear hb
   repeat refine cl_seq ?_
   refine cl_skip ?_
   refine cl_nil ?_
   simp only [go_sem]
   refine cl_keep [0,1,6,7,8] [] ?_ ?_
   ·simp only [go_sem]
   simp only [go_sem]
   repeat refine cl_seq ?_
   refine cl_r hΓ fun K' hK => ?_
   simp only [go_sem]
   repeat (refine ⟨ob, ?_⟩)
   refine hK _ ?_
   clear K' hK
   simp only [go_sem]
   refine ⟨i + 1, ⟨by omega, fun j h hj => ?_⟩, by omega, ?_⟩
   ·rcases Nat.lt_succ_iff_lt_or_eq.1 hj with h1 | h1
    ·exact hz j h h1
    ·subst h1; exact hn
   refine weak_eq [0,1,6,7,8] [] ?_ ?_
   ·simp only [go_sem, wrap_succ hlt hl, Int.natCast_add, Int.natCast_one]
   ·simp only [go_sem, wrap_succ hlt hl, Int.natCast_add, Int.natCast_one]
 ·have hge : i = l.length := by
   have : ¬ (i : Int) < l.length := by simpa using hb
   omega
  subst hge
  repeat refine cl_seq ?_
  refine cl_exit ?_
  simp only [go_sem]
  refine cl_keep [] [] ?_ ?_
  ·simp only [go_sem]
  simp only [go_sem]
  repeat refine cl_seq ?_
  refine cl_rs hΓ [4] [] fun K' hK => ?_
  simp only [go_sem]
  repeat (refine ⟨ob, ?_⟩)
  refine hK _ ?_ ?_ <;> clear K' hK <;> simp only [go_sem]
  refine cl_ret ?_
  simp only [go_sem]
  have hf : ¬ l.findIdx p < l.length := by
   rw [List.findIdx_lt_length]
   rintro ⟨x, hx, hpx⟩
   obtain ⟨j, hj, rfl⟩ := List.getElem_of_mem hx
   rw [hz j hj hj] at hpx; cases hpx
  unfold firstI
  rw [if_neg hf]
end Go.Eng
namespace Go.Eng
open Go Go.Proofs
theorem outC_outs {os : List O} (hc : ∀ o ∈ os, ∀ dom : Name → Bool, (∀ i, dom [i, 1] = true) → O.clos dom o = true) (hs : List (Name × O)) : OutC [0] (domOf [0] hs) (outH os) := by
 intro nm o hn h
 unfold outH at h
 split at h
 ·rename_i i
  refine hc o (List.mem_of_getElem? h) _ fun i => ?_
  simp only [domOf, own_out01, Bool.not_false, Bool.true_or]
 ·cases h
theorem cl_rsX {P : Program} {Γ : FuncId → Option Spec} (hΓ : ∀ f s, Γ f = some s → SSound P f s) {id : Nat} {l : List Oper} {c : Code} {r : List Code} {σ : S} {K : Exit → S → Prop} (ks : List Nat) (ns : List Name)
  (h : ∀ K' : S → Prop, (∀ σ', clS ks ns σ' → CL P (c :: r) (keepS ks ns σ') K → K' σ') → RegX P Γ l.toArray l σ K') : CL P (.region id l.toArray false :: c :: r) σ K :=
 cw_regionX hΓ (h _ fun σ' hc hy => cw_keep ks ns hc hy)
theorem regX_step {P : Program} {Γ : FuncId → Option Spec} {ops : Array Oper} {o : Oper} {r : List Oper} {σ : S} {K : S → Prop} (h1 : oblS P Γ ops σ o) (h2 : RegX P Γ ops r (stepS P Γ ops σ o) K) : RegX P Γ ops (o :: r) σ K := .step h1 h2
def zeroD : Deed := ⟨0, 0, 0, 0, 0, 0, 0, 0, 0⟩
theorem zV35 : ((tZero Tryz.prog 35).bind fun z => asV (ofVal z)) = some (encD zeroD) := by rw [tz35]; rfl
theorem arr22 : (#[22] : Array Nat).getD 0 0 = 22 := rfl
theorem cut_app {obj : Name → Option O} {nm : Name} {k i : Nat} {L : List V} (h : obj nm = some (.arr 9 L)) (hk : k = L.length) (hi : i < L.length) :
  aCut Tryz.prog obj 22 22 (.msl nm k) (.v (vInt i)) = ⟨True, .any, upd obj nm (some (.arr 9 (L.take i ++ List.replicate (L.length - i) (encD zeroD))))⟩ := by
 unfold aCut
 simp only [te22, h, zV35, Int.toNat_natCast]
 congr 1
 simp only [eq_iff_iff, iff_true]
 exact ⟨hk, by omega, hi, trivial, rfl, rfl, trivial, by decide⟩
def keepD (p : Deed → Bool) (l : List Deed) : List Deed := l.filter fun d => !p d
def delZ (p : Deed → Bool) (l : List Deed) : List V := (keepD p l).map encD ++ List.replicate (l.length - (keepD p l).length) (encD zeroD)
set_option maxRecDepth 10000 in
set_option maxHeartbeats 8000000 in
theorem w75 {Γ : FuncId → Option Spec} (hΓ : ∀ f s, Γ f = some s → SSound Tryz.prog f s) {g : FuncId} {sG sI : Spec} {refs : List D} {p : Deed → Bool} (hg : ¬ g = 1000000000) (hs : Γ g = some sG) (hI : Γ 140 = some sI)
  {H : Name → Option O} {l : List Deed} (hl : l.length < 1000000) (hH0 : H [0, 1] = some (.arr 9 (l.map encD))) (hO1 : ∀ hs, OutC [0] (domOf [0] hs) H = True) (hO2 : ∀ hs sz L, OutC [0] (domOf [0] hs) (upd H [0, 1] (some (.arr sz L))) = True) (hO3 : ∀ hs sz L, OutC [0] (domOf [0] hs) (upd H [0, 1] (some (.farr sz L))) = True)
  (hcl : ∀ hs, D.closL (domOf [0] hs) refs = true)
  (hi : ∀ (obj : Name → Option O) (t : Name), obj [0, 1] = some (.arr 9 (l.map encD)) → (∀ i, obj [i + 1, 1] = H [i + 1, 1]) → sI.app obj t [.msl [0, 1] l.length, .clo (.func g) [] refs] = ⟨True, .v (vInt (firstI p l)), obj⟩)
  (hp : ∀ (obj : Name → Option O) (t : Name) (d : Deed), (∀ i, obj [i + 1, 1] = H [i + 1, 1]) → sG.app obj t (rdD d :: refs) = ⟨True, .v (.bool (p d)), obj⟩) :
  ∃ c, Tryz.f75.body = some c ∧ CL Tryz.prog [c] (mkS 42 [0] H [(0, ⟨true, .msl [0, 1] l.length⟩), (1, ⟨true, .clo (.func g) [] refs⟩)] []) (fun e σ => (e = .normal ∨ e = .ret) ∧ (σ.env 4).c = true ∧
   ((∀ d ∈ l, p d = false) ∧ (σ.env 4).d = .msl [0, 1] l.length ∧ σ.obj [0, 1] = some (.arr 9 (l.map encD)) ∧ (∀ i, σ.obj [i + 1, 1] = H [i + 1, 1]) ∨
    (¬ ∀ d ∈ l, p d = false) ∧ (σ.env 4).d = .v (.sl ((keepD p l).map encD)) ∧ σ.obj [0, 1] = some (.farr 9 (delZ p l)) ∧ (∀ i, σ.obj [i + 1, 1] = H [i + 1, 1]))) := by
 refine ⟨_, rfl, ?_⟩
 have hm : l.length ≤ maxLen := by unfold maxLen; omega
 unfold rdD at hp
 repeat refine cl_seq ?_
 refine cl_rs hΓ [0,1] [] fun K' hK => ?_
 simp only [go_sem, hO1, hcl]
 repeat (refine ⟨ob, ?_⟩)
 refine hK _ ?_ ?_ <;> clear K' hK <;> simp only [go_sem, hO1, hcl]
 repeat refine cl_seq ?_
 refine cl_rs hΓ [0,1,5] [] fun K' hK => ?_
 simp only [go_sem, hO1, hcl, hI, hi, hH0, implies_true]
 repeat (refine ⟨ob, ?_⟩)
 refine hK _ ?_ ?_ <;> clear K' hK <;> simp only [go_sem, hO1, hcl, hI, hi, hH0, implies_true]
 repeat refine cl_seq ?_
 refine cl_rs hΓ [0,1,5,12] [] fun K' hK => ?_
 simp only [go_sem, hO1, hcl]
 repeat (refine ⟨ob, ?_⟩)
 refine hK _ ?_ ?_ <;> clear K' hK <;> simp only [go_sem, hO1, hcl]
 repeat refine cl_seq ?_
 refine cl_cond rfl rfl (fun hb => ?_) (fun hb => ?_)
 ·repeat refine cl_seq ?_
  repeat refine cl_seq ?_
  refine cl_rs hΓ [4] [] fun K' hK => ?_
  simp only [go_sem, hO1]
  repeat (refine ⟨ob, ?_⟩)
  refine hK _ ?_ ?_ <;> clear K' hK <;> simp only [go_sem, hO1]
  refine cl_ret ?_
  simp only [go_sem, hH0]
  have hb' : firstI p l = -1 := by simpa using hb
  refine ⟨.inr trivial, ?_⟩
  refine .inl fun d hd => ?_
  unfold firstI at hb'
  split at hb'
  ·omega
  ·rename_i hn
   rw [List.findIdx_lt_length] at hn
   cases hpd : p d with
   | false => rfl
   | true => exact (hn ⟨d, hd, hpd⟩).elim
 have hf : l.findIdx p < l.length := by
  have hb' : ¬ firstI p l = -1 := by simpa using hb
  unfold firstI at hb'
  split at hb'
  ·assumption
  ·exact (hb' rfl).elim
 have hfi : firstI p l = (l.findIdx p : Int) := by unfold firstI; rw [if_pos hf]
 rw [hfi]
 clear hb hfi hi hI
 have hpf : p (l[l.findIdx p]) = true := List.findIdx_getElem (w := hf)
 have hnf : ∀ j (h : j < l.length), j < l.findIdx p → p l[j] = false := fun j h hj => by simpa using List.not_of_lt_findIdx hj
 generalize l.findIdx p = f at *
 repeat refine cl_seq ?_
 refine cl_skip ?_
 repeat refine cl_seq ?_
 refine cl_rs hΓ [0,1,5,6] [] fun K' hK => ?_
 simp only [go_sem, hO1, hcl, wrap_succ hf hm, Int.natCast_add, Int.natCast_one]
 repeat (refine ⟨ob, ?_⟩)
 refine hK _ ?_ ?_ <;> clear K' hK <;> simp only [go_sem, hO1, hcl, wrap_succ hf hm, Int.natCast_add, Int.natCast_one]
 repeat refine cl_seq ?_
 refine cl_block ?_
 repeat refine cl_seq ?_
 refine cl_loopH (fun x : Nat × Nat × List Deed => upd H [0, 1] (some (.arr 9 (x.2.2.map encD)))) (fun x => [(5, ⟨true, .v (vInt x.1)⟩), (6, ⟨true, .v (vInt x.2.1)⟩)]) (fun x => []) (fun x => x.1 < x.2.1 ∧ x.2.1 ≤ l.length ∧ x.2.2.length = l.length ∧ x.2.2.take x.1 = keepD p (l.take x.2.1) ∧ x.2.2.drop x.2.1 = l.drop x.2.1) (fun x => l.length - x.2.1) (f, f + 1, l) ?_ ?_ ?_ ?_ ?_
 ·refine ⟨(show f < f + 1 by omega), hf, rfl, ?_, rfl⟩
  show l.take f = keepD p (l.take (f + 1))
  unfold keepD
  rw [List.take_add_one, List.getElem?_eq_getElem hf, List.filter_append]
  simp only [Option.toList_some, List.filter_cons, hpf, Bool.not_true, Bool.false_eq_true, if_false, List.filter_nil, List.append_nil]
  rw [List.filter_eq_self.2]
  intro d hd
  obtain ⟨j, hj, rfl⟩ := List.getElem_of_mem hd
  have hj' : j < f := by simp at hj; omega
  rw [List.getElem_take, hnf j (by omega) hj']
  rfl
 ·congr 1
  rw [← hH0]
  funext x
  by_cases e : x = [0, 1]
  ·subst e; rw [upd_same]
  ·rw [upd_ne _ _ _ e]
 ·rfl
 ·rfl
 clear hnf
 rintro ⟨i, j, A⟩ ⟨hij, hj, hA, hT, hD⟩
 simp only at hij hj hA hT hD
 dsimp only
 generalize hH' : upd H [0, 1] (some (O.arr 9 (List.map encD A))) = H'
 have h0 : H' [0, 1] = some (.arr 9 (A.map encD)) := by rw [← hH', upd_same]
 have hI' : ∀ i, H' [i + 1, 1] = H [i + 1, 1] := fun i => by rw [← hH', upd_ne _ _ _ (by simp)]
 have hO' : ∀ hs, OutC [0] (domOf [0] hs) H' = True := fun hs => by rw [← hH']; exact hO2 _ _ _
 have hO2' : ∀ hs sz L, OutC [0] (domOf [0] hs) (upd H' [0, 1] (some (.arr sz L))) = True := fun hs sz L => by rw [← hH', upd_upd]; exact hO2 _ _ _
 have hO3' : ∀ hs sz L, OutC [0] (domOf [0] hs) (upd H' [0, 1] (some (.farr sz L))) = True := fun hs sz L => by rw [← hH', upd_upd]; exact hO3 _ _ _
 simp only [go_sem]
 repeat refine cl_seq ?_
 repeat refine cl_seq ?_
 refine cl_rs hΓ [0,1,5,6,19] [] fun K' hK => ?_
 simp only [go_sem, hO', hO2', hcl, h0]
 repeat (refine ⟨ob, ?_⟩)
 refine hK _ ?_ ?_ <;> clear K' hK <;> simp only [go_sem, hO', hO2', hcl, h0]
 repeat refine cl_seq ?_
 refine cl_cond rfl rfl (fun hb => ?_) (fun hb => ?_)
 ·have hlt : j < l.length := by simpa using hb
  have hjA : j < A.length := by omega
  have hiA : i < A.length := by omega
  have hiA' : (i : Int) < l.length := by omega
  have hlt' : (j : Int) < l.length := by omega
  have hAj : A[j] = l[j] := by
   have h1 : A[j] = (A.drop j)[0]'(by simp; omega) := by simp
   rw [h1]
   simp only [hD]
   simp
  clear hb
  repeat refine cl_seq ?_
  refine cl_skip ?_
  repeat refine cl_seq ?_
  refine cl_block ?_
  repeat refine cl_seq ?_
  repeat refine cl_seq ?_
  refine cl_rs hΓ [0,1,5,6,7] [[7, 0]] fun K' hK => ?_
  simp only [go_sem, hO', hO2', hcl, h0, map_getD hjA, Int.toNat_natCast, Int.natCast_nonneg, hlt', hA, hAj]
  repeat (refine ⟨ob, ?_⟩)
  refine hK _ ?_ ?_ <;> clear K' hK <;> simp only [go_sem, hO', hO2', hcl, h0, map_getD hjA, Int.toNat_natCast, Int.natCast_nonneg, hlt', hA, hAj]
  repeat refine cl_seq ?_
  refine cl_rs hΓ [0,1,5,6,7,29] [[7, 0]] fun K' hK => ?_
  simp only [go_sem, hO', hO2', hcl, h0, hg, hs, hp, hI', implies_true]
  repeat (refine ⟨ob, ?_⟩)
  refine hK _ ?_ ?_ <;> clear K' hK <;> simp only [go_sem, hO', hO2', hcl, h0, hg, hs, hp, hI', implies_true]
  repeat refine cl_seq ?_
  refine cl_cond rfl rfl (fun hb => ?_) (fun hb => ?_)
  ·have hpn : p l[j] = false := by simpa using hb
   clear hb
   repeat refine cl_seq ?_
   refine cl_rs hΓ [0,1,5,6] [] fun K' hK => ?_
   simp only [go_sem, hO', hO2', hcl, h0, Int.toNat_natCast, Int.natCast_nonneg, hiA', hA]
   repeat' apply And.intro
   all_goals first | rfl | omega | exact Int.le_refl _ | exact Bool.or_not_self _ | exact Bool.not_or_self _ | exact enc_okI _ | exact enc_ok _ | exact fun x hx => (enc_okI _ x hx).1 | exact fun x hx => (enc_ok _ x hx).1 | (simp only [List.length_take, List.length_append, List.length_map, List.length_drop, List.length_cons, List.length_nil]; done) | (simp only [List.length_take, List.length_append, List.length_map, List.length_drop, List.length_cons, List.length_nil]; omega) | (simp only [List.length_take, List.length_append, List.length_map, List.length_drop, List.length_cons, List.length_nil, maxLen]; omega) | (exact fun _ => by decide) | (exact fun h => ⟨h, by decide⟩) | (simp only [decide_eq_true_eq]; omega) | skip
   refine hK _ ?_ ?_
   ·simp only [go_sem, hO', hO2', hcl]
   clear K' hK
   simp only [go_sem]
   generalize hH2 : upd H' [0, 1] (some (O.arr 9 ((List.map encD A).set i (V.agg [vInt l[j].pa, vInt l[j].no, vInt l[j].ki, vInt l[j].lo, vInt l[j].pe, vInt l[j].dl, vInt l[j].dh, vInt l[j].kn, vInt l[j].un])))) = H2
   have hOb : ∀ hs, OutC [0] (domOf [0] hs) H2 = True := fun hs => by rw [← hH2]; exact hO2' _ _ _
   repeat refine cl_seq ?_
   refine cl_r hΓ fun K' hK => ?_
   simp only [go_sem]
   repeat (refine ⟨ob, ?_⟩)
   refine hK _ ?_
   clear K' hK
   simp only [go_sem]
   refine cl_keep [0,1,5,6] [] ?_ ?_
   ·simp only [go_sem, hOb, hcl]
   simp only [go_sem, hOb, hcl]
   repeat refine cl_seq ?_
   refine cl_r hΓ fun K' hK => ?_
   simp only [go_sem]
   repeat (refine ⟨ob, ?_⟩)
   refine hK _ ?_
   clear K' hK
   simp only [go_sem]
   refine ⟨(i + 1, j + 1, A.set i l[j]), ⟨(show i + 1 < j + 1 by omega), hlt, by simpa using hA, ?_, ?_⟩, (show l.length - (j + 1) < l.length - j by omega), ?_⟩
   ·show (A.set i l[j]).take (i + 1) = keepD p (l.take (j + 1))
    unfold keepD at hT ⊢
    rw [List.take_add_one (l := l), List.getElem?_eq_getElem hlt, List.filter_append, ← hT]
    simp only [Option.toList_some, List.filter_cons, hpn, Bool.not_false, if_true, List.filter_nil]
    rw [List.take_add_one, List.take_set_of_le (Nat.le_refl i), List.getElem?_set_self hiA]
    rfl
   ·show (A.set i l[j]).drop (j + 1) = l.drop (j + 1)
    rw [List.drop_set_of_lt (show i < j + 1 by omega)]
    have := congrArg (List.drop 1) hD
    simpa [List.drop_drop] using this
   ·refine weak_eq [0,1,5,6] [] ?_ ?_
    ·simp only [go_sem, hOb, hcl]
    ·simp only [go_sem, wrap_succ hlt hm, wrap_succ (show i < l.length by omega) hm, Int.natCast_add, Int.natCast_one]
     rw [← hH2, ← hH', upd_upd, List.map_set]
     rfl
  ·have hpy : p l[j] = true := by simpa using hb
   clear hb
   repeat refine cl_seq ?_
   refine cl_skip ?_
   refine cl_nil ?_
   simp only [go_sem]
   refine cl_keep [0,1,5,6] [] ?_ ?_
   ·simp only [go_sem, hO', hcl]
   simp only [go_sem, hO', hcl]
   repeat refine cl_seq ?_
   refine cl_r hΓ fun K' hK => ?_
   simp only [go_sem]
   repeat (refine ⟨ob, ?_⟩)
   refine hK _ ?_
   clear K' hK
   simp only [go_sem]
   refine ⟨(i, j + 1, A), ⟨(show i < j + 1 by omega), hlt, hA, ?_, ?_⟩, (show l.length - (j + 1) < l.length - j by omega), ?_⟩
   ·show A.take i = keepD p (l.take (j + 1))
    unfold keepD at hT ⊢
    rw [List.take_add_one (l := l), List.getElem?_eq_getElem hlt, List.filter_append, ← hT]
    simp only [Option.toList_some, List.filter_cons, hpy, Bool.not_true, Bool.false_eq_true, if_false, List.filter_nil, List.append_nil]
   ·show A.drop (j + 1) = l.drop (j + 1)
    have := congrArg (List.drop 1) hD
    simpa [List.drop_drop] using this
   ·refine weak_eq [0,1,5,6] [] ?_ ?_
    ·simp only [go_sem, hO', hcl]
    ·simp only [go_sem, wrap_succ hlt hm, Int.natCast_add, Int.natCast_one]
     rw [← hH']
 ·have hge : j = l.length := by
   have : ¬ (j : Int) < l.length := by simpa using hb
   omega
  subst hge
  clear hb
  rw [List.take_length] at hT
  have hiA : i < A.length := by omega
  repeat refine cl_seq ?_
  refine cl_exit ?_
  simp only [go_sem]
  refine cl_keep [0,5] [] ?_ ?_
  ·simp only [go_sem, hO', hcl]
  simp only [go_sem, hO', hcl]
  repeat refine cl_seq ?_
  refine cl_rsX hΓ [0,5] [] fun K' hK => ?_
  refine regX_step ?_ (regX_step ?_ (.cut (T := 22) (x := .tmp 36) (lo := .tmp 37) (c := 38) rfl rfl ?_ ?_ ?_ ?_ (.nil ?_)))
  ·simp only [go_sem]
  ·simp only [go_sem]
  ·simp only [go_sem]
  ·simp only [go_sem]
  ·simp only [go_sem]
  ·have hcut := fun (obj : Name → Option O) (h : obj [0, 1] = _) => cut_app (obj := obj) (nm := [0, 1]) (k := l.length) (i := i) (L := A.map encD) h (by simpa using hA.symm) (by simpa using hiA)
   simp only [go_sem, clearT, arr22, hcut, h0]
  ·refine hK _ ?_ ?_
   ·simp only [go_sem, cutS, clearT, arr22, cut_app (obj := fun nm => if own [0] nm = true then none else H' nm) (nm := [0, 1]) (k := l.length) (i := i) (L := A.map encD) h0 (by simpa using hA.symm) (by simpa using hiA), hO2']
   clear K' hK
   simp only [go_sem, cutS, clearT, arr22, cut_app (obj := fun nm => if own [0] nm = true then none else H' nm) (nm := [0, 1]) (k := l.length) (i := i) (L := A.map encD) h0 (by simpa using hA.symm) (by simpa using hiA)]
   have hki : (keepD p l).length = i := by rw [← hT, List.length_take]; omega
   have hZe : (List.take i (List.map encD A) ++ List.replicate (A.length - i) (encD zeroD)) = delZ p l := by
    unfold delZ
    rw [hki, ← hT, List.map_take, hA]
   have hZ1 : (delZ p l).length = l.length := by unfold delZ; simp; omega
   have hZ2 : (delZ p l).take i = (keepD p l).map encD := by
    unfold delZ
    rw [List.take_append_of_le_length (by simp; omega), List.take_of_length_le (by simp; omega)]
   have hZ3 : ∀ x ∈ delZ p l, x.cells.length = 9 := by
    intro x hx
    rcases List.mem_append.1 hx with h | h
    ·obtain ⟨y, _, rfl⟩ := List.mem_map.1 h; rfl
    ·rw [(List.mem_replicate.1 h).2]; rfl
   simp only [encD] at hZe
   rw [hZe]
   clear hZe
   generalize delZ p l = Z at *
   simp only [V.cells] at hZ3
   generalize hH3 : upd H' [0, 1] (some (O.arr 9 Z)) = H3
   have h30 : H3 [0, 1] = some (.arr 9 Z) := by rw [← hH3, upd_same]
   have hI3 : ∀ i, H3 [i + 1, 1] = H [i + 1, 1] := fun i => by rw [← hH3, upd_ne _ _ _ (by simp)]; exact hI' i
   have hO3c : ∀ hs sz L, OutC [0] (domOf [0] hs) (upd H3 [0, 1] (some (.farr sz L))) = True := fun hs sz L => by rw [← hH3, upd_upd]; exact hO3' _ _ _
   have hiZ : (i : Int) ≤ l.length := by omega
   repeat refine cl_seq ?_
   refine cl_rs hΓ [4] [] fun K' hK => ?_
   simp only [go_sem, h30, te22, Int.toNat_natCast, Int.natCast_nonneg, hiZ]
   repeat' apply And.intro
   all_goals first | rfl | omega | exact Int.le_refl _ | exact Bool.or_not_self _ | exact Bool.not_or_self _ | exact enc_okI _ | exact enc_ok _ | exact fun x hx => (enc_okI _ x hx).1 | exact fun x hx => (enc_ok _ x hx).1 | (simp only [List.length_take, List.length_append, List.length_map, List.length_drop, List.length_cons, List.length_nil]; done) | (simp only [List.length_take, List.length_append, List.length_map, List.length_drop, List.length_cons, List.length_nil]; omega) | (simp only [List.length_take, List.length_append, List.length_map, List.length_drop, List.length_cons, List.length_nil, maxLen]; omega) | (exact fun _ => by decide) | (exact fun h => ⟨h, by decide⟩) | (simp only [decide_eq_true_eq]; omega) | skip
   refine hK _ ?_ ?_
   ·simp only [go_sem, hO3c]
   clear K' hK
   simp only [go_sem]
   refine cl_ret ?_
   simp only [go_sem, hZ2]
   refine ⟨.inr trivial, .inr ⟨fun h => ?_, fun i => ?_⟩⟩
   ·rw [h _ (List.getElem_mem hf)] at hpf; cases hpf
   ·exact hI3 i
end Go.Eng
namespace Go.Eng
open Go Go.Proofs
def pV (g : FuncId) (caps : List V) : Deed → Bool := match g, caps with
 | 141, [.ptr [.int _ k]] => fun d => !countsB d.kn d.un k
 | 143, [.ptr [.int _ lo], .ptr [.int _ pe]] => fun d => !isOfB d lo pe
 | 77, [.ptr [.int _ a, .int _ b]] => fun d => d.pa == a && d.no == b
 | _, _ => fun _ => false
def famV (g : FuncId) (caps : List V) : Prop :=
 (g = 141 ∧ ∃ k, caps = [.ptr [vInt k]]) ∨ (g = 143 ∧ ∃ k j, caps = [.ptr [vInt k], .ptr [vInt j]]) ∨ (g = 77 ∧ ∃ k j, caps = [.ptr [vInt k, vInt j]])
def pIdx : PSpec := ⟨fun xs => ∃ (l : List Deed) (g : FuncId) (caps : List V), xs = [.sl (l.map encD), .clo (.func g) [] caps] ∧ famV g caps, fun xs => match xs with | [.sl l, .clo (.func g) _ caps] => vInt (firstI (pV g caps) (l.map decD)) | _ => .bool false, true⟩
def sDp (g : Deed → Int → V) : Spec := (pDp g).toSpec
def sDpp (g : Deed → Int → Int → V) : Spec := (pDpp g).toSpec
def sDp2 (g : Deed → Int → Int → V) : Spec := (pDp2 g).toSpec
def K21 : FuncId → Option Spec := fun f => match f with
 | 141 => some (sDp fun d k => .bool (!countsB d.kn d.un k))
 | 143 => some (sDpp fun d k j => .bool (!isOfB d k j))
 | 77 => some (sDp2 fun d a b => .bool (d.pa == a && d.no == b))
 | _ => none
theorem K21_sound : ∀ f s, K21 f = some s → SSound Tryz.prog f s := by
 intro f s h
 unfold K21 at h
 split at h
 ·cases h; exact s141.sound
 ·cases h; exact s143.sound
 ·cases h; exact s77.sound
 ·cases h
theorem frzV {obj : Name → Option O} {n : Nat} {x : V} : frz (n + 1) obj (.v x) = ⟨True, x, obj⟩ := rfl
theorem s140 : PSound Tryz.prog 140 pIdx := by
 refine psoundB (rs := [.tmp 4]) Tryz.func140 Tryz.ntmps140 (by rfl) (by kernel_rfl) (by decide) (by rintro _ xs ⟨l, g, caps, rfl, _⟩; rfl) ?_
 obtain ⟨c, hc, _⟩ := w140 K21_sound (g := 141) (caps := [.ptr [vInt 0]]) (p := fun d => !countsB d.kn d.un 0) (by decide) (show K21 141 = some _ from rfl) (fun obj t d => by
  simp only [sDp, PSpec.toSpec, pDp, frzL, frzV, List.map_cons, List.map_nil, decD_enc]
  congr 1
  simp only [eq_iff_iff, iff_true]
  exact ⟨⟨trivial, trivial, trivial⟩, d, 0, rfl⟩) [] (by simp)
 refine ⟨c, hc, ?_⟩
 rintro xs ⟨l, g, caps, rfl, hf⟩ hw
 have hl : l.length ≤ maxLen := by have := hw.1.1; simpa using this
 refine ⟨Nat.le_of_ble_eq_true rfl, ?_⟩
 have key : ∃ c', Tryz.f140.body = some c' ∧ CL Tryz.prog [c'] (mkS 19 [0] (fun _ => none) (argsL 0 [.sl (l.map encD), .clo (.func g) [] caps]) []) (retK Tryz.prog [.tmp 4] (vInt (firstI (pV g caps) l))) := by
  rcases hf with ⟨rfl, k, rfl⟩ | ⟨rfl, k, j, rfl⟩ | ⟨rfl, k, j, rfl⟩
  ·refine w140 K21_sound (by decide) (show K21 141 = some _ from rfl) (fun obj t d => ?_) l hl
   simp only [sDp, PSpec.toSpec, pDp, frzL, frzV, List.map_cons, List.map_nil, decD_enc, pV]
   congr 1
   simp only [eq_iff_iff, iff_true]
   exact ⟨⟨trivial, trivial, trivial⟩, d, k, rfl⟩
  ·refine w140 K21_sound (by decide) (show K21 143 = some _ from rfl) (fun obj t d => ?_) l hl
   simp only [sDpp, PSpec.toSpec, pDpp, frzL, frzV, List.map_cons, List.map_nil, decD_enc, pV]
   congr 1
   simp only [eq_iff_iff, iff_true]
   exact ⟨⟨trivial, trivial, trivial, trivial⟩, d, k, j, rfl⟩
  ·refine w140 K21_sound (by decide) (show K21 77 = some _ from rfl) (fun obj t d => ?_) l hl
   simp only [sDp2, PSpec.toSpec, pDp2, frzL, frzV, List.map_cons, List.map_nil, decD_enc, pV]
   congr 1
   simp only [eq_iff_iff, iff_true]
   exact ⟨⟨trivial, trivial, trivial⟩, d, k, j, rfl⟩
 obtain ⟨c', hc', h⟩ := key
 rw [hc] at hc'
 cases hc'
 simp only [pIdx, decD_map]
 exact h
def sIdx : Spec := pIdx.toSpec
def K22 : FuncId → Option Spec := fun f => match f with
 | 140 => some sIdx
 | f => K21 f
theorem K22_sound : ∀ f s, K22 f = some s → SSound Tryz.prog f s := by
 intro f s h
 unfold K22 at h
 split at h
 ·cases h; exact s140.sound
 ·exact K21_sound _ _ h
theorem frzB1 {obj : Name → Option O} {n : Nat} {b : Name} {k : Int} (h : obj b = some (.box [.v (vInt k)])) : frz (n + 2) obj (.ref b 0) = ⟨True, .ptr [vInt k], upd obj b (some (.fbox [vInt k]))⟩ := by
 simp only [frz, h, frzL]
 simp
theorem frzB2 {obj : Name → Option O} {n : Nat} {b : Name} {k j : Int} (h : obj b = some (.box [.v (vInt k), .v (vInt j)])) : frz (n + 2) obj (.ref b 0) = ⟨True, .ptr [vInt k, vInt j], upd obj b (some (.fbox [vInt k, vInt j]))⟩ := by
 simp only [frz, h, frzL]
 simp
theorem frzM {obj : Name → Option O} {n sz k : Nat} {nm : Name} {L : List V} (h : obj nm = some (.arr sz L)) (hk : k = L.length) : frz (n + 1) obj (.msl nm k) = ⟨True, .sl L, upd obj nm (some (.farr sz L))⟩ := by
 simp only [frz, h, hk]
theorem frzC {obj : Name → Option O} {n : Nat} {fn : Fn} {c : List D} : frz (n + 1) obj (.clo fn [] c) = ⟨True ∧ (frzL (frz n) obj c).ok, .clo fn [] (frzL (frz n) obj c).xs, (frzL (frz n) obj c).obj⟩ := rfl
theorem sIdx_1 {obj : Name → Option O} {t nm b : Name} {n : Nat} {l : List Deed} {k : Int} (hb : b ≠ nm) (ho : obj nm = some (.arr 9 (l.map encD))) (hn : n = l.length) (h : obj b = some (.box [.v (vInt k)])) :
  sIdx.app obj t [.msl nm n, .clo (.func 141) [] [.ref b 0]] = ⟨True, .v (vInt (firstI (fun d => !countsB d.kn d.un k) l)), obj⟩ := by
 have e : ∃ o', frzL (frz 6) obj [.msl nm n, .clo (.func 141) [] [.ref b 0]] = ⟨True, [.sl (l.map encD), .clo (.func 141) [] [.ptr [vInt k]]], o'⟩ := by
  have h' : (upd obj nm (some (.farr 9 (l.map encD)))) b = some (.box [.v (vInt k)]) := by rw [upd_ne _ _ _ hb]; exact h
  simp only [frzL, frzM ho (show n = (l.map encD).length by simpa using hn), frzC, frzB1 h', and_self]
  exact ⟨_, rfl⟩
 obtain ⟨o', e⟩ := e
 simp only [sIdx, PSpec.toSpec, e, pIdx, decD_map, pV, if_true]
 congr 1
 simp only [eq_iff_iff, iff_true]
 exact ⟨trivial, l, 141, _, rfl, .inl ⟨rfl, k, rfl⟩⟩
theorem sIdx_2 {obj : Name → Option O} {t nm b b' : Name} {n : Nat} {l : List Deed} {k j : Int} (hb : b ≠ nm) (hb' : b' ≠ nm) (hbb : b' ≠ b) (ho : obj nm = some (.arr 9 (l.map encD))) (hn : n = l.length) (h : obj b = some (.box [.v (vInt k)])) (h2 : obj b' = some (.box [.v (vInt j)])) :
  sIdx.app obj t [.msl nm n, .clo (.func 143) [] [.ref b 0, .ref b' 0]] = ⟨True, .v (vInt (firstI (fun d => !isOfB d k j) l)), obj⟩ := by
 have e : ∃ o', frzL (frz 6) obj [.msl nm n, .clo (.func 143) [] [.ref b 0, .ref b' 0]] = ⟨True, [.sl (l.map encD), .clo (.func 143) [] [.ptr [vInt k], .ptr [vInt j]]], o'⟩ := by
  have h' : (upd obj nm (some (.farr 9 (l.map encD)))) b = some (.box [.v (vInt k)]) := by rw [upd_ne _ _ _ hb]; exact h
  have h'' : upd (upd obj nm (some (.farr 9 (l.map encD)))) b (some (.fbox [vInt k])) b' = some (.box [.v (vInt j)]) := by rw [upd_ne _ _ _ hbb, upd_ne _ _ _ hb']; exact h2
  simp only [frzL, frzM ho (show n = (l.map encD).length by simpa using hn), frzC, frzB1 h', frzB1 h'', and_self]
  exact ⟨_, rfl⟩
 obtain ⟨o', e⟩ := e
 simp only [sIdx, PSpec.toSpec, e, pIdx, decD_map, pV, if_true]
 congr 1
 simp only [eq_iff_iff, iff_true]
 exact ⟨trivial, l, 143, _, rfl, .inr (.inl ⟨rfl, k, j, rfl⟩)⟩
theorem sIdx_3 {obj : Name → Option O} {t nm b : Name} {n : Nat} {l : List Deed} {k j : Int} (hb : b ≠ nm) (ho : obj nm = some (.arr 9 (l.map encD))) (hn : n = l.length) (h : obj b = some (.box [.v (vInt k), .v (vInt j)])) :
  sIdx.app obj t [.msl nm n, .clo (.func 77) [] [.ref b 0]] = ⟨True, .v (vInt (firstI (fun d => d.pa == k && d.no == j) l)), obj⟩ := by
 have e : ∃ o', frzL (frz 6) obj [.msl nm n, .clo (.func 77) [] [.ref b 0]] = ⟨True, [.sl (l.map encD), .clo (.func 77) [] [.ptr [vInt k, vInt j]]], o'⟩ := by
  have h' : (upd obj nm (some (.farr 9 (l.map encD)))) b = some (.box [.v (vInt k), .v (vInt j)]) := by rw [upd_ne _ _ _ hb]; exact h
  simp only [frzL, frzM ho (show n = (l.map encD).length by simpa using hn), frzC, frzB2 h', and_self]
  exact ⟨_, rfl⟩
 obtain ⟨o', e⟩ := e
 simp only [sIdx, PSpec.toSpec, e, pIdx, decD_map, pV, if_true]
 congr 1
 simp only [eq_iff_iff, iff_true]
 exact ⟨trivial, l, 77, _, rfl, .inr (.inr ⟨rfl, k, j, rfl⟩)⟩
theorem sDp_1 {g : Deed → Int → V} {obj : Name → Option O} {t b : Name} {d : Deed} {k : Int} (h : obj b = some (.box [.v (vInt k)])) : (sDp g).app obj t [rdD d, .ref b 0] = ⟨True, .v (g d k), obj⟩ := by
 simp only [sDp, PSpec.toSpec, frzL, frzD, frzB1 h, pDp, decD_enc, if_true]
 congr 1
 simp only [eq_iff_iff, iff_true]
 exact ⟨⟨trivial, trivial, trivial⟩, d, k, rfl⟩
theorem sDpp_1 {g : Deed → Int → Int → V} {obj : Name → Option O} {t b b' : Name} {d : Deed} {k j : Int} (hbb : b' ≠ b) (h : obj b = some (.box [.v (vInt k)])) (h2 : obj b' = some (.box [.v (vInt j)])) : (sDpp g).app obj t [rdD d, .ref b 0, .ref b' 0] = ⟨True, .v (g d k j), obj⟩ := by
 have h3 : upd obj b (some (.fbox [vInt k])) b' = some (.box [.v (vInt j)]) := by rw [upd_ne _ _ _ hbb]; exact h2
 simp only [sDpp, PSpec.toSpec, frzL, frzD, frzB1 h, frzB1 h3, pDpp, decD_enc, if_true]
 congr 1
 simp only [eq_iff_iff, iff_true]
 exact ⟨⟨trivial, trivial, trivial, trivial⟩, d, k, j, rfl⟩
theorem sDp2_1 {g : Deed → Int → Int → V} {obj : Name → Option O} {t b : Name} {d : Deed} {k j : Int} (h : obj b = some (.box [.v (vInt k), .v (vInt j)])) : (sDp2 g).app obj t [rdD d, .ref b 0] = ⟨True, .v (g d k j), obj⟩ := by
 simp only [sDp2, PSpec.toSpec, frzL, frzD, frzB2 h, pDp2, decD_enc, if_true]
 congr 1
 simp only [eq_iff_iff, iff_true]
 exact ⟨⟨trivial, trivial, trivial⟩, d, k, j, rfl⟩
theorem sIdx_n1 {obj : Name → Option O} {t b : Name} {k : Int} (h : obj b = some (.box [.v (vInt k)])) : sIdx.app obj t [.nilsl, .clo (.func 141) [] [.ref b 0]] = ⟨True, .v (vInt (-1)), obj⟩ := by
 have e : ∃ o', frzL (frz 6) obj [.nilsl, .clo (.func 141) [] [.ref b 0]] = ⟨True, [.sl (([] : List Deed).map encD), .clo (.func 141) [] [.ptr [vInt k]]], o'⟩ := by
  have h0 : frz 6 obj .nilsl = ⟨True, .sl [], obj⟩ := rfl
  simp only [frzL, h0, frzC, frzB1 h, and_self]
  exact ⟨_, rfl⟩
 obtain ⟨o', e⟩ := e
 simp only [sIdx, PSpec.toSpec, e, pIdx, decD_map, pV, if_true]
 congr 1
 simp only [eq_iff_iff, iff_true]
 exact ⟨trivial, [], 141, _, rfl, .inl ⟨rfl, k, rfl⟩⟩
theorem sIdx_n2 {obj : Name → Option O} {t b b' : Name} {k j : Int} (hbb : b' ≠ b) (h : obj b = some (.box [.v (vInt k)])) (h2 : obj b' = some (.box [.v (vInt j)])) : sIdx.app obj t [.nilsl, .clo (.func 143) [] [.ref b 0, .ref b' 0]] = ⟨True, .v (vInt (-1)), obj⟩ := by
 have e : ∃ o', frzL (frz 6) obj [.nilsl, .clo (.func 143) [] [.ref b 0, .ref b' 0]] = ⟨True, [.sl (([] : List Deed).map encD), .clo (.func 143) [] [.ptr [vInt k], .ptr [vInt j]]], o'⟩ := by
  have h0 : frz 6 obj .nilsl = ⟨True, .sl [], obj⟩ := rfl
  have h3 : upd obj b (some (.fbox [vInt k])) b' = some (.box [.v (vInt j)]) := by rw [upd_ne _ _ _ hbb]; exact h2
  simp only [frzL, h0, frzC, frzB1 h, frzB1 h3, and_self]
  exact ⟨_, rfl⟩
 obtain ⟨o', e⟩ := e
 simp only [sIdx, PSpec.toSpec, e, pIdx, decD_map, pV, if_true]
 congr 1
 simp only [eq_iff_iff, iff_true]
 exact ⟨trivial, [], 143, _, rfl, .inr (.inl ⟨rfl, k, j, rfl⟩)⟩
theorem sIdx_n3 {obj : Name → Option O} {t b : Name} {k j : Int} (h : obj b = some (.box [.v (vInt k), .v (vInt j)])) : sIdx.app obj t [.nilsl, .clo (.func 77) [] [.ref b 0]] = ⟨True, .v (vInt (-1)), obj⟩ := by
 have e : ∃ o', frzL (frz 6) obj [.nilsl, .clo (.func 77) [] [.ref b 0]] = ⟨True, [.sl (([] : List Deed).map encD), .clo (.func 77) [] [.ptr [vInt k, vInt j]]], o'⟩ := by
  have h0 : frz 6 obj .nilsl = ⟨True, .sl [], obj⟩ := rfl
  simp only [frzL, h0, frzC, frzB2 h, and_self]
  exact ⟨_, rfl⟩
 obtain ⟨o', e⟩ := e
 simp only [sIdx, PSpec.toSpec, e, pIdx, decD_map, pV, if_true]
 congr 1
 simp only [eq_iff_iff, iff_true]
 exact ⟨trivial, [], 77, _, rfl, .inr (.inr ⟨rfl, k, j, rfl⟩)⟩
end Go.Eng
namespace Go.Eng
open Go Go.Proofs
def pO (g : FuncId) (bs : List O) : Deed → Bool := match g, bs with
 | 141, [.box [.v (.int _ k)]] => fun d => !countsB d.kn d.un k
 | 143, [.box [.v (.int _ lo)], .box [.v (.int _ pe)]] => fun d => !isOfB d lo pe
 | 77, [.box [.v (.int _ a), .v (.int _ b)]] => fun d => d.pa == a && d.no == b
 | _, _ => fun _ => false
def famO (g : FuncId) (bs : List O) (refs : List D) : Prop :=
 (g = 141 ∧ refs = [.ref [1, 1] 0] ∧ ∃ k, bs = [.box [.v (vInt k)]]) ∨ (g = 143 ∧ refs = [.ref [1, 1] 0, .ref [2, 1] 0] ∧ ∃ k j, bs = [.box [.v (vInt k)], .box [.v (vInt j)]]) ∨
  (g = 77 ∧ refs = [.ref [1, 1] 0] ∧ ∃ k j, bs = [.box [.v (vInt k), .v (vInt j)]])
def famN (g : FuncId) (bs : List O) (refs : List D) : Prop :=
 (g = 141 ∧ refs = [.ref [0, 1] 0] ∧ ∃ k, bs = [.box [.v (vInt k)]]) ∨ (g = 143 ∧ refs = [.ref [0, 1] 0, .ref [1, 1] 0] ∧ ∃ k j, bs = [.box [.v (vInt k)], .box [.v (vInt j)]]) ∨
  (g = 77 ∧ refs = [.ref [0, 1] 0] ∧ ∃ k j, bs = [.box [.v (vInt k), .v (vInt j)]])
set_option maxRecDepth 10000 in
theorem w75n {Γ : FuncId → Option Spec} (hΓ : ∀ f s, Γ f = some s → SSound Tryz.prog f s) {g : FuncId} {sI : Spec} {refs : List D} (hI : Γ 140 = some sI)
  {H : Name → Option O} (hO1 : ∀ hs, OutC [0] (domOf [0] hs) H = True) (hcl : ∀ hs, D.closL (domOf [0] hs) refs = true)
  (hi : ∀ (obj : Name → Option O) (t : Name), (∀ i, obj [i, 1] = H [i, 1]) → sI.app obj t [.nilsl, .clo (.func g) [] refs] = ⟨True, .v (vInt (-1)), obj⟩) :
  ∃ c, Tryz.f75.body = some c ∧ CL Tryz.prog [c] (mkS 42 [0] H [(0, ⟨true, .nilsl⟩), (1, ⟨true, .clo (.func g) [] refs⟩)] []) (fun e σ => (e = .normal ∨ e = .ret) ∧ (σ.env 4).c = true ∧ (σ.env 4).d = .nilsl ∧ ∀ i, σ.obj [i, 1] = H [i, 1]) := by
 refine ⟨_, rfl, ?_⟩
 repeat refine cl_seq ?_
 refine cl_rs hΓ [0,1] [] fun K' hK => ?_
 simp only [go_sem, hO1, hcl]
 repeat (refine ⟨ob, ?_⟩)
 refine hK _ ?_ ?_ <;> clear K' hK <;> simp only [go_sem, hO1, hcl]
 repeat refine cl_seq ?_
 refine cl_rs hΓ [0,1,5] [] fun K' hK => ?_
 simp only [go_sem, hO1, hcl, hI, hi, implies_true]
 repeat (refine ⟨ob, ?_⟩)
 refine hK _ ?_ ?_ <;> clear K' hK <;> simp only [go_sem, hO1, hcl, hI, hi, implies_true]
 repeat refine cl_seq ?_
 refine cl_rs hΓ [0,1,5,12] [] fun K' hK => ?_
 simp only [go_sem, hO1, hcl]
 repeat (refine ⟨ob, ?_⟩)
 refine hK _ ?_ ?_ <;> clear K' hK <;> simp only [go_sem, hO1, hcl]
 repeat refine cl_seq ?_
 refine cl_cond rfl rfl (fun hb => ?_) (fun hb => ?_)
 ·repeat refine cl_seq ?_
  repeat refine cl_seq ?_
  refine cl_rs hΓ [4] [] fun K' hK => ?_
  simp only [go_sem, hO1]
  repeat (refine ⟨ob, ?_⟩)
  refine hK _ ?_ ?_ <;> clear K' hK <;> simp only [go_sem, hO1]
  refine cl_ret ?_
  simp only [go_sem]
  first | exact .inr trivial | exact ⟨.inr trivial, fun i => rfl⟩
 ·simp at hb
open Classical in
noncomputable def delOut (p : Deed → Bool) (l : List Deed) : Out :=
 if ∀ d ∈ l, p d = false then ⟨[], [], .msl [0, 1] l.length⟩ else ⟨[(0, .farr 9 (delZ p l))], [], .v (.sl ((keepD p l).map encD))⟩
noncomputable def delC : CSpec where
 pre := fun os ds => (∃ (l : List Deed) (g : FuncId) (bs : List O) (refs : List D), os = .arr 9 (l.map encD) :: bs ∧ ds = [.msl [0, 1] l.length, .clo (.func g) [] refs] ∧ famO g bs refs ∧ l.length < 1000000) ∨
  ∃ (g : FuncId) (refs : List D), ds = [.nilsl, .clo (.func g) [] refs] ∧ famN g os refs
 out := fun os ds => match os, ds with
  | .arr _ L :: bs, [.msl _ _, .clo (.func g) _ _] => delOut (pO g bs) (L.map decD)
  | _, _ => ⟨[], [], .nilsl⟩
theorem delC_out {l : List Deed} {g : FuncId} {bs : List O} {refs : List D} {nm : Name} {k : Nat} : delC.out (.arr 9 (l.map encD) :: bs) [.msl nm k, .clo (.func g) [] refs] = delOut (pO g bs) l := by
 simp only [delC, decD_map]
theorem s75 : SSound Tryz.prog 75 delC.toSpec := by
 refine csound (nt := 42) (rs := [.tmp 4]) Tryz.func75 rfl (by rfl) (by kernel_rfl) (enter_of Tryz.func75 rfl (by kernel_rfl)) (notYid _ (by decide)) ?_
 rintro os ds (⟨l, g, bs, refs, rfl, rfl, hf, hl⟩ | ⟨g, refs, rfl, hf⟩)
 rotate_left
 ·refine ⟨Nat.le_of_ble_eq_true rfl, ?_⟩
  have hout : delC.out os [.nilsl, .clo (.func g) [] refs] = ⟨[], [], .nilsl⟩ := by
   simp only [delC]
  rw [hout]
  have hbc : ∀ o ∈ os, ∀ dom : Name → Bool, (∀ i, dom [i, 1] = true) → O.clos dom o = true := by
   rcases hf with ⟨_, _, k, rfl⟩ | ⟨_, _, k, j, rfl⟩ | ⟨_, _, k, j, rfl⟩
   ·intro o ho dom _; simp only [List.mem_singleton] at ho; subst ho; rfl
   ·intro o ho dom _
    simp only [List.mem_cons, List.not_mem_nil, or_false] at ho
    rcases ho with rfl | rfl <;> rfl
   ·intro o ho dom _; simp only [List.mem_singleton] at ho; subst ho; rfl
  have hO1 : ∀ hs, OutC [0] (domOf [0] hs) (outH os) = True := fun hs => eq_true (outC_outs hbc hs)
  have hcl : ∀ hs, D.closL (domOf [0] hs) refs = true := by
   intro hs
   have h1 : domOf [0] hs [1, 1] = true := by simp only [domOf, own_out01, Bool.not_false, Bool.true_or]
   have h2 : domOf [0] hs [0, 1] = true := by simp only [domOf, own_out01, Bool.not_false, Bool.true_or]
   rcases hf with ⟨_, rfl, _⟩ | ⟨_, rfl, _⟩ | ⟨_, rfl, _⟩ <;> simp only [D.closL, D.clos, h1, h2, Bool.and_self]
  have key : ∃ c, Tryz.f75.body = some c ∧ CL Tryz.prog [c] (mkS 42 [0] (outH os) [(0, ⟨true, .nilsl⟩), (1, ⟨true, .clo (.func g) [] refs⟩)] []) (fun e σ => (e = .normal ∨ e = .ret) ∧ (σ.env 4).c = true ∧ (σ.env 4).d = .nilsl ∧ ∀ i, σ.obj [i, 1] = outH os [i, 1]) := by
   rcases hf with ⟨rfl, rfl, k, rfl⟩ | ⟨rfl, rfl, k, j, rfl⟩ | ⟨rfl, rfl, k, j, rfl⟩
   ·exact w75n K22_sound (show K22 140 = some _ from rfl) hO1 hcl (fun obj t hb => sIdx_n1 ((hb 0).trans rfl))
   ·exact w75n K22_sound (show K22 140 = some _ from rfl) hO1 hcl (fun obj t hb => sIdx_n2 (by decide) ((hb 0).trans rfl) ((hb 1).trans rfl))
   ·exact w75n K22_sound (show K22 140 = some _ from rfl) hO1 hcl (fun obj t hb => sIdx_n3 ((hb 0).trans rfl))
  obtain ⟨c, hc, h⟩ := key
  have hc2 : ∀ c2, Tryz.f75.body = some c2 → c2 = c := fun c2 h2 => by rw [h2] at hc; exact Option.some.inj hc
  rw [← hc2 _ rfl] at h
  refine CW.mono (cl_of h) ?_
  rintro e σ ⟨he, hc4, h1, h2⟩
  have hb : ∀ (bs' : List O) (k : Nat), (∀ i, σ.obj [k + i, 1] = bs'[i]?) → objsOk σ [] k bs' := by
   intro bs'
   induction bs' with
   | nil => intros; trivial
   | cons o r ih =>
    intro k hk
    refine ⟨?_, ih (k + 1) fun i => ?_⟩
    ·have h0 := hk 0
     simpa [lastU] using h0
    ·have := hk (i + 1)
     rw [List.getElem?_cons_succ] at this
     rw [show k + 1 + i = k + (i + 1) by omega]
     exact this
  have hret : (resAll Tryz.prog σ [.tmp 4]).ok ∧ (resAll Tryz.prog σ [.tmp 4]).d = .nilsl ∧ endC os ⟨[], [], .nilsl⟩ σ := by
   refine ⟨hc4, h1, hb os 0 fun i => ?_, trivial, ?_⟩
   ·rw [Nat.zero_add, h2 i]; rfl
   ·simp [D.clos, distinct]
  rcases he with rfl | rfl
  ·exact hret
  ·exact hret
 refine ⟨Nat.le_of_ble_eq_true rfl, ?_⟩
 rw [delC_out]
 have hH0 : outH (.arr 9 (l.map encD) :: bs) [0, 1] = some (.arr 9 (l.map encD)) := rfl
 have hbc : ∀ o ∈ bs, ∀ dom : Name → Bool, (∀ i, dom [i, 1] = true) → O.clos dom o = true := by
  rcases hf with ⟨_, _, k, rfl⟩ | ⟨_, _, k, j, rfl⟩ | ⟨_, _, k, j, rfl⟩
  ·intro o ho dom _; simp only [List.mem_singleton] at ho; subst ho; rfl
  ·intro o ho dom _
   simp only [List.mem_cons, List.not_mem_nil, or_false] at ho
   rcases ho with rfl | rfl <;> rfl
  ·intro o ho dom _; simp only [List.mem_singleton] at ho; subst ho; rfl
 have hO1 : ∀ hs, OutC [0] (domOf [0] hs) (outH (.arr 9 (l.map encD) :: bs)) = True := fun hs => eq_true (outC_outs (fun o ho dom hd => by
  rcases List.mem_cons.1 ho with rfl | ho
  ·rfl
  ·exact hbc o ho dom hd) hs)
 have hO2 : ∀ hs sz L, OutC [0] (domOf [0] hs) (upd (outH (.arr 9 (l.map encD) :: bs)) [0, 1] (some (.arr sz L))) = True := fun hs sz L => eq_true (OutC_set rfl ((hO1 hs).symm ▸ trivial))
 have hO3 : ∀ hs sz L, OutC [0] (domOf [0] hs) (upd (outH (.arr 9 (l.map encD) :: bs)) [0, 1] (some (.farr sz L))) = True := fun hs sz L => eq_true (OutC_set rfl ((hO1 hs).symm ▸ trivial))
 have hcl : ∀ hs, D.closL (domOf [0] hs) refs = true := by
  intro hs
  have h1 : domOf [0] hs [1, 1] = true := by simp only [domOf, own_out01, Bool.not_false, Bool.true_or]
  have h2 : domOf [0] hs [2, 1] = true := by simp only [domOf, own_out01, Bool.not_false, Bool.true_or]
  rcases hf with ⟨_, rfl, _⟩ | ⟨_, rfl, _⟩ | ⟨_, rfl, _⟩ <;> simp only [D.closL, D.clos, h1, h2, Bool.and_self]
 have key : ∃ c, Tryz.f75.body = some c ∧ CL Tryz.prog [c] (mkS 42 [0] (outH (.arr 9 (l.map encD) :: bs)) [(0, ⟨true, .msl [0, 1] l.length⟩), (1, ⟨true, .clo (.func g) [] refs⟩)] []) (fun e σ => (e = .normal ∨ e = .ret) ∧ (σ.env 4).c = true ∧
   ((∀ d ∈ l, pO g bs d = false) ∧ (σ.env 4).d = .msl [0, 1] l.length ∧ σ.obj [0, 1] = some (.arr 9 (l.map encD)) ∧ (∀ i, σ.obj [i + 1, 1] = outH (.arr 9 (l.map encD) :: bs) [i + 1, 1]) ∨
    (¬ ∀ d ∈ l, pO g bs d = false) ∧ (σ.env 4).d = .v (.sl ((keepD (pO g bs) l).map encD)) ∧ σ.obj [0, 1] = some (.farr 9 (delZ (pO g bs) l)) ∧ (∀ i, σ.obj [i + 1, 1] = outH (.arr 9 (l.map encD) :: bs) [i + 1, 1]))) := by
  rcases hf with ⟨rfl, rfl, k, rfl⟩ | ⟨rfl, rfl, k, j, rfl⟩ | ⟨rfl, rfl, k, j, rfl⟩
  ·exact w75 K22_sound (by decide) (show K22 141 = some _ from rfl) (show K22 140 = some _ from rfl) hl hH0 hO1 hO2 hO3 hcl
    (fun obj t h0 hb => sIdx_1 (by decide) h0 rfl ((hb 0).trans rfl)) fun obj t d hb => sDp_1 ((hb 0).trans rfl)
  ·exact w75 K22_sound (by decide) (show K22 143 = some _ from rfl) (show K22 140 = some _ from rfl) hl hH0 hO1 hO2 hO3 hcl
    (fun obj t h0 hb => sIdx_2 (by decide) (by decide) (by decide) h0 rfl ((hb 0).trans rfl) ((hb 1).trans rfl)) fun obj t d hb => sDpp_1 (by decide) ((hb 0).trans rfl) ((hb 1).trans rfl)
  ·exact w75 K22_sound (by decide) (show K22 77 = some _ from rfl) (show K22 140 = some _ from rfl) hl hH0 hO1 hO2 hO3 hcl
    (fun obj t h0 hb => sIdx_3 (by decide) h0 rfl ((hb 0).trans rfl)) fun obj t d hb => sDp2_1 ((hb 0).trans rfl)
 obtain ⟨c, hc, h⟩ := key
 obtain ⟨c', hc', h'⟩ : ∃ c', Tryz.f75.body = some c' ∧ c' = c := ⟨c, hc, rfl⟩
 have e : Tryz.f75.body = some c := hc
 have fin : ∀ e σ, ((e = .normal ∨ e = .ret) ∧ (σ.env 4).c = true ∧
   ((∀ d ∈ l, pO g bs d = false) ∧ (σ.env 4).d = .msl [0, 1] l.length ∧ σ.obj [0, 1] = some (.arr 9 (l.map encD)) ∧ (∀ i, σ.obj [i + 1, 1] = outH (.arr 9 (l.map encD) :: bs) [i + 1, 1]) ∨
    (¬ ∀ d ∈ l, pO g bs d = false) ∧ (σ.env 4).d = .v (.sl ((keepD (pO g bs) l).map encD)) ∧ σ.obj [0, 1] = some (.farr 9 (delZ (pO g bs) l)) ∧ (∀ i, σ.obj [i + 1, 1] = outH (.arr 9 (l.map encD) :: bs) [i + 1, 1]))) →
   retC Tryz.prog [.tmp 4] (.arr 9 (l.map encD) :: bs) (delOut (pO g bs) l) e σ := by
  rintro e σ ⟨he, hc4, h⟩
  have hb : ∀ (bs' : List O) (u : List (Nat × O)) (k : Nat), (∀ x ∈ u, x.1 = 0) → (∀ i, σ.obj [k + 1 + i, 1] = bs'[i]?) → objsOk σ u (k + 1) bs' := by
   intro bs'
   induction bs' with
   | nil => intros; trivial
   | cons o r ih =>
    intro u k hu hk
    refine ⟨?_, ih u (k + 1) hu fun i => ?_⟩
    ·have h0 := hk 0
     simp only [Nat.add_zero, List.getElem?_cons_zero] at h0
     rw [h0]
     have : ∀ (u : List (Nat × O)) (q : O), (∀ x ∈ u, x.1 = 0) → lastU u (k + 1) q = q := by
      intro u
      induction u with
      | nil => intros; rfl
      | cons a v iv =>
       intro q hq
       obtain ⟨a1, a2⟩ := a
       have : a1 = 0 := hq (a1, a2) (by simp)
       subst this
       simp only [lastU, if_neg (show ¬ 0 = k + 1 by omega)]
       exact iv q fun x hx => hq x (by simp [hx])
     rw [this u o hu]
    ·have := hk (i + 1)
     rw [List.getElem?_cons_succ] at this
     rw [show k + 1 + 1 + i = k + 1 + (i + 1) by omega]
     exact this
  have hret : (resAll Tryz.prog σ [.tmp 4]).ok ∧ (resAll Tryz.prog σ [.tmp 4]).d = (delOut (pO g bs) l).d ∧ endC (.arr 9 (l.map encD) :: bs) (delOut (pO g bs) l) σ := by
   refine ⟨hc4, ?_, ?_⟩
   ·show (σ.env 4).d = _
    unfold delOut
    rcases h with ⟨h1, h2, _⟩ | ⟨h1, h2, _⟩
    ·rw [if_pos h1, h2]
    ·rw [if_neg h1, h2]
   ·unfold delOut
    rcases h with ⟨h1, _, h3, h4⟩ | ⟨h1, _, h3, h4⟩
    ·rw [if_pos h1]
     refine ⟨⟨h3, hb bs [] 0 (by simp) fun i => ?_⟩, trivial, ?_⟩
     ·rw [show 0 + 1 + i = i + 1 by omega, h4 i]; rfl
     ·simp [D.clos, domC, distinct]
    ·rw [if_neg h1]
     refine ⟨⟨h3, hb bs _ 0 (by simp) fun i => ?_⟩, trivial, ?_⟩
     ·rw [show 0 + 1 + i = i + 1 by omega, h4 i]; rfl
     ·simp [D.clos, O.clos, distinct]
  rcases he with rfl | rfl
  ·exact hret
  ·exact hret
 have hc2 : ∀ c2, Tryz.f75.body = some c2 → c2 = c := fun c2 h2 => by rw [h2] at hc; exact Option.some.inj hc
 rw [← hc2 _ rfl] at h
 exact CW.mono (cl_of h) fin
noncomputable def sDel : Spec := delC.toSpec
theorem reach1 {obj : Name → Option O} {nm b : Name} {n sz g : Nat} {L : List V} {cs : List V} (hb : b ≠ nm) (ho : obj nm = some (.arr sz L)) (h : obj b = some (.box (cs.map .v))) :
  reach obj [.msl nm n, .clo (.func g) [] [.ref b 0]] = [nm, b] := by
 have h0 : namesL [.msl nm n, .clo (.func g) [] [.ref b 0]] = [nm, b] := rfl
 have hn : ∀ cs : List V, namesL (cs.map D.v) = [] := by
  intro cs
  induction cs with
  | nil => rfl
  | cons x r ih => simp only [List.map_cons, namesL, namesD, List.nil_append, ih]
 have hnb : (nm == b) = false := by simpa using fun e => hb e.symm
 unfold reach
 rw [h0]
 show reachL obj (2997 + 1 + 1 + 1) [nm, b] [] = [nm, b]
 simp only [reachL, inL, List.any_nil, Bool.false_eq_true, if_false, ho, h, namesO, List.nil_append, hn, List.any_cons, hnb, Bool.or_self]
 rfl
theorem del_app1 {obj : Name → Option O} {t nm b : Name} {n g : Nat} {l : List Deed} {cs : List V} {bs : List O} (hbs : bs = [.box (cs.map .v)]) (hf : famO g bs [.ref [1, 1] 0]) (hl : l.length < 1000000) (hb : b ≠ nm) (ho : obj nm = some (.arr 9 (l.map encD))) (hn : n = l.length) (h : obj b = some (.box (cs.map .v))) :
  ((∀ d ∈ l, pO g bs d = false) → sDel.app obj t [.msl nm n, .clo (.func g) [] [.ref b 0]] = ⟨True, .msl nm l.length, obj⟩) ∧
  (¬ (∀ d ∈ l, pO g bs d = false) → sDel.app obj t [.msl nm n, .clo (.func g) [] [.ref b 0]] = ⟨True, .v (.sl ((keepD (pO g bs) l).map encD)), upd obj nm (some (.farr 9 (delZ (pO g bs) l)))⟩) := by
 subst hn
 have hr := reach1 (n := l.length) (g := g) hb ho h
 have hren : ∀ (f : Name → Name) (cs : List V), D.renL f (cs.map D.v) = cs.map D.v := by
  intro f cs
  induction cs with
  | nil => rfl
  | cons x r ih => simp only [List.map_cons, D.renL, D.ren, ih]
 have hcl : ∀ (dom : Name → Bool) (cs : List V), D.closL dom (cs.map D.v) = true := by
  intro dom cs
  induction cs with
  | nil => rfl
  | cons x r ih => simp only [List.map_cons, D.closL, D.clos, ih, Bool.and_self]
 have h1 : cOs obj [.msl nm l.length, .clo (.func g) [] [.ref b 0]] = .arr 9 (l.map encD) :: bs := by
  unfold cOs
  rw [hr]
  simp only [List.map_cons, List.map_nil, canonO, ho, h, O.ren, hren, hbs]
 have hib : idx [nm, b] b = 1 := by simp [idx, hb.symm]
 have hin : idx [nm, b] nm = 0 := by simp [idx]
 have h2 : cDs obj [.msl nm l.length, .clo (.func g) [] [.ref b 0]] = [.msl [0, 1] l.length, .clo (.func g) [] [.ref [1, 1] 0]] := by
  unfold cDs
  rw [hr]
  simp only [D.renL, D.ren, cin, hib, hin]
 have hpre : delC.pre (.arr 9 (l.map encD) :: bs) [.msl [0, 1] l.length, .clo (.func g) [] [.ref [1, 1] 0]] := .inl ⟨l, g, bs, _, rfl, rfl, hf, hl⟩
 have e1 : ∀ o : Out, o.new = [] → (shut obj [nm, b] && D.closL (inL [nm, b]) [.msl nm l.length, .clo (.func g) [] [.ref b 0]] && fresh obj t o.new) = true := by
  intro o h0
  rw [h0]
  simp [shut, ho, h, O.clos, D.closL, D.clos, hcl, inL, fresh]
 constructor
 ·intro ha
  have hout : delC.out (.arr 9 (l.map encD) :: bs) [.msl [0, 1] l.length, .clo (.func g) [] [.ref [1, 1] 0]] = ⟨[], [], .msl [0, 1] l.length⟩ := by
   rw [delC_out]; unfold delOut; rw [if_pos ha]
  unfold sDel
  simp only [CSpec.toSpec, h1, h2, hr, hout, e1 ⟨[], [], .msl [0, 1] l.length⟩ rfl, putU, putN, D.ren, cout, List.getD_cons_zero]
  congr 1
  simp only [eq_iff_iff, iff_true]
  exact ⟨trivial, hpre⟩
 ·intro ha
  have hout : delC.out (.arr 9 (l.map encD) :: bs) [.msl [0, 1] l.length, .clo (.func g) [] [.ref [1, 1] 0]] = ⟨[(0, .farr 9 (delZ (pO g bs) l))], [], .v (.sl ((keepD (pO g bs) l).map encD))⟩ := by
   rw [delC_out]; unfold delOut; rw [if_neg ha]
  unfold sDel
  simp only [CSpec.toSpec, h1, h2, hr, hout, e1 ⟨[(0, .farr 9 (delZ (pO g bs) l))], [], .v (.sl ((keepD (pO g bs) l).map encD))⟩ rfl, putU, putN, D.ren, O.ren, List.getD_cons_zero]
  congr 1
  simp only [eq_iff_iff, iff_true]
  exact ⟨trivial, hpre⟩
theorem del_appN {obj : Name → Option O} {t b : Name} {g : Nat} {cs : List V} {bs : List O} (hbs : bs = [.box (cs.map .v)]) (hf : famN g bs [.ref [0, 1] 0]) (h : obj b = some (.box (cs.map .v))) :
  sDel.app obj t [.nilsl, .clo (.func g) [] [.ref b 0]] = ⟨True, .nilsl, obj⟩ := by
 have hn : ∀ cs : List V, namesL (cs.map D.v) = [] := by
  intro cs
  induction cs with
  | nil => rfl
  | cons x r ih => simp only [List.map_cons, namesL, namesD, List.nil_append, ih]
 have hr : reach obj [.nilsl, .clo (.func g) [] [.ref b 0]] = [b] := by
  have h0 : namesL [.nilsl, .clo (.func g) [] [.ref b 0]] = [b] := rfl
  unfold reach
  rw [h0]
  show reachL obj (2998 + 1 + 1) [b] [] = [b]
  simp only [reachL, inL, List.any_nil, Bool.false_eq_true, if_false, h, namesO, hn]
  rfl
 have hren : ∀ (f : Name → Name) (cs : List V), D.renL f (cs.map D.v) = cs.map D.v := by
  intro f cs
  induction cs with
  | nil => rfl
  | cons x r ih => simp only [List.map_cons, D.renL, D.ren, ih]
 have hcl : ∀ (dom : Name → Bool) (cs : List V), D.closL dom (cs.map D.v) = true := by
  intro dom cs
  induction cs with
  | nil => rfl
  | cons x r ih => simp only [List.map_cons, D.closL, D.clos, ih, Bool.and_self]
 have h1 : cOs obj [.nilsl, .clo (.func g) [] [.ref b 0]] = bs := by
  unfold cOs
  rw [hr]
  simp only [List.map_cons, List.map_nil, canonO, h, O.ren, hren, hbs]
 have hib : idx [b] b = 0 := by simp [idx]
 have h2 : cDs obj [.nilsl, .clo (.func g) [] [.ref b 0]] = [.nilsl, .clo (.func g) [] [.ref [0, 1] 0]] := by
  unfold cDs
  rw [hr]
  simp only [D.renL, D.ren, cin, hib]
 have hpre : delC.pre bs [.nilsl, .clo (.func g) [] [.ref [0, 1] 0]] := .inr ⟨g, _, rfl, hf⟩
 have hout : delC.out bs [.nilsl, .clo (.func g) [] [.ref [0, 1] 0]] = ⟨[], [], .nilsl⟩ := by
  simp only [delC]
 have e1 : (shut obj [b] && D.closL (inL [b]) [.nilsl, .clo (.func g) [] [.ref b 0]] && fresh obj t []) = true := by
  simp [shut, h, O.clos, D.closL, D.clos, hcl, inL, fresh]
 unfold sDel
 simp only [CSpec.toSpec, h1, h2, hr, hout, e1, putU, putN, D.ren]
 congr 1
 simp only [eq_iff_iff, iff_true]
 exact ⟨trivial, hpre⟩
end Go.Eng
namespace Go.Eng
open Go Go.Proofs
def countL (l : List Deed) (k : Int) : List Deed := l.filter fun d => countsB d.kn d.un k
def thrL (l : List Deed) (lo pe : Int) : List Deed := l.filter fun d => isOfB d lo pe
theorem keep_none {p : Deed → Bool} {l : List Deed} (h : ∀ d ∈ l, p d = false) : keepD p l = l := by
 unfold keepD
 rw [List.filter_eq_self]
 intro d hd; simp [h d hd]
def pLI (P : List Deed → Prop) (f : List Deed → Int → V) (fl : Bool) : PSpec := ⟨fun xs => ∃ (l : List Deed) (k : Int), xs = [.sl (l.map encD), vInt k] ∧ P l, fun xs => match xs with | [.sl l, .int _ k] => f (l.map decD) k | _ => .bool false, fl⟩
theorem pLI_fn (P : List Deed → Prop) (f : List Deed → Int → V) (fl : Bool) (l : List Deed) (k : Int) : (pLI P f fl).fn [.sl (l.map encD), vInt k] = f l k := by
 simp only [pLI, decD_map]
noncomputable def sLI (P : List Deed → Prop) (f : List Deed → Int → V) (fl : Bool) : Spec := (pLI P f fl).toSpec
theorem sLI_app {P : List Deed → Prop} {f : List Deed → Int → V} {fl : Bool} {obj : Name → Option O} {t : Name} {l : List Deed} {k : Int} (h : P l) : (sLI P f fl).app obj t [.v (.sl (l.map encD)), .v (vInt k)] = ⟨True, .v (f l k), obj⟩ := by
 simp only [sLI, PSpec.toSpec, frzL, frz, pLI_fn, ite_self]
 congr 1
 simp only [eq_iff_iff, iff_true]
 exact ⟨⟨trivial, trivial, trivial⟩, l, k, rfl, h⟩
noncomputable def sL (P : List Deed → Prop) (f : List Deed → V) : Spec := (pLen P f).toSpec
theorem sL_app {P : List Deed → Prop} {f : List Deed → V} {obj : Name → Option O} {t : Name} {l : List Deed} (h : P l) : (sL P f).app obj t [.v (.sl (l.map encD))] = ⟨True, .v (f l), obj⟩ := by
 simp only [sL, PSpec.toSpec, frzL, frz, pLen_fn, ite_self]
 congr 1
 simp only [eq_iff_iff, iff_true]
 exact ⟨⟨trivial, trivial⟩, l, rfl, h⟩
noncomputable def K25 : FuncId → Option Spec := fun f => match f with
 | 75 => some sDel
 | 76 => some (cloneSpec Tryz.prog 22)
 | f => K20 f
theorem K25_sound : ∀ f s, K25 f = some s → SSound Tryz.prog f s := by
 intro f s h
 unfold K25 at h
 split at h
 ·cases h; exact s75
 ·cases h; exact clone_sound clone76
 ·exact K20_sound _ _ h
@[go_sem] theorem K25_75 : K25 75 = some sDel := rfl
@[go_sem] theorem K25_76 : K25 76 = some (cloneSpec Tryz.prog 22) := rfl
@[go_sem] theorem K25_144 : K25 144 = some (sDII fun d k j => .bool (isOfB d k j)) := rfl
set_option maxRecDepth 10000
set_option maxHeartbeats 1000000 in
theorem s81 : PSound Tryz.prog 81 (pLI okL (fun l k => .sl ((countL l k).map encD)) false) := by
 refine psoundB (rs := [.tmp 4]) Tryz.func81 Tryz.ntmps81 (by rfl) (by kernel_rfl) (by decide) (fun h => by cases h) ⟨_, rfl, ?_⟩
 rintro xs ⟨l, k, rfl, hok⟩ hw
 have hl := hok.2.2
 refine ⟨Nat.le_of_ble_eq_true rfl, ?_⟩
 rw [pLI_fn]
 have hk : keepD (pO 141 [.box [.v (vInt k)]]) l = countL l k := by unfold keepD countL pO; simp
 have hΓ := K25_sound
 have hP := mixedK
 repeat refine cl_seq ?_
 refine cl_rs hΓ [0,3] [[3, 0]] fun K' hK => ?_
 simp only [go_sem]
 repeat (refine ⟨ob, ?_⟩)
 refine hK _ ?_ ?_ <;> clear K' hK <;> simp only [go_sem]
 have hd := fun (obj : Name → Option O) (t : Name) (ho : obj [6, 0] = _) (h : obj [3, 0] = _) => del_app1 (obj := obj) (t := t) (nm := [6, 0]) (b := [3, 0]) (n := l.length) (g := 141) (l := l) (cs := [vInt k]) (bs := [.box [.v (vInt k)]]) rfl (.inl ⟨rfl, rfl, k, rfl⟩) (by omega) (by decide) ho rfl h
 have hn := fun (obj : Name → Option O) (t : Name) (h : obj [3, 0] = _) => del_appN (obj := obj) (t := t) (b := [3, 0]) (g := 141) (cs := [vInt k]) (bs := [.box [.v (vInt k)]]) rfl (.inl ⟨rfl, rfl, k, rfl⟩) h
 rw [hk] at hd
 simp only [List.map_cons, List.map_nil] at hd hn
 rcases l with _ | ⟨d0, l0⟩
 ·repeat refine cl_seq ?_
  refine cl_rs hΓ [4] [[6, 0]] fun K' hK => ?_
  simp only [go_sem, cloneSpec, aClone, hn]
  repeat (refine ⟨ob, ?_⟩)
  refine hK _ ?_ ?_ <;> clear K' hK <;> simp only [go_sem, cloneSpec, aClone, hn]
  refine cl_ret ?_
  simp only [go_sem]
  rfl
 simp only [List.length_cons] at hd hl
 by_cases hall : ∀ d ∈ d0 :: l0, pO 141 [.box [.v (vInt k)]] d = false
 ·rw [← hk, keep_none hall]
  have hd1 := fun (obj : Name → Option O) (t : Name) ho h => (hd obj t ho h).1 hall
  simp only [List.map_cons, encD] at hd1
  clear hd
  repeat refine cl_seq ?_
  refine cl_rs hΓ [4] [[6, 0]] fun K' hK => ?_
  simp only [go_sem, cloneSpec, aClone, te22, tz35, hd1]
  repeat' apply And.intro
  all_goals first | rfl | omega | exact Int.le_refl _ | exact Bool.or_not_self _ | exact Bool.not_or_self _ | exact enc_okI _ | exact enc_ok _ | exact fun x hx => (enc_okI _ x hx).1 | exact fun x hx => (enc_ok _ x hx).1 | (simp only [List.length_take, List.length_append, List.length_map, List.length_drop, List.length_cons, List.length_nil]; done) | (simp only [List.length_take, List.length_append, List.length_map, List.length_drop, List.length_cons, List.length_nil]; omega) | (simp only [List.length_take, List.length_append, List.length_map, List.length_drop, List.length_cons, List.length_nil, maxLen]; omega) | (exact fun _ => by decide) | (exact fun h => ⟨h, by decide⟩) | (simp only [decide_eq_true_eq]; omega) | skip
  refine hK _ ?_ ?_ <;> clear K' hK <;> simp only [go_sem]
  refine cl_ret ?_
  simp only [go_sem]
 ·have hd1 := fun (obj : Name → Option O) (t : Name) ho h => (hd obj t ho h).2 hall
  simp only [List.map_cons, encD] at hd1
  clear hd
  repeat refine cl_seq ?_
  refine cl_rs hΓ [4] [] fun K' hK => ?_
  simp only [go_sem, cloneSpec, aClone, te22, tz35, hd1]
  repeat' apply And.intro
  all_goals first | rfl | omega | exact Int.le_refl _ | exact Bool.or_not_self _ | exact Bool.not_or_self _ | exact enc_okI _ | exact enc_ok _ | exact fun x hx => (enc_okI _ x hx).1 | exact fun x hx => (enc_ok _ x hx).1 | (simp only [List.length_take, List.length_append, List.length_map, List.length_drop, List.length_cons, List.length_nil]; done) | (simp only [List.length_take, List.length_append, List.length_map, List.length_drop, List.length_cons, List.length_nil]; omega) | (simp only [List.length_take, List.length_append, List.length_map, List.length_drop, List.length_cons, List.length_nil, maxLen]; omega) | (exact fun _ => by decide) | (exact fun h => ⟨h, by decide⟩) | (simp only [decide_eq_true_eq]; omega) | skip
  refine hK _ ?_ ?_ <;> clear K' hK <;> simp only [go_sem]
  refine cl_ret ?_
  simp only [go_sem]
  all_goals rfl
end Go.Eng
namespace Go.Eng
open Go Go.Proofs
@[go_sem] theorem ta68 : tAgg Tryz.prog 68 = some (false, 1) := by kernel_rfl
@[go_sem] theorem te68 : tElem Tryz.prog 68 = some (31, 2, 16) := by kernel_rfl
@[go_sem] theorem tl68 : tLen Tryz.prog 68 = some 0 := by kernel_rfl
@[go_sem] theorem tz68 : tZero Tryz.prog 68 = some (.slice none 0 0) := by kernel_rfl
@[go_sem] theorem ta108 : tAgg Tryz.prog 108 = some (false, 1) := by kernel_rfl
@[go_sem] theorem ta54 : tAgg Tryz.prog 54 = some (false, 1) := by kernel_rfl
@[go_sem] theorem tz54 : tZero Tryz.prog 54 = some .nilFunc := by kernel_rfl
@[go_sem] theorem ta172 : tAgg Tryz.prog 172 = some (false, 1) := by kernel_rfl
@[go_sem] theorem tz172 : tZero Tryz.prog 172 = some .nilFunc := by kernel_rfl
def isFirst (p : Deed → Deed → Bool) (l : List Deed) (i k : Nat) : Prop :=
 ∃ (hi : i < l.length) (hk : k < l.length), i < k ∧ p l[i] l[k] = true ∧ ∀ i' k' (hi' : i' < l.length) (hk' : k' < l.length), i' < k' → (i' < i ∨ i' = i ∧ k' < k) → p l[i'] l[k'] = false
theorem isFirst_uniq {p : Deed → Deed → Bool} {l : List Deed} {i k i' k' : Nat} (h : isFirst p l i k) (h' : isFirst p l i' k') : i = i' ∧ k = k' := by
 obtain ⟨a1, a2, a3, a4, a5⟩ := h
 obtain ⟨b1, b2, b3, b4, b5⟩ := h'
 have h1 : ¬ (i' < i ∨ i' = i ∧ k' < k) := fun hc => by have := a5 i' k' b1 b2 b3 hc; rw [b4] at this; cases this
 have h2 : ¬ (i < i' ∨ i = i' ∧ k < k') := fun hc => by have := b5 i k a1 a2 a3 hc; rw [a4] at this; cases this
 omega
open Classical in
noncomputable def pairI (p : Deed → Deed → Bool) (l : List Deed) : Option (Nat × Nat) := if h : ∃ x : Nat × Nat, isFirst p l x.1 x.2 then some h.choose else none
theorem pairI_some {p : Deed → Deed → Bool} {l : List Deed} {i k : Nat} (h : isFirst p l i k) : pairI p l = some (i, k) := by
 have hx : ∃ x : Nat × Nat, isFirst p l x.1 x.2 := ⟨(i, k), h⟩
 unfold pairI
 rw [dif_pos hx]
 have := isFirst_uniq hx.choose_spec h
 congr 1
 exact Prod.ext this.1 this.2
theorem pairI_none {p : Deed → Deed → Bool} {l : List Deed} (h : ∀ i k (hi : i < l.length) (hk : k < l.length), i < k → p l[i] l[k] = false) : pairI p l = none := by
 unfold pairI
 rw [dif_neg]
 rintro ⟨⟨i, k⟩, a1, a2, a3, a4, _⟩
 rw [h i k a1 a2 a3] at a4; cases a4
theorem pairI_is {p : Deed → Deed → Bool} {l : List Deed} {x : Nat × Nat} (h : pairI p l = some x) : isFirst p l x.1 x.2 := by
 unfold pairI at h
 split at h
 ·rename_i hx
  rw [← Option.some.inj h]
  exact hx.choose_spec
 ·cases h
theorem least {P : Nat → Prop} (h : ∃ n, P n) : ∃ n, P n ∧ ∀ m < n, ¬ P m := by
 obtain ⟨n, hn⟩ := h
 induction n using Nat.strongRecOn with
 | _ n ih =>
  by_cases hx : ∃ m, m < n ∧ P m
  ·obtain ⟨m, h1, h2⟩ := hx
   exact ih m h1 h2
  ·exact ⟨n, hn, fun m hm hp => hx ⟨m, hm, hp⟩⟩
theorem pairI_not {p : Deed → Deed → Bool} {l : List Deed} (h : pairI p l = none) : ∀ i k (hi : i < l.length) (hk : k < l.length), i < k → p l[i] l[k] = false := by
 intro i k hi hk hik
 cases hp : p l[i] l[k] with
 | false => rfl
 | true =>
  have hx : ∃ i k, ∃ (hi : i < l.length) (hk : k < l.length), i < k ∧ p l[i] l[k] = true := ⟨i, k, hi, hk, hik, hp⟩
  obtain ⟨i0, hi0, hmin⟩ : ∃ i0, (∃ k, ∃ (hi : i0 < l.length) (hk : k < l.length), i0 < k ∧ p l[i0] l[k] = true) ∧ ∀ i' < i0, ¬ ∃ k, ∃ (hi : i' < l.length) (hk : k < l.length), i' < k ∧ p l[i'] l[k] = true := least hx
  obtain ⟨k0, hk0, hkmin⟩ : ∃ k0, (∃ (hi : i0 < l.length) (hk : k0 < l.length), i0 < k0 ∧ p l[i0] l[k0] = true) ∧ ∀ k' < k0, ¬ ∃ (hi : i0 < l.length) (hk : k' < l.length), i0 < k' ∧ p l[i0] l[k'] = true := least hi0
  obtain ⟨c1, c2, c3, c4⟩ := hk0
  have hf : isFirst p l i0 k0 := by
   refine ⟨c1, c2, c3, c4, fun i' k' hi' hk' hik' hc => ?_⟩
   cases hq : p l[i'] l[k'] with
   | false => rfl
   | true =>
    rcases hc with hc | ⟨rfl, hc⟩
    ·exact (hmin i' hc ⟨k', hi', hk', hik', hq⟩).elim
    ·exact (hkmin k' hc ⟨hi', hk', hik', hq⟩).elim
  rw [pairI_some hf] at h; cases h
def itemV (d : Deed) : V := .agg [vInt d.pa, vInt d.no]
noncomputable def confV (l : List Deed) : V := match pairI contraB l with
 | some (i, k) => .tup [.sl [itemV (l.getD i zeroD), itemV (l.getD k zeroD)], .bool true]
 | none => .tup [.sl [], .bool false]
set_option maxRecDepth 10000
theorem s103 : PSound Tryz.prog 103 (pDD fun a b => .bool (contraB a b)) := by
 refine psoundB (rs := [.tmp 4]) Tryz.func103 Tryz.ntmps103 (by rfl) (by kernel_rfl) (by decide) (pDD_flat fun _ _ => rfl) ⟨_, rfl, ?_⟩
 rintro xs ⟨⟨pa, no, ki, lo, pe, dl, dh, kn, un⟩, ⟨pa', no', ki', lo', pe', dl', dh', kn', un'⟩, rfl⟩ hw
 refine ⟨Nat.le_of_ble_eq_true rfl, ?_⟩
 have hΓ := K20_sound
 have hP := mixedK
 have hc := fun (g : Deed → Int → Int → V) (obj : Name → Option O) (t : Name) (n m : Int) => sDII_app (g := g) (obj := obj) (t := t) (k := n) (j := m) (d := (⟨pa', no', ki', lo', pe', dl', dh', kn', un'⟩ : Deed)) (dx := rdD (⟨pa', no', ki', lo', pe', dl', dh', kn', un'⟩ : Deed)) rfl
 unfold rdD at hc
 repeat refine cl_seq ?_
 refine cl_rs hΓ [2,3] [[2, 0], [3, 0]] fun K' hK => ?_
 simp only [go_sem]
 repeat (refine ⟨ob, ?_⟩)
 refine hK _ ?_ ?_ <;> clear K' hK <;> simp only [go_sem]
 repeat refine cl_seq ?_
 refine cl_rs hΓ [4] [] fun K' hK => ?_
 simp only [go_sem, hc]
 repeat (refine ⟨ob, ?_⟩)
 refine hK _ ?_ ?_ <;> clear K' hK <;> simp only [go_sem, hc]
 refine cl_ret ?_
 simp only [go_sem, contraB]
 all_goals first | rfl | (simp; done) | grind
end Go.Eng
namespace Go.Eng
open Go Go.Proofs
noncomputable def sDDb (g : Deed → Deed → V) : Spec := (pDD g).toSpec
theorem sDDb_app {g : Deed → Deed → V} {obj : Name → Option O} {t : Name} {a b : Deed} {da db : D} (ha : da = rdD a) (hb : db = rdD b) : (sDDb g).app obj t [da, db] = ⟨True, .v (g a b), obj⟩ := by
 subst ha; subst hb
 simp only [sDDb, PSpec.toSpec, frzL, frzD, pDD, encD, if_true]
 congr 1
 simp only [eq_iff_iff, iff_true]
 exact ⟨⟨trivial, trivial, trivial⟩, a, b, rfl⟩
noncomputable def K27 : FuncId → Option Spec := fun f => match f with
 | 103 => some (sDDb fun a b => .bool (contraB a b))
 | f => K25 f
theorem K27_sound : ∀ f s, K27 f = some s → SSound Tryz.prog f s := by
 intro f s h
 unfold K27 at h
 split at h
 ·cases h; exact s103.sound
 ·exact K25_sound _ _ h
@[go_sem] theorem K27_103 : K27 103 = some (sDDb fun a b => .bool (contraB a b)) := rfl
set_option maxRecDepth 10000
set_option maxHeartbeats 4000000 in
theorem s80 : PSound Tryz.prog 80 (pLen (fun _ => True) confV) := by
 refine psoundB (rs := [.tmp 2, .tmp 3]) Tryz.func80 Tryz.ntmps80 (by rfl) (by kernel_rfl) (by decide) (fun h => by cases h) ⟨_, rfl, ?_⟩
 rintro xs ⟨l, rfl, _⟩ hw
 have hl : l.length ≤ maxLen := by have := hw.1.1; simpa using this
 refine ⟨Nat.le_of_ble_eq_true rfl, ?_⟩
 rw [pLen_fn]
 have hΓ := K27_sound
 have hP := mixedK
 repeat refine cl_seq ?_
 refine cl_rs hΓ [0] [] fun K' hK => ?_
 simp only [go_sem]
 repeat (refine ⟨ob, ?_⟩)
 refine hK _ ?_ ?_ <;> clear K' hK <;> simp only [go_sem]
 repeat refine cl_seq ?_
 refine cl_rs hΓ [0,8,9,10] [] fun K' hK => ?_
 simp only [go_sem]
 repeat (refine ⟨ob, ?_⟩)
 refine hK _ ?_ ?_ <;> clear K' hK <;> simp only [go_sem]
 repeat refine cl_seq ?_
 refine cl_block ?_
 repeat refine cl_seq ?_
 refine cl_loop' (fun s : Nat => [(10, ⟨true, .v (vInt s)⟩)]) (fun s => []) (fun s => s ≤ l.length ∧ ∀ i k (hi : i < l.length) (hk : k < l.length), i < k → i < s → contraB l[i] l[k] = false) (fun s => l.length - s) 0 ?_ ?_ ?_ ?_
 ·exact ⟨Nat.zero_le _, fun i k hi hk h h' => by omega⟩
 ·rfl
 ·rfl
 rintro i ⟨hi, hz⟩
 simp only [go_sem]
 repeat refine cl_seq ?_
 repeat refine cl_seq ?_
 refine cl_rs hΓ [0,8,9,10,11] [] fun K' hK => ?_
 simp only [go_sem]
 repeat (refine ⟨ob, ?_⟩)
 refine hK _ ?_ ?_ <;> clear K' hK <;> simp only [go_sem]
 repeat refine cl_seq ?_
 refine cl_cond rfl rfl (fun hb => ?_) (fun hb => ?_)
 ·have hlt : i < l.length := by simpa using hb
  have hlt' : (i : Int) < l.length := by omega
  clear hb
  repeat refine cl_seq ?_
  refine cl_skip ?_
  repeat refine cl_seq ?_
  refine cl_block ?_
  repeat refine cl_seq ?_
  have hsucc : i + 1 ≤ l.length := hlt
  have hsucc' : ((i + 1 : Nat) : Int) ≤ l.length := by omega
  have e2 : (List.map encD l).drop (i + 1) = (l.drop (i + 1)).map encD := List.map_drop.symm
  have e3 : List.take (l.length - (i + 1)) ((l.drop (i + 1)).map encD) = (l.drop (i + 1)).map encD := List.take_of_length_le (by simp)
  obtain ⟨r, hr, hrl, hrg⟩ : ∃ r, r = l.drop (i + 1) ∧ r.length = l.length - (i + 1) ∧ ∀ j (h : j < r.length) (h' : i + 1 + j < l.length), r[j] = l[i + 1 + j] := ⟨_, rfl, by simp, fun j h h' => by simp⟩
  rw [← hr] at e2 e3
  have hrm : r.length ≤ maxLen := by omega
  repeat refine cl_seq ?_
  refine cl_rs hΓ [0,4,5,8,9,10] [[5, 0]] fun K' hK => ?_
  simp only [go_sem, map_getD hlt, Int.toNat_natCast, Int.natCast_nonneg, hlt']
  repeat (refine ⟨ob, ?_⟩)
  refine hK _ ?_ ?_ <;> clear K' hK <;> simp only [go_sem, map_getD hlt, Int.toNat_natCast, Int.natCast_nonneg, hlt']
  repeat refine cl_seq ?_
  refine cl_rs hΓ [0,5,8,9,10,18,19,20] [[5, 0]] fun K' hK => ?_
  simp only [go_sem, wrap_succ hlt hl, Int.toNat_natCast, Int.natCast_nonneg, hsucc', e2, e3, te22]
  repeat' apply And.intro
  all_goals first | rfl | omega | exact Int.le_refl _ | exact Bool.or_not_self _ | exact Bool.not_or_self _ | exact enc_okI _ | exact enc_ok _ | exact fun x hx => (enc_okI _ x hx).1 | exact fun x hx => (enc_ok _ x hx).1 | (simp only [List.length_take, List.length_append, List.length_map, List.length_drop, List.length_cons, List.length_nil]; done) | (simp only [List.length_take, List.length_append, List.length_map, List.length_drop, List.length_cons, List.length_nil]; omega) | (simp only [List.length_take, List.length_append, List.length_map, List.length_drop, List.length_cons, List.length_nil, maxLen]; omega) | (exact fun _ => by decide) | (exact fun h => ⟨h, by decide⟩) | (simp only [decide_eq_true_eq]; omega) | skip
  refine hK _ ?_ ?_ <;> clear K' hK <;> simp only [go_sem]
  repeat refine cl_seq ?_
  refine cl_block ?_
  repeat refine cl_seq ?_
  refine cl_loop' (fun s : Nat => [(20, ⟨true, .v (vInt s)⟩)]) (fun s => []) (fun s => s ≤ r.length ∧ ∀ k (hk : k < l.length), i < k → k < i + 1 + s → contraB l[i] l[k] = false) (fun s => r.length - s) 0 ?_ ?_ ?_ ?_
  ·exact ⟨Nat.zero_le _, fun k hk h h' => by omega⟩
  ·rfl
  ·rfl
  rintro j ⟨hj, hzj⟩
  simp only [go_sem]
  repeat refine cl_seq ?_
  repeat refine cl_seq ?_
  refine cl_rs hΓ [0,5,8,9,10,18,19,20,21] [[5, 0]] fun K' hK => ?_
  simp only [go_sem]
  repeat (refine ⟨ob, ?_⟩)
  refine hK _ ?_ ?_ <;> clear K' hK <;> simp only [go_sem]
  repeat refine cl_seq ?_
  refine cl_cond rfl rfl (fun hb => ?_) (fun hb => ?_)
  ·have hlt : j < r.length := by simpa using hb
   have hlt' : (j : Int) < r.length := by omega
   clear hb
   repeat refine cl_seq ?_
   refine cl_skip ?_
   repeat refine cl_seq ?_
   refine cl_block ?_
   repeat refine cl_seq ?_
   have hjl : i + 1 + j < l.length := by omega
   repeat refine cl_seq ?_
   refine cl_rs hΓ [0,5,7,8,9,10,18,19,20] [[5, 0],[7, 0]] fun K' hK => ?_
   simp only [go_sem, map_getD hlt, Int.toNat_natCast, Int.natCast_nonneg, hlt', hrg j hlt hjl]
   repeat (refine ⟨ob, ?_⟩)
   refine hK _ ?_ ?_ <;> clear K' hK <;> simp only [go_sem, map_getD hlt, Int.toNat_natCast, Int.natCast_nonneg, hlt', hrg j hlt hjl]
   have hc := fun (g : Deed → Deed → V) (obj : Name → Option O) (t : Name) => sDDb_app (g := g) (obj := obj) (t := t) (a := l[i]) (b := l[i + 1 + j]) (da := rdD l[i]) (db := rdD l[i + 1 + j]) rfl rfl
   unfold rdD at hc
   repeat refine cl_seq ?_
   refine cl_rs hΓ [0,5,7,8,9,10,18,19,20,26] [[5, 0],[7, 0]] fun K' hK => ?_
   simp only [go_sem, hc]
   repeat (refine ⟨ob, ?_⟩)
   refine hK _ ?_ ?_ <;> clear K' hK <;> simp only [go_sem, hc]
   repeat refine cl_seq ?_
   refine cl_cond rfl rfl (fun hb => ?_) (fun hb => ?_)
   ·repeat refine cl_seq ?_
    refine cl_rs hΓ [2,3] [] fun K' hK => ?_
    simp only [go_sem, te68, tz31]
    repeat' apply And.intro
    all_goals first | rfl | omega | exact Int.le_refl _ | exact Bool.or_not_self _ | exact Bool.not_or_self _ | exact enc_okI _ | exact enc_ok _ | exact fun x hx => (enc_okI _ x hx).1 | exact fun x hx => (enc_ok _ x hx).1 | (simp only [List.length_take, List.length_append, List.length_map, List.length_drop, List.length_cons, List.length_nil]; done) | (simp only [List.length_take, List.length_append, List.length_map, List.length_drop, List.length_cons, List.length_nil]; omega) | (simp only [List.length_take, List.length_append, List.length_map, List.length_drop, List.length_cons, List.length_nil, maxLen]; omega) | (exact fun _ => by decide) | (exact fun h => ⟨h, by decide⟩) | (simp only [decide_eq_true_eq]; omega) | skip
    refine hK _ ?_ ?_ <;> clear K' hK <;> simp only [go_sem]
    refine cl_ret ?_
    simp only [go_sem]
    have hf : isFirst contraB l i (i + 1 + j) := by
     refine ⟨by omega, hjl, by omega, hb, fun i' k' hi' hk' hik hc => ?_⟩
     rcases hc with hc | ⟨rfl, hc⟩
     ·exact hz i' k' hi' hk' hik hc
     ·exact hzj k' hk' hik hc
    unfold confV
    rw [pairI_some hf]
    simp [itemV, List.getD_eq_getElem?_getD, hjl, show i < l.length by omega]
   ·have hn : contraB l[i] l[i + 1 + j] = false := by simpa using hb
    clear hb
    repeat refine cl_seq ?_
    refine cl_skip ?_
    refine cl_nil ?_
    simp only [go_sem]
    refine cl_keep [0,5,8,9,10,18,19,20] [[5, 0]] ?_ ?_
    ·simp only [go_sem]
    simp only [go_sem]
    repeat refine cl_seq ?_
    refine cl_r hΓ fun K' hK => ?_
    simp only [go_sem]
    repeat (refine ⟨ob, ?_⟩)
    refine hK _ ?_
    clear K' hK
    simp only [go_sem]
    refine ⟨j + 1, ⟨hlt, fun k hk h h' => ?_⟩, (show r.length - (j + 1) < r.length - j by omega), ?_⟩
    ·by_cases e : k = i + 1 + j
     ·subst e; exact hn
     ·exact hzj k hk h (by omega)
    refine weak_eq [0,5,8,9,10,18,19,20] [[5, 0]] ?_ ?_
    ·simp only [go_sem, wrap_succ hlt hrm, Int.natCast_add, Int.natCast_one]
    ·simp only [go_sem, wrap_succ hlt hrm, Int.natCast_add, Int.natCast_one]
  ·have hge : j = r.length := by
    have : ¬ (j : Int) < r.length := by simpa using hb
    omega
   subst hge
   clear hb
   repeat refine cl_seq ?_
   refine cl_exit ?_
   simp only [go_sem]
   refine cl_keep [0,8,9,10] [] ?_ ?_
   ·simp only [go_sem]
   simp only [go_sem]
   repeat refine cl_seq ?_
   refine cl_r hΓ fun K' hK => ?_
   simp only [go_sem]
   repeat (refine ⟨ob, ?_⟩)
   refine hK _ ?_
   clear K' hK
   simp only [go_sem]
   refine ⟨i + 1, ⟨hsucc, fun i' k hi' hk h h' => ?_⟩, (show l.length - (i + 1) < l.length - i by omega), ?_⟩
   ·by_cases e : i' = i
    ·subst e; exact hzj k hk h (by omega)
    ·exact hz i' k hi' hk h (by omega)
   refine weak_eq [0,8,9,10] [] ?_ ?_
   ·simp only [go_sem, wrap_succ (show i < l.length by omega) hl, Int.natCast_add, Int.natCast_one]
   ·simp only [go_sem, wrap_succ (show i < l.length by omega) hl, Int.natCast_add, Int.natCast_one]
 ·have hge : i = l.length := by
   have : ¬ (i : Int) < l.length := by simpa using hb
   omega
  subst hge
  clear hb
  repeat refine cl_seq ?_
  refine cl_exit ?_
  simp only [go_sem]
  refine cl_keep [] [] ?_ ?_
  ·simp only [go_sem]
  simp only [go_sem]
  repeat refine cl_seq ?_
  refine cl_rs hΓ [2,3] [] fun K' hK => ?_
  simp only [go_sem]
  repeat (refine ⟨ob, ?_⟩)
  refine hK _ ?_ ?_ <;> clear K' hK <;> simp only [go_sem]
  refine cl_ret ?_
  simp only [go_sem]
  have hn : pairI contraB l = none := pairI_none fun i k hi hk h => hz i k hi hk h hi
  unfold confV
  rw [hn]
end Go.Eng
namespace Go.Eng
open Go Go.Proofs
def itD (a b : Int) : Deed := ⟨a, b, 0, 0, 0, 0, 0, 0, 0⟩
theorem cmpIt_lt {d : Deed} {a b : Int} : cmpIt d.pa d.no a b < 0 ↔ ltD d (itD a b) := cmpD_lt (a := d) (b := itD a b)
def pDIt : PSpec := ⟨fun xs => ∃ d a b, xs = [encD d, .agg [vInt a, vInt b]], fun xs => match xs with | [x, .agg [.int _ a, .int _ b]] => vInt (cmpIt (decD x).pa (decD x).no a b) | _ => .bool false, true⟩
noncomputable def K28a : FuncId → Option Spec := fun f => match f with
 | 102 => some (pItems fun a b c d => vInt (cmpIt a b c d)).toSpec
 | _ => none
theorem K28a_sound : ∀ f s, K28a f = some s → SSound Tryz.prog f s := by
 intro f s h
 unfold K28a at h
 split at h
 ·cases h; exact s102.sound
 ·cases h
@[go_sem] theorem K28a_102 : K28a 102 = some (pItems fun a b c d => vInt (cmpIt a b c d)).toSpec := rfl
theorem s139 : PSound Tryz.prog 139 pDIt := by
 refine psoundB (rs := [.tmp 4]) Tryz.func139 Tryz.ntmps139 (by rfl) (by kernel_rfl) (by decide) (by rintro _ xs ⟨d, a, b, rfl⟩; rfl) ⟨_, rfl, ?_⟩
 rintro xs ⟨⟨pa, no, ki, lo, pe, dl, dh, kn, un⟩, a, b, rfl⟩ _
 refine ⟨Nat.le_of_ble_eq_true rfl, ?_⟩
 have hΓ := K28a_sound
 repeat refine cl_seq ?_
 refine cl_rs hΓ [2,3] [[2, 0],[3, 0]] fun K' hK => ?_
 simp only [go_sem]
 repeat (refine ⟨ob, ?_⟩)
 refine hK _ ?_ ?_ <;> clear K' hK <;> simp only [go_sem]
 repeat refine cl_seq ?_
 refine cl_rs hΓ [4] [] fun K' hK => ?_
 simp only [go_sem]
 repeat (refine ⟨ob, ?_⟩)
 refine hK _ ?_ ?_ <;> clear K' hK <;> simp only [go_sem]
 refine cl_ret ?_
 simp only [go_sem]
 all_goals first | rfl | (simp; done) | (simp_all; done)
def sDIt : Spec := pDIt.toSpec
theorem sDIt_app {obj : Name → Option O} {t : Name} {d : Deed} {a b : Int} : sDIt.app obj t [.v (encD d), .agg [.v (vInt a), .v (vInt b)]] = ⟨True, .v (vInt (cmpIt d.pa d.no a b)), obj⟩ := by
 have e : frzL (frz 6) obj [.v (encD d), .agg [.v (vInt a), .v (vInt b)]] = ⟨True, [encD d, .agg [vInt a, vInt b]], obj⟩ := by
  simp only [frzL, frz]
  simp
 simp only [sDIt, PSpec.toSpec, e, pDIt, decD_enc, if_true]
 congr 1
 simp only [eq_iff_iff, iff_true]
 exact ⟨trivial, d, a, b, rfl⟩
def K28 : FuncId → Option Spec := fun f => match f with
 | 139 => some sDIt
 | _ => none
theorem K28_sound : ∀ f s, K28 f = some s → SSound Tryz.prog f s := by
 intro f s h
 unfold K28 at h
 split at h
 ·cases h; exact s139.sound
 ·cases h
@[go_sem] theorem K28_139 : K28 139 = some sDIt := rfl
set_option maxRecDepth 10000 in
set_option maxHeartbeats 4000000 in
theorem w138 (l : List Deed) (a b : Int) (hs : l.Pairwise ltD) (hl : l.length ≤ maxLen) :
  ∃ c, Tryz.f138.body = some c ∧ CL Tryz.prog [c] (mkS 49 [0] (fun _ => none) (argsL 0 [.sl (l.map encD), (.agg [vInt a, vInt b]), .clo (.func 139) [] []]) []) (retK Tryz.prog [.tmp 6, .tmp 7] (.tup [vInt (lowD l (itD a b)), .bool (hasD l (itD a b))])) := by
 refine ⟨_, rfl, ?_⟩
 have hΓ := K28_sound
 have hcmp := fun (obj : Name → Option O) (t : Name) (d : Deed) => sDIt_app (obj := obj) (t := t) (d := d) (a := a) (b := b)
 simp only [encD] at hcmp
 have hP := mixedK
 repeat refine cl_seq ?_
 repeat refine cl_seq ?_
 refine cl_rs hΓ [0,2,4] [[4, 0]] fun K' hK => ?_
 simp only [go_sem]
 repeat (refine ⟨ob, ?_⟩)
 refine hK _ ?_ ?_ <;> clear K' hK <;> simp only [go_sem]
 repeat refine cl_seq ?_
 refine cl_rs hΓ [0,2,4,8] [[4, 0]] fun K' hK => ?_
 simp only [go_sem]
 repeat (refine ⟨ob, ?_⟩)
 refine hK _ ?_ ?_ <;> clear K' hK <;> simp only [go_sem]
 repeat refine cl_seq ?_
 refine cl_rs hΓ [0,2,4,8,9,10] [[4, 0]] fun K' hK => ?_
 simp only [go_sem]
 repeat (refine ⟨ob, ?_⟩)
 refine hK _ ?_ ?_ <;> clear K' hK <;> simp only [go_sem]
 repeat refine cl_seq ?_
 refine cl_block ?_
 repeat refine cl_seq ?_
 refine cl_loop' (fun ij : Nat × Nat => [(9, ⟨true, .v (vInt ij.1)⟩), (10, ⟨true, .v (vInt ij.2)⟩)]) (fun i => []) (fun ij => ij.1 ≤ ij.2 ∧ ij.2 ≤ l.length ∧ (∀ k (h : k < l.length), k < ij.1 → ltD l[k] (itD a b)) ∧ (∀ k (h : k < l.length), ij.2 ≤ k → ¬ ltD l[k] (itD a b))) (fun ij => ij.2 - ij.1) (0, l.length) ?_ ?_ ?_ ?_
 ·exact ⟨Nat.zero_le _, Nat.le_refl _, fun k h hk => by omega, fun k h hk => by omega⟩
 ·rfl
 ·rfl
 rintro ⟨i, j⟩ ⟨hij, hjl, hlo, hhi⟩
 simp only [go_sem]
 repeat refine cl_seq ?_
 repeat refine cl_seq ?_
 refine cl_rs hΓ [0,2,4,8,9,10,17] [[4, 0]] fun K' hK => ?_
 simp only [go_sem]
 repeat (refine ⟨ob, ?_⟩)
 refine hK _ ?_ ?_ <;> clear K' hK <;> simp only [go_sem]
 repeat refine cl_seq ?_
 refine cl_cond rfl rfl (fun hb => ?_) (fun hb => ?_)
 ·have hlt : i < j := by simpa using hb
  repeat refine cl_seq ?_
  refine cl_skip ?_
  repeat refine cl_seq ?_
  refine cl_block ?_
  repeat refine cl_seq ?_
  repeat refine cl_seq ?_
  refine cl_rs hΓ [0,2,4,8,9,10,11] [[4, 0]] fun K' hK => ?_
  simp only [go_sem, mid_i64 (show i ≤ maxLen by omega) (show j ≤ maxLen by omega)]
  repeat (refine ⟨ob, ?_⟩)
  refine hK _ ?_ ?_ <;> clear K' hK <;> simp only [go_sem, mid_i64 (show i ≤ maxLen by omega) (show j ≤ maxLen by omega)]
  obtain ⟨h, hh⟩ : ∃ h, h = (i + j) / 2 := ⟨_, rfl⟩
  rw [← hh]
  have h1 : i ≤ h := by omega
  have h2 : h < j := by omega
  have h3 : h < l.length := by omega
  have h3' : (h : Int) < l.length := by omega
  repeat refine cl_seq ?_
  refine cl_ds hΓ hP [[], [], [], [1, 2], [1, 2, 3], [], [0, 1, 2, 3, 4, 5], [0, 1, 2, 3, 4, 5, 6]] [0,2,4,8,9,10,11,31] [[4, 0]] (by kernel_rfl) fun K' hK => ?_
  simp only [go_sem, hcmp, map_getD h3, Int.toNat_natCast, Int.natCast_nonneg, h3']
  repeat (refine ⟨ob, ?_⟩)
  first | refine ⟨by rfl, ?_⟩ | skip
  refine hK _ ?_ ?_ <;> clear K' hK <;> simp only [go_sem, hcmp, map_getD h3, Int.toNat_natCast, Int.natCast_nonneg, h3']
  repeat refine cl_seq ?_
  refine cl_cond rfl rfl (fun hb => ?_) (fun hb => ?_)
  ·have hx : ltD l[h] (itD a b) := by simpa [cmpIt_lt] using hb
   repeat refine cl_seq ?_
   repeat refine cl_seq ?_
   refine cl_r hΓ fun K' hK => ?_
   simp only [go_sem]
   repeat (refine ⟨ob, ?_⟩)
   refine hK _ ?_
   clear K' hK
   simp only [go_sem]
   refine ⟨(h + 1, j), ⟨by omega, hjl, fun k hk hkh => ?_, hhi⟩, by omega, ?_⟩
   ·rcases Nat.lt_succ_iff_lt_or_eq.1 hkh with h5 | h5
    ·have := List.pairwise_iff_getElem.1 hs k h hk h3 h5; exact ltD_trans this hx
    ·subst h5; exact hx
   ·refine weak_eq [0,2,4,8,9,10] [[4, 0]] ?_ ?_
    ·simp only [go_sem, wrap_succ h3 hl, Int.natCast_add, Int.natCast_one]
    ·simp only [go_sem, wrap_succ h3 hl, Int.natCast_add, Int.natCast_one]
  ·have hx : ¬ ltD l[h] (itD a b) := by
    have : ¬ ltD l[h] (itD a b) := by simpa [cmpIt_lt] using hb
    exact this
   repeat refine cl_seq ?_
   repeat refine cl_seq ?_
   refine cl_r hΓ fun K' hK => ?_
   simp only [go_sem]
   repeat (refine ⟨ob, ?_⟩)
   refine hK _ ?_
   clear K' hK
   simp only [go_sem]
   refine ⟨(i, h), ⟨by omega, by omega, hlo, fun k hk hkh => ?_⟩, by omega, ?_⟩
   ·rcases Nat.lt_or_eq_of_le hkh with h5 | h5
    ·have := List.pairwise_iff_getElem.1 hs h k h3 hk h5; exact fun hc => hx (ltD_trans this hc)
    ·subst h5; exact hx
   ·refine weak_eq [0,2,4,8,9,10] [[4, 0]] ?_ ?_
    ·simp only [go_sem]
    ·simp only [go_sem]
 ·have he : i = j := by
   have : ¬ (i : Int) < j := by simpa using hb
   omega
  subst he
  repeat refine cl_seq ?_
  refine cl_exit ?_
  simp only [go_sem]
  refine cl_keep [0,2,4,8,9] [[4, 0]] ?_ ?_
  ·simp only [go_sem]
  simp only [go_sem]
  by_cases hin : i < l.length
  ·have hin' : (i : Int) < l.length := by omega
   repeat refine cl_seq ?_
   refine cl_ds hΓ hP [[], [], [], [1, 2], [1, 2, 3], [1, 2, 3, 4], [1, 2, 3, 4], [1, 2, 3, 4], [1, 2, 3, 4, 6, 7], [1, 2, 3, 4, 6, 7, 8], [1, 2, 3, 4], [1, 2, 3, 4, 5, 6, 7, 8, 9, 10], [1, 2, 3, 4, 5, 6, 7, 8, 9, 10, 11], [1, 2, 3, 4, 5, 6, 7, 8, 9, 10, 11, 12], [0, 1, 2, 3, 4, 5, 6, 7, 8, 9, 10, 11], [0, 1, 2, 3, 4, 5, 6, 7, 8, 9, 10, 11, 12, 13, 14]] [6,7] [] (by kernel_rfl) fun K' hK => ?_
   simp only [go_sem, hcmp, map_getD hin, Int.toNat_natCast, Int.natCast_nonneg, hin']
   repeat (refine ⟨ob, ?_⟩)
   first | refine ⟨by rfl, ?_⟩ | skip
   refine hK _ ?_ ?_ <;> clear K' hK <;> simp only [go_sem, hcmp, map_getD hin, Int.toNat_natCast, Int.natCast_nonneg, hin']
   refine cl_ret ?_
   simp only [go_sem]
   rw [lowD_at hjl hlo hhi, hasD_at hs hin hlo hhi]
   rfl
  ·have hil : i = l.length := by omega
   have hin' : ¬ (i : Int) < l.length := by omega
   obtain ⟨k0, n0, hdef⟩ : ∃ k0 n0, (l.map encD).getD i default = .int k0 n0 := by
    refine ⟨default, default, ?_⟩
    rw [List.getD_eq_getElem?_getD, List.getElem?_eq_none (by simp; omega)]
    rfl
   repeat refine cl_seq ?_
   refine cl_ds hΓ hP [[], [], [], [1, 2], [1, 2, 3], [1, 2, 3, 4], [1, 2, 3, 4], [1, 2, 3, 4], [1, 2, 3, 4, 6, 7], [1, 2, 3, 4, 6, 7, 8], [1, 2, 3, 4], [1, 2, 3, 4, 5, 6, 7, 8, 9, 10], [1, 2, 3, 4, 5, 6, 7, 8, 9, 10, 11], [1, 2, 3, 4, 5, 6, 7, 8, 9, 10, 11, 12], [0, 1, 2, 3, 4, 5, 6, 7, 8, 9, 10, 11], [0, 1, 2, 3, 4, 5, 6, 7, 8, 9, 10, 11, 12, 13, 14]] [6,7] [] (by kernel_rfl) fun K' hK => ?_
   simp only [go_sem, hcmp, hdef, List.take_nil, decide_false, Bool.false_eq_true, Int.toNat_natCast, Int.natCast_nonneg, hin']
   repeat (refine ⟨ob, ?_⟩)
   first | refine ⟨by rfl, ?_⟩ | skip
   refine hK _ ?_ ?_ <;> clear K' hK <;> simp only [go_sem, hcmp, hdef, List.take_nil, decide_false, Bool.false_eq_true, Int.toNat_natCast, Int.natCast_nonneg, hin']
   refine cl_ret ?_
   simp only [go_sem]
   rw [lowD_at hjl hlo hhi, hasD_none fun k hk => hlo k hk (by omega)]
def pFindS : PSpec := ⟨fun xs => ∃ (l : List Deed) (a b : Int), xs = [.sl (l.map encD), .agg [vInt a, vInt b], .clo (.func 139) [] []] ∧ l.Pairwise ltD, fun xs => match xs with | [.sl l, .agg [.int _ a, .int _ b], _] => .tup [vInt (lowD (l.map decD) (itD a b)), .bool (hasD (l.map decD) (itD a b))] | _ => .bool false, true⟩
theorem s138 : PSound Tryz.prog 138 pFindS := by
 refine psoundB (rs := [.tmp 6, .tmp 7]) Tryz.func138 Tryz.ntmps138 (by rfl) (by kernel_rfl) (by decide) (by rintro _ xs ⟨l, a, b, rfl, _⟩; rfl) ?_
 obtain ⟨c, hc, _⟩ := w138 [] 0 0 (by simp) (by simp [maxLen])
 refine ⟨c, hc, ?_⟩
 rintro xs ⟨l, a, b, rfl, hs⟩ hw
 have hl : l.length ≤ maxLen := by have := hw.1.1; simpa using this
 refine ⟨Nat.le_of_ble_eq_true rfl, ?_⟩
 obtain ⟨c', hc', h⟩ := w138 l a b hs hl
 rw [hc] at hc'
 cases hc'
 have e : pFindS.fn [.sl (l.map encD), .agg [vInt a, vInt b], .clo (.func 139) [] []] = .tup [vInt (lowD l (itD a b)), .bool (hasD l (itD a b))] := by
  simp only [pFindS, decD_map]
 rw [e]
 exact h
def sFindS : Spec := pFindS.toSpec
theorem sFindS_app {obj : Name → Option O} {t : Name} {l : List Deed} {a b : Int} (hs : l.Pairwise ltD) : sFindS.app obj t [.v (.sl (l.map encD)), .agg [.v (vInt a), .v (vInt b)], .v (.clo (.func 139) [] [])] = ⟨True, .v (.tup [vInt (lowD l (itD a b)), .bool (hasD l (itD a b))]), obj⟩ := by
 have e : frzL (frz 6) obj [.v (.sl (l.map encD)), .agg [.v (vInt a), .v (vInt b)], .v (.clo (.func 139) [] [])] = ⟨True, [.sl (l.map encD), .agg [vInt a, vInt b], .clo (.func 139) [] []], obj⟩ := by
  simp only [frzL, frz]
  simp
 simp only [sFindS, PSpec.toSpec, e, pFindS, decD_map, if_true]
 congr 1
 simp only [eq_iff_iff, iff_true]
 exact ⟨trivial, l, a, b, rfl, hs⟩
def K28b : FuncId → Option Spec := fun f => match f with
 | 138 => some sFindS
 | _ => none
theorem K28b_sound : ∀ f s, K28b f = some s → SSound Tryz.prog f s := by
 intro f s h
 unfold K28b at h
 split at h
 ·cases h; exact s138.sound
 ·cases h
@[go_sem] theorem K28b_138 : K28b 138 = some sFindS := rfl
def findV (l : List Deed) (a b : Int) : V := match atD l (itD a b) with
 | some d => .tup [encD d, .bool true]
 | none => .tup [encD zeroD, .bool false]
def pFind : PSpec := ⟨fun xs => ∃ (l : List Deed) (a b : Int), xs = [.sl (l.map encD), .agg [vInt a, vInt b]] ∧ l.Pairwise ltD, fun xs => match xs with | [.sl l, .agg [.int _ a, .int _ b]] => findV (l.map decD) a b | _ => .bool false, true⟩
set_option maxRecDepth 10000 in
theorem s74 : PSound Tryz.prog 74 pFind := by
 refine psoundB (rs := [.cell 4 35, .tmp 5]) Tryz.func74 Tryz.ntmps74 (by rfl) (by kernel_rfl) (by decide) (by
  rintro _ xs ⟨l, a, b, rfl, _⟩
  simp only [pFind, decD_map]
  unfold findV
  split <;> rfl) ⟨_, rfl, ?_⟩
 rintro xs ⟨l, a, b, rfl, hs⟩ hw
 have hl : l.length ≤ maxLen := by have := hw.1.1; simpa using this
 refine ⟨Nat.le_of_ble_eq_true rfl, ?_⟩
 have e : pFind.fn [.sl (l.map encD), .agg [vInt a, vInt b]] = findV l a b := by simp only [pFind, decD_map]
 rw [e]
 have hΓ := K28b_sound
 repeat refine cl_seq ?_
 refine cl_rs hΓ [0,3,4] [[3, 0], [4, 0]] fun K' hK => ?_
 simp only [go_sem, tz35]
 repeat (refine ⟨ob, ?_⟩)
 refine hK _ ?_ ?_ <;> clear K' hK <;> simp only [go_sem, tz35]
 repeat refine cl_seq ?_
 refine cl_rs hΓ [0,4,6,7] [[4, 0]] fun K' hK => ?_
 simp only [go_sem, sFindS_app hs]
 repeat (refine ⟨ob, ?_⟩)
 refine hK _ ?_ ?_ <;> clear K' hK <;> simp only [go_sem, sFindS_app hs]
 repeat refine cl_seq ?_
 refine cl_rs hΓ [0,4,6,15] [[4, 0]] fun K' hK => ?_
 simp only [go_sem]
 repeat (refine ⟨ob, ?_⟩)
 refine hK _ ?_ ?_ <;> clear K' hK <;> simp only [go_sem]
 repeat refine cl_seq ?_
 refine cl_cond rfl rfl (fun hb => ?_) (fun hb => ?_)
 ·have hn : hasD l (itD a b) = false := by simpa using hb
  have hn2 : atD l (itD a b) = none := by
   have := hasD_some l (itD a b)
   rw [hn] at this
   cases h : atD l (itD a b) with
   | none => rfl
   | some y => rw [h] at this; cases this
  repeat refine cl_seq ?_
  repeat refine cl_seq ?_
  refine cl_rs hΓ [4,5] [[4, 0]] fun K' hK => ?_
  simp only [go_sem, tz35, tp35]
  repeat (refine ⟨ob, ?_⟩)
  refine hK _ ?_ ?_ <;> clear K' hK <;> simp only [go_sem, tz35, tp35]
  refine cl_ret ?_
  simp only [go_sem]
  unfold findV
  rw [hn2]
  first | rfl | (simp [zeroD, encD]; done) | trace_state
 ·have hn : hasD l (itD a b) = true := by simpa using hb
  obtain ⟨hlo, hat⟩ := lowD_lt hn
  have hlo' : (lowD l (itD a b) : Int) < l.length := by omega
  repeat refine cl_seq ?_
  refine cl_skip ?_
  repeat refine cl_seq ?_
  refine cl_rs hΓ [4,5] [[4, 0]] fun K' hK => ?_
  simp only [go_sem, map_getD hlo, Int.toNat_natCast, Int.natCast_nonneg, hlo']
  repeat (refine ⟨ob, ?_⟩)
  refine hK _ ?_ ?_ <;> clear K' hK <;> simp only [go_sem, map_getD hlo, Int.toNat_natCast, Int.natCast_nonneg, hlo']
  refine cl_ret ?_
  simp only [go_sem]
  unfold findV
  rw [hat]
  first | rfl | (simp [encD]; done) | trace_state
end Go.Eng
namespace Go.Eng
open Go Go.Proofs
def firstII (p : Int → Bool) (l : List Int) : Int := if l.findIdx p < l.length then (l.findIdx p : Int) else -1
def pInt (g : Int → Bool) : Spec := (pIB g).toSpec
theorem pInt_app {g : Int → Bool} {obj : Name → Option O} {t : Name} {n : Int} : (pInt g).app obj t [.v (vInt n)] = ⟨True, .v (.bool (g n)), obj⟩ := by
 simp only [pInt, PSpec.toSpec, pIB, frzL, frz, if_true]
 congr 1
 simp only [eq_iff_iff, iff_true]
 exact ⟨⟨trivial, trivial⟩, n, rfl⟩
def isDayB (n : Int) : Bool := inI n 0 100000
def isPersB (n : Int) : Bool := inI n 1 99
def K29 : FuncId → Option Spec := fun f => match f with
 | 134 => some (pInt isDayB)
 | 109 => some (pInt isPersB)
 | _ => none
theorem K29_sound : ∀ f s, K29 f = some s → SSound Tryz.prog f s := by
 intro f s h
 unfold K29 at h
 split at h
 ·cases h; exact s134.sound
 ·cases h; exact s109.sound
 ·cases h
@[go_sem] theorem K29_134 : K29 134 = some (pInt isDayB) := rfl
@[go_sem] theorem K29_109 : K29 109 = some (pInt isPersB) := rfl
theorem s133 : PSound Tryz.prog 133 (pIB fun n => !isDayB n) := by
 refine psoundB (rs := [.tmp 2]) Tryz.func133 Tryz.ntmps133 (by rfl) (by kernel_rfl) (by decide) (pIB_flat _) ⟨_, rfl, ?_⟩
 rintro xs ⟨n, rfl⟩ _
 refine ⟨Nat.le_of_ble_eq_true rfl, ?_⟩
 have hΓ := K29_sound
 have ha := fun (g : Int → Bool) (obj : Name → Option O) (t : Name) => pInt_app (g := g) (obj := obj) (t := t) (n := n)
 repeat refine cl_seq ?_
 refine cl_rs hΓ [0] [] fun K' hK => ?_
 simp only [go_sem]
 repeat (refine ⟨ob, ?_⟩)
 refine hK _ ?_ ?_ <;> clear K' hK <;> simp only [go_sem]
 repeat refine cl_seq ?_
 refine cl_rs hΓ [2] [] fun K' hK => ?_
 simp only [go_sem, ha]
 repeat (refine ⟨ob, ?_⟩)
 refine hK _ ?_ ?_ <;> clear K' hK <;> simp only [go_sem, ha]
 refine cl_ret ?_
 simp only [go_sem]
theorem s146 : PSound Tryz.prog 146 (pIB fun n => !isPersB n) := by
 refine psoundB (rs := [.tmp 2]) Tryz.func146 Tryz.ntmps146 (by rfl) (by kernel_rfl) (by decide) (pIB_flat _) ⟨_, rfl, ?_⟩
 rintro xs ⟨n, rfl⟩ _
 refine ⟨Nat.le_of_ble_eq_true rfl, ?_⟩
 have hΓ := K29_sound
 have ha := fun (g : Int → Bool) (obj : Name → Option O) (t : Name) => pInt_app (g := g) (obj := obj) (t := t) (n := n)
 repeat refine cl_seq ?_
 refine cl_rs hΓ [0] [] fun K' hK => ?_
 simp only [go_sem]
 repeat (refine ⟨ob, ?_⟩)
 refine hK _ ?_ ?_ <;> clear K' hK <;> simp only [go_sem]
 repeat refine cl_seq ?_
 refine cl_rs hΓ [2] [] fun K' hK => ?_
 simp only [go_sem, ha]
 repeat (refine ⟨ob, ?_⟩)
 refine hK _ ?_ ?_ <;> clear K' hK <;> simp only [go_sem, ha]
 refine cl_ret ?_
 simp only [go_sem]
def pNot (g : FuncId) : Int → Bool := if g = 133 then (fun n => !isDayB n) else (fun n => !isPersB n)
def K29b : FuncId → Option Spec := fun f => match f with
 | 133 => some (pInt fun n => !isDayB n)
 | 146 => some (pInt fun n => !isPersB n)
 | _ => none
theorem K29b_sound : ∀ f s, K29b f = some s → SSound Tryz.prog f s := by
 intro f s h
 unfold K29b at h
 split at h
 ·cases h; exact s133.sound
 ·cases h; exact s146.sound
 ·cases h
set_option maxRecDepth 10000 in
set_option maxHeartbeats 4000000 in
theorem w163 {Γ : FuncId → Option Spec} (hΓ : ∀ f s, Γ f = some s → SSound Tryz.prog f s) {g : FuncId} {sG : Spec} {p : Int → Bool} (hg : ¬ g = 1000000000) (hs : Γ g = some sG)
  (hp : ∀ (obj : Name → Option O) (t : Name) (n : Int), sG.app obj t [.v (vInt n)] = ⟨True, .v (.bool (p n)), obj⟩) (l : List Int) (hl : l.length ≤ maxLen) :
  ∃ c, Tryz.f163.body = some c ∧ CL Tryz.prog [c] (mkS 19 [0] (fun _ => none) (argsL 0 [.sl (l.map vInt), .clo (.func g) [] []]) []) (retK Tryz.prog [.tmp 4] (vInt (firstII p l))) := by
 refine ⟨_, rfl, ?_⟩
 repeat refine cl_seq ?_
 refine cl_rs hΓ [0,1] [] fun K' hK => ?_
 simp only [go_sem]
 repeat (refine ⟨ob, ?_⟩)
 refine hK _ ?_ ?_ <;> clear K' hK <;> simp only [go_sem]
 repeat refine cl_seq ?_
 refine cl_rs hΓ [0,1,6,7,8] [] fun K' hK => ?_
 simp only [go_sem]
 repeat (refine ⟨ob, ?_⟩)
 refine hK _ ?_ ?_ <;> clear K' hK <;> simp only [go_sem]
 repeat refine cl_seq ?_
 refine cl_block ?_
 repeat refine cl_seq ?_
 refine cl_loop' (fun s : Nat => [(8, ⟨true, .v (vInt s)⟩)]) (fun s => []) (fun s => s ≤ l.length ∧ ∀ j (h : j < l.length), j < s → p l[j] = false) (fun s => l.length - s) 0 ?_ ?_ ?_ ?_
 ·exact ⟨Nat.zero_le _, fun j h hj => by omega⟩
 ·rfl
 ·rfl
 rintro i ⟨hi, hz⟩
 simp only [go_sem]
 repeat refine cl_seq ?_
 repeat refine cl_seq ?_
 refine cl_rs hΓ [0,1,6,7,8,9] [] fun K' hK => ?_
 simp only [go_sem]
 repeat (refine ⟨ob, ?_⟩)
 refine hK _ ?_ ?_ <;> clear K' hK <;> simp only [go_sem]
 repeat refine cl_seq ?_
 refine cl_cond rfl rfl (fun hb => ?_) (fun hb => ?_)
 ·have hlt : i < l.length := by simpa using hb
  have hlt' : (i : Int) < l.length := by omega
  clear hb
  repeat refine cl_seq ?_
  refine cl_skip ?_
  repeat refine cl_seq ?_
  refine cl_block ?_
  repeat refine cl_seq ?_
  repeat refine cl_seq ?_
  refine cl_rs hΓ [0,1,5,6,7,8] [] fun K' hK => ?_
  simp only [go_sem]
  repeat (refine ⟨ob, ?_⟩)
  refine hK _ ?_ ?_ <;> clear K' hK <;> simp only [go_sem]
  repeat refine cl_seq ?_
  refine cl_rs hΓ [0,1,5,6,7,8,16] [] fun K' hK => ?_
  simp only [go_sem, map_getD hlt, Int.toNat_natCast, Int.natCast_nonneg, hlt', hg, hs, hp]
  repeat (refine ⟨ob, ?_⟩)
  refine hK _ ?_ ?_ <;> clear K' hK <;> simp only [go_sem, map_getD hlt, Int.toNat_natCast, Int.natCast_nonneg, hlt', hg, hs, hp]
  repeat refine cl_seq ?_
  refine cl_cond rfl rfl (fun hb => ?_) (fun hb => ?_)
  ·repeat refine cl_seq ?_
   repeat refine cl_seq ?_
   refine cl_rs hΓ [4] [] fun K' hK => ?_
   simp only [go_sem]
   repeat (refine ⟨ob, ?_⟩)
   refine hK _ ?_ ?_ <;> clear K' hK <;> simp only [go_sem]
   refine cl_ret ?_
   simp only [go_sem]
   have hf : l.findIdx p = i := by
    rw [List.findIdx_eq hlt]
    exact ⟨by simpa using hb, fun j hj => hz j (by omega) hj⟩
   unfold firstII
   rw [hf, if_pos hlt]
  ·have hn : p l[i] = false := by simpa using hb
   clear hb
   repeat refine cl_seq ?_
   refine cl_skip ?_
   refine cl_nil ?_
   simp only [go_sem]
   refine cl_keep [0,1,6,7,8] [] ?_ ?_
   ·simp only [go_sem]
   simp only [go_sem]
   repeat refine cl_seq ?_
   refine cl_r hΓ fun K' hK => ?_
   simp only [go_sem]
   repeat (refine ⟨ob, ?_⟩)
   refine hK _ ?_
   clear K' hK
   simp only [go_sem]
   refine ⟨i + 1, ⟨by omega, fun j h hj => ?_⟩, by omega, ?_⟩
   ·rcases Nat.lt_succ_iff_lt_or_eq.1 hj with h1 | h1
    ·exact hz j h h1
    ·subst h1; exact hn
   refine weak_eq [0,1,6,7,8] [] ?_ ?_
   ·simp only [go_sem, wrap_succ hlt hl, Int.natCast_add, Int.natCast_one]
   ·simp only [go_sem, wrap_succ hlt hl, Int.natCast_add, Int.natCast_one]
 ·have hge : i = l.length := by
   have : ¬ (i : Int) < l.length := by simpa using hb
   omega
  subst hge
  clear hb
  repeat refine cl_seq ?_
  refine cl_exit ?_
  simp only [go_sem]
  refine cl_keep [] [] ?_ ?_
  ·simp only [go_sem]
  simp only [go_sem]
  repeat refine cl_seq ?_
  refine cl_rs hΓ [4] [] fun K' hK => ?_
  simp only [go_sem]
  repeat (refine ⟨ob, ?_⟩)
  refine hK _ ?_ ?_ <;> clear K' hK <;> simp only [go_sem]
  refine cl_ret ?_
  simp only [go_sem]
  have hf : ¬ l.findIdx p < l.length := by
   rw [List.findIdx_lt_length]
   rintro ⟨x, hx, hpx⟩
   obtain ⟨j, hj, rfl⟩ := List.getElem_of_mem hx
   rw [hz j hj hj] at hpx; cases hpx
  unfold firstII
  rw [if_neg hf]
def pIdxI (f : (Int → Bool) → List Int → V) : PSpec := ⟨fun xs => ∃ (l : List Int) (g : FuncId), xs = [.sl (l.map vInt), .clo (.func g) [] []] ∧ (g = 133 ∨ g = 146), fun xs => match xs with | [.sl l, .clo (.func g) _ _] => f (pNot g) (l.map decI) | _ => .bool false, true⟩
theorem s163 : PSound Tryz.prog 163 (pIdxI fun p l => vInt (firstII p l)) := by
 refine psoundB (rs := [.tmp 4]) Tryz.func163 Tryz.ntmps163 (by rfl) (by kernel_rfl) (by decide) (by rintro _ xs ⟨l, g, rfl, _⟩; rfl) ?_
 obtain ⟨c, hc, _⟩ := w163 K29b_sound (g := 133) (by decide) (show K29b 133 = some _ from rfl) (fun obj t n => pInt_app) [] (by simp)
 refine ⟨c, hc, ?_⟩
 rintro xs ⟨l, g, rfl, hf⟩ hw
 have hl : l.length ≤ maxLen := by have := hw.1.1; simpa using this
 refine ⟨Nat.le_of_ble_eq_true rfl, ?_⟩
 have key : ∃ c', Tryz.f163.body = some c' ∧ CL Tryz.prog [c'] (mkS 19 [0] (fun _ => none) (argsL 0 [.sl (l.map vInt), .clo (.func g) [] []]) []) (retK Tryz.prog [.tmp 4] (vInt (firstII (pNot g) l))) := by
  rcases hf with rfl | rfl
  ·exact w163 K29b_sound (by decide) (show K29b 133 = some _ from rfl) (fun obj t n => pInt_app) l hl
  ·exact w163 K29b_sound (by decide) (show K29b 146 = some _ from rfl) (fun obj t n => pInt_app) l hl
 obtain ⟨c', hc', h⟩ := key
 rw [hc] at hc'
 cases hc'
 simp only [pIdxI, decI_map]
 exact h
def sIdxI (f : (Int → Bool) → List Int → V) : Spec := (pIdxI f).toSpec
theorem sIdxI_app {f : (Int → Bool) → List Int → V} {obj : Name → Option O} {t : Name} {l : List Int} {g : FuncId} (hg : g = 133 ∨ g = 146) : (sIdxI f).app obj t [.v (.sl (l.map vInt)), .v (.clo (.func g) [] [])] = ⟨True, .v (f (pNot g) l), obj⟩ := by
 simp only [sIdxI, PSpec.toSpec, pIdxI, frzL, frz, decI_map, if_true]
 congr 1
 simp only [eq_iff_iff, iff_true]
 exact ⟨⟨trivial, trivial, trivial⟩, l, g, rfl, hg⟩
def K29c : FuncId → Option Spec := fun f => match f with
 | 163 => some (sIdxI fun p l => vInt (firstII p l))
 | _ => none
theorem K29c_sound : ∀ f s, K29c f = some s → SSound Tryz.prog f s := by
 intro f s h
 unfold K29c at h
 split at h
 ·cases h; exact s163.sound
 ·cases h
@[go_sem] theorem K29c_163 : K29c 163 = some (sIdxI fun p l => vInt (firstII p l)) := rfl
theorem firstII_any (p : Int → Bool) (l : List Int) : decide (firstII p l ≥ 0) = l.any p := by
 unfold firstII
 rw [Bool.eq_iff_iff]
 simp only [decide_eq_true_eq, List.any_eq_true]
 rw [← List.findIdx_lt_length]
 split <;> omega
theorem s132 : PSound Tryz.prog 132 (pIdxI fun p l => .bool (l.any p)) := by
 refine psoundB (rs := [.tmp 4]) Tryz.func132 Tryz.ntmps132 (by rfl) (by kernel_rfl) (by decide) (by rintro _ xs ⟨l, g, rfl, _⟩; rfl) ⟨_, rfl, ?_⟩
 rintro xs ⟨l, g, rfl, hg⟩ hw
 refine ⟨Nat.le_of_ble_eq_true rfl, ?_⟩
 simp only [pIdxI, decI_map]
 have hΓ := K29c_sound
 have ha := fun (f : (Int → Bool) → List Int → V) (obj : Name → Option O) (t : Name) => sIdxI_app (f := f) (obj := obj) (t := t) (l := l) hg
 repeat refine cl_seq ?_
 refine cl_rs hΓ [0,1] [] fun K' hK => ?_
 simp only [go_sem]
 repeat (refine ⟨ob, ?_⟩)
 refine hK _ ?_ ?_ <;> clear K' hK <;> simp only [go_sem]
 repeat refine cl_seq ?_
 refine cl_rs hΓ [4] [] fun K' hK => ?_
 simp only [go_sem, ha]
 repeat (refine ⟨ob, ?_⟩)
 refine hK _ ?_ ?_ <;> clear K' hK <;> simp only [go_sem, ha]
 refine cl_ret ?_
 simp only [go_sem]
 rw [firstII_any]
noncomputable def K29d : FuncId → Option Spec := fun f => match f with
 | 132 => some (sIdxI fun p l => .bool (l.any p))
 | 39 => some sChk
 | _ => none
theorem K29d_sound : ∀ f s, K29d f = some s → SSound Tryz.prog f s := by
 intro f s h
 unfold K29d at h
 split at h
 ·cases h; exact s132.sound
 ·cases h; exact s39'
 ·cases h
@[go_sem] theorem K29d_132 : K29d 132 = some (sIdxI fun p l => .bool (l.any p)) := rfl
@[go_sem] theorem K29d_39 : K29d 39 = some sChk := rfl
noncomputable def daysI (l : List Deed) (ds : List Int) : Int := if checkI l = 0 then (if ds.any (fun n => !isDayB n) then 6 else 0) else checkI l
def pDays (f : List Deed → List Int → V) : PSpec := ⟨fun xs => ∃ (l : List Deed) (ds : List Int), xs = [.sl (l.map encD), .sl (ds.map vInt)], fun xs => match xs with | [.sl l, .sl ds] => f (l.map decD) (ds.map decI) | _ => .bool false, true⟩
theorem pDays_fn (f : List Deed → List Int → V) (l : List Deed) (ds : List Int) : (pDays f).fn [.sl (l.map encD), .sl (ds.map vInt)] = f l ds := by
 simp only [pDays, decD_map, decI_map]
theorem s70 : PSound Tryz.prog 70 (pDays fun l ds => vInt (daysI l ds)) := by
 refine psoundB (rs := [.tmp 4]) Tryz.func70 Tryz.ntmps70 (by rfl) (by kernel_rfl) (by decide) (by rintro _ xs ⟨l, g, rfl⟩; rfl) ⟨_, rfl, ?_⟩
 rintro xs ⟨l, ds, rfl⟩ hw
 refine ⟨Nat.le_of_ble_eq_true rfl, ?_⟩
 rw [pDays_fn]
 have hΓ := K29d_sound
 have ha := fun (f : (Int → Bool) → List Int → V) (obj : Name → Option O) (t : Name) => sIdxI_app (f := f) (obj := obj) (t := t) (l := ds) (g := 133) (.inl rfl)
 have hp : pNot 133 = fun n => !isDayB n := rfl
 rw [hp] at ha
 repeat refine cl_seq ?_
 refine cl_rs hΓ [0,1] [] fun K' hK => ?_
 simp only [go_sem]
 repeat (refine ⟨ob, ?_⟩)
 refine hK _ ?_ ?_ <;> clear K' hK <;> simp only [go_sem]
 repeat refine cl_seq ?_
 refine cl_rs hΓ [1,5] [] fun K' hK => ?_
 simp only [go_sem, sChk_app]
 repeat (refine ⟨ob, ?_⟩)
 refine hK _ ?_ ?_ <;> clear K' hK <;> simp only [go_sem, sChk_app]
 repeat refine cl_seq ?_
 refine cl_rs hΓ [1,5,9] [] fun K' hK => ?_
 simp only [go_sem]
 repeat (refine ⟨ob, ?_⟩)
 refine hK _ ?_ ?_ <;> clear K' hK <;> simp only [go_sem]
 repeat refine cl_seq ?_
 refine cl_cond rfl rfl (fun hb => ?_) (fun hb => ?_)
 ·repeat refine cl_seq ?_
  repeat refine cl_seq ?_
  refine cl_rs hΓ [4] [] fun K' hK => ?_
  simp only [go_sem]
  repeat (refine ⟨ob, ?_⟩)
  refine hK _ ?_ ?_ <;> clear K' hK <;> simp only [go_sem]
  refine cl_ret ?_
  simp only [go_sem]
  have hn : ¬ checkI l = 0 := by simpa using hb
  unfold daysI; rw [if_neg hn]
 have hz : checkI l = 0 := by simpa using hb
 clear hb
 repeat refine cl_seq ?_
 refine cl_skip ?_
 repeat refine cl_seq ?_
 refine cl_rs hΓ [12] [] fun K' hK => ?_
 simp only [go_sem, ha]
 repeat (refine ⟨ob, ?_⟩)
 refine hK _ ?_ ?_ <;> clear K' hK <;> simp only [go_sem, ha]
 repeat refine cl_seq ?_
 refine cl_cond rfl rfl (fun hb => ?_) (fun hb => ?_)
 ·repeat refine cl_seq ?_
  repeat refine cl_seq ?_
  refine cl_rs hΓ [4] [] fun K' hK => ?_
  simp only [go_sem]
  repeat (refine ⟨ob, ?_⟩)
  refine hK _ ?_ ?_ <;> clear K' hK <;> simp only [go_sem]
  refine cl_ret ?_
  simp only [go_sem]
  unfold daysI; rw [if_pos hz, if_pos hb]
 ·repeat refine cl_seq ?_
  refine cl_skip ?_
  repeat refine cl_seq ?_
  refine cl_rs hΓ [4] [] fun K' hK => ?_
  simp only [go_sem]
  repeat (refine ⟨ob, ?_⟩)
  refine hK _ ?_ ?_ <;> clear K' hK <;> simp only [go_sem]
  refine cl_ret ?_
  simp only [go_sem]
  unfold daysI; rw [if_pos hz, if_neg (by simp [hb])]
end Go.Eng
namespace Go.Eng
open Go Go.Proofs
def vIt (x : Int × Int) : V := .agg [vInt x.1, vInt x.2]
noncomputable def confP (c : List Deed) : Option (Deed × Deed) := (pairI contraB c).map fun x => (c.getD x.1 zeroD, c.getD x.2 zeroD)
noncomputable def confL (c : List Deed) : List (Int × Int) := match confP c with
 | some (a, b) => [(a.pa, a.no), (b.pa, b.no)]
 | none => []
theorem confV_eq (c : List Deed) : confV c = .tup [.sl ((confL c).map vIt), .bool (confP c).isSome] := by
 unfold confV confL confP
 cases h : pairI contraB c with
 | none => rfl
 | some x => rfl
theorem findV_eq (l : List Deed) (a b : Int) : findV l a b = .tup [encD ((atD l (itD a b)).getD zeroD), .bool (atD l (itD a b)).isSome] := by
 unfold findV
 cases h : atD l (itD a b) with
 | none => rfl
 | some x => rfl
theorem countL_sorted {l : List Deed} (h : okL l) (k : Int) : (countL l k).Pairwise ltD := h.1.filter _
noncomputable def sDaysI : Spec := (pDays fun l ds => vInt (daysI l ds)).toSpec
theorem sDaysI_app {obj : Name → Option O} {t : Name} {l : List Deed} {ds : List Int} : sDaysI.app obj t [.v (.sl (l.map encD)), .v (.sl (ds.map vInt))] = ⟨True, .v (vInt (daysI l ds)), obj⟩ := by
 simp only [sDaysI, PSpec.toSpec, frzL, frz, pDays_fn]
 simp only [pDays, if_true]
 congr 1
 simp only [eq_iff_iff, iff_true]
 exact ⟨⟨trivial, trivial, trivial⟩, l, ds, rfl⟩
theorem sDaysI_one {obj : Name → Option O} {t : Name} {l : List Deed} {k : Int} : sDaysI.app obj t [.v (.sl (l.map encD)), .v (.sl [vInt k])] = ⟨True, .v (vInt (daysI l [k])), obj⟩ := sDaysI_app (ds := [k])
noncomputable def sFind : Spec := pFind.toSpec
theorem sFind_app {obj : Name → Option O} {t : Name} {l : List Deed} {a b : Int} {x : D} (hx : x = .v (vIt (a, b)) ∨ x = .agg [.v (vInt a), .v (vInt b)]) (hs : l.Pairwise ltD) : sFind.app obj t [.v (.sl (l.map encD)), x] = ⟨True, .v (findV l a b), obj⟩ := by
 have e : frzL (frz 6) obj [.v (.sl (l.map encD)), x] = ⟨True, [.sl (l.map encD), .agg [vInt a, vInt b]], obj⟩ := by
  rcases hx with rfl | rfl
  ·simp only [frzL, frz, vIt]; simp
  ·simp only [frzL, frz]; simp
 simp only [sFind, PSpec.toSpec, e, pFind, decD_map, if_true]
 congr 1
 simp only [eq_iff_iff, iff_true]
 exact ⟨trivial, l, a, b, rfl, hs⟩
noncomputable def K30 : FuncId → Option Spec := fun f => match f with
 | 70 => some sDaysI
 | 81 => some (sLI okL (fun l k => .sl ((countL l k).map encD)) false)
 | 80 => some (sL (fun _ => True) confV)
 | 74 => some sFind
 | 103 => some (sDDb fun a b => .bool (contraB a b))
 | 102 => some (pItems fun a b c d => vInt (cmpIt a b c d)).toSpec
 | _ => none
theorem K30_sound : ∀ f s, K30 f = some s → SSound Tryz.prog f s := by
 intro f s h
 unfold K30 at h
 split at h
 ·cases h; exact s70.sound
 ·cases h; exact s81.sound
 ·cases h; exact s80.sound
 ·cases h; exact s74.sound
 ·cases h; exact s103.sound
 ·cases h; exact s102.sound
 ·cases h
@[go_sem] theorem K30_70 : K30 70 = some sDaysI := rfl
@[go_sem] theorem K30_81 : K30 81 = some (sLI okL (fun l k => .sl ((countL l k).map encD)) false) := rfl
@[go_sem] theorem K30_80 : K30 80 = some (sL (fun _ => True) confV) := rfl
@[go_sem] theorem K30_74 : K30 74 = some sFind := rfl
@[go_sem] theorem K30_103 : K30 103 = some (sDDb fun a b => .bool (contraB a b)) := rfl
@[go_sem] theorem K30_102 : K30 102 = some (pItems fun a b c d => vInt (cmpIt a b c d)).toSpec := rfl
theorem days_ok {l : List Deed} {ds : List Int} (h : daysI l ds = 0) : okL l := by
 unfold daysI at h
 split at h
 ·exact check_zero.1 (by assumption)
 ·exact check_zero.1 h
noncomputable def consV (l : List Deed) (k : Int) : V := if daysI l [k] = 0 then .tup [.bool (!(confP (countL l k)).isSome), vInt 0] else .tup [.bool false, vInt (daysI l [k])]
set_option maxRecDepth 10000
theorem s27 : PSound Tryz.prog 27 (pLI (fun _ => True) consV true) := by
 refine psoundB (rs := [.tmp 4, .tmp 5]) Tryz.func27 Tryz.ntmps27 (by rfl) (by kernel_rfl) (by decide) (by
  rintro _ xs ⟨l, k, rfl, _⟩
  rw [pLI_fn]
  unfold consV
  split <;> rfl) ⟨_, rfl, ?_⟩
 rintro xs ⟨l, k, rfl, _⟩ hw
 refine ⟨Nat.le_of_ble_eq_true rfl, ?_⟩
 rw [pLI_fn]
 have hΓ := K30_sound
 repeat refine cl_seq ?_
 refine cl_rs hΓ [0,1] [] fun K' hK => ?_
 simp only [go_sem]
 repeat (refine ⟨ob, ?_⟩)
 refine hK _ ?_ ?_ <;> clear K' hK <;> simp only [go_sem]
 repeat refine cl_seq ?_
 refine cl_rs hΓ [0,1,6] [] fun K' hK => ?_
 simp only [go_sem, sDaysI_one]
 repeat (refine ⟨ob, ?_⟩)
 refine hK _ ?_ ?_ <;> clear K' hK <;> simp only [go_sem, sDaysI_one]
 repeat refine cl_seq ?_
 refine cl_rs hΓ [0,1,6,14] [] fun K' hK => ?_
 simp only [go_sem]
 repeat (refine ⟨ob, ?_⟩)
 refine hK _ ?_ ?_ <;> clear K' hK <;> simp only [go_sem]
 repeat refine cl_seq ?_
 refine cl_cond rfl rfl (fun hb => ?_) (fun hb => ?_)
 ·repeat refine cl_seq ?_
  repeat refine cl_seq ?_
  refine cl_rs hΓ [4,5] [] fun K' hK => ?_
  simp only [go_sem]
  repeat (refine ⟨ob, ?_⟩)
  refine hK _ ?_ ?_ <;> clear K' hK <;> simp only [go_sem]
  refine cl_ret ?_
  simp only [go_sem]
  have hn : ¬ daysI l [k] = 0 := by simpa using hb
  unfold consV; rw [if_neg hn]
 have hz : daysI l [k] = 0 := by simpa using hb
 have hok := days_ok hz
 clear hb
 repeat refine cl_seq ?_
 refine cl_skip ?_
 have hc := fun (obj : Name → Option O) (t : Name) (f : List Deed → Int → V) (fl : Bool) => sLI_app (P := okL) (f := f) (fl := fl) (obj := obj) (t := t) (k := k) hok
 have hf := fun (obj : Name → Option O) (t : Name) (f : List Deed → V) (c : List Deed) => sL_app (P := fun _ => True) (f := f) (obj := obj) (t := t) (l := c) trivial
 repeat refine cl_seq ?_
 refine cl_rs hΓ [7,8] [] fun K' hK => ?_
 simp only [go_sem, hc, hf, confV_eq]
 repeat (refine ⟨ob, ?_⟩)
 refine hK _ ?_ ?_ <;> clear K' hK <;> simp only [go_sem, hc, hf, confV_eq]
 repeat refine cl_seq ?_
 refine cl_rs hΓ [4,5] [] fun K' hK => ?_
 simp only [go_sem]
 repeat (refine ⟨ob, ?_⟩)
 refine hK _ ?_ ?_ <;> clear K' hK <;> simp only [go_sem]
 refine cl_ret ?_
 simp only [go_sem]
 unfold consV; rw [if_pos hz]
end Go.Eng
namespace Go.Eng
open Go Go.Proofs
theorem ltD_irr {a : Deed} : ¬ ltD a a := by unfold ltD; omega
theorem cmpD_self (a : Deed) : cmpD a a = 0 := cmpD_eq.2 ⟨rfl, rfl⟩
theorem atD_mem : ∀ {l : List Deed} {x y : Deed}, atD l x = some y → y ∈ l ∧ cmpD y x = 0
 | [], x, y, h => by cases h
 | a :: r, x, y, h => by
  unfold atD at h
  split at h
  ·have := atD_mem h; exact ⟨by simp [this.1], this.2⟩
  ·split at h
   ·cases h; exact ⟨by simp, by assumption⟩
   ·cases h
end Go.Eng
namespace Go.Eng
open Go Go.Proofs
theorem atD_self {l : List Deed} (hs : l.Pairwise ltD) {d : Deed} (hd : d ∈ l) : atD l (itD d.pa d.no) = some d := by
 have hc : ∀ y : Deed, cmpD y (itD d.pa d.no) = cmpD y d := fun y => rfl
 induction l with
 | nil => simp at hd
 | cons a r ih =>
  rw [List.pairwise_cons] at hs
  unfold atD
  rcases List.mem_cons.1 hd with rfl | hd
  ·have h1 : ¬ ltD d (itD d.pa d.no) := by unfold ltD itD; simp
   rw [if_neg h1, if_pos (by rw [hc]; exact cmpD_self d)]
  ·have h1 : ltD a (itD d.pa d.no) := by have := hs.1 d hd; unfold ltD itD at *; exact this
   rw [if_pos h1]
   exact ih hs.2 hd
end Go.Eng
