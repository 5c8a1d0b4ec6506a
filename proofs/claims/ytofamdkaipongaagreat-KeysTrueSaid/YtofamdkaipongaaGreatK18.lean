import Derived.Test.YtofamdkaipongaaGreatK17
/- Texts KJ5 to KW85. -/
set_option linter.all false
namespace Go.Eng
open Go Go.Proofs
theorem idxF_shift (p : Deed → Bool) : ∀ (c : List Deed) (n : Nat), idxF p n c = (idxF p 0 c).map (· + n)
 | [], n => rfl
 | d :: r, n => by
  have h1 := idxF_shift p r (n + 1)
  have h2 := idxF_shift p r 1
  simp only [idxF, Nat.zero_add]
  rw [h1, h2]
  have : ((fun x => x + n) ∘ fun x => x + 1) = fun x => x + (n + 1) := by funext x; simp only [Function.comp]; omega
  split <;> simp [List.map_map, this]
theorem idxF_count (p : Deed → Bool) : ∀ (c : List Deed) (n : Nat), (idxF p n c).length = (c.filter p).length
 | [], n => rfl
 | d :: r, n => by
  have h1 := idxF_count p r (n + 1)
  simp only [idxF, List.filter_cons]
  split <;> simp [h1]
theorem idxF_at {p : Deed → Bool} : ∀ {c : List Deed} {j : Nat} (h : j < (idxF p 0 c).length), ∃ (hi : (idxF p 0 c)[j] < c.length) (hj : j < (c.filter p).length),
  c[(idxF p 0 c)[j]] = (c.filter p)[j] ∧ p c[(idxF p 0 c)[j]] = true ∧ (c.take (idxF p 0 c)[j]).filter p = (c.filter p).take j ∧ (c.drop ((idxF p 0 c)[j] + 1)).filter p = (c.filter p).drop (j + 1)
 | [], j, h => by simp [idxF] at h
 | d :: r, j, h => by
  have hc := idxF_count p r 0
  by_cases hp : p d = true
  ·have e : idxF p 0 (d :: r) = 0 :: (idxF p 0 r).map (· + 1) := by
    simp only [idxF, Nat.zero_add]; rw [if_pos hp, idxF_shift p r 1]
   have ef : (d :: r).filter p = d :: r.filter p := by rw [List.filter_cons, if_pos hp]
   cases j with
   | zero =>
    have e0 : (idxF p 0 (d :: r))[0] = 0 := by simp only [e, List.getElem_cons_zero]
    simp only [e0, ef, List.length_cons]
    exact ⟨by omega, by omega, rfl, hp, rfl, by simp⟩
   | succ j =>
    have hj : j < (idxF p 0 r).length := by simp only [e, List.length_cons, List.length_map] at h; omega
    obtain ⟨hi, hj', h1, h2, h3, h4⟩ := idxF_at hj
    have e0 : (idxF p 0 (d :: r))[j + 1] = (idxF p 0 r)[j] + 1 := by simp only [e, List.getElem_cons_succ, List.getElem_map]
    simp only [e0, ef, List.length_cons]
    refine ⟨by omega, by omega, ?_, ?_, ?_, ?_⟩
    ·simp only [List.getElem_cons_succ]; exact h1
    ·simp only [List.getElem_cons_succ]; exact h2
    ·rw [List.take_succ_cons, List.filter_cons, if_pos hp, List.take_succ_cons, h3]
    ·rw [List.drop_succ_cons, List.drop_succ_cons, h4]
  ·have e : idxF p 0 (d :: r) = (idxF p 0 r).map (· + 1) := by
    simp only [idxF, Nat.zero_add]; rw [if_neg hp, idxF_shift p r 1]
   have ef : (d :: r).filter p = r.filter p := by rw [List.filter_cons, if_neg hp]
   have hj : j < (idxF p 0 r).length := by simp only [e, List.length_map] at h; omega
   obtain ⟨hi, hj', h1, h2, h3, h4⟩ := idxF_at hj
   have e0 : (idxF p 0 (d :: r))[j] = (idxF p 0 r)[j] + 1 := by simp only [e, List.getElem_map]
   simp only [e0, ef, List.length_cons]
   refine ⟨by omega, hj', ?_, ?_, ?_, ?_⟩
   ·simp only [List.getElem_cons_succ]; exact h1
   ·simp only [List.getElem_cons_succ]; exact h2
   ·rw [List.take_succ_cons, List.filter_cons, if_neg hp, h3]
   ·rw [List.drop_succ_cons, h4]
def thB (p : Deed → Bool) : Prop := ∀ d o, isDeedB d = true → isDeedB o = true → p d = true → sameThB d o = p o
theorem thrB_of (lock : Int) (hl : 1 ≤ lock) : thB (thrB lock) := by
 intro d o hd ho hp
 have h2 := valid_kind ho
 unfold thrB at hp ⊢
 unfold sameThB
 simp only [Bool.and_eq_true, Bool.not_eq_true', beq_iff_eq] at hp
 rw [if_neg (by rw [hp.1]; decide), hp.2]
 rcases h2 with ⟨h2, h4, _⟩ | ⟨h2, h4⟩
 ·rw [h2, h4]
  have : (lock == (0 : Int)) = false := by simp; omega
  rw [this]; rfl
 ·rw [h2]; simp; exact Bool.beq_comm ..
theorem offpB_of (pe : Int) : thB (offpB pe) := by
 intro d o hd ho hp
 unfold offpB at hp ⊢
 unfold sameThB
 simp only [Bool.and_eq_true, beq_iff_eq] at hp
 rw [if_pos hp.1, hp.2]
 congr 1
 exact Bool.beq_comm ..
theorem thrL_lock {c : List Deed} (hv : ∀ d ∈ c, isDeedB d = true) {lock : Int} (hl : 1 ≤ lock) : thrL c lock 0 = c.filter (thrB lock) := by
 unfold thrL
 refine List.filter_congr fun d hd => ?_
 have h2 := valid_kind (hv d hd)
 unfold isOfB thrB
 rw [if_pos (by omega)]
 rcases h2 with ⟨h2, h4, _⟩ | ⟨h2, h4⟩
 ·rw [h2, h4]
  have : ((0 : Int) == lock) = false := by simp; omega
  rw [this]; rfl
 ·rw [h2]; simp
theorem thrL_pers {c : List Deed} (hv : ∀ d ∈ c, isDeedB d = true) (pe : Int) : thrL c 0 pe = c.filter (offpB pe) := by
 unfold thrL
 refine List.filter_congr fun d hd => ?_
 have h2 := valid_kind (hv d hd)
 unfold isOfB offpB
 rw [if_neg (by omega)]
 rcases h2 with ⟨h2, h4, _⟩ | ⟨h2, h4⟩
 ·rw [h2, h4]; simp
 ·rw [h2]
  have : (d.lo == (0 : Int)) = false := by simp; omega
  rw [this]
theorem rLo_by {p : Deed → Bool} (hp : thB p) {d : Deed} (hd : isDeedB d = true) (h1 : p d = true) : ∀ {X : List Deed} (m : Int), (∀ o ∈ X, isDeedB o = true) →
  X.foldl (fun m o => if sameThB d o then (if o.dl > m then o.dl else m) else m) m = (X.filter p).foldl (fun m o => if o.dl > m then o.dl else m) m
 | [], m, _ => rfl
 | o :: r, m, h => by
  have hs := hp d o hd (h o (by simp)) h1
  have ih := fun m => rLo_by hp hd h1 (X := r) m fun o ho => h o (by simp [ho])
  rw [List.foldl_cons, List.filter_cons, hs]
  by_cases h2 : p o = true
  ·rw [if_pos h2, if_pos h2, List.foldl_cons]; exact ih _
  ·rw [if_neg h2, if_neg h2]; exact ih _
theorem rHi_by {p : Deed → Bool} (hp : thB p) {d : Deed} (hd : isDeedB d = true) (h1 : p d = true) : ∀ {X : List Deed} (m : Int), (∀ o ∈ X, isDeedB o = true) →
  X.foldl (fun m o => if sameThB d o then (if o.dh < m then o.dh else m) else m) m = (X.filter p).foldl (fun m o => if o.dh < m then o.dh else m) m
 | [], m, _ => rfl
 | o :: r, m, h => by
  have hs := hp d o hd (h o (by simp)) h1
  have ih := fun m => rHi_by hp hd h1 (X := r) m fun o ho => h o (by simp [ho])
  rw [List.foldl_cons, List.filter_cons, hs]
  by_cases h2 : p o = true
  ·rw [if_pos h2, if_pos h2, List.foldl_cons]; exact ih _
  ·rw [if_neg h2, if_neg h2]; exact ih _
theorem day_at {p : Deed → Bool} (hp : thB p) {c : List Deed} (hv : ∀ d ∈ c, isDeedB d = true) {j : Nat} (h : j < (idxF p 0 c).length) :
  (dayR c (idxF p 0 c)[j]).1 = loM ((c.filter p).take (j + 1)) ∧ (dayR c (idxF p 0 c)[j]).2 = hiM ((c.filter p).drop j) := by
 obtain ⟨hi, hj, h1, h2, h3, h4⟩ := idxF_at h
 have hd := hv _ (List.getElem_mem hi)
 have hdl := day_of hd
 unfold dayR
 have e : c.getD (idxF p 0 c)[j] zeroD = c[(idxF p 0 c)[j]] := by simp [List.getD_eq_getElem?_getD, hi]
 rw [e]
 constructor
 ·show rLo _ _ = _
  unfold rLo
  rw [rLo_by hp hd h2 _ fun o ho => hv o (List.mem_of_mem_take ho), h3]
  unfold loM
  rw [List.take_add_one, List.getElem?_eq_getElem hj, List.foldl_append, ← h1]
  simp only [Option.toList_some, List.foldl_cons, List.foldl_nil]
  exact fold_max _ _ 0 hdl.1
 ·show rHi _ _ = _
  unfold rHi
  rw [rHi_by hp hd h2 _ fun o ho => hv o (List.mem_of_mem_drop ho), h4]
  unfold hiM
  rw [List.drop_eq_getElem_cons hj, List.foldl_cons, ← h1]
  have : (if c[(idxF p 0 c)[j]].dh < 100000 then c[(idxF p 0 c)[j]].dh else 100000) = c[(idxF p 0 c)[j]].dh := by split <;> omega
  rw [this]
theorem can_may {p : Deed → Bool} (hp : thB p) {c : List Deed} (hv : ∀ d ∈ c, isDeedB d = true) {n : Nat} (hn : n ≤ (c.filter p).length) (day : Int) :
  canB (daysRL c) (idxF p 0 c) n day = mayB (c.filter p) n day := by
 have hc := idxF_count p c 0
 have hg : ∀ j (h : j < (idxF p 0 c).length), (daysRL c).getD ((idxF p 0 c).getD j 0) (0, 0) = dayR c (idxF p 0 c)[j] := by
  intro j h
  obtain ⟨hi, _⟩ := idxF_at h
  have : (idxF p 0 c)[j] < (daysRL c).length := by rw [daysRL_len]; exact hi
  simp only [List.getD_eq_getElem?_getD, h, getElem?_pos, Option.getD_some, this]
  exact daysRL_get this
 unfold canB mayB
 rw [hc]
 congr 1
 ·by_cases h0 : n = 0
  ·simp [h0]
  ·have h1 : n - 1 < (idxF p 0 c).length := by omega
   rw [hg _ h1, (day_at hp hv h1).1, show n - 1 + 1 = n by omega]
 ·by_cases h0 : n = (c.filter p).length
  ·simp [h0]
  ·have h1 : n < (idxF p 0 c).length := by omega
   rw [hg _ h1, (day_at hp hv h1).2]
theorem fold_key : ∀ {t : List Deed} (s : Sta), (∀ d ∈ t, 3 ≤ d.ki ∧ d.ki ≤ 6) → ((t.foldl (fun s d => doS d.ki s d.pe) s).h, (t.foldl (fun s d => doS d.ki s d.pe) s).n) = t.foldl keyA (s.h, s.n)
 | [], s, _ => rfl
 | d :: r, s, h => by
  have hd := h d (by simp)
  rw [List.foldl_cons, List.foldl_cons, fold_key _ fun o ho => h o (by simp [ho])]
  congr 1
  unfold doS keyA
  have h1 : ¬ d.ki = 1 := by omega
  rw [if_neg h1]
  by_cases h3 : d.ki = 3
  ·simp [h3]
  by_cases h4 : d.ki = 4
  ·simp only [h4]
   by_cases h5 : s.h = 0 <;> simp [h5]
  by_cases h5 : d.ki = 5
  ·simp [h5]
  have h6 : d.ki = 6 := by omega
  simp [h6]
theorem kind_of {d : Deed} (h : isDeedB d = true) : kindOk d := by
 unfold isDeedB at h
 unfold kindOk
 grind
theorem thrB_kind {lock : Int} {d : Deed} (h : isDeedB d = true) (h1 : thrB lock d = true) : 3 ≤ d.ki ∧ d.ki ≤ 6 := by
 have := kind_of h
 unfold kindOk at this
 unfold thrB offB at h1
 simp at h1
 omega
theorem stA_in {c : List Deed} (pe : Int) {n : Nat} (hn : n ≤ (c.filter (offpB pe)).length) : (stA (c.filter (offpB pe)) n).o = inK c (idxF (offpB pe) 0 c) n := by
 have hc := idxF_count (offpB pe) c 0
 cases n with
 | zero => rfl
 | succ m =>
  have hm : m < (c.filter (offpB pe)).length := by omega
  have hm' : m < (idxF (offpB pe) 0 c).length := by omega
  obtain ⟨hi, hj, h1, h2, _⟩ := idxF_at hm'
  rw [stA_succ hm]
  unfold inK
  have e : c.getD ((idxF (offpB pe) 0 c).getD (m + 1 - 1) 0) zeroD = (c.filter (offpB pe))[m] := by
   rw [← h1]
   simp [List.getD_eq_getElem?_getD, hm', hi]
  rw [e]
  rw [h1] at h2
  generalize (c.filter (offpB pe))[m] = d at h2 ⊢
  unfold offpB offB at h2
  simp only [Bool.and_eq_true, Bool.or_eq_true, beq_iff_eq] at h2
  rcases h2.1 with h3 | h3
  ·simp [doS, h3]
  ·simp [doS, h3]
theorem loM_le {day : Int} : ∀ {X : List Deed}, 0 ≤ day → (∀ d ∈ X, d.dl ≤ day) → loM X ≤ day := by
 intro X h0 h
 have : ∀ (X : List Deed) (m : Int), m ≤ day → (∀ d ∈ X, d.dl ≤ day) → X.foldl (fun m d => if d.dl > m then d.dl else m) m ≤ day := by
  intro X
  induction X with
  | nil => intro m hm _; exact hm
  | cons o r ih =>
   intro m hm h
   rw [List.foldl_cons]
   refine ih _ ?_ fun d hd => h d (by simp [hd])
   have := h o (by simp)
   split <;> omega
 exact this X 0 h0 h
theorem hiM_le {day : Int} {X : List Deed} (h : hiM X ≤ day) : 100000 ≤ day ∨ ∃ d ∈ X, d.dh ≤ day := by
 have : ∀ (X : List Deed) (m : Int), X.foldl (fun m d => if d.dh < m then d.dh else m) m ≤ day → m ≤ day ∨ ∃ d ∈ X, d.dh ≤ day := by
  intro X
  induction X with
  | nil => intro m hm; exact .inl hm
  | cons o r ih =>
   intro m h
   rw [List.foldl_cons] at h
   rcases ih _ h with h1 | ⟨d, hd, h1⟩
   ·split at h1
    ·exact .inr ⟨o, by simp, h1⟩
    ·exact .inl h1
   ·exact .inr ⟨d, by simp [hd], h1⟩
 exact this X 100000 h
def evenT (t : List Deed) : Prop := ∀ i k (hi : i < t.length) (hk : k < t.length), i ≤ k → t[i].dl ≤ t[k].dh
theorem may_some {t : List Deed} (ht : evenT t) (hv : ∀ d ∈ t, d.dl ≤ d.dh ∧ d.dh ≤ 100000) {day : Int} (h0 : 0 ≤ day) : ∃ n, n ≤ t.length ∧ mayB t n day = true := by
 have key : ∀ m, m ≤ t.length → (∃ n, n ≤ t.length ∧ mayB t n day = true) ∨ ∀ i (hi : i < t.length), i < m → t[i].dl ≤ day := by
  intro m
  induction m with
  | zero => exact fun _ => .inr fun i hi h => by omega
  | succ m ih =>
   intro hm
   rcases ih (by omega) with h | h
   ·exact .inl h
   have hlo : loM (t.take m) ≤ day := loM_le h0 fun d hd => by
    obtain ⟨i, hi, rfl⟩ := List.getElem_of_mem hd
    rw [List.getElem_take]
    simp at hi
    exact h i (by omega) (by omega)
   by_cases hh : hiM (t.drop m) > day
   ·refine .inl ⟨m, by omega, ?_⟩
    unfold mayB
    simp [hlo, hh]
   ·refine .inr fun i hi hi' => ?_
    by_cases hi2 : i < m
    ·exact h i hi hi2
    rcases hiM_le (Int.not_lt.1 hh) with h1 | ⟨d, hd, h1⟩
    ·have := hv _ (List.getElem_mem hi)
     omega
    ·obtain ⟨k, hk, rfl⟩ := List.getElem_of_mem hd
     rw [List.getElem_drop] at h1
     simp at hk
     have := ht i (m + k) hi (by omega) (by omega)
     omega
 rcases key t.length (Nat.le_refl _) with h | h
 ·exact h
 ·refine ⟨t.length, Nat.le_refl _, ?_⟩
  have hlo : loM (t.take t.length) ≤ day := loM_le h0 fun d hd => by
   rw [List.take_length] at hd
   obtain ⟨i, hi, rfl⟩ := List.getElem_of_mem hd
   exact h i hi hi
  rw [List.take_length] at hlo
  unfold mayB
  simp [hlo]
theorem even_thr {c : List Deed} (hs : c.Pairwise ltD) (hv : ∀ d ∈ c, isDeedB d = true) (hn : pairI clashB c = none) {p : Deed → Bool} (hp : thB p) : evenT (c.filter p) := by
 have hpw : c.Pairwise fun a b => sameThB a b = true → a.dl ≤ b.dh := by
  rw [List.pairwise_iff_getElem]
  intro i k hi hk hik hsm
  have := pairI_not hn i k hi hk hik
  unfold clashB at this
  rw [hsm] at this
  simp at this
  omega
 have hf := hpw.filter p
 intro i k hi hk hik
 have hvi := List.mem_filter.1 (List.getElem_mem hi)
 have hvk := List.mem_filter.1 (List.getElem_mem hk)
 rcases Nat.lt_or_eq_of_le hik with h | h
 ·refine List.pairwise_iff_getElem.1 hf i k hi hk h ?_
  rw [hp _ _ (hv _ hvi.1) (hv _ hvk.1) hvi.2]
  exact hvk.2
 ·subst h
  have := day_of (hv _ hvi.1)
  omega
def mayL (t : List Deed) (day : Int) (s : Nat) : List Nat := (List.range s).filter fun n => mayB t n day
theorem mayL_next (t : List Deed) (day : Int) (s : Nat) : mayL t day (s + 1) = if mayB t s day then mayL t day s ++ [s] else mayL t day s := by
 unfold mayL
 rw [List.range_succ, List.filter_append]
 simp only [List.filter_cons, List.filter_nil]
 split <;> simp
def whoTo (f : Sta → Int) (t : List Deed) (day : Int) (s : Nat) : List Int := (mayL t day s).foldl (fun o n => insI o (f (stA t n))) []
theorem whoTo_next (f : Sta → Int) (t : List Deed) (day : Int) (s : Nat) : whoTo f t day (s + 1) = if mayB t s day then insI (whoTo f t day s) (f (stA t s)) else whoTo f t day s := by
 unfold whoTo
 rw [mayL_next]
 split
 ·rw [List.foldl_append]; rfl
 ·rfl
theorem whoTo_ok (f : Sta → Int) (t : List Deed) (day : Int) : ∀ s, (whoTo f t day s).Pairwise (· < ·) ∧ (whoTo f t day s).length ≤ s
 | 0 => ⟨List.Pairwise.nil, Nat.le_refl _⟩
 | s + 1 => by
  obtain ⟨h1, h2⟩ := whoTo_ok f t day s
  rw [whoTo_next]
  split
  ·refine ⟨insI_sorted h1, ?_⟩
   have := insI_len (whoTo f t day s) (f (stA t s))
   omega
  ·exact ⟨h1, by omega⟩
def whoL (f : Sta → Int) (t : List Deed) (day : Int) : List Int := whoTo f t day (t.length + 1)
def yesTo (p : Sta → Bool) (t : List Deed) (day : Int) (s : Nat) : Bool := (mayL t day s).any fun n => p (stA t n)
def noTo (p : Sta → Bool) (t : List Deed) (day : Int) (s : Nat) : Bool := (mayL t day s).any fun n => !p (stA t n)
theorem yesTo_next (p : Sta → Bool) (t : List Deed) (day : Int) (s : Nat) : yesTo p t day (s + 1) = if mayB t s day then (yesTo p t day s || p (stA t s)) else yesTo p t day s := by
 unfold yesTo
 rw [mayL_next]
 split
 ·rw [List.any_append]; simp
 ·rfl
theorem noTo_next (p : Sta → Bool) (t : List Deed) (day : Int) (s : Nat) : noTo p t day (s + 1) = if mayB t s day then (noTo p t day s || !p (stA t s)) else noTo p t day s := by
 unfold noTo
 rw [mayL_next]
 split
 ·rw [List.any_append]; simp
 ·rfl
def ansP (p : Sta → Bool) (t : List Deed) (day : Int) : Int :=
 if noTo p t day (t.length + 1) then (if yesTo p t day (t.length + 1) then 2 else 0) else 1
theorem ansP_some {p : Sta → Bool} {t : List Deed} {day : Int} (h : ∃ n, n ≤ t.length ∧ mayB t n day = true) : ansP p t day = ansI (yesTo p t day (t.length + 1)) (noTo p t day (t.length + 1)) := by
 unfold ansP ansI
 cases hn : noTo p t day (t.length + 1) with
 | true => simp
 | false =>
  have hy : yesTo p t day (t.length + 1) = true := by
   obtain ⟨n, h1, h2⟩ := h
   have hm : n ∈ mayL t day (t.length + 1) := List.mem_filter.2 ⟨List.mem_range.2 (by omega), h2⟩
   have h3 := List.any_eq_false.1 hn n hm
   refine List.any_eq_true.2 ⟨n, hm, by simpa using h3⟩
  simp [hy]
theorem conf_clash {l : List Deed} (h : okL l) {k : Int} (hn : ¬ (confP (countL l k)).isSome = true) : pairI clashB (countL l k) = none := by
 rw [pairI_clash h]
 unfold confP at hn
 simpa using hn
theorem pers_some {l : List Deed} (h : okL l) {k : Int} (hn : ¬ (confP (countL l k)).isSome = true) {pe day : Int} (h0 : 0 ≤ day) : ∃ n, n ≤ (thrL (countL l k) 0 pe).length ∧ mayB (thrL (countL l k) 0 pe) n day = true := by
 have hv := countL_valid h k
 rw [thrL_pers hv]
 refine may_some (even_thr (countL_sorted h k) hv (conf_clash h hn) (offpB_of pe)) (fun d hd => ?_) h0
 have := day_of (hv d (List.mem_filter.1 hd).1)
 omega
theorem any_filter_and {q g : Nat → Bool} : ∀ (l : List Nat), (l.filter q).any g = l.any fun n => q n && g n
 | [] => rfl
 | a :: r => by
  have ih := any_filter_and (q := q) (g := g) r
  rw [List.filter_cons, List.any_cons]
  split
  ·rename_i h; rw [List.any_cons, ih, h]; rfl
  ·rename_i h; rw [ih]; simp [h]
theorem any_congr' {f g : Nat → Bool} {l : List Nat} (h : ∀ n ∈ l, f n = g n) : l.any f = l.any g := by
 induction l with
 | nil => rfl
 | cons a r ih => rw [List.any_cons, List.any_cons, h a (by simp), ih fun n hn => h n (by simp [hn])]
theorem off_may {l : List Deed} (h : okL l) {k : Int} (hn : ¬ (confP (countL l k)).isSome = true) {pe day : Int} (h0 : 0 ≤ day) :
  ansP (fun s => s.o) (thrL (countL l k) 0 pe) day = offI (countL l k) pe day := by
 have hv := countL_valid h k
 rw [ansP_some (pers_some h hn h0)]
 unfold offI yesTo noTo yesN noN mayL
 rw [thrL_pers hv, idxF_count, any_filter_and, any_filter_and]
 have key : ∀ n ∈ List.range (((countL l k).filter (offpB pe)).length + 1), mayB ((countL l k).filter (offpB pe)) n day = canB (daysRL (countL l k)) (idxF (offpB pe) 0 (countL l k)) n day ∧
   (stA ((countL l k).filter (offpB pe)) n).o = inK (countL l k) (idxF (offpB pe) 0 (countL l k)) n := fun n hn => by
  have := List.mem_range.1 hn
  exact ⟨(can_may (offpB_of pe) hv (by omega) day).symm, stA_in pe (by omega)⟩
 congr 1
 ·exact any_congr' fun n hn => by
   have := key n hn
   simp only [this.1, this.2]
 ·exact any_congr' fun n hn => by
   have := key n hn
   simp only [this.1, this.2]
noncomputable def askE (l : List Deed) (day k : Int) : Int := if daysI l [day, k] = 0 then (if (confP (countL l k)).isSome then 13 else 0) else daysI l [day, k]
theorem askV_eq (l : List Deed) (day k : Int) : askV l day k = .tup [.sl ((if askE l day k = 0 then countL l k else []).map encD), vInt (askE l day k)] := by
 unfold askV askE contV
 by_cases h1 : daysI l [day, k] = 0
 ·simp only [h1, if_true]
  by_cases h2 : (confP (countL l k)).isSome = true
  ·simp [h2]
  ·simp [h2]
 ·simp only [h1, if_false]
  rfl
theorem askE_ok {l : List Deed} {day k : Int} (h : askE l day k = 0) : okL l ∧ ¬ (confP (countL l k)).isSome = true ∧ daysI l [day, k] = 0 := by
 unfold askE at h
 split at h
 ·rename_i h1
  split at h
  ·cases h
  ·rename_i h2
   exact ⟨days_ok h1, h2, h1⟩
 ·rename_i h1; exact (h1 h).elim
noncomputable def lockE (l : List Deed) (lock day k : Int) (ps : List Int) : Int :=
 if checkI l = 0 then (if isLockB lock then (if ps.any (fun n => !isPersB n) then 16 else askE l day k) else 15) else checkI l
theorem lockV_eq (l : List Deed) (lock day k : Int) (ps : List Int) : lockV l lock day k ps = .tup [.sl ((if lockE l lock day k ps = 0 then thrL (countL l k) lock 0 else []).map encD), vInt (lockE l lock day k ps)] := by
 unfold lockV lockE askE
 by_cases h1 : checkI l = 0
 ·simp only [h1, if_true]
  by_cases h2 : isLockB lock = true
  ·simp only [h2, if_true]
   by_cases h3 : (ps.any fun n => !isPersB n) = true
   ·simp [h3]
   ·simp only [h3, if_false, Bool.false_eq_true]
    by_cases h4 : daysI l [day, k] = 0
    ·simp only [h4, if_true]
     by_cases h5 : (confP (countL l k)).isSome = true
     ·simp [h5]
     ·simp [h5]
    ·simp only [h4, if_false, Bool.false_eq_true]
     rfl
  ·simp [h2]
 ·simp only [h1, if_false]
  rfl
theorem lockE_ok {l : List Deed} {lock day k : Int} {ps : List Int} (h : lockE l lock day k ps = 0) : askE l day k = 0 ∧ 1 ≤ lock := by
 unfold lockE at h
 split at h
 ·split at h
  ·rename_i h2
   split at h
   ·cases h
   ·unfold isLockB at h2
    rw [inI_iff] at h2
    exact ⟨h, h2.1⟩
  ·cases h
 ·rename_i h1; exact (h1 h).elim
open Go
theorem weak_ghostB {σ : S} (b nm : Name) (sz : Nat) (hb : σ.obj b = some (.box [.nilsl])) (hn : σ.obj nm = none) :
  Weak σ ⟨σ.nt, σ.env, upd (upd σ.obj nm (some (.arr sz []))) b (some (.box [.msl nm 0])), σ.pre, σ.base⟩ := by
 intro G φ m a w hC
 have hne : b ≠ nm := fun e => by subst e; rw [hb] at hn; cases hn
 obtain ⟨h1, h2, h3, us, T, f, h4, h5, h6, h7⟩ := hC.objs b _ hb
 have h0 : 0 < us.size := by rw [h6]; simp
 have h8 := h7 0 (by simp) h0
 simp only [List.getElem_cons_zero] at h8
 generalize hu : us[0] = u at h8
 cases h8 with
 | nilsl b' =>
 have hx := Ext.new (φ := φ) hn ⟨0, 0, 0, true, b'⟩ (.arr sz [])
 have hC' := hC.chg (w' := w) nm (.arr sz []) ⟨0, 0, 0, true, b'⟩ hx ⟨rfl, rfl, rfl, Nat.le_refl _⟩ (fun _ _ _ => rfl) (fun h => by cases h) (.inl ⟨rfl, rfl⟩)
 have hb' : (upd σ.obj nm (some (.arr sz []))) b = some (.box [.nilsl]) := by rw [upd_ne _ _ _ hne]; exact hb
 have hφ : (upd φ nm ⟨0, 0, 0, true, b'⟩) b = φ b := upd_ne _ _ _ hne
 have hx2 := Ext.same (φ := upd φ nm ⟨0, 0, 0, true, b'⟩) (o' := .box [.msl nm 0]) hb' rfl rfl
 refine ⟨_, hC'.chg (w' := w) b (.box [.msl nm 0]) _ hx2 ⟨rfl, rfl, rfl, Nat.le_refl _⟩ (fun _ _ _ => rfl) (fun _ => .inr ⟨⟨_, hb', rfl, by rw [hφ]; exact h2⟩, rfl⟩) ?_⟩
 rw [upd_id, hφ]
 refine ⟨h1, h2, by simp [D.one], us, T, f, h4, h5, by simpa using h6, fun i hi hi' => ?_⟩
 have hi0 : i = 0 := by simp at hi; exact hi
 subst hi0
 simp only [List.getElem_cons_zero]
 rw [hu]
 have hnm : (upd (upd σ.obj nm (some (.arr sz []))) b (some (.box [.msl nm 0]))) nm = some (.arr sz []) := by rw [upd_ne _ _ _ hne.symm, upd_same]
 refine .msl _ _ _ ⟨_, _, hnm, rfl, by simp, fun _ => ?_⟩ rfl
 rw [upd_same]; rfl
theorem weakM_ghostB {σ τ : S} (b nm : Name) (sz : Nat) (hb : σ.obj b = some (.box [.nilsl])) (hn : σ.obj nm = none) (ks : List Nat) (ns : List Name)
  (h : clS ks ns ⟨σ.nt, σ.env, upd (upd σ.obj nm (some (.arr sz []))) b (some (.box [.msl nm 0])), σ.pre, σ.base⟩) (hk : keepS ks ns ⟨σ.nt, σ.env, upd (upd σ.obj nm (some (.arr sz []))) b (some (.box [.msl nm 0])), σ.pre, σ.base⟩ = τ) : WeakM σ τ :=
 (weak_ghostB b nm sz hb hn).toM.trans (weakM_keep ks ns h hk)
theorem leftK_go {K : Exit → S → Prop} {obj : Name → Option O} {nm : Name} {σ : S} {env : List E} {ps : List Nat} {a b : Code} (h : obj nm = some (.loop env ps a b .ready none)) (hK : K .normal σ) : leftK K obj nm σ := by
 unfold leftK
 rw [h]
 exact hK
theorem cl_rangeFuncR {P : Program} {Γ : FuncId → Option Spec} (hΓ : ∀ f s, Γ f = some s → SSound P f s) {g : Operand} {ps : Array Tmp} {asg body : Code} {σ : S} {r : List Code} {K : Exit → S → Prop} (k k' : Nat) {f : FuncId} {s : Spec} {d : D} {obj' : Name → Option O}
  {env' : List E} {ps' : List Nat} {a' b' : Code} (hc : opC σ g = true) (hfn : clFn (opD σ g) = some f) (hne : f ≠ yid) (hs : Γ f = some s) (hnew : σ.obj (k :: σ.pre) = none)
  (hR : s.app (upd σ.obj (k :: σ.pre) (some (.loop ((List.range σ.nt).map σ.env) ps.toList asg body .ready none))) (k' :: σ.pre) (clArgs (opD σ g) [.yld (k :: σ.pre)]) = ⟨True, d, obj'⟩)
  (hL : obj' (k :: σ.pre) = some (.loop env' ps' a' b' .ready none))
  (hK : CL P r { σ with obj := upd obj' (k :: σ.pre) (some (.loop env' ps' a' b' .exhausted none)) } K) : CL P (.rangeFunc g ps asg body :: r) σ K := by
 refine cl_rangeFunc hΓ k k' hc hfn hne hs hnew (by rw [hR]; trivial) ?_
 rw [hR]
 refine leftK_go hL ?_
 show CL P r _ K
 have e : spent obj' (k :: σ.pre) = upd obj' (k :: σ.pre) (some (.loop env' ps' a' b' .exhausted none)) := by unfold spent; rw [hL]
 rw [e]
 exact hK
set_option maxRecDepth 10000
@[go_sem] theorem ta176 : tAgg Tryz.prog 176 = some (false, 1) := by kernel_rfl
@[go_sem] theorem ta195 : tAgg Tryz.prog 195 = some (false, 1) := by kernel_rfl
theorem s147 : PSound Tryz.prog 147 (pLI (fun _ => True) (fun l k => .clo (.func 165) [] [.ptr [.sl (l.map encD)], .ptr [vInt k]]) false) := by
 refine psoundB (rs := [.tmp 4]) Tryz.func147 Tryz.ntmps147 (by rfl) (by kernel_rfl) (by decide) (fun h => by cases h) ⟨_, rfl, ?_⟩
 rintro xs ⟨l, k, rfl, _⟩ hw
 refine ⟨lb rfl, ?_⟩
 rw [pLI_fn]
 have hΓ := K0n_sound
 repeat refine sq ?_
 refine cl_rs hΓ [2,3] [[2, 0],[3, 0]] fun K' hK => ?_
 simp only [go_sem]
 repeat refine ⟨ob, ?_⟩
 refine hK _ ?_ ?_ <;> clear K' hK <;> simp only [go_sem]
 repeat refine sq ?_
 refine cl_rs hΓ [4] [[2, 0],[3, 0]] fun K' hK => ?_
 simp only [go_sem]
 repeat refine ⟨ob, ?_⟩
 refine hK _ ?_ ?_ <;> clear K' hK <;> simp only [go_sem]
 refine cl_ret ?_
 simp only [go_sem]
 all_goals first | done | rfl | exact ⟨by decide, rfl⟩ | exact ⟨by decide, trivial⟩
noncomputable def sMay : Spec := (pLNI fun l n k => .bool (mayB l n k)).toSpec
theorem sMay_app {obj : Name → Option O} {t : Name} {l : List Deed} {n : Nat} {k : Int} (h : n ≤ l.length) : sMay.app obj t [.v (.sl (l.map encD)), .v (vInt n), .v (vInt k)] = ⟨True, .v (.bool (mayB l n k)), obj⟩ := by
 simp only [sMay, PSpec.toSpec, frzL, frz, pLNI_fn, ite_self]
 congr 1
 simp only [eq_iff_iff, iff_true]
 exact ⟨⟨trivial, trivial, trivial, trivial⟩, l, n, k, rfl, h⟩
def pAft : PSpec := ⟨fun xs => ∃ (l : List Deed) (n : Nat), xs = [.sl (l.map encD), vInt n] ∧ n ≤ l.length ∧ ∀ d ∈ l, kindOk d, fun xs => match xs with | [.sl l, .int _ n] => encS (stA (l.map decD) n.toNat) | _ => .bool false, true⟩
theorem pAft_fn (l : List Deed) (n : Nat) : pAft.fn [.sl (l.map encD), vInt n] = encS (stA l n) := by
 simp only [pAft, decD_map, Int.toNat_natCast]
noncomputable def sAft : Spec := pAft.toSpec
theorem sAft_app {obj : Name → Option O} {t : Name} {l : List Deed} {n : Nat} (h : n ≤ l.length) (hk : ∀ d ∈ l, kindOk d) : sAft.app obj t [.v (.sl (l.map encD)), .v (vInt n)] = ⟨True, .v (encS (stA l n)), obj⟩ := by
 simp only [sAft, PSpec.toSpec, frzL, frz, pAft_fn, ite_self]
 congr 1
 simp only [eq_iff_iff, iff_true]
 exact ⟨⟨trivial, trivial, trivial⟩, l, n, rfl, h, hk⟩
def setU (obj : Name → Option O) (L : List O) : Name → Option O := fun nm => match outH L nm with | some o => some o | none => obj nm
theorem setU_out {L1 L2 : List O} (h : L2.length = L1.length) : setU (outH L1) L2 = outH L2 := by
 funext nm
 unfold setU
 cases hx : isOut nm with
 | false => rw [outH_not hx, outH_not hx]
 | true =>
  obtain ⟨i, rfl⟩ := isOut_iff.1 hx
  simp only [outH]
  by_cases hi : i < L2.length
  ·rw [List.getElem?_eq_getElem hi]
  ·rw [List.getElem?_eq_none (by omega), List.getElem?_eq_none (by omega)]
theorem mkS_setU (n : Nat) (p : Name) (F H : Name → Option O) (L : List O) (l : List (Nat × E)) (h : List (Name × O)) :
  mkS n p (setU (fun nm => if own p nm = true then F nm else H nm) L) l h = mkS n p (setU H L) l h :=
 mkS_same fun nm hn => by unfold setU; simp [hn]
theorem OutC_setU (p : Name) (dom : Name → Bool) (F H : Name → Option O) (L : List O) :
  OutC p dom (setU (fun nm => if own p nm = true then F nm else H nm) L) = OutC p dom (setU H L) := by
 have e : ∀ nm, own p nm = false → setU (fun nm => if own p nm = true then F nm else H nm) L nm = setU H L nm := fun nm hn => by unfold setU; simp [hn]
 exact propext ⟨fun k nm q hn h => k nm q hn (by rw [e nm hn]; exact h), fun k nm q hn h => k nm q hn (by rw [← e nm hn]; exact h)⟩
def endN (q : Nat → Bool) (n : Nat) : Nat := match (List.range n).find? q with | some s => s + 1 | none => n
theorem endN_none {q : Nat → Bool} {n : Nat} (h : ∀ s, s < n → q s = false) : endN q n = n := by
 unfold endN
 rw [List.find?_eq_none.2 fun s hs => by rw [h s (List.mem_range.1 hs)]; decide]
theorem endN_at {q : Nat → Bool} {n s : Nat} (hs : s < n) (hq : q s = true) (h : ∀ j, j < s → q j = false) : endN q n = s + 1 := by
 unfold endN
 have : (List.range n).find? q = some s := by
  rw [List.find?_eq_some_iff_getElem]
  refine ⟨hq, s, by simpa using hs, by simp, fun j hj => by simp [h j hj]⟩
 rw [this]
set_option maxHeartbeats 8000000 in
theorem w165 {Γ : FuncId → Option Spec} (hΓ : ∀ f s, Γ f = some s → SSound Tryz.prog f s) {sY : Spec} (hY : Γ yid = some sY) (h6 : Γ 166 = some sMay) (h7 : Γ 167 = some sAft)
  {t : List Deed} {day : Int} (hl : t.length ≤ 60) (hk : ∀ d ∈ t, kindOk d) {I : Nat → List O} {b : Nat → Bool} (hI : ∀ s, (I s).length = (I 0).length)
  (hc : ∀ s, ∀ o ∈ I s, ∀ dom : Name → Bool, (∀ i, dom [i, 1] = true) → O.clos dom o = true) (hst : ∀ s, s ≤ t.length → mayB t s day = false → I (s + 1) = I s)
  (hap : ∀ s, s ≤ t.length → mayB t s day = true → (∀ j, j < s → (mayB t j day && !b j) = false) → ∀ obj tm, (∀ nm, isOut nm = true → obj nm = outH (I s) nm) → sY.app obj tm [.yld [0, 1], .v (vInt s), .v (encS (stA t s))] = ⟨True, .v (.bool (b s)), setU obj (I (s + 1))⟩) :
  ∃ c, Tryz.f165.body = some c ∧ CL Tryz.prog [c] (mkS 25 [0] (outH (I 0)) [(0, ⟨true, .yld [0, 1]⟩), (1, ⟨true, .v (.ptr [.sl (t.map encD)])⟩), (2, ⟨true, .v (.ptr [vInt day])⟩)] [])
   (fun e σ => (e = .normal ∨ e = .ret) ∧ ∀ i, σ.obj [i, 1] = outH (I (endN (fun s => mayB t s day && !b s) (t.length + 1))) [i, 1]) := by
 refine ⟨_, rfl, ?_⟩
 have hO : ∀ s hs, OutC [0] (domOf [0] hs) (outH (I s)) = True := fun s hs => eq_true (outC_outs (hc s) hs)
 have hset : ∀ s, setU (outH (I s)) (I (s + 1)) = outH (I (s + 1)) := fun s => setU_out ((hI _).trans (hI s).symm)
 obtain ⟨H, hH⟩ : ∃ H : Nat → Name → Option O, ∀ s, outH (I s) = H s := ⟨_, fun _ => rfl⟩
 simp only [hH] at hO hset hap ⊢
 have hY' : Γ 1000000000 = some sY := hY
 have hw1 : IntKind.i64.wrap ((t.length : Int) + 1) = ((t.length + 1 : Nat) : Int) := wrap_succ (n := 61) (by omega) (by unfold maxLen; omega)
 repeat refine sq ?_
 refine cl_rs hΓ [0,1,2,7,8] [] fun K' hK => ?_
 simp only [go_sem, hO, hw1]
 repeat refine ⟨ob, ?_⟩
 refine hK _ ?_ ?_ <;> clear K' hK <;> simp only [go_sem, hO, hw1]
 repeat refine sq ?_
 refine cl_block ?_
 repeat refine sq ?_
 refine cl_loop (fun s : Nat => mkS 25 [0] (H s) [(0, ⟨true, .yld [0, 1]⟩), (1, ⟨true, .v (.ptr [.sl (t.map encD)])⟩), (2, ⟨true, .v (.ptr [vInt day])⟩), (7, ⟨true, .v (vInt (t.length + 1 : Nat))⟩), (8, ⟨true, .v (vInt s)⟩)] [])
  (fun s => s ≤ t.length + 1 ∧ ∀ j, j < s → (mayB t j day && !b j) = false) (fun s => t.length + 1 - s) 0 ⟨Nat.zero_le _, fun j hj => by omega⟩ (Weak.refl _) ?_
 rintro i ⟨hi, hq⟩
 repeat refine sq ?_
 refine cl_rs hΓ [0,1,2,7,8,9] [] fun K' hK => ?_
 simp only [go_sem, hO]
 repeat refine ⟨ob, ?_⟩
 refine hK _ ?_ ?_ <;> clear K' hK <;> simp only [go_sem, hO]
 repeat refine sq ?_
 refine cl_cond rfl rfl (fun hb => ?_) fun hb => ?_
 ·have hlt : i ≤ t.length := by
   have : (i : Int) < (t.length + 1 : Nat) := by simpa using hb
   omega
  have hws : IntKind.i64.wrap ((i : Int) + 1) = ((i + 1 : Nat) : Int) := wrap_succ (n := 61) (by omega) (by unfold maxLen; omega)
  clear hb
  repeat refine sq ?_
  refine cl_skip ?_
  repeat refine sq ?_
  refine cl_block ?_
  repeat refine sq ?_
  refine cl_rs hΓ [0,1,2,4,7,8] [] fun K' hK => ?_
  simp only [go_sem, hO]
  repeat refine ⟨ob, ?_⟩
  refine hK _ ?_ ?_ <;> clear K' hK <;> simp only [go_sem, hO]
  have hmy := fun (obj : Name → Option O) (tm : Name) => sMay_app (obj := obj) (t := tm) (k := day) hlt
  have haf := fun (obj : Name → Option O) (tm : Name) => sAft_app (obj := obj) (t := tm) hlt hk
  cases hm : mayB t i day with
  | false =>
   repeat refine sq ?_
   refine cl_rs hΓ [0,1,2,7,8,23] [] fun K' hK => ?_
   simp only [go_sem, hO, h6, h7, hY', hmy, haf, hm]
   repeat refine ⟨ob, ?_⟩
   refine hK _ ?_ ?_ <;> clear K' hK <;> simp only [go_sem, hO, h6, h7, hY', hmy, haf, hm]
   repeat refine sq ?_
   refine cl_cond rfl rfl (fun hb => ?_) fun hb => ?_
   ·cases hb
   repeat refine sq ?_
   refine cl_skip ?_
   refine cl_nil ?_
   simp only [go_sem]
   refine cl_keep [0,1,2,7,8] [] ?_ ?_
   ·simp only [go_sem, hO]
   simp only [go_sem, hO]
   repeat refine sq ?_
   refine cl_r hΓ fun K' hK => ?_
   simp only [go_sem]
   repeat refine ⟨ob, ?_⟩
   refine hK _ ?_
   clear K' hK
   simp only [go_sem]
   refine ⟨i + 1, ⟨by omega, fun j hj => ?_⟩, by omega, ?_⟩
   ·by_cases h : j < i
    ·exact hq j h
    ·have : j = i := by omega
     subst this
     rw [hm]; rfl
   have hHe : H (i + 1) = H i := by rw [← hH, ← hH, hst i hlt hm]
   rw [hHe]
   refine weak_eq [0,1,2,7,8] [] ?_ ?_
   ·simp only [go_sem, hO, hws, Int.natCast_add, Int.natCast_one]
   ·simp only [go_sem, hO, hws, Int.natCast_add, Int.natCast_one]
  | true =>
   have hap2 : ∀ tm, sY.app (fun nm => if own [0] nm = true then none else H i nm) tm [.yld [0, 1], .v (vInt i), .v (encS (stA t i))] = ⟨True, .v (.bool (b i)), setU (fun nm => if own [0] nm = true then none else H i nm) (I (i + 1))⟩ := fun tm => hap i hlt hm hq _ tm fun nm hn => by
    obtain ⟨k, rfl⟩ := isOut_iff.1 hn
    simp [own_out01]
   repeat refine sq ?_
   refine cl_rs hΓ [0,1,2,7,8,23] [] fun K' hK => ?_
   simp only [go_sem, hO, h6, h7, hY', hmy, haf, hm, hap2, mkS_setU, OutC_setU, hset]
   repeat refine ⟨ob, ?_⟩
   refine hK _ ?_ ?_ <;> clear K' hK <;> simp only [go_sem, hO, h6, h7, hY', hmy, haf, hm, hap2, mkS_setU, OutC_setU, hset]
   repeat refine sq ?_
   refine cl_cond rfl rfl (fun hb => ?_) fun hb => ?_
   ·have hbi : b i = false := by simpa using hb
    repeat refine sq ?_
    refine cl_ret ?_
    simp only [go_sem]
    have hen : endN (fun s => mayB t s day && !b s) (t.length + 1) = i + 1 := endN_at (by omega) (by simp [hm, hbi]) hq
    rw [hen]
    exact ⟨by simp, fun k => by simp [own_out01]⟩
   ·have hbi : b i = true := by simpa using hb
    repeat refine sq ?_
    refine cl_skip ?_
    refine cl_nil ?_
    simp only [go_sem]
    refine cl_keep [0,1,2,7,8] [] ?_ ?_
    ·simp only [go_sem, hO]
    simp only [go_sem, hO]
    repeat refine sq ?_
    refine cl_r hΓ fun K' hK => ?_
    simp only [go_sem]
    repeat refine ⟨ob, ?_⟩
    refine hK _ ?_
    clear K' hK
    simp only [go_sem]
    refine ⟨i + 1, ⟨by omega, fun j hj => ?_⟩, by omega, ?_⟩
    ·by_cases h : j < i
     ·exact hq j h
     ·have : j = i := by omega
      subst this
      rw [hbi]; simp
    refine weak_eq [0,1,2,7,8] [] ?_ ?_
    ·simp only [go_sem, hO, hws, Int.natCast_add, Int.natCast_one]
    ·simp only [go_sem, hO, hws, Int.natCast_add, Int.natCast_one]
 ·have hge : i = t.length + 1 := by
   have : ¬ (i : Int) < (t.length + 1 : Nat) := by simpa using hb
   omega
  subst hge
  clear hb
  repeat refine sq ?_
  refine cl_exit ?_
  simp only [go_sem]
  refine cl_nil ?_
  simp only [go_sem]
  rw [endN_none hq]
  exact ⟨by simp, fun k => by simp [own_out01]⟩
def objAll (obj : Name → Option O) : List Name → List O → Prop
 | [], [] => True
 | x :: xs, o :: os => obj x = some o ∧ objAll obj xs os
 | _, _ => False
theorem objAll_iff {obj : Name → Option O} : ∀ {Ls : List Name} {F : List O}, objAll obj Ls F ↔ Ls.map obj = F.map some
 | [], [] => by simp [objAll]
 | x :: xs, o :: os => by simp only [objAll, List.map_cons, List.cons.injEq, objAll_iff]
 | [], _ :: _ => by simp [objAll]
 | _ :: _, [] => by simp [objAll]
theorem objAll_agr {obj obj2 : Name → Option O} {Ls : List Name} {F : List O} (h : objAll obj Ls F) (ha : ∀ x ∈ Ls, obj2 x = obj x) : objAll obj2 Ls F := by
 rw [objAll_iff] at h ⊢
 rw [← h]
 exact List.map_congr_left ha
theorem objAll_get {obj : Name → Option O} : ∀ {Ls : List Name} {F : List O}, objAll obj Ls F → ∀ i (h : i < Ls.length) (h' : i < F.length), obj Ls[i] = some F[i]
 | _ :: _, _ :: _, h, 0, _, _ => h.1
 | _ :: _, _ :: _, h, i + 1, h1, h2 => by
  simp only [List.getElem_cons_succ]
  exact objAll_get h.2 i (by simpa using h1) (by simpa using h2)
def pdK (K : Exit → S → Prop) (σ : S) : Option Code → Prop
 | none => K .normal σ
 | some .ret => K .ret σ
 | some (.exit id) => K (.exit id) σ
 | _ => False
theorem leftK_of {K : Exit → S → Prop} {obj : Name → Option O} {nm : Name} {σ : S} {env : List E} {ps : List Nat} {a b : Code} (pd : Option Code) (h : obj nm = some (.loop env ps a b (if pd.isNone then .ready else .done) pd))
  (hK : pdK K σ pd) : leftK K obj nm σ := by
 unfold leftK
 rw [h]
 rcases pd with _ | c
 ·exact hK
 ·cases c <;> first | exact hK.elim | exact hK
def LR (m : Nat) : List Name := (List.range m).map fun i => [i, 1]
def LI (m : Nat) : List Name := (List.range m).map fun i => [i + 1, 1]
theorem LR_len (m : Nat) : (LR m).length = m := by simp [LR]
theorem LI_len (m : Nat) : (LI m).length = m := by simp [LI]
theorem LR_nodup (m : Nat) : (LR m).Nodup := by
 unfold LR
 exact List.Pairwise.map _ (fun a b h => by simpa using h) List.nodup_range
theorem cin_all {Ls : List Name} (hn : Ls.Nodup) : Ls.map (cin Ls) = LR Ls.length := by
 refine List.ext_getElem (by simp [LR]) fun i h1 h2 => ?_
 simp only [List.getElem_map, LR, List.getElem_range, cin]
 rw [idx_at hn (by simpa using h1)]
theorem cin_next {R : Name} {Ls : List Name} (hn : Ls.Nodup) (hR : R ∉ Ls) : Ls.map (cin (R :: Ls)) = LI Ls.length := by
 refine List.ext_getElem (by simp [LI]) fun i h1 h2 => ?_
 simp only [List.getElem_map, LI, List.getElem_range, cin]
 have h3 : i < Ls.length := by simpa using h1
 have h4 := idx_at (L := R :: Ls) (List.nodup_cons.2 ⟨hR, hn⟩) (i := i + 1) (by simp; omega)
 simp only [List.getElem_cons_succ] at h4
 rw [h4]
theorem cout_all (Ls : List Name) (t : Name) : (LR Ls.length).map (cout Ls t) = Ls := by
 refine List.ext_getElem (by simp [LR]) fun i h1 h2 => ?_
 simp only [List.getElem_map, LR, List.getElem_range, cout]
 exact getD_mem h2
theorem cout_next (R : Name) (Ls : List Name) (t : Name) : (LI Ls.length).map (cout (R :: Ls) t) = Ls := by
 refine List.ext_getElem (by simp [LI]) fun i h1 h2 => ?_
 simp only [List.getElem_map, LI, List.getElem_range, cout]
 rw [getD_mem (by simpa using h2)]
 simp
def setLs : List Name → List O → (Name → Option O) → (Name → Option O)
 | x :: xs, o :: os, obj => setLs xs os (upd obj x (some o))
 | _, _, obj => obj
theorem setLs_ne : ∀ {Ls : List Name} {F : List O} {obj : Name → Option O} {x : Name}, x ∉ Ls → setLs Ls F obj x = obj x
 | [], _, _, _, _ => by simp [setLs]
 | _ :: _, [], _, _, _ => by simp [setLs]
 | y :: ys, o :: os, obj, x, h => by
  simp only [List.mem_cons, not_or] at h
  simp only [setLs]
  rw [setLs_ne h.2, upd_ne _ _ _ h.1]
theorem setLs_all : ∀ {Ls : List Name} {F : List O} {obj : Name → Option O}, Ls.Nodup → Ls.length = F.length → objAll (setLs Ls F obj) Ls F
 | [], [], _, _, _ => trivial
 | [], _ :: _, _, _, h => by simp at h
 | _ :: _, [], _, _, h => by simp at h
 | y :: ys, o :: os, obj, hn, h => by
  rw [List.nodup_cons] at hn
  refine ⟨?_, setLs_all (obj := upd obj y (some o)) hn.2 (by simpa using h)⟩
  simp only [setLs]
  rw [setLs_ne hn.1, upd_same]
def upds : Nat → List O → List (Nat × O)
 | _, [] => []
 | k, o :: r => (k, o) :: upds (k + 1) r
theorem putU_upds {t : Name} {L : List Name} : ∀ {Ls : List Name} {k : Nat} {F : List O} {obj : Name → Option O}, Ls.length = F.length → (∀ i (h : i < Ls.length), L.getD (k + i) [] = Ls[i]) →
  putU L t (upds k F) obj = setLs Ls (F.map (O.ren (cout L t))) obj
 | [], k, [], obj, _, _ => rfl
 | [], k, _ :: _, obj, h, _ => by simp at h
 | _ :: _, k, [], obj, h, _ => by simp at h
 | x :: xs, k, o :: os, obj, h, hL => by
  simp only [upds, putU, List.map_cons, setLs]
  have h0 := hL 0 (by simp)
  simp only [Nat.add_zero, List.getElem_cons_zero] at h0
  rw [h0]
  exact putU_upds (by simpa using h) fun i hi => by
   have := hL (i + 1) (by simpa using hi)
   rw [show k + 1 + i = k + (i + 1) by omega]
   simpa using this
theorem lastU_other : ∀ {F : List O} {k i : Nat} {o : O}, i < k → lastU (upds k F) i o = o
 | [], k, i, o, _ => rfl
 | f :: r, k, i, o, h => by
  simp only [upds, lastU]
  rw [if_neg (by omega)]
  exact lastU_other (by omega)
theorem objsOk_upds {σ : S} : ∀ {F os : List O} {k : Nat} {u : List (Nat × O)}, F.length = os.length → (∀ i, k ≤ i → ∀ o, lastU u i o = lastU (upds k F) i o) →
  (∀ i (h : i < F.length), σ.obj [k + i, 1] = some F[i]) → objsOk σ u k os
 | [], [], _, _, _, _, _ => trivial
 | [], _ :: _, _, _, h, _, _ => by simp at h
 | _ :: _, [], _, _, h, _, _ => by simp at h
 | f :: fs, o :: os, k, u, h, hu, hs => by
  refine ⟨?_, objsOk_upds (F := fs) (by simpa using h) (fun i hi x => ?_) fun i hi => ?_⟩
  ·have h0 := hs 0 (by simp)
   simp only [Nat.add_zero, List.getElem_cons_zero] at h0
   rw [h0, hu k (Nat.le_refl _) o]
   simp only [upds, lastU, if_true]
   rw [lastU_other (by omega)]
  ·rw [hu i (by omega) x]
   simp only [upds, lastU]
   rw [if_neg (by omega)]
  ·have := hs (i + 1) (by simpa using hi)
   rw [show k + 1 + i = k + (i + 1) by omega]
   simpa using this
structure Lp where
 m : Nat
 env : List Name → List E
 fam : List Name → Nat → List O
 ps : List Nat
 asg : Code
 body : Code
 n : Nat
 vals : Nat → List D
 st : Nat → Option Code
 fu : Nat
structure Lp.Ok (r : Lp) : Prop where
 len : ∀ Ls s, Ls.length = r.m → (r.fam Ls s).length = r.m
 renE : ∀ f Ls, Ls.length = r.m → (r.env Ls).map (E.ren f) = r.env (Ls.map f)
 renF : ∀ f Ls s, Ls.length = r.m → (r.fam Ls s).map (O.ren f) = r.fam (Ls.map f) s
 reach : ∀ Ls s obj acc k, Ls.length = r.m → Ls.Nodup → (∀ x ∈ Ls, x ∉ acc) → objAll obj Ls (r.fam Ls s) → reachL obj (k + r.fu) (namesL ((r.env Ls).map (·.d))) acc = acc ++ Ls
 closE : ∀ dom Ls, Ls.length = r.m → (∀ x ∈ Ls, dom x = true) → D.closL dom ((r.env Ls).map (·.d)) = true
 closF : ∀ dom Ls s, Ls.length = r.m → (∀ x ∈ Ls, dom x = true) → ∀ o ∈ r.fam Ls s, O.clos dom o = true
 psz : ∀ Ls, Ls.length = r.m → (r.ps.all fun p => decide (p < (r.env Ls).length)) = true
 args : ∀ s, (r.vals s).length = r.ps.length
 fuel : r.fu ≤ 2000
 vnam : ∀ s, namesL (r.vals s) = []
 vcl : ∀ s dom, D.closL dom (r.vals s) = true
 vren : ∀ s f, D.renL f (r.vals s) = r.vals s
 inj : ∀ s s', s < r.n → s' < r.n → r.vals s = r.vals s' → s = s'
theorem names_vals (a : List D) : ∀ vs : List V, namesL (a ++ vs.map D.v) = namesL a := by
 intro vs
 have h0 : ∀ vs : List V, namesL (vs.map D.v) = [] := by
  intro vs
  induction vs with
  | nil => rfl
  | cons x r ih => simp only [List.map_cons, namesL, namesD, List.nil_append, ih]
 induction a with
 | nil => simpa [namesL] using h0 vs
 | cons x r ih => simp only [List.cons_append, namesL, ih]
theorem closL_vals (dom : Name → Bool) (vs : List V) : ∀ a : List D, D.closL dom (a ++ vs.map D.v) = D.closL dom a := by
 have h0 : ∀ vs : List V, D.closL dom (vs.map D.v) = true := by
  intro vs
  induction vs with
  | nil => rfl
  | cons x r ih => simp only [List.map_cons, D.closL, D.clos, ih, Bool.and_self]
 intro a
 induction a with
 | nil => simpa [D.closL] using h0 vs
 | cons x r ih => simp only [List.cons_append, D.closL, ih]
theorem renL_vals (f : Name → Name) (vs : List V) : D.renL f (vs.map D.v) = vs.map D.v := by
 induction vs with
 | nil => rfl
 | cons x r ih => simp only [List.map_cons, D.renL, D.ren, ih]
theorem names_app (a b : List D) : namesL (a ++ b) = namesL a ++ namesL b := by
 induction a with
 | nil => rfl
 | cons x r ih => simp only [List.cons_append, namesL, ih, List.append_assoc]
theorem closL_app (dom : Name → Bool) (a b : List D) : D.closL dom (a ++ b) = (D.closL dom a && D.closL dom b) := by
 induction a with
 | nil => simp [D.closL]
 | cons x r ih => simp only [List.cons_append, D.closL, ih, Bool.and_assoc]
noncomputable def Lp.y (r : Lp) : YSpec where
 pre := fun env ps asg body os ds => ∃ s, s < r.n ∧ (∀ j, j < s → r.st j = none) ∧ env = r.env (LR r.m) ∧ ps = r.ps ∧ asg = r.asg ∧ body = r.body ∧ os = r.fam (LR r.m) s ∧ ds = r.vals s
 out := fun _ _ _ _ _ ds => by
  classical exact if h : ∃ s, s < r.n ∧ ds = r.vals s then (⟨upds 0 (r.fam (LR r.m) (h.choose + 1)), [], .v (.bool true)⟩, r.st h.choose) else (⟨[], [], .any⟩, none)
theorem Lp.y_out {r : Lp} (hr : r.Ok) {s : Nat} (hs : s < r.n) (env : List E) (ps : List Nat) (asg body : Code) (os : List O) :
  r.y.out env ps asg body os (r.vals s) = (⟨upds 0 (r.fam (LR r.m) (s + 1)), [], .v (.bool true)⟩, r.st s) := by
 have h : ∃ s', s' < r.n ∧ r.vals s = r.vals s' := ⟨s, hs, rfl⟩
 have e : h.choose = s := (hr.inj _ _ hs h.choose_spec.1 h.choose_spec.2).symm
 simp only [Lp.y]
 rw [dif_pos h, e]
def retL (m : Nat) (F : List O) (p : Option Code) : Exit → S → Prop
 | .normal, σ => p = none ∧ objAll σ.obj (LR m) F
 | .ret, σ => p = some .ret ∧ objAll σ.obj (LR m) F
 | .exit id, σ => p = some (.exit id) ∧ objAll σ.obj (LR m) F
 | _, _ => False
theorem endC_of {os F : List O} {σ : S} {m : Nat} (h1 : os.length = m) (h2 : F.length = m) (hc : ∀ dom : Name → Bool, (∀ x ∈ LR m, dom x = true) → ∀ o ∈ F, O.clos dom o = true) (h : objAll σ.obj (LR m) F) :
  endC os ⟨upds 0 F, [], .v (.bool true)⟩ σ := by
 have hget : ∀ i (hi : i < F.length), σ.obj [i, 1] = some F[i] := by
  rw [objAll_iff] at h
  intro i hi
  have h3 := congrArg (fun l => l[i]?) h
  have hi' : i < m := by omega
  simpa [LR, hi, hi'] using h3
 refine ⟨objsOk_upds (F := F) (by omega) (fun i _ o => rfl) fun i hi => by rw [Nat.zero_add]; exact hget i hi, trivial, ?_⟩
 have hdom : ∀ x ∈ LR m, domC os.length [] x = true := by
  intro x hx
  obtain ⟨i, hi, rfl⟩ := List.mem_map.1 hx
  have := List.mem_range.1 hi
  simp [domC]
  omega
 have hall : ∀ (F' : List O) (k : Nat), (∀ o ∈ F', O.clos (domC os.length []) o = true) → k + F'.length ≤ os.length → ((upds k F').all fun x => O.clos (domC os.length []) x.2 && decide (x.1 < os.length)) = true := by
  intro F'
  induction F' with
  | nil => intros; rfl
  | cons f fs ih =>
   intro k hf hk
   simp only [List.length_cons] at hk
   simp only [upds, List.all_cons, Bool.and_eq_true, decide_eq_true_eq]
   exact ⟨⟨hf f (by simp), by omega⟩, by have := ih (k + 1) (fun o ho => hf o (by simp [ho])) (by omega); simpa using this⟩
 have := hall F 0 (hc _ hdom) (by omega)
 simp only [D.clos, this, List.all_nil, List.map_nil, distinct, Bool.and_self]
theorem Lp.y_sound {P : Program} {r : Lp} (hr : r.Ok) (h : ∀ s, s < r.n → (∀ j, j < s → r.st j = none) →
   CW P r.asg ⟨(r.env (LR r.m)).length, setP (envF (r.env (LR r.m))) r.ps (r.vals s), outH (r.fam (LR r.m) s), [0], 0⟩ (onlyK fun σ1 => CW P r.body σ1 (retL r.m (r.fam (LR r.m) (s + 1)) (r.st s)))) : SSound P yid r.y.toSpec := by
 refine yield_run ?_
 rintro env ps asg body os ds ⟨s, hs, hj, rfl, rfl, rfl, rfl, rfl, rfl⟩ _
 rw [Lp.y_out hr hs]
 refine CW.mono (h s hs hj) fun e σ hk => ?_
 cases e with
 | normal =>
  refine CW.mono hk fun e σ hk => ?_
  have fin : objAll σ.obj (LR r.m) (r.fam (LR r.m) (s + 1)) → endC (r.fam (LR r.m) s) ⟨upds 0 (r.fam (LR r.m) (s + 1)), [], .v (.bool true)⟩ σ :=
   endC_of (hr.len _ _ (LR_len _)) (hr.len _ _ (LR_len _)) fun dom hd => hr.closF dom _ _ (LR_len _) hd
  cases e with
  | normal => exact ⟨hk.1, fin hk.2⟩
  | ret => exact ⟨hk.1, fin hk.2⟩
  | exit id => exact ⟨hk.1, fin hk.2⟩
  | goto l => exact hk.elim
  | panic c => exact hk.elim
  | outgrown => exact hk.elim
 | ret => exact hk.elim
 | exit id => exact hk.elim
 | goto l => exact hk.elim
 | panic c => exact hk.elim
 | outgrown => exact hk.elim
def Lp.rc (r : Lp) (Ls : List Name) (st : LoopState) (pd : Option Code) : O := .loop (r.env Ls) r.ps r.asg r.body st pd
theorem Lp.y_app {r : Lp} (hr : r.Ok) {s : Nat} (hs : s < r.n) (hj : ∀ j, j < s → r.st j = none) {obj : Name → Option O} {t R : Name} {Ls : List Name} (hl : Ls.length = r.m) (hn : Ls.Nodup) (hR : R ∉ Ls)
  (h0 : obj R = some (r.rc Ls .ready none)) (hF : objAll obj Ls (r.fam Ls s)) :
  r.y.toSpec.app obj t (.yld R :: r.vals s) = ⟨True, .v (.bool (r.st s).isNone), upd (setLs Ls (r.fam Ls (s + 1)) obj) R (some (r.rc Ls (if (r.st s).isNone then .ready else .done) (r.st s)))⟩ := by
 have hreach : reach obj (roots (r.env Ls) (r.vals s)) = Ls := by
  unfold reach roots
  rw [names_app, hr.vnam, List.append_nil]
  have := hr.reach Ls s obj [] (3000 - r.fu) hl hn (fun _ _ => by simp) hF
  rwa [show 3000 - r.fu + r.fu = 3000 by have := hr.fuel; omega] at this
 have e1 : cOs obj (roots (r.env Ls) (r.vals s)) = r.fam (LR r.m) s := by
  unfold cOs
  rw [hreach]
  have : Ls.map (canonO Ls obj) = (r.fam Ls s).map (O.ren (cin Ls)) := by
   rw [objAll_iff] at hF
   refine List.ext_getElem (by simp [hr.len _ _ hl, hl]) fun i h1 h2 => ?_
   have h3 : i < Ls.length := by simpa using h1
   have h4 : i < (r.fam Ls s).length := by rw [hr.len _ _ hl, ← hl]; exact h3
   have h5 := congrArg (fun l => l[i]?) hF
   have h6 : obj Ls[i] = some (r.fam Ls s)[i] := by simpa [h3, h4] using h5
   simp only [List.getElem_map, canonO, h6]
  rw [this, hr.renF _ _ _ hl, cin_all hn, hl]
 have e2 : yEnv obj (r.env Ls) (r.vals s) = r.env (LR r.m) := by
  unfold yEnv
  rw [hreach, hr.renE _ _ hl, cin_all hn, hl]
 have e3 : yDs obj (r.env Ls) (r.vals s) = r.vals s := by
  unfold yDs
  exact hr.vren s _
 have e4 : r.y.o obj (r.env Ls) r.ps r.asg r.body (r.vals s) = (⟨upds 0 (r.fam (LR r.m) (s + 1)), [], .v (.bool true)⟩, r.st s) := by
  unfold YSpec.o
  rw [e1, e2, e3, Lp.y_out hr hs]
 have hpre : r.y.pre (r.env (LR r.m)) r.ps r.asg r.body (r.fam (LR r.m) s) (r.vals s) := ⟨s, hs, hj, rfl, rfl, rfl, rfl, rfl, rfl⟩
 have hcl : D.closL (inL Ls) (roots (r.env Ls) (r.vals s)) = true := by
  unfold roots
  rw [closL_app, hr.vcl, Bool.and_true]
  exact hr.closE _ _ hl fun x hx => inL_iff.2 hx
 have hsh : shut obj Ls = true := by
  unfold shut
  rw [List.all_eq_true]
  intro x hx
  obtain ⟨i, hi, rfl⟩ := List.getElem_of_mem hx
  rw [objAll_iff] at hF
  have h4 : i < (r.fam Ls s).length := by rw [hr.len _ _ hl, ← hl]; exact hi
  have h5 := congrArg (fun l => l[i]?) hF
  have h6 : obj Ls[i] = some (r.fam Ls s)[i] := by simpa [hi, h4] using h5
  rw [h6]
  exact hr.closF _ _ _ hl (fun x hx => inL_iff.2 hx) _ (List.getElem_mem h4)
 have hnR : inL Ls R = false := by
  cases h : inL Ls R with
  | false => rfl
  | true => exact (hR (inL_iff.1 h)).elim
 have hp : putU Ls t (upds 0 (r.fam (LR r.m) (s + 1))) obj = setLs Ls (r.fam Ls (s + 1)) obj := by
  rw [putU_upds (Ls := Ls) (by rw [hr.len _ _ (LR_len _), hl]) fun i hi => by rw [Nat.zero_add]; exact getD_mem hi, hr.renF _ _ _ (LR_len _)]
  have : (LR r.m).map (cout Ls t) = Ls := by rw [← hl]; exact cout_all Ls t
  rw [this]
 unfold Lp.rc at h0
 simp only [YSpec.toSpec, h0, e1, e2, e3, e4, hreach, hcl, hsh, hnR, fresh, List.all_nil, Bool.and_self, Bool.not_false, hr.args, decide_true, hr.psz Ls hl, hpre, putN, hp, and_self]
 rfl
def Lp.e (r : Lp) : Nat := match (List.range r.n).find? (fun s => (r.st s).isSome) with | some s => s + 1 | none => r.n
def Lp.pd (r : Lp) : Option Code := match (List.range r.n).find? (fun s => (r.st s).isSome) with | some s => r.st s | none => none
def Lp.fin (r : Lp) (Ls : List Name) : O := r.rc Ls (if r.pd.isNone then .ready else .done) r.pd
def Lp.it (r : Lp) (caps : List V) : CSpec where
 pre := fun os ds => os = r.rc (LI r.m) .ready none :: r.fam (LI r.m) 0 ∧ ds = .yld [0, 1] :: caps.map .v
 out := fun _ _ => ⟨(0, r.fin (LI r.m)) :: upds 1 (r.fam (LI r.m) r.e), [], .tup []⟩
theorem Lp.it_app {r : Lp} (hr : r.Ok) {caps : List V} {obj : Name → Option O} {t R : Name} {Ls : List Name} (hl : Ls.length = r.m) (hn : Ls.Nodup) (hR : R ∉ Ls)
  (h0 : obj R = some (r.rc Ls .ready none)) (hF : objAll obj Ls (r.fam Ls 0)) :
  (r.it caps).toSpec.app obj t (.yld R :: caps.map .v) = ⟨True, .tup [], setLs Ls (r.fam Ls r.e) (upd obj R (some (r.fin Ls)))⟩ := by
 have hnn : (R :: Ls).Nodup := List.nodup_cons.2 ⟨hR, hn⟩
 have hreach : reach obj (.yld R :: caps.map .v) = R :: Ls := by
  have h1 : namesL (.yld R :: caps.map .v) = [R] := by
   have := names_vals [.yld R] caps
   simpa [namesL, namesD] using this
  unfold reach
  rw [h1]
  show reachL obj (2999 + 1) [R] [] = R :: Ls
  unfold Lp.rc at h0
  simp only [reachL, inL, List.any_nil, Bool.false_eq_true, if_false, h0, namesO, List.append_nil, List.nil_append]
  have := hr.reach Ls 0 obj [R] (2999 - r.fu) hl hn (fun x hx => by simp only [List.mem_singleton]; rintro rfl; exact hR hx) hF
  rw [show 2999 - r.fu + r.fu = 2999 by have := hr.fuel; omega] at this
  simpa using this
 have hcanon : ∀ s, objAll obj Ls (r.fam Ls s) → Ls.map (canonO (R :: Ls) obj) = (r.fam Ls s).map (O.ren (cin (R :: Ls))) := by
  intro s hF
  rw [objAll_iff] at hF
  refine List.ext_getElem (by simp [hr.len _ _ hl, hl]) fun i h1 h2 => ?_
  have h3 : i < Ls.length := by simpa using h1
  have h4 : i < (r.fam Ls s).length := by rw [hr.len _ _ hl, ← hl]; exact h3
  have h5 := congrArg (fun l => l[i]?) hF
  have h6 : obj Ls[i] = some (r.fam Ls s)[i] := by simpa [h3, h4] using h5
  simp only [List.getElem_map, canonO, h6]
 have e1 : cOs obj (.yld R :: caps.map .v) = r.rc (LI r.m) .ready none :: r.fam (LI r.m) 0 := by
  unfold cOs
  rw [hreach, List.map_cons, hcanon 0 hF, hr.renF _ _ _ hl, cin_next hn hR, hl]
  congr 1
  unfold Lp.rc at h0 ⊢
  simp only [canonO, h0, O.ren]
  rw [hr.renE _ _ hl, cin_next hn hR, hl]
 have e2 : cDs obj (.yld R :: caps.map .v) = .yld [0, 1] :: caps.map .v := by
  unfold cDs
  rw [hreach]
  simp only [D.renL, D.ren, renL_vals, cin, idx, if_true]
 have hpre : (r.it caps).pre (r.rc (LI r.m) .ready none :: r.fam (LI r.m) 0) (.yld [0, 1] :: caps.map .v) := ⟨rfl, rfl⟩
 have hout : ∀ os ds, (r.it caps).out os ds = ⟨(0, r.fin (LI r.m)) :: upds 1 (r.fam (LI r.m) r.e), [], .tup []⟩ := fun _ _ => rfl
 have hinL : ∀ x ∈ Ls, inL (R :: Ls) x = true := fun x hx => inL_iff.2 (List.mem_cons_of_mem _ hx)
 have hsh : shut obj (R :: Ls) = true := by
  unfold shut
  rw [List.all_eq_true]
  intro x hx
  rcases List.mem_cons.1 hx with rfl | hx
  ·rw [h0]
   unfold Lp.rc
   exact hr.closE _ _ hl hinL
  obtain ⟨i, hi, rfl⟩ := List.getElem_of_mem hx
  rw [objAll_iff] at hF
  have h4 : i < (r.fam Ls 0).length := by rw [hr.len _ _ hl, ← hl]; exact hi
  have h5 := congrArg (fun l => l[i]?) hF
  have h6 : obj Ls[i] = some (r.fam Ls 0)[i] := by simpa [hi, h4] using h5
  rw [h6]
  exact hr.closF _ _ _ hl hinL _ (List.getElem_mem h4)
 have hcl : D.closL (inL (R :: Ls)) (.yld R :: caps.map .v) = true := by
  have := closL_vals (inL (R :: Ls)) caps [.yld R]
  simp only [List.singleton_append] at this
  rw [this]
  simp [D.closL, D.clos, inL]
 have hp : ∀ obj', putU (R :: Ls) t (upds 1 (r.fam (LI r.m) r.e)) obj' = setLs Ls (r.fam Ls r.e) obj' := by
  intro obj'
  rw [putU_upds (Ls := Ls) (by rw [hr.len _ _ (LI_len _), hl]) fun i hi => by
   rw [Nat.add_comm, List.getD_cons_succ]; exact getD_mem hi, hr.renF _ _ _ (LI_len _)]
  have : (LI r.m).map (cout (R :: Ls) t) = Ls := by rw [← hl]; exact cout_next R Ls t
  rw [this]
 have hf : O.ren (cout (R :: Ls) t) (r.fin (LI r.m)) = r.fin Ls := by
  unfold Lp.fin Lp.rc
  simp only [O.ren]
  rw [hr.renE _ _ (LI_len _)]
  have : (LI r.m).map (cout (R :: Ls) t) = Ls := by rw [← hl]; exact cout_next R Ls t
  rw [this]
 simp only [CSpec.toSpec, e1, e2, hreach, hout, hsh, hcl, fresh, List.all_nil, Bool.and_self, hpre, and_self, putN, putU, List.getD_cons_zero, hf, hp, D.ren, D.renL]
theorem Lp.it_end {P : Program} {r : Lp} (hr : r.Ok) {σ : S} (h0 : σ.obj [0, 1] = some (r.fin (LI r.m))) (h1 : objAll σ.obj (LI r.m) (r.fam (LI r.m) r.e)) :
  (resAll P σ []).ok ∧ (resAll P σ []).d = .tup [] ∧ endC (r.rc (LI r.m) .ready none :: r.fam (LI r.m) 0) ⟨(0, r.fin (LI r.m)) :: upds 1 (r.fam (LI r.m) r.e), [], .tup []⟩ σ := by
 have hl0 := hr.len (LI r.m) 0 (LI_len _)
 have hle := hr.len (LI r.m) r.e (LI_len _)
 have hget : ∀ i (hi : i < (r.fam (LI r.m) r.e).length), σ.obj [1 + i, 1] = some (r.fam (LI r.m) r.e)[i] := by
  intro i hi
  have h3 := objAll_get h1 i (by rw [LI_len]; omega) hi
  rw [Nat.add_comm]
  simpa only [LI, List.getElem_map, List.getElem_range] using h3
 have hdom : ∀ x ∈ LI r.m, domC (r.m + 1) [] x = true := by
  intro x hx
  obtain ⟨i, hi, rfl⟩ := List.mem_map.1 hx
  have := List.mem_range.1 hi
  simp [domC]
  omega
 refine ⟨fun x hx => by simp at hx, rfl, ⟨⟨?_, objsOk_upds (F := r.fam (LI r.m) r.e) (by omega) (fun i hi o => by simp only [lastU]; rw [if_neg (by omega)]) hget⟩, trivial, ?_⟩⟩
 ·simp only [lastU, if_true]
  rw [h0, lastU_other (by omega)]
 have hall : ∀ (F' : List O) (k : Nat), (∀ o ∈ F', O.clos (domC (r.m + 1) []) o = true) → k + F'.length ≤ r.m + 1 → ((upds k F').all fun x => O.clos (domC (r.m + 1) []) x.2 && decide (x.1 < r.m + 1)) = true := by
  intro F'
  induction F' with
  | nil => intros; rfl
  | cons f fs ih =>
   intro k hf hk
   simp only [List.length_cons] at hk
   simp only [upds, List.all_cons, Bool.and_eq_true, decide_eq_true_eq]
   exact ⟨⟨hf f (by simp), by omega⟩, by have := ih (k + 1) (fun o ho => hf o (by simp [ho])) (by omega); simpa using this⟩
 have h5 := hall (r.fam (LI r.m) r.e) 1 (hr.closF _ _ _ (LI_len _) hdom) (by omega)
 have h6 : O.clos (domC (r.m + 1) []) (r.fin (LI r.m)) = true := hr.closE _ _ (LI_len _) hdom
 have hlen : (r.rc (LI r.m) .ready none :: r.fam (LI r.m) 0).length = r.m + 1 := by rw [List.length_cons, hl0]
 have h7 : D.clos (domC (r.m + 1) []) (.tup []) = true := rfl
 simp only [hlen, h7, List.all_cons, h6, h5, List.all_nil, List.map_nil, distinct, Bool.and_self, Bool.true_and, Bool.and_true]
 simp
theorem cl_iter {P : Program} {Γ : FuncId → Option Spec} (hΓ : ∀ f s, Γ f = some s → SSound P f s) {r : Lp} (hr : r.Ok) {caps : List V} {g : Operand} {ps : Array Tmp} {asg body : Code} {σ : S} {rest : List Code} {K : Exit → S → Prop} (k k' : Nat) {f : FuncId} {Ls : List Name}
  (hc : opC σ g = true) (hg : opD σ g = .v (.clo (.func f) [] caps)) (hne : f ≠ yid) (hs : Γ f = some (r.it caps).toSpec) (hnew : σ.obj (k :: σ.pre) = none)
  (he : (List.range σ.nt).map σ.env = r.env Ls) (hps : ps.toList = r.ps) (ha : asg = r.asg) (hb : body = r.body) (hl : Ls.length = r.m) (hn : Ls.Nodup) (hR : (k :: σ.pre) ∉ Ls) (hF : objAll σ.obj Ls (r.fam Ls 0))
  (hK : ∀ o : O, pdK (thenK (fun σ' => CL P rest σ' K) K) { σ with obj := upd (setLs Ls (r.fam Ls r.e) σ.obj) (k :: σ.pre) (some o) } r.pd) : CL P (.rangeFunc g ps asg body :: rest) σ K := by
 subst ha
 subst hb
 generalize hRn : k :: σ.pre = R at *
 have hagr : ∀ x ∈ Ls, (upd σ.obj R (some (r.rc Ls .ready none))) x = σ.obj x := fun x hx => upd_ne _ _ _ (by rintro rfl; exact hR hx)
 have happ := Lp.it_app hr (caps := caps) (t := k' :: σ.pre) hl hn hR (upd_same σ.obj R (some (r.rc Ls .ready none))) (objAll_agr hF hagr)
 have hrec : O.loop ((List.range σ.nt).map σ.env) ps.toList r.asg r.body .ready none = r.rc Ls .ready none := by unfold Lp.rc; rw [he, hps]
 have hargs : clArgs (opD σ g) [.yld R] = .yld R :: caps.map .v := by rw [hg]; rfl
 have hfn : clFn (opD σ g) = some f := by rw [hg]; simp [clFn, hne]
 have hswap : ∀ (F : List O) (obj : Name → Option O) (a b : Option O), upd (setLs Ls F (upd obj R a)) R b = upd (setLs Ls F obj) R b := by
  intro F obj a b
  funext x
  by_cases h : x = R
  ·subst h; rw [upd_same, upd_same]
  ·rw [upd_ne _ _ _ h, upd_ne _ _ _ h]
   have : ∀ (Ls : List Name) (F : List O) (o1 o2 : Name → Option O), o1 x = o2 x → setLs Ls F o1 x = setLs Ls F o2 x := by
    intro Ls
    induction Ls with
    | nil => intro F o1 o2 h; simpa [setLs] using h
    | cons y ys ih =>
     intro F o1 o2 h
     cases F with
     | nil => simpa [setLs] using h
     | cons f fs =>
      simp only [setLs]
      refine ih fs _ _ ?_
      by_cases e : x = y
      ·subst e; rw [upd_same, upd_same]
      ·rw [upd_ne _ _ _ e, upd_ne _ _ _ e, h]
   exact this Ls F _ _ (upd_ne _ _ _ h)
 refine cl_rangeFunc hΓ k k' hc hfn hne hs (by rw [hRn]; exact hnew) ?_ ?_
 ·rw [hRn, hargs, hrec, happ]; trivial
 ·rw [hRn, hargs, hrec, happ]
  have hfin : setLs Ls (r.fam Ls r.e) (upd (upd σ.obj R (some (r.rc Ls .ready none))) R (some (r.fin Ls))) R = some (r.fin Ls) := by rw [setLs_ne hR, upd_same]
  have hsp : spent (setLs Ls (r.fam Ls r.e) (upd (upd σ.obj R (some (r.rc Ls .ready none))) R (some (r.fin Ls)))) R =
    upd (setLs Ls (r.fam Ls r.e) σ.obj) R (some (r.rc Ls .exhausted r.pd)) := by
   unfold spent
   rw [hfin]
   unfold Lp.fin Lp.rc
   simp only [hswap]
  refine leftK_of r.pd hfin ?_
  rw [hsp]
  exact hK (r.rc Ls .exhausted r.pd)
def mayN (t : List Deed) (day : Int) : List Nat := mayL t day (t.length + 1)
theorem mayL_lt {t : List Deed} {day : Int} {s : Nat} : ∀ x ∈ mayL t day s, x < s ∧ mayB t x day = true := fun x hx => by
 obtain ⟨h1, h2⟩ := List.mem_filter.1 hx
 exact ⟨List.mem_range.1 h1, h2⟩
theorem mayL_pre (t : List Deed) (day : Int) (s k : Nat) : ∃ r, mayL t day (s + k) = mayL t day s ++ r := by
 induction k with
 | zero => exact ⟨[], by simp⟩
 | succ k ih =>
  obtain ⟨r, hr⟩ := ih
  rw [← Nat.add_assoc, mayL_next]
  split
  ·exact ⟨r ++ [s + k], by rw [hr, List.append_assoc]⟩
  ·exact ⟨r, hr⟩
theorem mayN_at {t : List Deed} {day : Int} {s : Nat} (h : s ≤ t.length) (hm : mayB t s day = true) : ∃ (h : (mayL t day s).length < (mayN t day).length), (mayN t day)[(mayL t day s).length] = s := by
 obtain ⟨r, hr⟩ := mayL_pre t day (s + 1) (t.length - s)
 have e : mayN t day = mayL t day s ++ (s :: r) := by
  unfold mayN
  rw [show t.length + 1 = s + 1 + (t.length - s) by omega, hr, mayL_next, if_pos hm, List.append_assoc]
  rfl
 refine ⟨by rw [e]; simp, ?_⟩
 simp only [e]
 rw [List.getElem_append_right (Nat.le_refl _)]
 simp
def stVals (t : List Deed) (day : Int) (i : Nat) : List D := [.v (vInt ((mayN t day).getD i 0)), .v (encS (stA t ((mayN t day).getD i 0)))]
theorem iter165 {r : Lp} (hr : r.Ok) (hy : SSound Tryz.prog yid r.y.toSpec) {t : List Deed} {day : Int} (hl : t.length ≤ 60) (hk : ∀ d ∈ t, kindOk d) (hn : r.n = (mayN t day).length) (hv : r.vals = stVals t day) :
  SSound Tryz.prog 165 (r.it [.ptr [.sl (t.map encD)], .ptr [vInt day]]).toSpec := by
 refine csound (nt := 25) (rs := []) Tryz.func165 rfl (by rfl) (by kernel_rfl) (enter_of Tryz.func165 rfl (by kernel_rfl)) (notYid _ (by decide)) ?_
 rintro os ds ⟨rfl, rfl⟩
 refine ⟨lb rfl, ?_⟩
 have hout : ∀ os ds, (r.it [.ptr [.sl (t.map encD)], .ptr [vInt day]]).out os ds = ⟨(0, r.fin (LI r.m)) :: upds 1 (r.fam (LI r.m) r.e), [], .tup []⟩ := fun _ _ => rfl
 rw [hout]
 let c : Nat → Nat := fun s => (mayL t day s).length
 have hc0 : c 0 = 0 := rfl
 have hcs : ∀ s, c (s + 1) = if mayB t s day = true then c s + 1 else c s := fun s => by
  show (mayL t day (s + 1)).length = _
  rw [mayL_next]
  split
  ·simp only [List.length_append, List.length_singleton]; rfl
  ·rfl
 have hcm : ∀ s s', s ≤ s' → c s ≤ c s' := fun s s' h => by
  obtain ⟨x, hx⟩ := mayL_pre t day s (s' - s)
  rw [show s + (s' - s) = s' by omega] at hx
  show (mayL t day s).length ≤ (mayL t day s').length
  rw [hx]; simp
 have hcn : c (t.length + 1) = r.n := hn.symm
 have hat : ∀ s, s ≤ t.length → mayB t s day = true → c s < r.n ∧ r.vals (c s) = [.v (vInt s), .v (encS (stA t s))] := fun s hs hm => by
  obtain ⟨h1, h2⟩ := mayN_at hs hm
  refine ⟨by rw [hn]; exact h1, ?_⟩
  rw [hv]
  have : (mayN t day).getD (c s) 0 = s := by
   rw [List.getD_eq_getElem?_getD, List.getElem?_eq_getElem h1]; exact h2
  unfold stVals
  rw [this]
 let b : Nat → Bool := fun s => (r.st (c s)).isNone
 let pd : Nat → Option Code := fun s => if c s = 0 then none else r.st (c s - 1)
 let I : Nat → List O := fun s => r.rc (LI r.m) (if (pd s).isNone then .ready else .done) (pd s) :: r.fam (LI r.m) (c s)
 obtain ⟨K, hKs⟩ : ∃ K : FuncId → Option Spec, (K yid = some r.y.toSpec ∧ K 166 = some sMay ∧ K 167 = some sAft) ∧ ∀ f s, K f = some s → SSound Tryz.prog f s := by
  refine ⟨fun f => match f with | 166 => some sMay | 167 => some sAft | 1000000000 => some r.y.toSpec | _ => none, ⟨rfl, rfl, rfl⟩, ?_⟩
  intro f s h
  dsimp only at h
  split at h
  ·cases h; exact s166.sound
  ·cases h; exact s167.sound
  ·cases h; exact hy
  ·cases h
 have hLn : (LI r.m).Nodup := List.Pairwise.map _ (fun a b h => by simpa using h) List.nodup_range
 have hRn : ([0, 1] : Name) ∉ LI r.m := fun h => by
  obtain ⟨i, _, hi⟩ := List.mem_map.1 h
  simp at hi
 obtain ⟨code, hcode, h⟩ := w165 hKs.2 (sY := r.y.toSpec) hKs.1.1 hKs.1.2.1 hKs.1.2.2 (t := t) (day := day) hl hk (I := I) (b := b)
  (fun s => by simp only [I, List.length_cons, hr.len _ _ (LI_len _)])
  (fun s o ho dom hd => by
   have hd' : ∀ x ∈ LI r.m, dom x = true := fun x hx => by
    obtain ⟨i, _, rfl⟩ := List.mem_map.1 hx
    exact hd _
   simp only [I, List.mem_cons] at ho
   rcases ho with rfl | ho
   ·exact hr.closE _ _ (LI_len _) hd'
   ·exact hr.closF _ _ _ (LI_len _) hd' _ ho)
  (fun s _ hm => by
   have e : c (s + 1) = c s := by rw [hcs, if_neg (by rw [hm]; decide)]
   simp only [I, pd, e])
  (fun s hs hm hq obj tm ho => by
   obtain ⟨h1, h2⟩ := hat s hs hm
   have hj : ∀ j, j < c s → r.st j = none := fun j hj => by
    have hjn : j < (mayN t day).length := by rw [← hn]; omega
    have hmem : j < (mayL t day s).length := hj
    have hx := mayL_lt _ (List.getElem_mem hmem)
    have hcx : c ((mayL t day s)[j]) = j := by
     obtain ⟨h3, h4⟩ := mayN_at (by omega : (mayL t day s)[j] ≤ t.length) hx.2
     obtain ⟨x, hxx⟩ := mayL_pre t day s (t.length + 1 - s)
     rw [show s + (t.length + 1 - s) = t.length + 1 by omega] at hxx
     have h5 : (mayN t day)[j] = (mayL t day s)[j] := by
      have : (mayN t day)[j]? = (mayL t day s)[j]? := by
       unfold mayN
       rw [hxx, List.getElem?_append_left hmem]
      rw [List.getElem?_eq_getElem hjn, List.getElem?_eq_getElem hmem] at this
      exact Option.some.inj this
     have hnd : (mayN t day).Nodup := (List.nodup_range.filter _)
     exact (List.getElem_inj hnd).1 (h4.trans h5.symm)
    have := hq _ hx.1
    simp only [hx.2, Bool.true_and, b, Bool.not_eq_false', Option.isNone_iff_eq_none, hcx] at this
    exact this
   have hpd : pd s = none := by
    simp only [pd]
    split
    ·rfl
    ·exact hj _ (by omega)
   have hn1 : c (s + 1) = c s + 1 := by rw [hcs, if_pos hm]
   have hpd1 : pd (s + 1) = r.st (c s) := by
    simp only [pd, hn1]
    rw [if_neg (by omega)]
    rfl
   have hI0 : ∀ nm, isOut nm = true → obj nm = outH (I s) nm := ho
   have h0 : obj [0, 1] = some (r.rc (LI r.m) .ready none) := by
    rw [hI0 _ rfl]
    simp only [I, hpd]
    rfl
   have hF : objAll obj (LI r.m) (r.fam (LI r.m) (c s)) := by
    rw [objAll_iff]
    refine List.ext_getElem (by rw [List.length_map, List.length_map, LI_len, hr.len _ _ (LI_len _)]) fun i h3 h4 => ?_
    simp only [List.getElem_map, LI, List.getElem_range]
    rw [hI0 _ rfl]
    simp only [I, outH, List.getElem?_cons_succ]
    have h5 : i < (r.fam (LI r.m) (c s)).length := by simpa using h4
    rw [List.getElem?_eq_getElem h5]
    rfl
   have happ := Lp.y_app hr h1 hj (t := tm) (LI_len _) hLn hRn h0 hF
   rw [h2] at happ
   rw [happ]
   congr 1
   funext nm
   have hlen := hr.len (LI r.m) (c s + 1) (LI_len _)
   by_cases hR : nm = [0, 1]
   ·subst hR
    rw [upd_same]
    unfold setU
    simp only [I, hn1, hpd1, outH]
    rfl
   ·rw [upd_ne _ _ _ hR]
    unfold setU
    cases hx : isOut nm with
    | false =>
     rw [outH_not hx, setLs_ne]
     intro hm2
     obtain ⟨i, _, rfl⟩ := List.mem_map.1 hm2
     cases hx
    | true =>
     obtain ⟨i, rfl⟩ := isOut_iff.1 hx
     have hall := setLs_all (obj := obj) (F := r.fam (LI r.m) (c s + 1)) hLn (by rw [LI_len, hlen])
     match i, hR with
     | 0, hR => exact (hR rfl).elim
     | i + 1, _ =>
      simp only [I, outH, List.getElem?_cons_succ, hn1]
      by_cases hi : i < r.m
      ·have h6 := objAll_get hall i (by rw [LI_len]; exact hi) (by rw [hlen]; exact hi)
       simp only [LI, List.getElem_map, List.getElem_range] at h6
       rw [show (r.fam (LI r.m) (c s + 1))[i]? = some (r.fam (LI r.m) (c s + 1))[i] from List.getElem?_eq_getElem (by rw [hlen]; exact hi)]
       exact h6
      ·rw [List.getElem?_eq_none (by rw [hlen]; omega), setLs_ne]
       intro hm2
       obtain ⟨j, hj2, hj3⟩ := List.mem_map.1 hm2
       have := List.mem_range.1 hj2
       simp at hj3
       omega)
 have hc2 : ∀ c2, Tryz.f165.body = some c2 → c2 = code := fun c2 h2 => by rw [h2] at hcode; exact Option.some.inj hcode
 rw [← hc2 _ rfl] at h
 refine CW.mono (cl_of h) ?_
 rintro e σ ⟨he, hob⟩
 have hall : ∀ j, j < r.n → ∃ s, s ≤ t.length ∧ mayB t s day = true ∧ c s = j := fun j hj => by
  have hjn : j < (mayN t day).length := by rw [← hn]; exact hj
  have hx := mayL_lt _ (List.getElem_mem hjn)
  refine ⟨(mayN t day)[j], by omega, hx.2, ?_⟩
  obtain ⟨h3, h4⟩ := mayN_at (by omega : (mayN t day)[j] ≤ t.length) hx.2
  exact (List.getElem_inj (List.nodup_range.filter _)).1 h4
 have key : c (endN (fun s => mayB t s day && !b s) (t.length + 1)) = r.e ∧ pd (endN (fun s => mayB t s day && !b s) (t.length + 1)) = r.pd := by
  unfold endN
  cases hf : (List.range (t.length + 1)).find? (fun s => mayB t s day && !b s) with
  | none =>
   have hno : ∀ j, j < r.n → r.st j = none := fun j hj => by
    obtain ⟨s, h1, h2, h3⟩ := hall j hj
    have := List.find?_eq_none.1 hf s (List.mem_range.2 (by omega))
    simp only [h2, Bool.true_and, b, Bool.not_eq_true', Bool.not_eq_false, h3] at this
    simpa using this
   have hg : (List.range r.n).find? (fun s => (r.st s).isSome) = none := List.find?_eq_none.2 fun s hs => by rw [hno s (List.mem_range.1 hs)]; decide
   unfold Lp.e Lp.pd
   rw [hg]
   refine ⟨hcn, ?_⟩
   simp only [pd]
   split
   ·rfl
   ·exact hno _ (by rw [← hcn]; omega)
  | some s0 =>
   obtain ⟨h1, i, hi, h2, h3⟩ := List.find?_eq_some_iff_getElem.1 hf
   have hi' : i < t.length + 1 := by simpa using hi
   have e0 : i = s0 := by simpa using h2
   subst e0
   simp only [Bool.and_eq_true, Bool.not_eq_true'] at h1
   have hst : (r.st (c i)).isSome = true := by
    have := h1.2
    simp only [b] at this
    cases hx : r.st (c i) with
    | none => rw [hx] at this; cases this
    | some _ => rfl
   obtain ⟨hcl, _⟩ := hat i (by omega) h1.1
   have hbe : ∀ j, j < c i → (r.st j).isSome = false := fun j hj => by
    obtain ⟨s, k1, k2, k3⟩ := hall j (by omega)
    have hsi : s < i := by
     rcases Nat.lt_or_ge s i with h | h
     ·exact h
     ·have := hcm i s h; omega
    have := h3 s hsi
    simp only [List.getElem_range, k2, Bool.true_and, b, Bool.not_not, Option.isNone_iff_eq_none, k3] at this
    rw [this]; rfl
   have hg : (List.range r.n).find? (fun s => (r.st s).isSome) = some (c i) := by
    rw [List.find?_eq_some_iff_getElem]
    exact ⟨hst, c i, by simpa using hcl, by simp, fun j hj => by simp [hbe j hj]⟩
   have hn1 : c (i + 1) = c i + 1 := by rw [hcs, if_pos h1.1]
   unfold Lp.e Lp.pd
   rw [hg]
   refine ⟨hn1, ?_⟩
   simp only [pd, hn1]
   rw [if_neg (by omega)]
   rfl
 have fin := Lp.it_end (P := Tryz.prog) hr (σ := σ) (by
   rw [hob 0]
   simp only [I, outH, List.getElem?_cons_zero, key.2]
   rfl) (by
   rw [objAll_iff]
   refine List.ext_getElem (by rw [List.length_map, List.length_map, LI_len, hr.len _ _ (LI_len _)]) fun i h3 h4 => ?_
   simp only [List.getElem_map, LI, List.getElem_range]
   rw [hob (i + 1)]
   simp only [I, outH, List.getElem?_cons_succ, key.1]
   have h5 : i < (r.fam (LI r.m) r.e).length := by simpa using h4
   rw [List.getElem?_eq_getElem h5]
   rfl)
 rcases he with rfl | rfl
 ·exact fin
 ·exact fin
@[go_sem] theorem ta111 : tAgg Tryz.prog 111 = some (true, 2) := by kernel_rfl
@[go_sem] theorem tp111 : tPlaces Tryz.prog 111 = some [(0, 1), (1, 1)] := by kernel_rfl
@[go_sem] theorem tz111 : tZero Tryz.prog 111 = some (.agg #[(.slice none 0 0), (.int .i64 0)]) := by kernel_rfl
@[go_sem] theorem tf111_0 : tField Tryz.prog 111 0 = some (0, 1, false) := by kernel_rfl
@[go_sem] theorem tf111_1 : tField Tryz.prog 111 1 = some (1, 1, false) := by kernel_rfl
theorem OutC_congr {p : Name} {dom : Name → Bool} {F G : Name → Option O} (h : ∀ nm, own p nm = false → F nm = G nm) : OutC p dom F = OutC p dom G :=
 propext ⟨fun k nm q hn hq => k nm q hn (by rw [h nm hn]; exact hq), fun k nm q hn hq => k nm q hn (by rw [← h nm hn]; exact hq)⟩
theorem upd_cong {F G : Name → Option O} {x nm : Name} {o : Option O} (h : F nm = G nm) : upd F x o nm = upd G x o nm := by
 by_cases e : nm = x
 ·subst e; rw [upd_same, upd_same]
 ·rw [upd_ne _ _ _ e, upd_ne _ _ _ e, h]
theorem OutC_ifu2 (p : Name) (dom : Name → Bool) (F H : Name → Option O) (x y : Name) (o q : Option O) :
  OutC p dom (upd (upd (fun nm => if own p nm = true then F nm else H nm) x o) y q) = OutC p dom (upd (upd H x o) y q) :=
 OutC_congr fun nm hn => upd_cong (upd_cong (by simp [hn]))
theorem mkS_ifu2 (n : Nat) (p : Name) (F H : Name → Option O) (x y : Name) (o q : Option O) (l : List (Nat × E)) (h : List (Name × O)) :
  mkS n p (upd (upd (fun nm => if own p nm = true then F nm else H nm) x o) y q) l h = mkS n p (upd (upd H x o) y q) l h :=
 mkS_same fun nm hn => upd_cong (upd_cong (by simp [hn]))
def rngD : Code → Option (Array Tmp × Code × Code)
 | .seq a b => match rngD a with | some x => some x | none => rngD b
 | .block _ b => rngD b
 | .scope b => rngD b
 | .rangeFunc _ ps a b => some (ps, a, b)
 | _ => none
def rngOf (fn : Func) : Array Tmp × Code × Code := ((fn.body.bind rngD).getD (#[], .skip, .skip))
def offFind (t : List Deed) (inn : Bool) (day : Int) : Int × Bool := match (mayN t day).find? (fun n => (stA t n).o == inn) with | some n => (n, true) | none => (0, false)
def offSt (t : List Deed) (inn : Bool) (day : Int) (i : Nat) : Option Code := if (stA t ((mayN t day).getD i 0)).o == inn then some .ret else none
def offFam (t : List Deed) (inn : Bool) (day : Int) (s : Nat) : List O :=
 match s with
 | 0 => [.box [.v (vInt 0)], .box [.v (.bool false)]]
 | s + 1 => if (stA t ((mayN t day).getD s 0)).o == inn then [.box [.v (vInt ((mayN t day).getD s 0))], .box [.v (.bool true)]] else [.box [.v (vInt 0)], .box [.v (.bool false)]]
noncomputable def offLp (t : List Deed) (inn : Bool) (day : Int) : Lp where
 m := 2
 env := fun Ls => (List.range 24).map (ofL eAny [(5, ⟨true, .v (.ptr [.bool inn])⟩), (6, ⟨true, .ref (Ls.getD 0 []) 0⟩), (7, ⟨true, .ref (Ls.getD 1 []) 0⟩), (16, ⟨true, .v (.clo (.func 165) [] [.ptr [.sl (t.map encD)], .ptr [vInt day]])⟩)])
 fam := fun _ s => offFam t inn day s
 ps := (rngOf Tryz.f159).1.toList
 asg := (rngOf Tryz.f159).2.1
 body := (rngOf Tryz.f159).2.2
 n := (mayN t day).length
 vals := stVals t day
 st := offSt t inn day
 fu := 100
theorem offFam_cases (t : List Deed) (inn : Bool) (day : Int) (s : Nat) : ∃ (k : Int) (b : Bool), offFam t inn day s = [.box [.v (vInt k)], .box [.v (.bool b)]] := by
 cases s with
 | zero => exact ⟨_, _, rfl⟩
 | succ s =>
  simp only [offFam]
  split
  ·exact ⟨_, _, rfl⟩
  ·exact ⟨_, _, rfl⟩
theorem two_names {Ls : List Name} (h : Ls.length = 2) : ∃ a b, Ls = [a, b] := by
 match Ls, h with
 | [a, b], _ => exact ⟨a, b, rfl⟩
theorem stVals_inj {t : List Deed} {day : Int} : ∀ s s', s < (mayN t day).length → s' < (mayN t day).length → stVals t day s = stVals t day s' → s = s' := by
 intro s s' h h' he
 unfold stVals at he
 simp only [List.cons.injEq, D.v.injEq, vInt, V.int.injEq, true_and, and_true, List.getD_eq_getElem?_getD, List.getElem?_eq_getElem h, List.getElem?_eq_getElem h', Option.getD_some] at he
 have h1 : (mayN t day)[s] = (mayN t day)[s'] := by
  have := he.1
  omega
 exact (List.getElem_inj (List.nodup_range.filter _)).1 h1
theorem reachL_new {obj : Name → Option O} {k : Nat} {x : Name} {o : O} {todo acc : List Name} (h : x ∉ acc) (ho : obj x = some o) : reachL obj (k + 1) (x :: todo) acc = reachL obj k (namesO o ++ todo) (acc ++ [x]) := by
 have : inL acc x = false := by
  cases e : inL acc x with
  | false => rfl
  | true => exact (h (inL_iff.1 e)).elim
 simp only [reachL, this, ho, Bool.false_eq_true, if_false]
theorem offLp_ok (t : List Deed) (inn : Bool) (day : Int) : (offLp t inn day).Ok where
 len := fun Ls s _ => by obtain ⟨k, b, h⟩ := offFam_cases t inn day s; simp only [offLp, h]; rfl
 renE := fun f Ls h => by obtain ⟨a, b, rfl⟩ := two_names h; rfl
 renF := fun f Ls s h => by obtain ⟨k, b, h⟩ := offFam_cases t inn day s; simp only [offLp, h]; rfl
 reach := fun Ls s obj acc k h hn hd hF => by
  obtain ⟨a, b, rfl⟩ := two_names h
  obtain ⟨x, y, hf⟩ := offFam_cases t inn day s
  simp only [offLp, hf] at hF
  obtain ⟨h1, h2, _⟩ := hF
  have hab : a ≠ b := by simpa using hn
  show reachL obj (k + 100) _ acc = _
  have e : namesL (((offLp t inn day).env [a, b]).map (·.d)) = [a, b] := rfl
  rw [e, show k + 100 = (k + 98) + 1 + 1 by omega, reachL_new (hd a (by simp)) h1]
  have h3 : b ∉ acc ++ [a] := by simp only [List.mem_append, List.mem_singleton, not_or]; exact ⟨hd b (by simp), hab.symm⟩
  show reachL obj (k + 98 + 1) [b] _ = _
  rw [reachL_new h3 h2]
  show reachL obj (k + 97 + 1) [] _ = _
  simp [reachL]
 closE := fun dom Ls h hd => by
  obtain ⟨a, b, rfl⟩ := two_names h
  have h1 := hd a (by simp)
  have h2 := hd b (by simp)
  simp [offLp, List.range, List.range.loop, ofL, D.closL, D.clos, eAny, h1, h2]
 closF := fun dom Ls s h hd o ho => by
  obtain ⟨x, y, hf⟩ := offFam_cases t inn day s
  simp only [offLp, hf, List.mem_cons, List.not_mem_nil, or_false] at ho
  rcases ho with rfl | rfl <;> rfl
 psz := fun Ls h => by rfl
 args := fun s => by rfl
 fuel := (show (100 : Nat) ≤ 2000 by decide)
 vnam := fun _ => rfl
 vcl := fun _ _ => rfl
 vren := fun _ _ => rfl
 inj := stVals_inj
theorem offLp_y (t : List Deed) (inn : Bool) (day : Int) : SSound Tryz.prog yid (offLp t inn day).y.toSpec := by
 refine Lp.y_sound (offLp_ok t inn day) fun s hs hj => ?_
 have hΓ := K0n_sound
 have hs' : s < (mayN t day).length := hs
 obtain ⟨n, hn⟩ : ∃ n, n = (mayN t day).getD s 0 := ⟨_, rfl⟩
 have hst : (offLp t inn day).st s = if (stA t n).o == inn then some .ret else none := by rw [hn]; rfl
 have hf1 : (offLp t inn day).fam (LR 2) (s + 1) = if (stA t n).o == inn then [.box [.v (vInt n)], .box [.v (.bool true)]] else [.box [.v (vInt 0)], .box [.v (.bool false)]] := by rw [hn]; rfl
 have hf0 : (offLp t inn day).fam (LR 2) s = [.box [.v (vInt 0)], .box [.v (.bool false)]] := by
  cases s with
  | zero => rfl
  | succ s =>
   have := hj s (by omega)
   have h2 : ((stA t ((mayN t day).getD s 0)).o == inn) = false := by
    have h3 : offSt t inn day s = none := this
    unfold offSt at h3
    split at h3
    ·cases h3
    ·rename_i h4; simpa using h4
   show offFam t inn day (s + 1) = _
   simp only [offFam, h2]
   rfl
 have hv : (offLp t inn day).vals s = [.v (vInt n), .v (encS (stA t n))] := by rw [hn]; rfl
 have hm : (offLp t inn day).m = 2 := rfl
 rw [hm, hf0, hf1, hst, hv]
 obtain ⟨x, y, z⟩ := stA t n
 generalize hos : [O.box [.v (vInt 0)], .box [.v (.bool false)]] = os
 have hO : ∀ hs, OutC [0] (domOf [0] hs) (outH os) = True := by
  subst hos
  refine fun hs => eq_true (outC_outs ?_ hs)
  intro o ho dom hd
  simp only [List.mem_cons, List.not_mem_nil, or_false] at ho
  rcases ho with rfl | rfl <;> rfl
 have hH0 : outH os [0, 1] = some (.box [.v (vInt 0)]) := by subst hos; rfl
 have hH1 : outH os [1, 1] = some (.box [.v (.bool false)]) := by subst hos; rfl
 have hre : ∀ H : Name → Option O, H [0, 1] = some (.box [.v (vInt 0)]) → H [1, 1] = some (.box [.v (.bool false)]) → objAll H (LR 2) os := by
  intro H h1 h2
  subst hos
  exact ⟨h1, h2, trivial⟩
 obtain ⟨H, hH⟩ : ∃ H, outH os = H := ⟨_, rfl⟩
 rw [hH] at hH0 hH1
 simp only [hH] at hO
 simp only [encS, hH]
 have hrn : rngOf Tryz.f159 = (_, _, _) := rfl
 refine cw_weak (weak_to 24 [0] H [(5, ⟨true, .v (.ptr [.bool inn])⟩), (6, ⟨true, .ref [0, 1] 0⟩), (7, ⟨true, .ref [1, 1] 0⟩), (17, ⟨true, .v (vInt n)⟩), (18, ⟨true, .v (.agg [vInt x, vInt y, .bool z])⟩)] [] rfl rfl (fun _ _ => rfl) ?_ (by simp) ?_ ?_) ?_
 ·intro q hq
  simp only [List.mem_cons, List.not_mem_nil, or_false] at hq
  rcases hq with rfl | rfl | rfl | rfl | rfl <;> rfl
 ·simp [D.clos, domOf, own]
 ·rw [hO]; trivial
 simp only [offLp, hrn]
 refine cl_of ?_
 repeat refine sq ?_
 refine cl_rs hΓ [5,6,7,8,18] [] fun K' hK => ?_
 simp only [go_sem, hO]
 repeat refine ⟨ob, ?_⟩
 refine hK _ ?_ ?_ <;> clear K' hK <;> simp only [go_sem, hO]
 refine cl_r hΓ fun K' hK => ?_
 simp only [go_sem, tp137, tz137]
 refine ⟨Nat.le_refl _, ?_⟩
 refine hK _ ?_
 clear K' hK
 refine (cw_keep [5, 6, 7, 8, 9] [[9, 0]] ?_ ?_ : CW _ _ _ _)
 ·simp only [go_sem, hO]
 refine cl_of ?_
 simp only [go_sem]
 refine cl_block ?_
 repeat refine sq ?_
 refine cl_rs hΓ [6,7,8,22] [] fun K' hK => ?_
 simp only [go_sem, hO]
 repeat refine ⟨ob, ?_⟩
 refine hK _ ?_ ?_ <;> clear K' hK <;> simp only [go_sem, hO]
 repeat refine sq ?_
 refine cl_cond rfl rfl (fun hb => ?_) fun hb => ?_
 ·rw [if_pos hb, if_pos hb]
  have hO2 : ∀ hs a b, OutC [0] (domOf [0] hs) (upd (upd H [0, 1] (some (.box [.v a]))) [1, 1] (some (.box [.v b]))) = True := fun hs a b => eq_true (OutC_set rfl (OutC_set rfl ((hO hs).symm ▸ trivial)))
  repeat refine sq ?_
  refine cl_rs hΓ [] [] fun K' hK => ?_
  simp only [go_sem, hO2, hH0, hH1, OutC_ifu2, mkS_ifu2]
  repeat refine ⟨ob, ?_⟩
  refine hK _ ?_ ?_ <;> clear K' hK <;> simp only [go_sem, hO2, hH0, hH1, OutC_ifu2, mkS_ifu2]
  refine cl_ret ?_
  exact ⟨rfl, rfl, rfl, trivial⟩
 ·have hb' : ¬ (z == inn) = true := by rw [hb]; decide
  rw [if_neg hb', if_neg hb']
  refine cl_skip ?_
  refine cl_nil ?_
  exact ⟨rfl, hre _ hH0 hH1⟩
def pOff : PSpec := ⟨fun xs => ∃ (c : List Deed) (day pe : Int) (inn : Bool), xs = [.agg [.sl (c.map encD), vInt day], vInt pe, .bool inn] ∧ c.length ≤ 60 ∧ ∀ d ∈ c, kindOk d,
 fun xs => match xs with | [.agg [.sl c, .int _ day], .int _ pe, .bool inn] => .tup [vInt (offFind (thrL (c.map decD) 0 pe) inn day).1, .bool (offFind (thrL (c.map decD) 0 pe) inn day).2] | _ => .bool false, true⟩
theorem pOff_fn (c : List Deed) (day pe : Int) (inn : Bool) : pOff.fn [.agg [.sl (c.map encD), vInt day], vInt pe, .bool inn] = .tup [vInt (offFind (thrL c 0 pe) inn day).1, .bool (offFind (thrL c 0 pe) inn day).2] := by
 simp only [pOff, decD_map]
theorem offLp_end (t : List Deed) (inn : Bool) (day : Int) : (offLp t inn day).fam [] (offLp t inn day).e = [.box [.v (vInt (offFind t inn day).1)], .box [.v (.bool (offFind t inn day).2)]] ∧
  (offLp t inn day).pd = if (offFind t inn day).2 then some .ret else none := by
 unfold Lp.e Lp.pd offFind
 have hn : (offLp t inn day).n = (mayN t day).length := rfl
 have hst : ∀ s, (offLp t inn day).st s = offSt t inn day s := fun _ => rfl
 have hfm : ∀ s, (offLp t inn day).fam [] s = offFam t inn day s := fun _ => rfl
 simp only [hn, hst, hfm]
 cases hf : (mayN t day).find? (fun n => (stA t n).o == inn) with
 | none =>
  have hno : ∀ s, s < (mayN t day).length → offSt t inn day s = none := fun s hs => by
   have := List.find?_eq_none.1 hf _ (List.getElem_mem hs)
   unfold offSt
   rw [List.getD_eq_getElem?_getD, List.getElem?_eq_getElem hs, Option.getD_some, if_neg this]
  have hg : (List.range (mayN t day).length).find? (fun s => (offSt t inn day s).isSome) = none := List.find?_eq_none.2 fun s hs => by rw [hno s (List.mem_range.1 hs)]; decide
  rw [hg]
  refine ⟨?_, rfl⟩
  cases hl : (mayN t day).length with
  | zero => rfl
  | succ s =>
   have := hno s (by omega)
   unfold offSt at this
   simp only [offFam]
   split
   ·rename_i h; rw [if_pos h] at this; cases this
   ·rfl
 | some n =>
  obtain ⟨h1, i, hi, h2, h3⟩ := List.find?_eq_some_iff_getElem.1 hf
  have hgd : ∀ j (hj : j < (mayN t day).length), (mayN t day).getD j 0 = (mayN t day)[j] := fun j hj => by rw [List.getD_eq_getElem?_getD, List.getElem?_eq_getElem hj]; rfl
  have hsi : offSt t inn day i = some .ret := by unfold offSt; rw [hgd i hi, h2, if_pos h1]
  have hg : (List.range (mayN t day).length).find? (fun s => (offSt t inn day s).isSome) = some i := by
   rw [List.find?_eq_some_iff_getElem]
   refine ⟨by rw [hsi]; rfl, i, by simpa using hi, by simp, fun j hj => ?_⟩
   have := h3 j hj
   have hjl : j < (mayN t day).length := by omega
   simp only [List.getElem_range]
   unfold offSt
   rw [hgd j hjl, if_neg (by simpa using this)]
   rfl
  rw [hg]
  refine ⟨?_, hsi⟩
  simp only [offFam, hgd i hi, h2, h1, if_true]
set_option maxHeartbeats 4000000 in
theorem s159 : PSound Tryz.prog 159 pOff := by
 refine psoundB (rs := [.cell 6 3, .cell 7 4]) Tryz.func159 Tryz.ntmps159 (by rfl) (by kernel_rfl) (by decide) (by rintro _ xs ⟨c, day, pe, inn, rfl, _⟩; rw [pOff_fn]; rfl) ⟨_, rfl, ?_⟩
 rintro xs ⟨c, day, pe, inn, rfl, hl, hk⟩ hw
 refine ⟨lb rfl, ?_⟩
 rw [pOff_fn]
 have hlt : (thrL c 0 pe).length ≤ 60 := Nat.le_trans (List.length_filter_le _ _) hl
 have hkt : ∀ d ∈ thrL c 0 pe, kindOk d := fun d hd => hk d (List.mem_filter.1 hd).1
 have hth := fun (obj : Name → Option O) (t : Name) (f : List Deed → Int → Int → V) (fl : Bool) (a b : Int) => sLII_app (P := fun l => l.length ≤ 60) (f := f) (fl := fl) (obj := obj) (t := t) (l := c) (k := a) (j := b) hl
 generalize htt : thrL c 0 pe = t at *
 obtain ⟨Γ, hΓ, h86, h147, h165⟩ : ∃ Γ : FuncId → Option Spec, (∀ f s, Γ f = some s → SSound Tryz.prog f s) ∧ Γ 86 = some (sLII (fun l => l.length ≤ 60) (fun l lo pe => .sl ((thrL l lo pe).map encD)) false) ∧
   Γ 147 = some (sLI (fun _ => True) (fun l k => .clo (.func 165) [] [.ptr [.sl (l.map encD)], .ptr [vInt k]]) false) ∧ Γ 165 = some ((offLp t inn day).it [.ptr [.sl (t.map encD)], .ptr [vInt day]]).toSpec := by
  refine ⟨fun f => match f with | 86 => some (sLII (fun l => l.length ≤ 60) (fun l lo pe => .sl ((thrL l lo pe).map encD)) false) | 147 => some (sLI (fun _ => True) (fun l k => .clo (.func 165) [] [.ptr [.sl (l.map encD)], .ptr [vInt k]]) false) | 165 => some ((offLp t inn day).it [.ptr [.sl (t.map encD)], .ptr [vInt day]]).toSpec | _ => none, ?_, rfl, rfl, rfl⟩
  intro f s h
  dsimp only at h
  split at h
  ·cases h; exact s86.sound
  ·cases h; exact s147.sound
  ·cases h; exact iter165 (offLp_ok t inn day) (offLp_y t inn day) hlt hkt rfl rfl
  ·cases h
 have hP := mixedK
 have hst := fun (obj : Name → Option O) (tm : Name) (f : List Deed → Int → V) (fl : Bool) => sLI_app (P := fun _ => True) (f := f) (fl := fl) (obj := obj) (t := tm) (l := t) (k := day) trivial
 repeat refine sq ?_
 refine cl_rs hΓ [1,3,5,6,7] [[3, 0],[5, 0],[6, 0],[7, 0]] fun K' hK => ?_
 simp only [go_sem]
 repeat refine ⟨ob, ?_⟩
 refine hK _ ?_ ?_ <;> clear K' hK <;> simp only [go_sem]
 repeat refine sq ?_
 refine cl_ds hΓ hP [[], [0], [], [0, 1, 2], [], [4], [0, 1, 2, 3, 4, 5]] [5,6,7,16] [[5, 0],[6, 0],[7, 0]] (by kernel_rfl) fun K' hK => ?_
 simp only [go_sem, h86, h147, hth, htt, hst]
 repeat refine ⟨ob, ?_⟩
 first | refine ⟨by rfl, ?_⟩ | skip
 refine hK _ ?_ ?_ <;> clear K' hK <;> simp only [go_sem, h86, h147, hth, htt, hst]
 refine cl_weakM (σ' := mkS 24 [0] (fun _ => none) [(5, ⟨true, .v (.ptr [.bool inn])⟩), (6, ⟨true, .ref [6, 0] 0⟩), (7, ⟨true, .ref [7, 0] 0⟩), (16, ⟨true, .v (.clo (.func 165) [] [.ptr [.sl (t.map encD)], .ptr [vInt day]])⟩)] [([6, 0], .box [.v (vInt 0)]), ([7, 0], .box [.v (.bool false)])]) (weakM_frzk 5 (.ref [5, 0] 0) (by simp only [go_sem]) (by simp only [go_sem]) [5, 6, 7, 16] [[6, 0],[7, 0]] ?_ ?_) ?_
 ·simp only [go_sem]
 ·simp only [go_sem]
 repeat refine sq ?_
 refine cl_block ?_
 repeat refine sq ?_
 refine cl_iter hΓ (offLp_ok t inn day) 30 31 (f := 165) (Ls := [[6, 0], [7, 0]]) rfl rfl (by decide) h165 rfl rfl rfl rfl rfl rfl (by decide) (show ([30, 0] : Name) ∉ [[6, 0], [7, 0]] by decide) ⟨rfl, rfl, trivial⟩ fun o => ?_
 obtain ⟨hfe, hpd⟩ := offLp_end t inn day
 have hfe' : (offLp t inn day).fam [[6, 0], [7, 0]] (offLp t inn day).e = [.box [.v (vInt (offFind t inn day).1)], .box [.v (.bool (offFind t inn day).2)]] := hfe
 rw [hpd, hfe']
 have hff : (offFind t inn day).2 = false → offFind t inn day = (0, false) := by
  unfold offFind
  split
  ·intro h; cases h
  ·intro _; rfl
 generalize offFind t inn day = fd at hff ⊢
 obtain ⟨fn, fb⟩ := fd
 cases fb with
 | true =>
  show blockK 0 _ .ret _
  simp only [go_sem, setLs, pdK]
 | false =>
  cases hff rfl
  have hpn : (if ((0, false) : Int × Bool).2 = true then some Code.ret else none) = none := rfl
  rw [hpn]
  simp only [pdK, thenK]
  refine cl_nil ?_
  show CL Tryz.prog (_ :: _) _ _
  refine cl_keep [6,7] [[6, 0],[7, 0]] ?_ ?_
  ·simp only [go_sem, setLs]
  simp only [go_sem, setLs]
  repeat refine sq ?_
  refine cl_rs hΓ [6,7] [[6, 0],[7, 0]] fun K' hK => ?_
  simp only [go_sem]
  repeat refine ⟨ob, ?_⟩
  refine hK _ ?_ ?_ <;> clear K' hK <;> simp only [go_sem]
  refine cl_ret ?_
  simp only [go_sem]
def pdd (r : Lp) (k : Nat) : Option Code := if k = 0 then none else r.st (k - 1)
def live (r : Lp) (k : Nat) : Prop := k ≤ r.n ∧ ∀ j, j < k → r.st j = none
def stopB (r : Lp) (k : Nat) : Bool := (pdd r (min k r.e)).isSome
theorem live_pd {r : Lp} {k : Nat} (h : live r k) : pdd r k = none := by
 unfold pdd
 split
 ·rfl
 ·exact h.2 _ (by omega)
theorem e_cases (r : Lp) : (r.e = r.n ∧ r.pd = none ∧ ∀ j, j < r.n → r.st j = none) ∨ ∃ s, s < r.n ∧ r.e = s + 1 ∧ r.pd = r.st s ∧ (r.st s).isSome = true ∧ ∀ j, j < s → r.st j = none := by
 unfold Lp.e Lp.pd
 cases hf : (List.range r.n).find? (fun s => (r.st s).isSome) with
 | none =>
  refine .inl ⟨rfl, rfl, fun j hj => ?_⟩
  have := List.find?_eq_none.1 hf j (List.mem_range.2 hj)
  cases h : r.st j with
  | none => rfl
  | some _ => rw [h] at this; exact (this rfl).elim
 | some s =>
  obtain ⟨h1, i, hi, h2, h3⟩ := List.find?_eq_some_iff_getElem.1 hf
  have hi' : i < r.n := by simpa using hi
  have e0 : i = s := by simpa using h2
  subst e0
  refine .inr ⟨i, hi', rfl, rfl, h1, fun j hj => ?_⟩
  have := h3 j hj
  simp only [List.getElem_range] at this
  cases h : r.st j with
  | none => rfl
  | some _ => rw [h] at this; cases this
theorem pdd_e (r : Lp) : pdd r r.e = r.pd := by
 rcases e_cases r with ⟨h1, h2, h3⟩ | ⟨s, h1, h2, h3, _⟩
 ·rw [h1, h2]
  unfold pdd
  split
  ·rfl
  ·exact h3 _ (by omega)
 ·rw [h2, h3]
  rfl
theorem live_e {r : Lp} {k : Nat} (h : live r k) : k ≤ r.e := by
 rcases e_cases r with ⟨h1, _⟩ | ⟨s, h1, h2, h3, h4, _⟩
 ·rw [h1]; exact h.1
 ·rw [h2]
  rcases Nat.lt_or_ge s k with h5 | h5
  ·rw [h.2 s h5] at h4; cases h4
  ·omega
theorem lt_live {r : Lp} {k : Nat} (h : k < r.e) : live r k := by
 rcases e_cases r with ⟨h1, _, h3⟩ | ⟨s, h1, h2, h3, h4, h5⟩
 ·exact ⟨by omega, fun j hj => h3 j (by omega)⟩
 ·exact ⟨by omega, fun j hj => h5 j (by omega)⟩
theorem stop_iff {r : Lp} {k : Nat} : stopB r k = true ↔ r.e ≤ k ∧ r.pd.isSome = true := by
 unfold stopB
 rcases Nat.lt_or_ge k r.e with h | h
 ·rw [Nat.min_eq_left (Nat.le_of_lt h), live_pd (lt_live h)]
  simp; omega
 ·rw [Nat.min_eq_right h, pdd_e]
  simp [h]
theorem go_live {r : Lp} {k : Nat} (hk : k ≤ r.n) (h : stopB r k = false) : live r k := by
 rcases Nat.lt_or_ge k r.e with h1 | h1
 ·exact lt_live h1
 ·have h2 : r.pd.isSome = false := by
   cases hp : r.pd.isSome with
   | false => rfl
   | true => rw [stop_iff.2 ⟨h1, hp⟩] at h; cases h
  rcases e_cases r with ⟨_, _, h3⟩ | ⟨s, _, _, h4, h5, _⟩
  ·exact ⟨hk, fun j hj => h3 j (by omega)⟩
  ·rw [h4, h5] at h2; cases h2
theorem live_go {r : Lp} {k : Nat} (h : live r k) : stopB r k = false := by
 unfold stopB
 rw [Nat.min_eq_left (live_e h), live_pd h]
 rfl
theorem live_next {r : Lp} {k : Nat} (h : live r k) (hk : k < r.n) : min (k + 1) r.e = k + 1 ∧ pdd r (k + 1) = r.st k := by
 refine ⟨?_, rfl⟩
 rcases e_cases r with ⟨h1, _⟩ | ⟨s, h1, h2, h3, h4, h5⟩
 ·omega
 ·rcases Nat.lt_or_ge s k with h6 | h6
  ·rw [h.2 s h6] at h4; cases h4
  ·omega
def recP (r : Lp) (Ls : List Name) (k : Nat) : O := r.rc Ls (if (pdd r k).isNone then .ready else .done) (pdd r k)
def wFam (r : Lp) (Ls : List Name) (k : Nat) : List O := .box [.yld (Ls.getD 1 [])] :: recP r (Ls.drop 2) k :: r.fam (Ls.drop 2) k
noncomputable def wLp (r : Lp) (en : Name → List E) (cd : Array Tmp × Code × Code) (n base w : Nat) (vals : Nat → List D) : Lp where
 m := r.m + 2
 env := fun Ls => en (Ls.getD 0 [])
 fam := fun Ls s => wFam r Ls (min (base + s * w) r.e)
 ps := cd.1.toList
 asg := cd.2.1
 body := cd.2.2
 n := n
 vals := vals
 st := fun s => if stopB r (base + (s + 1) * w) then some .ret else none
 fu := r.fu + 2
structure EnOk (en : Name → List E) (ps : List Nat) (vals : Nat → List D) (n : Nat) : Prop where
 ren : ∀ f nm, (en nm).map (E.ren f) = en (f nm)
 nam : ∀ nm, namesL ((en nm).map (·.d)) = [nm]
 clo : ∀ dom nm, dom nm = true → D.closL dom ((en nm).map (·.d)) = true
 psz : ∀ nm, (ps.all fun p => decide (p < (en nm).length)) = true
 args : ∀ s, (vals s).length = ps.length
 vnam : ∀ s, namesL (vals s) = []
 vcl : ∀ s dom, D.closL dom (vals s) = true
 vren : ∀ s f, D.renL f (vals s) = vals s
 inj : ∀ s s', s < n → s' < n → vals s = vals s' → s = s'
theorem names2 {Ls : List Name} {m : Nat} (h : Ls.length = m + 2) : ∃ a b xs, Ls = a :: b :: xs ∧ xs.length = m := by
 match Ls, h with
 | a :: b :: xs, h => exact ⟨a, b, xs, rfl, by simpa using h⟩
theorem wFam_len {r : Lp} (hr : r.Ok) {Ls : List Name} (h : Ls.length = r.m + 2) (k : Nat) : (wFam r Ls k).length = r.m + 2 := by
 obtain ⟨a, b, xs, rfl, hx⟩ := names2 h
 simp only [wFam, List.length_cons, List.drop_succ_cons, List.drop_zero, hr.len xs k hx]
theorem wLp_ok {r : Lp} (hr : r.Ok) (hfu : r.fu ≤ 1900) {en : Name → List E} {cd : Array Tmp × Code × Code} {n base w : Nat} {vals : Nat → List D} (he : EnOk en cd.1.toList vals n) : (wLp r en cd n base w vals).Ok where
 len := fun Ls s h => wFam_len hr h _
 renE := fun f Ls h => by
  obtain ⟨a, b, xs, rfl, hx⟩ := names2 h
  exact he.ren f a
 renF := fun f Ls s h => by
  obtain ⟨a, b, xs, rfl, hx⟩ := names2 h
  show (wFam r (a :: b :: xs) _).map (O.ren f) = wFam r (f a :: f b :: xs.map f) _
  simp only [wFam, List.map_cons, O.ren, D.renL, D.ren, List.getD_cons_succ, List.getD_cons_zero, List.drop_succ_cons, List.drop_zero, hr.renF f xs _ hx, recP, Lp.rc, hr.renE f xs hx]
 reach := fun Ls s obj acc k h hn hd hF => by
  obtain ⟨a, b, xs, rfl, hx⟩ := names2 h
  show reachL obj (k + (r.fu + 2)) (namesL ((en a).map (·.d))) acc = _
  obtain ⟨h1, h2, h3⟩ := (show objAll obj (a :: b :: xs) (wFam r (a :: b :: xs) (min (base + s * w) r.e)) from hF)
  simp only [List.getD_cons_succ, List.getD_cons_zero, List.drop_succ_cons, List.drop_zero] at h1 h2 h3
  rw [List.nodup_cons, List.nodup_cons] at hn
  rw [he.nam, show k + (r.fu + 2) = (k + r.fu + 1) + 1 by omega, reachL_new (hd a (by simp)) h1]
  have hb : b ∉ acc ++ [a] := by
   simp only [List.mem_append, List.mem_singleton, not_or]
   exact ⟨hd b (by simp), fun e => hn.1 (by simp [e])⟩
  show reachL obj (k + r.fu + 1) [b] _ = _
  rw [reachL_new hb h2]
  have hnm : namesO (recP r xs (min (base + s * w) r.e)) = namesL ((r.env xs).map (·.d)) := rfl
  rw [hnm, List.append_nil, hr.reach xs _ obj (acc ++ [a] ++ [b]) k hx hn.2.2 (fun x hx' => by
   simp only [List.mem_append, List.mem_singleton, not_or]
   exact ⟨⟨hd x (by simp [hx']), fun e => hn.1 (by simp [← e, hx'])⟩, fun e => hn.2.1 (by rw [← e]; exact hx')⟩) h3]
  simp
 closE := fun dom Ls h hd => by
  obtain ⟨a, b, xs, rfl, hx⟩ := names2 h
  exact he.clo dom a (hd a (by simp))
 closF := fun dom Ls s h hd o ho => by
  obtain ⟨a, b, xs, rfl, hx⟩ := names2 h
  have hdx : ∀ x ∈ xs, dom x = true := fun x hx' => hd x (by simp [hx'])
  simp only [wLp, wFam, List.getD_cons_succ, List.getD_cons_zero, List.drop_succ_cons, List.drop_zero, List.mem_cons] at ho
  rcases ho with rfl | rfl | ho
  ·simp [O.clos, D.closL, D.clos, hd b (by simp)]
  ·exact hr.closE dom xs hx hdx
  ·exact hr.closF dom xs _ hx hdx o ho
 psz := fun Ls h => he.psz _
 args := he.args
 fuel := (show r.fu + 2 ≤ 2000 by omega)
 vnam := he.vnam
 vcl := he.vcl
 vren := he.vren
 inj := he.inj
theorem w_live {r : Lp} {en : Name → List E} {cd : Array Tmp × Code × Code} {n base w : Nat} {vals : Nat → List D} (hb : live r base) (hn : base + n * w ≤ r.n) {s : Nat} (hs : s ≤ n) (h : ∀ j, j < s → (wLp r en cd n base w vals).st j = none) : live r (base + s * w) := by
 cases s with
 | zero => simpa using hb
 | succ s =>
  have h1 : (if stopB r (base + (s + 1) * w) then some Code.ret else none) = none := h s (by omega)
  have h2 : stopB r (base + (s + 1) * w) = false := by
   cases hst : stopB r (base + (s + 1) * w) with
   | false => rfl
   | true => rw [hst] at h1; cases h1
  refine go_live (Nat.le_trans (Nat.add_le_add_left (Nat.mul_le_mul_right w hs) base) hn) h2
theorem w_end {r : Lp} {en : Name → List E} {cd : Array Tmp × Code × Code} {n base w : Nat} {vals : Nat → List D} (hb : live r base) (Ls : List Name) :
  (wLp r en cd n base w vals).fam Ls (wLp r en cd n base w vals).e = wFam r Ls (min (base + n * w) r.e) ∧ (wLp r en cd n base w vals).pd = if stopB r (base + n * w) then some .ret else none := by
 rcases e_cases (wLp r en cd n base w vals) with ⟨h1, h2, h3⟩ | ⟨s, h1, h2, h3, h4, _⟩
 ·refine ⟨by rw [h1]; rfl, ?_⟩
  rw [h2]
  have : stopB r (base + n * w) = false := by
   cases n with
   | zero => simpa using live_go hb
   | succ k =>
    have h5 : (if stopB r (base + (k + 1) * w) then some Code.ret else none) = none := h3 k (by show k < k + 1; omega)
    cases hst : stopB r (base + (k + 1) * w) with
    | false => rfl
    | true => rw [hst] at h5; cases h5
  rw [this]
  rfl
 ·have hst : (wLp r en cd n base w vals).st s = if stopB r (base + (s + 1) * w) then some Code.ret else none := rfl
  have h5 : stopB r (base + (s + 1) * w) = true := by
   cases hx : stopB r (base + (s + 1) * w) with
   | true => rfl
   | false => rw [hst, hx] at h4; cases h4
  have h1' : s < n := h1
  have h6 : base + (s + 1) * w ≤ base + n * w := Nat.add_le_add_left (Nat.mul_le_mul_right w (by omega)) base
  obtain ⟨h7, h8⟩ := stop_iff.1 h5
  have h9 : stopB r (base + n * w) = true := stop_iff.2 ⟨by omega, h8⟩
  refine ⟨?_, by rw [h3, hst, h5, h9]⟩
  rw [h2]
  show wFam r Ls (min (base + (s + 1) * w) r.e) = _
  rw [Nat.min_eq_right h7, Nat.min_eq_right (by omega)]
@[go_sem] theorem ta150 : tAgg Tryz.prog 150 = some (true, 9) := by kernel_rfl
@[go_sem] theorem tr150 : tArr Tryz.prog 150 = some (3, 3, true) := by kernel_rfl
@[go_sem] theorem tp150 : tPlaces Tryz.prog 150 = some [(0, 3), (3, 3), (6, 3)] := by kernel_rfl
@[go_sem] theorem tz150 : tZero Tryz.prog 150 = some (.agg #[(.int .i64 0), (.int .i64 0), (.bool false), (.int .i64 0), (.int .i64 0), (.bool false), (.int .i64 0), (.int .i64 0), (.bool false)]) := by kernel_rfl
@[go_sem] theorem ta152 : tAgg Tryz.prog 152 = some (true, 15) := by kernel_rfl
@[go_sem] theorem tp152 : tPlaces Tryz.prog 152 = some [(0, 3), (3, 3), (6, 9)] := by kernel_rfl
@[go_sem] theorem tz152 : tZero Tryz.prog 152 = some (.agg #[(.int .i64 0), (.int .i64 0), (.int .i64 0), (.int .i64 0), (.int .i64 0), (.int .i64 0), (.int .i64 0), (.int .i64 0), (.bool false), (.int .i64 0), (.int .i64 0), (.bool false), (.int .i64 0), (.int .i64 0), (.bool false)]) := by kernel_rfl
@[go_sem] theorem tf152_0 : tField Tryz.prog 152 0 = some (0, 3, true) := by kernel_rfl
@[go_sem] theorem tf152_1 : tField Tryz.prog 152 1 = some (3, 3, true) := by kernel_rfl
@[go_sem] theorem tf152_2 : tField Tryz.prog 152 2 = some (6, 9, true) := by kernel_rfl
@[go_sem] theorem ta51 : tAgg Tryz.prog 51 = some (true, 3) := by kernel_rfl
@[go_sem] theorem tr51 : tArr Tryz.prog 51 = some (3, 1, false) := by kernel_rfl
@[go_sem] theorem tp51 : tPlaces Tryz.prog 51 = some [(0, 1), (1, 1), (2, 1)] := by kernel_rfl
@[go_sem] theorem tz51 : tZero Tryz.prog 51 = some (.agg #[(.int .i64 0), (.int .i64 0), (.int .i64 0)]) := by kernel_rfl
@[go_sem] theorem ta198 : tAgg Tryz.prog 198 = some (false, 1) := by kernel_rfl
def rngIn (c : Code) : Array Tmp × Code × Code := (rngD c).getD (#[], .skip, .skip)
noncomputable def cdA : Array Tmp × Code × Code := rngOf Tryz.f177
noncomputable def cdB : Array Tmp × Code × Code := rngIn (rngOf Tryz.f177).2.2
noncomputable def cdC : Array Tmp × Code × Code := rngIn (rngIn (rngOf Tryz.f177).2.2).2.2
def wayD (a b c : Nat) (x y z : Sta) : D := .agg [.v (vInt a), .v (vInt b), .v (vInt c), .v (vInt 0), .v (vInt 0), .v (vInt 0), .v (vInt x.h), .v (vInt x.n), .v (.bool x.o), .v (vInt y.h), .v (vInt y.n), .v (.bool y.o), .v (vInt z.h), .v (vInt z.n), .v (.bool z.o)]
def staP (x : Sta) : V := .ptr [vInt x.h, vInt x.n, .bool x.o]
def enC (c : List Deed) (day : Int) (a b : Nat) (x y : Sta) (cl : V) (nm : Name) : List E :=
 (List.range 45).map (ofL eAny [(1, ⟨true, .v (.ptr [.sl (c.map encD), vInt day])⟩), (2, ⟨true, .ref nm 0⟩), (3, ⟨true, .v (.ptr [vInt a])⟩), (4, ⟨true, .v (staP x)⟩), (5, ⟨true, .v (.ptr [vInt b])⟩), (6, ⟨true, .v (staP y)⟩), (30, ⟨true, .v cl⟩)])
theorem enC_ok (c : List Deed) (day : Int) (a b : Nat) (x y : Sta) (cl : V) (t : List Deed) : EnOk (enC c day a b x y cl) cdC.1.toList (stVals t day) (mayN t day).length where
 ren := fun f nm => rfl
 nam := fun nm => rfl
 clo := fun dom nm h => by simp [enC, List.range, List.range.loop, ofL, D.closL, D.clos, eAny, h]
 psz := fun nm => by rfl
 args := fun s => by rfl
 vnam := fun _ => rfl
 vcl := fun _ _ => rfl
 vren := fun _ _ => rfl
 inj := stVals_inj
theorem setLs_cong {x : Name} : ∀ {Ls : List Name} {F : List O} {A B : Name → Option O}, A x = B x → setLs Ls F A x = setLs Ls F B x
 | [], _, _, _, h => by simpa [setLs] using h
 | _ :: _, [], _, _, h => by simpa [setLs] using h
 | y :: ys, f :: fs, A, B, h => by
  simp only [setLs]
  exact setLs_cong (upd_cong h)
def X2 (m : Nat) : List Name := (LR (m + 2)).drop 2
theorem LR2 (m : Nat) : LR (m + 2) = [0, 1] :: [1, 1] :: X2 m := by
 unfold X2
 have h : 0 < (LR (m + 2)).length := by simp [LR]
 have h1 : 1 < (LR (m + 2)).length := by simp [LR]
 have e : LR (m + 2) = (LR (m + 2))[0] :: (LR (m + 2))[1] :: (LR (m + 2)).drop 2 := by
  rw [← List.drop_eq_getElem_cons h1, ← List.drop_eq_getElem_cons h, List.drop_zero]
 have e0 : (LR (m + 2))[0] = [0, 1] := by simp [LR]
 have e1 : (LR (m + 2))[1] = [1, 1] := by simp [LR]
 rw [e0, e1] at e
 exact e
theorem X2_len (m : Nat) : (X2 m).length = m := by simp [X2, LR]
theorem X2_nodup (m : Nat) : ([0, 1] : Name) ≠ [1, 1] ∧ [0, 1] ∉ X2 m ∧ [1, 1] ∉ X2 m ∧ (X2 m).Nodup := by
 have h := LR_nodup (m + 2)
 rw [LR2, List.nodup_cons, List.nodup_cons] at h
 exact ⟨by decide, fun h' => h.1 (List.mem_cons_of_mem _ h'), h.2.1, h.2.2⟩
theorem X2_out {m : Nat} {x : Name} (h : x ∈ X2 m) : isOut x = true := by
 have h1 : x ∈ LR (m + 2) := List.mem_of_mem_drop h
 obtain ⟨i, _, rfl⟩ := List.mem_map.1 h1
 rfl
theorem outH_all {F : List O} : objAll (outH F) (LR F.length) F := by
 rw [objAll_iff]
 refine List.ext_getElem (by simp [LR]) fun i h1 h2 => ?_
 have h3 : i < F.length := by simpa using h2
 simp only [List.getElem_map, LR, List.getElem_range, outH]
 exact List.getElem?_eq_getElem h3
set_option maxHeartbeats 4000000 in
theorem wC_y {r : Lp} (hr : r.Ok) (hfu : r.fu ≤ 1900) (hy : SSound Tryz.prog yid r.y.toSpec) (c : List Deed) (day : Int) (a b : Nat) (x y : Sta) (cl : V) (t : List Deed) {base : Nat} (hb : live r base) (hn : base + (mayN t day).length * 1 ≤ r.n)
  (hv : ∀ l, l < (mayN t day).length → r.vals (base + l) = [wayD a b ((mayN t day).getD l 0) x y (stA t ((mayN t day).getD l 0))]) :
  SSound Tryz.prog yid (wLp r (enC c day a b x y cl) cdC (mayN t day).length base 1 (stVals t day)).y.toSpec := by
 refine Lp.y_sound (wLp_ok hr hfu (enC_ok c day a b x y cl t)) fun l hl hj => ?_
 have hl' : l < (mayN t day).length := hl
 have hlv := w_live hb hn (Nat.le_of_lt hl') hj
 have hln : base + l * 1 < r.n := by omega
 have hmin := Nat.min_eq_left (live_e hlv)
 obtain ⟨hnx1, hnx2⟩ := live_next hlv hln
 have hk0 : base + l = base + l * 1 := by omega
 have hk1' : base + (l + 1) * 1 = base + l * 1 + 1 := by omega
 have hvk := hv l hl'
 rw [hk0] at hvk
 have hst0 : ∀ s, (wLp r (enC c day a b x y cl) cdC (mayN t day).length base 1 (stVals t day)).st s = if stopB r (base + (s + 1) * 1) then some .ret else none := fun _ => rfl
 have hfm0 : ∀ Ls s, (wLp r (enC c day a b x y cl) cdC (mayN t day).length base 1 (stVals t day)).fam Ls s = wFam r Ls (min (base + s * 1) r.e) := fun _ _ => rfl
 obtain ⟨k, hk2⟩ : ∃ k, base + l * 1 = k := ⟨_, rfl⟩
 rw [hk2] at hlv hln hmin hnx1 hnx2 hk1' hvk
 obtain ⟨n, hn'⟩ : ∃ n, n = (mayN t day).getD l 0 := ⟨_, rfl⟩
 rw [← hn'] at hvk
 have hst : (wLp r (enC c day a b x y cl) cdC (mayN t day).length base 1 (stVals t day)).st l = if (r.st k).isSome then some .ret else none := by
  rw [hst0, hk1']
  unfold stopB
  rw [hnx1, hnx2]
 have hf1 : (wLp r (enC c day a b x y cl) cdC (mayN t day).length base 1 (stVals t day)).fam (LR (r.m + 2)) (l + 1) = wFam r (LR (r.m + 2)) (k + 1) := by
  rw [hfm0, hk1', hnx1]
 have hf0 : (wLp r (enC c day a b x y cl) cdC (mayN t day).length base 1 (stVals t day)).fam (LR (r.m + 2)) l = wFam r (LR (r.m + 2)) k := by
  rw [hfm0, hk2, hmin]
 have hvl : (wLp r (enC c day a b x y cl) cdC (mayN t day).length base 1 (stVals t day)).vals l = [.v (vInt n), .v (encS (stA t n))] := by rw [hn']; rfl
 have hm : (wLp r (enC c day a b x y cl) cdC (mayN t day).length base 1 (stVals t day)).m = r.m + 2 := rfl
 rw [hm, hf0, hf1, hst, hvl]
 have hpk : pdd r k = none := live_pd hlv
 clear hf0 hf1 hst hvl hm hmin hnx1 hj hst0 hfm0
 obtain ⟨hX1, hX2, hX3, hX4⟩ := X2_nodup r.m
 have hXl := X2_len r.m
 have hF : objAll (outH (wFam r (LR (r.m + 2)) k)) (LR (r.m + 2)) (wFam r (LR (r.m + 2)) k) := by
  have := outH_all (F := wFam r (LR (r.m + 2)) k)
  rwa [wFam_len hr (LR_len _)] at this
 have hO : ∀ hs, OutC [0] (domOf [0] hs) (outH (wFam r (LR (r.m + 2)) k)) = True := fun hs => eq_true (outC_outs (fun o ho dom hd => (wLp_ok (n := (mayN t day).length) (base := k) (w := 0) hr hfu (enC_ok c day a b x y cl t)).closF dom (LR (r.m + 2)) 0 (LR_len _) (fun x hx => by
  obtain ⟨i, _, rfl⟩ := List.mem_map.1 hx
  exact hd i) o (by
   show o ∈ wFam r _ (min k r.e)
   rw [Nat.min_eq_left (live_e hlv)]; exact ho)) hs)
 generalize outH (wFam r (LR (r.m + 2)) k) = H at hF hO ⊢
 have hen : (wLp r (enC c day a b x y cl) cdC (mayN t day).length base 1 (stVals t day)).env (LR (r.m + 2)) = enC c day a b x y cl [0, 1] := by
  show enC c day a b x y cl ((LR (r.m + 2)).getD 0 []) = _
  rw [LR2]
  rfl
 have hcd : cdC = (_, _, _) := rfl
 have hps : (wLp r (enC c day a b x y cl) cdC (mayN t day).length base 1 (stVals t day)).ps = [31, 32] := rfl
 have hasg : (wLp r (enC c day a b x y cl) cdC (mayN t day).length base 1 (stVals t day)).asg = cdC.2.1 := rfl
 have hbody : (wLp r (enC c day a b x y cl) cdC (mayN t day).length base 1 (stVals t day)).body = cdC.2.2 := rfl
 have hwf : wFam r (LR (r.m + 2)) k = .box [.yld [1, 1]] :: r.rc (X2 r.m) .ready none :: r.fam (X2 r.m) k := by
  rw [LR2]
  simp only [wFam, recP, hpk, List.getD_cons_succ, List.getD_cons_zero, List.drop_succ_cons, List.drop_zero]
  rfl
 have hwf1 : wFam r (LR (r.m + 2)) (k + 1) = .box [.yld [1, 1]] :: r.rc (X2 r.m) (if (r.st k).isNone then .ready else .done) (r.st k) :: r.fam (X2 r.m) (k + 1) := by
  rw [LR2]
  simp only [wFam, recP, hnx2, List.getD_cons_succ, List.getD_cons_zero, List.drop_succ_cons, List.drop_zero]
 rw [hen, hps, hasg, hbody, hwf1, hcd]
 dsimp only
 rw [hwf, LR2] at hF
 obtain ⟨hH0, hH1, hHX⟩ := hF
 have hXo : ∀ x ∈ X2 r.m, own [0] x = false := fun x hx => by
  obtain ⟨i, rfl⟩ := isOut_iff.1 (X2_out hx)
  exact own_out01 i
 have hyd : ∀ (G : Name → Option O) (tm : Name), r.y.toSpec.app (fun nm => if own [0] nm = true then G nm else H nm) tm (.yld [1, 1] :: [wayD a b n x y (stA t n)]) =
   ⟨True, .v (.bool (r.st k).isNone), upd (setLs (X2 r.m) (r.fam (X2 r.m) (k + 1)) (fun nm => if own [0] nm = true then G nm else H nm)) [1, 1] (some (r.rc (X2 r.m) (if (r.st k).isNone then .ready else .done) (r.st k)))⟩ := by
  intro G tm
  rw [← hvk]
  exact Lp.y_app hr hln hlv.2 hXl hX4 hX3 (by simp only [own_out01, Bool.false_eq_true, if_false]; exact hH1) (objAll_agr hHX fun x hx => by simp only [hXo x hx, Bool.false_eq_true, if_false])
 generalize hrec : r.rc (X2 r.m) (if (r.st k).isNone then .ready else .done) (r.st k) = o1 at hyd ⊢
 generalize hfam : r.fam (X2 r.m) (k + 1) = F1 at hyd ⊢
 have hFl : (X2 r.m).length = F1.length := by rw [← hfam, hr.len _ _ hXl, hXl]
 have hcF : ∀ dom : Name → Bool, (∀ x ∈ X2 r.m, dom x = true) → ∀ o ∈ F1, O.clos dom o = true := by
  rw [← hfam]
  exact fun dom hd => hr.closF _ _ _ hXl hd
 have hO1 : ∀ (G : Name → Option O) hs, OutC [0] (domOf [0] hs) (upd (setLs (X2 r.m) F1 (fun nm => if own [0] nm = true then G nm else H nm)) [1, 1] (some o1)) = True := by
  intro G hs
  refine eq_true fun nm o hn ho => ?_
  have hdX : ∀ x ∈ X2 r.m, domOf [0] hs x = true := fun x hx => by simp [domOf, hXo x hx]
  by_cases e1 : nm = [1, 1]
  ·subst e1
   rw [upd_same] at ho
   cases ho
   rw [← hrec]
   exact hr.closE _ _ hXl hdX
  ·rw [upd_ne _ _ _ e1] at ho
   by_cases e2 : nm ∈ X2 r.m
   ·obtain ⟨i, hi, rfl⟩ := List.getElem_of_mem e2
    have := objAll_get (setLs_all (obj := fun nm => if own [0] nm = true then G nm else H nm) hX4 hFl) i hi (by omega)
    rw [this] at ho
    cases ho
    exact hcF _ hdX _ (List.getElem_mem (by omega))
   ·rw [setLs_ne e2] at ho
    simp only [hn, Bool.false_eq_true, if_false] at ho
    exact ((hO hs).symm ▸ trivial : OutC [0] (domOf [0] hs) H) nm o hn ho
 have hmk : ∀ (G : Name → Option O) l h, mkS 45 [0] (upd (setLs (X2 r.m) F1 (fun nm => if own [0] nm = true then G nm else H nm)) [1, 1] (some o1)) l h = mkS 45 [0] (upd (setLs (X2 r.m) F1 H) [1, 1] (some o1)) l h := by
  intro G l h
  exact mkS_same fun nm hn => upd_cong (setLs_cong (by simp [hn]))
 have hend : ∀ (l : List (Nat × E)) , objAll (mkS 45 [0] (upd (setLs (X2 r.m) F1 H) [1, 1] (some o1)) l []).obj (LR (r.m + 2)) (.box [.yld [1, 1]] :: o1 :: F1) := by
  intro l
  rw [LR2]
  have hob : ∀ x, own [0] x = false → (mkS 45 [0] (upd (setLs (X2 r.m) F1 H) [1, 1] (some o1)) l []).obj x = upd (setLs (X2 r.m) F1 H) [1, 1] (some o1) x := fun x hx => by simp [mkS, hx]
  refine ⟨?_, ?_, objAll_agr (setLs_all (obj := H) hX4 hFl) fun x hx => ?_⟩
  ·rw [hob _ (own_out01 0), upd_ne _ _ _ hX1, setLs_ne hX2]; exact hH0
  ·rw [hob _ (own_out01 1), upd_same]
  ·rw [hob _ (hXo x hx), upd_ne _ _ _ (fun e => hX3 (by rw [← e]; exact hx))]
 generalize hsn : stA t n = z at hyd ⊢
 clear hvk hn' hsn
 obtain ⟨x1, x2, x3⟩ := x
 obtain ⟨y1, y2, y3⟩ := y
 obtain ⟨z1, z2, z3⟩ := z
 simp only [wayD, encS] at hyd ⊢
 obtain ⟨Γ, hΓ, hΓy⟩ : ∃ Γ : FuncId → Option Spec, (∀ f s, Γ f = some s → SSound Tryz.prog f s) ∧ Γ 1000000000 = some r.y.toSpec := by
  refine ⟨fun f => match f with | 1000000000 => some r.y.toSpec | _ => none, ?_, rfl⟩
  intro f s h
  dsimp only at h
  split at h
  ·cases h; exact hy
  ·cases h
 refine cw_weak (weak_to 45 [0] H [(2, ⟨true, .ref [0, 1] 0⟩), (3, ⟨true, .v (.ptr [vInt a])⟩), (4, ⟨true, .v (.ptr [vInt x1, vInt x2, .bool x3])⟩), (5, ⟨true, .v (.ptr [vInt b])⟩), (6, ⟨true, .v (.ptr [vInt y1, vInt y2, .bool y3])⟩), (31, ⟨true, .v (vInt n)⟩), (32, ⟨true, .v (.agg [vInt z1, vInt z2, .bool z3])⟩)] [] rfl rfl (fun _ _ => rfl) ?_ (by simp) ?_ ?_) ?_
 ·intro q hq
  simp only [List.mem_cons, List.not_mem_nil, or_false] at hq
  rcases hq with rfl | rfl | rfl | rfl | rfl | rfl | rfl <;> rfl
 ·simp [D.clos, domOf, own]
 ·rw [hO]; trivial
 refine cl_of ?_
 repeat refine sq ?_
 refine cl_rs hΓ [2,3,4,5,6,7,32] [] fun K' hK => ?_
 simp only [go_sem, hO]
 repeat refine ⟨ob, ?_⟩
 refine hK _ ?_ ?_ <;> clear K' hK <;> simp only [go_sem, hO]
 refine cl_r hΓ fun K' hK => ?_
 simp only [go_sem, tp137, tz137]
 refine ⟨Nat.le_refl _, ?_⟩
 refine hK _ ?_
 clear K' hK
 refine (cw_keep [2, 3, 4, 5, 6, 7, 8] [[8, 0]] ?_ ?_ : CW _ _ _ _)
 ·simp only [go_sem, hO]
 refine cl_of ?_
 simp only [go_sem]
 refine cl_block ?_
 repeat refine sq ?_
 refine cl_rs hΓ [44] [] fun K' hK => ?_
 simp only [go_sem, hO, hH0, hΓy, hyd, tz51, tp51, tz150, tp150, tz152, tp152, tp137, Nat.reduceLeDiff, Nat.le_refl, hO1, hmk]
 repeat refine ⟨ob, ?_⟩
 refine hK _ ?_ ?_ <;> clear K' hK <;> simp only [go_sem, hO, hH0, hΓy, hyd, tz51, tp51, tz150, tp150, tz152, tp152, tp137, Nat.reduceLeDiff, Nat.le_refl, hO1, hmk]
 have hns : (r.st k).isSome = !(r.st k).isNone := by cases r.st k <;> rfl
 repeat refine sq ?_
 refine cl_cond rfl rfl (fun hb => ?_) fun hb => ?_
 ·refine cl_ret ?_
  show retL _ _ _ .ret _
  exact ⟨by rw [hns, hb]; rfl, hend _⟩
 ·refine cl_skip ?_
  refine cl_nil ?_
  simp only [blockK, thenK]
  refine cl_nil ?_
  exact ⟨by rw [hns, hb]; rfl, hend _⟩
theorem out_ne {m i : Nat} : ([i, 0] : Name) ∉ LR m := fun h => by
 obtain ⟨j, _, hj⟩ := List.mem_map.1 h
 simp at hj
theorem objAll_set {Ls : List Name} {F : List O} {obj : Name → Option O} {R : Name} {o : Option O} (hn : Ls.Nodup) (hl : Ls.length = F.length) (hR : R ∉ Ls) : objAll (upd (setLs Ls F obj) R o) Ls F :=
 objAll_agr (setLs_all hn hl) fun x hx => upd_ne _ _ _ (by rintro rfl; exact hR hx)
theorem w_st {r : Lp} {en : Name → List E} {cd : Array Tmp × Code × Code} {n base w : Nat} {vals : Nat → List D} (s : Nat) : (wLp r en cd n base w vals).st s = if stopB r (base + (s + 1) * w) then some .ret else none := rfl
theorem w_fam {r : Lp} {en : Name → List E} {cd : Array Tmp × Code × Code} {n base w : Nat} {vals : Nat → List D} (Ls : List Name) (s : Nat) : (wLp r en cd n base w vals).fam Ls s = wFam r Ls (min (base + s * w) r.e) := rfl
theorem w_env {r : Lp} {en : Name → List E} {cd : Array Tmp × Code × Code} {n base w : Nat} {vals : Nat → List D} : (wLp r en cd n base w vals).env (LR (r.m + 2)) = en [0, 1] := by
 show en ((LR (r.m + 2)).getD 0 []) = _
 rw [LR2]
 rfl
theorem wFam_out {r : Lp} (hr : r.Ok) (k : Nat) : ∀ hs, OutC [0] (domOf [0] hs) (outH (wFam r (LR (r.m + 2)) k)) = True := fun hs => eq_true (outC_outs (fun o ho dom hd => by
 have hdL : ∀ x ∈ LR (r.m + 2), dom x = true := fun x hx => by
  obtain ⟨i, _, rfl⟩ := List.mem_map.1 hx
  exact hd i
 rw [LR2] at ho hdL
 simp only [wFam, List.getD_cons_succ, List.getD_cons_zero, List.drop_succ_cons, List.drop_zero, List.mem_cons] at ho
 have hdx : ∀ x ∈ X2 r.m, dom x = true := fun x hx => hdL x (by simp [hx])
 rcases ho with rfl | rfl | ho
 ·simp [O.clos, D.closL, D.clos, hd]
 ·exact hr.closE dom _ (X2_len _) hdx
 ·exact hr.closF dom _ _ (X2_len _) hdx o ho) hs)
theorem wFam_all {r : Lp} (hr : r.Ok) (k : Nat) : objAll (outH (wFam r (LR (r.m + 2)) k)) (LR (r.m + 2)) (wFam r (LR (r.m + 2)) k) := by
 have := outH_all (F := wFam r (LR (r.m + 2)) k)
 rwa [wFam_len hr (LR_len _)] at this
theorem wayT (c : List Deed) (l : Int) (hl : c.length ≤ 60) (hk : ∀ d ∈ c, kindOk d) : (thrL c l 0).length ≤ 60 ∧ ∀ d ∈ thrL c l 0, kindOk d :=
 ⟨Nat.le_trans (List.length_filter_le _ _) hl, fun d hd => hk d (List.mem_filter.1 hd).1⟩
def cloT (c : List Deed) (l day : Int) : V := .clo (.func 165) [] [.ptr [.sl ((thrL c l 0).map encD)], .ptr [vInt day]]
def nT (c : List Deed) (l day : Int) : Nat := (mayN (thrL c l 0) day).length
def kT (c : List Deed) (l day : Int) (i : Nat) : Nat := (mayN (thrL c l 0) day).getD i 0
def sT (c : List Deed) (l day : Int) (i : Nat) : Sta := stA (thrL c l 0) (kT c l day i)
def vT (c : List Deed) (l day : Int) : Nat → List D := stVals (thrL c l 0) day
def enB (c : List Deed) (day : Int) (a : Nat) (x : Sta) (cl : V) (nm : Name) : List E :=
 (List.range 45).map (ofL eAny [(1, ⟨true, .v (.ptr [.sl (c.map encD), vInt day])⟩), (2, ⟨true, .ref nm 0⟩), (3, ⟨true, .v (.ptr [vInt a])⟩), (4, ⟨true, .v (staP x)⟩), (22, ⟨true, .v cl⟩)])
def enA (c : List Deed) (day : Int) (cl : V) (nm : Name) : List E :=
 (List.range 45).map (ofL eAny [(1, ⟨true, .v (.ptr [.sl (c.map encD), vInt day])⟩), (2, ⟨true, .ref nm 0⟩), (14, ⟨true, .v cl⟩)])
theorem enB_ok (c : List Deed) (day : Int) (a : Nat) (x : Sta) (cl : V) (l : Int) : EnOk (enB c day a x cl) cdB.1.toList (vT c l day) (nT c l day) where
 ren := fun f nm => rfl
 nam := fun nm => rfl
 clo := fun dom nm h => by simp [enB, List.range, List.range.loop, ofL, D.closL, D.clos, eAny, h]
 psz := fun nm => by rfl
 args := fun s => by rfl
 vnam := fun _ => rfl
 vcl := fun _ _ => rfl
 vren := fun _ _ => rfl
 inj := stVals_inj
theorem enA_ok (c : List Deed) (day : Int) (cl : V) (l : Int) : EnOk (enA c day cl) cdA.1.toList (vT c l day) (nT c l day) where
 ren := fun f nm => rfl
 nam := fun nm => rfl
 clo := fun dom nm h => by simp [enA, List.range, List.range.loop, ofL, D.closL, D.clos, eAny, h]
 psz := fun nm => by rfl
 args := fun s => by rfl
 vnam := fun _ => rfl
 vcl := fun _ _ => rfl
 vren := fun _ _ => rfl
 inj := stVals_inj
noncomputable def LC (r : Lp) (c : List Deed) (day : Int) (a b : Nat) (x y : Sta) (base : Nat) : Lp := wLp r (enC c day a b x y (cloT c 3 day)) cdC (nT c 3 day) base 1 (vT c 3 day)
noncomputable def LB (r : Lp) (c : List Deed) (day : Int) (a : Nat) (x : Sta) (base : Nat) : Lp := wLp r (enB c day a x (cloT c 2 day)) cdB (nT c 2 day) base (nT c 3 day) (vT c 2 day)
noncomputable def LA (r : Lp) (c : List Deed) (day : Int) (base : Nat) : Lp := wLp r (enA c day (cloT c 1 day)) cdA (nT c 1 day) base (nT c 2 day * nT c 3 day) (vT c 1 day)
theorem LC_ok {r : Lp} (hr : r.Ok) (hfu : r.fu ≤ 1900) (c : List Deed) (day : Int) (a b : Nat) (x y : Sta) (base : Nat) : (LC r c day a b x y base).Ok := wLp_ok hr hfu (enC_ok c day a b x y _ _)
theorem LB_ok {r : Lp} (hr : r.Ok) (hfu : r.fu ≤ 1900) (c : List Deed) (day : Int) (a : Nat) (x : Sta) (base : Nat) : (LB r c day a x base).Ok := wLp_ok hr hfu (enB_ok c day a x _ 2)
theorem LA_ok {r : Lp} (hr : r.Ok) (hfu : r.fu ≤ 1900) (c : List Deed) (day : Int) (base : Nat) : (LA r c day base).Ok := wLp_ok hr hfu (enA_ok c day _ 1)
theorem LC_y {r : Lp} (hr : r.Ok) (hfu : r.fu ≤ 1900) (hy : SSound Tryz.prog yid r.y.toSpec) (c : List Deed) (day : Int) (a b : Nat) (x y : Sta) {base : Nat} (hb : live r base) (hn : base + nT c 3 day * 1 ≤ r.n)
  (hv : ∀ l, l < nT c 3 day → r.vals (base + l) = [wayD a b (kT c 3 day l) x y (sT c 3 day l)]) : SSound Tryz.prog yid (LC r c day a b x y base).y.toSpec :=
 wC_y hr hfu hy c day a b x y _ _ hb hn hv
theorem LC_end {r : Lp} {c : List Deed} {day : Int} {a b : Nat} {x y : Sta} {k : Nat} (hb : live r k) (Ls : List Name) : (LC r c day a b x y k).fam Ls (LC r c day a b x y k).e = wFam r Ls (min (k + nT c 3 day) r.e) ∧ (LC r c day a b x y k).pd = if stopB r (k + nT c 3 day) then some .ret else none := by
 have h : _ ∧ (LC r c day a b x y k).pd = if stopB r (k + nT c 3 day * 1) then some .ret else none := w_end hb Ls
 rw [Nat.mul_one] at h
 exact h
theorem LB_end {r : Lp} {c : List Deed} {day : Int} {a : Nat} {x : Sta} {k : Nat} (hb : live r k) (Ls : List Name) : (LB r c day a x k).fam Ls (LB r c day a x k).e = wFam r Ls (min (k + nT c 2 day * nT c 3 day) r.e) ∧ (LB r c day a x k).pd = if stopB r (k + nT c 2 day * nT c 3 day) then some .ret else none := w_end hb Ls
theorem LA_end {r : Lp} {c : List Deed} {day : Int} {k : Nat} (hb : live r k) (Ls : List Name) : (LA r c day k).fam Ls (LA r c day k).e = wFam r Ls (min (k + nT c 1 day * (nT c 2 day * nT c 3 day)) r.e) ∧ (LA r c day k).pd = if stopB r (k + nT c 1 day * (nT c 2 day * nT c 3 day)) then some .ret else none := w_end hb Ls
set_option maxHeartbeats 4000000 in
theorem LB_y {r : Lp} (hr : r.Ok) (hfu : r.fu ≤ 1900) (hy : SSound Tryz.prog yid r.y.toSpec) {c : List Deed} (hl60 : c.length ≤ 60) (hkc : ∀ d ∈ c, kindOk d) (day : Int) (a : Nat) (x : Sta) {base : Nat} (hb : live r base) (hn : base + nT c 2 day * (nT c 3 day) ≤ r.n)
  (hv : ∀ j l, j < nT c 2 day → l < nT c 3 day → r.vals (base + j * nT c 3 day + l) = [wayD a (kT c 2 day j) (kT c 3 day l) x (sT c 2 day j) (sT c 3 day l)]) : SSound Tryz.prog yid (LB r c day a x base).y.toSpec := by
 refine Lp.y_sound (LB_ok hr hfu c day a x base) fun s hs hj => ?_
 have hs' : s < nT c 2 day := hs
 have hlv : live r (base + s * (nT c 3 day)) := w_live hb hn (Nat.le_of_lt hs') hj
 have hk1 : base + (s + 1) * (nT c 3 day) = base + s * (nT c 3 day) + (nT c 3 day) := by rw [Nat.add_mul, Nat.one_mul, Nat.add_assoc]
 have hin : base + s * (nT c 3 day) + (nT c 3 day) ≤ r.n := by
  have h1 : (s + 1) * (nT c 3 day) ≤ nT c 2 day * (nT c 3 day) := Nat.mul_le_mul_right _ hs'
  omega
 have hvs := fun l => hv s l hs'
 obtain ⟨k, hk⟩ : ∃ k, base + s * (nT c 3 day) = k := ⟨_, rfl⟩
 rw [hk] at hlv hk1 hin
 have hmin := Nat.min_eq_left (live_e hlv)
 have hst : (LB r c day a x base).st s = if stopB r (k + (nT c 3 day)) then some .ret else none := by
  unfold LB
  rw [w_st, hk1]
 have hf1 : (LB r c day a x base).fam (LR (r.m + 2)) (s + 1) = wFam r (LR (r.m + 2)) (min (k + (nT c 3 day)) r.e) := by
  unfold LB
  rw [w_fam, hk1]
 have hf0 : (LB r c day a x base).fam (LR (r.m + 2)) s = wFam r (LR (r.m + 2)) k := by
  unfold LB
  rw [w_fam, hk, hmin]
 have hvl : (LB r c day a x base).vals s = [.v (vInt (kT c 2 day s)), .v (encS (sT c 2 day s))] := rfl
 have hm : (LB r c day a x base).m = r.m + 2 := rfl
 have hen : (LB r c day a x base).env (LR (r.m + 2)) = enB c day a x (cloT c 2 day) [0, 1] := w_env
 have hcd : cdB = (_, _, _) := rfl
 have hps : (LB r c day a x base).ps = [23, 24] := rfl
 have hasg : (LB r c day a x base).asg = cdB.2.1 := rfl
 have hbody : (LB r c day a x base).body = cdB.2.2 := rfl
 rw [hm, hf0, hf1, hst, hvl, hen, hps, hasg, hbody, hcd]
 dsimp only
 have hvin : ∀ l, l < nT c 3 day → r.vals (k + l) = [wayD a (kT c 2 day s) (kT c 3 day l) x (sT c 2 day s) (sT c 3 day l)] := by
  intro l hl
  rw [← hk]
  exact hvs l hl
 generalize hnb : kT c 2 day s = b at hvin ⊢
 generalize hsb : sT c 2 day s = y at hvin ⊢
 have hiy : SSound Tryz.prog yid (LC r c day a b x y k).y.toSpec := LC_y hr hfu hy c day a b x y hlv (by omega) hvin
 obtain ⟨ht1, ht2⟩ := wayT c 3 hl60 hkc
 have hO := wFam_out hr k
 have hF := wFam_all hr k
 generalize outH (wFam r (LR (r.m + 2)) k) = H at hF hO ⊢
 clear hf0 hf1 hst hvl hen hvs hj hv
 obtain ⟨x1, x2, x3⟩ := x
 obtain ⟨s1, s2, s3⟩ := y
 simp only [encS, staP] at *
 have hth := fun (obj : Name → Option O) (t : Name) (f : List Deed → Int → Int → V) (fl : Bool) (a b : Int) => sLII_app (P := fun l => l.length ≤ 60) (f := f) (fl := fl) (obj := obj) (t := t) (l := c) (k := a) (j := b) hl60
 have hstt := fun (obj : Name → Option O) (tm : Name) (f : List Deed → Int → V) (fl : Bool) => sLI_app (P := fun _ => True) (f := f) (fl := fl) (obj := obj) (t := tm) (l := thrL c 3 0) (k := day) trivial
 obtain ⟨Γ, hΓ, h86, h147, h165⟩ : ∃ Γ : FuncId → Option Spec, (∀ f s, Γ f = some s → SSound Tryz.prog f s) ∧ Γ 86 = some (sLII (fun l => l.length ≤ 60) (fun l lo pe => .sl ((thrL l lo pe).map encD)) false) ∧
   Γ 147 = some (sLI (fun _ => True) (fun l k => .clo (.func 165) [] [.ptr [.sl (l.map encD)], .ptr [vInt k]]) false) ∧ Γ 165 = some ((LC r c day a b ⟨x1, x2, x3⟩ ⟨s1, s2, s3⟩ k).it [.ptr [.sl ((thrL c 3 0).map encD)], .ptr [vInt day]]).toSpec := by
  refine ⟨fun f => match f with | 86 => some (sLII (fun l => l.length ≤ 60) (fun l lo pe => .sl ((thrL l lo pe).map encD)) false) | 147 => some (sLI (fun _ => True) (fun l k => .clo (.func 165) [] [.ptr [.sl (l.map encD)], .ptr [vInt k]]) false) | 165 => some ((LC r c day a b ⟨x1, x2, x3⟩ ⟨s1, s2, s3⟩ k).it [.ptr [.sl ((thrL c 3 0).map encD)], .ptr [vInt day]]).toSpec | _ => none, ?_, rfl, rfl, rfl⟩
  intro f s h
  dsimp only at h
  split at h
  ·cases h; exact s86.sound
  ·cases h; exact s147.sound
  ·cases h; exact iter165 (LC_ok hr hfu c day a b ⟨x1, x2, x3⟩ ⟨s1, s2, s3⟩ k) hiy ht1 ht2 rfl rfl
  ·cases h
 have hP := mixedK
 refine cw_weak (weak_to 45 [0] H [(1, ⟨true, .v (.ptr [.sl (c.map encD), vInt day])⟩), (2, ⟨true, .ref [0, 1] 0⟩), (3, ⟨true, .v (.ptr [vInt a])⟩), (4, ⟨true, .v (.ptr [vInt x1, vInt x2, .bool x3])⟩), (23, ⟨true, .v (vInt b)⟩), (24, ⟨true, .v (.agg [vInt s1, vInt s2, .bool s3])⟩)] [] rfl rfl (fun _ _ => rfl) ?_ (by simp) ?_ ?_) ?_
 ·intro q hq
  simp only [List.mem_cons, List.not_mem_nil, or_false] at hq
  rcases hq with rfl | rfl | rfl | rfl | rfl | rfl <;> rfl
 ·simp [D.clos, domOf, own]
 ·rw [hO]; trivial
 refine cl_of ?_
 repeat refine sq ?_
 refine cl_rs hΓ [1,2,3,4,5,24] [[5, 0]] fun K' hK => ?_
 simp only [go_sem, hO]
 repeat refine ⟨ob, ?_⟩
 refine hK _ ?_ ?_ <;> clear K' hK <;> simp only [go_sem, hO]
 refine cl_r hΓ fun K' hK => ?_
 simp only [go_sem, tp137, tz137]
 refine ⟨Nat.le_refl _, ?_⟩
 refine hK _ ?_
 clear K' hK
 refine (cw_keep [1,2,3,4, 5, 6] [[5, 0], [6, 0]] ?_ ?_ : CW _ _ _ _)
 ·simp only [go_sem, hO]
 simp only [go_sem]
 refine cw_weakM (σ' := mkS 45 [0] H [(1, ⟨true, .v (.ptr [.sl (c.map encD), vInt day])⟩), (2, ⟨true, .ref [0, 1] 0⟩), (3, ⟨true, .v (.ptr [vInt a])⟩), (4, ⟨true, .v (.ptr [vInt x1, vInt x2, .bool x3])⟩), (5, ⟨true, .v (.ptr [vInt b])⟩), (6, ⟨true, .ref [6, 0] 0⟩)] [([6, 0], .box [.v (vInt s1), .v (vInt s2), .v (.bool s3)])]) (weakM_frzk 5 (.ref [5, 0] 0) (by simp only [go_sem]) (by simp only [go_sem]) [1,2,3,4, 5, 6] [[6, 0]] ?_ ?_) ?_
 ·simp only [go_sem, hO]
 ·simp only [go_sem]
 refine cw_weakM (σ' := mkS 45 [0] H [(1, ⟨true, .v (.ptr [.sl (c.map encD), vInt day])⟩), (2, ⟨true, .ref [0, 1] 0⟩), (3, ⟨true, .v (.ptr [vInt a])⟩), (4, ⟨true, .v (.ptr [vInt x1, vInt x2, .bool x3])⟩), (5, ⟨true, .v (.ptr [vInt b])⟩), (6, ⟨true, .v (.ptr [vInt s1, vInt s2, .bool s3])⟩)] []) (weakM_frzk 6 (.ref [6, 0] 0) (by simp only [go_sem]) (by simp only [go_sem]) [1,2,3,4, 5, 6] [] ?_ ?_) ?_
 ·simp only [go_sem, hO]
 ·simp only [go_sem]
 refine cl_of ?_
 refine cl_block ?_
 repeat refine sq ?_
 refine cl_ds hΓ hP [[], [0], [0, 1], [], [3], [0, 1, 2, 3, 4]] [1,2,3,4,5,6,30] [] (by kernel_rfl) fun K' hK => ?_
 simp only [go_sem, hO, h86, h147, hth, hstt]
 repeat refine ⟨ob, ?_⟩
 first | refine ⟨by rfl, ?_⟩ | skip
 refine hK _ ?_ ?_ <;> clear K' hK <;> simp only [go_sem, hO, h86, h147, hth, hstt]
 repeat refine sq ?_
 refine cl_block ?_
 refine cl_iter hΓ (LC_ok hr hfu c day a b ⟨x1, x2, x3⟩ ⟨s1, s2, s3⟩ k) 50 51 (f := 165) (Ls := LR (r.m + 2)) rfl rfl (by decide) h165 rfl (by
  rw [show (LC r c day a b ⟨x1, x2, x3⟩ ⟨s1, s2, s3⟩ k).env (LR (r.m + 2)) = _ from w_env]; rfl) rfl rfl rfl (LR_len _) (LR_nodup _) out_ne (by
  have h0 : ∀ w, min (k + 0 * w) r.e = k := fun w => by rw [Nat.zero_mul]; exact hmin
  show objAll _ _ (wFam r _ (min (k + 0 * _) r.e))
  rw [h0]
  exact objAll_agr hF fun x hx => by
   obtain ⟨i, _, rfl⟩ := List.mem_map.1 hx
   simp [mkS, own_out01]) fun o => ?_
 rw [(LC_end hlv (LR (r.m + 2))).1, (LC_end hlv (LR (r.m + 2))).2]
 have hwl : (LR (r.m + 2)).length = (wFam r (LR (r.m + 2)) (min (k + (nT c 3 day)) r.e)).length := by rw [wFam_len hr (LR_len _), LR_len]
 cases hsp : stopB r (k + (nT c 3 day)) with
 | true =>
  simp only [if_true, pdK, blockK, thenK]
  exact ⟨rfl, objAll_set (LR_nodup _) hwl out_ne⟩
 | false =>
  simp only [Bool.false_eq_true, if_false, pdK, thenK]
  refine cl_nil ?_
  simp only [blockK, thenK]
  refine cl_nil ?_
  simp only [blockK, thenK]
  refine cl_nil ?_
  exact ⟨rfl, objAll_set (LR_nodup _) hwl out_ne⟩
set_option maxHeartbeats 4000000 in
theorem LA_y {r : Lp} (hr : r.Ok) (hfu : r.fu ≤ 1900) (hy : SSound Tryz.prog yid r.y.toSpec) {c : List Deed} (hl60 : c.length ≤ 60) (hkc : ∀ d ∈ c, kindOk d) (day : Int)  {base : Nat} (hb : live r base) (hn : base + nT c 1 day * (nT c 2 day * nT c 3 day) ≤ r.n)
  (hv : ∀ i j l, i < nT c 1 day → j < nT c 2 day → l < nT c 3 day → r.vals (base + i * (nT c 2 day * nT c 3 day) + j * nT c 3 day + l) = [wayD (kT c 1 day i) (kT c 2 day j) (kT c 3 day l) (sT c 1 day i) (sT c 2 day j) (sT c 3 day l)]) : SSound Tryz.prog yid (LA r c day base).y.toSpec := by
 refine Lp.y_sound (LA_ok hr hfu c day base) fun s hs hj => ?_
 have hs' : s < nT c 1 day := hs
 have hlv : live r (base + s * (nT c 2 day * nT c 3 day)) := w_live hb hn (Nat.le_of_lt hs') hj
 have hk1 : base + (s + 1) * (nT c 2 day * nT c 3 day) = base + s * (nT c 2 day * nT c 3 day) + (nT c 2 day * nT c 3 day) := by rw [Nat.add_mul, Nat.one_mul, Nat.add_assoc]
 have hin : base + s * (nT c 2 day * nT c 3 day) + (nT c 2 day * nT c 3 day) ≤ r.n := by
  have h1 : (s + 1) * (nT c 2 day * nT c 3 day) ≤ nT c 1 day * (nT c 2 day * nT c 3 day) := Nat.mul_le_mul_right _ hs'
  omega
 have hvs := fun j l => hv s j l hs'
 obtain ⟨k, hk⟩ : ∃ k, base + s * (nT c 2 day * nT c 3 day) = k := ⟨_, rfl⟩
 rw [hk] at hlv hk1 hin
 have hmin := Nat.min_eq_left (live_e hlv)
 have hst : (LA r c day base).st s = if stopB r (k + (nT c 2 day * nT c 3 day)) then some .ret else none := by
  unfold LA
  rw [w_st, hk1]
 have hf1 : (LA r c day base).fam (LR (r.m + 2)) (s + 1) = wFam r (LR (r.m + 2)) (min (k + (nT c 2 day * nT c 3 day)) r.e) := by
  unfold LA
  rw [w_fam, hk1]
 have hf0 : (LA r c day base).fam (LR (r.m + 2)) s = wFam r (LR (r.m + 2)) k := by
  unfold LA
  rw [w_fam, hk, hmin]
 have hvl : (LA r c day base).vals s = [.v (vInt (kT c 1 day s)), .v (encS (sT c 1 day s))] := rfl
 have hm : (LA r c day base).m = r.m + 2 := rfl
 have hen : (LA r c day base).env (LR (r.m + 2)) = enA c day (cloT c 1 day) [0, 1] := w_env
 have hcd : cdA = (_, _, _) := rfl
 have hps : (LA r c day base).ps = [15, 16] := rfl
 have hasg : (LA r c day base).asg = cdA.2.1 := rfl
 have hbody : (LA r c day base).body = cdA.2.2 := rfl
 rw [hm, hf0, hf1, hst, hvl, hen, hps, hasg, hbody, hcd]
 dsimp only
 have hvin : ∀ j l, j < nT c 2 day → l < nT c 3 day → r.vals (k + j * nT c 3 day + l) = [wayD (kT c 1 day s) (kT c 2 day j) (kT c 3 day l) (sT c 1 day s) (sT c 2 day j) (sT c 3 day l)] := by
  intro j l h1 h2
  rw [← hk]
  exact hvs j l h1 h2
 generalize hnb : kT c 1 day s = a at hvin ⊢
 generalize hsb : sT c 1 day s = x at hvin ⊢
 have hiy : SSound Tryz.prog yid (LB r c day a x k).y.toSpec := LB_y hr hfu hy hl60 hkc day a x hlv (by omega) hvin
 obtain ⟨ht1, ht2⟩ := wayT c 2 hl60 hkc
 have hO := wFam_out hr k
 have hF := wFam_all hr k
 generalize outH (wFam r (LR (r.m + 2)) k) = H at hF hO ⊢
 clear hf0 hf1 hst hvl hen hvs hj hv
 obtain ⟨s1, s2, s3⟩ := x
 simp only [encS, staP] at *
 have hth := fun (obj : Name → Option O) (t : Name) (f : List Deed → Int → Int → V) (fl : Bool) (a b : Int) => sLII_app (P := fun l => l.length ≤ 60) (f := f) (fl := fl) (obj := obj) (t := t) (l := c) (k := a) (j := b) hl60
 have hstt := fun (obj : Name → Option O) (tm : Name) (f : List Deed → Int → V) (fl : Bool) => sLI_app (P := fun _ => True) (f := f) (fl := fl) (obj := obj) (t := tm) (l := thrL c 2 0) (k := day) trivial
 obtain ⟨Γ, hΓ, h86, h147, h165⟩ : ∃ Γ : FuncId → Option Spec, (∀ f s, Γ f = some s → SSound Tryz.prog f s) ∧ Γ 86 = some (sLII (fun l => l.length ≤ 60) (fun l lo pe => .sl ((thrL l lo pe).map encD)) false) ∧
   Γ 147 = some (sLI (fun _ => True) (fun l k => .clo (.func 165) [] [.ptr [.sl (l.map encD)], .ptr [vInt k]]) false) ∧ Γ 165 = some ((LB r c day a ⟨s1, s2, s3⟩ k).it [.ptr [.sl ((thrL c 2 0).map encD)], .ptr [vInt day]]).toSpec := by
  refine ⟨fun f => match f with | 86 => some (sLII (fun l => l.length ≤ 60) (fun l lo pe => .sl ((thrL l lo pe).map encD)) false) | 147 => some (sLI (fun _ => True) (fun l k => .clo (.func 165) [] [.ptr [.sl (l.map encD)], .ptr [vInt k]]) false) | 165 => some ((LB r c day a ⟨s1, s2, s3⟩ k).it [.ptr [.sl ((thrL c 2 0).map encD)], .ptr [vInt day]]).toSpec | _ => none, ?_, rfl, rfl, rfl⟩
  intro f s h
  dsimp only at h
  split at h
  ·cases h; exact s86.sound
  ·cases h; exact s147.sound
  ·cases h; exact iter165 (LB_ok hr hfu c day a ⟨s1, s2, s3⟩ k) hiy ht1 ht2 rfl rfl
  ·cases h
 have hP := mixedK
 refine cw_weak (weak_to 45 [0] H [(1, ⟨true, .v (.ptr [.sl (c.map encD), vInt day])⟩), (2, ⟨true, .ref [0, 1] 0⟩), (15, ⟨true, .v (vInt a)⟩), (16, ⟨true, .v (.agg [vInt s1, vInt s2, .bool s3])⟩)] [] rfl rfl (fun _ _ => rfl) ?_ (by simp) ?_ ?_) ?_
 ·intro q hq
  simp only [List.mem_cons, List.not_mem_nil, or_false] at hq
  rcases hq with rfl | rfl | rfl | rfl <;> rfl
 ·simp [D.clos, domOf, own]
 ·rw [hO]; trivial
 refine cl_of ?_
 repeat refine sq ?_
 refine cl_rs hΓ [1,2,3,16] [[3, 0]] fun K' hK => ?_
 simp only [go_sem, hO]
 repeat refine ⟨ob, ?_⟩
 refine hK _ ?_ ?_ <;> clear K' hK <;> simp only [go_sem, hO]
 refine cl_r hΓ fun K' hK => ?_
 simp only [go_sem, tp137, tz137]
 refine ⟨Nat.le_refl _, ?_⟩
 refine hK _ ?_
 clear K' hK
 refine (cw_keep [1,2, 3, 4] [[3, 0], [4, 0]] ?_ ?_ : CW _ _ _ _)
 ·simp only [go_sem, hO]
 simp only [go_sem]
 refine cw_weakM (σ' := mkS 45 [0] H [(1, ⟨true, .v (.ptr [.sl (c.map encD), vInt day])⟩), (2, ⟨true, .ref [0, 1] 0⟩), (3, ⟨true, .v (.ptr [vInt a])⟩), (4, ⟨true, .ref [4, 0] 0⟩)] [([4, 0], .box [.v (vInt s1), .v (vInt s2), .v (.bool s3)])]) (weakM_frzk 3 (.ref [3, 0] 0) (by simp only [go_sem]) (by simp only [go_sem]) [1,2, 3, 4] [[4, 0]] ?_ ?_) ?_
 ·simp only [go_sem, hO]
 ·simp only [go_sem]
 refine cw_weakM (σ' := mkS 45 [0] H [(1, ⟨true, .v (.ptr [.sl (c.map encD), vInt day])⟩), (2, ⟨true, .ref [0, 1] 0⟩), (3, ⟨true, .v (.ptr [vInt a])⟩), (4, ⟨true, .v (.ptr [vInt s1, vInt s2, .bool s3])⟩)] []) (weakM_frzk 4 (.ref [4, 0] 0) (by simp only [go_sem]) (by simp only [go_sem]) [1,2, 3, 4] [] ?_ ?_) ?_
 ·simp only [go_sem, hO]
 ·simp only [go_sem]
 refine cl_of ?_
 refine cl_block ?_
 repeat refine sq ?_
 refine cl_ds hΓ hP [[], [0], [0, 1], [], [3], [0, 1, 2, 3, 4]] [1,2,3,4,22] [] (by kernel_rfl) fun K' hK => ?_
 simp only [go_sem, hO, h86, h147, hth, hstt]
 repeat refine ⟨ob, ?_⟩
 first | refine ⟨by rfl, ?_⟩ | skip
 refine hK _ ?_ ?_ <;> clear K' hK <;> simp only [go_sem, hO, h86, h147, hth, hstt]
 repeat refine sq ?_
 refine cl_block ?_
 refine cl_iter hΓ (LB_ok hr hfu c day a ⟨s1, s2, s3⟩ k) 50 51 (f := 165) (Ls := LR (r.m + 2)) rfl rfl (by decide) h165 rfl (by
  rw [show (LB r c day a ⟨s1, s2, s3⟩ k).env (LR (r.m + 2)) = _ from w_env]; rfl) rfl rfl rfl (LR_len _) (LR_nodup _) out_ne (by
  have h0 : ∀ w, min (k + 0 * w) r.e = k := fun w => by rw [Nat.zero_mul]; exact hmin
  show objAll _ _ (wFam r _ (min (k + 0 * _) r.e))
  rw [h0]
  exact objAll_agr hF fun x hx => by
   obtain ⟨i, _, rfl⟩ := List.mem_map.1 hx
   simp [mkS, own_out01]) fun o => ?_
 rw [(LB_end hlv (LR (r.m + 2))).1, (LB_end hlv (LR (r.m + 2))).2]
 have hwl : (LR (r.m + 2)).length = (wFam r (LR (r.m + 2)) (min (k + (nT c 2 day * nT c 3 day)) r.e)).length := by rw [wFam_len hr (LR_len _), LR_len]
 cases hsp : stopB r (k + (nT c 2 day * nT c 3 day)) with
 | true =>
  simp only [if_true, pdK, blockK, thenK]
  exact ⟨rfl, objAll_set (LR_nodup _) hwl out_ne⟩
 | false =>
  simp only [Bool.false_eq_true, if_false, pdK, thenK]
  refine cl_nil ?_
  simp only [blockK, thenK]
  refine cl_nil ?_
  simp only [blockK, thenK]
  refine cl_nil ?_
  exact ⟨rfl, objAll_set (LR_nodup _) hwl out_ne⟩
theorem e_le (r : Lp) : r.e ≤ r.n := by
 rcases e_cases r with ⟨h1, _⟩ | ⟨s, h1, h2, _⟩ <;> omega
set_option maxHeartbeats 4000000 in
theorem iter177 {r : Lp} (hr : r.Ok) (hfu : r.fu ≤ 1900) (hy : SSound Tryz.prog yid r.y.toSpec) {c : List Deed} (hl60 : c.length ≤ 60) (hkc : ∀ d ∈ c, kindOk d) (day : Int) (hn : r.n = nT c 1 day * (nT c 2 day * nT c 3 day))
  (hv : ∀ i j l, i < nT c 1 day → j < nT c 2 day → l < nT c 3 day → r.vals (0 + i * (nT c 2 day * nT c 3 day) + j * nT c 3 day + l) = [wayD (kT c 1 day i) (kT c 2 day j) (kT c 3 day l) (sT c 1 day i) (sT c 2 day j) (sT c 3 day l)]) :
  SSound Tryz.prog 177 (r.it [.ptr [.sl (c.map encD), vInt day]]).toSpec := by
 refine csound (nt := 45) (rs := []) Tryz.func177 rfl (by rfl) (by kernel_rfl) (enter_of Tryz.func177 rfl (by kernel_rfl)) (notYid _ (by decide)) ?_
 rintro os ds ⟨rfl, rfl⟩
 refine ⟨lb rfl, cl_of ?_⟩
 have hout : ∀ os ds, (r.it [.ptr [.sl (c.map encD), vInt day]]).out os ds = ⟨(0, r.fin (LI r.m)) :: upds 1 (r.fam (LI r.m) r.e), [], .tup []⟩ := fun _ _ => rfl
 rw [hout]
 have hlv0 : live r 0 := ⟨Nat.zero_le _, fun j hj => by omega⟩
 have hay : SSound Tryz.prog yid (LA r c day 0).y.toSpec := LA_y hr hfu hy hl60 hkc day hlv0 (by omega) hv
 obtain ⟨ht1, ht2⟩ := wayT c 1 hl60 hkc
 have hth := fun (obj : Name → Option O) (t : Name) (f : List Deed → Int → Int → V) (fl : Bool) (a b : Int) => sLII_app (P := fun l => l.length ≤ 60) (f := f) (fl := fl) (obj := obj) (t := t) (l := c) (k := a) (j := b) hl60
 have hstt := fun (obj : Name → Option O) (tm : Name) (f : List Deed → Int → V) (fl : Bool) => sLI_app (P := fun _ => True) (f := f) (fl := fl) (obj := obj) (t := tm) (l := thrL c 1 0) (k := day) trivial
 obtain ⟨Γ, hΓ, h86, h147, h165⟩ : ∃ Γ : FuncId → Option Spec, (∀ f s, Γ f = some s → SSound Tryz.prog f s) ∧ Γ 86 = some (sLII (fun l => l.length ≤ 60) (fun l lo pe => .sl ((thrL l lo pe).map encD)) false) ∧
   Γ 147 = some (sLI (fun _ => True) (fun l k => .clo (.func 165) [] [.ptr [.sl (l.map encD)], .ptr [vInt k]]) false) ∧ Γ 165 = some ((LA r c day 0).it [.ptr [.sl ((thrL c 1 0).map encD)], .ptr [vInt day]]).toSpec := by
  refine ⟨fun f => match f with | 86 => some (sLII (fun l => l.length ≤ 60) (fun l lo pe => .sl ((thrL l lo pe).map encD)) false) | 147 => some (sLI (fun _ => True) (fun l k => .clo (.func 165) [] [.ptr [.sl (l.map encD)], .ptr [vInt k]]) false) | 165 => some ((LA r c day 0).it [.ptr [.sl ((thrL c 1 0).map encD)], .ptr [vInt day]]).toSpec | _ => none, ?_, rfl, rfl, rfl⟩
  intro f s h
  dsimp only at h
  split at h
  ·cases h; exact s86.sound
  ·cases h; exact s147.sound
  ·cases h; exact iter165 (LA_ok hr hfu c day 0) hay ht1 ht2 rfl rfl
  ·cases h
 have hP := mixedK
 have hdI : ∀ dom : Name → Bool, (∀ i, dom [i, 1] = true) → ∀ x ∈ LI r.m, dom x = true := fun dom hd x hx => by
  obtain ⟨i, _, rfl⟩ := List.mem_map.1 hx
  exact hd _
 have hO : ∀ hs, OutC [0] (domOf [0] hs) (outH (r.rc (LI r.m) .ready none :: r.fam (LI r.m) 0)) = True := fun hs => eq_true (outC_outs (fun o ho dom hd => by
  rcases List.mem_cons.1 ho with rfl | ho
  ·exact hr.closE dom _ (LI_len _) (hdI dom hd)
  ·exact hr.closF dom _ _ (LI_len _) (hdI dom hd) o ho) hs)
 have hF0 : outH (r.rc (LI r.m) .ready none :: r.fam (LI r.m) 0) [0, 1] = some (r.rc (LI r.m) .ready none) := rfl
 have hF1 : objAll (outH (r.rc (LI r.m) .ready none :: r.fam (LI r.m) 0)) (LI r.m) (r.fam (LI r.m) 0) := by
  rw [objAll_iff]
  refine List.ext_getElem (by rw [List.length_map, List.length_map, LI_len, hr.len _ _ (LI_len _)]) fun i h3 h4 => ?_
  simp only [List.getElem_map, LI, List.getElem_range, outH, List.getElem?_cons_succ]
  have h5 : i < (r.fam (LI r.m) 0).length := by simpa using h4
  exact List.getElem?_eq_getElem h5
 generalize outH (r.rc (LI r.m) .ready none :: r.fam (LI r.m) 0) = H at hO hF0 hF1 ⊢
 simp only [List.map_cons, List.map_nil]
 repeat refine sq ?_
 refine cl_rs hΓ [1,2] [[2, 0]] fun K' hK => ?_
 simp only [go_sem, hO]
 repeat refine ⟨ob, ?_⟩
 refine hK _ ?_ ?_ <;> clear K' hK <;> simp only [go_sem, hO]
 repeat refine sq ?_
 refine cl_ds hΓ hP [[], [0], [0, 1], [], [3], [0, 1, 2, 3, 4]] [1,2,14] [[2, 0]] (by kernel_rfl) fun K' hK => ?_
 simp only [go_sem, hO, h86, h147, hth, hstt]
 repeat refine ⟨ob, ?_⟩
 first | refine ⟨by rfl, ?_⟩ | skip
 refine hK _ ?_ ?_ <;> clear K' hK <;> simp only [go_sem, hO, h86, h147, hth, hstt]
 repeat refine sq ?_
 refine cl_block ?_
 have hLn : (LI r.m).Nodup := List.Pairwise.map _ (fun a b h => by simpa using h) List.nodup_range
 have h01 : ([0, 1] : Name) ∉ LI r.m := fun h => by
  obtain ⟨i, _, hi⟩ := List.mem_map.1 h
  simp at hi
 have hi0 : ∀ j : Nat, ([j, 0] : Name) ∉ LI r.m := fun j h => by
  obtain ⟨i, _, hi⟩ := List.mem_map.1 h
  simp at hi
 have hnd : (([2, 0] : Name) :: [0, 1] :: LI r.m).Nodup := by
  rw [List.nodup_cons, List.nodup_cons]
  exact ⟨by simp [hi0 2], h01, hLn⟩
 have hR : ([50, 0] : Name) ∉ (([2, 0] : Name) :: [0, 1] :: LI r.m) := by simp [hi0 50]
 have hwf : ∀ k, wFam r ([2, 0] :: [0, 1] :: LI r.m) k = .box [.yld [0, 1]] :: recP r (LI r.m) k :: r.fam (LI r.m) k := fun k => rfl
 refine cl_iter hΓ (LA_ok hr hfu c day 0) 50 51 (f := 165) (Ls := [2, 0] :: [0, 1] :: LI r.m) rfl rfl (by decide) h165 rfl rfl rfl rfl rfl (by simp [LI_len]; rfl) hnd hR (by
  have h0 : ∀ w, min (0 + 0 * w) r.e = 0 := fun w => by rw [Nat.zero_mul]; exact Nat.min_eq_left (Nat.zero_le _)
  show objAll _ _ (wFam r _ (min (0 + 0 * _) r.e))
  rw [h0, hwf]
  refine ⟨rfl, ?_, objAll_agr hF1 fun x hx => ?_⟩
  ·simp only [mkS, own_out01, Bool.false_eq_true, if_false, hF0]
   rfl
  ·obtain ⟨i, _, rfl⟩ := List.mem_map.1 hx
   simp [mkS, own_out01]) fun o => ?_
 rw [(LA_end hlv0 ([2, 0] :: [0, 1] :: LI r.m)).1, (LA_end hlv0 ([2, 0] :: [0, 1] :: LI r.m)).2, Nat.zero_add, ← hn, Nat.min_eq_right (e_le r)]
 have fin : ∀ σ : S, objAll σ.obj ([2, 0] :: [0, 1] :: LI r.m) (wFam r ([2, 0] :: [0, 1] :: LI r.m) r.e) → (resAll Tryz.prog σ []).ok ∧ (resAll Tryz.prog σ []).d = .tup [] ∧ endC (r.rc (LI r.m) .ready none :: r.fam (LI r.m) 0) ⟨(0, r.fin (LI r.m)) :: upds 1 (r.fam (LI r.m) r.e), [], .tup []⟩ σ := by
  rintro σ ⟨_, h1, h2⟩
  refine Lp.it_end hr ?_ h2
  rw [h1]
  show some (recP r (LI r.m) r.e) = _
  unfold recP Lp.fin
  rw [pdd_e]
 have hwl : (([2, 0] : Name) :: [0, 1] :: LI r.m).length = (wFam r ([2, 0] :: [0, 1] :: LI r.m) r.e).length := by
  rw [hwf]
  simp only [List.length_cons, LI_len, hr.len _ _ (LI_len _)]
 cases hsp : stopB r r.n with
 | true =>
  simp only [if_true, pdK, blockK, thenK]
  exact fin _ (objAll_set hnd hwl hR)
 | false =>
  simp only [Bool.false_eq_true, if_false, pdK, thenK]
  refine cl_nil ?_
  simp only [blockK, thenK]
  refine cl_nil ?_
  exact fin _ (objAll_set hnd hwl hR)
end Go.Eng
