import Derived.Test.YtofamdkaipongaaGreatK17
/- Texts KW80 to KW90. -/
set_option linter.all false
namespace Go.Eng
open Go Go.Proofs
set_option maxRecDepth 10000
def mayN (t : List Deed) (day : Int) : List Nat := mayL t day (t.length + 1)
theorem mayL_lt {t : List Deed} {day : Int} {s : Nat} : ∀ x ∈ mayL t day s, x < s ∧ mayB t x day = true := fun x hx => by
 obtain ⟨h1, h2⟩ := List.mem_filter.1 hx
 exact ⟨List.mem_range.1 h1, h2⟩
theorem mayL_pre (t : List Deed) (day : Int) (s k : Nat) : ∃ r, mayL t day (s + k) = mayL t day s ++ r := by
 induction k with
 | zero => exact ⟨[], by simp⟩
 | succ k ih =>
  obtain ⟨r, hr⟩ := ih
  rw [← Nat.add_assoc, mayL_next]
  split
  ·exact ⟨r ++ [s + k], by rw [hr, List.append_assoc]⟩
  ·exact ⟨r, hr⟩
theorem mayN_at {t : List Deed} {day : Int} {s : Nat} (h : s ≤ t.length) (hm : mayB t s day = true) : ∃ (h : (mayL t day s).length < (mayN t day).length), (mayN t day)[(mayL t day s).length] = s := by
 obtain ⟨r, hr⟩ := mayL_pre t day (s + 1) (t.length - s)
 have e : mayN t day = mayL t day s ++ (s :: r) := by
  unfold mayN
  rw [show t.length + 1 = s + 1 + (t.length - s) by omega, hr, mayL_next, if_pos hm, List.append_assoc]
  rfl
 refine ⟨by rw [e]; simp, ?_⟩
 simp only [e]
 rw [List.getElem_append_right (Nat.le_refl _)]
 simp
def stVals (t : List Deed) (day : Int) (i : Nat) : List D := [.v (vInt ((mayN t day).getD i 0)), .v (encS (stA t ((mayN t day).getD i 0)))]
theorem iter165 {r : Lp} (hr : r.Ok) (hy : SSound Tryz.prog yid r.y.toSpec) {t : List Deed} {day : Int} (hl : t.length ≤ 60) (hk : ∀ d ∈ t, kindOk d) (hn : r.n = (mayN t day).length) (hv : r.vals = stVals t day) :
  SSound Tryz.prog 165 (r.it [.ptr [.sl (t.map encD)], .ptr [vInt day]]).toSpec := by
 refine csound (nt := 25) (rs := []) Tryz.func165 rfl (by rfl) (by kernel_rfl) (enter_of Tryz.func165 rfl (by kernel_rfl)) (notYid _ (by decide)) ?_
 rintro os ds ⟨rfl, rfl⟩
 refine ⟨lb rfl, ?_⟩
 have hout : ∀ os ds, (r.it [.ptr [.sl (t.map encD)], .ptr [vInt day]]).out os ds = ⟨(0, r.fin (LI r.m)) :: upds 1 (r.fam (LI r.m) r.e), [], .tup []⟩ := fun _ _ => rfl
 rw [hout]
 let c : Nat → Nat := fun s => (mayL t day s).length
 have hc0 : c 0 = 0 := rfl
 have hcs : ∀ s, c (s + 1) = if mayB t s day = true then c s + 1 else c s := fun s => by
  show (mayL t day (s + 1)).length = _
  rw [mayL_next]
  split
  ·simp only [List.length_append, List.length_singleton]; rfl
  ·rfl
 have hcm : ∀ s s', s ≤ s' → c s ≤ c s' := fun s s' h => by
  obtain ⟨x, hx⟩ := mayL_pre t day s (s' - s)
  rw [show s + (s' - s) = s' by omega] at hx
  show (mayL t day s).length ≤ (mayL t day s').length
  rw [hx]; simp
 have hcn : c (t.length + 1) = r.n := hn.symm
 have hat : ∀ s, s ≤ t.length → mayB t s day = true → c s < r.n ∧ r.vals (c s) = [.v (vInt s), .v (encS (stA t s))] := fun s hs hm => by
  obtain ⟨h1, h2⟩ := mayN_at hs hm
  refine ⟨by rw [hn]; exact h1, ?_⟩
  rw [hv]
  have : (mayN t day).getD (c s) 0 = s := by
   rw [List.getD_eq_getElem?_getD, List.getElem?_eq_getElem h1]; exact h2
  unfold stVals
  rw [this]
 let b : Nat → Bool := fun s => (r.st (c s)).isNone
 let pd : Nat → Option Code := fun s => if c s = 0 then none else r.st (c s - 1)
 let I : Nat → List O := fun s => r.rc (LI r.m) (if (pd s).isNone then .ready else .done) (pd s) :: r.fam (LI r.m) (c s)
 obtain ⟨K, hKs⟩ : ∃ K : FuncId → Option Spec, (K yid = some r.y.toSpec ∧ K 166 = some sMay ∧ K 167 = some sAft) ∧ ∀ f s, K f = some s → SSound Tryz.prog f s := by
  refine ⟨fun f => match f with | 166 => some sMay | 167 => some sAft | 1000000000 => some r.y.toSpec | _ => none, ⟨rfl, rfl, rfl⟩, ?_⟩
  intro f s h
  dsimp only at h
  split at h
  ·cases h; exact s166.sound
  ·cases h; exact s167.sound
  ·cases h; exact hy
  ·cases h
 have hLn : (LI r.m).Nodup := List.Pairwise.map _ (fun a b h => by simpa using h) List.nodup_range
 have hRn : ([0, 1] : Name) ∉ LI r.m := fun h => by
  obtain ⟨i, _, hi⟩ := List.mem_map.1 h
  simp at hi
 obtain ⟨code, hcode, h⟩ := w165 hKs.2 (sY := r.y.toSpec) hKs.1.1 hKs.1.2.1 hKs.1.2.2 (t := t) (day := day) hl hk (I := I) (b := b)
  (fun s => by simp only [I, List.length_cons, hr.len _ _ (LI_len _)])
  (fun s o ho dom hd => by
   have hd' : ∀ x ∈ LI r.m, dom x = true := fun x hx => by
    obtain ⟨i, _, rfl⟩ := List.mem_map.1 hx
    exact hd _
   simp only [I, List.mem_cons] at ho
   rcases ho with rfl | ho
   ·exact hr.closE _ _ (LI_len _) hd'
   ·exact hr.closF _ _ _ (LI_len _) hd' _ ho)
  (fun s _ hm => by
   have e : c (s + 1) = c s := by rw [hcs, if_neg (by rw [hm]; decide)]
   simp only [I, pd, e])
  (fun s hs hm hq obj tm ho => by
   obtain ⟨h1, h2⟩ := hat s hs hm
   have hj : ∀ j, j < c s → r.st j = none := fun j hj => by
    have hjn : j < (mayN t day).length := by rw [← hn]; omega
    have hmem : j < (mayL t day s).length := hj
    have hx := mayL_lt _ (List.getElem_mem hmem)
    have hcx : c ((mayL t day s)[j]) = j := by
     obtain ⟨h3, h4⟩ := mayN_at (by omega : (mayL t day s)[j] ≤ t.length) hx.2
     obtain ⟨x, hxx⟩ := mayL_pre t day s (t.length + 1 - s)
     rw [show s + (t.length + 1 - s) = t.length + 1 by omega] at hxx
     have h5 : (mayN t day)[j] = (mayL t day s)[j] := by
      have : (mayN t day)[j]? = (mayL t day s)[j]? := by
       unfold mayN
       rw [hxx, List.getElem?_append_left hmem]
      rw [List.getElem?_eq_getElem hjn, List.getElem?_eq_getElem hmem] at this
      exact Option.some.inj this
     have hnd : (mayN t day).Nodup := (List.nodup_range.filter _)
     exact (List.getElem_inj hnd).1 (h4.trans h5.symm)
    have := hq _ hx.1
    simp only [hx.2, Bool.true_and, b, Bool.not_eq_false', Option.isNone_iff_eq_none, hcx] at this
    exact this
   have hpd : pd s = none := by
    simp only [pd]
    split
    ·rfl
    ·exact hj _ (by omega)
   have hn1 : c (s + 1) = c s + 1 := by rw [hcs, if_pos hm]
   have hpd1 : pd (s + 1) = r.st (c s) := by
    simp only [pd, hn1]
    rw [if_neg (by omega)]
    rfl
   have hI0 : ∀ nm, isOut nm = true → obj nm = outH (I s) nm := ho
   have h0 : obj [0, 1] = some (r.rc (LI r.m) .ready none) := by
    rw [hI0 _ rfl]
    simp only [I, hpd]
    rfl
   have hF : objAll obj (LI r.m) (r.fam (LI r.m) (c s)) := by
    rw [objAll_iff]
    refine List.ext_getElem (by rw [List.length_map, List.length_map, LI_len, hr.len _ _ (LI_len _)]) fun i h3 h4 => ?_
    simp only [List.getElem_map, LI, List.getElem_range]
    rw [hI0 _ rfl]
    simp only [I, outH, List.getElem?_cons_succ]
    have h5 : i < (r.fam (LI r.m) (c s)).length := by simpa using h4
    rw [List.getElem?_eq_getElem h5]
    rfl
   have happ := Lp.y_app hr h1 hj (t := tm) (LI_len _) hLn hRn h0 hF
   rw [h2] at happ
   rw [happ]
   congr 1
   funext nm
   have hlen := hr.len (LI r.m) (c s + 1) (LI_len _)
   by_cases hR : nm = [0, 1]
   ·subst hR
    rw [upd_same]
    unfold setU
    simp only [I, hn1, hpd1, outH]
    rfl
   ·rw [upd_ne _ _ _ hR]
    unfold setU
    cases hx : isOut nm with
    | false =>
     rw [outH_not hx, setLs_ne]
     intro hm2
     obtain ⟨i, _, rfl⟩ := List.mem_map.1 hm2
     cases hx
    | true =>
     obtain ⟨i, rfl⟩ := isOut_iff.1 hx
     have hall := setLs_all (obj := obj) (F := r.fam (LI r.m) (c s + 1)) hLn (by rw [LI_len, hlen])
     match i, hR with
     | 0, hR => exact (hR rfl).elim
     | i + 1, _ =>
      simp only [I, outH, List.getElem?_cons_succ, hn1]
      by_cases hi : i < r.m
      ·have h6 := objAll_get hall i (by rw [LI_len]; exact hi) (by rw [hlen]; exact hi)
       simp only [LI, List.getElem_map, List.getElem_range] at h6
       rw [show (r.fam (LI r.m) (c s + 1))[i]? = some (r.fam (LI r.m) (c s + 1))[i] from List.getElem?_eq_getElem (by rw [hlen]; exact hi)]
       exact h6
      ·rw [List.getElem?_eq_none (by rw [hlen]; omega), setLs_ne]
       intro hm2
       obtain ⟨j, hj2, hj3⟩ := List.mem_map.1 hm2
       have := List.mem_range.1 hj2
       simp at hj3
       omega)
 have hc2 : ∀ c2, Tryz.f165.body = some c2 → c2 = code := fun c2 h2 => by rw [h2] at hcode; exact Option.some.inj hcode
 rw [← hc2 _ rfl] at h
 refine CW.mono (cl_of h) ?_
 rintro e σ ⟨he, hob⟩
 have hall : ∀ j, j < r.n → ∃ s, s ≤ t.length ∧ mayB t s day = true ∧ c s = j := fun j hj => by
  have hjn : j < (mayN t day).length := by rw [← hn]; exact hj
  have hx := mayL_lt _ (List.getElem_mem hjn)
  refine ⟨(mayN t day)[j], by omega, hx.2, ?_⟩
  obtain ⟨h3, h4⟩ := mayN_at (by omega : (mayN t day)[j] ≤ t.length) hx.2
  exact (List.getElem_inj (List.nodup_range.filter _)).1 h4
 have key : c (endN (fun s => mayB t s day && !b s) (t.length + 1)) = r.e ∧ pd (endN (fun s => mayB t s day && !b s) (t.length + 1)) = r.pd := by
  unfold endN
  cases hf : (List.range (t.length + 1)).find? (fun s => mayB t s day && !b s) with
  | none =>
   have hno : ∀ j, j < r.n → r.st j = none := fun j hj => by
    obtain ⟨s, h1, h2, h3⟩ := hall j hj
    have := List.find?_eq_none.1 hf s (List.mem_range.2 (by omega))
    simp only [h2, Bool.true_and, b, Bool.not_eq_true', Bool.not_eq_false, h3] at this
    simpa using this
   have hg : (List.range r.n).find? (fun s => (r.st s).isSome) = none := List.find?_eq_none.2 fun s hs => by rw [hno s (List.mem_range.1 hs)]; decide
   unfold Lp.e Lp.pd
   rw [hg]
   refine ⟨hcn, ?_⟩
   simp only [pd]
   split
   ·rfl
   ·exact hno _ (by rw [← hcn]; omega)
  | some s0 =>
   obtain ⟨h1, i, hi, h2, h3⟩ := List.find?_eq_some_iff_getElem.1 hf
   have hi' : i < t.length + 1 := by simpa using hi
   have e0 : i = s0 := by simpa using h2
   subst e0
   simp only [Bool.and_eq_true, Bool.not_eq_true'] at h1
   have hst : (r.st (c i)).isSome = true := by
    have := h1.2
    simp only [b] at this
    cases hx : r.st (c i) with
    | none => rw [hx] at this; cases this
    | some _ => rfl
   obtain ⟨hcl, _⟩ := hat i (by omega) h1.1
   have hbe : ∀ j, j < c i → (r.st j).isSome = false := fun j hj => by
    obtain ⟨s, k1, k2, k3⟩ := hall j (by omega)
    have hsi : s < i := by
     rcases Nat.lt_or_ge s i with h | h
     ·exact h
     ·have := hcm i s h; omega
    have := h3 s hsi
    simp only [List.getElem_range, k2, Bool.true_and, b, Bool.not_not, Option.isNone_iff_eq_none, k3] at this
    rw [this]; rfl
   have hg : (List.range r.n).find? (fun s => (r.st s).isSome) = some (c i) := by
    rw [List.find?_eq_some_iff_getElem]
    exact ⟨hst, c i, by simpa using hcl, by simp, fun j hj => by simp [hbe j hj]⟩
   have hn1 : c (i + 1) = c i + 1 := by rw [hcs, if_pos h1.1]
   unfold Lp.e Lp.pd
   rw [hg]
   refine ⟨hn1, ?_⟩
   simp only [pd, hn1]
   rw [if_neg (by omega)]
   rfl
 have fin := Lp.it_end (P := Tryz.prog) hr (σ := σ) (by
   rw [hob 0]
   simp only [I, outH, List.getElem?_cons_zero, key.2]
   rfl) (by
   rw [objAll_iff]
   refine List.ext_getElem (by rw [List.length_map, List.length_map, LI_len, hr.len _ _ (LI_len _)]) fun i h3 h4 => ?_
   simp only [List.getElem_map, LI, List.getElem_range]
   rw [hob (i + 1)]
   simp only [I, outH, List.getElem?_cons_succ, key.1]
   have h5 : i < (r.fam (LI r.m) r.e).length := by simpa using h4
   rw [List.getElem?_eq_getElem h5]
   rfl)
 rcases he with rfl | rfl
 ·exact fin
 ·exact fin
@[go_sem] theorem ta111 : tAgg Tryz.prog 111 = some (true, 2) := by kernel_rfl
@[go_sem] theorem tp111 : tPlaces Tryz.prog 111 = some [(0, 1), (1, 1)] := by kernel_rfl
@[go_sem] theorem tz111 : tZero Tryz.prog 111 = some (.agg #[(.slice none 0 0), (.int .i64 0)]) := by kernel_rfl
@[go_sem] theorem tf111_0 : tField Tryz.prog 111 0 = some (0, 1, false) := by kernel_rfl
@[go_sem] theorem tf111_1 : tField Tryz.prog 111 1 = some (1, 1, false) := by kernel_rfl
theorem OutC_congr {p : Name} {dom : Name → Bool} {F G : Name → Option O} (h : ∀ nm, own p nm = false → F nm = G nm) : OutC p dom F = OutC p dom G :=
 propext ⟨fun k nm q hn hq => k nm q hn (by rw [h nm hn]; exact hq), fun k nm q hn hq => k nm q hn (by rw [← h nm hn]; exact hq)⟩
theorem upd_cong {F G : Name → Option O} {x nm : Name} {o : Option O} (h : F nm = G nm) : upd F x o nm = upd G x o nm := by
 by_cases e : nm = x
 ·subst e; rw [upd_same, upd_same]
 ·rw [upd_ne _ _ _ e, upd_ne _ _ _ e, h]
theorem OutC_ifu2 (p : Name) (dom : Name → Bool) (F H : Name → Option O) (x y : Name) (o q : Option O) :
  OutC p dom (upd (upd (fun nm => if own p nm = true then F nm else H nm) x o) y q) = OutC p dom (upd (upd H x o) y q) :=
 OutC_congr fun nm hn => upd_cong (upd_cong (by simp [hn]))
theorem mkS_ifu2 (n : Nat) (p : Name) (F H : Name → Option O) (x y : Name) (o q : Option O) (l : List (Nat × E)) (h : List (Name × O)) :
  mkS n p (upd (upd (fun nm => if own p nm = true then F nm else H nm) x o) y q) l h = mkS n p (upd (upd H x o) y q) l h :=
 mkS_same fun nm hn => upd_cong (upd_cong (by simp [hn]))
def rngD : Code → Option (Array Tmp × Code × Code)
 | .seq a b => match rngD a with | some x => some x | none => rngD b
 | .block _ b => rngD b
 | .scope b => rngD b
 | .rangeFunc _ ps a b => some (ps, a, b)
 | _ => none
def rngOf (fn : Func) : Array Tmp × Code × Code := ((fn.body.bind rngD).getD (#[], .skip, .skip))
def offFind (t : List Deed) (inn : Bool) (day : Int) : Int × Bool := match (mayN t day).find? (fun n => (stA t n).o == inn) with | some n => (n, true) | none => (0, false)
def offSt (t : List Deed) (inn : Bool) (day : Int) (i : Nat) : Option Code := if (stA t ((mayN t day).getD i 0)).o == inn then some .ret else none
def offFam (t : List Deed) (inn : Bool) (day : Int) (s : Nat) : List O :=
 match s with
 | 0 => [.box [.v (vInt 0)], .box [.v (.bool false)]]
 | s + 1 => if (stA t ((mayN t day).getD s 0)).o == inn then [.box [.v (vInt ((mayN t day).getD s 0))], .box [.v (.bool true)]] else [.box [.v (vInt 0)], .box [.v (.bool false)]]
noncomputable def offLp (t : List Deed) (inn : Bool) (day : Int) : Lp where
 m := 2
 env := fun Ls => (List.range 24).map (ofL eAny [(5, ⟨true, .v (.ptr [.bool inn])⟩), (6, ⟨true, .ref (Ls.getD 0 []) 0⟩), (7, ⟨true, .ref (Ls.getD 1 []) 0⟩), (16, ⟨true, .v (.clo (.func 165) [] [.ptr [.sl (t.map encD)], .ptr [vInt day]])⟩)])
 fam := fun _ s => offFam t inn day s
 ps := (rngOf Tryz.f159).1.toList
 asg := (rngOf Tryz.f159).2.1
 body := (rngOf Tryz.f159).2.2
 n := (mayN t day).length
 vals := stVals t day
 st := offSt t inn day
 fu := 100
theorem offFam_cases (t : List Deed) (inn : Bool) (day : Int) (s : Nat) : ∃ (k : Int) (b : Bool), offFam t inn day s = [.box [.v (vInt k)], .box [.v (.bool b)]] := by
 cases s with
 | zero => exact ⟨_, _, rfl⟩
 | succ s =>
  simp only [offFam]
  split
  ·exact ⟨_, _, rfl⟩
  ·exact ⟨_, _, rfl⟩
theorem two_names {Ls : List Name} (h : Ls.length = 2) : ∃ a b, Ls = [a, b] := by
 match Ls, h with
 | [a, b], _ => exact ⟨a, b, rfl⟩
theorem stVals_inj {t : List Deed} {day : Int} : ∀ s s', s < (mayN t day).length → s' < (mayN t day).length → stVals t day s = stVals t day s' → s = s' := by
 intro s s' h h' he
 unfold stVals at he
 simp only [List.cons.injEq, D.v.injEq, vInt, V.int.injEq, true_and, and_true, List.getD_eq_getElem?_getD, List.getElem?_eq_getElem h, List.getElem?_eq_getElem h', Option.getD_some] at he
 have h1 : (mayN t day)[s] = (mayN t day)[s'] := by
  have := he.1
  omega
 exact (List.getElem_inj (List.nodup_range.filter _)).1 h1
theorem reachL_new {obj : Name → Option O} {k : Nat} {x : Name} {o : O} {todo acc : List Name} (h : x ∉ acc) (ho : obj x = some o) : reachL obj (k + 1) (x :: todo) acc = reachL obj k (namesO o ++ todo) (acc ++ [x]) := by
 have : inL acc x = false := by
  cases e : inL acc x with
  | false => rfl
  | true => exact (h (inL_iff.1 e)).elim
 simp only [reachL, this, ho, Bool.false_eq_true, if_false]
theorem offLp_ok (t : List Deed) (inn : Bool) (day : Int) : (offLp t inn day).Ok where
 len := fun Ls s _ => by obtain ⟨k, b, h⟩ := offFam_cases t inn day s; simp only [offLp, h]; rfl
 renE := fun f Ls h => by obtain ⟨a, b, rfl⟩ := two_names h; rfl
 renF := fun f Ls s h => by obtain ⟨k, b, h⟩ := offFam_cases t inn day s; simp only [offLp, h]; rfl
 reach := fun Ls s obj acc k h hn hd hF => by
  obtain ⟨a, b, rfl⟩ := two_names h
  obtain ⟨x, y, hf⟩ := offFam_cases t inn day s
  simp only [offLp, hf] at hF
  obtain ⟨h1, h2, _⟩ := hF
  have hab : a ≠ b := by simpa using hn
  show reachL obj (k + 100) _ acc = _
  have e : namesL (((offLp t inn day).env [a, b]).map (·.d)) = [a, b] := rfl
  rw [e, show k + 100 = (k + 98) + 1 + 1 by omega, reachL_new (hd a (by simp)) h1]
  have h3 : b ∉ acc ++ [a] := by simp only [List.mem_append, List.mem_singleton, not_or]; exact ⟨hd b (by simp), hab.symm⟩
  show reachL obj (k + 98 + 1) [b] _ = _
  rw [reachL_new h3 h2]
  show reachL obj (k + 97 + 1) [] _ = _
  simp [reachL]
 closE := fun dom Ls h hd => by
  obtain ⟨a, b, rfl⟩ := two_names h
  have h1 := hd a (by simp)
  have h2 := hd b (by simp)
  simp [offLp, List.range, List.range.loop, ofL, D.closL, D.clos, eAny, h1, h2]
 closF := fun dom Ls s h hd o ho => by
  obtain ⟨x, y, hf⟩ := offFam_cases t inn day s
  simp only [offLp, hf, List.mem_cons, List.not_mem_nil, or_false] at ho
  rcases ho with rfl | rfl <;> rfl
 psz := fun Ls h => by rfl
 args := fun s => by rfl
 fuel := (show (100 : Nat) ≤ 2000 by decide)
 vnam := fun _ => rfl
 vcl := fun _ _ => rfl
 vren := fun _ _ => rfl
 inj := stVals_inj
theorem offLp_y (t : List Deed) (inn : Bool) (day : Int) : SSound Tryz.prog yid (offLp t inn day).y.toSpec := by
 refine Lp.y_sound (offLp_ok t inn day) fun s hs hj => ?_
 have hΓ := K0n_sound
 have hs' : s < (mayN t day).length := hs
 obtain ⟨n, hn⟩ : ∃ n, n = (mayN t day).getD s 0 := ⟨_, rfl⟩
 have hst : (offLp t inn day).st s = if (stA t n).o == inn then some .ret else none := by rw [hn]; rfl
 have hf1 : (offLp t inn day).fam (LR 2) (s + 1) = if (stA t n).o == inn then [.box [.v (vInt n)], .box [.v (.bool true)]] else [.box [.v (vInt 0)], .box [.v (.bool false)]] := by rw [hn]; rfl
 have hf0 : (offLp t inn day).fam (LR 2) s = [.box [.v (vInt 0)], .box [.v (.bool false)]] := by
  cases s with
  | zero => rfl
  | succ s =>
   have := hj s (by omega)
   have h2 : ((stA t ((mayN t day).getD s 0)).o == inn) = false := by
    have h3 : offSt t inn day s = none := this
    unfold offSt at h3
    split at h3
    ·cases h3
    ·rename_i h4; simpa using h4
   show offFam t inn day (s + 1) = _
   simp only [offFam, h2]
   rfl
 have hv : (offLp t inn day).vals s = [.v (vInt n), .v (encS (stA t n))] := by rw [hn]; rfl
 have hm : (offLp t inn day).m = 2 := rfl
 rw [hm, hf0, hf1, hst, hv]
 obtain ⟨x, y, z⟩ := stA t n
 generalize hos : [O.box [.v (vInt 0)], .box [.v (.bool false)]] = os
 have hO : ∀ hs, OutC [0] (domOf [0] hs) (outH os) = True := by
  subst hos
  refine fun hs => eq_true (outC_outs ?_ hs)
  intro o ho dom hd
  simp only [List.mem_cons, List.not_mem_nil, or_false] at ho
  rcases ho with rfl | rfl <;> rfl
 have hH0 : outH os [0, 1] = some (.box [.v (vInt 0)]) := by subst hos; rfl
 have hH1 : outH os [1, 1] = some (.box [.v (.bool false)]) := by subst hos; rfl
 have hre : ∀ H : Name → Option O, H [0, 1] = some (.box [.v (vInt 0)]) → H [1, 1] = some (.box [.v (.bool false)]) → objAll H (LR 2) os := by
  intro H h1 h2
  subst hos
  exact ⟨h1, h2, trivial⟩
 obtain ⟨H, hH⟩ : ∃ H, outH os = H := ⟨_, rfl⟩
 rw [hH] at hH0 hH1
 simp only [hH] at hO
 simp only [encS, hH]
 have hrn : rngOf Tryz.f159 = (_, _, _) := rfl
 refine cw_weak (weak_to 24 [0] H [(5, ⟨true, .v (.ptr [.bool inn])⟩), (6, ⟨true, .ref [0, 1] 0⟩), (7, ⟨true, .ref [1, 1] 0⟩), (17, ⟨true, .v (vInt n)⟩), (18, ⟨true, .v (.agg [vInt x, vInt y, .bool z])⟩)] [] rfl rfl (fun _ _ => rfl) ?_ (by simp) ?_ ?_) ?_
 ·intro q hq
  simp only [List.mem_cons, List.not_mem_nil, or_false] at hq
  rcases hq with rfl | rfl | rfl | rfl | rfl <;> rfl
 ·simp [D.clos, domOf, own]
 ·rw [hO]; trivial
 simp only [offLp, hrn]
 refine cl_of ?_
 repeat refine sq ?_
 refine cl_rs hΓ [5,6,7,8,18] [] fun K' hK => ?_
 simp only [go_sem, hO]
 repeat refine ⟨ob, ?_⟩
 refine hK _ ?_ ?_ <;> clear K' hK <;> simp only [go_sem, hO]
 refine cl_r hΓ fun K' hK => ?_
 simp only [go_sem, tp137, tz137]
 refine ⟨Nat.le_refl _, ?_⟩
 refine hK _ ?_
 clear K' hK
 refine (cw_keep [5, 6, 7, 8, 9] [[9, 0]] ?_ ?_ : CW _ _ _ _)
 ·simp only [go_sem, hO]
 refine cl_of ?_
 simp only [go_sem]
 refine cl_block ?_
 repeat refine sq ?_
 refine cl_rs hΓ [6,7,8,22] [] fun K' hK => ?_
 simp only [go_sem, hO]
 repeat refine ⟨ob, ?_⟩
 refine hK _ ?_ ?_ <;> clear K' hK <;> simp only [go_sem, hO]
 repeat refine sq ?_
 refine cl_cond rfl rfl (fun hb => ?_) fun hb => ?_
 ·rw [if_pos hb, if_pos hb]
  have hO2 : ∀ hs a b, OutC [0] (domOf [0] hs) (upd (upd H [0, 1] (some (.box [.v a]))) [1, 1] (some (.box [.v b]))) = True := fun hs a b => eq_true (OutC_set rfl (OutC_set rfl ((hO hs).symm ▸ trivial)))
  repeat refine sq ?_
  refine cl_rs hΓ [] [] fun K' hK => ?_
  simp only [go_sem, hO2, hH0, hH1, OutC_ifu2, mkS_ifu2]
  repeat refine ⟨ob, ?_⟩
  refine hK _ ?_ ?_ <;> clear K' hK <;> simp only [go_sem, hO2, hH0, hH1, OutC_ifu2, mkS_ifu2]
  refine cl_ret ?_
  exact ⟨rfl, rfl, rfl, trivial⟩
 ·have hb' : ¬ (z == inn) = true := by rw [hb]; decide
  rw [if_neg hb', if_neg hb']
  refine cl_skip ?_
  refine cl_nil ?_
  exact ⟨rfl, hre _ hH0 hH1⟩
def pOff : PSpec := ⟨fun xs => ∃ (c : List Deed) (day pe : Int) (inn : Bool), xs = [.agg [.sl (c.map encD), vInt day], vInt pe, .bool inn] ∧ c.length ≤ 60 ∧ ∀ d ∈ c, kindOk d,
 fun xs => match xs with | [.agg [.sl c, .int _ day], .int _ pe, .bool inn] => .tup [vInt (offFind (thrL (c.map decD) 0 pe) inn day).1, .bool (offFind (thrL (c.map decD) 0 pe) inn day).2] | _ => .bool false, true⟩
theorem pOff_fn (c : List Deed) (day pe : Int) (inn : Bool) : pOff.fn [.agg [.sl (c.map encD), vInt day], vInt pe, .bool inn] = .tup [vInt (offFind (thrL c 0 pe) inn day).1, .bool (offFind (thrL c 0 pe) inn day).2] := by
 simp only [pOff, decD_map]
theorem offLp_end (t : List Deed) (inn : Bool) (day : Int) : (offLp t inn day).fam [] (offLp t inn day).e = [.box [.v (vInt (offFind t inn day).1)], .box [.v (.bool (offFind t inn day).2)]] ∧
  (offLp t inn day).pd = if (offFind t inn day).2 then some .ret else none := by
 unfold Lp.e Lp.pd offFind
 have hn : (offLp t inn day).n = (mayN t day).length := rfl
 have hst : ∀ s, (offLp t inn day).st s = offSt t inn day s := fun _ => rfl
 have hfm : ∀ s, (offLp t inn day).fam [] s = offFam t inn day s := fun _ => rfl
 simp only [hn, hst, hfm]
 cases hf : (mayN t day).find? (fun n => (stA t n).o == inn) with
 | none =>
  have hno : ∀ s, s < (mayN t day).length → offSt t inn day s = none := fun s hs => by
   have := List.find?_eq_none.1 hf _ (List.getElem_mem hs)
   unfold offSt
   rw [List.getD_eq_getElem?_getD, List.getElem?_eq_getElem hs, Option.getD_some, if_neg this]
  have hg : (List.range (mayN t day).length).find? (fun s => (offSt t inn day s).isSome) = none := List.find?_eq_none.2 fun s hs => by rw [hno s (List.mem_range.1 hs)]; decide
  rw [hg]
  refine ⟨?_, rfl⟩
  cases hl : (mayN t day).length with
  | zero => rfl
  | succ s =>
   have := hno s (by omega)
   unfold offSt at this
   simp only [offFam]
   split
   ·rename_i h; rw [if_pos h] at this; cases this
   ·rfl
 | some n =>
  obtain ⟨h1, i, hi, h2, h3⟩ := List.find?_eq_some_iff_getElem.1 hf
  have hgd : ∀ j (hj : j < (mayN t day).length), (mayN t day).getD j 0 = (mayN t day)[j] := fun j hj => by rw [List.getD_eq_getElem?_getD, List.getElem?_eq_getElem hj]; rfl
  have hsi : offSt t inn day i = some .ret := by unfold offSt; rw [hgd i hi, h2, if_pos h1]
  have hg : (List.range (mayN t day).length).find? (fun s => (offSt t inn day s).isSome) = some i := by
   rw [List.find?_eq_some_iff_getElem]
   refine ⟨by rw [hsi]; rfl, i, by simpa using hi, by simp, fun j hj => ?_⟩
   have := h3 j hj
   have hjl : j < (mayN t day).length := by omega
   simp only [List.getElem_range]
   unfold offSt
   rw [hgd j hjl, if_neg (by simpa using this)]
   rfl
  rw [hg]
  refine ⟨?_, hsi⟩
  simp only [offFam, hgd i hi, h2, h1, if_true]
set_option maxHeartbeats 4000000 in
theorem s159 : PSound Tryz.prog 159 pOff := by
 refine psoundB (rs := [.cell 6 3, .cell 7 4]) Tryz.func159 Tryz.ntmps159 (by rfl) (by kernel_rfl) (by decide) (by rintro _ xs ⟨c, day, pe, inn, rfl, _⟩; rw [pOff_fn]; rfl) ⟨_, rfl, ?_⟩
 rintro xs ⟨c, day, pe, inn, rfl, hl, hk⟩ hw
 refine ⟨lb rfl, ?_⟩
 rw [pOff_fn]
 have hlt : (thrL c 0 pe).length ≤ 60 := Nat.le_trans (List.length_filter_le _ _) hl
 have hkt : ∀ d ∈ thrL c 0 pe, kindOk d := fun d hd => hk d (List.mem_filter.1 hd).1
 have hth := fun (obj : Name → Option O) (t : Name) (f : List Deed → Int → Int → V) (fl : Bool) (a b : Int) => sLII_app (P := fun l => l.length ≤ 60) (f := f) (fl := fl) (obj := obj) (t := t) (l := c) (k := a) (j := b) hl
 generalize htt : thrL c 0 pe = t at *
 obtain ⟨Γ, hΓ, h86, h147, h165⟩ : ∃ Γ : FuncId → Option Spec, (∀ f s, Γ f = some s → SSound Tryz.prog f s) ∧ Γ 86 = some (sLII (fun l => l.length ≤ 60) (fun l lo pe => .sl ((thrL l lo pe).map encD)) false) ∧
   Γ 147 = some (sLI (fun _ => True) (fun l k => .clo (.func 165) [] [.ptr [.sl (l.map encD)], .ptr [vInt k]]) false) ∧ Γ 165 = some ((offLp t inn day).it [.ptr [.sl (t.map encD)], .ptr [vInt day]]).toSpec := by
  refine ⟨fun f => match f with | 86 => some (sLII (fun l => l.length ≤ 60) (fun l lo pe => .sl ((thrL l lo pe).map encD)) false) | 147 => some (sLI (fun _ => True) (fun l k => .clo (.func 165) [] [.ptr [.sl (l.map encD)], .ptr [vInt k]]) false) | 165 => some ((offLp t inn day).it [.ptr [.sl (t.map encD)], .ptr [vInt day]]).toSpec | _ => none, ?_, rfl, rfl, rfl⟩
  intro f s h
  dsimp only at h
  split at h
  ·cases h; exact s86.sound
  ·cases h; exact s147.sound
  ·cases h; exact iter165 (offLp_ok t inn day) (offLp_y t inn day) hlt hkt rfl rfl
  ·cases h
 have hP := mixedK
 have hst := fun (obj : Name → Option O) (tm : Name) (f : List Deed → Int → V) (fl : Bool) => sLI_app (P := fun _ => True) (f := f) (fl := fl) (obj := obj) (t := tm) (l := t) (k := day) trivial
 repeat refine sq ?_
 refine cl_rs hΓ [1,3,5,6,7] [[3, 0],[5, 0],[6, 0],[7, 0]] fun K' hK => ?_
 simp only [go_sem]
 repeat refine ⟨ob, ?_⟩
 refine hK _ ?_ ?_ <;> clear K' hK <;> simp only [go_sem]
 repeat refine sq ?_
 refine cl_ds hΓ hP [[], [0], [], [0, 1, 2], [], [4], [0, 1, 2, 3, 4, 5]] [5,6,7,16] [[5, 0],[6, 0],[7, 0]] (by kernel_rfl) fun K' hK => ?_
 simp only [go_sem, h86, h147, hth, htt, hst]
 repeat refine ⟨ob, ?_⟩
 first | refine ⟨by rfl, ?_⟩ | skip
 refine hK _ ?_ ?_ <;> clear K' hK <;> simp only [go_sem, h86, h147, hth, htt, hst]
 refine cl_weakM (σ' := mkS 24 [0] (fun _ => none) [(5, ⟨true, .v (.ptr [.bool inn])⟩), (6, ⟨true, .ref [6, 0] 0⟩), (7, ⟨true, .ref [7, 0] 0⟩), (16, ⟨true, .v (.clo (.func 165) [] [.ptr [.sl (t.map encD)], .ptr [vInt day]])⟩)] [([6, 0], .box [.v (vInt 0)]), ([7, 0], .box [.v (.bool false)])]) (weakM_frzk 5 (.ref [5, 0] 0) (by simp only [go_sem]) (by simp only [go_sem]) [5, 6, 7, 16] [[6, 0],[7, 0]] ?_ ?_) ?_
 ·simp only [go_sem]
 ·simp only [go_sem]
 repeat refine sq ?_
 refine cl_block ?_
 repeat refine sq ?_
 refine cl_iter hΓ (offLp_ok t inn day) 30 31 (f := 165) (Ls := [[6, 0], [7, 0]]) rfl rfl (by decide) h165 rfl rfl rfl rfl rfl rfl (by decide) (show ([30, 0] : Name) ∉ [[6, 0], [7, 0]] by decide) ⟨rfl, rfl, trivial⟩ fun o => ?_
 obtain ⟨hfe, hpd⟩ := offLp_end t inn day
 have hfe' : (offLp t inn day).fam [[6, 0], [7, 0]] (offLp t inn day).e = [.box [.v (vInt (offFind t inn day).1)], .box [.v (.bool (offFind t inn day).2)]] := hfe
 rw [hpd, hfe']
 have hff : (offFind t inn day).2 = false → offFind t inn day = (0, false) := by
  unfold offFind
  split
  ·intro h; cases h
  ·intro _; rfl
 generalize offFind t inn day = fd at hff ⊢
 obtain ⟨fn, fb⟩ := fd
 cases fb with
 | true =>
  show blockK 0 _ .ret _
  simp only [go_sem, setLs, pdK]
 | false =>
  cases hff rfl
  have hpn : (if ((0, false) : Int × Bool).2 = true then some Code.ret else none) = none := rfl
  rw [hpn]
  simp only [pdK, thenK]
  refine cl_nil ?_
  show CL Tryz.prog (_ :: _) _ _
  refine cl_keep [6,7] [[6, 0],[7, 0]] ?_ ?_
  ·simp only [go_sem, setLs]
  simp only [go_sem, setLs]
  repeat refine sq ?_
  refine cl_rs hΓ [6,7] [[6, 0],[7, 0]] fun K' hK => ?_
  simp only [go_sem]
  repeat refine ⟨ob, ?_⟩
  refine hK _ ?_ ?_ <;> clear K' hK <;> simp only [go_sem]
  refine cl_ret ?_
  simp only [go_sem]
def pdd (r : Lp) (k : Nat) : Option Code := if k = 0 then none else r.st (k - 1)
def live (r : Lp) (k : Nat) : Prop := k ≤ r.n ∧ ∀ j, j < k → r.st j = none
def stopB (r : Lp) (k : Nat) : Bool := (pdd r (min k r.e)).isSome
theorem live_pd {r : Lp} {k : Nat} (h : live r k) : pdd r k = none := by
 unfold pdd
 split
 ·rfl
 ·exact h.2 _ (by omega)
theorem e_cases (r : Lp) : (r.e = r.n ∧ r.pd = none ∧ ∀ j, j < r.n → r.st j = none) ∨ ∃ s, s < r.n ∧ r.e = s + 1 ∧ r.pd = r.st s ∧ (r.st s).isSome = true ∧ ∀ j, j < s → r.st j = none := by
 unfold Lp.e Lp.pd
 cases hf : (List.range r.n).find? (fun s => (r.st s).isSome) with
 | none =>
  refine .inl ⟨rfl, rfl, fun j hj => ?_⟩
  have := List.find?_eq_none.1 hf j (List.mem_range.2 hj)
  cases h : r.st j with
  | none => rfl
  | some _ => rw [h] at this; exact (this rfl).elim
 | some s =>
  obtain ⟨h1, i, hi, h2, h3⟩ := List.find?_eq_some_iff_getElem.1 hf
  have hi' : i < r.n := by simpa using hi
  have e0 : i = s := by simpa using h2
  subst e0
  refine .inr ⟨i, hi', rfl, rfl, h1, fun j hj => ?_⟩
  have := h3 j hj
  simp only [List.getElem_range] at this
  cases h : r.st j with
  | none => rfl
  | some _ => rw [h] at this; cases this
theorem pdd_e (r : Lp) : pdd r r.e = r.pd := by
 rcases e_cases r with ⟨h1, h2, h3⟩ | ⟨s, h1, h2, h3, _⟩
 ·rw [h1, h2]
  unfold pdd
  split
  ·rfl
  ·exact h3 _ (by omega)
 ·rw [h2, h3]
  rfl
theorem live_e {r : Lp} {k : Nat} (h : live r k) : k ≤ r.e := by
 rcases e_cases r with ⟨h1, _⟩ | ⟨s, h1, h2, h3, h4, _⟩
 ·rw [h1]; exact h.1
 ·rw [h2]
  rcases Nat.lt_or_ge s k with h5 | h5
  ·rw [h.2 s h5] at h4; cases h4
  ·omega
theorem lt_live {r : Lp} {k : Nat} (h : k < r.e) : live r k := by
 rcases e_cases r with ⟨h1, _, h3⟩ | ⟨s, h1, h2, h3, h4, h5⟩
 ·exact ⟨by omega, fun j hj => h3 j (by omega)⟩
 ·exact ⟨by omega, fun j hj => h5 j (by omega)⟩
theorem stop_iff {r : Lp} {k : Nat} : stopB r k = true ↔ r.e ≤ k ∧ r.pd.isSome = true := by
 unfold stopB
 rcases Nat.lt_or_ge k r.e with h | h
 ·rw [Nat.min_eq_left (Nat.le_of_lt h), live_pd (lt_live h)]
  simp; omega
 ·rw [Nat.min_eq_right h, pdd_e]
  simp [h]
theorem go_live {r : Lp} {k : Nat} (hk : k ≤ r.n) (h : stopB r k = false) : live r k := by
 rcases Nat.lt_or_ge k r.e with h1 | h1
 ·exact lt_live h1
 ·have h2 : r.pd.isSome = false := by
   cases hp : r.pd.isSome with
   | false => rfl
   | true => rw [stop_iff.2 ⟨h1, hp⟩] at h; cases h
  rcases e_cases r with ⟨_, _, h3⟩ | ⟨s, _, _, h4, h5, _⟩
  ·exact ⟨hk, fun j hj => h3 j (by omega)⟩
  ·rw [h4, h5] at h2; cases h2
theorem live_go {r : Lp} {k : Nat} (h : live r k) : stopB r k = false := by
 unfold stopB
 rw [Nat.min_eq_left (live_e h), live_pd h]
 rfl
theorem live_next {r : Lp} {k : Nat} (h : live r k) (hk : k < r.n) : min (k + 1) r.e = k + 1 ∧ pdd r (k + 1) = r.st k := by
 refine ⟨?_, rfl⟩
 rcases e_cases r with ⟨h1, _⟩ | ⟨s, h1, h2, h3, h4, h5⟩
 ·omega
 ·rcases Nat.lt_or_ge s k with h6 | h6
  ·rw [h.2 s h6] at h4; cases h4
  ·omega
def recP (r : Lp) (Ls : List Name) (k : Nat) : O := r.rc Ls (if (pdd r k).isNone then .ready else .done) (pdd r k)
def wFam (r : Lp) (Ls : List Name) (k : Nat) : List O := .box [.yld (Ls.getD 1 [])] :: recP r (Ls.drop 2) k :: r.fam (Ls.drop 2) k
noncomputable def wLp (r : Lp) (en : Name → List E) (cd : Array Tmp × Code × Code) (n base w : Nat) (vals : Nat → List D) : Lp where
 m := r.m + 2
 env := fun Ls => en (Ls.getD 0 [])
 fam := fun Ls s => wFam r Ls (min (base + s * w) r.e)
 ps := cd.1.toList
 asg := cd.2.1
 body := cd.2.2
 n := n
 vals := vals
 st := fun s => if stopB r (base + (s + 1) * w) then some .ret else none
 fu := r.fu + 2
structure EnOk (en : Name → List E) (ps : List Nat) (vals : Nat → List D) (n : Nat) : Prop where
 ren : ∀ f nm, (en nm).map (E.ren f) = en (f nm)
 nam : ∀ nm, namesL ((en nm).map (·.d)) = [nm]
 clo : ∀ dom nm, dom nm = true → D.closL dom ((en nm).map (·.d)) = true
 psz : ∀ nm, (ps.all fun p => decide (p < (en nm).length)) = true
 args : ∀ s, (vals s).length = ps.length
 vnam : ∀ s, namesL (vals s) = []
 vcl : ∀ s dom, D.closL dom (vals s) = true
 vren : ∀ s f, D.renL f (vals s) = vals s
 inj : ∀ s s', s < n → s' < n → vals s = vals s' → s = s'
theorem names2 {Ls : List Name} {m : Nat} (h : Ls.length = m + 2) : ∃ a b xs, Ls = a :: b :: xs ∧ xs.length = m := by
 match Ls, h with
 | a :: b :: xs, h => exact ⟨a, b, xs, rfl, by simpa using h⟩
theorem wFam_len {r : Lp} (hr : r.Ok) {Ls : List Name} (h : Ls.length = r.m + 2) (k : Nat) : (wFam r Ls k).length = r.m + 2 := by
 obtain ⟨a, b, xs, rfl, hx⟩ := names2 h
 simp only [wFam, List.length_cons, List.drop_succ_cons, List.drop_zero, hr.len xs k hx]
theorem wLp_ok {r : Lp} (hr : r.Ok) (hfu : r.fu ≤ 1900) {en : Name → List E} {cd : Array Tmp × Code × Code} {n base w : Nat} {vals : Nat → List D} (he : EnOk en cd.1.toList vals n) : (wLp r en cd n base w vals).Ok where
 len := fun Ls s h => wFam_len hr h _
 renE := fun f Ls h => by
  obtain ⟨a, b, xs, rfl, hx⟩ := names2 h
  exact he.ren f a
 renF := fun f Ls s h => by
  obtain ⟨a, b, xs, rfl, hx⟩ := names2 h
  show (wFam r (a :: b :: xs) _).map (O.ren f) = wFam r (f a :: f b :: xs.map f) _
  simp only [wFam, List.map_cons, O.ren, D.renL, D.ren, List.getD_cons_succ, List.getD_cons_zero, List.drop_succ_cons, List.drop_zero, hr.renF f xs _ hx, recP, Lp.rc, hr.renE f xs hx]
 reach := fun Ls s obj acc k h hn hd hF => by
  obtain ⟨a, b, xs, rfl, hx⟩ := names2 h
  show reachL obj (k + (r.fu + 2)) (namesL ((en a).map (·.d))) acc = _
  obtain ⟨h1, h2, h3⟩ := (show objAll obj (a :: b :: xs) (wFam r (a :: b :: xs) (min (base + s * w) r.e)) from hF)
  simp only [List.getD_cons_succ, List.getD_cons_zero, List.drop_succ_cons, List.drop_zero] at h1 h2 h3
  rw [List.nodup_cons, List.nodup_cons] at hn
  rw [he.nam, show k + (r.fu + 2) = (k + r.fu + 1) + 1 by omega, reachL_new (hd a (by simp)) h1]
  have hb : b ∉ acc ++ [a] := by
   simp only [List.mem_append, List.mem_singleton, not_or]
   exact ⟨hd b (by simp), fun e => hn.1 (by simp [e])⟩
  show reachL obj (k + r.fu + 1) [b] _ = _
  rw [reachL_new hb h2]
  have hnm : namesO (recP r xs (min (base + s * w) r.e)) = namesL ((r.env xs).map (·.d)) := rfl
  rw [hnm, List.append_nil, hr.reach xs _ obj (acc ++ [a] ++ [b]) k hx hn.2.2 (fun x hx' => by
   simp only [List.mem_append, List.mem_singleton, not_or]
   exact ⟨⟨hd x (by simp [hx']), fun e => hn.1 (by simp [← e, hx'])⟩, fun e => hn.2.1 (by rw [← e]; exact hx')⟩) h3]
  simp
 closE := fun dom Ls h hd => by
  obtain ⟨a, b, xs, rfl, hx⟩ := names2 h
  exact he.clo dom a (hd a (by simp))
 closF := fun dom Ls s h hd o ho => by
  obtain ⟨a, b, xs, rfl, hx⟩ := names2 h
  have hdx : ∀ x ∈ xs, dom x = true := fun x hx' => hd x (by simp [hx'])
  simp only [wLp, wFam, List.getD_cons_succ, List.getD_cons_zero, List.drop_succ_cons, List.drop_zero, List.mem_cons] at ho
  rcases ho with rfl | rfl | ho
  ·simp [O.clos, D.closL, D.clos, hd b (by simp)]
  ·exact hr.closE dom xs hx hdx
  ·exact hr.closF dom xs _ hx hdx o ho
 psz := fun Ls h => he.psz _
 args := he.args
 fuel := (show r.fu + 2 ≤ 2000 by omega)
 vnam := he.vnam
 vcl := he.vcl
 vren := he.vren
 inj := he.inj
theorem w_live {r : Lp} {en : Name → List E} {cd : Array Tmp × Code × Code} {n base w : Nat} {vals : Nat → List D} (hb : live r base) (hn : base + n * w ≤ r.n) {s : Nat} (hs : s ≤ n) (h : ∀ j, j < s → (wLp r en cd n base w vals).st j = none) : live r (base + s * w) := by
 cases s with
 | zero => simpa using hb
 | succ s =>
  have h1 : (if stopB r (base + (s + 1) * w) then some Code.ret else none) = none := h s (by omega)
  have h2 : stopB r (base + (s + 1) * w) = false := by
   cases hst : stopB r (base + (s + 1) * w) with
   | false => rfl
   | true => rw [hst] at h1; cases h1
  refine go_live (Nat.le_trans (Nat.add_le_add_left (Nat.mul_le_mul_right w hs) base) hn) h2
theorem w_end {r : Lp} {en : Name → List E} {cd : Array Tmp × Code × Code} {n base w : Nat} {vals : Nat → List D} (hb : live r base) (Ls : List Name) :
  (wLp r en cd n base w vals).fam Ls (wLp r en cd n base w vals).e = wFam r Ls (min (base + n * w) r.e) ∧ (wLp r en cd n base w vals).pd = if stopB r (base + n * w) then some .ret else none := by
 rcases e_cases (wLp r en cd n base w vals) with ⟨h1, h2, h3⟩ | ⟨s, h1, h2, h3, h4, _⟩
 ·refine ⟨by rw [h1]; rfl, ?_⟩
  rw [h2]
  have : stopB r (base + n * w) = false := by
   cases n with
   | zero => simpa using live_go hb
   | succ k =>
    have h5 : (if stopB r (base + (k + 1) * w) then some Code.ret else none) = none := h3 k (by show k < k + 1; omega)
    cases hst : stopB r (base + (k + 1) * w) with
    | false => rfl
    | true => rw [hst] at h5; cases h5
  rw [this]
  rfl
 ·have hst : (wLp r en cd n base w vals).st s = if stopB r (base + (s + 1) * w) then some Code.ret else none := rfl
  have h5 : stopB r (base + (s + 1) * w) = true := by
   cases hx : stopB r (base + (s + 1) * w) with
   | true => rfl
   | false => rw [hst, hx] at h4; cases h4
  have h1' : s < n := h1
  have h6 : base + (s + 1) * w ≤ base + n * w := Nat.add_le_add_left (Nat.mul_le_mul_right w (by omega)) base
  obtain ⟨h7, h8⟩ := stop_iff.1 h5
  have h9 : stopB r (base + n * w) = true := stop_iff.2 ⟨by omega, h8⟩
  refine ⟨?_, by rw [h3, hst, h5, h9]⟩
  rw [h2]
  show wFam r Ls (min (base + (s + 1) * w) r.e) = _
  rw [Nat.min_eq_right h7, Nat.min_eq_right (by omega)]
@[go_sem] theorem ta150 : tAgg Tryz.prog 150 = some (true, 9) := by kernel_rfl
@[go_sem] theorem tr150 : tArr Tryz.prog 150 = some (3, 3, true) := by kernel_rfl
@[go_sem] theorem tp150 : tPlaces Tryz.prog 150 = some [(0, 3), (3, 3), (6, 3)] := by kernel_rfl
@[go_sem] theorem tz150 : tZero Tryz.prog 150 = some (.agg #[(.int .i64 0), (.int .i64 0), (.bool false), (.int .i64 0), (.int .i64 0), (.bool false), (.int .i64 0), (.int .i64 0), (.bool false)]) := by kernel_rfl
@[go_sem] theorem ta152 : tAgg Tryz.prog 152 = some (true, 15) := by kernel_rfl
@[go_sem] theorem tp152 : tPlaces Tryz.prog 152 = some [(0, 3), (3, 3), (6, 9)] := by kernel_rfl
@[go_sem] theorem tz152 : tZero Tryz.prog 152 = some (.agg #[(.int .i64 0), (.int .i64 0), (.int .i64 0), (.int .i64 0), (.int .i64 0), (.int .i64 0), (.int .i64 0), (.int .i64 0), (.bool false), (.int .i64 0), (.int .i64 0), (.bool false), (.int .i64 0), (.int .i64 0), (.bool false)]) := by kernel_rfl
@[go_sem] theorem tf152_0 : tField Tryz.prog 152 0 = some (0, 3, true) := by kernel_rfl
@[go_sem] theorem tf152_1 : tField Tryz.prog 152 1 = some (3, 3, true) := by kernel_rfl
@[go_sem] theorem tf152_2 : tField Tryz.prog 152 2 = some (6, 9, true) := by kernel_rfl
@[go_sem] theorem ta51 : tAgg Tryz.prog 51 = some (true, 3) := by kernel_rfl
@[go_sem] theorem tr51 : tArr Tryz.prog 51 = some (3, 1, false) := by kernel_rfl
@[go_sem] theorem tp51 : tPlaces Tryz.prog 51 = some [(0, 1), (1, 1), (2, 1)] := by kernel_rfl
@[go_sem] theorem tz51 : tZero Tryz.prog 51 = some (.agg #[(.int .i64 0), (.int .i64 0), (.int .i64 0)]) := by kernel_rfl
@[go_sem] theorem ta198 : tAgg Tryz.prog 198 = some (false, 1) := by kernel_rfl
def rngIn (c : Code) : Array Tmp × Code × Code := (rngD c).getD (#[], .skip, .skip)
noncomputable def cdA : Array Tmp × Code × Code := rngOf Tryz.f177
noncomputable def cdB : Array Tmp × Code × Code := rngIn (rngOf Tryz.f177).2.2
noncomputable def cdC : Array Tmp × Code × Code := rngIn (rngIn (rngOf Tryz.f177).2.2).2.2
def wayD (a b c : Nat) (x y z : Sta) : D := .agg [.v (vInt a), .v (vInt b), .v (vInt c), .v (vInt 0), .v (vInt 0), .v (vInt 0), .v (vInt x.h), .v (vInt x.n), .v (.bool x.o), .v (vInt y.h), .v (vInt y.n), .v (.bool y.o), .v (vInt z.h), .v (vInt z.n), .v (.bool z.o)]
def staP (x : Sta) : V := .ptr [vInt x.h, vInt x.n, .bool x.o]
def enC (c : List Deed) (day : Int) (a b : Nat) (x y : Sta) (cl : V) (nm : Name) : List E :=
 (List.range 45).map (ofL eAny [(1, ⟨true, .v (.ptr [.sl (c.map encD), vInt day])⟩), (2, ⟨true, .ref nm 0⟩), (3, ⟨true, .v (.ptr [vInt a])⟩), (4, ⟨true, .v (staP x)⟩), (5, ⟨true, .v (.ptr [vInt b])⟩), (6, ⟨true, .v (staP y)⟩), (30, ⟨true, .v cl⟩)])
theorem enC_ok (c : List Deed) (day : Int) (a b : Nat) (x y : Sta) (cl : V) (t : List Deed) : EnOk (enC c day a b x y cl) cdC.1.toList (stVals t day) (mayN t day).length where
 ren := fun f nm => rfl
 nam := fun nm => rfl
 clo := fun dom nm h => by simp [enC, List.range, List.range.loop, ofL, D.closL, D.clos, eAny, h]
 psz := fun nm => by rfl
 args := fun s => by rfl
 vnam := fun _ => rfl
 vcl := fun _ _ => rfl
 vren := fun _ _ => rfl
 inj := stVals_inj
theorem setLs_cong {x : Name} : ∀ {Ls : List Name} {F : List O} {A B : Name → Option O}, A x = B x → setLs Ls F A x = setLs Ls F B x
 | [], _, _, _, h => by simpa [setLs] using h
 | _ :: _, [], _, _, h => by simpa [setLs] using h
 | y :: ys, f :: fs, A, B, h => by
  simp only [setLs]
  exact setLs_cong (upd_cong h)
def X2 (m : Nat) : List Name := (LR (m + 2)).drop 2
theorem LR2 (m : Nat) : LR (m + 2) = [0, 1] :: [1, 1] :: X2 m := by
 unfold X2
 have h : 0 < (LR (m + 2)).length := by simp [LR]
 have h1 : 1 < (LR (m + 2)).length := by simp [LR]
 have e : LR (m + 2) = (LR (m + 2))[0] :: (LR (m + 2))[1] :: (LR (m + 2)).drop 2 := by
  rw [← List.drop_eq_getElem_cons h1, ← List.drop_eq_getElem_cons h, List.drop_zero]
 have e0 : (LR (m + 2))[0] = [0, 1] := by simp [LR]
 have e1 : (LR (m + 2))[1] = [1, 1] := by simp [LR]
 rw [e0, e1] at e
 exact e
theorem X2_len (m : Nat) : (X2 m).length = m := by simp [X2, LR]
theorem X2_nodup (m : Nat) : ([0, 1] : Name) ≠ [1, 1] ∧ [0, 1] ∉ X2 m ∧ [1, 1] ∉ X2 m ∧ (X2 m).Nodup := by
 have h := LR_nodup (m + 2)
 rw [LR2, List.nodup_cons, List.nodup_cons] at h
 exact ⟨by decide, fun h' => h.1 (List.mem_cons_of_mem _ h'), h.2.1, h.2.2⟩
theorem X2_out {m : Nat} {x : Name} (h : x ∈ X2 m) : isOut x = true := by
 have h1 : x ∈ LR (m + 2) := List.mem_of_mem_drop h
 obtain ⟨i, _, rfl⟩ := List.mem_map.1 h1
 rfl
theorem outH_all {F : List O} : objAll (outH F) (LR F.length) F := by
 rw [objAll_iff]
 refine List.ext_getElem (by simp [LR]) fun i h1 h2 => ?_
 have h3 : i < F.length := by simpa using h2
 simp only [List.getElem_map, LR, List.getElem_range, outH]
 exact List.getElem?_eq_getElem h3
set_option maxHeartbeats 4000000 in
theorem wC_y {r : Lp} (hr : r.Ok) (hfu : r.fu ≤ 1900) (hy : SSound Tryz.prog yid r.y.toSpec) (c : List Deed) (day : Int) (a b : Nat) (x y : Sta) (cl : V) (t : List Deed) {base : Nat} (hb : live r base) (hn : base + (mayN t day).length * 1 ≤ r.n)
  (hv : ∀ l, l < (mayN t day).length → r.vals (base + l) = [wayD a b ((mayN t day).getD l 0) x y (stA t ((mayN t day).getD l 0))]) :
  SSound Tryz.prog yid (wLp r (enC c day a b x y cl) cdC (mayN t day).length base 1 (stVals t day)).y.toSpec := by
 refine Lp.y_sound (wLp_ok hr hfu (enC_ok c day a b x y cl t)) fun l hl hj => ?_
 have hl' : l < (mayN t day).length := hl
 have hlv := w_live hb hn (Nat.le_of_lt hl') hj
 have hln : base + l * 1 < r.n := by omega
 have hmin := Nat.min_eq_left (live_e hlv)
 obtain ⟨hnx1, hnx2⟩ := live_next hlv hln
 have hk0 : base + l = base + l * 1 := by omega
 have hk1' : base + (l + 1) * 1 = base + l * 1 + 1 := by omega
 have hvk := hv l hl'
 rw [hk0] at hvk
 have hst0 : ∀ s, (wLp r (enC c day a b x y cl) cdC (mayN t day).length base 1 (stVals t day)).st s = if stopB r (base + (s + 1) * 1) then some .ret else none := fun _ => rfl
 have hfm0 : ∀ Ls s, (wLp r (enC c day a b x y cl) cdC (mayN t day).length base 1 (stVals t day)).fam Ls s = wFam r Ls (min (base + s * 1) r.e) := fun _ _ => rfl
 obtain ⟨k, hk2⟩ : ∃ k, base + l * 1 = k := ⟨_, rfl⟩
 rw [hk2] at hlv hln hmin hnx1 hnx2 hk1' hvk
 obtain ⟨n, hn'⟩ : ∃ n, n = (mayN t day).getD l 0 := ⟨_, rfl⟩
 rw [← hn'] at hvk
 have hst : (wLp r (enC c day a b x y cl) cdC (mayN t day).length base 1 (stVals t day)).st l = if (r.st k).isSome then some .ret else none := by
  rw [hst0, hk1']
  unfold stopB
  rw [hnx1, hnx2]
 have hf1 : (wLp r (enC c day a b x y cl) cdC (mayN t day).length base 1 (stVals t day)).fam (LR (r.m + 2)) (l + 1) = wFam r (LR (r.m + 2)) (k + 1) := by
  rw [hfm0, hk1', hnx1]
 have hf0 : (wLp r (enC c day a b x y cl) cdC (mayN t day).length base 1 (stVals t day)).fam (LR (r.m + 2)) l = wFam r (LR (r.m + 2)) k := by
  rw [hfm0, hk2, hmin]
 have hvl : (wLp r (enC c day a b x y cl) cdC (mayN t day).length base 1 (stVals t day)).vals l = [.v (vInt n), .v (encS (stA t n))] := by rw [hn']; rfl
 have hm : (wLp r (enC c day a b x y cl) cdC (mayN t day).length base 1 (stVals t day)).m = r.m + 2 := rfl
 rw [hm, hf0, hf1, hst, hvl]
 have hpk : pdd r k = none := live_pd hlv
 clear hf0 hf1 hst hvl hm hmin hnx1 hj hst0 hfm0
 obtain ⟨hX1, hX2, hX3, hX4⟩ := X2_nodup r.m
 have hXl := X2_len r.m
 have hF : objAll (outH (wFam r (LR (r.m + 2)) k)) (LR (r.m + 2)) (wFam r (LR (r.m + 2)) k) := by
  have := outH_all (F := wFam r (LR (r.m + 2)) k)
  rwa [wFam_len hr (LR_len _)] at this
 have hO : ∀ hs, OutC [0] (domOf [0] hs) (outH (wFam r (LR (r.m + 2)) k)) = True := fun hs => eq_true (outC_outs (fun o ho dom hd => (wLp_ok (n := (mayN t day).length) (base := k) (w := 0) hr hfu (enC_ok c day a b x y cl t)).closF dom (LR (r.m + 2)) 0 (LR_len _) (fun x hx => by
  obtain ⟨i, _, rfl⟩ := List.mem_map.1 hx
  exact hd i) o (by
   show o ∈ wFam r _ (min k r.e)
   rw [Nat.min_eq_left (live_e hlv)]; exact ho)) hs)
 generalize outH (wFam r (LR (r.m + 2)) k) = H at hF hO ⊢
 have hen : (wLp r (enC c day a b x y cl) cdC (mayN t day).length base 1 (stVals t day)).env (LR (r.m + 2)) = enC c day a b x y cl [0, 1] := by
  show enC c day a b x y cl ((LR (r.m + 2)).getD 0 []) = _
  rw [LR2]
  rfl
 have hcd : cdC = (_, _, _) := rfl
 have hps : (wLp r (enC c day a b x y cl) cdC (mayN t day).length base 1 (stVals t day)).ps = [31, 32] := rfl
 have hasg : (wLp r (enC c day a b x y cl) cdC (mayN t day).length base 1 (stVals t day)).asg = cdC.2.1 := rfl
 have hbody : (wLp r (enC c day a b x y cl) cdC (mayN t day).length base 1 (stVals t day)).body = cdC.2.2 := rfl
 have hwf : wFam r (LR (r.m + 2)) k = .box [.yld [1, 1]] :: r.rc (X2 r.m) .ready none :: r.fam (X2 r.m) k := by
  rw [LR2]
  simp only [wFam, recP, hpk, List.getD_cons_succ, List.getD_cons_zero, List.drop_succ_cons, List.drop_zero]
  rfl
 have hwf1 : wFam r (LR (r.m + 2)) (k + 1) = .box [.yld [1, 1]] :: r.rc (X2 r.m) (if (r.st k).isNone then .ready else .done) (r.st k) :: r.fam (X2 r.m) (k + 1) := by
  rw [LR2]
  simp only [wFam, recP, hnx2, List.getD_cons_succ, List.getD_cons_zero, List.drop_succ_cons, List.drop_zero]
 rw [hen, hps, hasg, hbody, hwf1, hcd]
 dsimp only
 rw [hwf, LR2] at hF
 obtain ⟨hH0, hH1, hHX⟩ := hF
 have hXo : ∀ x ∈ X2 r.m, own [0] x = false := fun x hx => by
  obtain ⟨i, rfl⟩ := isOut_iff.1 (X2_out hx)
  exact own_out01 i
 have hyd : ∀ (G : Name → Option O) (tm : Name), r.y.toSpec.app (fun nm => if own [0] nm = true then G nm else H nm) tm (.yld [1, 1] :: [wayD a b n x y (stA t n)]) =
   ⟨True, .v (.bool (r.st k).isNone), upd (setLs (X2 r.m) (r.fam (X2 r.m) (k + 1)) (fun nm => if own [0] nm = true then G nm else H nm)) [1, 1] (some (r.rc (X2 r.m) (if (r.st k).isNone then .ready else .done) (r.st k)))⟩ := by
  intro G tm
  rw [← hvk]
  exact Lp.y_app hr hln hlv.2 hXl hX4 hX3 (by simp only [own_out01, Bool.false_eq_true, if_false]; exact hH1) (objAll_agr hHX fun x hx => by simp only [hXo x hx, Bool.false_eq_true, if_false])
 generalize hrec : r.rc (X2 r.m) (if (r.st k).isNone then .ready else .done) (r.st k) = o1 at hyd ⊢
 generalize hfam : r.fam (X2 r.m) (k + 1) = F1 at hyd ⊢
 have hFl : (X2 r.m).length = F1.length := by rw [← hfam, hr.len _ _ hXl, hXl]
 have hcF : ∀ dom : Name → Bool, (∀ x ∈ X2 r.m, dom x = true) → ∀ o ∈ F1, O.clos dom o = true := by
  rw [← hfam]
  exact fun dom hd => hr.closF _ _ _ hXl hd
 have hO1 : ∀ (G : Name → Option O) hs, OutC [0] (domOf [0] hs) (upd (setLs (X2 r.m) F1 (fun nm => if own [0] nm = true then G nm else H nm)) [1, 1] (some o1)) = True := by
  intro G hs
  refine eq_true fun nm o hn ho => ?_
  have hdX : ∀ x ∈ X2 r.m, domOf [0] hs x = true := fun x hx => by simp [domOf, hXo x hx]
  by_cases e1 : nm = [1, 1]
  ·subst e1
   rw [upd_same] at ho
   cases ho
   rw [← hrec]
   exact hr.closE _ _ hXl hdX
  ·rw [upd_ne _ _ _ e1] at ho
   by_cases e2 : nm ∈ X2 r.m
   ·obtain ⟨i, hi, rfl⟩ := List.getElem_of_mem e2
    have := objAll_get (setLs_all (obj := fun nm => if own [0] nm = true then G nm else H nm) hX4 hFl) i hi (by omega)
    rw [this] at ho
    cases ho
    exact hcF _ hdX _ (List.getElem_mem (by omega))
   ·rw [setLs_ne e2] at ho
    simp only [hn, Bool.false_eq_true, if_false] at ho
    exact ((hO hs).symm ▸ trivial : OutC [0] (domOf [0] hs) H) nm o hn ho
 have hmk : ∀ (G : Name → Option O) l h, mkS 45 [0] (upd (setLs (X2 r.m) F1 (fun nm => if own [0] nm = true then G nm else H nm)) [1, 1] (some o1)) l h = mkS 45 [0] (upd (setLs (X2 r.m) F1 H) [1, 1] (some o1)) l h := by
  intro G l h
  exact mkS_same fun nm hn => upd_cong (setLs_cong (by simp [hn]))
 have hend : ∀ (l : List (Nat × E)) , objAll (mkS 45 [0] (upd (setLs (X2 r.m) F1 H) [1, 1] (some o1)) l []).obj (LR (r.m + 2)) (.box [.yld [1, 1]] :: o1 :: F1) := by
  intro l
  rw [LR2]
  have hob : ∀ x, own [0] x = false → (mkS 45 [0] (upd (setLs (X2 r.m) F1 H) [1, 1] (some o1)) l []).obj x = upd (setLs (X2 r.m) F1 H) [1, 1] (some o1) x := fun x hx => by simp [mkS, hx]
  refine ⟨?_, ?_, objAll_agr (setLs_all (obj := H) hX4 hFl) fun x hx => ?_⟩
  ·rw [hob _ (own_out01 0), upd_ne _ _ _ hX1, setLs_ne hX2]; exact hH0
  ·rw [hob _ (own_out01 1), upd_same]
  ·rw [hob _ (hXo x hx), upd_ne _ _ _ (fun e => hX3 (by rw [← e]; exact hx))]
 generalize hsn : stA t n = z at hyd ⊢
 clear hvk hn' hsn
 obtain ⟨x1, x2, x3⟩ := x
 obtain ⟨y1, y2, y3⟩ := y
 obtain ⟨z1, z2, z3⟩ := z
 simp only [wayD, encS] at hyd ⊢
 obtain ⟨Γ, hΓ, hΓy⟩ : ∃ Γ : FuncId → Option Spec, (∀ f s, Γ f = some s → SSound Tryz.prog f s) ∧ Γ 1000000000 = some r.y.toSpec := by
  refine ⟨fun f => match f with | 1000000000 => some r.y.toSpec | _ => none, ?_, rfl⟩
  intro f s h
  dsimp only at h
  split at h
  ·cases h; exact hy
  ·cases h
 refine cw_weak (weak_to 45 [0] H [(2, ⟨true, .ref [0, 1] 0⟩), (3, ⟨true, .v (.ptr [vInt a])⟩), (4, ⟨true, .v (.ptr [vInt x1, vInt x2, .bool x3])⟩), (5, ⟨true, .v (.ptr [vInt b])⟩), (6, ⟨true, .v (.ptr [vInt y1, vInt y2, .bool y3])⟩), (31, ⟨true, .v (vInt n)⟩), (32, ⟨true, .v (.agg [vInt z1, vInt z2, .bool z3])⟩)] [] rfl rfl (fun _ _ => rfl) ?_ (by simp) ?_ ?_) ?_
 ·intro q hq
  simp only [List.mem_cons, List.not_mem_nil, or_false] at hq
  rcases hq with rfl | rfl | rfl | rfl | rfl | rfl | rfl <;> rfl
 ·simp [D.clos, domOf, own]
 ·rw [hO]; trivial
 refine cl_of ?_
 repeat refine sq ?_
 refine cl_rs hΓ [2,3,4,5,6,7,32] [] fun K' hK => ?_
 simp only [go_sem, hO]
 repeat refine ⟨ob, ?_⟩
 refine hK _ ?_ ?_ <;> clear K' hK <;> simp only [go_sem, hO]
 refine cl_r hΓ fun K' hK => ?_
 simp only [go_sem, tp137, tz137]
 refine ⟨Nat.le_refl _, ?_⟩
 refine hK _ ?_
 clear K' hK
 refine (cw_keep [2, 3, 4, 5, 6, 7, 8] [[8, 0]] ?_ ?_ : CW _ _ _ _)
 ·simp only [go_sem, hO]
 refine cl_of ?_
 simp only [go_sem]
 refine cl_block ?_
 repeat refine sq ?_
 refine cl_rs hΓ [44] [] fun K' hK => ?_
 simp only [go_sem, hO, hH0, hΓy, hyd, tz51, tp51, tz150, tp150, tz152, tp152, tp137, Nat.reduceLeDiff, Nat.le_refl, hO1, hmk]
 repeat refine ⟨ob, ?_⟩
 refine hK _ ?_ ?_ <;> clear K' hK <;> simp only [go_sem, hO, hH0, hΓy, hyd, tz51, tp51, tz150, tp150, tz152, tp152, tp137, Nat.reduceLeDiff, Nat.le_refl, hO1, hmk]
 have hns : (r.st k).isSome = !(r.st k).isNone := by cases r.st k <;> rfl
 repeat refine sq ?_
 refine cl_cond rfl rfl (fun hb => ?_) fun hb => ?_
 ·refine cl_ret ?_
  show retL _ _ _ .ret _
  exact ⟨by rw [hns, hb]; rfl, hend _⟩
 ·refine cl_skip ?_
  refine cl_nil ?_
  simp only [blockK, thenK]
  refine cl_nil ?_
  exact ⟨by rw [hns, hb]; rfl, hend _⟩
theorem out_ne {m i : Nat} : ([i, 0] : Name) ∉ LR m := fun h => by
 obtain ⟨j, _, hj⟩ := List.mem_map.1 h
 simp at hj
theorem objAll_set {Ls : List Name} {F : List O} {obj : Name → Option O} {R : Name} {o : Option O} (hn : Ls.Nodup) (hl : Ls.length = F.length) (hR : R ∉ Ls) : objAll (upd (setLs Ls F obj) R o) Ls F :=
 objAll_agr (setLs_all hn hl) fun x hx => upd_ne _ _ _ (by rintro rfl; exact hR hx)
theorem w_st {r : Lp} {en : Name → List E} {cd : Array Tmp × Code × Code} {n base w : Nat} {vals : Nat → List D} (s : Nat) : (wLp r en cd n base w vals).st s = if stopB r (base + (s + 1) * w) then some .ret else none := rfl
theorem w_fam {r : Lp} {en : Name → List E} {cd : Array Tmp × Code × Code} {n base w : Nat} {vals : Nat → List D} (Ls : List Name) (s : Nat) : (wLp r en cd n base w vals).fam Ls s = wFam r Ls (min (base + s * w) r.e) := rfl
theorem w_env {r : Lp} {en : Name → List E} {cd : Array Tmp × Code × Code} {n base w : Nat} {vals : Nat → List D} : (wLp r en cd n base w vals).env (LR (r.m + 2)) = en [0, 1] := by
 show en ((LR (r.m + 2)).getD 0 []) = _
 rw [LR2]
 rfl
theorem wFam_out {r : Lp} (hr : r.Ok) (k : Nat) : ∀ hs, OutC [0] (domOf [0] hs) (outH (wFam r (LR (r.m + 2)) k)) = True := fun hs => eq_true (outC_outs (fun o ho dom hd => by
 have hdL : ∀ x ∈ LR (r.m + 2), dom x = true := fun x hx => by
  obtain ⟨i, _, rfl⟩ := List.mem_map.1 hx
  exact hd i
 rw [LR2] at ho hdL
 simp only [wFam, List.getD_cons_succ, List.getD_cons_zero, List.drop_succ_cons, List.drop_zero, List.mem_cons] at ho
 have hdx : ∀ x ∈ X2 r.m, dom x = true := fun x hx => hdL x (by simp [hx])
 rcases ho with rfl | rfl | ho
 ·simp [O.clos, D.closL, D.clos, hd]
 ·exact hr.closE dom _ (X2_len _) hdx
 ·exact hr.closF dom _ _ (X2_len _) hdx o ho) hs)
theorem wFam_all {r : Lp} (hr : r.Ok) (k : Nat) : objAll (outH (wFam r (LR (r.m + 2)) k)) (LR (r.m + 2)) (wFam r (LR (r.m + 2)) k) := by
 have := outH_all (F := wFam r (LR (r.m + 2)) k)
 rwa [wFam_len hr (LR_len _)] at this
theorem wayT (c : List Deed) (l : Int) (hl : c.length ≤ 60) (hk : ∀ d ∈ c, kindOk d) : (thrL c l 0).length ≤ 60 ∧ ∀ d ∈ thrL c l 0, kindOk d :=
 ⟨Nat.le_trans (List.length_filter_le _ _) hl, fun d hd => hk d (List.mem_filter.1 hd).1⟩
def cloT (c : List Deed) (l day : Int) : V := .clo (.func 165) [] [.ptr [.sl ((thrL c l 0).map encD)], .ptr [vInt day]]
def nT (c : List Deed) (l day : Int) : Nat := (mayN (thrL c l 0) day).length
def kT (c : List Deed) (l day : Int) (i : Nat) : Nat := (mayN (thrL c l 0) day).getD i 0
def sT (c : List Deed) (l day : Int) (i : Nat) : Sta := stA (thrL c l 0) (kT c l day i)
def vT (c : List Deed) (l day : Int) : Nat → List D := stVals (thrL c l 0) day
def enB (c : List Deed) (day : Int) (a : Nat) (x : Sta) (cl : V) (nm : Name) : List E :=
 (List.range 45).map (ofL eAny [(1, ⟨true, .v (.ptr [.sl (c.map encD), vInt day])⟩), (2, ⟨true, .ref nm 0⟩), (3, ⟨true, .v (.ptr [vInt a])⟩), (4, ⟨true, .v (staP x)⟩), (22, ⟨true, .v cl⟩)])
def enA (c : List Deed) (day : Int) (cl : V) (nm : Name) : List E :=
 (List.range 45).map (ofL eAny [(1, ⟨true, .v (.ptr [.sl (c.map encD), vInt day])⟩), (2, ⟨true, .ref nm 0⟩), (14, ⟨true, .v cl⟩)])
theorem enB_ok (c : List Deed) (day : Int) (a : Nat) (x : Sta) (cl : V) (l : Int) : EnOk (enB c day a x cl) cdB.1.toList (vT c l day) (nT c l day) where
 ren := fun f nm => rfl
 nam := fun nm => rfl
 clo := fun dom nm h => by simp [enB, List.range, List.range.loop, ofL, D.closL, D.clos, eAny, h]
 psz := fun nm => by rfl
 args := fun s => by rfl
 vnam := fun _ => rfl
 vcl := fun _ _ => rfl
 vren := fun _ _ => rfl
 inj := stVals_inj
theorem enA_ok (c : List Deed) (day : Int) (cl : V) (l : Int) : EnOk (enA c day cl) cdA.1.toList (vT c l day) (nT c l day) where
 ren := fun f nm => rfl
 nam := fun nm => rfl
 clo := fun dom nm h => by simp [enA, List.range, List.range.loop, ofL, D.closL, D.clos, eAny, h]
 psz := fun nm => by rfl
 args := fun s => by rfl
 vnam := fun _ => rfl
 vcl := fun _ _ => rfl
 vren := fun _ _ => rfl
 inj := stVals_inj
noncomputable def LC (r : Lp) (c : List Deed) (day : Int) (a b : Nat) (x y : Sta) (base : Nat) : Lp := wLp r (enC c day a b x y (cloT c 3 day)) cdC (nT c 3 day) base 1 (vT c 3 day)
noncomputable def LB (r : Lp) (c : List Deed) (day : Int) (a : Nat) (x : Sta) (base : Nat) : Lp := wLp r (enB c day a x (cloT c 2 day)) cdB (nT c 2 day) base (nT c 3 day) (vT c 2 day)
noncomputable def LA (r : Lp) (c : List Deed) (day : Int) (base : Nat) : Lp := wLp r (enA c day (cloT c 1 day)) cdA (nT c 1 day) base (nT c 2 day * nT c 3 day) (vT c 1 day)
theorem LC_ok {r : Lp} (hr : r.Ok) (hfu : r.fu ≤ 1900) (c : List Deed) (day : Int) (a b : Nat) (x y : Sta) (base : Nat) : (LC r c day a b x y base).Ok := wLp_ok hr hfu (enC_ok c day a b x y _ _)
theorem LB_ok {r : Lp} (hr : r.Ok) (hfu : r.fu ≤ 1900) (c : List Deed) (day : Int) (a : Nat) (x : Sta) (base : Nat) : (LB r c day a x base).Ok := wLp_ok hr hfu (enB_ok c day a x _ 2)
theorem LA_ok {r : Lp} (hr : r.Ok) (hfu : r.fu ≤ 1900) (c : List Deed) (day : Int) (base : Nat) : (LA r c day base).Ok := wLp_ok hr hfu (enA_ok c day _ 1)
theorem LC_y {r : Lp} (hr : r.Ok) (hfu : r.fu ≤ 1900) (hy : SSound Tryz.prog yid r.y.toSpec) (c : List Deed) (day : Int) (a b : Nat) (x y : Sta) {base : Nat} (hb : live r base) (hn : base + nT c 3 day * 1 ≤ r.n)
  (hv : ∀ l, l < nT c 3 day → r.vals (base + l) = [wayD a b (kT c 3 day l) x y (sT c 3 day l)]) : SSound Tryz.prog yid (LC r c day a b x y base).y.toSpec :=
 wC_y hr hfu hy c day a b x y _ _ hb hn hv
theorem LC_end {r : Lp} {c : List Deed} {day : Int} {a b : Nat} {x y : Sta} {k : Nat} (hb : live r k) (Ls : List Name) : (LC r c day a b x y k).fam Ls (LC r c day a b x y k).e = wFam r Ls (min (k + nT c 3 day) r.e) ∧ (LC r c day a b x y k).pd = if stopB r (k + nT c 3 day) then some .ret else none := by
 have h : _ ∧ (LC r c day a b x y k).pd = if stopB r (k + nT c 3 day * 1) then some .ret else none := w_end hb Ls
 rw [Nat.mul_one] at h
 exact h
theorem LB_end {r : Lp} {c : List Deed} {day : Int} {a : Nat} {x : Sta} {k : Nat} (hb : live r k) (Ls : List Name) : (LB r c day a x k).fam Ls (LB r c day a x k).e = wFam r Ls (min (k + nT c 2 day * nT c 3 day) r.e) ∧ (LB r c day a x k).pd = if stopB r (k + nT c 2 day * nT c 3 day) then some .ret else none := w_end hb Ls
theorem LA_end {r : Lp} {c : List Deed} {day : Int} {k : Nat} (hb : live r k) (Ls : List Name) : (LA r c day k).fam Ls (LA r c day k).e = wFam r Ls (min (k + nT c 1 day * (nT c 2 day * nT c 3 day)) r.e) ∧ (LA r c day k).pd = if stopB r (k + nT c 1 day * (nT c 2 day * nT c 3 day)) then some .ret else none := w_end hb Ls
set_option maxHeartbeats 4000000 in
theorem LB_y {r : Lp} (hr : r.Ok) (hfu : r.fu ≤ 1900) (hy : SSound Tryz.prog yid r.y.toSpec) {c : List Deed} (hl60 : c.length ≤ 60) (hkc : ∀ d ∈ c, kindOk d) (day : Int) (a : Nat) (x : Sta) {base : Nat} (hb : live r base) (hn : base + nT c 2 day * (nT c 3 day) ≤ r.n)
  (hv : ∀ j l, j < nT c 2 day → l < nT c 3 day → r.vals (base + j * nT c 3 day + l) = [wayD a (kT c 2 day j) (kT c 3 day l) x (sT c 2 day j) (sT c 3 day l)]) : SSound Tryz.prog yid (LB r c day a x base).y.toSpec := by
 refine Lp.y_sound (LB_ok hr hfu c day a x base) fun s hs hj => ?_
 have hs' : s < nT c 2 day := hs
 have hlv : live r (base + s * (nT c 3 day)) := w_live hb hn (Nat.le_of_lt hs') hj
 have hk1 : base + (s + 1) * (nT c 3 day) = base + s * (nT c 3 day) + (nT c 3 day) := by rw [Nat.add_mul, Nat.one_mul, Nat.add_assoc]
 have hin : base + s * (nT c 3 day) + (nT c 3 day) ≤ r.n := by
  have h1 : (s + 1) * (nT c 3 day) ≤ nT c 2 day * (nT c 3 day) := Nat.mul_le_mul_right _ hs'
  omega
 have hvs := fun l => hv s l hs'
 obtain ⟨k, hk⟩ : ∃ k, base + s * (nT c 3 day) = k := ⟨_, rfl⟩
 rw [hk] at hlv hk1 hin
 have hmin := Nat.min_eq_left (live_e hlv)
 have hst : (LB r c day a x base).st s = if stopB r (k + (nT c 3 day)) then some .ret else none := by
  unfold LB
  rw [w_st, hk1]
 have hf1 : (LB r c day a x base).fam (LR (r.m + 2)) (s + 1) = wFam r (LR (r.m + 2)) (min (k + (nT c 3 day)) r.e) := by
  unfold LB
  rw [w_fam, hk1]
 have hf0 : (LB r c day a x base).fam (LR (r.m + 2)) s = wFam r (LR (r.m + 2)) k := by
  unfold LB
  rw [w_fam, hk, hmin]
 have hvl : (LB r c day a x base).vals s = [.v (vInt (kT c 2 day s)), .v (encS (sT c 2 day s))] := rfl
 have hm : (LB r c day a x base).m = r.m + 2 := rfl
 have hen : (LB r c day a x base).env (LR (r.m + 2)) = enB c day a x (cloT c 2 day) [0, 1] := w_env
 have hcd : cdB = (_, _, _) := rfl
 have hps : (LB r c day a x base).ps = [23, 24] := rfl
 have hasg : (LB r c day a x base).asg = cdB.2.1 := rfl
 have hbody : (LB r c day a x base).body = cdB.2.2 := rfl
 rw [hm, hf0, hf1, hst, hvl, hen, hps, hasg, hbody, hcd]
 dsimp only
 have hvin : ∀ l, l < nT c 3 day → r.vals (k + l) = [wayD a (kT c 2 day s) (kT c 3 day l) x (sT c 2 day s) (sT c 3 day l)] := by
  intro l hl
  rw [← hk]
  exact hvs l hl
 generalize hnb : kT c 2 day s = b at hvin ⊢
 generalize hsb : sT c 2 day s = y at hvin ⊢
 have hiy : SSound Tryz.prog yid (LC r c day a b x y k).y.toSpec := LC_y hr hfu hy c day a b x y hlv (by omega) hvin
 obtain ⟨ht1, ht2⟩ := wayT c 3 hl60 hkc
 have hO := wFam_out hr k
 have hF := wFam_all hr k
 generalize outH (wFam r (LR (r.m + 2)) k) = H at hF hO ⊢
 clear hf0 hf1 hst hvl hen hvs hj hv
 obtain ⟨x1, x2, x3⟩ := x
 obtain ⟨s1, s2, s3⟩ := y
 simp only [encS, staP] at *
 have hth := fun (obj : Name → Option O) (t : Name) (f : List Deed → Int → Int → V) (fl : Bool) (a b : Int) => sLII_app (P := fun l => l.length ≤ 60) (f := f) (fl := fl) (obj := obj) (t := t) (l := c) (k := a) (j := b) hl60
 have hstt := fun (obj : Name → Option O) (tm : Name) (f : List Deed → Int → V) (fl : Bool) => sLI_app (P := fun _ => True) (f := f) (fl := fl) (obj := obj) (t := tm) (l := thrL c 3 0) (k := day) trivial
 obtain ⟨Γ, hΓ, h86, h147, h165⟩ : ∃ Γ : FuncId → Option Spec, (∀ f s, Γ f = some s → SSound Tryz.prog f s) ∧ Γ 86 = some (sLII (fun l => l.length ≤ 60) (fun l lo pe => .sl ((thrL l lo pe).map encD)) false) ∧
   Γ 147 = some (sLI (fun _ => True) (fun l k => .clo (.func 165) [] [.ptr [.sl (l.map encD)], .ptr [vInt k]]) false) ∧ Γ 165 = some ((LC r c day a b ⟨x1, x2, x3⟩ ⟨s1, s2, s3⟩ k).it [.ptr [.sl ((thrL c 3 0).map encD)], .ptr [vInt day]]).toSpec := by
  refine ⟨fun f => match f with | 86 => some (sLII (fun l => l.length ≤ 60) (fun l lo pe => .sl ((thrL l lo pe).map encD)) false) | 147 => some (sLI (fun _ => True) (fun l k => .clo (.func 165) [] [.ptr [.sl (l.map encD)], .ptr [vInt k]]) false) | 165 => some ((LC r c day a b ⟨x1, x2, x3⟩ ⟨s1, s2, s3⟩ k).it [.ptr [.sl ((thrL c 3 0).map encD)], .ptr [vInt day]]).toSpec | _ => none, ?_, rfl, rfl, rfl⟩
  intro f s h
  dsimp only at h
  split at h
  ·cases h; exact s86.sound
  ·cases h; exact s147.sound
  ·cases h; exact iter165 (LC_ok hr hfu c day a b ⟨x1, x2, x3⟩ ⟨s1, s2, s3⟩ k) hiy ht1 ht2 rfl rfl
  ·cases h
 have hP := mixedK
 refine cw_weak (weak_to 45 [0] H [(1, ⟨true, .v (.ptr [.sl (c.map encD), vInt day])⟩), (2, ⟨true, .ref [0, 1] 0⟩), (3, ⟨true, .v (.ptr [vInt a])⟩), (4, ⟨true, .v (.ptr [vInt x1, vInt x2, .bool x3])⟩), (23, ⟨true, .v (vInt b)⟩), (24, ⟨true, .v (.agg [vInt s1, vInt s2, .bool s3])⟩)] [] rfl rfl (fun _ _ => rfl) ?_ (by simp) ?_ ?_) ?_
 ·intro q hq
  simp only [List.mem_cons, List.not_mem_nil, or_false] at hq
  rcases hq with rfl | rfl | rfl | rfl | rfl | rfl <;> rfl
 ·simp [D.clos, domOf, own]
 ·rw [hO]; trivial
 refine cl_of ?_
 repeat refine sq ?_
 refine cl_rs hΓ [1,2,3,4,5,24] [[5, 0]] fun K' hK => ?_
 simp only [go_sem, hO]
 repeat refine ⟨ob, ?_⟩
 refine hK _ ?_ ?_ <;> clear K' hK <;> simp only [go_sem, hO]
 refine cl_r hΓ fun K' hK => ?_
 simp only [go_sem, tp137, tz137]
 refine ⟨Nat.le_refl _, ?_⟩
 refine hK _ ?_
 clear K' hK
 refine (cw_keep [1,2,3,4, 5, 6] [[5, 0], [6, 0]] ?_ ?_ : CW _ _ _ _)
 ·simp only [go_sem, hO]
 simp only [go_sem]
 refine cw_weakM (σ' := mkS 45 [0] H [(1, ⟨true, .v (.ptr [.sl (c.map encD), vInt day])⟩), (2, ⟨true, .ref [0, 1] 0⟩), (3, ⟨true, .v (.ptr [vInt a])⟩), (4, ⟨true, .v (.ptr [vInt x1, vInt x2, .bool x3])⟩), (5, ⟨true, .v (.ptr [vInt b])⟩), (6, ⟨true, .ref [6, 0] 0⟩)] [([6, 0], .box [.v (vInt s1), .v (vInt s2), .v (.bool s3)])]) (weakM_frzk 5 (.ref [5, 0] 0) (by simp only [go_sem]) (by simp only [go_sem]) [1,2,3,4, 5, 6] [[6, 0]] ?_ ?_) ?_
 ·simp only [go_sem, hO]
 ·simp only [go_sem]
 refine cw_weakM (σ' := mkS 45 [0] H [(1, ⟨true, .v (.ptr [.sl (c.map encD), vInt day])⟩), (2, ⟨true, .ref [0, 1] 0⟩), (3, ⟨true, .v (.ptr [vInt a])⟩), (4, ⟨true, .v (.ptr [vInt x1, vInt x2, .bool x3])⟩), (5, ⟨true, .v (.ptr [vInt b])⟩), (6, ⟨true, .v (.ptr [vInt s1, vInt s2, .bool s3])⟩)] []) (weakM_frzk 6 (.ref [6, 0] 0) (by simp only [go_sem]) (by simp only [go_sem]) [1,2,3,4, 5, 6] [] ?_ ?_) ?_
 ·simp only [go_sem, hO]
 ·simp only [go_sem]
 refine cl_of ?_
 refine cl_block ?_
 repeat refine sq ?_
 refine cl_ds hΓ hP [[], [0], [0, 1], [], [3], [0, 1, 2, 3, 4]] [1,2,3,4,5,6,30] [] (by kernel_rfl) fun K' hK => ?_
 simp only [go_sem, hO, h86, h147, hth, hstt]
 repeat refine ⟨ob, ?_⟩
 first | refine ⟨by rfl, ?_⟩ | skip
 refine hK _ ?_ ?_ <;> clear K' hK <;> simp only [go_sem, hO, h86, h147, hth, hstt]
 repeat refine sq ?_
 refine cl_block ?_
 refine cl_iter hΓ (LC_ok hr hfu c day a b ⟨x1, x2, x3⟩ ⟨s1, s2, s3⟩ k) 50 51 (f := 165) (Ls := LR (r.m + 2)) rfl rfl (by decide) h165 rfl (by
  rw [show (LC r c day a b ⟨x1, x2, x3⟩ ⟨s1, s2, s3⟩ k).env (LR (r.m + 2)) = _ from w_env]; rfl) rfl rfl rfl (LR_len _) (LR_nodup _) out_ne (by
  have h0 : ∀ w, min (k + 0 * w) r.e = k := fun w => by rw [Nat.zero_mul]; exact hmin
  show objAll _ _ (wFam r _ (min (k + 0 * _) r.e))
  rw [h0]
  exact objAll_agr hF fun x hx => by
   obtain ⟨i, _, rfl⟩ := List.mem_map.1 hx
   simp [mkS, own_out01]) fun o => ?_
 rw [(LC_end hlv (LR (r.m + 2))).1, (LC_end hlv (LR (r.m + 2))).2]
 have hwl : (LR (r.m + 2)).length = (wFam r (LR (r.m + 2)) (min (k + (nT c 3 day)) r.e)).length := by rw [wFam_len hr (LR_len _), LR_len]
 cases hsp : stopB r (k + (nT c 3 day)) with
 | true =>
  simp only [if_true, pdK, blockK, thenK]
  exact ⟨rfl, objAll_set (LR_nodup _) hwl out_ne⟩
 | false =>
  simp only [Bool.false_eq_true, if_false, pdK, thenK]
  refine cl_nil ?_
  simp only [blockK, thenK]
  refine cl_nil ?_
  simp only [blockK, thenK]
  refine cl_nil ?_
  exact ⟨rfl, objAll_set (LR_nodup _) hwl out_ne⟩
set_option maxHeartbeats 4000000 in
theorem LA_y {r : Lp} (hr : r.Ok) (hfu : r.fu ≤ 1900) (hy : SSound Tryz.prog yid r.y.toSpec) {c : List Deed} (hl60 : c.length ≤ 60) (hkc : ∀ d ∈ c, kindOk d) (day : Int)  {base : Nat} (hb : live r base) (hn : base + nT c 1 day * (nT c 2 day * nT c 3 day) ≤ r.n)
  (hv : ∀ i j l, i < nT c 1 day → j < nT c 2 day → l < nT c 3 day → r.vals (base + i * (nT c 2 day * nT c 3 day) + j * nT c 3 day + l) = [wayD (kT c 1 day i) (kT c 2 day j) (kT c 3 day l) (sT c 1 day i) (sT c 2 day j) (sT c 3 day l)]) : SSound Tryz.prog yid (LA r c day base).y.toSpec := by
 refine Lp.y_sound (LA_ok hr hfu c day base) fun s hs hj => ?_
 have hs' : s < nT c 1 day := hs
 have hlv : live r (base + s * (nT c 2 day * nT c 3 day)) := w_live hb hn (Nat.le_of_lt hs') hj
 have hk1 : base + (s + 1) * (nT c 2 day * nT c 3 day) = base + s * (nT c 2 day * nT c 3 day) + (nT c 2 day * nT c 3 day) := by rw [Nat.add_mul, Nat.one_mul, Nat.add_assoc]
 have hin : base + s * (nT c 2 day * nT c 3 day) + (nT c 2 day * nT c 3 day) ≤ r.n := by
  have h1 : (s + 1) * (nT c 2 day * nT c 3 day) ≤ nT c 1 day * (nT c 2 day * nT c 3 day) := Nat.mul_le_mul_right _ hs'
  omega
 have hvs := fun j l => hv s j l hs'
 obtain ⟨k, hk⟩ : ∃ k, base + s * (nT c 2 day * nT c 3 day) = k := ⟨_, rfl⟩
 rw [hk] at hlv hk1 hin
 have hmin := Nat.min_eq_left (live_e hlv)
 have hst : (LA r c day base).st s = if stopB r (k + (nT c 2 day * nT c 3 day)) then some .ret else none := by
  unfold LA
  rw [w_st, hk1]
 have hf1 : (LA r c day base).fam (LR (r.m + 2)) (s + 1) = wFam r (LR (r.m + 2)) (min (k + (nT c 2 day * nT c 3 day)) r.e) := by
  unfold LA
  rw [w_fam, hk1]
 have hf0 : (LA r c day base).fam (LR (r.m + 2)) s = wFam r (LR (r.m + 2)) k := by
  unfold LA
  rw [w_fam, hk, hmin]
 have hvl : (LA r c day base).vals s = [.v (vInt (kT c 1 day s)), .v (encS (sT c 1 day s))] := rfl
 have hm : (LA r c day base).m = r.m + 2 := rfl
 have hen : (LA r c day base).env (LR (r.m + 2)) = enA c day (cloT c 1 day) [0, 1] := w_env
 have hcd : cdA = (_, _, _) := rfl
 have hps : (LA r c day base).ps = [15, 16] := rfl
 have hasg : (LA r c day base).asg = cdA.2.1 := rfl
 have hbody : (LA r c day base).body = cdA.2.2 := rfl
 rw [hm, hf0, hf1, hst, hvl, hen, hps, hasg, hbody, hcd]
 dsimp only
 have hvin : ∀ j l, j < nT c 2 day → l < nT c 3 day → r.vals (k + j * nT c 3 day + l) = [wayD (kT c 1 day s) (kT c 2 day j) (kT c 3 day l) (sT c 1 day s) (sT c 2 day j) (sT c 3 day l)] := by
  intro j l h1 h2
  rw [← hk]
  exact hvs j l h1 h2
 generalize hnb : kT c 1 day s = a at hvin ⊢
 generalize hsb : sT c 1 day s = x at hvin ⊢
 have hiy : SSound Tryz.prog yid (LB r c day a x k).y.toSpec := LB_y hr hfu hy hl60 hkc day a x hlv (by omega) hvin
 obtain ⟨ht1, ht2⟩ := wayT c 2 hl60 hkc
 have hO := wFam_out hr k
 have hF := wFam_all hr k
 generalize outH (wFam r (LR (r.m + 2)) k) = H at hF hO ⊢
 clear hf0 hf1 hst hvl hen hvs hj hv
 obtain ⟨s1, s2, s3⟩ := x
 simp only [encS, staP] at *
 have hth := fun (obj : Name → Option O) (t : Name) (f : List Deed → Int → Int → V) (fl : Bool) (a b : Int) => sLII_app (P := fun l => l.length ≤ 60) (f := f) (fl := fl) (obj := obj) (t := t) (l := c) (k := a) (j := b) hl60
 have hstt := fun (obj : Name → Option O) (tm : Name) (f : List Deed → Int → V) (fl : Bool) => sLI_app (P := fun _ => True) (f := f) (fl := fl) (obj := obj) (t := tm) (l := thrL c 2 0) (k := day) trivial
 obtain ⟨Γ, hΓ, h86, h147, h165⟩ : ∃ Γ : FuncId → Option Spec, (∀ f s, Γ f = some s → SSound Tryz.prog f s) ∧ Γ 86 = some (sLII (fun l => l.length ≤ 60) (fun l lo pe => .sl ((thrL l lo pe).map encD)) false) ∧
   Γ 147 = some (sLI (fun _ => True) (fun l k => .clo (.func 165) [] [.ptr [.sl (l.map encD)], .ptr [vInt k]]) false) ∧ Γ 165 = some ((LB r c day a ⟨s1, s2, s3⟩ k).it [.ptr [.sl ((thrL c 2 0).map encD)], .ptr [vInt day]]).toSpec := by
  refine ⟨fun f => match f with | 86 => some (sLII (fun l => l.length ≤ 60) (fun l lo pe => .sl ((thrL l lo pe).map encD)) false) | 147 => some (sLI (fun _ => True) (fun l k => .clo (.func 165) [] [.ptr [.sl (l.map encD)], .ptr [vInt k]]) false) | 165 => some ((LB r c day a ⟨s1, s2, s3⟩ k).it [.ptr [.sl ((thrL c 2 0).map encD)], .ptr [vInt day]]).toSpec | _ => none, ?_, rfl, rfl, rfl⟩
  intro f s h
  dsimp only at h
  split at h
  ·cases h; exact s86.sound
  ·cases h; exact s147.sound
  ·cases h; exact iter165 (LB_ok hr hfu c day a ⟨s1, s2, s3⟩ k) hiy ht1 ht2 rfl rfl
  ·cases h
 have hP := mixedK
 refine cw_weak (weak_to 45 [0] H [(1, ⟨true, .v (.ptr [.sl (c.map encD), vInt day])⟩), (2, ⟨true, .ref [0, 1] 0⟩), (15, ⟨true, .v (vInt a)⟩), (16, ⟨true, .v (.agg [vInt s1, vInt s2, .bool s3])⟩)] [] rfl rfl (fun _ _ => rfl) ?_ (by simp) ?_ ?_) ?_
 ·intro q hq
  simp only [List.mem_cons, List.not_mem_nil, or_false] at hq
  rcases hq with rfl | rfl | rfl | rfl <;> rfl
 ·simp [D.clos, domOf, own]
 ·rw [hO]; trivial
 refine cl_of ?_
 repeat refine sq ?_
 refine cl_rs hΓ [1,2,3,16] [[3, 0]] fun K' hK => ?_
 simp only [go_sem, hO]
 repeat refine ⟨ob, ?_⟩
 refine hK _ ?_ ?_ <;> clear K' hK <;> simp only [go_sem, hO]
 refine cl_r hΓ fun K' hK => ?_
 simp only [go_sem, tp137, tz137]
 refine ⟨Nat.le_refl _, ?_⟩
 refine hK _ ?_
 clear K' hK
 refine (cw_keep [1,2, 3, 4] [[3, 0], [4, 0]] ?_ ?_ : CW _ _ _ _)
 ·simp only [go_sem, hO]
 simp only [go_sem]
 refine cw_weakM (σ' := mkS 45 [0] H [(1, ⟨true, .v (.ptr [.sl (c.map encD), vInt day])⟩), (2, ⟨true, .ref [0, 1] 0⟩), (3, ⟨true, .v (.ptr [vInt a])⟩), (4, ⟨true, .ref [4, 0] 0⟩)] [([4, 0], .box [.v (vInt s1), .v (vInt s2), .v (.bool s3)])]) (weakM_frzk 3 (.ref [3, 0] 0) (by simp only [go_sem]) (by simp only [go_sem]) [1,2, 3, 4] [[4, 0]] ?_ ?_) ?_
 ·simp only [go_sem, hO]
 ·simp only [go_sem]
 refine cw_weakM (σ' := mkS 45 [0] H [(1, ⟨true, .v (.ptr [.sl (c.map encD), vInt day])⟩), (2, ⟨true, .ref [0, 1] 0⟩), (3, ⟨true, .v (.ptr [vInt a])⟩), (4, ⟨true, .v (.ptr [vInt s1, vInt s2, .bool s3])⟩)] []) (weakM_frzk 4 (.ref [4, 0] 0) (by simp only [go_sem]) (by simp only [go_sem]) [1,2, 3, 4] [] ?_ ?_) ?_
 ·simp only [go_sem, hO]
 ·simp only [go_sem]
 refine cl_of ?_
 refine cl_block ?_
 repeat refine sq ?_
 refine cl_ds hΓ hP [[], [0], [0, 1], [], [3], [0, 1, 2, 3, 4]] [1,2,3,4,22] [] (by kernel_rfl) fun K' hK => ?_
 simp only [go_sem, hO, h86, h147, hth, hstt]
 repeat refine ⟨ob, ?_⟩
 first | refine ⟨by rfl, ?_⟩ | skip
 refine hK _ ?_ ?_ <;> clear K' hK <;> simp only [go_sem, hO, h86, h147, hth, hstt]
 repeat refine sq ?_
 refine cl_block ?_
 refine cl_iter hΓ (LB_ok hr hfu c day a ⟨s1, s2, s3⟩ k) 50 51 (f := 165) (Ls := LR (r.m + 2)) rfl rfl (by decide) h165 rfl (by
  rw [show (LB r c day a ⟨s1, s2, s3⟩ k).env (LR (r.m + 2)) = _ from w_env]; rfl) rfl rfl rfl (LR_len _) (LR_nodup _) out_ne (by
  have h0 : ∀ w, min (k + 0 * w) r.e = k := fun w => by rw [Nat.zero_mul]; exact hmin
  show objAll _ _ (wFam r _ (min (k + 0 * _) r.e))
  rw [h0]
  exact objAll_agr hF fun x hx => by
   obtain ⟨i, _, rfl⟩ := List.mem_map.1 hx
   simp [mkS, own_out01]) fun o => ?_
 rw [(LB_end hlv (LR (r.m + 2))).1, (LB_end hlv (LR (r.m + 2))).2]
 have hwl : (LR (r.m + 2)).length = (wFam r (LR (r.m + 2)) (min (k + (nT c 2 day * nT c 3 day)) r.e)).length := by rw [wFam_len hr (LR_len _), LR_len]
 cases hsp : stopB r (k + (nT c 2 day * nT c 3 day)) with
 | true =>
  simp only [if_true, pdK, blockK, thenK]
  exact ⟨rfl, objAll_set (LR_nodup _) hwl out_ne⟩
 | false =>
  simp only [Bool.false_eq_true, if_false, pdK, thenK]
  refine cl_nil ?_
  simp only [blockK, thenK]
  refine cl_nil ?_
  simp only [blockK, thenK]
  refine cl_nil ?_
  exact ⟨rfl, objAll_set (LR_nodup _) hwl out_ne⟩
theorem e_le (r : Lp) : r.e ≤ r.n := by
 rcases e_cases r with ⟨h1, _⟩ | ⟨s, h1, h2, _⟩ <;> omega
set_option maxHeartbeats 4000000 in
theorem iter177 {r : Lp} (hr : r.Ok) (hfu : r.fu ≤ 1900) (hy : SSound Tryz.prog yid r.y.toSpec) {c : List Deed} (hl60 : c.length ≤ 60) (hkc : ∀ d ∈ c, kindOk d) (day : Int) (hn : r.n = nT c 1 day * (nT c 2 day * nT c 3 day))
  (hv : ∀ i j l, i < nT c 1 day → j < nT c 2 day → l < nT c 3 day → r.vals (0 + i * (nT c 2 day * nT c 3 day) + j * nT c 3 day + l) = [wayD (kT c 1 day i) (kT c 2 day j) (kT c 3 day l) (sT c 1 day i) (sT c 2 day j) (sT c 3 day l)]) :
  SSound Tryz.prog 177 (r.it [.ptr [.sl (c.map encD), vInt day]]).toSpec := by
 refine csound (nt := 45) (rs := []) Tryz.func177 rfl (by rfl) (by kernel_rfl) (enter_of Tryz.func177 rfl (by kernel_rfl)) (notYid _ (by decide)) ?_
 rintro os ds ⟨rfl, rfl⟩
 refine ⟨lb rfl, cl_of ?_⟩
 have hout : ∀ os ds, (r.it [.ptr [.sl (c.map encD), vInt day]]).out os ds = ⟨(0, r.fin (LI r.m)) :: upds 1 (r.fam (LI r.m) r.e), [], .tup []⟩ := fun _ _ => rfl
 rw [hout]
 have hlv0 : live r 0 := ⟨Nat.zero_le _, fun j hj => by omega⟩
 have hay : SSound Tryz.prog yid (LA r c day 0).y.toSpec := LA_y hr hfu hy hl60 hkc day hlv0 (by omega) hv
 obtain ⟨ht1, ht2⟩ := wayT c 1 hl60 hkc
 have hth := fun (obj : Name → Option O) (t : Name) (f : List Deed → Int → Int → V) (fl : Bool) (a b : Int) => sLII_app (P := fun l => l.length ≤ 60) (f := f) (fl := fl) (obj := obj) (t := t) (l := c) (k := a) (j := b) hl60
 have hstt := fun (obj : Name → Option O) (tm : Name) (f : List Deed → Int → V) (fl : Bool) => sLI_app (P := fun _ => True) (f := f) (fl := fl) (obj := obj) (t := tm) (l := thrL c 1 0) (k := day) trivial
 obtain ⟨Γ, hΓ, h86, h147, h165⟩ : ∃ Γ : FuncId → Option Spec, (∀ f s, Γ f = some s → SSound Tryz.prog f s) ∧ Γ 86 = some (sLII (fun l => l.length ≤ 60) (fun l lo pe => .sl ((thrL l lo pe).map encD)) false) ∧
   Γ 147 = some (sLI (fun _ => True) (fun l k => .clo (.func 165) [] [.ptr [.sl (l.map encD)], .ptr [vInt k]]) false) ∧ Γ 165 = some ((LA r c day 0).it [.ptr [.sl ((thrL c 1 0).map encD)], .ptr [vInt day]]).toSpec := by
  refine ⟨fun f => match f with | 86 => some (sLII (fun l => l.length ≤ 60) (fun l lo pe => .sl ((thrL l lo pe).map encD)) false) | 147 => some (sLI (fun _ => True) (fun l k => .clo (.func 165) [] [.ptr [.sl (l.map encD)], .ptr [vInt k]]) false) | 165 => some ((LA r c day 0).it [.ptr [.sl ((thrL c 1 0).map encD)], .ptr [vInt day]]).toSpec | _ => none, ?_, rfl, rfl, rfl⟩
  intro f s h
  dsimp only at h
  split at h
  ·cases h; exact s86.sound
  ·cases h; exact s147.sound
  ·cases h; exact iter165 (LA_ok hr hfu c day 0) hay ht1 ht2 rfl rfl
  ·cases h
 have hP := mixedK
 have hdI : ∀ dom : Name → Bool, (∀ i, dom [i, 1] = true) → ∀ x ∈ LI r.m, dom x = true := fun dom hd x hx => by
  obtain ⟨i, _, rfl⟩ := List.mem_map.1 hx
  exact hd _
 have hO : ∀ hs, OutC [0] (domOf [0] hs) (outH (r.rc (LI r.m) .ready none :: r.fam (LI r.m) 0)) = True := fun hs => eq_true (outC_outs (fun o ho dom hd => by
  rcases List.mem_cons.1 ho with rfl | ho
  ·exact hr.closE dom _ (LI_len _) (hdI dom hd)
  ·exact hr.closF dom _ _ (LI_len _) (hdI dom hd) o ho) hs)
 have hF0 : outH (r.rc (LI r.m) .ready none :: r.fam (LI r.m) 0) [0, 1] = some (r.rc (LI r.m) .ready none) := rfl
 have hF1 : objAll (outH (r.rc (LI r.m) .ready none :: r.fam (LI r.m) 0)) (LI r.m) (r.fam (LI r.m) 0) := by
  rw [objAll_iff]
  refine List.ext_getElem (by rw [List.length_map, List.length_map, LI_len, hr.len _ _ (LI_len _)]) fun i h3 h4 => ?_
  simp only [List.getElem_map, LI, List.getElem_range, outH, List.getElem?_cons_succ]
  have h5 : i < (r.fam (LI r.m) 0).length := by simpa using h4
  exact List.getElem?_eq_getElem h5
 generalize outH (r.rc (LI r.m) .ready none :: r.fam (LI r.m) 0) = H at hO hF0 hF1 ⊢
 simp only [List.map_cons, List.map_nil]
 repeat refine sq ?_
 refine cl_rs hΓ [1,2] [[2, 0]] fun K' hK => ?_
 simp only [go_sem, hO]
 repeat refine ⟨ob, ?_⟩
 refine hK _ ?_ ?_ <;> clear K' hK <;> simp only [go_sem, hO]
 repeat refine sq ?_
 refine cl_ds hΓ hP [[], [0], [0, 1], [], [3], [0, 1, 2, 3, 4]] [1,2,14] [[2, 0]] (by kernel_rfl) fun K' hK => ?_
 simp only [go_sem, hO, h86, h147, hth, hstt]
 repeat refine ⟨ob, ?_⟩
 first | refine ⟨by rfl, ?_⟩ | skip
 refine hK _ ?_ ?_ <;> clear K' hK <;> simp only [go_sem, hO, h86, h147, hth, hstt]
 repeat refine sq ?_
 refine cl_block ?_
 have hLn : (LI r.m).Nodup := List.Pairwise.map _ (fun a b h => by simpa using h) List.nodup_range
 have h01 : ([0, 1] : Name) ∉ LI r.m := fun h => by
  obtain ⟨i, _, hi⟩ := List.mem_map.1 h
  simp at hi
 have hi0 : ∀ j : Nat, ([j, 0] : Name) ∉ LI r.m := fun j h => by
  obtain ⟨i, _, hi⟩ := List.mem_map.1 h
  simp at hi
 have hnd : (([2, 0] : Name) :: [0, 1] :: LI r.m).Nodup := by
  rw [List.nodup_cons, List.nodup_cons]
  exact ⟨by simp [hi0 2], h01, hLn⟩
 have hR : ([50, 0] : Name) ∉ (([2, 0] : Name) :: [0, 1] :: LI r.m) := by simp [hi0 50]
 have hwf : ∀ k, wFam r ([2, 0] :: [0, 1] :: LI r.m) k = .box [.yld [0, 1]] :: recP r (LI r.m) k :: r.fam (LI r.m) k := fun k => rfl
 refine cl_iter hΓ (LA_ok hr hfu c day 0) 50 51 (f := 165) (Ls := [2, 0] :: [0, 1] :: LI r.m) rfl rfl (by decide) h165 rfl rfl rfl rfl rfl (by simp [LI_len]; rfl) hnd hR (by
  have h0 : ∀ w, min (0 + 0 * w) r.e = 0 := fun w => by rw [Nat.zero_mul]; exact Nat.min_eq_left (Nat.zero_le _)
  show objAll _ _ (wFam r _ (min (0 + 0 * _) r.e))
  rw [h0, hwf]
  refine ⟨rfl, ?_, objAll_agr hF1 fun x hx => ?_⟩
  ·simp only [mkS, own_out01, Bool.false_eq_true, if_false, hF0]
   rfl
  ·obtain ⟨i, _, rfl⟩ := List.mem_map.1 hx
   simp [mkS, own_out01]) fun o => ?_
 rw [(LA_end hlv0 ([2, 0] :: [0, 1] :: LI r.m)).1, (LA_end hlv0 ([2, 0] :: [0, 1] :: LI r.m)).2, Nat.zero_add, ← hn, Nat.min_eq_right (e_le r)]
 have fin : ∀ σ : S, objAll σ.obj ([2, 0] :: [0, 1] :: LI r.m) (wFam r ([2, 0] :: [0, 1] :: LI r.m) r.e) → (resAll Tryz.prog σ []).ok ∧ (resAll Tryz.prog σ []).d = .tup [] ∧ endC (r.rc (LI r.m) .ready none :: r.fam (LI r.m) 0) ⟨(0, r.fin (LI r.m)) :: upds 1 (r.fam (LI r.m) r.e), [], .tup []⟩ σ := by
  rintro σ ⟨_, h1, h2⟩
  refine Lp.it_end hr ?_ h2
  rw [h1]
  show some (recP r (LI r.m) r.e) = _
  unfold recP Lp.fin
  rw [pdd_e]
 have hwl : (([2, 0] : Name) :: [0, 1] :: LI r.m).length = (wFam r ([2, 0] :: [0, 1] :: LI r.m) r.e).length := by
  rw [hwf]
  simp only [List.length_cons, LI_len, hr.len _ _ (LI_len _)]
 cases hsp : stopB r r.n with
 | true =>
  simp only [if_true, pdK, blockK, thenK]
  exact fin _ (objAll_set hnd hwl hR)
 | false =>
  simp only [Bool.false_eq_true, if_false, pdK, thenK]
  refine cl_nil ?_
  simp only [blockK, thenK]
  refine cl_nil ?_
  exact fin _ (objAll_set hnd hwl hR)
theorem s176 : PSound Tryz.prog 176 ⟨fun xs => ∃ (l : List Int) (v : Int), xs = [.sl (l.map vInt), vInt v], fun xs => match xs with | [.sl l, .int _ v] => vInt (firstII (fun x => v == x) (l.map decI)) | _ => .bool false, true⟩ := by
 refine psoundB (rs := [.tmp 4]) Tryz.func176 Tryz.ntmps176 (by rfl) (by kernel_rfl) (by decide) (by rintro _ xs ⟨l, v, rfl⟩; rfl) ⟨_, rfl, ?_⟩
 rintro xs ⟨l, v, rfl⟩ hw
 have hl : l.length ≤ maxLen := by have := hw.1.1; simpa using this
 refine ⟨lb rfl, ?_⟩
 simp only [decI_map]
 have hΓ := K0n_sound
 repeat refine sq ?_
 refine rs hΓ [0,1] [] ?_
 repeat refine sq ?_
 refine rs hΓ [0,1,7,8] [] ?_
 repeat refine sq ?_
 refine cl_block ?_
 repeat refine sq ?_
 refine cl_loop' (fun s : Nat => [(8, ⟨true, .v (vInt s)⟩)]) (fun s => []) (fun s => s ≤ l.length ∧ ∀ j (h : j < l.length), j < s → (v == l[j]) = false) (fun s => l.length - s) 0 ?_ ?_ ?_ ?_
 ·exact ⟨Nat.zero_le _, fun j h hj => by omega⟩
 ·rfl
 ·rfl
 rintro i ⟨hi, hz⟩
 simp only [go_sem]
 repeat refine sq ?_
 refine rs hΓ [0,1,7,8,9] [] ?_
 repeat refine sq ?_
 refine cl_cond rfl rfl (fun hb => ?_) fun hb => ?_
 ·have hlt : i < l.length := by simpa using hb
  have hlt' : (i : Int) < l.length := by omega
  clear hb
  repeat refine sq ?_
  refine cl_skip ?_
  repeat refine sq ?_
  refine cl_block ?_
  repeat refine sq ?_
  refine rs hΓ [0,1,5,7,8] [] ?_
  repeat refine sq ?_
  refine rx hΓ [0,1,5,7,8,16] [] (fun K' hK => by simp only [go_sem, map_getD hlt, Int.toNat_natCast, Int.natCast_nonneg, hlt']; exact fin) ?_
  repeat refine sq ?_
  refine cl_cond rfl rfl (fun hb => ?_) fun hb => ?_
  ·repeat refine sq ?_
   refine rs hΓ [4] [] ?_
   refine cl_ret ?_
   simp only [go_sem]
   have hf : l.findIdx (fun x => v == x) = i := by
    rw [List.findIdx_eq hlt]
    exact ⟨hb, fun j hj => hz j (by omega) hj⟩
   unfold firstII
   rw [hf, if_pos hlt]
  ·have hn : (v == l[i]) = false := hb
   clear hb
   repeat refine sq ?_
   refine cl_skip ?_
   refine cl_nil ?_
   simp only [go_sem]
   refine cl_keep [0,1,7,8] [] ?_ ?_ <;> simp only [go_sem]
   repeat refine sq ?_
   refine cl_r hΓ fun K' hK => ?_
   simp only [go_sem]
   repeat refine ⟨ob, ?_⟩
   refine hK _ ?_
   clear K' hK
   simp only [go_sem]
   refine ⟨i + 1, ⟨by omega, fun j h hj => ?_⟩, by omega, ?_⟩
   ·rcases Nat.lt_succ_iff_lt_or_eq.1 hj with h1 | h1
    ·exact hz j h h1
    ·subst h1; exact hn
   refine weak_eq [0,1,7,8] [] ?_ ?_ <;> simp only [go_sem, wrap_succ hlt hl, Int.natCast_add, Int.natCast_one]
 ·have hge : i = l.length := by
   have : ¬ (i : Int) < l.length := by simpa using hb
   omega
  subst hge
  clear hb
  repeat refine sq ?_
  refine cl_exit ?_
  simp only [go_sem]
  refine cl_keep [] [] ?_ ?_ <;> simp only [go_sem]
  repeat refine sq ?_
  refine rs hΓ [4] [] ?_
  refine cl_ret ?_
  simp only [go_sem]
  have hf : ¬ l.findIdx (fun x => v == x) < l.length := by
   rw [List.findIdx_lt_length]
   rintro ⟨x, hx, hpx⟩
   obtain ⟨j, hj, rfl⟩ := List.getElem_of_mem hx
   rw [hz j hj hj] at hpx; cases hpx
  unfold firstII
  rw [if_neg hf]
def pLV (f : List Int → Int → V) : PSpec := ⟨fun xs => ∃ (l : List Int) (v : Int), xs = [.sl (l.map vInt), vInt v], fun xs => match xs with | [.sl l, .int _ v] => f (l.map decI) v | _ => .bool false, true⟩
theorem pLV_fn (f : List Int → Int → V) (l : List Int) (v : Int) : (pLV f).fn [.sl (l.map vInt), vInt v] = f l v := by
 simp only [pLV, decI_map]
noncomputable def sLV (f : List Int → Int → V) : Spec := (pLV f).toSpec
theorem sLV_app {f : List Int → Int → V} {obj : Name → Option O} {t : Name} {l : List Int} {v : Int} : (sLV f).app obj t [.v (.sl (l.map vInt)), .v (vInt v)] = ⟨True, .v (f l v), obj⟩ := by
 simp only [sLV, PSpec.toSpec, frzL, frz, pLV_fn, ite_self]
 simp only [pLV, if_true]
 congr 1
 simp only [eq_iff_iff, iff_true]
 exact ⟨⟨trivial, trivial, trivial⟩, l, v, rfl⟩
noncomputable def K86 : FuncId → Option Spec := fun f => match f with
 | 176 => some (sLV fun l v => vInt (firstII (fun x => v == x) l))
 | 109 => some (pInt isPersB)
 | _ => none
theorem K86_sound : ∀ f s, K86 f = some s → SSound Tryz.prog f s := by
 intro f s h
 unfold K86 at h
 split at h
 ·cases h; exact s176.sound
 ·cases h; exact s109.sound
 ·cases h
@[go_sem] theorem K86_176 : K86 176 = some (sLV fun l v => vInt (firstII (fun x => v == x) l)) := rfl
@[go_sem] theorem K86_109 : K86 109 = some (pInt isPersB) := rfl
theorem s157 : PSound Tryz.prog 157 (pLV fun l v => .bool (l.any fun x => v == x)) := by
 refine psoundB (rs := [.tmp 4]) Tryz.func157 Tryz.ntmps157 (by rfl) (by kernel_rfl) (by decide) (by rintro _ xs ⟨l, v, rfl⟩; rfl) ⟨_, rfl, ?_⟩
 rintro xs ⟨l, v, rfl⟩ hw
 refine ⟨lb rfl, ?_⟩
 rw [pLV_fn]
 have hΓ := K86_sound
 repeat refine sq ?_
 refine rs hΓ [0,1] [] ?_
 repeat refine sq ?_
 refine rx hΓ [4] [] (fun K' hK => by simp only [go_sem, sLV_app, firstII_any]; exact fin) ?_
 exact rt
def persOk (l : List Int) (i : Nat) : Prop := ∀ j (h : j < l.length), j < i → isPersB l[j] = true ∧ (0 < j → l[j - 1] < l[j])
noncomputable def areB (l : List Int) : Bool := by classical exact decide (persOk l l.length ∧ l.length ≤ 12)
def pIs (f : List Int → V) : PSpec := ⟨fun xs => ∃ l : List Int, xs = [.sl (l.map vInt)], fun xs => match xs with | [.sl l] => f (l.map decI) | _ => .bool false, true⟩
theorem pIs_fn (f : List Int → V) (l : List Int) : (pIs f).fn [.sl (l.map vInt)] = f l := by
 simp only [pIs, decI_map]
set_option maxHeartbeats 4000000 in
theorem s126 : PSound Tryz.prog 126 (pIs fun l => .bool (areB l)) := by
 refine psoundB (rs := [.tmp 2]) Tryz.func126 Tryz.ntmps126 (by rfl) (by kernel_rfl) (by decide) (by rintro _ xs ⟨l, rfl⟩; rfl) ⟨_, rfl, ?_⟩
 rintro xs ⟨l, rfl⟩ hw
 have hl : l.length ≤ maxLen := by have := hw.1.1; simpa using this
 refine ⟨lb rfl, ?_⟩
 rw [pIs_fn]
 have hΓ := K86_sound
 have hin := fun (g : Int → Bool) (obj : Name → Option O) (t : Name) (n : Int) => pInt_app (g := g) (obj := obj) (t := t) (n := n)
 repeat refine sq ?_
 refine rs hΓ [0] [] ?_
 repeat refine sq ?_
 refine rs hΓ [0,5,6,7] [] ?_
 repeat refine sq ?_
 refine cl_block ?_
 repeat refine sq ?_
 refine cl_loop' (fun s : Nat => [(7, ⟨true, .v (vInt s)⟩)]) (fun s => []) (fun s => s ≤ l.length ∧ persOk l s) (fun s => l.length - s) 0 ?_ ?_ ?_ ?_
 ·exact ⟨Nat.zero_le _, fun j h hj => by omega⟩
 ·rfl
 ·rfl
 rintro i ⟨hi, hz⟩
 simp only [go_sem]
 repeat refine sq ?_
 refine rs hΓ [0,5,6,7,8] [] ?_
 repeat refine sq ?_
 refine cl_cond rfl rfl (fun hb => ?_) fun hb => ?_
 ·have hlt : i < l.length := by simpa using hb
  have hlt' : (i : Int) < l.length := by omega
  clear hb
  repeat refine sq ?_
  refine cl_skip ?_
  repeat refine sq ?_
  refine cl_block ?_
  repeat refine sq ?_
  refine rx hΓ [0,3,4,5,6,7] [] (fun K' hK => by simp only [go_sem, map_getD hlt, Int.toNat_natCast, Int.natCast_nonneg, hlt']; exact fin) ?_
  obtain ⟨c, hc⟩ : ∃ c : Bool, c = (!isPersB l[i] || (decide (0 < i) && decide (l.getD (i - 1) 0 ≥ l[i]))) := ⟨_, rfl⟩
  repeat refine sq ?_
  refine cl_rw hΓ (mkS 32 [0] (fun _ => none) [(0, ⟨true, .v (.sl (l.map vInt))⟩), (5, ⟨true, .v (.sl (l.map vInt))⟩), (6, ⟨true, .v (vInt l.length)⟩), (7, ⟨true, .v (vInt i)⟩), (27, ⟨true, .v (.bool c)⟩)] []) ?_ fun K' hK => ?_
  rotate_left
  ·cases hp : isPersB l[i] with
   | false =>
    have hct : c = true := by rw [hc, hp]; rfl
    simp only [go_sem, hin, hp]
    repeat refine ⟨ob, ?_⟩
    refine hK _ (weakM_keep [0, 5, 6, 7, 27] [] ?_ ?_)
    ·simp only [go_sem]
    ·simp only [go_sem, hct]
   | true =>
    by_cases h0 : i = 0
    ·have hct : c = false := by rw [hc, hp]; simp [h0]
     have e0 : decide ((i : Int) > 0) = false := by simp [h0]
     simp only [go_sem, hin, hp, e0]
     repeat refine ⟨ob, ?_⟩
     refine hK _ (weakM_keep [0, 5, 6, 7, 27] [] ?_ ?_)
     ·simp only [go_sem]
     ·simp only [go_sem, hct]
    ·have h1 : i - 1 < l.length := by omega
     have h1' : ((i - 1 : Nat) : Int) < l.length := by omega
     have e0 : decide ((i : Int) > 0) = true := by simp; omega
     have hct : decide (l[i - 1] ≥ l[i]) = c := by rw [hc, hp]; simp [List.getD_eq_getElem?_getD, h1]; intro; omega
     simp only [go_sem, hin, hp, e0, wrap_pred h0 (show i ≤ maxLen by omega), map_getD h1, Int.toNat_natCast, Int.natCast_nonneg, h1', hct]
     repeat refine ⟨ob, ?_⟩
     refine hK _ (weakM_keep [0, 5, 6, 7, 27] [] ?_ ?_)
     ·simp only [go_sem]
     ·simp only [go_sem, hct]
  repeat refine sq ?_
  refine cl_cond rfl rfl (fun hb => ?_) fun hb => ?_
  ·repeat refine sq ?_
   refine rs hΓ [2] [] ?_
   refine cl_ret ?_
   simp only [go_sem]
   have hno : ¬ (persOk l l.length ∧ l.length ≤ 12) := by
    rintro ⟨h1, _⟩
    obtain ⟨h2, h3⟩ := h1 i hlt hlt
    rw [hb] at hc
    rw [h2] at hc
    simp only [Bool.not_true, Bool.false_or, Bool.true_eq, Bool.and_eq_true, decide_eq_true_eq] at hc
    have h4 := h3 hc.1
    have h5 : i - 1 < l.length := by omega
    rw [List.getD_eq_getElem?_getD, List.getElem?_eq_getElem h5, Option.getD_some] at hc
    omega
   unfold areB
   simp [hno]
  ·have hnext : persOk l (i + 1) := fun j h hj => by
    rcases Nat.lt_succ_iff_lt_or_eq.1 hj with h1 | h1
    ·exact hz j h h1
    ·subst h1
     rw [hb] at hc
     cases hp : isPersB l[j] with
     | false => rw [hp] at hc; simp at hc
     | true =>
      refine ⟨rfl, fun h0 => ?_⟩
      have h5 : j - 1 < l.length := by omega
      rw [hp, List.getD_eq_getElem?_getD, List.getElem?_eq_getElem h5, Option.getD_some] at hc
      simp [h0] at hc
      exact hc
   clear hb
   repeat refine sq ?_
   refine cl_skip ?_
   refine cl_nil ?_
   simp only [go_sem]
   refine cl_keep [0,5,6,7] [] ?_ ?_ <;> simp only [go_sem]
   repeat refine sq ?_
   refine cl_r hΓ fun K' hK => ?_
   simp only [go_sem]
   repeat refine ⟨ob, ?_⟩
   refine hK _ ?_
   clear K' hK
   simp only [go_sem]
   refine ⟨i + 1, ⟨by omega, hnext⟩, by omega, ?_⟩
   refine weak_eq [0,5,6,7] [] ?_ ?_ <;> simp only [go_sem, wrap_succ hlt hl, Int.natCast_add, Int.natCast_one]
 ·have hge : i = l.length := by
   have : ¬ (i : Int) < l.length := by simpa using hb
   omega
  subst hge
  clear hb
  repeat refine sq ?_
  refine cl_exit ?_
  simp only [go_sem]
  refine cl_keep [0] [] ?_ ?_ <;> simp only [go_sem]
  repeat refine sq ?_
  refine rs hΓ [2] [] ?_
  refine cl_ret ?_
  simp only [go_sem]
  unfold areB
  have : ((l.length : Int) ≤ 12) ↔ l.length ≤ 12 := by omega
  simp [hz, this]
@[go_sem] theorem ta186 : tAgg Tryz.prog 186 = some (false, 1) := by kernel_rfl
@[go_sem] theorem tl186 : tLen Tryz.prog 186 = some 2 := by kernel_rfl
@[go_sem] theorem tz186 : tZero Tryz.prog 186 = some (.map none) := by kernel_rfl
@[go_sem] theorem tm186 : tMap Tryz.prog 186 = some (0, 4) := by kernel_rfl
def seenM (hs : List Int) : List (V × V) := hs.map fun h => (vInt h, .bool true)
theorem mget_seen (hs : List Int) (h : Int) : mget (seenM hs) (vInt h) = if hs.any (fun x => x == h) then some (.bool true) else none := by
 induction hs with
 | nil => rfl
 | cons a r ih =>
  unfold seenM at ih ⊢
  simp only [List.map_cons, mget, keq, List.any_cons]
  by_cases e : (a == h) = true
  ·simp [e]
  ·have e' : (a == h) = false := by simpa using e
   simp only [e', Bool.false_or, Bool.false_eq_true, if_false]
   exact ih
theorem mset_seen {hs : List Int} {h : Int} (hn : hs.any (fun x => x == h) = false) : mset (seenM hs) (vInt h) (.bool true) = seenM (hs ++ [h]) := by
 induction hs with
 | nil => rfl
 | cons a r ih =>
  simp only [List.any_cons, Bool.or_eq_false_iff] at hn
  unfold seenM at ih ⊢
  simp only [List.map_cons, List.cons_append, mset, keq, hn.1, Bool.false_eq_true, if_false, ih hn.2]
def badK (L : List Sta) (ps : List Int) (i : Nat) : Bool := (L.getD i zeroS).h == 0 || ((L.take i).any fun x => x.h == (L.getD i zeroS).h) || !(ps.any fun x => (L.getD i zeroS).n == x)
def threeB (L : List Sta) (ps : List Int) : Bool := (List.range 3).all fun i => !badK L ps i
def encW (a b c p q r : Int) (x y z : Sta) : V := .agg [vInt a, vInt b, vInt c, vInt p, vInt q, vInt r, vInt x.h, vInt x.n, .bool x.o, vInt y.h, vInt y.n, .bool y.o, vInt z.h, vInt z.n, .bool z.o]
def pThree : PSpec := ⟨fun xs => ∃ (a b c p q r : Int) (x y z : Sta) (ps : List Int), xs = [encW a b c p q r x y z, .sl (ps.map vInt)],
 fun xs => match xs with | [.agg [_, _, _, _, _, _, .int _ a, .int _ b, .bool c, .int _ d, .int _ e, .bool f, .int _ g, .int _ h, .bool i], .sl ps] => .bool (threeB [⟨a, b, c⟩, ⟨d, e, f⟩, ⟨g, h, i⟩] (ps.map decI)) | _ => .bool false, true⟩
theorem pThree_fn (a b c p q r : Int) (x y z : Sta) (ps : List Int) : pThree.fn [encW a b c p q r x y z, .sl (ps.map vInt)] = .bool (threeB [x, y, z] ps) := by
 simp only [pThree, encW, decI_map]
noncomputable def K87 : FuncId → Option Spec := fun f => match f with
 | 157 => some (sLV fun l v => .bool (l.any fun x => v == x))
 | _ => none
theorem K87_sound : ∀ f s, K87 f = some s → SSound Tryz.prog f s := by
 intro f s h
 unfold K87 at h
 split at h
 ·cases h; exact s157.sound
 ·cases h
@[go_sem] theorem K87_157 : K87 157 = some (sLV fun l v => .bool (l.any fun x => v == x)) := rfl
theorem three_no {L : List Sta} {ps : List Int} {i : Nat} (hi : i < 3) (h : badK L ps i = true) : threeB L ps = false := by
 unfold threeB
 rw [List.all_eq_false]
 exact ⟨i, List.mem_range.2 hi, by rw [h]; decide⟩
theorem three_yes {L : List Sta} {ps : List Int} (h : ∀ j, j < 3 → badK L ps j = false) : threeB L ps = true := by
 unfold threeB
 rw [List.all_eq_true]
 intro i hi
 rw [h i (List.mem_range.1 hi)]
 rfl
set_option maxHeartbeats 8000000 in
theorem s122 : PSound Tryz.prog 122 pThree := by
 refine psoundB (rs := [.tmp 4]) Tryz.func122 Tryz.ntmps122 (by rfl) (by kernel_rfl) (by decide) (by rintro _ xs ⟨a, b, c, p, q, r, x, y, z, ps, rfl⟩; rw [pThree_fn]; rfl) ⟨_, rfl, ?_⟩
 rintro xs ⟨a, b, c, p, q, r, ⟨x1, x2, x3⟩, ⟨y1, y2, y3⟩, ⟨z1, z2, z3⟩, ps, rfl⟩ hw
 refine ⟨lb rfl, ?_⟩
 rw [pThree_fn]
 simp only [encW]
 have hΓ := K87_sound
 have hP := mixedK
 repeat refine sq ?_
 refine rx hΓ [1,2] [[2, 0]] (fun K' hK => by simp only [go_sem, tz152]; exact fin) ?_
 repeat refine sq ?_
 refine rx hΓ [1,2,5] [[2, 0],[8, 0]] (fun K' hK => by simp only [go_sem, keyIs]; exact fin) ?_
 repeat refine sq ?_
 refine rx hΓ [1,5,10,11] [[8, 0]] (fun K' hK => by simp only [go_sem, tp150, Nat.reduceLeDiff, Nat.le_refl]; exact fin) ?_
 obtain ⟨L, hL⟩ : ∃ L : List Sta, L = [⟨x1, x2, x3⟩, ⟨y1, y2, y3⟩, ⟨z1, z2, z3⟩] := ⟨_, rfl⟩
 rw [← hL]
 repeat refine sq ?_
 refine cl_block ?_
 repeat refine sq ?_
 refine cl_loop' (fun s : Nat => [(11, ⟨true, .v (vInt s)⟩)]) (fun s => [([8, 0], .map 0 (seenM ((L.take s).map (·.h))))]) (fun s => s ≤ 3 ∧ ∀ j, j < s → badK L ps j = false) (fun s => 3 - s) 0 ?_ ?_ ?_ ?_
 ·exact ⟨Nat.zero_le _, fun j hj => by omega⟩
 ·rfl
 ·rfl
 rintro i ⟨hi, hz⟩
 simp only [go_sem]
 repeat refine sq ?_
 refine rs hΓ [1,5,10,11,12] [[8, 0]] ?_
 repeat refine sq ?_
 refine cl_cond rfl rfl (fun hb => ?_) fun hb => ?_
 ·have hlt : i < 3 := by
   have : (i : Int) < 3 := by simpa using hb
   omega
  have hws : IntKind.i64.wrap ((i : Int) + 1) = ((i + 1 : Nat) : Int) := wrap_succ (n := 3) hlt (by unfold maxLen; omega)
  clear hb
  repeat refine sq ?_
  refine cl_skip ?_
  repeat refine sq ?_
  refine cl_block ?_
  repeat refine sq ?_
  obtain ⟨h, n, o, hs⟩ : ∃ h n o, L.getD i zeroS = ⟨h, n, o⟩ := ⟨_, _, _, rfl⟩
  refine cl_rw hΓ (mkS 34 [0] (fun _ => none) [(1, ⟨true, .v (.sl (ps.map vInt))⟩), (5, ⟨true, .map [8, 0]⟩), (7, ⟨true, .ref [7, 0] 0⟩), (10, ⟨true, .agg [.v (vInt x1), .v (vInt x2), .v (.bool x3), .v (vInt y1), .v (vInt y2), .v (.bool y3), .v (vInt z1), .v (vInt z2), .v (.bool z3)]⟩), (11, ⟨true, .v (vInt i)⟩)] [([7, 0], .box [.v (vInt h), .v (vInt n), .v (.bool o)]), ([8, 0], .map 0 (seenM ((L.take i).map (·.h))))]) ?_ fun K' hK => ?_
  rotate_left
  ·have hi3 : i = 0 ∨ i = 1 ∨ i = 2 := by omega
   have h3 : (i : Int) < 3 := by omega
   generalize hsm : seenM ((L.take i).map (·.h)) = sm at hK ⊢
   rcases hi3 with rfl | rfl | rfl
   all_goals
    rw [hL] at hs
    simp only [List.getD_cons_zero, List.getD_cons_succ, Sta.mk.injEq] at hs
    obtain ⟨rfl, rfl, rfl⟩ := hs
    simp only [go_sem, tz137, tp137, Nat.reduceLeDiff, Nat.le_refl, Int.toNat_natCast, Int.natCast_nonneg, h3]
    repeat refine ⟨ob, ?_⟩
    refine hK _ (weakM_keep [1, 5, 7, 10, 11] [[7, 0], [8, 0]] ?_ ?_)
    ·simp only [go_sem]
    ·simp only [go_sem]
  have hA : ((L.take i).map (·.h)).any (fun x => x == h) = (L.take i).any (fun x => x.h == h) := by rw [List.any_map]; rfl
  have hbk : badK L ps i = ((h == 0) || ((L.take i).any fun x => x.h == h) || !(ps.any fun x => n == x)) := by unfold badK; rw [hs]
  rw [← hA] at hbk
  have hmg := mget_seen ((L.take i).map (·.h)) h
  repeat refine sq ?_
  refine cl_rw hΓ (mkS 34 [0] (fun _ => none) [(1, ⟨true, .v (.sl (ps.map vInt))⟩), (5, ⟨true, .map [8, 0]⟩), (7, ⟨true, .ref [7, 0] 0⟩), (10, ⟨true, .agg [.v (vInt x1), .v (vInt x2), .v (.bool x3), .v (vInt y1), .v (vInt y2), .v (.bool y3), .v (vInt z1), .v (vInt z2), .v (.bool z3)]⟩), (11, ⟨true, .v (vInt i)⟩), (29, ⟨true, .v (.bool (badK L ps i))⟩)] [([7, 0], .box [.v (vInt h), .v (vInt n), .v (.bool o)]), ([8, 0], .map 0 (seenM ((L.take i).map (·.h))))]) ?_ fun K' hK => ?_
  rotate_left
  ·generalize badK L ps i = bk at hbk hK
   cases h0 : (h == 0) <;> cases h1 : ((L.take i).map (·.h)).any (fun x => x == h)
   all_goals
    rw [h1] at hmg
    simp only [if_true, Bool.false_eq_true, if_false] at hmg
    simp only [h0, h1, Bool.true_or, Bool.or_true, Bool.false_or, Bool.or_false] at hbk
    simp only [go_sem, h0, hmg, keyIs, tz4, sLV_app, Option.getD_some, Option.getD_none]
    repeat refine ⟨ob, ?_⟩
    refine hK _ (weakM_keep [1, 5, 7, 10, 11, 29] [[7, 0], [8, 0]] ?_ ?_)
    ·simp only [go_sem]
    ·simp only [go_sem, hbk]
  repeat refine sq ?_
  refine cl_cond rfl rfl (fun hb => ?_) fun hb => ?_
  ·repeat refine sq ?_
   rw [three_no hlt hb]
   repeat refine sq ?_
   refine rs hΓ [4] [] ?_
   exact rt
  ·have hns : ((L.take i).map (·.h)).any (fun x => x == h) = false := by
    rw [hb] at hbk
    cases h1 : ((L.take i).map (·.h)).any (fun x => x == h) with
    | false => rfl
    | true => rw [h1] at hbk; simp at hbk
   have hms := mset_seen hns
   have hLi : i < L.length := by rw [hL]; exact hlt
   have hLg : L[i] = ⟨h, n, o⟩ := by rw [← hs, List.getD_eq_getElem?_getD, List.getElem?_eq_getElem hLi]; rfl
   repeat refine sq ?_
   refine cl_skip ?_
   repeat refine sq ?_
   refine cl_r hΓ fun K' hK => ?_
   simp only [go_sem, keyIs, hms]
   repeat refine ⟨ob, ?_⟩
   refine hK _ ?_
   clear K' hK
   simp only [go_sem]
   refine cl_keep [1,5,10,11] [[8, 0]] ?_ ?_ <;> simp only [go_sem]
   repeat refine sq ?_
   refine cl_r hΓ fun K' hK => ?_
   simp only [go_sem]
   repeat refine ⟨ob, ?_⟩
   refine hK _ ?_
   clear K' hK
   simp only [go_sem]
   refine ⟨i + 1, ⟨by omega, fun j hj => ?_⟩, by omega, ?_⟩
   ·rcases Nat.lt_succ_iff_lt_or_eq.1 hj with h1 | h1
    ·exact hz j h1
    ·subst h1; exact hb
   have htk : (L.take (i + 1)).map (·.h) = (L.take i).map (·.h) ++ [h] := by
    rw [List.take_add_one, List.getElem?_eq_getElem hLi, hLg]
    simp
   rw [htk]
   refine weak_eq [1,5,10,11] [[8, 0]] ?_ ?_ <;> simp only [go_sem, hws, Int.natCast_add, Int.natCast_one]
 ·have hge : i = 3 := by
   have : ¬ (i : Int) < 3 := by simpa using hb
   omega
  subst hge
  clear hb
  repeat refine sq ?_
  refine cl_exit ?_
  simp only [go_sem]
  refine cl_keep [] [] ?_ ?_ <;> simp only [go_sem]
  rw [three_yes hz]
  repeat refine sq ?_
  refine rs hΓ [4] [] ?_
  exact rt
theorem cl_label {P : Program} {l : Nat} {r : List Code} {σ : S} {K : Exit → S → Prop} (h : CL P r σ K) : CL P (.label l :: r) σ K := by
 cases r with
 | nil => exact cw_label h
 | cons c r => exact cw_label h
def wl (c : List Deed) (day : Int) (k : Nat) : Nat := k % nT c 3 day
def wj (c : List Deed) (day : Int) (k : Nat) : Nat := k / nT c 3 day % nT c 2 day
def wi (c : List Deed) (day : Int) (k : Nat) : Nat := k / nT c 3 day / nT c 2 day
def wN (c : List Deed) (day : Int) : Nat := nT c 1 day * (nT c 2 day * nT c 3 day)
theorem w_split {a b m i j l : Nat} (hj : j < a) (hl : l < b) (hm : m = i * (a * b) + j * b + l) : m % b = l ∧ m / b % a = j ∧ m / b / a = i := by
 have e : m = b * (a * i + j) + l := by
  rw [hm, Nat.mul_add, ← Nat.mul_assoc b a i, Nat.mul_comm b a, Nat.mul_comm (a * b) i, Nat.mul_comm b j]
 have h1 : m / b = a * i + j := by rw [e, Nat.mul_add_div (by omega), Nat.div_eq_of_lt hl]; rfl
 refine ⟨by rw [e, Nat.mul_add_mod, Nat.mod_eq_of_lt hl], ?_, ?_⟩
 ·rw [h1, Nat.mul_add_mod, Nat.mod_eq_of_lt hj]
 ·rw [h1, Nat.mul_add_div (by omega), Nat.div_eq_of_lt hj]; rfl
theorem w_lt {c : List Deed} {day : Int} {k : Nat} (h : k < wN c day) : wi c day k < nT c 1 day ∧ wj c day k < nT c 2 day ∧ wl c day k < nT c 3 day := by
 unfold wN at h
 have h3 : 0 < nT c 3 day := by
  rcases Nat.eq_zero_or_pos (nT c 3 day) with e | e
  ·rw [e] at h; simp at h
  ·exact e
 have h2 : 0 < nT c 2 day := by
  rcases Nat.eq_zero_or_pos (nT c 2 day) with e | e
  ·rw [e] at h; simp at h
  ·exact e
 refine ⟨?_, Nat.mod_lt _ h2, Nat.mod_lt _ h3⟩
 unfold wi
 rw [Nat.div_lt_iff_lt_mul h2, Nat.div_lt_iff_lt_mul h3, Nat.mul_assoc]
 exact h
theorem w_join (c : List Deed) (day : Int) (k : Nat) : k = nT c 3 day * (nT c 2 day * wi c day k + wj c day k) + wl c day k := by
 unfold wi wj wl
 rw [Nat.div_add_mod, Nat.div_add_mod]
theorem kT_inj {c : List Deed} {l day : Int} {i j : Nat} (hi : i < nT c l day) (hj : j < nT c l day) (h : kT c l day i = kT c l day j) : i = j := by
 unfold kT at h
 unfold nT at hi hj
 rw [List.getD_eq_getElem?_getD, List.getD_eq_getElem?_getD, List.getElem?_eq_getElem hi, List.getElem?_eq_getElem hj, Option.getD_some, Option.getD_some] at h
 exact (List.getElem_inj (List.nodup_range.filter _)).1 h
def wX (c : List Deed) (day : Int) (k : Nat) : Sta := sT c 1 day (wi c day k)
def wY (c : List Deed) (day : Int) (k : Nat) : Sta := sT c 2 day (wj c day k)
def wZ (c : List Deed) (day : Int) (k : Nat) : Sta := sT c 3 day (wl c day k)
def wA (c : List Deed) (day : Int) (k : Nat) : Nat := kT c 1 day (wi c day k)
def wB (c : List Deed) (day : Int) (k : Nat) : Nat := kT c 2 day (wj c day k)
def wC (c : List Deed) (day : Int) (k : Nat) : Nat := kT c 3 day (wl c day k)
def wVals (c : List Deed) (day : Int) (k : Nat) : List D := [wayD (wA c day k) (wB c day k) (wC c day k) (wX c day k) (wY c day k) (wZ c day k)]
theorem wVals_inj {c : List Deed} {day : Int} : ∀ s s', s < wN c day → s' < wN c day → wVals c day s = wVals c day s' → s = s' := by
 intro s s' h h' e
 obtain ⟨h1, h2, h3⟩ := w_lt h
 obtain ⟨k1, k2, k3⟩ := w_lt h'
 simp only [wVals, wayD, List.cons.injEq, D.agg.injEq, D.v.injEq, vInt, V.int.injEq, true_and, and_true] at e
 obtain ⟨e1, e2, e3, _⟩ := e
 have f1 := kT_inj h1 k1 (by unfold wA at e1; omega)
 have f2 := kT_inj h2 k2 (by unfold wB at e2; omega)
 have f3 := kT_inj h3 k3 (by unfold wC at e3; omega)
 rw [w_join c day s, w_join c day s', f1, f2, f3]
theorem wVals_at {c : List Deed} {day : Int} {i j l : Nat} (hj : j < nT c 2 day) (hl : l < nT c 3 day) : wVals c day (0 + i * (nT c 2 day * nT c 3 day) + j * nT c 3 day + l) = [wayD (kT c 1 day i) (kT c 2 day j) (kT c 3 day l) (sT c 1 day i) (sT c 2 day j) (sT c 3 day l)] := by
 obtain ⟨h1, h2, h3⟩ := w_split (i := i) hj hl (m := 0 + i * (nT c 2 day * nT c 3 day) + j * nT c 3 day + l) (by rw [Nat.zero_add])
 simp only [wVals, wA, wB, wC, wX, wY, wZ, wi, wj, wl, h1, h2, h3]
def offA (c : List Deed) (day : Int) (x : Sta) (inn : Bool) : Int × Bool := offFind (thrL c 0 x.h) inn day
def goodW (c : List Deed) (day : Int) (ps : List Int) (k : Nat) : Bool := threeB [wX c day k, wY c day k, wZ c day k] ps && (offA c day (wX c day k) true).2 && (offA c day (wY c day k) true).2 && (offA c day (wZ c day k) true).2
def cellsW (a b d p q r : Int) (x y z : Sta) : List D := [.v (vInt a), .v (vInt b), .v (vInt d), .v (vInt p), .v (vInt q), .v (vInt r), .v (vInt x.h), .v (vInt x.n), .v (.bool x.o), .v (vInt y.h), .v (vInt y.n), .v (.bool y.o), .v (vInt z.h), .v (vInt z.n), .v (.bool z.o)]
def cells0 : List D := cellsW 0 0 0 0 0 0 zeroS zeroS zeroS
def lawFam (c : List Deed) (day : Int) (ps : List Int) (s : Nat) : List O :=
 match s with
 | 0 => [.box cells0, .box [.v (.bool false)]]
 | k + 1 => if goodW c day ps k then [.box (cellsW (wA c day k) (wB c day k) (wC c day k) (offA c day (wX c day k) true).1 (offA c day (wY c day k) true).1 (offA c day (wZ c day k) true).1 (wX c day k) (wY c day k) (wZ c day k)), .box [.v (.bool true)]] else [.box cells0, .box [.v (.bool false)]]
def enL (c : List Deed) (day : Int) (ps : List Int) (a b : Name) : List E :=
 (List.range 40).map (ofL eAny [(2, ⟨true, .v (.ptr [.sl (c.map encD), vInt day])⟩), (3, ⟨true, .v (.ptr [.sl (ps.map vInt)])⟩), (4, ⟨true, .ref a 0⟩), (5, ⟨true, .ref b 0⟩), (12, ⟨true, .v (.clo (.func 177) [] [.ptr [.sl (c.map encD), vInt day]])⟩)])
noncomputable def cdL : Array Tmp × Code × Code := rngOf Tryz.f127
noncomputable def lawLp (c : List Deed) (day : Int) (ps : List Int) : Lp where
 m := 2
 env := fun Ls => enL c day ps (Ls.getD 0 []) (Ls.getD 1 [])
 fam := fun _ s => lawFam c day ps s
 ps := cdL.1.toList
 asg := cdL.2.1
 body := cdL.2.2
 n := wN c day
 vals := wVals c day
 st := fun k => if goodW c day ps k then some .ret else none
 fu := 100
theorem lawFam_cases (c : List Deed) (day : Int) (ps : List Int) (s : Nat) : ∃ (a b d p q r : Int) (x y z : Sta) (t : Bool), lawFam c day ps s = [.box (cellsW a b d p q r x y z), .box [.v (.bool t)]] := by
 cases s with
 | zero => exact ⟨_, _, _, _, _, _, _, _, _, _, rfl⟩
 | succ s =>
  simp only [lawFam]
  split
  ·exact ⟨_, _, _, _, _, _, _, _, _, _, rfl⟩
  ·exact ⟨_, _, _, _, _, _, _, _, _, _, rfl⟩
theorem lawLp_ok (c : List Deed) (day : Int) (ps : List Int) : (lawLp c day ps).Ok where
 len := fun Ls s _ => by obtain ⟨a, b, d, p, q, r, x, y, z, t, h⟩ := lawFam_cases c day ps s; simp only [lawLp, h]; rfl
 renE := fun f Ls h => by obtain ⟨a, b, rfl⟩ := two_names h; rfl
 renF := fun f Ls s h => by obtain ⟨a, b, d, p, q, r, x, y, z, t, h⟩ := lawFam_cases c day ps s; simp only [lawLp, h]; rfl
 reach := fun Ls s obj acc k h hn hd hF => by
  obtain ⟨a, b, rfl⟩ := two_names h
  obtain ⟨a', b', d, p, q, r, x, y, z, t, hf⟩ := lawFam_cases c day ps s
  simp only [lawLp, hf] at hF
  obtain ⟨h1, h2, _⟩ := hF
  have hab : a ≠ b := by simpa using hn
  show reachL obj (k + 100) _ acc = _
  have e : namesL (((lawLp c day ps).env [a, b]).map (·.d)) = [a, b] := rfl
  rw [e, show k + 100 = (k + 98) + 1 + 1 by omega, reachL_new (hd a (by simp)) h1]
  have h3 : b ∉ acc ++ [a] := by simp only [List.mem_append, List.mem_singleton, not_or]; exact ⟨hd b (by simp), hab.symm⟩
  show reachL obj (k + 98 + 1) [b] _ = _
  rw [reachL_new h3 h2]
  show reachL obj (k + 97 + 1) [] _ = _
  simp [reachL]
 closE := fun dom Ls h hd => by
  obtain ⟨a, b, rfl⟩ := two_names h
  have h1 := hd a (by simp)
  have h2 := hd b (by simp)
  simp [lawLp, enL, List.range, List.range.loop, ofL, D.closL, D.clos, eAny, h1, h2]
 closF := fun dom Ls s h hd o ho => by
  obtain ⟨a', b', d, p, q, r, x, y, z, t, hf⟩ := lawFam_cases c day ps s
  simp only [lawLp, hf, List.mem_cons, List.not_mem_nil, or_false] at ho
  rcases ho with rfl | rfl <;> rfl
 psz := fun Ls h => by rfl
 args := fun s => by rfl
 fuel := (show (100 : Nat) ≤ 2000 by decide)
 vnam := fun _ => rfl
 vcl := fun _ _ => rfl
 vren := fun _ _ => rfl
 inj := wVals_inj
def cnt (s k : Nat) (v : Int) : Int := if k < s then v else 0
@[go_sem] theorem cnt_0 (k : Nat) (v : Int) : cnt 0 k v = 0 := rfl
@[go_sem] theorem cnt_10 (v : Int) : cnt 1 0 v = v := rfl
@[go_sem] theorem cnt_11 (v : Int) : cnt 1 1 v = 0 := rfl
@[go_sem] theorem cnt_12 (v : Int) : cnt 1 2 v = 0 := rfl
@[go_sem] theorem cnt_20 (v : Int) : cnt 2 0 v = v := rfl
@[go_sem] theorem cnt_21 (v : Int) : cnt 2 1 v = v := rfl
@[go_sem] theorem cnt_22 (v : Int) : cnt 2 2 v = 0 := rfl
@[go_sem] theorem cnt_30 (v : Int) : cnt 3 0 v = v := rfl
@[go_sem] theorem cnt_31 (v : Int) : cnt 3 1 v = v := rfl
@[go_sem] theorem cnt_32 (v : Int) : cnt 3 2 v = v := rfl
noncomputable def sThree : Spec := pThree.toSpec
theorem sThree_app {obj : Name → Option O} {t : Name} {a b d p q r x1 x2 y1 y2 z1 z2 : Int} {x3 y3 z3 : Bool} {ps : List Int} :
  sThree.app obj t [.agg [.v (vInt a), .v (vInt b), .v (vInt d), .v (vInt p), .v (vInt q), .v (vInt r), .v (vInt x1), .v (vInt x2), .v (.bool x3), .v (vInt y1), .v (vInt y2), .v (.bool y3), .v (vInt z1), .v (vInt z2), .v (.bool z3)], .v (.sl (ps.map vInt))] = ⟨True, .v (.bool (threeB [⟨x1, x2, x3⟩, ⟨y1, y2, y3⟩, ⟨z1, z2, z3⟩] ps)), obj⟩ := by
 have e : frzL (frz 6) obj [.agg [.v (vInt a), .v (vInt b), .v (vInt d), .v (vInt p), .v (vInt q), .v (vInt r), .v (vInt x1), .v (vInt x2), .v (.bool x3), .v (vInt y1), .v (vInt y2), .v (.bool y3), .v (vInt z1), .v (vInt z2), .v (.bool z3)], .v (.sl (ps.map vInt))] = ⟨True, [encW a b d p q r ⟨x1, x2, x3⟩ ⟨y1, y2, y3⟩ ⟨z1, z2, z3⟩, .sl (ps.map vInt)], obj⟩ := by
  simp [frzL, frz, D.one, V.one, encW]
 simp only [sThree, PSpec.toSpec, e, pThree_fn]
 simp only [pThree, if_true]
 congr 1
 simp only [eq_iff_iff, iff_true]
 exact ⟨trivial, _, _, _, _, _, _, ⟨x1, x2, x3⟩, ⟨y1, y2, y3⟩, ⟨z1, z2, z3⟩, _, rfl⟩
noncomputable def sOff : Spec := pOff.toSpec
theorem sOff_app {obj : Name → Option O} {t : Name} {c : List Deed} {day pe : Int} {inn : Bool} (hl : c.length ≤ 60) (hk : ∀ d ∈ c, kindOk d) :
  sOff.app obj t [.v (.agg [.sl (c.map encD), vInt day]), .v (vInt pe), .v (.bool inn)] = ⟨True, .v (.tup [vInt (offFind (thrL c 0 pe) inn day).1, .bool (offFind (thrL c 0 pe) inn day).2]), obj⟩ := by
 simp only [sOff, PSpec.toSpec, frzL, frz, pOff_fn]
 simp only [pOff, if_true]
 congr 1
 simp only [eq_iff_iff, iff_true]
 exact ⟨⟨trivial, trivial, trivial, trivial⟩, c, day, pe, inn, rfl, hl, hk⟩
noncomputable def K89 : FuncId → Option Spec := fun f => match f with
 | 122 => some sThree
 | 159 => some sOff
 | _ => none
theorem K89_sound : ∀ f s, K89 f = some s → SSound Tryz.prog f s := by
 intro f s h
 unfold K89 at h
 split at h
 ·cases h; exact s122.sound
 ·cases h; exact s159.sound
 ·cases h
@[go_sem] theorem K89_122 : K89 122 = some sThree := rfl
@[go_sem] theorem K89_159 : K89 159 = some sOff := rfl
theorem cl_rwE {P : Program} {Γ : FuncId → Option Spec} (hΓ : ∀ f s, Γ f = some s → SSound P f s) {id : Nat} {l : List Oper} {c : Code} {r : List Code} {σ : S} {K K1 : Exit → S → Prop} (τ : S)
  (hn : ∀ σ', CL P (c :: r) σ' K1 → K .normal σ') (h : CL P (c :: r) τ K1) (h' : ∀ K' : S → Prop, (∀ σ', WeakM σ' τ → K' σ') → Reg P Γ l.toArray l σ K') : CL P [.region id l.toArray false] σ K :=
 cl_r hΓ fun K' hK => h' K' fun σ' hw => hK σ' (hn σ' (cl_weakM hw h))
set_option maxHeartbeats 16000000 in
theorem lawLp_y {c : List Deed} (hl60 : c.length ≤ 60) (hkc : ∀ d ∈ c, kindOk d) (day : Int) (ps : List Int) : SSound Tryz.prog yid (lawLp c day ps).y.toSpec := by
 refine Lp.y_sound (lawLp_ok c day ps) fun k hk hj => ?_
 have hΓ := K89_sound
 have hP := mixedK
 have hst : (lawLp c day ps).st k = if goodW c day ps k then some .ret else none := rfl
 have hf1 : (lawLp c day ps).fam (LR 2) (k + 1) = if goodW c day ps k then [.box (cellsW (wA c day k) (wB c day k) (wC c day k) (offA c day (wX c day k) true).1 (offA c day (wY c day k) true).1 (offA c day (wZ c day k) true).1 (wX c day k) (wY c day k) (wZ c day k)), .box [.v (.bool true)]] else [.box cells0, .box [.v (.bool false)]] := rfl
 have hf0 : (lawLp c day ps).fam (LR 2) k = [.box cells0, .box [.v (.bool false)]] := by
  cases k with
  | zero => rfl
  | succ s =>
   have h1 : (if goodW c day ps s then some Code.ret else none) = none := hj s (by omega)
   have h2 : goodW c day ps s = false := by
    cases hg : goodW c day ps s with
    | false => rfl
    | true => rw [hg] at h1; cases h1
   show lawFam c day ps (s + 1) = _
   simp only [lawFam, h2]
   rfl
 have hvl : (lawLp c day ps).vals k = [wayD (wA c day k) (wB c day k) (wC c day k) (wX c day k) (wY c day k) (wZ c day k)] := rfl
 have hm : (lawLp c day ps).m = 2 := rfl
 have hen : (lawLp c day ps).env (LR 2) = enL c day ps [0, 1] [1, 1] := rfl
 have hcd : cdL = (_, _, _) := rfl
 have hps : (lawLp c day ps).ps = [13] := rfl
 have hasg : (lawLp c day ps).asg = cdL.2.1 := rfl
 have hbody : (lawLp c day ps).body = cdL.2.2 := rfl
 have hgd : goodW c day ps k = (threeB [wX c day k, wY c day k, wZ c day k] ps && (offA c day (wX c day k) true).2 && (offA c day (wY c day k) true).2 && (offA c day (wZ c day k) true).2) := rfl
 rw [hm, hf0, hf1, hst, hvl, hen, hps, hasg, hbody, hcd]
 dsimp only
 generalize goodW c day ps k = gd at hgd ⊢
 generalize wA c day k = wa at *
 generalize wB c day k = wb at *
 generalize wC c day k = wc at *
 generalize wX c day k = x at *
 generalize wY c day k = y at *
 generalize wZ c day k = z at *
 clear hf0 hf1 hst hvl hm hen hps hasg hbody hj hk hcd
 have hF : objAll (outH [.box cells0, .box [.v (.bool false)]]) (LR 2) [.box cells0, .box [.v (.bool false)]] := outH_all
 have hO : ∀ hs, OutC [0] (domOf [0] hs) (outH [.box cells0, .box [.v (.bool false)]]) = True := fun hs => eq_true (outC_outs (fun o ho dom hd => by
  simp only [List.mem_cons, List.not_mem_nil, or_false] at ho
  rcases ho with rfl | rfl <;> rfl) hs)
 generalize outH [.box cells0, .box [.v (.bool false)]] = H at hF hO ⊢
 obtain ⟨hH0, hH1, _⟩ := hF
 obtain ⟨f, hf⟩ : ∃ f : Sta → Int × Bool, ∀ x, f x = offA c day x true := ⟨_, fun _ => rfl⟩
 have hoff := fun (obj : Name → Option O) (t : Name) (x1 x2 : Int) (x3 : Bool) => (sOff_app (obj := obj) (t := t) (day := day) (pe := x1) (inn := true) hl60 hkc).trans (show _ = (⟨True, .v (.tup [vInt (f ⟨x1, x2, x3⟩).1, .bool (f ⟨x1, x2, x3⟩).2]), obj⟩ : R) by rw [hf]; rfl)
 simp only [← hf] at hgd ⊢
 clear hf
 obtain ⟨x1, x2, x3⟩ := x
 obtain ⟨y1, y2, y3⟩ := y
 obtain ⟨z1, z2, z3⟩ := z
 simp only [wayD, cellsW, cells0, zeroS] at *
 refine cw_weak (weak_to 40 [0] H [(2, ⟨true, .v (.ptr [.sl (c.map encD), vInt day])⟩), (3, ⟨true, .v (.ptr [.sl (ps.map vInt)])⟩), (4, ⟨true, .ref [0, 1] 0⟩), (5, ⟨true, .ref [1, 1] 0⟩), (13, ⟨true, .agg [.v (vInt wa), .v (vInt wb), .v (vInt wc), .v (vInt 0), .v (vInt 0), .v (vInt 0), .v (vInt x1), .v (vInt x2), .v (.bool x3), .v (vInt y1), .v (vInt y2), .v (.bool y3), .v (vInt z1), .v (vInt z2), .v (.bool z3)]⟩)] [] rfl rfl (fun _ _ => rfl) ?_ (by simp) ?_ ?_) ?_
 ·intro q hq
  simp only [List.mem_cons, List.not_mem_nil, or_false] at hq
  rcases hq with rfl | rfl | rfl | rfl | rfl <;> rfl
 ·simp [D.clos, D.closL, domOf, own]
 ·rw [hO]; trivial
 refine cl_of ?_
 refine cl_r hΓ fun K' hK => ?_
 simp only [go_sem, tp152, tz152]
 refine ⟨Nat.le_refl _, ?_⟩
 refine hK _ ?_
 clear K' hK
 refine (cw_keep [2, 3, 4, 5, 6] [[6, 0]] ?_ ?_ : CW _ _ _ _)
 ·simp only [go_sem, hO]
 refine cl_of ?_
 simp only [go_sem]
 refine cl_block ?_
 repeat refine sq ?_
 refine cl_rs hΓ [2,4,5,6,17] [[6, 0]] fun K' hK => ?_
 simp only [go_sem, hO, sThree_app]
 repeat refine ⟨ob, ?_⟩
 refine hK _ ?_ ?_ <;> clear K' hK <;> simp only [go_sem, hO, sThree_app]
 obtain ⟨L, hL⟩ : ∃ L : List Sta, L = [⟨x1, x2, x3⟩, ⟨y1, y2, y3⟩, ⟨z1, z2, z3⟩] := ⟨_, rfl⟩
 have hLf : gd = (threeB L ps && (f (L.getD 0 zeroS)).2 && (f (L.getD 1 zeroS)).2 && (f (L.getD 2 zeroS)).2) := by rw [hgd, hL]; rfl
 clear hgd
 rw [← hL]
 repeat refine sq ?_
 refine cl_cond rfl rfl (fun hb => ?_) fun hb => ?_
 ·have hg0 : gd = false := by
   have : threeB L ps = false := by simpa using hb
   rw [hLf, this]; rfl
  subst hg0
  simp only [Bool.false_eq_true, if_false]
  refine cl_exit ?_
  simp only [go_sem]
  refine cl_nil ?_
  exact ⟨rfl, hH0, hH1, trivial⟩
 have h3 : threeB L ps = true := by simpa using hb
 rw [h3, Bool.true_and] at hLf
 repeat refine sq ?_
 refine cl_skip ?_
 repeat refine sq ?_
 refine cl_rs hΓ [2,4,5,6,19,20] [[6, 0]] fun K' hK => ?_
 simp only [go_sem, hO, tp150, tf152_2]
 repeat refine ⟨ob, ?_⟩
 refine hK _ ?_ ?_ <;> clear K' hK <;> simp only [go_sem, hO, tp150, tf152_2]
 repeat refine sq ?_
 refine cl_block ?_
 repeat refine sq ?_
 refine cl_loop' (fun s : Nat => [(20, ⟨true, .v (vInt s)⟩)]) (fun s => [([6, 0], .box [.v (vInt wa), .v (vInt wb), .v (vInt wc), .v (vInt (cnt s 0 (f ⟨x1, x2, x3⟩).1)), .v (vInt (cnt s 1 (f ⟨y1, y2, y3⟩).1)), .v (vInt (cnt s 2 (f ⟨z1, z2, z3⟩).1)), .v (vInt x1), .v (vInt x2), .v (.bool x3), .v (vInt y1), .v (vInt y2), .v (.bool y3), .v (vInt z1), .v (vInt z2), .v (.bool z3)])]) (fun s => s ≤ 3 ∧ ∀ j, j < s → (f (L.getD j zeroS)).2 = true) (fun s => 3 - s) 0 ?_ ?_ ?_ ?_
 ·exact ⟨Nat.zero_le _, fun j hj => by omega⟩
 ·rfl
 ·rfl
 rintro i ⟨hi, hz⟩
 simp only [go_sem]
 repeat refine sq ?_
 refine cl_rs hΓ [2,4,5,6,19,20,21] [[6, 0]] fun K' hK => ?_
 simp only [go_sem, hO]
 repeat refine ⟨ob, ?_⟩
 refine hK _ ?_ ?_ <;> clear K' hK <;> simp only [go_sem, hO]
 repeat refine sq ?_
 refine cl_cond rfl rfl (fun hb => ?_) fun hb => ?_
 ·have hlt : i < 3 := by
   have : (i : Int) < 3 := by simpa using hb
   omega
  have hws : IntKind.i64.wrap ((i : Int) + 1) = ((i + 1 : Nat) : Int) := wrap_succ (n := 3) hlt (by unfold maxLen; omega)
  clear hb
  repeat refine sq ?_
  refine cl_skip ?_
  repeat refine sq ?_
  refine cl_block ?_
  repeat refine sq ?_
  obtain ⟨h, n, o, hs⟩ : ∃ h n o, L.getD i zeroS = ⟨h, n, o⟩ := ⟨_, _, _, rfl⟩
  have hi3 : i = 0 ∨ i = 1 ∨ i = 2 := by omega
  refine cl_rw hΓ (mkS 40 [0] H [(2, ⟨true, .v (.ptr [.sl (c.map encD), vInt day])⟩), (4, ⟨true, .ref [0, 1] 0⟩), (5, ⟨true, .ref [1, 1] 0⟩), (6, ⟨true, .ref [6, 0] 0⟩), (7, ⟨true, .v (vInt i)⟩), (8, ⟨true, .ref [8, 0] 0⟩), (19, ⟨true, .agg [.v (vInt x1), .v (vInt x2), .v (.bool x3), .v (vInt y1), .v (vInt y2), .v (.bool y3), .v (vInt z1), .v (vInt z2), .v (.bool z3)]⟩), (20, ⟨true, .v (vInt i)⟩)] [([6, 0], .box [.v (vInt wa), .v (vInt wb), .v (vInt wc), .v (vInt (cnt i 0 (f ⟨x1, x2, x3⟩).1)), .v (vInt (cnt i 1 (f ⟨y1, y2, y3⟩).1)), .v (vInt (cnt i 2 (f ⟨z1, z2, z3⟩).1)), .v (vInt x1), .v (vInt x2), .v (.bool x3), .v (vInt y1), .v (vInt y2), .v (.bool y3), .v (vInt z1), .v (vInt z2), .v (.bool z3)]), ([8, 0], .box [.v (vInt h), .v (vInt n), .v (.bool o)])]) ?_ fun K' hK => ?_
  rotate_left
  ·have h3 : (i : Int) < 3 := by omega
   clear hLf hz
   rcases hi3 with rfl | rfl | rfl
   all_goals
    rw [hL] at hs
    simp only [List.getD_cons_zero, List.getD_cons_succ, Sta.mk.injEq] at hs
    obtain ⟨rfl, rfl, rfl⟩ := hs
    simp only [go_sem, tz137, tp137, Nat.reduceLeDiff, Nat.le_refl, Int.toNat_natCast, Int.natCast_nonneg, h3]
    repeat refine ⟨ob, ?_⟩
    refine hK _ (weakM_keep [2, 4, 5, 6, 7, 8, 19, 20] [[6, 0], [8, 0]] ?_ ?_)
    ·simp only [go_sem, hO]
    ·simp only [go_sem]
  have ho := fun (obj : Name → Option O) (t : Name) => hoff obj t h n o
  repeat refine sq ?_
  refine cl_rs hΓ [2,4,5,6,7,9,10,19,20] [[6, 0]] fun K' hK => ?_
  simp only [go_sem, hO, ho]
  repeat refine ⟨ob, ?_⟩
  refine hK _ ?_ ?_ <;> clear K' hK <;> simp only [go_sem, hO, ho]
  repeat refine sq ?_
  refine cl_rs hΓ [2,4,5,6,7,9,19,20,32] [[6, 0]] fun K' hK => ?_
  simp only [go_sem, hO]
  repeat refine ⟨ob, ?_⟩
  refine hK _ ?_ ?_ <;> clear K' hK <;> simp only [go_sem, hO]
  repeat refine sq ?_
  refine cl_cond rfl rfl (fun hb => ?_) fun hb => ?_
  ·have hg0 : gd = false := by
    have h5 : (f (L.getD i zeroS)).2 = false := by rw [hs]; simpa using hb
    rcases hi3 with rfl | rfl | rfl <;> (rw [hLf, h5]; simp)
   subst hg0
   simp only [Bool.false_eq_true, if_false]
   refine cl_exit ?_
   simp only [go_sem]
   refine cl_nil ?_
   exact ⟨rfl, hH0, hH1, trivial⟩
  ·have h5 : (f (L.getD i zeroS)).2 = true := by rw [hs]; simpa using hb
   repeat refine sq ?_
   refine cl_skip ?_
   refine cl_rwE hΓ (mkS 40 [0] H [(2, ⟨true, .v (.ptr [.sl (c.map encD), vInt day])⟩), (4, ⟨true, .ref [0, 1] 0⟩), (5, ⟨true, .ref [1, 1] 0⟩), (6, ⟨true, .ref [6, 0] 0⟩), (19, ⟨true, .agg [.v (vInt x1), .v (vInt x2), .v (.bool x3), .v (vInt y1), .v (vInt y2), .v (.bool y3), .v (vInt z1), .v (vInt z2), .v (.bool z3)]⟩), (20, ⟨true, .v (vInt i)⟩)] [([6, 0], .box [.v (vInt wa), .v (vInt wb), .v (vInt wc), .v (vInt (cnt (i + 1) 0 (f ⟨x1, x2, x3⟩).1)), .v (vInt (cnt (i + 1) 1 (f ⟨y1, y2, y3⟩).1)), .v (vInt (cnt (i + 1) 2 (f ⟨z1, z2, z3⟩).1)), .v (vInt x1), .v (vInt x2), .v (.bool x3), .v (vInt y1), .v (vInt y2), .v (.bool y3), .v (vInt z1), .v (vInt z2), .v (.bool z3)])]) (fun _ h => h) ?_ fun K' hK => ?_
   rotate_left
   ·have h3 : (i : Int) < 3 := by omega
    clear hLf hz hb h5 ho
    rcases hi3 with rfl | rfl | rfl
    all_goals
     rw [hL] at hs
     simp only [List.getD_cons_zero, List.getD_cons_succ, Sta.mk.injEq] at hs
     obtain ⟨rfl, rfl, rfl⟩ := hs
     simp only [go_sem, tf152_1, tr51, tp51, Nat.reduceLeDiff, Nat.le_refl, Int.toNat_natCast, Int.natCast_nonneg, h3]
     repeat refine ⟨ob, ?_⟩
     refine hK _ (weakM_keep [2, 4, 5, 6, 19, 20] [[6, 0]] ?_ ?_)
     ·simp only [go_sem, hO]
     ·simp only [go_sem]
   repeat refine sq ?_
   refine cl_r hΓ fun K' hK => ?_
   simp only [go_sem]
   repeat refine ⟨ob, ?_⟩
   refine hK _ ?_
   clear K' hK
   simp only [go_sem]
   refine ⟨i + 1, ⟨by omega, fun j hj => ?_⟩, by omega, ?_⟩
   ·rcases Nat.lt_succ_iff_lt_or_eq.1 hj with h1 | h1
    ·exact hz j h1
    ·subst h1; exact h5
   refine weak_eq [2,4,5,6,19,20] [[6, 0]] ?_ ?_
   ·simp only [go_sem, hO, hws, Int.natCast_add, Int.natCast_one]
   ·simp only [go_sem, hO, hws, Int.natCast_add, Int.natCast_one]
 ·have hge : i = 3 := by
   have : ¬ (i : Int) < 3 := by simpa using hb
   omega
  subst hge
  clear hb
  have hg1 : gd = true := by rw [hLf, hz 0 (by omega), hz 1 (by omega), hz 2 (by omega)]; rfl
  subst hg1
  simp only [if_true]
  repeat refine sq ?_
  refine cl_exit ?_
  simp only [go_sem]
  refine cl_keep [4,5,6] [[6, 0]] ?_ ?_
  ·simp only [go_sem, hO]
  simp only [go_sem, hO]
  have hO2 : ∀ hs b, OutC [0] (domOf [0] hs) (upd (upd H [0, 1] (some (.box (cellsW wa wb wc (f ⟨x1, x2, x3⟩).1 (f ⟨y1, y2, y3⟩).1 (f ⟨z1, z2, z3⟩).1 ⟨x1, x2, x3⟩ ⟨y1, y2, y3⟩ ⟨z1, z2, z3⟩)))) [1, 1] (some (.box [.v b]))) = True := fun hs b => eq_true (OutC_set rfl (OutC_set rfl ((hO hs).symm ▸ trivial)))
  simp only [cellsW] at hO2
  repeat refine sq ?_
  refine cl_rs hΓ [] [] fun K' hK => ?_
  simp only [go_sem, hO2, hH0, hH1, OutC_ifu2, mkS_ifu2]
  repeat refine ⟨ob, ?_⟩
  refine hK _ ?_ ?_ <;> clear K' hK <;> simp only [go_sem, hO2, hH0, hH1, OutC_ifu2, mkS_ifu2]
  refine cl_ret ?_
  exact ⟨rfl, rfl, rfl, trivial⟩
theorem cl_scope {P : Program} {c : Code} {r : List Code} {σ : S} {K : Exit → S → Prop} (hng : ∀ l σ', ¬ K (.goto l) σ') (h : CL P [c] σ (thenK (fun σ' => CL P r σ' K) K)) : CL P (.scope c :: r) σ K :=
 cw_scope (fun l σ' h => hng l σ' h) (CW.mono h fun e σ' hk => by cases e <;> exact hk)
def pWays : PSpec := ⟨fun xs => ∃ (c : List Deed) (day : Int), xs = [.agg [.sl (c.map encD), vInt day]],
 fun xs => match xs with | [.agg [.sl c, .int _ day]] => .clo (.func 177) [] [.ptr [.sl c, vInt day]] | _ => .bool false, false⟩
theorem pWays_fn (c : List Deed) (day : Int) : pWays.fn [.agg [.sl (c.map encD), vInt day]] = .clo (.func 177) [] [.ptr [.sl (c.map encD), vInt day]] := rfl
theorem s158 : PSound Tryz.prog 158 pWays := by
 refine psoundB (rs := [.tmp 2]) Tryz.func158 Tryz.ntmps158 (by rfl) (by kernel_rfl) (by decide) (fun h => by cases h) ⟨_, rfl, ?_⟩
 rintro xs ⟨c, day, rfl⟩ hw
 refine ⟨lb rfl, ?_⟩
 rw [pWays_fn]
 have hΓ := K0n_sound
 repeat refine sq ?_
 refine rs hΓ [1,2] [[1, 0]] ?_
 repeat refine sq ?_
 refine rs hΓ [2] [[1, 0]] ?_
 refine cl_ret ?_
 simp only [go_sem]
 all_goals first | done | rfl | exact ⟨by decide, rfl⟩ | exact ⟨by decide, trivial⟩
noncomputable def sWays : Spec := pWays.toSpec
theorem frzL_cons {F : (Name → Option O) → D → FR} {obj : Name → Option O} {a : D} {r : List D} {x : V} {xs : List V} (h1 : F obj a = ⟨True, x, obj⟩) (h2 : frzL F obj r = ⟨True, xs, obj⟩) : frzL F obj (a :: r) = ⟨True, x :: xs, obj⟩ := by
 simp only [frzL, h1, h2]
 simp
theorem frz_op1 (obj : Name → Option O) (c : List Deed) (day : Int) : frz 6 obj (.agg [.v (.sl (c.map encD)), .v (vInt day)]) = ⟨True, .agg [.sl (c.map encD), vInt day], obj⟩ := by
 simp [frz, frzL, D.one, V.one]
theorem frz_op {obj : Name → Option O} {c : List Deed} {day : Int} {r : List D} {xs : List V} (h : frzL (frz 6) obj r = ⟨True, xs, obj⟩) : frzL (frz 6) obj (.agg [.v (.sl (c.map encD)), .v (vInt day)] :: r) = ⟨True, .agg [.sl (c.map encD), vInt day] :: xs, obj⟩ :=
 frzL_cons (frz_op1 obj c day) h
theorem sWays_app {obj : Name → Option O} {t : Name} {c : List Deed} {day : Int} :
  sWays.app obj t [.agg [.v (.sl (c.map encD)), .v (vInt day)]] = ⟨True, .v (.clo (.func 177) [] [.ptr [.sl (c.map encD), vInt day]]), obj⟩ := by
 simp only [sWays, PSpec.toSpec, frz_op (r := []) (xs := []) (obj := obj) (by simp [frzL]), pWays_fn]
 simp only [pWays, Bool.false_eq_true, if_false]
 congr 1
 simp only [eq_iff_iff, iff_true]
 exact ⟨trivial, c, day, rfl⟩
def lawW (c : List Deed) (day : Int) (ps : List Int) : V × Bool := match (List.range (wN c day)).find? (goodW c day ps) with
 | some k => (encW (wA c day k) (wB c day k) (wC c day k) (offA c day (wX c day k) true).1 (offA c day (wY c day k) true).1 (offA c day (wZ c day k) true).1 (wX c day k) (wY c day k) (wZ c day k), true)
 | none => (encW 0 0 0 0 0 0 zeroS zeroS zeroS, false)
theorem find_congr {α : Type} {p q : α → Bool} (h : ∀ x, p x = q x) (l : List α) : l.find? p = l.find? q := by rw [show p = q from funext h]
theorem lawLp_end (c : List Deed) (day : Int) (ps : List Int) : ∃ (a b d p q r : Int) (x y z : Sta) (t : Bool),
  (lawLp c day ps).fam [] (lawLp c day ps).e = [.box (cellsW a b d p q r x y z), .box [.v (.bool t)]] ∧
  (lawLp c day ps).pd = (if t then some .ret else none) ∧ lawW c day ps = (encW a b d p q r x y z, t) ∧ (t = false → lawW c day ps = (encW 0 0 0 0 0 0 zeroS zeroS zeroS, false)) := by
 have hst : ∀ s, (lawLp c day ps).st s = if goodW c day ps s then some .ret else none := fun _ => rfl
 have hso : ∀ s, ((lawLp c day ps).st s).isSome = goodW c day ps s := fun s => by
  rw [hst]
  cases goodW c day ps s <;> rfl
 have hfm : ∀ s, (lawLp c day ps).fam [] s = lawFam c day ps s := fun _ => rfl
 unfold Lp.e Lp.pd lawW
 rw [find_congr hso]
 have hn : (lawLp c day ps).n = wN c day := rfl
 rw [hn]
 cases hf : (List.range (wN c day)).find? (goodW c day ps) with
 | none =>
  refine ⟨0, 0, 0, 0, 0, 0, zeroS, zeroS, zeroS, false, ?_, rfl, rfl, fun _ => rfl⟩
  dsimp only
  rw [hfm]
  cases hl : wN c day with
  | zero => rfl
  | succ s =>
   have := List.find?_eq_none.1 hf s (List.mem_range.2 (by omega))
   simp only [lawFam, if_neg this]
   rfl
 | some k =>
  have hg : goodW c day ps k = true := List.find?_some hf
  refine ⟨_, _, _, _, _, _, _, _, _, true, ?_, ?_, rfl, fun h => by cases h⟩
  ·dsimp only
   rw [hfm]
   simp only [lawFam, hg, if_true]
  ·dsimp only
   rw [hst, hg]
def pLaw : PSpec := ⟨fun xs => ∃ (c : List Deed) (day : Int) (ps : List Int), xs = [.agg [.sl (c.map encD), vInt day], .sl (ps.map vInt)] ∧ c.length ≤ 60 ∧ ∀ d ∈ c, kindOk d,
 fun xs => match xs with | [.agg [.sl c, .int _ day], .sl ps] => .tup [(lawW (c.map decD) day (ps.map decI)).1, .bool (lawW (c.map decD) day (ps.map decI)).2] | _ => .bool false, true⟩
theorem pLaw_fn (c : List Deed) (day : Int) (ps : List Int) : pLaw.fn [.agg [.sl (c.map encD), vInt day], .sl (ps.map vInt)] = .tup [(lawW c day ps).1, .bool (lawW c day ps).2] := by
 simp only [pLaw, decD_map, decI_map]
theorem encW_unit (c : List Deed) (day : Int) (ps : List Int) : ∃ (a b d p q r : Int) (x y z : Sta), (lawW c day ps).1 = encW a b d p q r x y z := by
 unfold lawW
 split
 ·exact ⟨_, _, _, _, _, _, _, _, _, rfl⟩
 ·exact ⟨_, _, _, _, _, _, _, _, _, rfl⟩
set_option maxHeartbeats 8000000 in
theorem s127 : PSound Tryz.prog 127 pLaw := by
 refine psoundB (rs := [.cell 4 152, .cell 5 4]) Tryz.func127 Tryz.ntmps127 (by rfl) (by kernel_rfl) (by decide) (by rintro _ xs ⟨c, day, ps, rfl, _⟩; rw [pLaw_fn]; obtain ⟨a, b, d, p, q, r, x, y, z, h⟩ := encW_unit c day ps; rw [h]; rfl) ⟨_, rfl, ?_⟩
 rintro xs ⟨c, day, ps, rfl, hl, hk⟩ hw
 refine ⟨lb rfl, ?_⟩
 rw [pLaw_fn]
 obtain ⟨Γ, hΓ, h158, h177⟩ : ∃ Γ : FuncId → Option Spec, (∀ f s, Γ f = some s → SSound Tryz.prog f s) ∧ Γ 158 = some sWays ∧ Γ 177 = some ((lawLp c day ps).it [.ptr [.sl (c.map encD), vInt day]]).toSpec := by
  refine ⟨fun f => match f with | 158 => some sWays | 177 => some ((lawLp c day ps).it [.ptr [.sl (c.map encD), vInt day]]).toSpec | _ => none, ?_, rfl, rfl⟩
  intro f s h
  dsimp only at h
  split at h
  ·cases h; exact s158.sound
  ·cases h; exact iter177 (lawLp_ok c day ps) (show (100 : Nat) ≤ 1900 by decide) (lawLp_y hl hk day ps) hl hk day rfl (fun i j l _ hj hl' => wVals_at hj hl')
  ·cases h
 have hP := mixedK
 repeat refine sq ?_
 refine rx hΓ [2,3,4,5] [[2, 0],[3, 0],[4, 0],[5, 0]] (fun K' hK => by simp only [go_sem, tz152, tz4]; exact fin) ?_
 refine cl_scope (fun l σ' h => h.elim) ?_
 repeat refine sq ?_
 refine cl_label ?_
 repeat refine sq ?_
 refine rx hΓ [2,3,4,5,12] [[2, 0],[3, 0],[4, 0],[5, 0]] (fun K' hK => by simp only [go_sem, h158, sWays_app]; exact fin) ?_
 refine cl_weakM (σ' := mkS 40 [0] (fun _ => none) [(2, ⟨true, .v (.ptr [.sl (c.map encD), vInt day])⟩), (3, ⟨true, .ref [3, 0] 0⟩), (4, ⟨true, .ref [4, 0] 0⟩), (5, ⟨true, .ref [5, 0] 0⟩), (12, ⟨true, .v (.clo (.func 177) [] [.ptr [.sl (c.map encD), vInt day]])⟩)] [([3, 0], .box [.v (.sl (ps.map vInt))]), ([4, 0], .box cells0), ([5, 0], .box [.v (.bool false)])]) (weakM_frzk 2 (.ref [2, 0] 0) (by simp only [go_sem]) (by simp only [go_sem]) [2, 3, 4, 5, 12] [[3, 0],[4, 0],[5, 0]] ?_ ?_) ?_
 ·simp only [go_sem]
 ·simp only [go_sem]
  rfl
 refine cl_weakM (σ' := mkS 40 [0] (fun _ => none) [(2, ⟨true, .v (.ptr [.sl (c.map encD), vInt day])⟩), (3, ⟨true, .v (.ptr [.sl (ps.map vInt)])⟩), (4, ⟨true, .ref [4, 0] 0⟩), (5, ⟨true, .ref [5, 0] 0⟩), (12, ⟨true, .v (.clo (.func 177) [] [.ptr [.sl (c.map encD), vInt day]])⟩)] [([4, 0], .box cells0), ([5, 0], .box [.v (.bool false)])]) (weakM_frzk 3 (.ref [3, 0] 0) (by simp only [go_sem]) (by simp only [go_sem]) [2, 3, 4, 5, 12] [[4, 0],[5, 0]] ?_ ?_) ?_
 ·simp only [go_sem]
  try rfl
 ·simp only [go_sem]
 repeat refine sq ?_
 refine cl_block ?_
 repeat refine sq ?_
 refine cl_iter hΓ (lawLp_ok c day ps) 30 31 (f := 177) (Ls := [[4, 0], [5, 0]]) rfl rfl (by decide) h177 rfl rfl rfl rfl rfl rfl (by decide) (show ([30, 0] : Name) ∉ [[4, 0], [5, 0]] by decide) ⟨rfl, rfl, trivial⟩ fun o => ?_
 obtain ⟨a, b, d, p, q, r, ⟨x1, x2, x3⟩, ⟨y1, y2, y3⟩, ⟨z1, z2, z3⟩, t, hfe, hpd, hW, hW0⟩ := lawLp_end c day ps
 have hfe' : (lawLp c day ps).fam [[4, 0], [5, 0]] (lawLp c day ps).e = _ := hfe
 rw [hpd, hfe']
 simp only [cellsW]
 cases t with
 | true =>
  rw [hW]
  show blockK 0 _ .ret _
  simp only [go_sem, setLs, pdK, encW, tz152, tp152, Nat.reduceLeDiff, Nat.le_refl]
 | false =>
  rw [hW0 rfl]
  have hpn : (if false = true then some Code.ret else none) = none := rfl
  rw [hpn]
  simp only [pdK, thenK]
  refine cl_nil ?_
  show CL Tryz.prog (_ :: _) _ _
  refine cl_keep [4,5] [[4, 0],[5, 0]] ?_ ?_ <;> simp only [go_sem, setLs]
  repeat refine sq ?_
  refine rx hΓ [4,5] [[4, 0],[5, 0]] (fun K' hK => by simp only [go_sem, tz152]; exact fin) ?_
  refine cl_ret ?_
  simp only [go_sem, encW, tz152, tp152, zeroS, Nat.reduceLeDiff, Nat.le_refl]
end Go.Eng
