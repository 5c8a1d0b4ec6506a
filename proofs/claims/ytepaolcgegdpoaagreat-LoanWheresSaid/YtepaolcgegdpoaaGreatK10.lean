import Derived.Test.YtepaolcgegdpoaaGreatK9
/- Texts LW47 to LB. -/
set_option linter.all false
namespace Go.Eng
open Go Go.Proofs
set_option maxRecDepth 10000
noncomputable section
def dbF (x : RV) (a b : Nat) (f : Int) : Bool := (ofR x.k ⟨(rsAt x.l a).pa, f⟩ (rsAt x.l a) && ofR x.k ⟨(rsAt x.l a).pa, f⟩ (rsAt x.l b)) &&
 (((rsAt x.l a).da == (rsAt x.l b).da || decide (retI x a f < 0)) || decide (earl (tsAt x.l (retI x a f).toNat) (rsAt x.l a) > (rsAt x.l b).da))
def dblS (x : RV) (a b : Nat) : Bool := (rsAt x.l a).lv.any (dbF x a b)
def dblR (x : RV) (a b : Nat) : Bool := if (rsAt x.l a).da > (rsAt x.l b).da then dblS x b a else dblS x a b
theorem any_no {α : Type} {p : α → Bool} {l : List α} (h : ∀ j (hj : j < l.length), j < l.length → p l[j] = false) : l.any p = false := by
 rw [List.any_eq_false]
 intro y hy
 obtain ⟨j, hj, rfl⟩ := List.getElem_of_mem hy
 rw [h j hj hj]; decide
theorem okL_rlv {l : Led} (h : OkL l) {i : Nat} (hi : i < l.rs.length) : l.rs[i].lv.length ≤ 30 := (leavesB_iff.1 (recB_lvs (allB_at h.rs hi))).2.1
def K47 : List (Nat × Spec) := [(188, S188), (103, S103), (158, S158)]
theorem K47_sound : KS K47 := tc s188.sound <| tc s103.sound <| tc s158.sound <| tn
attribute [go_sem] K47
def P137d : PSpec := p3 iRV iI iI (fun x a b => RVok x ∧ (0 ≤ a ∧ a < x.l.rs.length ∧ 0 ≤ b ∧ b < x.l.rs.length) ∧ ¬ (rsAt x.l a.toNat).da > (rsAt x.l b.toNat).da) (fun x a b => .bool (dblS x a.toNat b.toNat)) true
set_option maxHeartbeats 8000000 in
theorem s137d : PSound Tryz.prog 137 P137d := by
 refine wd3 (rs := [.tmp 6]) Tryz.func137 Tryz.ntmps137 fun x a b hp hw => ?_
 have hP := mixedK
 simp only [iRV, iI, encRV] at hw ⊢
 have hΓ := K47_sound
 obtain ⟨hv, ⟨ha0, ha1, hb0, hb1⟩, hle⟩ := hp
 have hok := hv.1
 have htl := hv.2.1
 obtain ⟨n, rfl⟩ : ∃ n : Nat, a = n := ⟨a.toNat, by omega⟩
 obtain ⟨m, rfl⟩ : ∃ m : Nat, b = m := ⟨b.toNat, by omega⟩
 have hn : n < x.l.rs.length := by omega
 have hm : m < x.l.rs.length := by omega
 have ern := rsAt_at hn
 have erm := rsAt_at hm
 simp only [tnI, ern, erm] at hle ⊢
 have hld : decide (x.l.rs[n].da > x.l.rs[m].da) = false := decide_eq_false hle
 have hvl := okL_rlv hok hn
 have hvm : x.l.rs[n].lv.length ≤ maxLen := by unfold maxLen; omega
 repeat refine sq ?_
 refine rsx hΓ [1,2,3] [[3, 0]] ?_
 repeat refine sq ?_
 refine rx hΓ [1,2,3,7] [[3, 0],[7, 0]] (fun K' hK => by simp only [go_sem, map_getD hn, tnI, nnI, ha1, List.length_map]; exact fnx) ?_
 repeat refine sq ?_
 refine rx hΓ [1,2,3,7,8] [[3, 0],[7, 0],[8, 0]] (fun K' hK => by simp only [go_sem, map_getD hm, tnI, nnI, hb1, List.length_map]; exact fnx) ?_
 repeat refine sq ?_
 refine rx hΓ [1,2,3,7,8,28] [[3, 0],[7, 0],[8, 0]] (fun K' hK => by simp only [go_sem, hld]; exact fnx) ?_
 refine cnd (fun hb => ?_) fun hb => ?_
 ·cases hb
 ·refine cl_skip ?_
  repeat refine sq ?_
  refine rsx hΓ [1,2,3,7,8,9] [[3, 0],[7, 0],[8, 0]] ?_
  refine cl_block ?_
  refine cl_loop'  (fun s : Nat => [(9, ⟨true, .v (vInt s)⟩)]) (fun s => []) (fun s => s ≤ x.l.rs[n].lv.length ∧ ∀ j (hj : j < x.l.rs[n].lv.length), j < s → dbF x n m x.l.rs[n].lv[j] = false) (fun s => x.l.rs[n].lv.length - s) 0 ?_ ?_ ?_ ?_
  ·exact ⟨Nat.zero_le _, by simp⟩
  ·rfl
  ·rfl
  rintro i ⟨hi, hR⟩
  simp only [go_sem]
  repeat refine sq ?_
  refine rsx hΓ [1,2,3,7,8,9,37] [[3, 0],[7, 0],[8, 0]] ?_
  refine cnd (fun hb => ?_) fun hb => ?_
  ·have hlt : i < x.l.rs[n].lv.length := by simpa using hb
   have hlt' : (i : Int) < x.l.rs[n].lv.length := by omega
   clear hb
   have elf : x.l.rs[n].lv.getD i 0 = x.l.rs[n].lv[i] := by rw [List.getD_eq_getElem?_getD, List.getElem?_eq_getElem hlt]; rfl
   refine cl_skip ?_
   repeat refine sq ?_
   refine cl_block ?_
   repeat refine sq ?_
   refine dx hΓ hP [[], [0], [], [2], [], [2, 3, 4], [2, 3, 4, 5], u7, [], u9] [1,2,3,7,8,9,10] [[3, 0],[7, 0],[8, 0],[10, 0]] (by kernel_rfl) (fun K' hK => by simp only [go_sem, map_getD hlt, tnI, nnI, hlt']; exact fdx) ?_
   repeat refine sq ?_
   refine rx hΓ [1,2,3,7,8,9,10,59] [[3, 0],[7, 0],[8, 0],[10, 0]] (fun K' hK => by simp only [go_sem, tnI, nnI, tnI, ern, erm]; (repeat (refine ⟨by first | exact obx | exact ⟨nnI _, ha1⟩ | exact fun h => ⟨h, nnI _, hb1⟩, ?_⟩)); exact fn0) ?_
   refine cnd (fun hb => ?_) fun hb => ?_
   ·have eF : dbF x n m x.l.rs[n].lv[i] = false := by
     unfold dbF; rw [ern, erm]
     cases h1 : ofR x.k ⟨x.l.rs[n].pa, x.l.rs[n].lv[i]⟩ x.l.rs[n] <;> cases h2 : ofR x.k ⟨x.l.rs[n].pa, x.l.rs[n].lv[i]⟩ x.l.rs[m] <;> rw [h1, h2] at hb <;> first | rfl | (simp at hb; done)
    refine cl_exit ?_
    simp only [go_sem]
    refine kp [1,2,3,7,8,9] [[3, 0],[7, 0],[8, 0]] ?_
    refine cl_r hΓ fun K' hK => ?_
    simp only [go_sem]
    repeat (refine ⟨obx, ?_⟩)
    refine hK _ ?_
    clear K' hK
    simp only [go_sem]
    refine ⟨i + 1, ⟨hlt, ?_⟩, by (show x.l.rs[n].lv.length - (i + 1) < x.l.rs[n].lv.length - i; omega), ?_⟩
    ·intro j hj hji
     rcases Nat.lt_succ_iff_lt_or_eq.1 hji with h5 | rfl
     ·exact hR j hj h5
     ·exact eF
    refine weak_eq [1,2,3,7,8,9] [[3, 0],[7, 0],[8, 0]] ?_ ?_ <;> simp only [go_sem, wrap_succ hlt hvm, csI]
   ·have h1 : ofR x.k ⟨x.l.rs[n].pa, x.l.rs[n].lv[i]⟩ x.l.rs[n] = true := by
     cases h : ofR x.k ⟨x.l.rs[n].pa, x.l.rs[n].lv[i]⟩ x.l.rs[n] with | true => rfl | false => rw [h] at hb; simp at hb
    have h2 : ofR x.k ⟨x.l.rs[n].pa, x.l.rs[n].lv[i]⟩ x.l.rs[m] = true := by
     cases h : ofR x.k ⟨x.l.rs[n].pa, x.l.rs[n].lv[i]⟩ x.l.rs[m] with | true => rfl | false => rw [h, h1] at hb; simp at hb
    clear hb
    refine cl_skip ?_
    repeat refine sq ?_
    refine rx hΓ [1,2,3,7,8,9,11] [[3, 0],[7, 0],[8, 0]] (fun K' hK => by simp only [go_sem, tnI, nnI, tnI]; (repeat (refine ⟨by first | exact obx | exact ⟨⟨hok, htl⟩, nnI _, ha1⟩, ?_⟩)); exact fn0) ?_
    rcases ret_cases x n x.l.rs[n].lv[i] with hre | ⟨j, hj, hre⟩
    ·repeat refine sq ?_
     refine dx hΓ hP [[], [0], [], [2], u4, u5, u6, u7, u8, u9, u10, u11, u12, u10, u14, u15, u10, u17, u10, [0, 1, 2, 3, 4, 5, 6, 7, 8, 9, 18], u20, u21] [1,2,3,7,8,9,86] [[3, 0],[7, 0],[8, 0]] (by kernel_rfl) (fun K' hK => by simp only [go_sem, hre, neg1_lt]; (repeat (refine ⟨by first | exact obx | exact fun h => ⟨h, okL_rda hok (List.getElem_mem hn)⟩, ?_⟩)); exact fd0) ?_
     refine cnd (fun hb => ?_) fun hb => ?_
     ·repeat refine sq ?_
      have eF : dbF x n m x.l.rs[n].lv[i] = true := by unfold dbF; rw [ern, erm, h1, h2, hre]; simp
      have e : dblS x n m = true := by unfold dblS; rw [ern]; exact List.any_eq_true.2 ⟨_, List.getElem_mem hlt, eF⟩
      refine rsx hΓ [6] [] ?_
      refine cl_ret ?_
      simp only [go_sem]
      first | (rw [e]; done) | (rw [show dblS x n m = false from by unfold dblS; rw [ern]; exact any_no hR])
     ·cases hb
    ·have hjt : j < x.l.ts.length := by omega
     have hjt' : (j : Int) < x.l.ts.length := by omega
     have hjn : decide ((j : Int) < 0) = false := by simp
     repeat refine sq ?_
     refine dx hΓ hP [[], [0], [], [2], u4, u5, u6, u7, u8, u9, u10, u11, u12, u10, u14, u15, u10, u17, u10, [0, 1, 2, 3, 4, 5, 6, 7, 8, 9, 18], u20, u21] [1,2,3,7,8,9,86] [[3, 0],[7, 0],[8, 0]] (by kernel_rfl) (fun K' hK => by simp only [go_sem, tnI, nnI, hre, hjn, map_getD hjt, hjt', tnI, nnI, List.length_map]; (repeat (refine ⟨by first | exact obx | exact fun h => ⟨h, okL_rda hok (List.getElem_mem hn)⟩, ?_⟩)); exact fd0) ?_
     refine cnd (fun hb => ?_) fun hb => ?_
     ·repeat refine sq ?_
      have eF : dbF x n m x.l.rs[n].lv[i] = true := by unfold dbF; rw [ern, erm, h1, h2, hre, tnI, tsAt_at hjt, hjn]; simpa using hb
      have e : dblS x n m = true := by unfold dblS; rw [ern]; exact List.any_eq_true.2 ⟨_, List.getElem_mem hlt, eF⟩
      refine rsx hΓ [6] [] ?_
      refine cl_ret ?_
      simp only [go_sem]
      first | (rw [e]; done) | (rw [show dblS x n m = false from by unfold dblS; rw [ern]; exact any_no hR])
     ·have eF : dbF x n m x.l.rs[n].lv[i] = false := by unfold dbF; rw [ern, erm, h1, h2, hre, tnI, tsAt_at hjt, hjn]; simpa using hb
      refine cl_skip ?_
      refine cl_nil ?_
      simp only [go_sem]
      refine kp [1,2,3,7,8,9] [[3, 0],[7, 0],[8, 0]] ?_
      refine cl_r hΓ fun K' hK => ?_
      simp only [go_sem]
      repeat (refine ⟨obx, ?_⟩)
      refine hK _ ?_
      clear K' hK
      simp only [go_sem]
      refine ⟨i + 1, ⟨hlt, ?_⟩, by (show x.l.rs[n].lv.length - (i + 1) < x.l.rs[n].lv.length - i; omega), ?_⟩
      ·intro j hj hji
       rcases Nat.lt_succ_iff_lt_or_eq.1 hji with h5 | rfl
       ·exact hR j hj h5
       ·exact eF
      refine weak_eq [1,2,3,7,8,9] [[3, 0],[7, 0],[8, 0]] ?_ ?_ <;> simp only [go_sem, wrap_succ hlt hvm, csI]
  ·have hge : i = x.l.rs[n].lv.length := by
    have : ¬ (i : Int) < x.l.rs[n].lv.length := by simpa using hb
    omega
   clear hb
   subst hge
   refine cl_exit ?_
   simp only [go_sem]
   refine kp [] [] ?_
   repeat refine sq ?_
   refine rsx hΓ [6] [] ?_
   refine cl_ret ?_
   simp only [go_sem]
   first | (rw [e]; done) | (rw [show dblS x n m = false from by unfold dblS; rw [ern]; exact any_no hR])
end
noncomputable section
def S137d : Spec := P137d.toSpec
attribute [go_sem] P137d S137d
def K48 : List (Nat × Spec) := [(137, S137d)]
theorem K48_sound : KS K48 := tc s137d.sound <| tn
attribute [go_sem] K48
def P137u : PSpec := p3 iRV iI iI (fun x a b => RVok x ∧ (0 ≤ a ∧ a < x.l.rs.length ∧ 0 ≤ b ∧ b < x.l.rs.length) ∧ (rsAt x.l a.toNat).da > (rsAt x.l b.toNat).da) (fun x a b => .bool (dblS x b.toNat a.toNat)) true
set_option maxHeartbeats 8000000 in
theorem s137u : PSound Tryz.prog 137 P137u := by
 refine wd3 (rs := [.tmp 6]) Tryz.func137 Tryz.ntmps137 fun x a b hp hw => ?_
 simp only [iRV, iI, encRV] at hw ⊢
 have hΓ := K48_sound
 obtain ⟨hv, ⟨ha0, ha1, hb0, hb1⟩, hle⟩ := hp
 obtain ⟨n, rfl⟩ : ∃ n : Nat, a = n := ⟨a.toNat, by omega⟩
 obtain ⟨m, rfl⟩ : ∃ m : Nat, b = m := ⟨b.toNat, by omega⟩
 have hn : n < x.l.rs.length := by omega
 have hm : m < x.l.rs.length := by omega
 have ern := rsAt_at hn
 have erm := rsAt_at hm
 simp only [tnI, ern, erm] at hle ⊢
 have hld : decide (x.l.rs[n].da > x.l.rs[m].da) = true := decide_eq_true hle
 repeat refine sq ?_
 refine rsx hΓ [1,2,3] [[3, 0]] ?_
 repeat refine sq ?_
 refine rx hΓ [1,2,3,7] [[3, 0],[7, 0]] (fun K' hK => by simp only [go_sem, map_getD hn, tnI, nnI, ha1, List.length_map]; exact fnx) ?_
 repeat refine sq ?_
 refine rx hΓ [1,2,3,7,8] [[3, 0],[7, 0],[8, 0]] (fun K' hK => by simp only [go_sem, map_getD hm, tnI, nnI, hb1, List.length_map]; exact fnx) ?_
 repeat refine sq ?_
 refine rx hΓ [1,2,3,7,8,28] [[3, 0],[7, 0],[8, 0]] (fun K' hK => by simp only [go_sem, hld]; exact fnx) ?_
 refine cnd (fun hb => ?_) fun hb => ?_
 ·repeat refine sq ?_
  refine rx hΓ [6] [] (fun K' hK => by simp only [go_sem, tnI]; (repeat (refine ⟨by first | exact obx | exact ⟨hv, ⟨nnI _, hb1, nnI _, ha1⟩, by simp only [tnI, ern, erm]; omega⟩, ?_⟩)); exact fn0) ?_
  refine cl_ret ?_
  simp only [go_sem]
  skip
 ·cases hb
theorem PSound.or {P : Program} {f : FuncId} {s s1 s2 : PSpec} (h1 : PSound P f s1) (h2 : PSound P f s2) (hs : s.flat = true → s1.flat = true ∧ s2.flat = true)
  (hc : ∀ xs, s.pre xs → (s1.pre xs ∧ s1.fn xs = s.fn xs) ∨ (s2.pre xs ∧ s2.fn xs = s.fn xs)) : PSound P f s where
 ne := h1.ne
 enter := h1.enter
 flat := fun hf xs hp => by
  rcases hc xs hp with ⟨a, e⟩ | ⟨a, e⟩
  ·rw [← e]; exact h1.flat (hs hf).1 xs a
  ·rw [← e]; exact h2.flat (hs hf).2 xs a
 calls := fun m w xs args ha hr hp => by
  rcases hc xs hp with ⟨a, e⟩ | ⟨a, e⟩
  ·rw [← e]; exact h1.calls m w xs args ha hr a
  ·rw [← e]; exact h2.calls m w xs args ha hr a
@[go_sem] def P137 : PSpec := p3 iRV iI iI (fun x a b => RVok x ∧ 0 ≤ a ∧ a < x.l.rs.length ∧ 0 ≤ b ∧ b < x.l.rs.length) (fun x a b => .bool (dblR x a.toNat b.toNat)) true
@[go_sem] def S137 : Spec := P137.toSpec
theorem s137 : PSound Tryz.prog 137 P137 := by
 refine s137d.or s137u (fun _ => ⟨rfl, rfl⟩) fun xs hp => ?_
 unfold P137 p3 at hp
 dsimp only at hp
 split at hp
 ·rename_i x y z
  by_cases hle : (rsAt (iRV.dec x).l (iI.dec y).toNat).da > (rsAt (iRV.dec x).l (iI.dec z).toNat).da
  ·refine .inr ⟨⟨hp.1, hp.2.1, hp.2.2.1, hp.2.2.2.1, hp.2.2.2.2, hle⟩, ?_⟩
   show V.bool (dblS _ _ _) = V.bool (dblR _ _ _)
   rw [dblR, if_pos hle]
  ·refine .inl ⟨⟨hp.1, hp.2.1, hp.2.2.1, hp.2.2.2.1, hp.2.2.2.2, hle⟩, ?_⟩
   show V.bool (dblS _ _ _) = V.bool (dblR _ _ _)
   rw [dblR, if_neg hle]
 ·exact hp.elim
end
noncomputable section
def whR (x : RV) (f : Fol) (day : Int) : List Int :=
 if lastI x f day < 0 then [0] else
 if (decide (retI x (lastI x f day).toNat f.le < 0) || decide ((rgAt x.ds (retI x (lastI x f day).toNat f.le).toNat).lo > day)) = true then [(rsAt x.l (lastI x f day).toNat).bo] else
 if (rgAt x.ds (retI x (lastI x f day).toNat f.le).toNat).hi ≤ day then [0] else [0, (rsAt x.l (lastI x f day).toNat).bo]
def K49 : List (Nat × Spec) := [(159, S159), (103, S103)]
theorem K49_sound : KS K49 := tc s159.sound <| tc s103.sound <| tn
attribute [go_sem] K49
@[go_sem] def P101 : PSpec := p3 iRV iFo iI (fun x _ _ => RVok x ∧ x.ds.length = x.ts.length) (fun x f day => .sl ((whR x f day).map vInt)) false
@[go_sem] def S101 : Spec := P101.toSpec
set_option maxHeartbeats 8000000 in
theorem s101 : PSound Tryz.prog 101 P101 := by
 refine wd3 (rs := [.tmp 6]) Tryz.func101 Tryz.ntmps101 fun x f day hp hw => ?_
 simp only [iFo, iI, iRV, encFo] at hw ⊢
 have hΓ := K49_sound
 obtain ⟨⟨hok, htl, -⟩, hdl⟩ := hp
 repeat refine sq ?_
 refine rsx hΓ [2,3,4] [[3, 0],[4, 0]] ?_
 rcases lastI_at x f day with hla | ⟨q, hq, hla⟩
 ·repeat refine sq ?_
  refine rx hΓ [2,3,4,7] [[3, 0],[4, 0]] (fun K' hK => by simp only [go_sem, hla, etaFo]; (repeat (refine ⟨by first | exact obx | exact hok, ?_⟩)); exact fn0) ?_
  repeat refine sq ?_
  refine rsx hΓ [2,3,4,7,15] [[3, 0],[4, 0]] ?_
  refine cnd (fun hb => ?_) fun hb => ?_
  ·repeat refine sq ?_
   have e : whR x f day = [0] := by unfold whR; rw [hla]; rfl
   refine rsx hΓ [6] [] ?_
   refine cl_ret ?_
   simp only [go_sem]
   rw [e]; rfl
  ·cases hb
 ·have hq' : (q : Int) < x.l.rs.length := by omega
  have erq := rsAt_at hq
  repeat refine sq ?_
  refine rx hΓ [2,3,4,7] [[3, 0],[4, 0]] (fun K' hK => by simp only [go_sem, hla, etaFo]; (repeat (refine ⟨by first | exact obx | exact hok, ?_⟩)); exact fn0) ?_
  repeat refine sq ?_
  refine rsx hΓ [2,3,4,7,15] [[3, 0],[4, 0]] ?_
  refine cnd (fun hb => ?_) fun hb => ?_
  ·cases hb
  ·refine cl_skip ?_
   repeat refine sq ?_
   refine rx hΓ [2,3,4,7,8] [[3, 0],[4, 0]] (fun K' hK => by simp only [go_sem, map_getD hq, hq', tnI, nnI, List.length_map]; exact fnx) ?_
   rcases ret_cases x q f.le with hre | ⟨j, hj, hre⟩
   ·repeat refine sq ?_
    refine rx hΓ [2,3,8,9] [[3, 0]] (fun K' hK => by simp only [go_sem, hre, tnI]; (repeat (refine ⟨by first | exact obx | exact ⟨⟨hok, htl⟩, nnI _, hq'⟩, ?_⟩)); exact fn0) ?_
    repeat refine sq ?_
    refine rx hΓ [2,3,8,9,40] [[3, 0]] (fun K' hK => by simp only [go_sem, neg1_lt]; exact fnx) ?_
    refine cnd (fun hb => ?_) fun hb => ?_
    ·repeat refine sq ?_
     have e : whR x f day = [x.l.rs[q].bo] := by unfold whR; rw [hla, if_neg (by omega), tnI, hre, erq]; rfl
     refine rsx hΓ [6] [] ?_
     refine cl_ret ?_
     simp only [go_sem]
     rw [e]; rfl
    ·cases hb
   ·have hjd : j < x.ds.length := by omega
    have hjd' : (j : Int) < x.ds.length := by omega
    have hjn : decide ((j : Int) < 0) = false := by simp
    repeat refine sq ?_
    refine rx hΓ [2,3,8,9] [[3, 0]] (fun K' hK => by simp only [go_sem, hre, tnI, nnI, tnI]; (repeat (refine ⟨by first | exact obx | exact ⟨⟨hok, htl⟩, nnI _, hq'⟩, ?_⟩)); exact fn0) ?_
    repeat refine sq ?_
    refine rx hΓ [2,3,8,9,40] [[3, 0]] (fun K' hK => by simp only [go_sem, hjn, map_getD hjd, hjd', tnI, nnI, List.length_map]; exact fnx) ?_
    refine cnd (fun hb => ?_) fun hb => ?_
    ·repeat refine sq ?_
     have e : whR x f day = [x.l.rs[q].bo] := by unfold whR; rw [hla, if_neg (by omega), tnI, hre, erq, tnI, rgAt_at hjd, hjn, Bool.false_or, if_pos (by simpa using hb)]
     refine rsx hΓ [6] [] ?_
     refine cl_ret ?_
     simp only [go_sem]
     rw [e]; rfl
    ·have hlo : ¬ x.ds[j].lo > day := by simpa using hb
     refine cl_skip ?_
     repeat refine sq ?_
     refine rx hΓ [8,50] [] (fun K' hK => by simp only [go_sem, tnI, nnI, List.length_map, map_getD hjd, hjd', tnI, nnI, List.length_map]; exact fnx) ?_
     refine cnd (fun hb => ?_) fun hb => ?_
     ·repeat refine sq ?_
      have e : whR x f day = [0] := by unfold whR; rw [hla, if_neg (by omega), tnI, hre, tnI, rgAt_at hjd, if_neg (by simpa using hlo), if_pos (by simpa using hb)]
      refine rsx hΓ [6] [] ?_
      refine cl_ret ?_
      simp only [go_sem]
      rw [e]; rfl
     ·have e : whR x f day = [0, x.l.rs[q].bo] := by unfold whR; rw [hla, if_neg (by omega), tnI, hre, erq, tnI, rgAt_at hjd, if_neg (by simpa using hlo), if_neg (by simpa using hb)]
      refine cl_skip ?_
      repeat refine sq ?_
      refine rsx hΓ [6] [] ?_
      refine cl_ret ?_
      simp only [go_sem]
      rw [e]; rfl
end
noncomputable section
def dbAt (x : RV) (i : Nat) : Option (Int × Int) := ((List.range x.l.rs.length).find? fun j => decide (i < j) && dblR x i j).map fun j => ((rsAt x.l i).so, (rsAt x.l j).so)
def dbP (x : RV) : Option (Int × Int) := (List.range x.l.rs.length).findSome? (dbAt x)
def dbLs (x : RV) : List Int := match dbP x with
 | some p => [p.1, p.2]
 | none => []
theorem dbAt_none {x : RV} {i : Nat} (h : ∀ j, i < j → j < x.l.rs.length → dblR x i j = false) : dbAt x i = none := by
 unfold dbAt
 rw [List.find?_eq_none.2]
 ·rfl
 ·intro j hj
  have hj' : j < x.l.rs.length := by simpa using hj
  by_cases hij : i < j
  ·rw [h j hij hj']; simp
  ·simp [hij]
theorem dbAt_some {x : RV} {i j : Nat} (hij : i < j) (hj : j < x.l.rs.length) (h : dblR x i j = true) (hn : ∀ m, i < m → m < j → dblR x i m = false) : dbAt x i = some ((rsAt x.l i).so, (rsAt x.l j).so) := by
 unfold dbAt
 rw [(List.find?_eq_some_iff_getElem (b := j)).2 ⟨by simp [hij, h], j, by simpa using hj, by simp, fun m hm => by
  rw [List.getElem_range]
  by_cases him : i < m
  ·simp [hn m him hm]
  ·simp [him]⟩]
 rfl
theorem dbP_some {x : RV} {i j : Nat} (hi : i < x.l.rs.length) (hij : i < j) (hj : j < x.l.rs.length) (h : dblR x i j = true) (hn : ∀ m, i < m → m < j → dblR x i m = false)
  (hb : ∀ a, a < i → ∀ m, a < m → m < x.l.rs.length → dblR x a m = false) : dbP x = some ((rsAt x.l i).so, (rsAt x.l j).so) := by
 unfold dbP
 rw [List.findSome?_eq_some_iff]
 refine ⟨List.range i, i, (List.range' (i + 1) (x.l.rs.length - (i + 1))), ?_, dbAt_some hij hj h hn, fun a ha => dbAt_none fun m h1 h2 => hb a (by simpa using ha) m h1 h2⟩
 rw [List.range_eq_range', List.range_eq_range', ← List.range'_succ]
 have h1 := List.range'_append_1 (s := 0) (m := i) (n := x.l.rs.length - (i + 1) + 1)
 rw [Nat.zero_add] at h1
 rw [h1]
 congr 1
 omega
theorem dbP_none {x : RV} (hb : ∀ a, a < x.l.rs.length → ∀ m, a < m → m < x.l.rs.length → dblR x a m = false) : dbP x = none := by
 unfold dbP
 rw [List.findSome?_eq_none_iff]
 exact fun a ha => dbAt_none fun m h1 h2 => hb a (by simpa using ha) m h1 h2
def K50 : List (Nat × Spec) := [(137, S137)]
theorem K50_sound : KS K50 := tc s137.sound <| tn
attribute [go_sem] K50
@[go_sem] def P133 : PSpec := p1 iRV (fun x => RVok x) (fun x => .sl ((dbLs x).map vInt)) false
@[go_sem] def S133 : Spec := P133.toSpec
set_option maxHeartbeats 8000000 in
theorem s133 : PSound Tryz.prog 133 P133 := by
 refine wd1 (rs := [.tmp 2]) Tryz.func133 Tryz.ntmps133 fun x hp hw => ?_
 have hP := mixedK
 simp only [iRV] at hw ⊢
 have hΓ := K50_sound
 have hrn := hp.1.rsn
 have hl : x.l.rs.length ≤ maxLen := by unfold maxLen; omega
 repeat refine sq ?_
 refine rsx hΓ [1] [[1, 0]] ?_
 repeat refine sq ?_
 refine rsx hΓ [1,3] [[1, 0]] ?_
 refine cl_block ?_
 refine cl_loop'  (fun s : Nat => [(3, ⟨true, .v (vInt s)⟩)]) (fun s => []) (fun s => s ≤ x.l.rs.length ∧ ∀ a, a < s → ∀ m, a < m → m < x.l.rs.length → dblR x a m = false) (fun s => x.l.rs.length - s) 0 ?_ ?_ ?_ ?_
 ·exact ⟨Nat.zero_le _, fun a h => by omega⟩
 ·rfl
 ·rfl
 rintro i ⟨hi, hR⟩
 simp only [go_sem]
 repeat refine sq ?_
 refine rsx hΓ [1,3,10] [[1, 0]] ?_
 refine cnd (fun hb => ?_) fun hb => ?_
 ·have hlt : i < x.l.rs.length := by simpa using hb
  have hlt' : (i : Int) < x.l.rs.length := by omega
  clear hb
  have hwi : IntKind.i64.wrap ((i : Int) + 1) = ((i + 1 : Nat) : Int) := wrap_succ hlt hl
  have eri := rsAt_at hlt
  have hi' : (i : Int) < x.l.rs.length := by omega
  refine cl_skip ?_
  repeat refine sq ?_
  refine cl_block ?_
  repeat refine sq ?_
  refine rx hΓ [1,3,4] [[1, 0]] (fun K' hK => by simp only [go_sem, hlt', hwi]; exact fnx) ?_
  refine cl_block ?_
  refine cl_loop'  (fun s : Nat => [(4, ⟨true, .v (vInt s)⟩)]) (fun s => []) (fun s => s ≤ x.l.rs.length ∧ i < s ∧ ∀ m, i < m → m < s → dblR x i m = false) (fun s => x.l.rs.length - s) (i + 1) ?_ ?_ ?_ ?_
  ·exact ⟨hlt, Nat.lt_succ_self i, fun m h1 h2 => by omega⟩
  ·rfl
  ·rfl
  rintro i1 ⟨hi, hR⟩
  simp only [go_sem]
  repeat refine sq ?_
  refine rsx hΓ [1,3,4,20] [[1, 0]] ?_
  refine cnd (fun hb => ?_) fun hb => ?_
  ·have hlt1 : i1 < x.l.rs.length := by simpa using hb
   have hlt1' : (i1 : Int) < x.l.rs.length := by omega
   clear hb
   have erj := rsAt_at hlt1
   have hj' : (i1 : Int) < x.l.rs.length := by omega
   refine cl_skip ?_
   repeat refine sq ?_
   refine cl_block ?_
   repeat refine sq ?_
   refine rx hΓ [1,3,4,26] [[1, 0]] (fun K' hK => by simp only [go_sem, tnI, nnI, hlt', tnI, nnI, hlt1', tnI, nnI]; (repeat (refine ⟨by first | exact obx | exact ⟨hp, nnI _, hi', nnI _, hj'⟩, ?_⟩)); exact fn0) ?_
   refine cnd (fun hb => ?_) fun hb => ?_
   ·repeat refine sq ?_
    have hd : dblR x i i1 = true := by simpa using hb
    have e : dbLs x = [x.l.rs[i].so, x.l.rs[i1].so] := by unfold dbLs; rw [dbP_some hlt hR.1 hlt1 hd hR.2 (by assumption), eri, erj]
    refine dx hΓ hP [[], [0], [0, 1], [], u4, u5, u6, [], [7], [7, 8], [], [7, 8, 9, 10], [7, 8, 9, 10, 11], [7, 8, 9, 10, 11, 12], u14, u15] [2] [] (by kernel_rfl) (fun K' hK => by simp only [go_sem, tnI, nnI, hlt', tnI, nnI, hlt1', map_getD hlt, map_getD hlt1, tnI, nnI, List.length_map]; exact fdx) ?_
    refine cl_ret ?_
    simp only [go_sem]
    rw [e]; rfl
   ·refine cl_skip ?_
    refine cl_nil ?_
    simp only [go_sem]
    refine kp [1,3,4] [[1, 0]] ?_
    refine cl_r hΓ fun K' hK => ?_
    simp only [go_sem]
    repeat (refine ⟨obx, ?_⟩)
    refine hK _ ?_
    clear K' hK
    simp only [go_sem]
    refine ⟨i1 + 1, ⟨hlt1, ?_⟩, by (show x.l.rs.length - (i1 + 1) < x.l.rs.length - i1; omega), ?_⟩
    ·refine ⟨by omega, fun m h1 h2 => ?_⟩
     rcases Nat.lt_succ_iff_lt_or_eq.1 h2 with h5 | rfl
     ·exact hR.2 m h1 h5
     ·simpa using hb
    refine weak_eq [1,3,4] [[1, 0]] ?_ ?_ <;> simp only [go_sem, wrap_succ hlt1 hl, csI]
  ·have hge1 : i1 = x.l.rs.length := by
    have : ¬ (i1 : Int) < x.l.rs.length := by simpa using hb
    omega
   clear hb
   subst hge1
   refine cl_exit ?_
   simp only [go_sem]
   refine kp [1,3] [[1, 0]] ?_
   refine cl_r hΓ fun K' hK => ?_
   simp only [go_sem]
   repeat (refine ⟨obx, ?_⟩)
   refine hK _ ?_
   clear K' hK
   simp only [go_sem]
   refine ⟨i + 1, ⟨hlt, ?_⟩, by (show x.l.rs.length - (i + 1) < x.l.rs.length - i; omega), ?_⟩
   ·intro a ha m h1 h2
    rcases Nat.lt_succ_iff_lt_or_eq.1 ha with h5 | rfl
    ·exact (by assumption : ∀ a, a < i → ∀ m, a < m → m < x.l.rs.length → dblR x a m = false) a h5 m h1 h2
    ·exact hR.2 m h1 (by omega)
   refine weak_eq [1,3] [[1, 0]] ?_ ?_ <;> simp only [go_sem, wrap_succ hlt hl, csI]
 ·have hge : i = x.l.rs.length := by
   have : ¬ (i : Int) < x.l.rs.length := by simpa using hb
   omega
  clear hb
  subst hge
  refine cl_exit ?_
  simp only [go_sem]
  refine kp [] [] ?_
  repeat refine sq ?_
  refine rsx hΓ [2] [] ?_
  refine cl_ret ?_
  simp only [go_sem]
  have e : dbLs x = [] := by unfold dbLs; rw [dbP_none hR]
  rw [e]; rfl
end
noncomputable section
theorem telR_at (l : Led) (k : Int) {s i : Nat} (h : (telR l k s).getD i false = true) : i < s ∧ telB l k (telR l k i) i = true := by
 induction s with
 | zero => rw [telR_hi l k (Nat.zero_le i)] at h; cases h
 | succ s ih =>
  by_cases hi : i < s
  ·have e : (telR l k (s + 1)).getD i false = (telR l k s).getD i false := by
    rw [telR]
    split
    ·rw [List.getD_eq_getElem?_getD, List.getElem?_set_ne (by omega), ← List.getD_eq_getElem?_getD]
    ·rfl
   rw [e] at h
   exact ⟨by omega, (ih h).2⟩
  ·by_cases hs : i = s
   ·subst hs
    refine ⟨by omega, ?_⟩
    cases hb : telB l k (telR l k i) i with
    | true => rfl
    | false => rw [telR_no l k hb, telR_hi l k (Nat.le_refl i)] at h; cases h
   ·rw [telR_hi l k (by omega)] at h; cases h
theorem telB_rx {l : Led} {k : Int} {row : List Bool} {i : Nat} (h : telB l k row i = true) : ¬ rxI l (tsAt l i).re k < 0 := by
 unfold telB at h
 split at h
 ·cases h
 ·assumption
theorem rvOf_ok {l : Led} (h : OkL l) (k : Int) : RVok (rvOf l k) := ⟨h, telR_len _ _ _, fun _ hi => telB_rx (telR_at l k hi).2⟩
theorem sgTo_mem (x : RV) : ∀ s, ∀ a ∈ sgTo x s, 0 ≤ a ∧ a < s
 | 0, a, h => nomatch h
 | s + 1, a, h => by
  rw [sgTo] at h
  split at h
  ·rcases List.mem_append.1 h with h | h
   ·have := sgTo_mem x s a h; omega
   ·simp only [List.mem_singleton] at h; omega
  ·have := sgTo_mem x s a h; omega
theorem dbLs_pos (x : RV) : decide (((dbLs x).length : Int) > 0) = (dbP x).isSome := by unfold dbLs; cases dbP x <;> rfl
def sgI (l : Led) (k : Int) : List Int := sgTo (rvOf l k) l.ss.length
def dyI (l : Led) (k : Int) : List Rg × Bool := dyTo (rvOf l k) (sgI l k) (sgI l k).length
def snE (l : Led) (k : Int) : Int := if (dbP (rvOf l k)).isSome = true then 25 else if (dyI l k).2 = true then 0 else 27
def snV (l : Led) (k : Int) : RV := if snE l k = 0 then { rvOf l k with ds := (dyI l k).1 } else rvOf l k
def K51 : List (Nat × Spec) := [(73, S73), (133, S133), (135, S135), (183, S183)]
theorem K51_sound : KS K51 := tc s73.sound <| tc s133.sound <| tc s135.sound <| tc s183.sound <| tn
attribute [go_sem] K51
@[go_sem] def P99 : PSpec := p2 iL iI (fun l _ => OkL l) (fun l k => .tup [encRV (snV l k), vInt (snE l k)]) false
@[go_sem] def S99 : Spec := P99.toSpec
set_option maxHeartbeats 8000000 in
theorem s99 : PSound Tryz.prog 99 P99 := by
 refine wd2 (rs := [.cell 4 108, .tmp 5]) Tryz.func99 Tryz.ntmps99 fun l k hp hw => ?_
 have hP := mixedK
 simp only [iI, iL, encL] at hw ⊢
 have hΓ := K51_sound
 have hv := rvOf_ok hp k
 have hsn := hp.ssn
 have hgm := sgTo_mem (rvOf l k) l.ss.length
 have hgl := sgTo_len (rvOf l k) l.ss.length
 repeat refine sq ?_
 refine rsx hΓ [1,2,4] [[2, 0],[4, 0]] ?_
 repeat refine sq ?_
 refine rx hΓ [4,6] [[4, 0],[6, 0]] (fun K' hK => by simp only [go_sem]; (repeat (refine ⟨by first | exact obx | exact hp, ?_⟩)); exact fn0) ?_
 repeat refine sq ?_
 refine rx hΓ [4,6,15] [[4, 0],[6, 0]] (fun K' hK => by simp only [go_sem, List.length_map, dbLs_pos]; (repeat (refine ⟨by first | exact obx | exact hv, ?_⟩)); exact fn0) ?_
 refine cnd (fun hb => ?_) fun hb => ?_
 ·repeat refine sq ?_
  have e : snE l k = 25 := by unfold snE; rw [if_pos hb]
  have e2 : snV l k = rvOf l k := by unfold snV; rw [e]; rfl
  refine rsx hΓ [4,5] [[4, 0]] ?_
  refine cl_ret ?_
  simp only [go_sem]
  first | (rw [e, e2]; done) | (rw [e, e2]; rfl)
 ·have h0 : (dbP (rvOf l k)).isSome = false := by simpa using hb
  refine cl_skip ?_
  repeat refine sq ?_
  refine dx hΓ hP [[], [], [1], [0, 1, 2], u4, u5, u5, u6, u8] [4,6,7,8] [[4, 0],[6, 0]] (by kernel_rfl) (fun K' hK => by simp only [go_sem]; (repeat (refine ⟨by first | exact obx | first | exact hv | exact hp | exact ⟨hv, Nat.le_trans hgl hsn, hgm⟩, ?_⟩)); exact fd0) ?_
  repeat refine sq ?_
  refine rsx hΓ [4,6,7,25] [[4, 0],[6, 0]] ?_
  refine cnd (fun hb => ?_) fun hb => ?_
  ·repeat refine sq ?_
   have h1 : (dyI l k).2 = false := by have h : (!(dyI l k).2) = true := hb; simpa using h
   have e : snE l k = 27 := by unfold snE; rw [if_neg (by rw [h0]; decide), if_neg (by rw [h1]; decide)]
   have e2 : snV l k = rvOf l k := by unfold snV; rw [e]; rfl
   refine rsx hΓ [4,5] [[4, 0]] ?_
   refine cl_ret ?_
   simp only [go_sem]
   first | (rw [e, e2]; done) | (rw [e, e2]; rfl)
  ·have h1 : (dyI l k).2 = true := by have h : (!(dyI l k).2) = false := hb; simpa using h
   have e : snE l k = 0 := by unfold snE; rw [if_neg (by rw [h0]; decide), if_pos h1]
   have e2 : snV l k = { rvOf l k with ds := (dyI l k).1 } := by unfold snV; rw [if_pos e]
   refine cl_skip ?_
   repeat refine sq ?_
   refine rsx hΓ [4,6] [[4, 0],[6, 0]] ?_
   repeat refine sq ?_
   refine rsx hΓ [4,5] [[4, 0]] ?_
   refine cl_ret ?_
   simp only [go_sem]
   first | (rw [e, e2]; done) | (rw [e, e2]; rfl)
end
theorem find_idx {α : Type} (p : α → Bool) (l : List α) : l.find? p = if idxF p l < 0 then none else l[(idxF p l).toNat]? := by
 unfold idxF
 by_cases h : l.any p = true
 ·rw [if_pos h]
  have hlt : l.findIdx p < l.length := List.findIdx_lt_length_of_exists (by obtain ⟨x, hx, hp⟩ := List.any_eq_true.1 h; exact ⟨x, hx, hp⟩)
  rw [if_neg (by omega), Int.toNat_natCast, List.getElem?_eq_getElem hlt]
  exact List.find?_eq_some_iff_getElem.2 ⟨List.findIdx_getElem (w := hlt), _, hlt, rfl, fun j hj => by simpa using List.not_of_lt_findIdx hj⟩
 ·rw [if_neg h, if_pos (by omega)]
  rw [List.find?_eq_none]
  intro x hx hp
  exact h (List.any_eq_true.2 ⟨x, hx, hp⟩)
theorem rc_rx (l : Led) (k so : Int) : rcOf (recsK l k) so = if rxI l so k < 0 then none else some (rsAt l (rxI l so k).toNat) := by
 unfold rcOf recsK
 rw [List.find?_filter]
 have e : (fun a : Rec => decide (countsB a.kn a.un k = true ∧ (a.so == so) = true)) = fun r => r.so == so && countsB r.kn r.un k := by
  funext a
  cases countsB a.kn a.un k <;> cases (a.so == so) <;> rfl
 rw [e, find_idx]
 show (if rxI l so k < 0 then none else l.rs[(rxI l so k).toNat]?) = _
 rcases rx_cases l so k with h | ⟨j, hj, h, -⟩
 ·rw [h]; rfl
 ·rw [h, if_neg (by omega), if_neg (by omega), Int.toNat_natCast, rsAt_at hj, List.getElem?_eq_getElem hj]
theorem telR_step (l : Led) (k : Int) {s j : Nat} (h : s < l.ts.length) : (telR l k (s + 1)).getD j false = if j = s then telB l k (telR l k s) s else (telR l k s).getD j false := by
 rw [← telR_set l k h]
 by_cases hj : j = s
 ·subst hj
  rw [if_pos rfl, List.getD_eq_getElem?_getD, List.getElem?_set_self (by rw [telR_len]; exact h)]
  rfl
 ·rw [if_neg hj, List.getD_eq_getElem?_getD, List.getElem?_set_ne (by omega), ← List.getD_eq_getElem?_getD]
theorem telR_lt {l : Led} {k : Int} {s j : Nat} (h : (telR l k s).getD j false = true) : j < s := (telR_at l k h).1
structure TelInv (l : Led) (k : Int) (s : Nat) : Prop where
 ts : ∀ j : Nat, (telR l k s).getD j false = true ↔ (j : Int) ∈ (lkTo l k s).ts
 tn : (lkTo l k s).ts.Nodup
 tl : ∀ j ∈ (lkTo l k s).ts, 0 ≤ j ∧ j < s
 bk1 : ∀ so f i, bkAt (lkTo l k s).bk (so, f) = some i → ∃ j : Nat, i = j ∧ (telR l k s).getD j false = true ∧ (tsAt l j).re = so ∧ f ∈ (tsAt l j).lv
 bk2 : ∀ j : Nat, (telR l k s).getD j false = true → ∀ f ∈ (tsAt l j).lv, bkAt (lkTo l k s).bk ((tsAt l j).re, f) = some (j : Int)
 ds : ∀ j : Nat, (telR l k s).getD j false = true → dsAt (lkTo l k s).ds j = (maxI (tsAt l j).lo ((rcD (recsK l k) (tsAt l j).re).da + 1), (tsAt l j).hi)
theorem dsAt_set (d : Ds) (i j : Int) (v : Int × Int) : dsAt (dsSet d i v) j = if i = j then v else dsAt d j := by
 induction d with
 | nil => rfl
 | cons e r ih =>
  obtain ⟨k, x⟩ := e
  simp only [dsSet]
  by_cases h : k = i
  ·rw [if_pos h]
   subst h
   simp only [dsAt]
   split <;> rfl
  ·rw [if_neg h]
   simp only [dsAt, ih]
   by_cases h2 : k = j
   ·subst h2
    rw [if_pos rfl, if_pos rfl, if_neg (fun e => h e.symm)]
   ·rw [if_neg h2, if_neg h2]
theorem all_bk {l : Led} {k : Int} {s : Nat} (h : TelInv l k s) (x : Ret) (f : Int) : (bkAt (lkTo l k s).bk (x.re, f)).isSome = !allTo (tkB l (telR l k s) x f) s := by
 cases hb : bkAt (lkTo l k s).bk (x.re, f) with
 | none =>
  have : allTo (tkB l (telR l k s) x f) s = true := by
   unfold allTo
   rw [List.all_eq_true]
   intro j _
   unfold tkB
   cases hj : ((telR l k s).getD j false && (tsAt l j).re == x.re && (tsAt l j).lv.contains f) with
   | false => rfl
   | true =>
    simp only [Bool.and_eq_true, beq_iff_eq, List.contains_iff_mem] at hj
    have := h.bk2 j hj.1.1 f hj.2
    rw [hj.1.2, hb] at this
    cases this
  rw [this]; rfl
 | some i =>
  obtain ⟨j, rfl, h1, h2, h3⟩ := h.bk1 _ _ _ hb
  have : allTo (tkB l (telR l k s) x f) s = false := by
   unfold allTo
   rw [List.all_eq_false]
   refine ⟨j, List.mem_range.2 (telR_lt h1), ?_⟩
   unfold tkB
   rw [h1, h2]
   simp [h3]
  rw [this]; rfl
theorem new_tel {l : Led} {k : Int} {s : Nat} (h : TelInv l k s) : newB k (recsK l k) (lkTo l k s).bk (tsAt l s) = if telB l k (telR l k s) s = true then some (rsAt l (rxI l (tsAt l s).re k).toNat) else none := by
 unfold newB telB
 rw [rc_rx]
 by_cases hx : rxI l (tsAt l s).re k < 0
 ·rw [if_pos hx, if_pos hx]; rfl
 ·rw [if_neg hx, if_neg hx]
  have hso : (rsAt l (rxI l (tsAt l s).re k).toNat).so = (tsAt l s).re := by
   rcases rx_cases l (tsAt l s).re k with h | ⟨j, hj, h, hr⟩
   ·rw [h] at hx; exact absurd (by decide) hx
   ·rw [h, Int.toNat_natCast, rsAt_at hj]
    unfold isR at hr
    simp only [Bool.and_eq_true, beq_iff_eq] at hr
    exact hr.1
  have hany : ((tsAt l s).lv.any fun f => (bkAt (lkTo l k s).bk ((rsAt l (rxI l (tsAt l s).re k).toNat).so, f)).isSome || !(rsAt l (rxI l (tsAt l s).re k).toNat).lv.contains f) = !(tsAt l s).lv.all (lfB l (telR l k s) s (rsAt l (rxI l (tsAt l s).re k).toNat) (tsAt l s)) := by
   rw [hso, List.not_all_eq_any_not]
   congr 1
   funext f
   rw [all_bk h]
   unfold lfB
   rw [Bool.not_and, Bool.or_comm]
  show (if (countsB (tsAt l s).kn (tsAt l s).un k && !(decide (maxI (tsAt l s).lo ((rsAt l (rxI l (tsAt l s).re k).toNat).da + 1) > (tsAt l s).hi) || (tsAt l s).lv.any fun f => (bkAt (lkTo l k s).bk ((rsAt l (rxI l (tsAt l s).re k).toNat).so, f)).isSome || !(rsAt l (rxI l (tsAt l s).re k).toNat).lv.contains f)) = true then _ else _) = _
  rw [hany]
  unfold earl
  cases countsB (tsAt l s).kn (tsAt l s).un k <;> cases decide (maxI (tsAt l s).lo ((rsAt l (rxI l (tsAt l s).re k).toNat).da + 1) > (tsAt l s).hi) <;> cases (tsAt l s).lv.all (lfB l (telR l k s) s (rsAt l (rxI l (tsAt l s).re k).toNat) (tsAt l s)) <;> rfl
theorem telInv (l : Led) (k : Int) : ∀ s, s ≤ l.ts.length → TelInv l k s
 | 0, _ => by
  have hf : ∀ j, ¬ (telR l k 0).getD j false = true := fun j h => absurd (telR_lt h) (Nat.not_lt_zero j)
  exact ⟨fun j => ⟨fun h => (hf j h).elim, fun h => (nomatch h)⟩, List.nodup_nil, fun j h => (nomatch h), fun so f i h => (nomatch h), fun j h => (hf j h).elim, fun j h => (hf j h).elim⟩
 | s + 1, hs => by
  have ih := telInv l k s (by omega)
  have hn := new_tel ih
  have hst := fun j => telR_step l k (s := s) (j := j) (by omega)
  by_cases hb : telB l k (telR l k s) s = true
  ·rw [if_pos hb] at hn
   have e := lkTo_yes hn
   obtain ⟨hrc, -, -, htk⟩ := newB_rc hn
   obtain ⟨hrm, hrs⟩ := rcOf_mem hrc
   have hrd : rcD (recsK l k) (tsAt l s).re = rsAt l (rxI l (tsAt l s).re k).toNat := by unfold rcD; rw [hrc]; rfl
   generalize rsAt l (rxI l (tsAt l s).re k).toNat = r at *
   have hno : ∀ f ∈ (tsAt l s).lv, bkAt (lkTo l k s).bk (r.so, f) = none := fun f hf => by
    have := List.any_eq_false.1 htk f hf
    unfold takB at this
    simp only [Bool.or_eq_true, not_or, Option.isSome_iff_ne_none, ne_eq, Decidable.not_not] at this
    exact this.1
   rw [hb] at hst
   have hts : ∀ j : Nat, (telR l k (s + 1)).getD j false = true ↔ (j : Int) ∈ (lkTo l k (s + 1)).ts := fun j => by
    rw [hst, e]
    show _ ↔ (j : Int) ∈ (lkTo l k s).ts ++ [(s : Int)]
    rw [List.mem_append, List.mem_singleton]
    by_cases hj : j = s
    ·subst hj; simp
    ·rw [if_neg hj, ih.ts j]
     constructor
     ·exact .inl
     ·rintro (h | h)
      ·exact h
      ·exact (hj (by omega)).elim
   refine ⟨hts, ?_, ?_, ?_, ?_, ?_⟩
   ·rw [e]
    refine List.nodup_append.2 ⟨ih.tn, by simp, fun a ha b hb' hab => ?_⟩
    have := ih.tl a ha
    simp only [List.mem_singleton] at hb'
    omega
   ·intro j hj
    rw [e] at hj
    rcases List.mem_append.1 hj with hj | hj
    ·have := ih.tl j hj; omega
    ·simp only [List.mem_singleton] at hj; omega
   ·intro so f i h
    rw [e] at h
    simp only [bkAt_all] at h
    split at h
    ·rename_i hc
     cases h
     refine ⟨s, rfl, by rw [hst, if_pos rfl], ?_, hc.2⟩
     rw [← hrs]; exact hc.1.symm
    ·obtain ⟨j, rfl, h1, h2, h3⟩ := ih.bk1 so f i h
     have := telR_lt h1
     exact ⟨j, rfl, by rw [hst, if_neg (by omega)]; exact h1, h2, h3⟩
   ·intro j h1 f hf
    rw [hst] at h1
    rw [e]
    simp only [bkAt_all]
    by_cases hj : j = s
    ·subst hj
     rw [if_pos ⟨hrs.symm, hf⟩]
    ·rw [if_neg hj] at h1
     have h4 := ih.bk2 j h1 f hf
     rw [if_neg, h4]
     rintro ⟨h5, h6⟩
     have := hno f h6
     rw [← h5, h4] at this
     cases this
   ·intro j h1
    rw [hst] at h1
    rw [e]
    show dsAt (dsSet (lkTo l k s).ds s (maxI (tsAt l s).lo (r.da + 1), (tsAt l s).hi)) j = _
    rw [dsAt_set]
    by_cases hj : j = s
    ·subst hj
     rw [if_pos rfl, hrd]
    ·rw [if_neg hj] at h1
     rw [if_neg (by omega)]
     exact ih.ds j h1
  ·rw [if_neg hb] at hn
   have e := lkTo_no hn
   have e2 : telR l k (s + 1) = telR l k s := telR_no l k (by simpa using hb)
   exact ⟨by rw [e, e2]; exact ih.ts, by rw [e]; exact ih.tn, fun j hj => by rw [e] at hj; have := ih.tl j hj; omega, by rw [e, e2]; exact ih.bk1, by rw [e, e2]; exact ih.bk2, by rw [e, e2]; exact ih.ds⟩
theorem telI (l : Led) (k : Int) : TelInv l k l.ts.length := telInv l k _ (Nat.le_refl _)
theorem ret_bk (l : Led) (k : Int) (i : Nat) (f : Int) : retI (rvOf l k) i f = (bkAt (lookV l k).bk ((rsAt l i).so, f)).getD (-1) := by
 have hi := telI l k
 show _ = (bkAt (lkTo l k l.ts.length).bk ((rsAt l i).so, f)).getD (-1)
 cases hb : bkAt (lkTo l k l.ts.length).bk ((rsAt l i).so, f) with
 | none =>
  refine retI_no fun m _ hm => ?_
  show rtB (rvOf l k) (rsAt l i).so f m = false
  rw [Bool.eq_false_iff]
  intro h
  unfold rtB at h
  simp only [Bool.and_eq_true, beq_iff_eq, List.contains_iff_mem] at h
  have h1 : (telR l k l.ts.length).getD m false = true := h.1.1
  have := hi.bk2 m h1 f h.2
  have h2 : (tsAt l m).re = (rsAt l i).so := h.1.2
  rw [h2, hb] at this
  cases this
 | some q =>
  obtain ⟨j, rfl, h1, h2, h3⟩ := hi.bk1 _ _ _ hb
  refine retI_at (j := j) ?_ ?_ ?_
  ·show j < (telR l k l.ts.length).length
   rw [telR_len]; exact telR_lt h1
  ·show (((telR l k l.ts.length).getD j false && (tsAt l j).re == (rsAt l i).so) && (tsAt l j).lv.contains f) = true
   rw [h1, h2]
   simp [h3]
  ·intro m _ hmj
   show rtB (rvOf l k) (rsAt l i).so f m = false
   rw [Bool.eq_false_iff]
   intro h
   unfold rtB at h
   simp only [Bool.and_eq_true, beq_iff_eq, List.contains_iff_mem] at h
   have h4 : (telR l k l.ts.length).getD m false = true := h.1.1
   have := hi.bk2 m h4 f h.2
   have h5 : (tsAt l m).re = (rsAt l i).so := h.1.2
   rw [h5, hb] at this
   have : (j : Int) = m := Option.some.inj this
   omega
def nrP (v : Int × Int) (da : Int) (os : List Rec) : Int × Int := os.foldl (fun v o => if o.da > da then (maxI v.1 0, minI v.2 o.da) else v) v
def hiF (h da : Int) (os : List Rec) : Int := os.foldl (fun h o => if o.da > da then minI h o.da else h) h
theorem nrP_hi {v : Int × Int} {da : Int} (os : List Rec) (h : 0 ≤ v.1) : nrP v da os = (v.1, hiF v.2 da os) := by
 induction os generalizing v with
 | nil => rfl
 | cons o r ih =>
  show nrP (if o.da > da then (maxI v.1 0, minI v.2 o.da) else v) da r = (v.1, hiF (if o.da > da then minI v.2 o.da else v.2) da r)
  by_cases hc : o.da > da
  ·rw [if_pos hc, if_pos hc]
   have : maxI v.1 0 = v.1 := by unfold maxI; rw [if_neg (by omega)]
   rw [this]
   exact ih (v := (v.1, minI v.2 o.da)) h
  ·rw [if_neg hc, if_neg hc, ih h]
theorem nrL_at (d : Ds) (i da : Int) (os : List Rec) (j : Int) : dsAt (nrL d i da os) j = if i = j then nrP (dsAt d i) da os else dsAt d j := by
 induction os generalizing d with
 | nil =>
  show dsAt d j = if i = j then dsAt d i else dsAt d j
  split
  ·rename_i h; rw [h]
  ·rfl
 | cons o r ih =>
  show dsAt (nrL (if o.da > da then nar d i ⟨0, o.da⟩ else d) i da r) j = if i = j then nrP (if o.da > da then (maxI (dsAt d i).1 0, minI (dsAt d i).2 o.da) else dsAt d i) da r else dsAt d j
  rw [ih]
  by_cases hc : o.da > da
  ·rw [if_pos hc, if_pos hc]
   unfold nar
   rw [dsAt_set, if_pos rfl, dsAt_set]
   by_cases hij : i = j
   ·rw [if_pos hij, if_pos hij]
   ·rw [if_neg hij, if_neg hij, if_neg hij]
  ·rw [if_neg hc, if_neg hc]
theorem getD_mem_take {ts : List Int} {m : Nat} (h : m < ts.length) : ts.take (m + 1) = ts.take m ++ [ts.getD m 0] := by
 rw [List.take_add_one, List.getD_eq_getElem?_getD, List.getElem?_eq_getElem h]; rfl
theorem lk3_at (l : Led) (rs : List Rec) (ts : List Int) (d : Ds) (hn : ts.Nodup) : ∀ m, m ≤ ts.length → ∀ j, dsAt (lk3 l rs ts d m) j =
  if j ∈ ts.take m then nrP (dsAt d j) (rcD rs (tsAt l j.toNat).re).da (withK rs (rcD rs (tsAt l j.toNat).re).pa (tsAt l j.toNat).lv) else dsAt d j
 | 0, _, j => by rw [if_neg (by simp)]; rfl
 | m + 1, hm, j => by
  have ih := lk3_at l rs ts d hn m (by omega)
  rw [lk3, nrL_at, getD_mem_take (by omega)]
  have hnot : ts.getD m 0 ∉ ts.take m := by
   have h1 : (ts.take (m + 1)).Nodup := hn.sublist (List.take_sublist _ _)
   rw [getD_mem_take (by omega)] at h1
   have := (List.nodup_append.1 h1).2.2
   exact fun h => this _ h _ (List.mem_singleton.2 rfl) rfl
  by_cases hj : ts.getD m 0 = j
  ·subst hj
   rw [if_pos rfl, ih, if_neg hnot, if_pos (by simp)]
  ·rw [if_neg hj, ih]
   have e : (j ∈ ts.take m ++ [ts.getD m 0]) ↔ j ∈ ts.take m := by
    rw [List.mem_append, List.mem_singleton]
    exact ⟨fun h => h.elim id fun h => (hj h.symm).elim, .inl⟩
   simp only [e]
theorem minI_self (a b : Int) : minI (minI a b) b = minI a b := by
 unfold minI
 by_cases h : b < a
 ·rw [if_pos h, if_neg (by omega)]
 ·rw [if_neg h, if_neg h]
theorem any_and {α : Type} (c : Bool) (p : α → Bool) (l : List α) : (l.any fun n => c && p n) = (c && l.any p) := by cases c <;> simp
theorem brIn_eq (x : RV) (r : Rec) (lv : List Int) (i : Nat) (hi : Int) : ∀ m, brIn x r lv i hi m = if (List.range m).any (mrB x r lv i) = true then minI hi (rsAt x.l i).da else hi
 | 0 => rfl
 | m + 1 => by
  rw [brIn, brIn_eq x r lv i hi m, List.range_succ, List.any_append]
  by_cases h1 : (List.range m).any (mrB x r lv i) = true
  ·rw [h1, if_pos rfl, Bool.true_or, if_pos rfl, minI_self]
   split <;> rfl
  ·rw [if_neg h1]
   have h1' : (List.range m).any (mrB x r lv i) = false := by simpa using h1
   rw [h1']
   simp only [List.any_cons, List.any_nil, Bool.or_false, Bool.false_or]
theorem any_range {α : Type} (p : α → Bool) (lv : List α) (d : α) : ((List.range lv.length).any fun j => p (lv.getD j d)) = lv.any p := by
 rw [Bool.eq_iff_iff, List.any_eq_true, List.any_eq_true]
 constructor
 ·rintro ⟨j, hj, hp⟩
  have hj' : j < lv.length := by simpa using hj
  rw [getD_at hj'] at hp
  exact ⟨_, List.getElem_mem hj', hp⟩
 ·rintro ⟨a, ha, hp⟩
  obtain ⟨j, hj, rfl⟩ := List.getElem_of_mem ha
  exact ⟨j, by simpa using hj, by rw [getD_at hj]; exact hp⟩
def hitK (k : Int) (r : Rec) (lv : List Int) (o : Rec) : Bool := decide (o.da > r.da) && (countsB o.kn o.un k && hitB r.pa lv o)
theorem any_swap (a b : List Int) : (a.any fun n => b.contains n) = b.any fun n => a.contains n := by
 rw [Bool.eq_iff_iff, List.any_eq_true, List.any_eq_true]
 constructor <;> (rintro ⟨n, h1, h2⟩; exact ⟨n, List.contains_iff_mem.1 h2, List.contains_iff_mem.2 h1⟩)
theorem mr_any (x : RV) (r : Rec) (lv : List Int) (i : Nat) : (List.range lv.length).any (mrB x r lv i) = hitK x.k r lv (rsAt x.l i) := by
 have := any_range (fun n => decide ((rsAt x.l i).da > r.da) && ofR x.k ⟨r.pa, n⟩ (rsAt x.l i)) lv 0
 refine this.trans ?_
 unfold hitK hitB
 rw [any_and, any_swap]
 congr 1
 show (lv.any fun n => (countsB (rsAt x.l i).kn (rsAt x.l i).un x.k && (rsAt x.l i).pa == r.pa) && (rsAt x.l i).lv.contains n) = _
 rw [any_and, Bool.and_assoc]
theorem brTo_eq (x : RV) (r : Rec) (t : Ret) : ∀ m, m ≤ x.l.rs.length → brTo x r t m = (x.l.rs.take m).foldl (fun h o => if hitK x.k r t.lv o = true then minI h o.da else h) t.hi
 | 0, _ => rfl
 | m + 1, hm => by
  rw [brTo, brIn_eq, mr_any, brTo_eq x r t m (by omega), List.take_add_one, List.getElem?_eq_getElem (by omega), List.foldl_append, rsAt_at (by omega)]
  rfl
theorem br_hi (l : Led) (k : Int) (r : Rec) (t : Ret) : brTo (rvOf l k) r t l.rs.length = hiF t.hi r.da (withK (recsK l k) r.pa t.lv) := by
 have h := brTo_eq (rvOf l k) r t l.rs.length (Nat.le_refl _)
 refine h.trans ?_
 show (l.rs.take l.rs.length).foldl _ _ = _
 rw [List.take_length]
 unfold hiF withK recsK
 rw [List.foldl_filter, List.foldl_filter]
 congr 1
 funext h o
 show (if hitK k r t.lv o = true then minI h o.da else h) = _
 unfold hitK
 by_cases h1 : countsB o.kn o.un k = true
 ·rw [if_pos h1]
  by_cases h2 : hitB r.pa t.lv o = true
  ·rw [if_pos h2, h1, h2]; simp
  ·rw [if_neg h2]; simp [h2]
 ·rw [if_neg h1]; simp [h1]
theorem tel_rec {l : Led} {k : Int} {row : List Bool} {i : Nat} (h : telB l k row i = true) : ∃ q, ∃ hq : q < l.rs.length, rxI l (tsAt l i).re k = (q : Int) ∧ isR (tsAt l i).re k l.rs[q] = true := by
 rcases rx_cases l (tsAt l i).re k with h2 | ⟨q, hq, h2, h3⟩
 ·exact absurd (by rw [h2]; decide) (telB_rx h)
 ·exact ⟨q, hq, h2, h3⟩
theorem by_ds {l : Led} (hok : OkL l) (k : Int) {j : Nat} (h : (telR l k l.ts.length).getD j false = true) : byR (rvOf l k) j = ⟨(dsAt (lookV l k).ds j).1, (dsAt (lookV l k).ds j).2⟩ := by
 have hi := telI l k
 obtain ⟨hjn, htb⟩ := telR_at l k h
 obtain ⟨q, hq, hx, hr⟩ := tel_rec htb
 have hrc : rcD (recsK l k) (tsAt l j).re = rsAt l q := by
  unfold rcD
  rw [rc_rx, hx, if_neg (by omega), Int.toNat_natCast]; rfl
 have hda : 0 ≤ (rsAt l q).da := by rw [rsAt_at hq]; exact (okL_rda hok (List.getElem_mem hq)).1
 have h1 : dsAt (lookV l k).ds j = (maxI (tsAt l j).lo ((rsAt l q).da + 1), hiF (tsAt l j).hi (rsAt l q).da (withK (recsK l k) (rsAt l q).pa (tsAt l j).lv)) := by
  show dsAt (lk3 l (recsK l k) (lkTo l k l.ts.length).ts (lkTo l k l.ts.length).ds (lkTo l k l.ts.length).ts.length) j = _
  rw [lk3_at _ _ _ _ hi.tn _ (Nat.le_refl _), List.take_length, if_pos ((hi.ts j).1 h), hi.ds j h, Int.toNat_natCast, hrc]
  exact nrP_hi _ (by show 0 ≤ maxI _ _; unfold maxI; split <;> omega)
 rw [h1]
 unfold byR
 rw [if_pos (show (rvOf l k).ts.getD j false = true from h)]
 show (⟨earl (tsAt l j) (rsAt l (rxI l (tsAt l j).re k).toNat), brTo (rvOf l k) (rsAt l (rxI l (tsAt l j).re k).toNat) (tsAt l j) l.rs.length⟩ : Rg) = _
 rw [hx, Int.toNat_natCast, br_hi]
 rfl
theorem ofR_self {k : Int} {r : Rec} {f : Int} (hc : countsB r.kn r.un k = true) (hf : f ∈ r.lv) : ofR k ⟨r.pa, f⟩ r = true := by
 unfold ofR; simp [hc, hf]
theorem dbl_eq {l : Led} {k : Int} {i j : Nat} (hi : countsB (rsAt l i).kn (rsAt l i).un k = true) (hj : countsB (rsAt l j).kn (rsAt l j).un k = true) : dblS (rvOf l k) i j = dblA (lookV l k) (rsAt l i) (rsAt l j) := by
 unfold dblS dblA
 show (rsAt l i).lv.any _ = _
 rw [Bool.eq_iff_iff, List.any_eq_true, List.any_eq_true]
 have hb : ∀ f ∈ (rsAt l i).lv, dbF (rvOf l k) i j f = (((rsAt l i).pa == (rsAt l j).pa && (rsAt l j).lv.contains f) && ((rsAt l i).da == (rsAt l j).da || match bkAt (lookV l k).bk ((rsAt l i).so, f) with
  | none => true
  | some q => decide (maxI (tsAt (lookV l k).l q.toNat).lo ((rsAt l i).da + 1) > (rsAt l j).da))) := fun f hf => by
  unfold dbF
  rw [ret_bk]
  show ((ofR k ⟨(rsAt l i).pa, f⟩ (rsAt l i) && ofR k ⟨(rsAt l i).pa, f⟩ (rsAt l j)) && (((rsAt l i).da == (rsAt l j).da || decide ((bkAt (lookV l k).bk ((rsAt l i).so, f)).getD (-1) < 0)) || decide (earl (tsAt l ((bkAt (lookV l k).bk ((rsAt l i).so, f)).getD (-1)).toNat) (rsAt l i) > (rsAt l j).da))) = _
  rw [ofR_self hi hf]
  have h2 : ofR k ⟨(rsAt l i).pa, f⟩ (rsAt l j) = ((rsAt l i).pa == (rsAt l j).pa && (rsAt l j).lv.contains f) := by
   unfold ofR
   rw [hj, Bool.true_and]
   congr 1
   rw [Bool.eq_iff_iff, beq_iff_eq, beq_iff_eq]
   exact eq_comm
  rw [h2, Bool.true_and]
  congr 1
  cases hbk : bkAt (lookV l k).bk ((rsAt l i).so, f) with
  | none => simp
  | some q =>
   have hq : 0 ≤ q := by
    obtain ⟨m, rfl, -⟩ := (telI l k).bk1 _ _ _ hbk
    omega
   have hl : (lookV l k).l = l := (lkTo_fix l k l.ts.length).1
   simp only [Option.getD_some, hl, earl]
   have : decide (q < 0) = false := by simpa using hq
   rw [this, Bool.or_false]
   rfl
 constructor
 ·rintro ⟨f, hf, h⟩; exact ⟨f, hf, (hb f hf).symm.trans h⟩
 ·rintro ⟨f, hf, h⟩; exact ⟨f, hf, (hb f hf).trans h⟩
theorem dblR_u (l : Led) (k : Int) (a m : Nat) : dblR (rvOf l k) a m = if (rsAt l a).da > (rsAt l m).da then dblS (rvOf l k) m a else dblS (rvOf l k) a m := rfl
theorem dblR_eq {l : Led} {k : Int} {i j : Nat} (hi : countsB (rsAt l i).kn (rsAt l i).un k = true) (hj : countsB (rsAt l j).kn (rsAt l j).un k = true) : dblR (rvOf l k) i j = dblB (lookV l k) (rsAt l i) (rsAt l j) := by
 unfold dblR dblB
 show (if (rsAt l i).da > (rsAt l j).da then dblS (rvOf l k) j i else dblS (rvOf l k) i j) = _
 rw [dbl_eq hi hj, dbl_eq hj hi]
theorem dblS_c {l : Led} {k : Int} {i j : Nat} (h : dblS (rvOf l k) i j = true) : countsB (rsAt l i).kn (rsAt l i).un k = true ∧ countsB (rsAt l j).kn (rsAt l j).un k = true := by
 unfold dblS at h
 obtain ⟨f, -, h⟩ := List.any_eq_true.1 h
 unfold dbF ofR at h
 simp only [Bool.and_eq_true] at h
 exact ⟨h.1.1.1.1, h.1.2.1.1⟩
theorem dblR_c {l : Led} {k : Int} {i j : Nat} (h : dblR (rvOf l k) i j = true) : countsB (rsAt l i).kn (rsAt l i).un k = true ∧ countsB (rsAt l j).kn (rsAt l j).un k = true := by
 unfold dblR at h
 split at h
 ·exact (dblS_c h).symm
 ·exact dblS_c h
theorem dbP_iff (x : RV) : dbP x = none ↔ ∀ a, a < x.l.rs.length → ∀ m, a < m → m < x.l.rs.length → dblR x a m = false := by
 refine ⟨fun h a ha m h1 h2 => ?_, dbP_none⟩
 unfold dbP at h
 rw [List.findSome?_eq_none_iff] at h
 have := h a (List.mem_range.2 ha)
 unfold dbAt at this
 rw [Option.map_eq_none_iff, List.find?_eq_none] at this
 have := this m (List.mem_range.2 h2)
 simpa [h1] using this
theorem pairK_iff (x : Vw) : pairK x = none ↔ x.rs.Pairwise fun a b => dblB x a b = false := by
 rw [List.pairwise_iff_getElem]
 constructor
 ·intro h i j hi hj hij
  unfold pairK at h
  rw [List.findSome?_eq_none_iff] at h
  have := h i (List.mem_range.2 hi)
  unfold pairAt at this
  rw [Option.map_eq_none_iff, List.find?_eq_none] at this
  have hm : x.rs[j] ∈ x.rs.drop (i + 1) := by
   rw [List.mem_iff_getElem]
   exact ⟨j - (i + 1), by rw [List.length_drop]; omega, by rw [List.getElem_drop]; congr 1; omega⟩
  have h2 := this _ hm
  rw [getD_at hi] at h2
  simpa using h2
 ·intro h
  refine pairK_none fun i hi => pairAt_none hi fun m hm => ?_
  rw [List.length_drop] at hm
  rw [List.getElem_drop]
  exact h i (i + 1 + m) hi (by omega) (by omega)
theorem pair_iff (l : Led) (k : Int) : pairK (lookV l k) = none ↔ dbP (rvOf l k) = none := by
 rw [pairK_iff, dbP_iff]
 have hrs : (lookV l k).rs = recsK l k := (lkTo_fix l k l.ts.length).2
 rw [hrs]
 unfold recsK
 rw [List.pairwise_filter, List.pairwise_iff_getElem]
 constructor
 ·intro h a ha m h1 h2
  show dblR (rvOf l k) a m = false
  rw [Bool.eq_false_iff]
  intro hd
  have hd' := hd
  obtain ⟨c1, c2⟩ := dblR_c hd
  rw [dblR_eq c1 c2] at hd'
  have ha' : a < l.rs.length := ha
  have h2' : m < l.rs.length := h2
  rw [rsAt_at ha'] at c1 hd'
  rw [rsAt_at h2'] at c2 hd'
  rw [h a m ha' h2' h1 c1 c2] at hd'
  cases hd'
 ·intro h i j hi hj hij c1 c2
  have := h i hi j hij hj
  rw [← rsAt_at hi] at c1 ⊢
  rw [← rsAt_at hj] at c2 ⊢
  rw [dblR_eq c1 c2] at this
  exact this
theorem no_ties {l : Led} {k : Int} (h : dbP (rvOf l k) = none) (f : Fol) {i j : Nat} (hij : i < j) (hj : j < l.rs.length) (h1 : ofR k f (rsAt l i) = true) (h2 : ofR k f (rsAt l j) = true) : (rsAt l i).da ≠ (rsAt l j).da := by
 intro he
 have := (dbP_iff _).1 h i (by show i < l.rs.length; omega) j hij hj
 rw [dblR_u, if_neg (show ¬ (rsAt l i).da > (rsAt l j).da by omega)] at this
 unfold dblS at this
 have hf : f.le ∈ (rsAt l i).lv := by unfold ofR at h1; simp at h1; exact h1.2
 have hp : (rsAt l i).pa = f.pa := by unfold ofR at h1; simp at h1; exact h1.1.2
 have h3 := List.any_eq_false.1 this f.le hf
 apply h3
 unfold dbF
 show ((ofR k ⟨(rsAt l i).pa, f.le⟩ (rsAt l i) && ofR k ⟨(rsAt l i).pa, f.le⟩ (rsAt l j)) && (((rsAt l i).da == (rsAt l j).da || _) || _)) = true
 rw [hp]
 have e : (⟨f.pa, f.le⟩ : Fol) = f := rfl
 rw [e, h1, h2, he]
 simp
theorem at_last {l : Led} {k : Int} (h : dbP (rvOf l k) = none) (f : Fol) (day : Int) : ∀ s, s ≤ l.rs.length →
  (lastTo (rvOf l k) f day s = -1 ∧ ((l.rs.take s).filter (ofR k f)).foldl (atStep day) none = none) ∨
   ∃ q, q < s ∧ lastTo (rvOf l k) f day s = (q : Int) ∧ ofR k f (rsAt l q) = true ∧ ((l.rs.take s).filter (ofR k f)).foldl (atStep day) none = some (rsAt l q)
 | 0, _ => .inl ⟨rfl, rfl⟩
 | s + 1, hs => by
  have ih := at_last h f day s (by omega)
  have hsl : s < l.rs.length := by omega
  have e1 : l.rs.take (s + 1) = l.rs.take s ++ [rsAt l s] := by
   rw [List.take_add_one, List.getElem?_eq_getElem hsl, rsAt_at hsl]; rfl
  rw [e1, List.filter_append]
  have e2 : lastTo (rvOf l k) f day (s + 1) = if ((ofR k f (rsAt l s) && decide ((rsAt l s).da ≤ day)) && (decide (lastTo (rvOf l k) f day s < 0) || decide ((rsAt l s).da > (rsAt l (lastTo (rvOf l k) f day s).toNat).da))) = true then (s : Int) else lastTo (rvOf l k) f day s := rfl
  rw [e2]
  cases ho : ofR k f (rsAt l s) with
  | false =>
   rw [show [rsAt l s].filter (ofR k f) = [] by simp [ho], List.append_nil]
   simp only [Bool.false_and, Bool.false_eq_true, if_false]
   rcases ih with h | ⟨q, h1, h2⟩
   ·exact .inl h
   ·exact .inr ⟨q, by omega, h2⟩
  | true =>
   rw [show [rsAt l s].filter (ofR k f) = [rsAt l s] by simp [ho], List.foldl_append]
   simp only [List.foldl_cons, List.foldl_nil, Bool.true_and]
   rcases ih with ⟨h1, h2⟩ | ⟨q, h1, h2, h3, h4⟩
   ·rw [h1, h2]
    unfold atStep
    by_cases hd : (rsAt l s).da ≤ day
    ·exact .inr ⟨s, by omega, by simp [hd], ho, by simp [hd]⟩
    ·exact .inl ⟨by simp [hd], by simp [hd]⟩
   ·rw [h2, h4, Int.toNat_natCast]
    have hne := no_ties h f h1 hsl h3 ho
    unfold atStep
    have hq0 : ¬ (q : Int) < 0 := by omega
    by_cases hd : (rsAt l s).da ≤ day
    ·by_cases hg : (rsAt l s).da > (rsAt l q).da
     ·refine .inr ⟨s, by omega, by simp [hd, hg], ho, ?_⟩
      have : (rsAt l s).da ≥ (rsAt l q).da := by omega
      simp [hd, this]
     ·refine .inr ⟨q, by omega, by simp [hg, hq0], h3, ?_⟩
      have : ¬ (rsAt l s).da ≥ (rsAt l q).da := by omega
      simp [this]
    ·exact .inr ⟨q, by omega, by simp [hd], h3, by simp [hd]⟩
theorem with_of (l : Led) (k pa le : Int) : withK (recsK l k) pa [le] = l.rs.filter (ofR k ⟨pa, le⟩) := by
 unfold withK recsK
 rw [List.filter_filter]
 congr 1
 funext r
 unfold hitB ofR
 rw [any_swap]
 simp only [List.any_cons, List.any_nil, Bool.or_false]
 cases countsB r.kn r.un k <;> cases (r.pa == pa) <;> cases r.lv.contains le <;> rfl
theorem lastK_at {l : Led} {k : Int} (h : dbP (rvOf l k) = none) (f : Fol) (day : Int) :
  (lastI (rvOf l k) f day = -1 ∧ atK (recsK l k) f.pa f.le day = none) ∨ ∃ q, q < l.rs.length ∧ lastI (rvOf l k) f day = (q : Int) ∧ ofR k f (rsAt l q) = true ∧ atK (recsK l k) f.pa f.le day = some (rsAt l q) := by
 have h1 := at_last h f day l.rs.length (Nat.le_refl _)
 rw [List.take_length] at h1
 unfold atK
 rw [with_of]
 exact h1
def telJ (l : Led) (k : Int) (j : Nat) : Prop := (telR l k l.ts.length).getD j false = true
def Rel (l : Led) (k : Int) (d : List Rg) (D : Ds) : Prop := d.length = l.ts.length ∧ ∀ j : Nat, telJ l k j → rgAt d j = ⟨(dsAt D j).1, (dsAt D j).2⟩ ∧ 0 ≤ (dsAt D j).1 ∧ (dsAt D j).2 ≤ 100000
def Fine (l : Led) (k : Int) (D : Ds) : Prop := ∀ j : Nat, telJ l k j → (dsAt D j).1 ≤ (dsAt D j).2
theorem tel_lt {l : Led} {k : Int} {j : Nat} (h : telJ l k j) : j < l.ts.length := telR_lt h
theorem fine_iff (l : Led) (k : Int) (D : Ds) : fineD (lookV l k).ts D = true ↔ Fine l k D := by
 have hi := telI l k
 unfold fineD Fine telJ
 rw [List.all_eq_true]
 show (∀ i ∈ (lkTo l k l.ts.length).ts, _) ↔ _
 constructor
 ·intro h j hj
  have := h j ((hi.ts j).1 hj)
  simpa using this
 ·intro h i hm
  have hb := hi.tl i hm
  obtain ⟨j, rfl⟩ : ∃ j : Nat, i = j := ⟨i.toNat, by omega⟩
  simpa using h j ((hi.ts j).2 hm)
theorem bk_tel {l : Led} {k so f i : Int} (h : bkAt (lookV l k).bk (so, f) = some i) : ∃ j : Nat, i = j ∧ telJ l k j := by
 obtain ⟨j, e, h1, -⟩ := (telI l k).bk1 _ _ _ h
 exact ⟨j, e, h1⟩
theorem rgAt_set {d : List Rg} {i : Nat} {r : Rg} (h : i < d.length) (j : Nat) : rgAt (d.set i r) j = if i = j then r else rgAt d j := by
 unfold rgAt
 rw [List.getD_eq_getElem?_getD, List.getElem?_set]
 by_cases hij : i = j
 ·subst hij
  simp [h]
 ·rw [if_neg hij, if_neg hij, List.getD_eq_getElem?_getD]
theorem lookV_rs (l : Led) (k : Int) : (lookV l k).rs = recsK l k := (lkTo_fix l k l.ts.length).2
theorem rel_set {l : Led} {k : Int} {d : List Rg} {D : Ds} (h : Rel l k d D) {j : Nat} (hj : telJ l k j) (r w : Rg)
  (h1 : w = ⟨maxI (dsAt D j).1 r.lo, minI (dsAt D j).2 r.hi⟩) : Rel l k (d.set j w) (nar D j r) ∧ (Fine l k (nar D j r) ↔ (w.lo ≤ w.hi ∧ Fine l k D)) := by
 have hjl : j < d.length := by rw [h.1]; exact tel_lt hj
 have e : ∀ i : Nat, dsAt (nar D j r) i = if j = i then (w.lo, w.hi) else dsAt D i := fun i => by
  unfold nar
  rw [dsAt_set, h1]
  by_cases hij : j = i
  ·subst hij; rw [if_pos rfl, if_pos rfl]
  ·rw [if_neg (by omega), if_neg hij]
 have hmx : (dsAt D j).1 ≤ w.lo := by rw [h1]; show _ ≤ maxI _ _; unfold maxI; split <;> omega
 have hmn : w.hi ≤ (dsAt D j).2 := by rw [h1]; show minI _ _ ≤ _; unfold minI; split <;> omega
 refine ⟨⟨by rw [List.length_set]; exact h.1, fun i hi => ?_⟩, ?_⟩
 ·rw [rgAt_set hjl, e]
  by_cases hij : j = i
  ·subst hij
   rw [if_pos rfl, if_pos rfl]
   have := h.2 j hj
   exact ⟨rfl, by show 0 ≤ w.lo; omega, by show w.hi ≤ _; omega⟩
  ·rw [if_neg hij, if_neg hij]; exact h.2 i hi
 ·constructor
  ·intro hf
   have hj' := hf j hj
   rw [e, if_pos rfl] at hj'
   refine ⟨hj', fun i hi => ?_⟩
   by_cases hij : j = i
   ·subst hij
    have : w.lo ≤ w.hi := hj'
    omega
   ·have := hf i hi
    rw [e, if_neg hij] at this
    exact this
  ·rintro ⟨hw, hf⟩ i hi
   rw [e]
   by_cases hij : j = i
   ·rw [if_pos hij]; exact hw
   ·rw [if_neg hij]; exact hf i hi
theorem nw_step {l : Led} (hok : OkL l) {k : Int} (h0 : dbP (rvOf l k) = none) {d : List Rg} {D : Ds} (h : Rel l k d D) (s : Sig) :
  Rel l k (nwS (rvOf l k) d s).1 (fitStep (lookV l k) D s) ∧ (((nwS (rvOf l k) d s).2 = true ∧ Fine l k D) ↔ (mayS (lookV l k) s = true ∧ Fine l k (fitStep (lookV l k) D s))) := by
 have hrs := lookV_rs l k
 rcases lastK_at h0 ⟨s.pa, s.le⟩ s.da with ⟨e1, e2⟩ | ⟨q, hq, e1, -, e2⟩
 ·have e2' : atK (lookV l k).rs s.pa s.le s.da = none := by rw [hrs]; exact e2
  rw [nw_none e1]
  have hw : wantsK (lookV l k) s = if s.pe = 0 then (-1, allR) else (-1, noR) := by unfold wantsK; rw [e2']
  have hf : fitStep (lookV l k) D s = D := by unfold fitStep; rw [hw]; split <;> rfl
  have hm : mayS (lookV l k) s = (s.pe == 0) := by
   unfold mayS; rw [hw]
   by_cases hp : s.pe = 0
   ·rw [if_pos hp, hp]; rfl
   ·rw [if_neg hp]
    have : (s.pe == 0) = false := by simpa using hp
    rw [this]; rfl
  rw [hf, hm]
  exact ⟨h, Iff.rfl⟩
 ·have e2' : atK (lookV l k).rs s.pa s.le s.da = some (rsAt l q) := by rw [hrs]; exact e2
  have hbo : 1 ≤ (rsAt l q).bo := by
   rw [rsAt_at hq]
   have := hok.recs _ (List.getElem_mem hq)
   unfold recB inI at this
   simp only [Bool.and_eq_true, decide_eq_true_eq] at this
   exact this.1.1.1.1.2.1
  have hre := ret_bk l k q s.le
  cases hbk : bkAt (lookV l k).bk ((rsAt l q).so, s.le) with
  | none =>
   rw [hbk] at hre
   rw [nw_out e1 hre]
   have hw : wantsK (lookV l k) s = if s.pe = (rsAt l q).bo then (-1, allR) else (-1, noR) := by unfold wantsK; rw [e2']; simp only [hbk]
   have hf : fitStep (lookV l k) D s = D := by unfold fitStep; rw [hw]; split <;> rfl
   have hm : mayS (lookV l k) s = (s.pe == (rsAt l q).bo) := by
    unfold mayS; rw [hw]
    by_cases hp : s.pe = (rsAt l q).bo
    ·rw [if_pos hp, hp, beq_self_eq_true]; rfl
    ·rw [if_neg hp]
     have : (s.pe == (rsAt l q).bo) = false := by simpa using hp
     rw [this]; rfl
   rw [hf, hm]
   exact ⟨h, Iff.rfl⟩
  | some i =>
   obtain ⟨j, rfl, hj⟩ := bk_tel hbk
   rw [hbk] at hre
   have hre' : retI (rvOf l k) q s.le = (j : Int) := hre
   have hw : wantsK (lookV l k) s = if s.pe = 0 then ((j : Int), (⟨0, s.da⟩ : Rg)) else if s.pe = (rsAt l q).bo then ((j : Int), (⟨s.da + 1, 100000⟩ : Rg)) else (-1, noR) := by unfold wantsK; rw [e2']; simp only [hbk]
   obtain ⟨hr1, hr2, hr3⟩ := h.2 j hj
   have hj0 : (j : Int) ≥ 0 := by omega
   by_cases hp0 : s.pe = 0
   ·have hmine : (s.pe == (rsAt l q).bo) = false := by rw [beq_eq_false_iff_ne]; omega
    rw [nw_in e1 hre' hmine (by rw [hp0]; rfl)]
    have hf : fitStep (lookV l k) D s = nar D j ⟨0, s.da⟩ := by unfold fitStep; rw [hw, if_pos hp0]; exact if_pos hj0
    have hm : mayS (lookV l k) s = true := by unfold mayS; rw [hw, if_pos hp0]; simp
    rw [hf, hm]
    obtain ⟨g1, g2⟩ := rel_set h hj ⟨0, s.da⟩ ⟨(rgAt d j).lo, minI (rgAt d j).hi s.da⟩ (by rw [hr1]; show (⟨(dsAt D j).1, minI (dsAt D j).2 s.da⟩ : Rg) = ⟨maxI (dsAt D j).1 0, minI (dsAt D j).2 s.da⟩; unfold maxI; rw [if_neg (by omega)])
    refine ⟨g1, ?_⟩
    rw [g2]
    simp
   ·by_cases hpb : s.pe = (rsAt l q).bo
    ·have hmine : (s.pe == (rsAt l q).bo) = true := by rw [beq_iff_eq]; exact hpb
     rw [nw_me e1 hre' hmine]
     have hf : fitStep (lookV l k) D s = nar D j ⟨s.da + 1, 100000⟩ := by unfold fitStep; rw [hw, if_neg hp0, if_pos hpb]; exact if_pos hj0
     have hm : mayS (lookV l k) s = true := by unfold mayS; rw [hw, if_neg hp0, if_pos hpb]; simp
     rw [hf, hm]
     obtain ⟨g1, g2⟩ := rel_set h hj ⟨s.da + 1, 100000⟩ ⟨maxI (rgAt d j).lo (s.da + 1), (rgAt d j).hi⟩ (by rw [hr1]; show (⟨maxI (dsAt D j).1 (s.da + 1), (dsAt D j).2⟩ : Rg) = ⟨maxI (dsAt D j).1 (s.da + 1), minI (dsAt D j).2 100000⟩; unfold minI; rw [if_neg (by omega)])
     refine ⟨g1, ?_⟩
     rw [g2]
     simp
    ·have hmine : (s.pe == (rsAt l q).bo) = false := by rw [beq_eq_false_iff_ne]; exact hpb
     rw [nw_no e1 hre' hmine (by rw [beq_eq_false_iff_ne]; exact hp0)]
     have hf : fitStep (lookV l k) D s = D := by unfold fitStep; rw [hw, if_neg hp0, if_neg hpb]; rfl
     have hm : mayS (lookV l k) s = false := by unfold mayS; rw [hw, if_neg hp0, if_neg hpb]; rfl
     rw [hf, hm]
     exact ⟨h, by simp⟩
theorem sg_eq (l : Led) (k : Int) : ∀ n, n ≤ l.ss.length → (sgTo (rvOf l k) n).map (fun i => ssAt l i.toNat) = (l.ss.take n).filter fun s => countsB s.kn s.un k
 | 0, _ => rfl
 | n + 1, hn => by
  rw [sgTo, List.take_add_one, List.getElem?_eq_getElem (by omega), List.filter_append, ← sg_eq l k n (by omega)]
  have e : ssAt (rvOf l k).l n = l.ss[n]'(by omega) := ssAt_at (l := l) (by omega)
  rw [e]
  show (if countsB _ _ k = true then _ else _ : List Int).map _ = _
  by_cases hc : countsB (l.ss[n]'(by omega)).kn (l.ss[n]'(by omega)).un k = true
  ·rw [if_pos hc, List.map_append]
   simp only [Option.toList, List.filter_cons, hc, if_true, List.filter_nil, List.map_cons, List.map_nil, Int.toNat_natCast, ssAt_at (show n < l.ss.length by omega)]
  ·rw [if_neg hc]
   simp [hc]
theorem sgI_eq (l : Led) (k : Int) : (sgI l k).map (fun i => ssAt l i.toNat) = sgK l k := by
 unfold sgI sgK
 rw [sg_eq l k _ (Nat.le_refl _), List.take_length]
theorem dy_to {l : Led} (hok : OkL l) {k : Int} (h0 : dbP (rvOf l k) = none) {D0 : Ds} (hD : D0 = (lookV l k).ds) (hr : Rel l k (byTo (rvOf l k) l.ts.length) D0) (hf : Fine l k D0) (is : List Int) : ∀ m, m ≤ is.length →
  Rel l k (dyTo (rvOf l k) is m).1 (fitD (lookV l k) D0 ((is.take m).map fun i => ssAt l i.toNat)) ∧
   ((dyTo (rvOf l k) is m).2 = true ↔ (((is.take m).map fun i => ssAt l i.toNat).all (mayS (lookV l k)) = true ∧ Fine l k (fitD (lookV l k) D0 ((is.take m).map fun i => ssAt l i.toNat))))
 | 0, _ => ⟨hr, ⟨fun _ => ⟨rfl, hf⟩, fun _ => rfl⟩⟩
 | m + 1, hm => by
  obtain ⟨i1, i2⟩ := dy_to hok h0 hD hr hf is m (by omega)
  have e : (is.take (m + 1)).map (fun i => ssAt l i.toNat) = (is.take m).map (fun i => ssAt l i.toNat) ++ [ssAt l (is.getD m 0).toNat] := by
   rw [getD_mem_take (by omega), List.map_append]; rfl
  rw [e, List.all_append, dyTo]
  have e2 : fitD (lookV l k) D0 ((is.take m).map (fun i => ssAt l i.toNat) ++ [ssAt l (is.getD m 0).toNat]) = fitStep (lookV l k) (fitD (lookV l k) D0 ((is.take m).map fun i => ssAt l i.toNat)) (ssAt l (is.getD m 0).toNat) := by
   unfold fitD
   rw [List.foldl_append]; rfl
  rw [e2]
  obtain ⟨s1, s2⟩ := nw_step hok h0 i1 (ssAt l (is.getD m 0).toNat)
  refine ⟨s1, ?_⟩
  show ((dyTo (rvOf l k) is m).2 && (nwS (rvOf l k) (dyTo (rvOf l k) is m).1 (ssAt l (is.getD m 0).toNat)).2) = true ↔ _
  rw [Bool.and_eq_true, i2, Bool.and_eq_true]
  simp only [List.all_cons, List.all_nil, Bool.and_true]
  constructor
  ·rintro ⟨⟨a, b⟩, c⟩
   obtain ⟨d1, d2⟩ := s2.1 ⟨c, b⟩
   exact ⟨⟨a, d1⟩, d2⟩
  ·rintro ⟨⟨a, b⟩, c⟩
   obtain ⟨d1, d2⟩ := s2.2 ⟨b, c⟩
   exact ⟨⟨a, d2⟩, d1⟩
theorem hiF_ge (b h da : Int) (os : List Rec) (h1 : b ≤ h) (h2 : ∀ o ∈ os, o.da > da → b ≤ o.da) : b ≤ hiF h da os := by
 induction os generalizing h with
 | nil => exact h1
 | cons o r ih =>
  show b ≤ hiF (if o.da > da then minI h o.da else h) da r
  refine ih _ ?_ fun o' h' => h2 o' (by simp [h'])
  split
  ·rename_i hc
   have := h2 o (by simp) hc
   unfold minI
   split <;> omega
  ·exact h1
theorem hiF_le (h da : Int) (os : List Rec) : hiF h da os ≤ h := by
 induction os generalizing h with
 | nil => exact Int.le_refl _
 | cons o r ih =>
  show hiF (if o.da > da then minI h o.da else h) da r ≤ h
  refine Int.le_trans (ih _) ?_
  split
  ·unfold minI; split <;> omega
  ·exact Int.le_refl _
theorem ds_tel {l : Led} (hok : OkL l) {k : Int} {j : Nat} (h : telJ l k j) : ∃ q, ∃ hq : q < l.rs.length, rxI l (tsAt l j).re k = (q : Int) ∧ isR (tsAt l j).re k (rsAt l q) = true ∧
  dsAt (lookV l k).ds j = (earl (tsAt l j) (rsAt l q), hiF (tsAt l j).hi (rsAt l q).da (withK (recsK l k) (rsAt l q).pa (tsAt l j).lv)) := by
 obtain ⟨hjn, htb⟩ := telR_at l k h
 obtain ⟨q, hq, hx, hr⟩ := tel_rec htb
 refine ⟨q, hq, hx, by rw [rsAt_at hq]; exact hr, ?_⟩
 have e := by_ds hok k h
 unfold byR at e
 rw [if_pos (show (rvOf l k).ts.getD j false = true from h)] at e
 have e' : (⟨earl (tsAt l j) (rsAt l (rxI l (tsAt l j).re k).toNat), brTo (rvOf l k) (rsAt l (rxI l (tsAt l j).re k).toNat) (tsAt l j) l.rs.length⟩ : Rg) = ⟨(dsAt (lookV l k).ds j).1, (dsAt (lookV l k).ds j).2⟩ := e
 rw [hx, Int.toNat_natCast, br_hi] at e'
 injection e' with a b
 exact Prod.ext a.symm b.symm
theorem base_rel {l : Led} (hok : OkL l) (k : Int) : Rel l k (byTo (rvOf l k) l.ts.length) (lookV l k).ds := by
 refine ⟨byTo_len _ _, fun j hj => ?_⟩
 have hjl := tel_lt hj
 obtain ⟨q, hq, -, -, hd⟩ := ds_tel hok hj
 refine ⟨?_, ?_, ?_⟩
 ·have : rgAt (byTo (rvOf l k) l.ts.length) j = byR (rvOf l k) j := by
   unfold rgAt byTo
   rw [List.getD_eq_getElem?_getD, List.getElem?_map, List.getElem?_range hjl]; rfl
  rw [this]
  exact by_ds hok k hj
 ·rw [hd]
  have : 0 ≤ (rsAt l q).da := by rw [rsAt_at hq]; exact (okL_rda hok (List.getElem_mem hq)).1
  show 0 ≤ maxI _ _
  unfold maxI; split <;> omega
 ·rw [hd]
  refine Int.le_trans (hiF_le _ _ _) ?_
  have e : tsAt l j = l.ts[j] := getD_at hjl
  have := allB_at hok.ts hjl
  unfold retB dayB inI at this
  simp only [Bool.and_eq_true, decide_eq_true_eq] at this
  rw [e]
  exact this.1.2.2
theorem base_fine {l : Led} (hok : OkL l) {k : Int} (h0 : dbP (rvOf l k) = none) : Fine l k (lookV l k).ds := by
 intro j hj
 obtain ⟨q, hq, hx, hr, hd⟩ := ds_tel hok hj
 obtain ⟨hjn, htb⟩ := telR_at l k hj
 rw [hd]
 unfold telB at htb
 rw [if_neg (by rw [hx]; omega), hx, Int.toNat_natCast] at htb
 simp only [Bool.and_eq_true, Bool.not_eq_true', decide_eq_false_iff_not, List.all_eq_true] at htb
 obtain ⟨⟨-, hearl⟩, hlv⟩ := htb
 refine hiF_ge _ _ _ _ (by omega) fun o ho hda => ?_
 unfold withK recsK at ho
 simp only [List.mem_filter] at ho
 obtain ⟨⟨hol, hoc⟩, hhit⟩ := ho
 obtain ⟨m, hm, rfl⟩ := List.getElem_of_mem hol
 rw [← rsAt_at hm] at hoc hhit hda ⊢
 unfold hitB at hhit
 rw [any_swap] at hhit
 simp only [Bool.and_eq_true, List.any_eq_true, beq_iff_eq] at hhit
 obtain ⟨hpa, f, hft, hfo⟩ := hhit
 have hfx := hlv f hft
 unfold lfB at hfx
 simp only [Bool.and_eq_true, List.contains_iff_mem] at hfx
 unfold isR at hr
 simp only [Bool.and_eq_true, beq_iff_eq] at hr
 have hne : m ≠ q := fun e => by subst e; omega
 have hd2 : dblS (rvOf l k) q m = false := by
  rcases Nat.lt_or_gt_of_ne hne with hlt | hgt
  ·have := (dbP_iff _).1 h0 m hm q hlt hq
   rw [dblR_u, if_pos (show (rsAt l m).da > (rsAt l q).da from hda)] at this
   exact this
  ·have := (dbP_iff _).1 h0 q hq m hgt hm
   rw [dblR_u, if_neg (show ¬ (rsAt l q).da > (rsAt l m).da by omega)] at this
   exact this
 unfold dblS at hd2
 have h3 := List.any_eq_false.1 hd2 f hfx.1
 unfold dbF at h3
 have h4 : retI (rvOf l k) q f = (j : Int) := by
  rw [ret_bk]
  have := (telI l k).bk2 j hj f hft
  rw [← hr.1] at this
  show (bkAt (lkTo l k l.ts.length).bk ((rsAt l q).so, f)).getD (-1) = _
  rw [this]; rfl
 rw [h4] at h3
 have e1 : ofR (rvOf l k).k ⟨(rsAt (rvOf l k).l q).pa, f⟩ (rsAt (rvOf l k).l q) = true := ofR_self hr.2 hfx.1
 have e2 : ofR (rvOf l k).k ⟨(rsAt (rvOf l k).l q).pa, f⟩ (rsAt (rvOf l k).l m) = true := by
  show ofR k ⟨(rsAt l q).pa, f⟩ (rsAt l m) = true
  unfold ofR
  simp [hoc, hpa, List.contains_iff_mem.1 hfo]
 rw [e1, e2, Int.toNat_natCast] at h3
 simp only [Bool.true_and, Bool.or_eq_true, decide_eq_true_eq, not_or] at h3
 exact Int.not_lt.1 h3.2
theorem dy_fit {l : Led} (hok : OkL l) {k : Int} (h0 : dbP (rvOf l k) = none) : Rel l k (dyI l k).1 (svK (lookV l k) k).ds ∧ (dyI l k).2 = fitB (lookV l k) (sgK l k) := by
 have h := dy_to hok h0 rfl (base_rel hok k) (base_fine hok h0) (sgI l k) _ (Nat.le_refl _)
 rw [List.take_length, sgI_eq] at h
 have hs : (svK (lookV l k) k).ds = fitD (lookV l k) (lookV l k).ds (sgK l k) := by
  unfold svK; rw [lookV_l]
 rw [hs]
 refine ⟨h.1, ?_⟩
 rw [Bool.eq_iff_iff]
 unfold fitB
 rw [Bool.and_eq_true, fine_iff]
 exact h.2
theorem sn_es {l : Led} (hok : OkL l) (k : Int) : snE l k = eS l k := by
 unfold snE eS
 rw [lookV_l]
 cases hp : pairK (lookV l k) with
 | none =>
  have h0 := (pair_iff l k).1 hp
  rw [h0, (dy_fit hok h0).2]
  cases fitB (lookV l k) (sgK l k) <;> rfl
 | some p =>
  have h0 : dbP (rvOf l k) ≠ none := fun h => by rw [(pair_iff l k).2 h] at hp; cases hp
  have : (dbP (rvOf l k)).isSome = true := by rw [Option.isSome_iff_ne_none]; exact h0
  rw [this]
  rfl
theorem sound_rel {l : Led} (hok : OkL l) {k : Int} (h : eS l k = 0) : dbP (rvOf l k) = none ∧ snV l k = { rvOf l k with ds := (dyI l k).1 } ∧ Rel l k (dyI l k).1 (svK (lookV l k) k).ds ∧ Fine l k (svK (lookV l k) k).ds := by
 have hs : snE l k = 0 := by rw [sn_es hok]; exact h
 have h0 : dbP (rvOf l k) = none := by
  unfold snE at hs
  split at hs
  ·cases hs
  ·rename_i hn
   simpa using hn
 have hd : (dyI l k).2 = true := by
  unfold snE at hs
  rw [h0] at hs
  cases hb : (dyI l k).2 with
  | true => rfl
  | false => rw [hb] at hs; cases hs
 obtain ⟨h1, h2⟩ := dy_fit hok h0
 refine ⟨h0, by unfold snV; rw [if_pos hs], h1, ?_⟩
 rw [h2] at hd
 unfold fitB at hd
 rw [Bool.and_eq_true, fine_iff] at hd
 have e : (svK (lookV l k) k).ds = fitD (lookV l k) (lookV l k).ds (sgK l k) := by
  unfold svK; rw [lookV_l]
 rw [e]; exact hd.2
theorem lastTo_ds (x : RV) (d : List Rg) (f : Fol) (day : Int) : ∀ s, lastTo { x with ds := d } f day s = lastTo x f day s
 | 0 => rfl
 | s + 1 => by
  rw [lastTo, lastTo_ds x d f day s, lastTo]
theorem lastI_ds (x : RV) (d : List Rg) (f : Fol) (day : Int) : lastI { x with ds := d } f day = lastI x f day := lastTo_ds x d f day _
theorem retI_ds (x : RV) (d : List Rg) (i : Nat) (f : Int) : retI { x with ds := d } i f = retI x i f := rfl
theorem wh_eq {l : Led} (hok : OkL l) {k : Int} (h : eS l k = 0) (f : Fol) (day : Int) : whR (snV l k) f day = whK (svK (lookV l k) k) f.pa f.le day := by
 obtain ⟨h0, hv, hr, hfi⟩ := sound_rel hok h
 rw [hv]
 have e1 : (svK (lookV l k) k).rs = recsK l k := lookV_rs l k
 have e2 : (svK (lookV l k) k).bk = (lookV l k).bk := rfl
 unfold whR whK
 rw [e1, e2, lastI_ds, retI_ds]
 show (if lastI (rvOf l k) f day < 0 then [0] else if (decide (retI (rvOf l k) (lastI (rvOf l k) f day).toNat f.le < 0) || decide ((rgAt (dyI l k).1 (retI (rvOf l k) (lastI (rvOf l k) f day).toNat f.le).toNat).lo > day)) = true then [(rsAt l (lastI (rvOf l k) f day).toNat).bo] else
  if (rgAt (dyI l k).1 (retI (rvOf l k) (lastI (rvOf l k) f day).toNat f.le).toNat).hi ≤ day then [0] else [0, (rsAt l (lastI (rvOf l k) f day).toNat).bo]) = _
 rcases lastK_at h0 f day with ⟨a1, a2⟩ | ⟨q, hq, a1, -, a2⟩
 ·rw [a1, a2]; rfl
 ·rw [a1, a2, if_neg (by omega), Int.toNat_natCast, ret_bk]
  simp only []
  cases hbk : bkAt (lookV l k).bk ((rsAt l q).so, f.le) with
  | none => rfl
  | some i =>
   obtain ⟨j, rfl, hj⟩ := bk_tel hbk
   obtain ⟨g1, -, -⟩ := hr.2 j hj
   have g2 := hfi j hj
   simp only [Option.getD_some, Int.toNat_natCast, g1]
   have hn : decide ((j : Int) < 0) = false := by simp
   rw [hn, Bool.false_or]
   by_cases c1 : (dsAt (svK (lookV l k) k).ds j).1 > day
   ·rw [if_pos (by simpa using c1), if_neg (by omega), if_pos (by omega)]; rfl
   ·rw [if_neg (by simpa using c1)]
    by_cases c2 : (dsAt (svK (lookV l k) k).ds j).2 ≤ day
    ·rw [if_pos c2, if_pos (by omega), if_neg (by omega)]; rfl
    ·rw [if_neg c2, if_pos (by omega), if_pos (by omega)]; rfl
noncomputable section
structure Ask where
 (da kn pa le pe so : Int)
 deriving Inhabited
def encAsk (x : Ask) : V := .agg [vInt x.da, vInt x.kn, vInt x.pa, vInt x.le, vInt x.pe, vInt x.so]
def decAsk : V → Ask
 | .agg [.int _ a, .int _ b, .int _ c, .int _ d, .int _ e, .int _ f] => ⟨a, b, c, d, e, f⟩
 | _ => default
def iAsk : En Ask := ⟨encAsk, decAsk⟩
attribute [go_sem] encAsk decAsk iAsk
@[go_sem] theorem etaAsk (x : Ask) : (⟨x.da, x.kn, x.pa, x.le, x.pe, x.so⟩ : Ask) = x := rfl
theorem askI_ok {l : Led} {ds : List Int} (h : askI l ds = 0) : OkL l ∧ ∀ d ∈ ds, dayB d = true := by
 unfold askI at h
 split at h
 ·cases h
 ·rename_i h1
  have h1' : okLB l = true := by simpa using h1
  refine ⟨okLB_iff.1 h1', ?_⟩
  split at h
  ·rename_i h2; exact List.all_eq_true.1 h2
  ·cases h
theorem snV_ok {l : Led} (h : OkL l) (k : Int) : RVok (snV l k) := by
 unfold snV
 split
 ·exact ⟨h, telR_len _ _ _, fun _ hi => telB_rx (telR_at l k hi).2⟩
 ·exact rvOf_ok h k
theorem snV_l (l : Led) (k : Int) : (snV l k).l = l := by unfold snV; split <;> rfl
theorem snV_ts (l : Led) (k : Int) : (snV l k).ts = telR l k l.ts.length := by unfold snV; split <;> rfl
theorem snV_tn (l : Led) (k : Int) : (snV l k).ts.length = l.ts.length := by rw [snV_ts, telR_len]
theorem snV_ds {l : Led} {k : Int} (h : snE l k = 0) : (snV l k).ds.length = (snV l k).ts.length := by
 rw [snV_tn]
 unfold snV
 rw [if_pos h]
 exact dyTo_len _ _ _
def wrE (l : Led) (a : Ask) : Int := if askI l [a.da, a.kn] = 0 then (if isFol l a.pa a.le = true then snE l a.kn else 26) else askI l [a.da, a.kn]
def wrL (l : Led) (a : Ask) : List Int := if wrE l a = 0 then whR (snV l a.kn) ⟨a.pa, a.le⟩ a.da else []
def K52 : List (Nat × Spec) := [(98, S98), (100, S100), (99, S99), (101, S101)]
theorem K52_sound : KS K52 := tc s98.sound <| tc s100.sound <| tc s99.sound <| tc s101.sound <| tn
attribute [go_sem] K52
@[go_sem] def P29 : PSpec := p2 iL iAsk (fun _ _ => True) (fun l a => .tup [.sl ((wrL l a).map vInt), vInt (wrE l a)]) false
@[go_sem] def S29 : Spec := P29.toSpec
set_option maxHeartbeats 8000000 in
theorem s29 : PSound Tryz.prog 29 P29 := by
 refine wd2 (rs := [.tmp 4, .tmp 5]) Tryz.func29 Tryz.ntmps29 fun l a hp hw => ?_
 simp only [iAsk, iL, encL] at hw ⊢
 have hΓ := K52_sound
 repeat refine sq ?_
 refine rsx hΓ [2,3] [[2, 0],[3, 0]] ?_
 repeat refine sq ?_
 refine rsx hΓ [2,3,6] [[2, 0],[3, 0]] ?_
 repeat refine sq ?_
 refine rsx hΓ [2,3,6,17] [[2, 0],[3, 0]] ?_
 refine cnd (fun hb => ?_) fun hb => ?_
 ·repeat refine sq ?_
  have hc : ¬ askI l [a.da, a.kn] = 0 := by simpa using hb
  have e : wrE l a = askI l [a.da, a.kn] := by unfold wrE; rw [if_neg hc]
  have e2 : wrL l a = [] := by unfold wrL; rw [e, if_neg hc]
  refine rsx hΓ [4,5] [] ?_
  refine cl_ret ?_
  simp only [go_sem]
  first | (rw [e, e2]; done) | (rw [e, e2]; rfl)
 ·have hc : askI l [a.da, a.kn] = 0 := by simpa using hb
  obtain ⟨hok, _⟩ := askI_ok hc
  have hv := snV_ok hok a.kn
  refine cl_skip ?_
  repeat refine sq ?_
  refine rsx hΓ [2,3,23] [[2, 0],[3, 0]] ?_
  refine cnd (fun hb => ?_) fun hb => ?_
  ·repeat refine sq ?_
   have e : wrE l a = 26 := by unfold wrE; rw [if_pos hc, if_neg (by simpa using hb)]
   have e2 : wrL l a = [] := by unfold wrL; rw [e]; rfl
   refine rsx hΓ [4,5] [] ?_
   refine cl_ret ?_
   simp only [go_sem]
   first | (rw [e, e2]; done) | (rw [e, e2]; rfl)
  ·have e : wrE l a = snE l a.kn := by unfold wrE; rw [if_pos hc, if_pos (by simpa using hb)]
   refine cl_skip ?_
   repeat refine sq ?_
   refine rx hΓ [3,7,8] [[3, 0],[7, 0]] (fun K' hK => by simp only [go_sem]; (repeat (refine ⟨by first | exact obx | exact hok, ?_⟩)); exact fn0) ?_
   repeat refine sq ?_
   refine rsx hΓ [3,7,8,32] [[3, 0],[7, 0]] ?_
   refine cnd (fun hb => ?_) fun hb => ?_
   ·repeat refine sq ?_
    have hs : ¬ snE l a.kn = 0 := by simpa using hb
    have e2 : wrL l a = [] := by unfold wrL; rw [e, if_neg hs]
    refine rsx hΓ [4,5] [] ?_
    refine cl_ret ?_
    simp only [go_sem]
    first | (rw [e, e2]; done) | (rw [e, e2]; rfl)
   ·have hs : snE l a.kn = 0 := by simpa using hb
    have e2 : wrL l a = whR (snV l a.kn) ⟨a.pa, a.le⟩ a.da := by unfold wrL; rw [e, if_pos hs]
    rw [hs] at e
    refine cl_skip ?_
    repeat refine sq ?_
    refine rx hΓ [4,5] [] (fun K' hK => by simp only [go_sem]; (repeat (refine ⟨by first | exact obx | exact ⟨hv, snV_ds hs⟩, ?_⟩)); exact fn0) ?_
    refine cl_ret ?_
    simp only [go_sem]
    first | (rw [e, e2]; done) | (rw [e, e2]; rfl)
end
noncomputable section
def dyB (l : Led) (a : Ask) (j : Nat) : Bool := (telR l a.kn l.ts.length).getD j false && (tsAt l j).so == a.so
def dyAt (l : Led) (a : Ask) : Nat → Int
 | 0 => -1
 | s + 1 => if dyB l a s = true then (s : Int) else dyAt l a s
theorem dyAt_cases (l : Led) (a : Ask) : ∀ s, dyAt l a s = -1 ∨ ∃ j, j < s ∧ dyAt l a s = (j : Int) ∧ dyB l a j = true
 | 0 => .inl rfl
 | s + 1 => by
  rw [dyAt]
  split
  ·rename_i h; exact .inr ⟨s, by omega, rfl, h⟩
  ·rcases dyAt_cases l a s with h | ⟨j, h1, h2⟩
   ·exact .inl h
   ·exact .inr ⟨j, by omega, h2⟩
def drE (l : Led) (a : Ask) : Int := if askI l [a.kn] = 0 then (if dyAt l a l.ts.length < 0 then 3 else snE l a.kn) else askI l [a.kn]
def drG (l : Led) (a : Ask) : Rg := if drE l a = 0 then rgAt (snV l a.kn).ds (dyAt l a l.ts.length).toNat else ⟨0, 0⟩
def K53 : List (Nat × Spec) := [(98, S98), (71, S71), (99, S99)]
theorem K53_sound : KS K53 := tc s98.sound <| tc s71.sound <| tc s99.sound <| tn
attribute [go_sem] K53
@[go_sem] def P28 : PSpec := p2 iL iAsk (fun _ _ => True) (fun l a => .tup [encRg (drG l a), vInt (drE l a)]) false
@[go_sem] def S28 : Spec := P28.toSpec
set_option maxHeartbeats 8000000 in
theorem s28 : PSound Tryz.prog 28 P28 := by
 refine wd2 (rs := [.cell 4 38, .tmp 5]) Tryz.func28 Tryz.ntmps28 fun l a hp hw => ?_
 have hP := mixedK
 simp only [iAsk, iL, encL] at hw ⊢
 have hΓ := K53_sound
 repeat refine sq ?_
 refine rsx hΓ [2,3,4] [[2, 0],[3, 0],[4, 0]] ?_
 repeat refine sq ?_
 refine rsx hΓ [2,3,4,6] [[2, 0],[3, 0],[4, 0]] ?_
 repeat refine sq ?_
 refine rsx hΓ [2,3,4,6,18] [[2, 0],[3, 0],[4, 0]] ?_
 refine cnd (fun hb => ?_) fun hb => ?_
 ·repeat refine sq ?_
  have hc : ¬ askI l [a.kn] = 0 := by simpa using hb
  have e : drE l a = askI l [a.kn] := by unfold drE; rw [if_neg hc]
  have e2 : drG l a = ⟨0, 0⟩ := by unfold drG; rw [e, if_neg hc]
  refine rsx hΓ [4,5] [[4, 0]] ?_
  refine cl_ret ?_
  simp only [go_sem]
  first | (rw [e, e2]; done) | (rw [e, e2]; rfl)
 ·have hc : askI l [a.kn] = 0 := by simpa using hb
  obtain ⟨hok, _⟩ := askI_ok hc
  have hv := snV_ok hok a.kn
  have htn := hok.tsn
  have htl := telR_len l a.kn l.ts.length
  have hl : l.ts.length ≤ maxLen := by unfold maxLen; omega
  refine cl_skip ?_
  repeat refine sq ?_
  refine rx hΓ [2,3,4,7] [[2, 0],[3, 0],[4, 0]] (fun K' hK => by simp only [go_sem]; (repeat (refine ⟨by first | exact obx | exact hok, ?_⟩)); exact fn0) ?_
  repeat refine sq ?_
  refine rsx hΓ [2,3,4,7,8] [[2, 0],[3, 0],[4, 0]] ?_
  repeat refine sq ?_
  refine rsx hΓ [2,3,4,7,8,9] [[2, 0],[3, 0],[4, 0]] ?_
  refine cl_block ?_
  refine cl_loop'  (fun s : Nat => [(9, ⟨true, .v (vInt s)⟩), (8, ⟨true, .v (vInt (dyAt l a s))⟩)]) (fun s => []) (fun s => s ≤ l.ts.length) (fun s => l.ts.length - s) 0 ?_ ?_ ?_ ?_
  ·exact Nat.zero_le _
  ·rfl
  ·rfl
  rintro i hi
  generalize hB : dyAt l a i = B
  simp only [go_sem]
  repeat refine sq ?_
  refine rx hΓ [2,3,4,7,8,9,28] [[2, 0],[3, 0],[4, 0]] (fun K' hK => by simp only [go_sem, List.length_map, htl]; exact fnx) ?_
  refine cnd (fun hb => ?_) fun hb => ?_
  ·have hlt : i < l.ts.length := by simpa using hb
   have hlt' : (i : Int) < l.ts.length := by omega
   clear hb
   have hlx : i < (telR l a.kn l.ts.length).length := by omega
   have e0 := tsAt_at hlt
   refine cl_skip ?_
   repeat refine sq ?_
   refine cl_block ?_
   repeat refine sq ?_
   refine dx hΓ hP [[], [], [0, 1], [0, 1, 2], u4, u5, u6, u5, u8, u9, u10, u5, [0, 1, 2, 3, 4, 11], u13, u14] [2,3,4,7,8,9,45] [[2, 0],[3, 0],[4, 0]] (by kernel_rfl) (fun K' hK => by simp only [go_sem, map_getDb hlx, map_getD hlt, tnI, nnI, hlt', List.length_map, htl]; exact fdx) ?_
   refine cnd (fun hb => ?_) fun hb => ?_
   ·have eD : dyAt l a (i + 1) = (i : Int) := by rw [dyAt, if_pos (by unfold dyB; rw [e0]; simpa using hb)]
    refine cl_r hΓ fun K' hK => ?_
    simp only [go_sem]
    repeat (refine ⟨obx, ?_⟩)
    refine hK _ ?_
    clear K' hK
    simp only [go_sem]
    refine kp [2,3,4,7,8,9] [[2, 0],[3, 0],[4, 0]] ?_
    refine cl_r hΓ fun K' hK => ?_
    simp only [go_sem]
    repeat (refine ⟨obx, ?_⟩)
    refine hK _ ?_
    clear K' hK
    simp only [go_sem]
    refine ⟨i + 1, hlt, by (show l.ts.length - (i + 1) < l.ts.length - i; omega), ?_⟩
    refine weak_eq [2,3,4,7,8,9] [[2, 0],[3, 0],[4, 0]] ?_ ?_ <;> simp only [go_sem, wrap_succ hlt hl, csI, eD]
   ·have eD : dyAt l a (i + 1) = B := by rw [dyAt, if_neg (by unfold dyB; rw [e0]; simpa using hb), hB]
    refine cl_skip ?_
    refine cl_nil ?_
    simp only [go_sem]
    refine kp [2,3,4,7,8,9] [[2, 0],[3, 0],[4, 0]] ?_
    refine cl_r hΓ fun K' hK => ?_
    simp only [go_sem]
    repeat (refine ⟨obx, ?_⟩)
    refine hK _ ?_
    clear K' hK
    simp only [go_sem]
    refine ⟨i + 1, hlt, by (show l.ts.length - (i + 1) < l.ts.length - i; omega), ?_⟩
    refine weak_eq [2,3,4,7,8,9] [[2, 0],[3, 0],[4, 0]] ?_ ?_ <;> simp only [go_sem, wrap_succ hlt hl, csI, eD]
  ·have hge : i = l.ts.length := by
    have : ¬ (i : Int) < l.ts.length := by simpa using hb
    omega
   clear hb
   subst hge
   subst hB
   have hcs := dyAt_cases l a l.ts.length
   refine cl_exit ?_
   simp only [go_sem]
   refine kp [2,3,4,8] [[2, 0],[3, 0],[4, 0]] ?_
   repeat refine sq ?_
   refine rsx hΓ [2,3,4,8,48] [[2, 0],[3, 0],[4, 0]] ?_
   refine cnd (fun hb => ?_) fun hb => ?_
   ·repeat refine sq ?_
    have hq : dyAt l a l.ts.length < 0 := by simpa using hb
    have e : drE l a = 3 := by unfold drE; rw [if_pos hc, if_pos hq]
    have e2 : drG l a = ⟨0, 0⟩ := by unfold drG; rw [e]; rfl
    refine rsx hΓ [4,5] [[4, 0]] ?_
    refine cl_ret ?_
    simp only [go_sem]
    first | (rw [e, e2]; done) | (rw [e, e2]; rfl)
   ·have hq : ¬ dyAt l a l.ts.length < 0 := by simpa using hb
    have e : drE l a = snE l a.kn := by unfold drE; rw [if_pos hc, if_neg hq]
    refine cl_skip ?_
    repeat refine sq ?_
    refine rx hΓ [4,8,10,11] [[4, 0],[10, 0]] (fun K' hK => by simp only [go_sem]; (repeat (refine ⟨by first | exact obx | exact hok, ?_⟩)); exact fn0) ?_
    repeat refine sq ?_
    refine rsx hΓ [4,8,10,11,58] [[4, 0],[10, 0]] ?_
    refine cnd (fun hb => ?_) fun hb => ?_
    ·repeat refine sq ?_
     have hs : ¬ snE l a.kn = 0 := by simpa using hb
     have e2 : drG l a = ⟨0, 0⟩ := by unfold drG; rw [e, if_neg hs]
     refine rsx hΓ [4,5] [[4, 0]] ?_
     refine cl_ret ?_
     simp only [go_sem]
     first | (rw [e, e2]; done) | (rw [e, e2]; rfl)
    ·have hs : snE l a.kn = 0 := by simpa using hb
     have hdl := snV_ds hs
     rw [snV_tn] at hdl
     obtain ⟨j, hj, hja⟩ : ∃ j : Nat, j < (snV l a.kn).ds.length ∧ dyAt l a l.ts.length = j := by
      rcases hcs with h | ⟨j, h1, h2, -⟩
      ·omega
      ·exact ⟨j, by omega, h2⟩
     have hj' : (j : Int) < (snV l a.kn).ds.length := by omega
     have e2 : drG l a = (snV l a.kn).ds[j] := by unfold drG; rw [e, if_pos hs, hja, tnI, rgAt_at hj]
     rw [hs] at e
     refine cl_skip ?_
     repeat refine sq ?_
     refine rx hΓ [4,5] [[4, 0]] (fun K' hK => by simp only [go_sem, hja, map_getD hj, hj', tnI, nnI, List.length_map]; exact fnx) ?_
     refine cl_ret ?_
     simp only [go_sem]
     first | (rw [e, e2]; done) | (rw [e, e2]; rfl)
end
noncomputable section
def inTo (l : Led) (i : Nat) : Nat → List Fol
 | 0 => foTo l i
 | m + 1 => inTo l i m ++ [⟨(l.ps.getD i default).id, ((m + 1 : Nat) : Int)⟩]
theorem inTo_eq (l : Led) (i : Nat) : ∀ m, inTo l i m = foTo l i ++ (List.range m).map fun j => ⟨(l.ps.getD i default).id, ((j + 1 : Nat) : Int)⟩
 | 0 => by rw [inTo]; simp
 | m + 1 => by rw [inTo, inTo_eq l i m, List.range_succ, List.map_append, List.append_assoc]; rfl
theorem inTo_all {l : Led} {i : Nat} (h : i < l.ps.length) : inTo l i (l.ps[i]).lv.toNat = foTo l (i + 1) := by
 rw [inTo_eq, foTo_succ h, getD_at h]; rfl
theorem papB_lv {p : Pap} (h : papB p = true) : 1 ≤ p.lv ∧ p.lv ≤ 30 := by
 unfold papB inI at h
 simp only [Bool.and_eq_true, decide_eq_true_eq] at h
 exact h.2
theorem foTo_len {l : Led} (h : OkL l) : ∀ i, i ≤ l.ps.length → (foTo l i).length ≤ 30 * i
 | 0, _ => Nat.le_refl _
 | i + 1, hi => by
  have := foTo_len h i (by omega)
  have hp := papB_lv (allB_at h.ps (show i < l.ps.length by omega))
  rw [foTo_succ (by omega), List.length_append, pf_len]
  omega
theorem inTo_len (l : Led) (i m : Nat) : (inTo l i m).length = (foTo l i).length + m := by rw [inTo_eq]; simp
@[go_sem] def P127 : PSpec := p1 iL (fun l => OkL l) (fun l => .sl ((foK l).map encFo)) false
@[go_sem] def S127 : Spec := P127.toSpec
set_option maxHeartbeats 8000000 in
theorem s127 : PSound Tryz.prog 127 P127 := by
 refine wd1 (rs := [.tmp 2]) Tryz.func127 Tryz.ntmps127 fun l hp hw => ?_
 simp only [iL, encL] at hw ⊢
 have hΓ := @no_sound Tryz.prog
 have hpn := hp.psn
 have hl : l.ps.length ≤ maxLen := by unfold maxLen; omega
 repeat refine sq ?_
 refine rsx hΓ [1] [[1, 0]] ?_
 repeat refine sq ?_
 refine rsx hΓ [1,3] [[1, 0],[33, 0]] ?_
 refine cl_weakM (weakM_ghostk 3 [33, 0] 2 (by simp only [go_sem]) (by simp only [go_sem]) [1,3] [[1, 0],[33, 0]] ?_ rfl) ?_
 ·simp only [go_sem]
 simp only [go_sem]
 repeat refine sq ?_
 refine rsx hΓ [1,3,4] [[1, 0],[33, 0]] ?_
 refine cl_block ?_
 refine cl_loop'  (fun s : Nat => [(4, ⟨true, .v (vInt s)⟩), (3, ⟨true, .msl [33, 0] (foTo l s).length⟩)]) (fun s => [([33, 0], .arr 2 ((foTo l s).map encFo))]) (fun s => s ≤ l.ps.length) (fun s => l.ps.length - s) 0 ?_ ?_ ?_ ?_
 ·exact Nat.zero_le _
 ·rfl
 ·rfl
 rintro i hi
 simp only [go_sem]
 repeat refine sq ?_
 refine rsx hΓ [1,3,4,10] [[1, 0],[33, 0]] ?_
 refine cnd (fun hb => ?_) fun hb => ?_
 ·have hlt : i < l.ps.length := by simpa using hb
  have hlt' : (i : Int) < l.ps.length := by omega
  clear hb
  have hfl := foTo_len hp i (by omega)
  obtain ⟨hv0, hv1⟩ := papB_lv (allB_at hp.ps hlt)
  have hvm : (l.ps[i]).lv.toNat + 1 ≤ maxLen := by unfold maxLen; omega
  refine cl_skip ?_
  repeat refine sq ?_
  refine cl_block ?_
  repeat refine sq ?_
  refine rx hΓ [1,3,4,5] [[1, 0],[33, 0]] (fun K' hK => by simp only [go_sem, hlt']; exact fnx) ?_
  refine cl_block ?_
  refine cl_loop'  (fun s : Nat => [(5, ⟨true, .v (vInt s)⟩), (3, ⟨true, .msl [33, 0] (inTo l i (s - 1)).length⟩)]) (fun s => [([33, 0], .arr 2 ((inTo l i (s - 1)).map encFo))]) (fun s => s ≤ ((l.ps[i]).lv.toNat + 1) ∧ 1 ≤ s) (fun s => ((l.ps[i]).lv.toNat + 1) - s) 1 ?_ ?_ ?_ ?_
  ·exact ⟨by omega, Nat.le_refl 1⟩
  ·rfl
  ·rfl
  rintro i1 ⟨hi, hR⟩
  simp only [go_sem]
  repeat refine sq ?_
  refine rx hΓ [1,3,4,5,20] [[1, 0],[33, 0]] (fun K' hK => by simp only [go_sem, tnI, nnI, map_getD hlt, hlt', tnI, nnI, List.length_map]; exact fnx) ?_
  refine cnd (fun hb => ?_) fun hb => ?_
  ·have hlt1 : i1 < (l.ps[i]).lv.toNat + 1 := by
    have : (i1 : Int) ≤ (l.ps[i]).lv := by simpa using hb
    omega
   have hil := inTo_len l i (i1 - 1)
   have eI : inTo l i (i1 + 1 - 1) = inTo l i (i1 - 1) ++ [⟨(l.ps[i]).id, (i1 : Int)⟩] := by
    obtain ⟨m, rfl⟩ : ∃ m, i1 = m + 1 := ⟨i1 - 1, by omega⟩
    rw [Nat.add_sub_cancel, Nat.add_sub_cancel, inTo, getD_at hlt]
   refine cl_skip ?_
   repeat refine sq ?_
   refine cl_block ?_
   refine cl_r hΓ fun K' hK => ?_
   simp only [go_sem, tnI, nnI, map_getD hlt, hlt', tnI, nnI, List.length_map]
   repeat (refine ⟨obx, ?_⟩)
   refine hK _ ?_
   clear K' hK
   simp only [go_sem]
   refine kp [1,3,4,5] [[1, 0],[33, 0]] ?_
   refine cl_r hΓ fun K' hK => ?_
   simp only [go_sem]
   repeat (refine ⟨obx, ?_⟩)
   refine hK _ ?_
   clear K' hK
   simp only [go_sem]
   refine ⟨i1 + 1, ⟨hlt1, ?_⟩, by (show ((l.ps[i]).lv.toNat + 1) - (i1 + 1) < ((l.ps[i]).lv.toNat + 1) - i1; omega), ?_⟩
   ·omega
   refine weak_eq [1,3,4,5] [[1, 0],[33, 0]] ?_ ?_ <;> simp only [go_sem, wrap_succ hlt1 hvm, csI, eI, List.map_append, List.length_append, List.map_cons, List.map_nil, List.length_cons, List.length_nil]
  ·have hge1 : i1 = (l.ps[i]).lv.toNat + 1 := by
    have : ¬ (i1 : Int) ≤ (l.ps[i]).lv := by simpa using hb
    omega
   have e9 : inTo l i (i1 - 1) = foTo l (i + 1) := by rw [hge1, Nat.add_sub_cancel, inTo_all hlt]
   refine cl_exit ?_
   simp only [go_sem]
   refine kp [1,3,4] [[1, 0],[33, 0]] ?_
   refine cl_r hΓ fun K' hK => ?_
   simp only [go_sem]
   repeat (refine ⟨obx, ?_⟩)
   refine hK _ ?_
   clear K' hK
   simp only [go_sem]
   refine ⟨i + 1, hlt, by (show l.ps.length - (i + 1) < l.ps.length - i; omega), ?_⟩
   refine weak_eq [1,3,4] [[1, 0],[33, 0]] ?_ ?_ <;> simp only [go_sem, wrap_succ hlt hl, csI, e9]
 ·have hge : i = l.ps.length := by
   have : ¬ (i : Int) < l.ps.length := by simpa using hb
   omega
  clear hb
  subst hge
  refine cl_exit ?_
  simp only [go_sem]
  refine kp [3] [[33, 0]] ?_
  repeat refine sq ?_
  refine rx hΓ [2] [[33, 0]] (fun K' hK => by simp only [go_sem, foTo_all]; exact fnx) ?_
  refine cl_ret ?_
  simp only [go_sem]
  all_goals exact fzI
end
set_option maxHeartbeats 8000000
noncomputable section
def heB (sure : Bool) (pe : Int) (w : List Int) : Bool := w.contains pe && (!sure || (w.length : Int) == 1)
def heP (x : RV) (sure : Bool) (a : Ask) (f : Fol) : Bool := heB sure a.pe (whR x f a.da)
def heE (l : Led) (a : Ask) : Int := if okLB l = true then (if inI a.pe 0 99 = true then (if askI l [a.da, a.kn] = 0 then snE l a.kn else askI l [a.da, a.kn]) else 1) else 24
def heL (l : Led) (a : Ask) (sure : Bool) : List Fol := if heE l a = 0 then (foK l).filter (heP (snV l a.kn) sure a) else []
def heTo (l : Led) (a : Ask) (sure : Bool) (s : Nat) : List Fol := ((foK l).take s).filter (heP (snV l a.kn) sure a)
theorem heTo_succ {l : Led} {a : Ask} {sure : Bool} {s : Nat} (h : s < (foK l).length) : heTo l a sure (s + 1) = if heP (snV l a.kn) sure a (foK l)[s] = true then heTo l a sure s ++ [(foK l)[s]] else heTo l a sure s := by
 unfold heTo
 rw [List.take_add_one, List.getElem?_eq_getElem h, List.filter_append]
 by_cases hc : heP (snV l a.kn) sure a (foK l)[s] = true
 ·rw [if_pos hc]; simp [hc]
 ·rw [if_neg hc]; simp [hc]
theorem heTo_len (l : Led) (a : Ask) (sure : Bool) (s : Nat) : (heTo l a sure s).length ≤ s := by
 unfold heTo
 exact Nat.le_trans (List.length_filter_le _ _) (by simp; omega)
theorem heTo_all (l : Led) (a : Ask) (sure : Bool) : heTo l a sure (foK l).length = (foK l).filter (heP (snV l a.kn) sure a) := by unfold heTo; rw [List.take_length]
def K55 : List (Nat × Spec) := [(69, S69), (146, S146), (98, S98), (99, S99), (127, S127), (101, S101), (15, S15)]
theorem K55_sound : KS K55 := tc s69.sound <| tc s146.sound <| tc s98.sound <| tc s99.sound <| tc s127.sound <| tc s101.sound <| tc s15.sound <| tn
attribute [go_sem] K55
@[go_sem] def P106 : PSpec := p3 iL iAsk iB (fun _ _ _ => True) (fun l a sure => .tup [.sl ((heL l a sure).map encFo), vInt (heE l a)]) false
@[go_sem] def S106 : Spec := P106.toSpec
theorem s106 : PSound Tryz.prog 106 P106 := by
 refine wd3 (rs := [.tmp 6, .tmp 7]) Tryz.func106 Tryz.ntmps106 fun l a sure hp hw => ?_
 have hP := mixedK
 simp only [iAsk, iB, iL, encL] at hw ⊢
 have hΓ := K55_sound
 repeat refine sq ?_
 refine rsx hΓ [2,3,4] [[3, 0],[4, 0]] ?_
 repeat refine sq ?_
 refine rx hΓ [2,3,4,17] [[3, 0],[4, 0]] (fun K' hK => by simp only [go_sem, chkI_ne]; exact fnx) ?_
 refine cnd (fun hb => ?_) fun hb => ?_
 ·repeat refine sq ?_
  have hc : okLB l = false := by simpa using hb
  have e : heE l a = 24 := by unfold heE; rw [if_neg (by simp [hc])]
  have e2 : heL l a sure = [] := by unfold heL; rw [e]; rfl
  refine rsx hΓ [6,7] [[77, 0]] ?_
  refine cl_ret ?_
  simp only [go_sem]
  first | (rw [e, e2]; done) | (rw [e, e2]; rfl)
 ·have hok : okLB l = true := by simpa using hb
  refine cl_skip ?_
  repeat refine sq ?_
  refine rsx hΓ [2,3,4,21] [[3, 0],[4, 0]] ?_
  refine cnd (fun hb => ?_) fun hb => ?_
  ·repeat refine sq ?_
   have e : heE l a = 1 := by unfold heE; rw [if_pos hok, if_neg (by simpa using hb)]
   have e2 : heL l a sure = [] := by unfold heL; rw [e]; rfl
   refine rsx hΓ [6,7] [[77, 0]] ?_
   refine cl_ret ?_
   simp only [go_sem]
   first | (rw [e, e2]; done) | (rw [e, e2]; rfl)
  ·have hpe : inI a.pe 0 99 = true := by simpa using hb
   refine cl_skip ?_
   repeat refine sq ?_
   refine rsx hΓ [2,3,4,8] [[3, 0],[4, 0]] ?_
   repeat refine sq ?_
   refine rsx hΓ [2,3,4,8,30] [[3, 0],[4, 0]] ?_
   refine cnd (fun hb => ?_) fun hb => ?_
   ·repeat refine sq ?_
    have hc : ¬ askI l [a.da, a.kn] = 0 := by simpa using hb
    have e : heE l a = askI l [a.da, a.kn] := by unfold heE; rw [if_pos hok, if_pos hpe, if_neg hc]
    have e2 : heL l a sure = [] := by unfold heL; rw [e, if_neg hc]
    refine rsx hΓ [6,7] [[77, 0]] ?_
    refine cl_ret ?_
    simp only [go_sem]
    first | (rw [e, e2]; done) | (rw [e, e2]; rfl)
   ·have hc : askI l [a.da, a.kn] = 0 := by simpa using hb
    have hok2 := okLB_iff.1 hok
    have hv := snV_ok hok2 a.kn
    have e : heE l a = snE l a.kn := by unfold heE; rw [if_pos hok, if_pos hpe, if_pos hc]
    refine cl_skip ?_
    repeat refine sq ?_
    refine rx hΓ [2,3,4,9,10] [[3, 0],[4, 0],[9, 0]] (fun K' hK => by simp only [go_sem]; (repeat (refine ⟨by first | exact obx | exact hok2, ?_⟩)); exact fn0) ?_
    repeat refine sq ?_
    refine rsx hΓ [2,3,4,9,10,40] [[3, 0],[4, 0],[9, 0]] ?_
    refine cnd (fun hb => ?_) fun hb => ?_
    ·repeat refine sq ?_
     have hs : ¬ snE l a.kn = 0 := by simpa using hb
     have e2 : heL l a sure = [] := by unfold heL; rw [e, if_neg hs]
     refine rsx hΓ [6,7] [[77, 0]] ?_
     refine cl_ret ?_
     simp only [go_sem]
     first | (rw [e, e2]; done) | (rw [e, e2]; rfl)
    ·have hs : snE l a.kn = 0 := by simpa using hb
     have e2 : heL l a sure = heTo l a sure (foK l).length := by unfold heL; rw [e, if_pos hs, heTo_all]
     rw [hs] at e
     have hdl := snV_ds hs
     have hfl := foK_len hok2
     have hl : (foK l).length ≤ maxLen := by unfold maxLen; omega
     refine cl_skip ?_
     repeat refine sq ?_
     refine rx hΓ [2,4,9,11] [[4, 0],[9, 0]] (fun K' hK => by simp only [go_sem]; (repeat (refine ⟨by first | exact obx | exact hok2, ?_⟩)); exact fn0) ?_
     repeat refine sq ?_
     refine rsx hΓ [2,4,9,11,12] [[4, 0],[9, 0],[77, 0]] ?_
     refine cl_weakM (weakM_ghostk 12 [77, 0] 2 (by simp only [go_sem]) (by simp only [go_sem]) [2,4,9,11,12] [[4, 0],[9, 0],[77, 0]] ?_ rfl) ?_
     ·simp only [go_sem]
     simp only [go_sem]
     repeat refine sq ?_
     refine rsx hΓ [2,4,9,11,12,13] [[4, 0],[9, 0],[77, 0]] ?_
     refine cl_block ?_
     refine cl_loop'  (fun s : Nat => [(13, ⟨true, .v (vInt s)⟩), (12, ⟨true, .msl [77, 0] (heTo l a sure s).length⟩)]) (fun s => [([77, 0], .arr 2 ((heTo l a sure s).map encFo))]) (fun s => s ≤ (foK l).length) (fun s => (foK l).length - s) 0 ?_ ?_ ?_ ?_
     ·exact Nat.zero_le _
     ·rfl
     ·rfl
     rintro i hi
     simp only [go_sem]
     repeat refine sq ?_
     refine rsx hΓ [2,4,9,11,12,13,47] [[4, 0],[9, 0],[77, 0]] ?_
     refine cnd (fun hb => ?_) fun hb => ?_
     ·have hlt : i < (foK l).length := by simpa using hb
      have hlt' : (i : Int) < (foK l).length := by omega
      clear hb
      have hel := heTo_len l a sure i
      refine cl_skip ?_
      repeat refine sq ?_
      refine cl_block ?_
      repeat refine sq ?_
      refine dx hΓ hP [[], [], [], [1, 2], [1, 2, 3], [], [5], u7, u8] [2,4,9,11,12,13,14] [[4, 0],[9, 0],[77, 0]] (by kernel_rfl) (fun K' hK => by simp only [go_sem, map_getD hlt, tnI, nnI, hlt', etaFo]; (repeat (refine ⟨by first | exact obx | exact ⟨hv, hdl⟩, ?_⟩)); exact fd0) ?_
      repeat refine sq ?_
      refine rx hΓ [2,4,9,11,12,13,70] [[4, 0],[9, 0],[77, 0]] (fun K' hK => by simp only [go_sem, List.length_map]; exact fnx) ?_
      refine cnd (fun hb => ?_) fun hb => ?_
      ·have eS : heTo l a sure (i + 1) = heTo l a sure i ++ [(foK l)[i]] := by rw [heTo_succ hlt, if_pos]; unfold heP heB; cases sure <;> simpa using hb
       refine cl_r hΓ fun K' hK => ?_
       simp only [go_sem, map_getD hlt, tnI, nnI, hlt']
       repeat (refine ⟨obx, ?_⟩)
       refine hK _ ?_
       clear K' hK
       simp only [go_sem]
       refine kp [2,4,9,11,12,13] [[4, 0],[9, 0],[77, 0]] ?_
       refine cl_r hΓ fun K' hK => ?_
       simp only [go_sem]
       repeat (refine ⟨obx, ?_⟩)
       refine hK _ ?_
       clear K' hK
       simp only [go_sem]
       refine ⟨i + 1, hlt, by (show (foK l).length - (i + 1) < (foK l).length - i; omega), ?_⟩
       refine weak_eq [2,4,9,11,12,13] [[4, 0],[9, 0],[77, 0]] ?_ ?_ <;> simp only [go_sem, wrap_succ hlt hl, csI, eS, List.map_append, List.length_append, List.map_cons, List.map_nil, List.length_cons, List.length_nil]
      ·have eS : heTo l a sure (i + 1) = heTo l a sure i := by rw [heTo_succ hlt, if_neg]; unfold heP heB; cases sure <;> simpa using hb
       refine cl_skip ?_
       refine cl_nil ?_
       simp only [go_sem]
       refine kp [2,4,9,11,12,13] [[4, 0],[9, 0],[77, 0]] ?_
       refine cl_r hΓ fun K' hK => ?_
       simp only [go_sem]
       repeat (refine ⟨obx, ?_⟩)
       refine hK _ ?_
       clear K' hK
       simp only [go_sem]
       refine ⟨i + 1, hlt, by (show (foK l).length - (i + 1) < (foK l).length - i; omega), ?_⟩
       refine weak_eq [2,4,9,11,12,13] [[4, 0],[9, 0],[77, 0]] ?_ ?_ <;> simp only [go_sem, wrap_succ hlt hl, csI, eS, List.map_cons, List.map_nil]
     ·have hge : i = (foK l).length := by
       have : ¬ (i : Int) < (foK l).length := by simpa using hb
       omega
      clear hb
      subst hge
      refine cl_exit ?_
      simp only [go_sem]
      refine kp [12] [[77, 0]] ?_
      repeat refine sq ?_
      refine rsx hΓ [6,7] [[77, 0]] ?_
      refine cl_ret ?_
      simp only [go_sem]
      first | (rw [e, e2]; done) | (rw [e, e2]; rfl)
def K55b : List (Nat × Spec) := [(106, S106)]
theorem K55b_sound : KS K55b := tc s106.sound <| tn
attribute [go_sem] K55b
@[go_sem] def P33 : PSpec := p2 iL iAsk (fun _ _ => True) (fun l a => .tup [.sl ((heL l a true).map encFo), vInt (heE l a)]) false
@[go_sem] def S33 : Spec := P33.toSpec
theorem s33 : PSound Tryz.prog 33 P33 := by
 refine wd2 (rs := [.tmp 4, .tmp 5]) Tryz.func33 Tryz.ntmps33 fun l a hp hw => ?_
 simp only [iAsk, iL, encL] at hw ⊢
 have hΓ := K55b_sound
 repeat refine sq ?_
 refine rsx hΓ [2,3] [[2, 0],[3, 0]] ?_
 repeat refine sq ?_
 refine rsx hΓ [4,5] [] ?_
 refine cl_ret ?_
 simp only [go_sem]
 skip
@[go_sem] def P35 : PSpec := p2 iL iAsk (fun _ _ => True) (fun l a => .tup [.sl ((heL l a false).map encFo), vInt (heE l a)]) false
@[go_sem] def S35 : Spec := P35.toSpec
theorem s35 : PSound Tryz.prog 35 P35 := by
 refine wd2 (rs := [.tmp 4, .tmp 5]) Tryz.func35 Tryz.ntmps35 fun l a hp hw => ?_
 simp only [iAsk, iL, encL] at hw ⊢
 have hΓ := K55b_sound
 repeat refine sq ?_
 refine rsx hΓ [2,3] [[2, 0],[3, 0]] ?_
 repeat refine sq ?_
 refine rsx hΓ [4,5] [] ?_
 refine cl_ret ?_
 simp only [go_sem]
 skip
end
noncomputable section
def noTo (x : RV) (pa da : Int) : Nat → Bool
 | 0 => false
 | m + 1 => noTo x pa da m || (whR x ⟨pa, ((m + 1 : Nat) : Int)⟩ da).getD 0 0 != 0
def alTo (x : RV) (pa da : Int) : Nat → Bool
 | 0 => true
 | m + 1 => alTo x pa da m && ((whR x ⟨pa, ((m + 1 : Nat) : Int)⟩ da).length : Int) == 1
theorem whR_ne (x : RV) (f : Fol) (day : Int) : ∃ w0 wr, whR x f day = w0 :: wr := by
 unfold whR
 split
 ·exact ⟨_, _, rfl⟩
 ·split
  ·exact ⟨_, _, rfl⟩
  ·split <;> exact ⟨_, _, rfl⟩
def wqE (l : Led) (a : Ask) : Int := if askI l [a.da, a.kn] = 0 then (if lvOf l.ps a.pa = 0 then 26 else snE l a.kn) else askI l [a.da, a.kn]
def anR (n a : Bool) : Int := if n then 0 else if a then 1 else 2
def wqA (l : Led) (a : Ask) : Int := if wqE l a = 0 then anR (noTo (snV l a.kn) a.pa a.da (lvOf l.ps a.pa).toNat) (alTo (snV l a.kn) a.pa a.da (lvOf l.ps a.pa).toNat) else 0
def K56 : List (Nat × Spec) := [(98, S98), (84, S84), (99, S99), (101, S101), (102, S102)]
theorem K56_sound : KS K56 := tc s98.sound <| tc s84.sound <| tc s99.sound <| tc s101.sound <| tc s102.sound <| tn
attribute [go_sem] K56
@[go_sem] def P30 : PSpec := p2 iL iAsk (fun _ _ => True) (fun l a => .tup [vInt (wqA l a), vInt (wqE l a)]) true
@[go_sem] def S30 : Spec := P30.toSpec
set_option maxHeartbeats 8000000 in
theorem s30 : PSound Tryz.prog 30 P30 := by
 refine wd2 (rs := [.tmp 4, .tmp 5]) Tryz.func30 Tryz.ntmps30 fun l a hp hw => ?_
 simp only [iAsk, iL, encL] at hw ⊢
 have hΓ := K56_sound
 repeat refine sq ?_
 refine rsx hΓ [2,3] [[2, 0],[3, 0]] ?_
 repeat refine sq ?_
 refine rsx hΓ [2,3,6] [[2, 0],[3, 0]] ?_
 repeat refine sq ?_
 refine rsx hΓ [2,3,6,22] [[2, 0],[3, 0]] ?_
 refine cnd (fun hb => ?_) fun hb => ?_
 ·repeat refine sq ?_
  have hc : ¬ askI l [a.da, a.kn] = 0 := by simpa using hb
  have e : wqE l a = askI l [a.da, a.kn] := by unfold wqE; rw [if_neg hc]
  have e2 : wqA l a = 0 := by unfold wqA; rw [e, if_neg hc]
  refine rsx hΓ [4,5] [] ?_
  refine cl_ret ?_
  simp only [go_sem]
  first | (rw [e, e2]; done) | (rw [e, e2]; rfl)
 ·have hc : askI l [a.da, a.kn] = 0 := by simpa using hb
  obtain ⟨hok, _⟩ := askI_ok hc
  have hv := snV_ok hok a.kn
  refine cl_skip ?_
  repeat refine sq ?_
  refine rsx hΓ [2,3,7] [[2, 0],[3, 0]] ?_
  repeat refine sq ?_
  refine rsx hΓ [2,3,7,30] [[2, 0],[3, 0]] ?_
  refine cnd (fun hb => ?_) fun hb => ?_
  ·repeat refine sq ?_
   have e : wqE l a = 26 := by unfold wqE; rw [if_pos hc, if_pos (by simpa using hb)]
   have e2 : wqA l a = 0 := by unfold wqA; rw [e]; rfl
   refine rsx hΓ [4,5] [] ?_
   refine cl_ret ?_
   simp only [go_sem]
   first | (rw [e, e2]; done) | (rw [e, e2]; rfl)
  ·have e : wqE l a = snE l a.kn := by unfold wqE; rw [if_pos hc, if_neg (by simpa using hb)]
   refine cl_skip ?_
   repeat refine sq ?_
   refine rx hΓ [3,7,8,9] [[3, 0],[8, 0]] (fun K' hK => by simp only [go_sem]; (repeat (refine ⟨by first | exact obx | exact hok, ?_⟩)); exact fn0) ?_
   repeat refine sq ?_
   refine rsx hΓ [3,7,8,9,39] [[3, 0],[8, 0]] ?_
   refine cnd (fun hb => ?_) fun hb => ?_
   ·repeat refine sq ?_
    have hs : ¬ snE l a.kn = 0 := by simpa using hb
    have e2 : wqA l a = 0 := by unfold wqA; rw [e, if_neg hs]
    refine rsx hΓ [4,5] [] ?_
    refine cl_ret ?_
    simp only [go_sem]
    first | (rw [e, e2]; done) | (rw [e, e2]; rfl)
   ·have hs : snE l a.kn = 0 := by simpa using hb
    obtain ⟨hl0, hl1⟩ := lvOf_rng hok a.pa
    obtain ⟨nn, hnn⟩ : ∃ nn : Nat, lvOf l.ps a.pa = nn := ⟨(lvOf l.ps a.pa).toNat, by omega⟩
    have e2 : wqA l a = anR (noTo (snV l a.kn) a.pa a.da nn) (alTo (snV l a.kn) a.pa a.da nn) := by unfold wqA; rw [e, if_pos hs, hnn, tnI]
    rw [hs] at e
    have hdl := snV_ds hs
    have hnm : nn + 1 ≤ maxLen := by unfold maxLen; omega
    refine cl_skip ?_
    repeat refine sq ?_
    refine rx hΓ [3,7,8,10] [[3, 0],[8, 0]] (fun K' hK => by simp only [go_sem, hnn]; exact fnx) ?_
    repeat refine sq ?_
    refine rsx hΓ [3,7,8,10,11] [[3, 0],[8, 0]] ?_
    repeat refine sq ?_
    refine rsx hΓ [3,7,8,10,11,12] [[3, 0],[8, 0]] ?_
    refine cl_block ?_
    refine cl_loop'  (fun s : Nat => [(12, ⟨true, .v (vInt s)⟩), (10, ⟨true, .v (.bool (noTo (snV l a.kn) a.pa a.da (s - 1)))⟩), (11, ⟨true, .v (.bool (alTo (snV l a.kn) a.pa a.da (s - 1)))⟩)]) (fun s => []) (fun s => s ≤ (nn + 1) ∧ 1 ≤ s) (fun s => (nn + 1) - s) 1 ?_ ?_ ?_ ?_
    ·exact ⟨by omega, Nat.le_refl 1⟩
    ·rfl
    ·rfl
    rintro i ⟨hi, hR⟩
    generalize hB : noTo (snV l a.kn) a.pa a.da (i - 1) = B
    generalize hA : alTo (snV l a.kn) a.pa a.da (i - 1) = A
    simp only [go_sem]
    repeat refine sq ?_
    refine rsx hΓ [3,7,8,10,11,12,43] [[3, 0],[8, 0]] ?_
    refine cnd (fun hb => ?_) fun hb => ?_
    ·have hlt : i < nn + 1 := by
      have : (i : Int) ≤ nn := by simpa using hb
      omega
     obtain ⟨w0, wr, hw0⟩ := whR_ne (snV l a.kn) ⟨a.pa, (i : Int)⟩ a.da
     have eN : noTo (snV l a.kn) a.pa a.da (i + 1 - 1) = (B || w0 != 0) := by
      obtain ⟨m, rfl⟩ : ∃ m, i = m + 1 := ⟨i - 1, by omega⟩
      rw [Nat.add_sub_cancel] at hB ⊢
      rw [noTo, hB, hw0]; rfl
     have eA : alTo (snV l a.kn) a.pa a.da (i + 1 - 1) = (A && ((wr.length : Int) + 1) == 1) := by
      obtain ⟨m, rfl⟩ : ∃ m, i = m + 1 := ⟨i - 1, by omega⟩
      rw [Nat.add_sub_cancel] at hA ⊢
      rw [alTo, hA, hw0]; rfl
     refine cl_skip ?_
     repeat refine sq ?_
     refine cl_block ?_
     repeat refine sq ?_
     refine rx hΓ [3,7,8,10,11,12,13] [[3, 0],[8, 0]] (fun K' hK => by simp only [go_sem, hw0]; (repeat (refine ⟨by first | exact obx | exact ⟨hv, hdl⟩, ?_⟩)); exact fn0) ?_
     repeat refine sq ?_
     refine rx hΓ [3,7,8,10,11,12,13] [[3, 0],[8, 0]] (fun K' hK => by simp only [go_sem, List.map_cons, List.length_cons]; exact fnx) ?_
     refine cl_r hΓ fun K' hK => ?_
     simp only [go_sem, List.map_cons, List.length_cons, List.length_map]
     repeat (refine ⟨obx, ?_⟩)
     refine hK _ ?_
     clear K' hK
     simp only [go_sem]
     refine kp [3,7,8,10,11,12] [[3, 0],[8, 0]] ?_
     refine cl_r hΓ fun K' hK => ?_
     simp only [go_sem]
     repeat (refine ⟨obx, ?_⟩)
     refine hK _ ?_
     clear K' hK
     simp only [go_sem]
     refine ⟨i + 1, ⟨hlt, ?_⟩, by (show (nn + 1) - (i + 1) < (nn + 1) - i; omega), ?_⟩
     ·omega
     refine weak_eq [3,7,8,10,11,12] [[3, 0],[8, 0]] ?_ ?_ <;> simp only [go_sem, wrap_succ hlt hnm, csI, eN, eA]
    ·have hge : i = nn + 1 := by
      have : ¬ (i : Int) ≤ nn := by simpa using hb
      omega
     subst hge
     rw [Nat.add_sub_cancel] at hB hA
     subst hB hA
     refine cl_exit ?_
     simp only [go_sem]
     refine kp [10,11] [] ?_
     repeat refine sq ?_
     refine rsx hΓ [4,5] [] ?_
     refine cl_ret ?_
     simp only [go_sem]
     first | (rw [e, e2]; done) | (rw [e, e2]; rfl)
end
noncomputable section
def ouB (x : RV) (q : Nat) (day f : Int) : Bool := decide (retI x q f < 0) || decide ((rgAt x.ds (retI x q f).toNat).lo > day)
def baB (x : RV) (q : Nat) (day f : Int) : Bool := decide (retI x q f ≥ 0) && decide ((rgAt x.ds (retI x q f).toNat).hi ≤ day)
def lqE (l : Led) (a : Ask) : Int := if askI l [a.da, a.kn] = 0 then (if rxI l a.so a.kn < 0 then 3 else snE l a.kn) else askI l [a.da, a.kn]
def lqR (l : Led) (a : Ask) (q : Nat) : Int := if (rsAt l q).da > a.da then 0 else anR ((rsAt l q).lv.all (baB (snV l a.kn) q a.da)) ((rsAt l q).lv.any (ouB (snV l a.kn) q a.da))
def lqA (l : Led) (a : Ask) : Int := if lqE l a = 0 then lqR l a (rxI l a.so a.kn).toNat else 0
def K57 : List (Nat × Spec) := [(98, S98), (70, S70), (99, S99), (103, S103), (102, S102)]
theorem K57_sound : KS K57 := tc s98.sound <| tc s70.sound <| tc s99.sound <| tc s103.sound <| tc s102.sound <| tn
attribute [go_sem] K57
@[go_sem] def P31 : PSpec := p2 iL iAsk (fun _ _ => True) (fun l a => .tup [vInt (lqA l a), vInt (lqE l a)]) true
@[go_sem] def S31 : Spec := P31.toSpec
set_option maxHeartbeats 8000000 in
theorem s31 : PSound Tryz.prog 31 P31 := by
 refine wd2 (rs := [.tmp 4, .tmp 5]) Tryz.func31 Tryz.ntmps31 fun l a hp hw => ?_
 have hP := mixedK
 simp only [iAsk, iL, encL] at hw ⊢
 have hΓ := K57_sound
 repeat refine sq ?_
 refine rsx hΓ [2,3] [[2, 0],[3, 0]] ?_
 repeat refine sq ?_
 refine rsx hΓ [2,3,6] [[2, 0],[3, 0]] ?_
 repeat refine sq ?_
 refine rsx hΓ [2,3,6,23] [[2, 0],[3, 0]] ?_
 refine cnd (fun hb => ?_) fun hb => ?_
 ·repeat refine sq ?_
  have hc : ¬ askI l [a.da, a.kn] = 0 := by simpa using hb
  have e : lqE l a = askI l [a.da, a.kn] := by unfold lqE; rw [if_neg hc]
  have e2 : lqA l a = 0 := by unfold lqA; rw [e, if_neg hc]
  refine rsx hΓ [4,5] [] ?_
  refine cl_ret ?_
  simp only [go_sem]
  first | (rw [e, e2]; done) | (rw [e, e2]; rfl)
 ·have hc : askI l [a.da, a.kn] = 0 := by simpa using hb
  obtain ⟨hok, _⟩ := askI_ok hc
  have hv := snV_ok hok a.kn
  have hrn := hok.rsn
  refine cl_skip ?_
  rcases rx_cases l a.so a.kn with hrx | ⟨q, hq, hrx, -⟩
  ·repeat refine sq ?_
   refine rx hΓ [2,3,7] [[2, 0],[3, 0]] (fun K' hK => by simp only [go_sem, hrx]; (repeat (refine ⟨by first | exact obx | exact hrn, ?_⟩)); exact fn0) ?_
   repeat refine sq ?_
   refine rx hΓ [2,3,7,32] [[2, 0],[3, 0]] (fun K' hK => by simp only [go_sem, neg1_lt]; exact fnx) ?_
   refine cnd (fun hb => ?_) fun hb => ?_
   ·repeat refine sq ?_
    have e : lqE l a = 3 := by unfold lqE; rw [if_pos hc, hrx, if_pos (by decide)]
    have e2 : lqA l a = 0 := by unfold lqA; rw [e]; rfl
    refine rsx hΓ [4,5] [] ?_
    refine cl_ret ?_
    simp only [go_sem]
    first | (rw [e, e2]; done) | (rw [e, e2]; rfl)
   ·cases hb
  ·have hqn : decide ((q : Int) < 0) = false := by simp
   have hq' : (q : Int) < l.rs.length := by omega
   have erq := rsAt_at hq
   repeat refine sq ?_
   refine rx hΓ [2,3,7] [[2, 0],[3, 0]] (fun K' hK => by simp only [go_sem, hrx]; (repeat (refine ⟨by first | exact obx | exact hrn, ?_⟩)); exact fn0) ?_
   repeat refine sq ?_
   refine rx hΓ [2,3,7,32] [[2, 0],[3, 0]] (fun K' hK => by simp only [go_sem, hqn]; exact fnx) ?_
   refine cnd (fun hb => ?_) fun hb => ?_
   ·cases hb
   ·have e : lqE l a = snE l a.kn := by unfold lqE; rw [if_pos hc, hrx, if_neg (by omega)]
    refine cl_skip ?_
    repeat refine sq ?_
    refine rx hΓ [2,3,7,8,9] [[2, 0],[3, 0],[8, 0]] (fun K' hK => by simp only [go_sem]; (repeat (refine ⟨by first | exact obx | exact hok, ?_⟩)); exact fn0) ?_
    repeat refine sq ?_
    refine rsx hΓ [2,3,7,8,9,41] [[2, 0],[3, 0],[8, 0]] ?_
    refine cnd (fun hb => ?_) fun hb => ?_
    ·repeat refine sq ?_
     have hs : ¬ snE l a.kn = 0 := by simpa using hb
     have e2 : lqA l a = 0 := by unfold lqA; rw [e, if_neg hs]
     refine rsx hΓ [4,5] [] ?_
     refine cl_ret ?_
     simp only [go_sem]
     first | (rw [e, e2]; done) | (rw [e, e2]; rfl)
    ·have hs : snE l a.kn = 0 := by simpa using hb
     have e2 : lqA l a = lqR l a q := by unfold lqA; rw [e, if_pos hs, hrx, tnI]
     rw [hs] at e
     have hdl := snV_ds hs
     refine cl_skip ?_
     repeat refine sq ?_
     refine rx hΓ [3,7,8,10] [[3, 0],[8, 0],[10, 0]] (fun K' hK => by simp only [go_sem, map_getD hq, hq', tnI, nnI, List.length_map]; exact fnx) ?_
     repeat refine sq ?_
     refine rsx hΓ [3,7,8,10,52] [[3, 0],[8, 0],[10, 0]] ?_
     refine cnd (fun hb => ?_) fun hb => ?_
     ·repeat refine sq ?_
      have e3 : lqR l a q = 0 := by unfold lqR; rw [erq, if_pos (by simpa using hb)]
      rw [e3] at e2
      refine rsx hΓ [4,5] [] ?_
      refine cl_ret ?_
      simp only [go_sem]
      first | (rw [e, e2]; done) | (rw [e, e2]; rfl)
     ·have e3 : lqR l a q = anR (l.rs[q].lv.all (baB (snV l a.kn) q a.da)) (l.rs[q].lv.any (ouB (snV l a.kn) q a.da)) := by unfold lqR; rw [erq, if_neg (by simpa using hb)]
      rw [e3] at e2
      have hvl := okL_rlv hok hq
      have hvm : l.rs[q].lv.length ≤ maxLen := by unfold maxLen; omega
      refine cl_skip ?_
      repeat refine sq ?_
      refine rsx hΓ [3,7,8,10,11] [[3, 0],[8, 0],[10, 0]] ?_
      repeat refine sq ?_
      refine rsx hΓ [3,7,8,10,11,12] [[3, 0],[8, 0],[10, 0]] ?_
      repeat refine sq ?_
      refine rsx hΓ [3,7,8,10,11,12,13] [[3, 0],[8, 0],[10, 0]] ?_
      refine cl_block ?_
      refine cl_loop'  (fun s : Nat => [(13, ⟨true, .v (vInt s)⟩), (11, ⟨true, .v (.bool ((l.rs[q].lv.take s).any (ouB (snV l a.kn) q a.da)))⟩), (12, ⟨true, .v (.bool ((l.rs[q].lv.take s).all (baB (snV l a.kn) q a.da)))⟩)]) (fun s => []) (fun s => s ≤ l.rs[q].lv.length) (fun s => l.rs[q].lv.length - s) 0 ?_ ?_ ?_ ?_
      ·exact Nat.zero_le _
      ·rfl
      ·rfl
      rintro i hi
      generalize hB : (l.rs[q].lv.take i).any (ouB (snV l a.kn) q a.da) = B
      generalize hA : (l.rs[q].lv.take i).all (baB (snV l a.kn) q a.da) = A
      simp only [go_sem]
      repeat refine sq ?_
      refine rsx hΓ [3,7,8,10,11,12,13,57] [[3, 0],[8, 0],[10, 0]] ?_
      refine cnd (fun hb => ?_) fun hb => ?_
      ·have hlt : i < l.rs[q].lv.length := by simpa using hb
       have hlt' : (i : Int) < l.rs[q].lv.length := by omega
       clear hb
       refine cl_skip ?_
       repeat refine sq ?_
       refine cl_block ?_
       repeat refine sq ?_
       rcases ret_cases (snV l a.kn) q l.rs[q].lv[i] with hre | ⟨j, hj, hre⟩
       ·have hgd : decide ((-1 : Int) ≥ 0) = false := rfl
        have hjd' := hgd
        have hmj := hgd
        have eO : (l.rs[q].lv.take (i + 1)).any (ouB (snV l a.kn) q a.da) = true := by rw [any_take hlt, hB, ouB, hre]; simp
        have eA : (l.rs[q].lv.take (i + 1)).all (baB (snV l a.kn) q a.da) = false := by rw [all_take hlt, hA, baB, hre]; simp
        refine dx hΓ hP [[], [], [], [2], [], [2, 3, 4], [2, 3, 4, 5], u7, u8] [3,7,8,10,11,12,13,14] [[3, 0],[8, 0],[10, 0]] (by kernel_rfl) (fun K' hK => by simp only [go_sem, map_getD hlt, tnI, nnI, hlt', hre]; (repeat (refine ⟨by first | exact obx | exact ⟨⟨hv.1, hv.2.1⟩, by rw [snV_l]; exact hq'⟩, ?_⟩)); exact fd0) ?_
        repeat refine sq ?_
        refine dx hΓ hP [[], [0], [0, 1], [0, 1, 2], u4, u5, u6, u7, u6, [0, 1, 2, 3, 4, 5, 8], u10, u11, u12, u6, [0, 1, 2, 3, 4, 5, 13], u15, u16, u17] [3,7,8,10,11,12,13,14] [[3, 0],[8, 0],[10, 0]] (by kernel_rfl) (fun K' hK => by simp only [go_sem, neg1_lt, Bool.and_false, List.length_map]; exact fdx) ?_
        refine cl_d hΓ hP [[], [0], [0, 1], [0, 1, 2], u4, u5, u6, u7, u6, [0, 1, 2, 3, 4, 5, 8], u10, u11, u12, u6, [0, 1, 2, 3, 4, 5, 13], u15, u16, u17] (by kernel_rfl) fun K' hK => ?_
        simp only [go_sem, Bool.decide_eq_true, Bool.and_true, hmj, Bool.and_false, List.length_map]
        repeat (refine ⟨obx, ?_⟩)
        first | refine ⟨by rfl, ?_⟩ | skip
        refine hK _ ?_
        clear K' hK
        simp only [go_sem]
        refine kp [3,7,8,10,11,12,13] [[3, 0],[8, 0],[10, 0]] ?_
        refine cl_r hΓ fun K' hK => ?_
        simp only [go_sem]
        repeat (refine ⟨obx, ?_⟩)
        refine hK _ ?_
        clear K' hK
        simp only [go_sem]
        refine ⟨i + 1, hlt, by (show l.rs[q].lv.length - (i + 1) < l.rs[q].lv.length - i; omega), ?_⟩
        refine weak_eq [3,7,8,10,11,12,13] [[3, 0],[8, 0],[10, 0]] ?_ ?_ <;> simp only [go_sem, wrap_succ hlt hvm, csI, eO, eA]
       ·have hjd : j < (snV l a.kn).ds.length := by omega
        have hgd : ((snV l a.kn).ds.map encRg).getD j default = encRg (snV l a.kn).ds[j] := map_getD hjd
        have hjd' : (j : Int) < (snV l a.kn).ds.length := by omega
        have hjn : decide ((j : Int) < 0) = false := by simp
        have hjg : decide ((j : Int) ≥ 0) = true := by simp
        have hmj : (if (0 : Int) > (j : Int) then (0 : Int) else (j : Int)) = j := if_neg (by omega)
        have eO : (l.rs[q].lv.take (i + 1)).any (ouB (snV l a.kn) q a.da) = (B || decide ((snV l a.kn).ds[j].lo > a.da)) := by rw [any_take hlt, hB, ouB, hre, hjn, tnI, rgAt_at hjd, Bool.false_or]
        have eA : (l.rs[q].lv.take (i + 1)).all (baB (snV l a.kn) q a.da) = (A && decide ((snV l a.kn).ds[j].hi ≤ a.da)) := by rw [all_take hlt, hA, baB, hre, hjg, tnI, rgAt_at hjd, Bool.true_and]
        refine dx hΓ hP [[], [], [], [2], [], [2, 3, 4], [2, 3, 4, 5], u7, u8] [3,7,8,10,11,12,13,14] [[3, 0],[8, 0],[10, 0]] (by kernel_rfl) (fun K' hK => by simp only [go_sem, map_getD hlt, tnI, nnI, hlt', hre]; (repeat (refine ⟨by first | exact obx | exact ⟨⟨hv.1, hv.2.1⟩, by rw [snV_l]; exact hq'⟩, ?_⟩)); exact fd0) ?_
        repeat refine sq ?_
        refine dx hΓ hP [[], [0], [0, 1], [0, 1, 2], u4, u5, u6, u7, u6, [0, 1, 2, 3, 4, 5, 8], u10, u11, u12, u6, [0, 1, 2, 3, 4, 5, 13], u15, u16, u17] [3,7,8,10,11,12,13,14] [[3, 0],[8, 0],[10, 0]] (by kernel_rfl) (fun K' hK => by simp only [go_sem, tnI, nnI, hjn, hmj, hgd, hjd', tnI, nnI, List.length_map]; exact fdx) ?_
        refine cl_d hΓ hP [[], [0], [0, 1], [0, 1, 2], u4, u5, u6, u7, u6, [0, 1, 2, 3, 4, 5, 8], u10, u11, u12, u6, [0, 1, 2, 3, 4, 5, 13], u15, u16, u17] (by kernel_rfl) fun K' hK => ?_
        simp only [go_sem, tnI, nnI, Bool.decide_eq_true, decide_true, Bool.and_true, hmj, hgd, hjd', tnI, nnI, List.length_map]
        repeat (refine ⟨obx, ?_⟩)
        first | refine ⟨by rfl, ?_⟩ | skip
        refine hK _ ?_
        clear K' hK
        simp only [go_sem]
        refine kp [3,7,8,10,11,12,13] [[3, 0],[8, 0],[10, 0]] ?_
        refine cl_r hΓ fun K' hK => ?_
        simp only [go_sem]
        repeat (refine ⟨obx, ?_⟩)
        refine hK _ ?_
        clear K' hK
        simp only [go_sem]
        refine ⟨i + 1, hlt, by (show l.rs[q].lv.length - (i + 1) < l.rs[q].lv.length - i; omega), ?_⟩
        refine weak_eq [3,7,8,10,11,12,13] [[3, 0],[8, 0],[10, 0]] ?_ ?_ <;> simp only [go_sem, wrap_succ hlt hvm, csI, eO, eA]
      ·have hge : i = l.rs[q].lv.length := by
        have : ¬ (i : Int) < l.rs[q].lv.length := by simpa using hb
        omega
       clear hb
       subst hge
       rw [List.take_length] at hB hA
       subst hB hA
       refine cl_exit ?_
       simp only [go_sem]
       refine kp [11,12] [] ?_
       repeat refine sq ?_
       refine rsx hΓ [4,5] [] ?_
       refine cl_ret ?_
       simp only [go_sem]
       first | (rw [e, e2]; done) | (rw [e, e2]; rfl)
end
theorem ask_days (l : Led) (ds : List Int) : askI l ds = daysE l ds := by
 unfold askI daysE chkI
 cases h : okLB l with
 | false => rfl
 | true =>
  have h0 : (true = false) = False := by simp
  rw [if_neg (by decide), if_pos (show errI true 24 = 0 from rfl)]
  have : (!ds.any fun d => !dayB d) = ds.all dayB := by
   rw [List.not_any_eq_all_not]
   simp
  rw [this]
  unfold errI
  rfl
theorem sound_es {l : Led} {k : Int} : soundB l k = true ↔ eS l k = 0 := by
 cases h : soundB l k with
 | true => exact ⟨fun _ => (sound_yes h).2.2, fun _ => rfl⟩
 | false =>
  refine ⟨fun h => (by cases h), fun h2 => ?_⟩
  have := (sound_no h).2.2
  rw [h2] at this
  cases this
theorem rsn_l {l : Led} {a : Ask} {s : Nat} (h : dyAt l a s = -1) : ∀ j, j < s → dyB l a j = false := by
 induction s with
 | zero => intro j hj; omega
 | succ s ih =>
  rw [dyAt] at h
  split at h
  ·omega
  ·rename_i hb
   intro j hj
   rcases Nat.lt_succ_iff_lt_or_eq.1 hj with h5 | rfl
   ·exact ih h j h5
   ·simpa using hb
theorem ts_inj {l : Led} (h : OkL l) {i j : Nat} (hi : i < l.ts.length) (hj : j < l.ts.length) (e : (tsAt l i).so = (tsAt l j).so) : i = j := by
 have hs : srt Ret.so l.ts := okL_srt (allB_iff.1 h.ts)
 have e1 : tsAt l i = l.ts[i] := getD_at hi
 have e2 : tsAt l j = l.ts[j] := getD_at hj
 rw [e1, e2] at e
 rcases Nat.lt_trichotomy i j with h1 | h1 | h1
 ·have := hs i j hi hj h1; omega
 ·exact h1
 ·have := hs j i hj hi h1; omega
theorem ro_dy {l : Led} (hok : OkL l) (a : Ask) : (dyAt l a l.ts.length = -1 ∧ roK l a.so a.kn = none) ∨ ∃ j : Nat, dyAt l a l.ts.length = j ∧ roK l a.so a.kn = some (j : Int) ∧ telJ l a.kn j := by
 have hi := telI l a.kn
 have hro : roK l a.so a.kn = (lkTo l a.kn l.ts.length).ts.find? fun i => soAt l i == a.so := rfl
 rcases dyAt_cases l a l.ts.length with h | ⟨j, hj, h1, h2⟩
 ·refine .inl ⟨h, ?_⟩
  rw [hro, List.find?_eq_none]
  intro i hm
  have hb := hi.tl i hm
  obtain ⟨j, rfl⟩ : ∃ j : Nat, i = j := ⟨i.toNat, by omega⟩
  have hf := rsn_l h j (by omega)
  unfold dyB at hf
  rw [(hi.ts j).2 hm, Bool.true_and] at hf
  unfold soAt
  rw [Int.toNat_natCast, hf]
  decide
 ·unfold dyB at h2
  simp only [Bool.and_eq_true, beq_iff_eq] at h2
  refine .inr ⟨j, h1, ?_, h2.1⟩
  rw [hro]
  cases hf : (lkTo l a.kn l.ts.length).ts.find? fun i => soAt l i == a.so with
  | none =>
   rw [List.find?_eq_none] at hf
   have := hf j ((hi.ts j).1 h2.1)
   unfold soAt at this
   rw [Int.toNat_natCast, h2.2] at this
   exact absurd (beq_self_eq_true _) this
  | some i =>
   have hm := List.mem_of_find?_eq_some hf
   have he := List.find?_some hf
   have hb := hi.tl i hm
   obtain ⟨m, rfl⟩ : ∃ m : Nat, i = m := ⟨i.toNat, by omega⟩
   unfold soAt at he
   rw [Int.toNat_natCast, beq_iff_eq] at he
   have : m = j := ts_inj hok (by omega) hj (he.trans h2.2.symm)
   rw [this]
theorem dr_e (l : Led) (a : Ask) : drE l a = dayE l a.so a.kn := by
 unfold drE dayE roE
 rw [ask_days]
 by_cases hc : daysE l [a.kn] = 0
 ·rw [if_pos hc, if_pos hc]
  have hok := (daysE_ok hc).1
  rcases ro_dy hok a with ⟨h1, h2⟩ | ⟨j, h1, h2, -⟩
  ·rw [h1, h2, if_pos (by decide)]; rfl
  ·rw [h1, h2, if_neg (by omega)]
   show _ = if errI true 3 = 0 then eS l a.kn else errI true 3
   rw [if_pos (show errI true 3 = 0 from rfl), sn_es hok]
 ·rw [if_neg hc, if_neg hc, if_neg hc]
theorem dr_g (l : Led) (a : Ask) : drG l a = ⟨(dayRg l a.so a.kn).1, (dayRg l a.so a.kn).2⟩ := by
 have he := dr_e l a
 unfold drG dayRg
 by_cases hz : drE l a = 0
 ·rw [if_pos hz]
  have hz' := hz
  rw [he] at hz'
  have hro : roE l a.so a.kn = 0 := by
   unfold dayE at hz'
   split at hz'
   ·assumption
   ·exact hz'
  have hes : eS l a.kn = 0 := by
   unfold dayE at hz'
   rw [if_pos hro] at hz'
   exact hz'
  rw [if_pos ⟨hro, sound_es.2 hes⟩]
  obtain ⟨hok, -⟩ := roE_ok hro
  obtain ⟨-, hv, hr, -⟩ := sound_rel hok hes
  have hd0 : daysE l [a.kn] = 0 := by
   unfold roE at hro
   split at hro
   ·assumption
   ·exact hro
  unfold roI
  rw [if_pos hd0]
  unfold roE at hro
  rw [if_pos hd0] at hro
  rcases ro_dy hok a with ⟨h1, h2⟩ | ⟨j, h1, h2, h3⟩
  ·rw [h2] at hro; cases hro
  ·rw [h1, h2, Int.toNat_natCast, hv]
   exact (hr.2 j h3).1
 ·rw [if_neg hz, if_neg]
  rintro ⟨h1, h2⟩
  apply hz
  rw [he]
  unfold dayE
  rw [if_pos h1]
  exact sound_es.1 h2
theorem wr_e (l : Led) (a : Ask) : wrE l a = weE l ⟨a.pa, a.le⟩ a.da a.kn := by
 unfold wrE weE
 rw [ask_days]
 by_cases hc : daysE l [a.da, a.kn] = 0
 ·rw [if_pos hc, if_pos hc, sn_es (daysE_ok hc).1]; rfl
 ·rw [if_neg hc, if_neg hc]
theorem weE_ok {l : Led} {f : Fol} {day k : Int} (h : weE l f day k = 0) : OkL l ∧ eS l k = 0 := by
 unfold weE at h
 split at h
 ·rename_i hc
  refine ⟨(daysE_ok hc).1, ?_⟩
  split at h
  ·exact h
  ·cases h
 ·rename_i hc; exact (hc h).elim
theorem wr_l (l : Led) (a : Ask) : wrL l a = weL l ⟨a.pa, a.le⟩ a.da a.kn := by
 unfold wrL weL
 rw [wr_e]
 by_cases hc : weE l ⟨a.pa, a.le⟩ a.da a.kn = 0
 ·rw [if_pos hc, if_pos hc]
  obtain ⟨h1, h2⟩ := weE_ok hc
  exact wh_eq h1 h2 ⟨a.pa, a.le⟩ a.da
 ·rw [if_neg hc, if_neg hc]
theorem wq_e (l : Led) (a : Ask) : wqE l a = wlE l a.pa a.da a.kn := by
 unfold wqE wlE
 rw [ask_days]
 by_cases hc : daysE l [a.da, a.kn] = 0
 ·rw [if_pos hc, if_pos hc, sn_es (daysE_ok hc).1]
 ·rw [if_neg hc, if_neg hc]
theorem cnt_no {l : Led} (hok : OkL l) {k : Int} (h : eS l k = 0) (pa da : Int) : ∀ m, noTo (snV l k) pa da m = decide (cntTo (mayP (svK (lookV l k) k) pa da) m < m)
 | 0 => rfl
 | m + 1 => by
  rw [noTo, cnt_no hok h pa da m, wh_eq hok h]
  show (decide (cntTo (mayP (svK (lookV l k) k) pa da) m < m) || ((whK (svK (lookV l k) k) pa ((m + 1 : Nat) : Int) da).getD 0 0 != 0)) = decide (cntTo (mayP (svK (lookV l k) k) pa da) m + (if ((whK (svK (lookV l k) k) pa ((m + 1 : Nat) : Int) da).getD 0 0 == 0) = true then 1 else 0) < ((m + 1 : Nat) : Int))
  have hle := cntTo_le (mayP (svK (lookV l k) k) pa da) m
  by_cases hw : (whK (svK (lookV l k) k) pa ((m + 1 : Nat) : Int) da).getD 0 0 = 0
  ·rw [hw]
   simp only [bne_self_eq_false, Bool.or_false, beq_self_eq_true, if_true]
   exact decide_eq_decide.2 (by omega)
  ·have h1 : ((whK (svK (lookV l k) k) pa ((m + 1 : Nat) : Int) da).getD 0 0 != 0) = true := by simpa using hw
   have h2 : ((whK (svK (lookV l k) k) pa ((m + 1 : Nat) : Int) da).getD 0 0 == 0) = false := by simpa using hw
   rw [h1, h2, Bool.or_true]
   symm
   rw [decide_eq_true_eq]
   simp only [Bool.false_eq_true, if_false]
   omega
theorem cnt_al {l : Led} (hok : OkL l) {k : Int} (h : eS l k = 0) (pa da : Int) : ∀ m, (!noTo (snV l k) pa da m && alTo (snV l k) pa da m) = decide (cntTo (sureP (svK (lookV l k) k) pa da) m = m)
 | 0 => rfl
 | m + 1 => by
  have ih := cnt_al hok h pa da m
  rw [noTo, alTo, wh_eq hok h]
  show (!(noTo (snV l k) pa da m || (whK (svK (lookV l k) k) pa ((m + 1 : Nat) : Int) da).getD 0 0 != 0) && (alTo (snV l k) pa da m && ((whK (svK (lookV l k) k) pa ((m + 1 : Nat) : Int) da).length : Int) == 1)) =
   decide (cntTo (sureP (svK (lookV l k) k) pa da) m + (if ((whK (svK (lookV l k) k) pa ((m + 1 : Nat) : Int) da).getD 0 0 == 0 && ((whK (svK (lookV l k) k) pa ((m + 1 : Nat) : Int) da).length : Int) == 1) = true then 1 else 0) = ((m + 1 : Nat) : Int))
  have hle := cntTo_le (sureP (svK (lookV l k) k) pa da) m
  generalize hW : whK (svK (lookV l k) k) pa ((m + 1 : Nat) : Int) da = w at *
  generalize hL : ((w.length : Int) == 1) = L at *
  have e1 : (w.getD 0 0 != 0) = !(w.getD 0 0 == 0) := rfl
  rw [e1]
  generalize hZ : (w.getD 0 0 == 0) = Z at *
  have e2 : (!(noTo (snV l k) pa da m || !Z) && (alTo (snV l k) pa da m && L)) = ((!noTo (snV l k) pa da m && alTo (snV l k) pa da m) && (Z && L)) := by
   cases noTo (snV l k) pa da m <;> cases alTo (snV l k) pa da m <;> cases Z <;> cases L <;> rfl
  rw [e2, ih]
  cases (Z && L) with
  | true =>
   simp only [Bool.and_true, if_true]
   exact decide_eq_decide.2 (by omega)
  | false =>
   simp only [Bool.and_false, Bool.false_eq_true, if_false]
   symm
   rw [decide_eq_false_iff_not]
   omega
theorem wlE_ok {l : Led} {pa day k : Int} (h : wlE l pa day k = 0) : OkL l ∧ eS l k = 0 := by
 unfold wlE at h
 split at h
 ·rename_i hc
  refine ⟨(daysE_ok hc).1, ?_⟩
  split at h
  ·cases h
  ·exact h
 ·rename_i hc; exact (hc h).elim
theorem wq_a (l : Led) (a : Ask) : wqA l a = wlA l a.pa a.da a.kn := by
 unfold wqA wlA
 rw [wq_e]
 by_cases hc : wlE l a.pa a.da a.kn = 0
 ·rw [if_pos hc, if_pos hc]
  obtain ⟨h1, h2⟩ := wlE_ok hc
  have hl := (lvOf_rng h1 a.pa).1
  obtain ⟨nn, hnn⟩ : ∃ nn : Nat, lvOf l.ps a.pa = nn := ⟨(lvOf l.ps a.pa).toNat, by omega⟩
  rw [hnn, Int.toNat_natCast]
  have q1 := cnt_no h1 h2 a.pa a.da nn
  have q2 := cnt_al h1 h2 a.pa a.da nn
  unfold anR ansP
  cases hn : noTo (snV l a.kn) a.pa a.da nn with
  | true =>
   rw [hn] at q1 q2
   have q1' : cntTo (mayP (svK (lookV l a.kn) a.kn) a.pa a.da) nn < nn := by simpa using q1.symm
   have q2' : ¬ cntTo (sureP (svK (lookV l a.kn) a.kn) a.pa a.da) nn = nn := by simpa using q2.symm
   rw [if_neg q2', if_pos q1']; rfl
  | false =>
   rw [hn] at q1 q2
   have q1' : ¬ cntTo (mayP (svK (lookV l a.kn) a.kn) a.pa a.da) nn < nn := by rw [← decide_eq_false_iff_not]; exact q1.symm
   cases ha : alTo (snV l a.kn) a.pa a.da nn with
   | true =>
    rw [ha] at q2
    have q2' : cntTo (sureP (svK (lookV l a.kn) a.kn) a.pa a.da) nn = nn := of_decide_eq_true q2.symm
    rw [if_pos q2']; rfl
   | false =>
    rw [ha] at q2
    have q2' : ¬ cntTo (sureP (svK (lookV l a.kn) a.kn) a.pa a.da) nn = nn := by rw [← decide_eq_false_iff_not]; exact q2.symm
    rw [if_neg q2', if_neg q1']; rfl
 ·rw [if_neg hc, if_neg hc]
theorem rc_look (l : Led) (so k : Int) : rcOf (lookV l k).rs so = if rxI l so k < 0 then none else some (rsAt l (rxI l so k).toNat) := by rw [lookV_rs]; exact rc_rx l k so
theorem lq_e (l : Led) (a : Ask) : lqE l a = liE l a.so a.da a.kn := by
 unfold lqE liE
 rw [ask_days, rc_look]
 by_cases hc : daysE l [a.da, a.kn] = 0
 ·rw [if_pos hc, if_pos hc]
  by_cases hx : rxI l a.so a.kn < 0
  ·rw [if_pos hx, if_pos hx]
  ·rw [if_neg hx, if_neg hx, sn_es (daysE_ok hc).1]
 ·rw [if_neg hc, if_neg hc]
theorem li_f {l : Led} (hok : OkL l) {k : Int} (h : eS l k = 0) (q : Nat) (day f : Int) :
  ouB (snV l k) q day f = outB (svK (lookV l k) k) (rsAt l q) day f ∧ baB (snV l k) q day f = (!outB (svK (lookV l k) k) (rsAt l q) day f && !mbB (svK (lookV l k) k) (rsAt l q) day f) := by
 obtain ⟨-, hv, hr, hfi⟩ := sound_rel hok h
 rw [hv]
 unfold ouB baB outB mbB
 have e2 : (svK (lookV l k) k).bk = (lookV l k).bk := rfl
 rw [e2]
 show (decide (retI (rvOf l k) q f < 0) || decide ((rgAt (dyI l k).1 (retI (rvOf l k) q f).toNat).lo > day)) = _ ∧ (decide (retI (rvOf l k) q f ≥ 0) && decide ((rgAt (dyI l k).1 (retI (rvOf l k) q f).toNat).hi ≤ day)) = _
 rw [ret_bk]
 cases hbk : bkAt (lookV l k).bk ((rsAt l q).so, f) with
 | none => exact ⟨rfl, rfl⟩
 | some i =>
  obtain ⟨j, rfl, hj⟩ := bk_tel hbk
  obtain ⟨g1, -, -⟩ := hr.2 j hj
  have g2 := hfi j hj
  simp only [Option.getD_some, Int.toNat_natCast, g1]
  have hn : decide ((j : Int) < 0) = false := by simp
  have hg : decide ((j : Int) ≥ 0) = true := by simp
  rw [hn, hg, Bool.false_or, Bool.true_and]
  refine ⟨rfl, ?_⟩
  by_cases c2 : (dsAt (svK (lookV l k) k).ds j).2 ≤ day
  ·have c1 : ¬ (dsAt (svK (lookV l k) k).ds j).1 > day := by omega
   have c3 : ¬ (dsAt (svK (lookV l k) k).ds j).2 > day := by omega
   rw [decide_eq_true c2, decide_eq_false c1, decide_eq_false c3]; rfl
  ·have c3 : (dsAt (svK (lookV l k) k).ds j).2 > day := by omega
   rw [decide_eq_false c2, decide_eq_true c3]
   simp
theorem liE_ok {l : Led} {s day k : Int} (h : liE l s day k = 0) : OkL l ∧ eS l k = 0 ∧ ¬ rxI l s k < 0 := by
 unfold liE at h
 split at h
 ·rename_i hc
  rw [rc_look] at h
  by_cases hx : rxI l s k < 0
  ·rw [if_pos hx] at h; cases h
  ·rw [if_neg hx] at h
   exact ⟨(daysE_ok hc).1, h, hx⟩
 ·rename_i hc; exact (hc h).elim
theorem lq_a (l : Led) (a : Ask) : lqA l a = liA l a.so a.da a.kn := by
 unfold lqA liA
 rw [lq_e]
 by_cases hc : liE l a.so a.da a.kn = 0
 ·rw [if_pos hc, if_pos hc]
  obtain ⟨h1, h2, h3⟩ := liE_ok hc
  rw [rc_look, if_neg h3]
  show lqR l a (rxI l a.so a.kn).toNat = liK (svK (lookV l a.kn) a.kn) (rsAt l (rxI l a.so a.kn).toNat) a.da
  generalize (rxI l a.so a.kn).toNat = q
  unfold lqR liK
  by_cases hd : (rsAt l q).da > a.da
  ·rw [if_pos hd, if_pos hd]
  ·rw [if_neg hd, if_neg hd]
   have e1 : (rsAt l q).lv.any (ouB (snV l a.kn) q a.da) = (rsAt l q).lv.any (outB (svK (lookV l a.kn) a.kn) (rsAt l q) a.da) := by
    congr 1; funext f; exact (li_f h1 h2 q a.da f).1
   have e2 : (rsAt l q).lv.all (baB (snV l a.kn) q a.da) = (!(rsAt l q).lv.any (outB (svK (lookV l a.kn) a.kn) (rsAt l q) a.da) && !(rsAt l q).lv.any (mbB (svK (lookV l a.kn) a.kn) (rsAt l q) a.da)) := by
    have : baB (snV l a.kn) q a.da = fun f => (!outB (svK (lookV l a.kn) a.kn) (rsAt l q) a.da f && !mbB (svK (lookV l a.kn) a.kn) (rsAt l q) a.da f) := by funext f; exact (li_f h1 h2 q a.da f).2
    rw [this, List.not_any_eq_all_not, List.not_any_eq_all_not]
    rw [Bool.eq_iff_iff, Bool.and_eq_true, List.all_eq_true, List.all_eq_true, List.all_eq_true]
    simp only [Bool.and_eq_true]
    exact ⟨fun h => ⟨fun f hf => (h f hf).1, fun f hf => (h f hf).2⟩, fun h f hf => ⟨h.1 f hf, h.2 f hf⟩⟩
   rw [e1, e2]
   unfold anR two
   cases (rsAt l q).lv.any (outB (svK (lookV l a.kn) a.kn) (rsAt l q) a.da) <;> cases (rsAt l q).lv.any (mbB (svK (lookV l a.kn) a.kn) (rsAt l q) a.da) <;> rfl
 ·rw [if_neg hc, if_neg hc]
theorem he_e (l : Led) (a : Ask) : heE l a = wtE l a.pe a.da a.kn := by
 unfold heE wtE chkI
 cases h : okLB l with
 | false => rfl
 | true =>
  rw [if_pos rfl, if_pos (show errI true 24 = 0 from rfl), ask_days, sn_es (okLB_iff.1 h)]
theorem wtE_ok {l : Led} {pe day k : Int} (h : wtE l pe day k = 0) : OkL l ∧ eS l k = 0 := by
 unfold wtE chkI at h
 cases ho : okLB l with
 | false => rw [ho] at h; cases h
 | true =>
  rw [ho, if_pos (show errI true 24 = 0 from rfl)] at h
  refine ⟨okLB_iff.1 ho, ?_⟩
  split at h
  ·split at h
   ·exact h
   ·rename_i hc; exact (hc h).elim
  ·cases h
theorem he_l (l : Led) (a : Ask) (sure : Bool) : heL l a sure = wtL l a.pe a.da a.kn (if sure then 105 else 107, a.pe) := by
 unfold heL wtL
 rw [he_e]
 by_cases hc : wtE l a.pe a.da a.kn = 0
 ·rw [if_pos hc, if_pos hc]
  obtain ⟨h1, h2⟩ := wtE_ok hc
  congr 1
  funext f
  unfold heP foP heB isW
  rw [wh_eq h1 h2]
  generalize whK (svK (lookV l a.kn) a.kn) f.pa f.le a.da = w
  cases sure with
  | false => simp
  | true =>
   simp only [if_true, Bool.not_true, Bool.false_or]
   match w with
   | [] => simp
   | [x] =>
    by_cases h : x = a.pe
    ·subst h; simp
    ·have h' : ¬ a.pe = x := fun e => h e.symm
     simp [h, h']
   | x :: y :: r =>
    have : (((x :: y :: r).length : Int) == 1) = false := by rw [beq_eq_false_iff_ne]; simp; omega
    rw [this]; simp
 ·rw [if_neg hc, if_neg hc]
noncomputable section
theorem decFo_enc (x : Fol) : decFo (encFo x) = x := rfl
@[go_sem] theorem decFo_map (l : List Fol) : (l.map encFo).map decFo = l := map_dec decFo_enc l
theorem fo_eq {a b : Fol} (h : (a.pa == b.pa && a.le == b.le) = true) : a = b := by
 obtain ⟨p, q⟩ := a
 obtain ⟨r, s⟩ := b
 simp only [Bool.and_eq_true, beq_iff_eq] at h
 rw [h.1, h.2]
@[go_sem] def P36 : PSpec := p2 (iSl iFo) (iSl iFo) (fun _ _ => True) (fun a b => .bool (decide (a = b))) true
@[go_sem] def S36 : Spec := P36.toSpec
set_option maxHeartbeats 4000000 in
theorem s36 : PSound Tryz.prog 36 P36 := by
 refine wd2 (rs := [.tmp 4]) Tryz.func36 Tryz.ntmps36 fun a b hp hw => ?_
 have hP := mixedK
 simp only [iFo, iSl] at hw ⊢
 have hΓ := @no_sound Tryz.prog
 have hl : a.length ≤ maxLen := by have := hw.1.1; simpa using this
 repeat refine sq ?_
 refine rsx hΓ [0,1] [] ?_
 repeat refine sq ?_
 refine rsx hΓ [0,1,10] [] ?_
 refine cnd (fun hb => ?_) fun hb => ?_
 ·repeat refine sq ?_
  have hbad : a ≠ b := by
   rintro rfl
   simp at hb
  refine rsx hΓ [4] [] ?_
  refine cl_ret ?_
  simp only [go_sem]
  rw [decide_eq_false hbad]
 ·have hab : a.length = b.length := by
   have : (a.length : Int) = b.length := by simpa using hb
   omega
  clear hb
  refine cl_skip ?_
  repeat refine sq ?_
  refine rsx hΓ [0,1,5] [] ?_
  refine cl_block ?_
  refine cl_loop'  (fun s : Nat => [(5, ⟨true, .v (vInt s)⟩)]) (fun s => []) (fun s => s ≤ a.length ∧ sameTo a b s) (fun s => a.length - s) 0 ?_ ?_ ?_ ?_
  ·exact ⟨Nat.zero_le _, fun j _ _ h => by omega⟩
  ·rfl
  ·rfl
  rintro i ⟨hi, hR⟩
  simp only [go_sem]
  repeat refine sq ?_
  refine rsx hΓ [0,1,5,14] [] ?_
  refine cnd (fun hb => ?_) fun hb => ?_
  ·have hlt : i < a.length := by simpa using hb
   have hlt' : (i : Int) < a.length := by omega
   clear hb
   have hlb' : (i : Int) < b.length := by omega
   have hlb : i < b.length := by omega
   refine cl_skip ?_
   repeat refine sq ?_
   refine cl_block ?_
   repeat refine sq ?_
   refine dx hΓ hP [[], [], [0, 1], [0, 1, 2], [], [], [4, 5], [4, 5, 6], u8] [0,1,5,25] [] (by kernel_rfl) (fun K' hK => by simp only [go_sem, map_getD hlt, map_getD (show i < b.length by omega), tnI, nnI, hlt', hlb']; exact fdx) ?_
   refine cnd (fun hb => ?_) fun hb => ?_
   ·repeat refine sq ?_
    have hbad : a ≠ b := by
     rintro rfl
     simp at hb
    refine rsx hΓ [4] [] ?_
    refine cl_ret ?_
    simp only [go_sem]
    rw [decide_eq_false hbad]
   ·refine cl_skip ?_
    refine cl_nil ?_
    simp only [go_sem]
    refine kp [0,1,5] [] ?_
    refine cl_r hΓ fun K' hK => ?_
    simp only [go_sem]
    repeat (refine ⟨obx, ?_⟩)
    refine hK _ ?_
    clear K' hK
    simp only [go_sem]
    refine ⟨i + 1, ⟨hlt, ?_⟩, by (show a.length - (i + 1) < a.length - i; omega), ?_⟩
    ·exact sameTo_succ hR fun _ _ => fo_eq (by simpa using hb)
    refine weak_eq [0,1,5] [] ?_ ?_ <;> simp only [go_sem, wrap_succ hlt hl, csI]
  ·have hge : i = a.length := by
    have : ¬ (i : Int) < a.length := by simpa using hb
    omega
   clear hb
   subst hge
   refine cl_exit ?_
   simp only [go_sem]
   refine kp [] [] ?_
   repeat refine sq ?_
   refine rsx hΓ [4] [] ?_
   refine cl_ret ?_
   simp only [go_sem]
   rw [decide_eq_true (sameTo_end hab hR)]
end
noncomputable section
def loanT (f : FuncId) : Option SpecB :=
 match Nat.beq f 132 with
 | true => some (cloneB Tryz.prog 29)
 | false => match Nat.beq f 176 with
  | true => some (cloneB Tryz.prog 26)
  | false => match Nat.beq f 177 with
   | true => some (cloneB Tryz.prog 27)
   | false => match Nat.beq f 178 with
    | true => some (cloneB Tryz.prog 28)
    | false => match Nat.beq f 179 with
     | true => some cloneI
     | false => none
def keyBase (_ : FuncId → Option SpecB) (f : FuncId) : Option SpecB := loanT f
theorem clone179s : PSound Tryz.prog 179 pCloneI := cloneI_sound clone179 rfl
theorem keyBase_sound : ∀ Γ : FuncId → Option SpecB, (∀ f s, ofB Γ f = some s → SSound Tryz.prog f s) → ∀ f s, keyBase Γ f = some s → SSound Tryz.prog f s.spec := by
 intro Γ _ f s h
 unfold keyBase loanT at h
 split at h
 ·rename_i hb; have := Nat.eq_of_beq_eq_true hb; subst this; cases h; exact clone_sound clone132
 ·split at h
  ·rename_i hb; have := Nat.eq_of_beq_eq_true hb; subst this; cases h; exact clone_sound clone176
  ·split at h
   ·rename_i hb; have := Nat.eq_of_beq_eq_true hb; subst this; cases h; exact clone_sound clone177
   ·split at h
    ·rename_i hb; have := Nat.eq_of_beq_eq_true hb; subst this; cases h; exact clone_sound clone178
    ·split at h
     ·rename_i hb; have := Nat.eq_of_beq_eq_true hb; subst this; cases h; exact clone179s.sound
     ·cases h
def keyΓ (F : List Nat) (T : List Ent) : FuncId → Option SpecB := ΓB Tryz.prog (baseM Tryz.prog keyBase 100000 F T) 100000 24
theorem keyΓ_sound {F : List Nat} {T : List Ent} (hT : ∀ e ∈ T, Ran Tryz.prog e) : ∀ f s, ofB (keyΓ F T) f = some s → SSound Tryz.prog f s :=
 ΓB_sound (baseM_sound (fun Γ h f s => keyBase_sound Γ h f s) hT) 24
theorem key_ran {F : List Nat} {T : List Ent} (hT : ∀ e ∈ T, Ran Tryz.prog e) {e : Ent} (h : runE Tryz.prog (keyΓ F T) 100000 e = true) : Ran Tryz.prog e := runE_ok (keyΓ_sound hT) h
theorem ran_cons {P : Program} {e : Ent} {T : List Ent} (h : Ran P e) (hT : ∀ e ∈ T, Ran P e) : ∀ x ∈ e :: T, Ran P x := by
 intro x hx
 rcases List.mem_cons.1 hx with rfl | hx
 ·exact h
 ·exact hT x hx
def keT0 : List Ent := []
theorem keO0 : ∀ e ∈ keT0, Ran Tryz.prog e := fun e h => by cases h
end
end Go.Eng
