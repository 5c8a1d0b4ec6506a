import Derived.Test.YtckmfkgppohnmaaGreatDoorK8
/- Texts NDel to KB. -/
set_option linter.all false
set_option linter.unusedVariables false
namespace Go.Eng
open Go Go.Proofs Go.RowKit Go.Lib Go.Shelf
theorem run_clear_row {P : Program} (w : World) (t e ty : TypeId) (z : Value) (ht : P.underlying t = some (.slice e)) (hv : tZero P e = some z) (h1 : ∀ v ∈ z.cells.toList, v.oneCell' = true) (b o c : Nat)
    (hc : ∀ j, j < z.cells.size → (w.cell? ⟨b, o + j, none⟩).isSome = true) (hf : ∀ j, w.frozen? ⟨b, j, none⟩ = false) :
    (Builtin.clear_ #[t] ty #[.slice (some ⟨b, o, none⟩) 1 c]).run P w = .ok (.tuple #[]) (w.setCells b o z.cells.toList) := by
  have hzc : (Builtin.zeroCells z.cells 1).toList = z.cells.toList := by
    have : Builtin.zeroCells z.cells 1 = z.cells := by
      apply Array.ext
      · simp [Builtin.zeroCells]
      · intro i h1 h2
        simp [Builtin.zeroCells, Nat.mod_eq_of_lt h2]
        rw [getElem!_pos z.cells i h2]
    rw [this]
  have hst := run_storeCells_cells (P := P) b o z.cells.toList 0 w (by simpa using hc) (by simpa using fun j _ => hf (o + j)) h1
  simp only [Nat.add_zero] at hst
  simp [Builtin.clear_, run_underlying ht, run_zero hv, hzc, hst]
set_option maxHeartbeats 4000000 in
set_option maxRecDepth 100000 in
theorem del54 (b off n c i : Nat) (cs : List Value) (w : World) (hi : i < n) (hnc : n ≤ c) (hc63 : c ≤ 9223372036854775807) (hcl : cs.length = n * 1)
    (hcs : ∀ j v, cs[j]? = some v → w.cell? ⟨b, off + j, none⟩ = some v) (hfz : ∀ j, w.frozen? ⟨b, j, none⟩ = false) (h1c : ∀ v ∈ cs, v.oneCell' = true) :
    Calls Tryz.prog 54 #[.slice (some ⟨b, off, none⟩) n c, .int .i64 i, .int .i64 (i + 1)] w fun e w' =>
      e = .returned (.slice (some ⟨b, off, none⟩) (n - 1) c) ∧ w' = (w.drew.setCells b (off + i * 1) (cs.drop ((i + 1) * 1))).setCells b (off + (n - 1) * 1) (List.replicate 1 (.int .i64 0)) := by
  have mixed : Tryz.prog.follows Departure.mixedOrders = true := by kernel_rfl
  have hTE : tElem Tryz.prog 22 = some (3, 1, 8) := by kernel_rfl
  have hTZ : tZero Tryz.prog 3 = some (.int .i64 0) := by kernel_rfl
  obtain ⟨i0, hi0, hzs⟩ : ∃ i0, Tryz.prog.info? 3 = some i0 ∧ i0.size = 1 := by
    obtain ⟨hu, i0, h1, h2, h3⟩ := tElem_spec hTE
    exact ⟨i0, h1, h2⟩
  obtain ⟨news, hnews⟩ : ∃ news, news = cs.drop ((i + 1) * 1) := ⟨_, rfl⟩
  have hlen : news.length = (n - (i + 1)) * 1 := by rw [hnews, List.length_drop, hcl, Nat.sub_mul]
  have hsome : ∀ j, j < n * 1 → (w.cell? ⟨b, off + j, none⟩).isSome = true := fun j hj => by
    rw [hcs j _ (List.getElem?_eq_getElem (by omega))]; rfl
  obtain ⟨A, hA, hsrc⟩ : ∃ A : Addr, (if c = i + 1 then some (⟨b, off, none⟩ : Addr) else some ⟨b, off + (i + 1) * 1, none⟩) = some A ∧ Hid (∀ t u, news[t]? = some u → w.drew.cell? (A.add t) = some u) := by
    by_cases h : c = i + 1
    · refine ⟨⟨b, off, none⟩, by simp [h], fun t u hu => ?_⟩
      have h0 : news.length = 0 := by rw [hlen]; have : n - (i + 1) = 0 := by omega
                                      rw [this, Nat.zero_mul]
      rw [List.length_eq_zero_iff.1 h0] at hu
      simp at hu
    · refine ⟨⟨b, off + (i + 1) * 1, none⟩, by simp [h], fun t u hu => ?_⟩
      rw [Addr.add_lit, Nat.add_assoc]
      exact hcs _ _ (by rw [hnews, List.getElem?_drop] at hu; exact hu)
  have s1 : Hid (news.length = (n - (i + 1)) * 1) := hlen
  have s2 : Hid (∀ u ∈ news, u.oneCell' = true) := fun u hu => h1c u (List.mem_of_mem_drop (hnews ▸ hu))
  have s3 : Hid (∀ t, t < news.length → (w.drew.cell? ⟨b, off + i * 1 + t, none⟩).isSome = true ∧ w.drew.frozen? ⟨b, off + i * 1 + t, none⟩ = false) := by
    intro t ht
    rw [hlen] at ht
    refine ⟨?_, hfz _⟩
    rw [Nat.add_assoc]
    exact hsome _ (by omega)
  obtain ⟨W1, hW1⟩ : ∃ W1, W1 = w.drew.setCells b (off + i * 1) news := ⟨_, rfl⟩
  have hs1 : ∀ j, j < n * 1 → (W1.cell? ⟨b, off + j, none⟩).isSome = true := fun j hj => by
    rw [hW1]
    exact isSome_setCells b _ _ _ (fun t ht => (s3 t ht).1) _ (hsome j hj)
  have hcl2 : ∀ ty, (Builtin.clear_ #[22] ty #[.slice (some ⟨b, off + (i + (n - (i + 1))) * 1, none⟩) (n - (i + (n - (i + 1)))) (c - (i + (n - (i + 1))))]).run Tryz.prog W1 = .ok (.tuple #[]) (W1.setCells b (off + (i + (n - (i + 1))) * 1) (List.replicate 1 (.int .i64 0))) := fun ty => by
    have e : n - (i + (n - (i + 1))) = 1 := by omega
    rw [e]
    exact run_clear_row W1 22 3 ty _ Tryz.underlying22 hTZ (by decide) b _ _ (fun j hj => by rw [Nat.add_assoc]; exact hs1 _ (by have : j < 1 := hj; omega)) (fun j => by rw [hW1, World.frozen?_setCells]; exact hfz _)
  have hW : Hid (W1 = w.drew.setCells b (off + i * 1) news) := hW1
  rw [← hnews, ← hW1]
  have hic : i ≤ c := by omega
  have hjc : i + 1 ≤ c := by omega
  have hne : ¬ ((i : Int) = (i : Int) + 1) := by omega
  have hjn : i + 1 ≤ n := by omega
  have hp1 : (0 : Int) ≤ (i : Int) + 1 := by omega
  have hp2 : (i : Int) + 1 ≤ (n : Int) := by omega
  clear hW1 hs1 hsome hnews hlen
  simp only [Nat.mul_one] at hA hcl2
  go_enter Tryz.func54, Tryz.ntmps54
  go_wp2_with fail
  go_region_law_o (refine step_append_room rfl (.tmp 22) (.tmp 25) 22 rfl 3 i0 1 Tryz.underlying22 hi0 hzs b off i c (by simp [Act.eval, Act.put]) A (n - (i + 1)) (c - (i + 1)) news (by simp [Act.eval, Act.put]) s1.out hsrc.out s2.out (by omega) s3.out ?_; rw [← hW.out])
  go_wp2
  go_ret
  have e : n - 1 = i + (n - (i + 1)) := by omega
  rw [e, Nat.mul_one]
  exact ⟨rfl, rfl⟩
def zI : V := .int .i64 0
def aDel (obj : Name → Option O) : List D → R
  | [.msl nm k, .v (.int .i64 i), .v (.int .i64 j)] => match obj nm with
    | some (.arr sz l) => ⟨k = l.length ∧ sz = 1 ∧ 0 ≤ i ∧ j = i + 1 ∧ i.toNat < l.length, .v (.sl (l.eraseIdx i.toNat)), upd obj nm (some (.farr sz (l.eraseIdx i.toNat ++ [zI])))⟩
    | _ => .bad obj
  | _ => .bad obj
def delN : List D → List Name
  | [.msl nm _, _, _] => [nm]
  | _ => []
def S54 : Spec := ⟨fun obj _ ds => aDel obj ds, fun _ _ ds => delN ds, fun _ _ ds => delN ds⟩
theorem del_get {l : List V} {i q : Nat} (hi : i < l.length) (h : q < (l.eraseIdx i ++ [zI]).length) :
    (q < i ∧ ∃ h' : q < l.length, (l.eraseIdx i ++ [zI])[q] = l[q]) ∨ (i ≤ q ∧ ∃ h' : q + 1 < l.length, (l.eraseIdx i ++ [zI])[q] = l[q + 1]) ∨ (q + 1 = l.length ∧ (l.eraseIdx i ++ [zI])[q] = zI) := by
  have hl : (l.eraseIdx i).length = l.length - 1 := List.length_eraseIdx_of_lt hi
  have hq : q < l.length := by simp [hl] at h; omega
  by_cases h1 : q < l.length - 1
  · rw [List.getElem_append_left (by omega), List.getElem_eraseIdx]
    by_cases h2 : q < i
    · exact .inl ⟨h2, hq, by rw [dif_pos h2]⟩
    · exact .inr (.inl ⟨by omega, by omega, by rw [dif_neg h2]⟩)
  · refine .inr (.inr ⟨by omega, ?_⟩)
    rw [List.getElem_append_right (by omega)]
    simp
theorem del54_near : S54.Near := by
  refine ⟨fun obj obj2 t ds h => ?_, fun obj obj2 t ds h => rfl, fun obj t ds nm hn => hn, fun obj obj2 t ds h => rfl⟩
  simp only [S54] at h ⊢
  unfold aDel
  split
  · rename_i nm k i j
    have h' : obj2 nm = obj nm := h nm (by simp [delN])
    simp only [h']
    split
    · exact .one (by simp [delN]) h
    · exact .none _ h
  · exact .none _ h
set_option maxHeartbeats 1000000 in
theorem k54 : SSound Tryz.prog 54 S54 := by
  refine ⟨del54_near, fun _ args w => enter_of Tryz.func54 rfl (by kernel_rfl) args w, fun _ G φ m σ a w hC t ds us _ hl hr hok => ?_, fun e => (Nat.ne_of_lt (show (54 : Nat) < yid by decide) e).elim⟩
  simp only [S54, aDel] at hok ⊢
  split at hok
  case h_2 => exact hok.elim
  rename_i nm k i j
  simp only [List.length_cons, List.length_nil] at hl
  have r0 := hr 0 (by simp) (by omega)
  have r1 := hr 1 (by simp) (by omega)
  have r2 := hr 2 (by simp) (by omega)
  simp only [List.getElem_cons_zero, List.getElem_cons_succ] at r0 r1 r2
  have hus : us = #[us[0], us[1], us[2]] := by
    apply Array.ext
    · simp; omega
    · intro j h1 h2
      have : j = 0 ∨ j = 1 ∨ j = 2 := by omega
      rcases this with rfl | rfl | rfl <;> rfl
  rw [hus]
  generalize us[0] = u0 at r0
  generalize us[1] = u1 at r1
  generalize us[2] = u2 at r2
  clear hus hr hl us
  cases r1 with
  | v _ _ r1 =>
  cases r1 with
  | int _ _ =>
  cases r2 with
  | v _ _ r2 =>
  cases r2 with
  | int _ _ =>
  split at hok
  case h_2 => exact hok.elim
  rename_i sz l hnm
  obtain ⟨hk, hsz, hi0, hj, hil⟩ := hok
  subst hsz hj
  cases r0 with
  | msl _ _ _ hh hu' =>
  obtain ⟨o, nn, hnm', hlen, _, hval⟩ := hh
  rw [hnm] at hnm'; cases hnm'
  simp only [O.len?, Option.some.injEq] at hlen
  subst hlen
  have hv := hval hk
  subst hk
  obtain ⟨i, rfl⟩ : ∃ n : Nat, i = (n : Int) := ⟨i.toNat, by omega⟩
  simp only [Int.toNat_natCast] at hil ⊢
  rcases hC.objs nm _ hnm with ⟨_, hlnil⟩ | ⟨g0, g1, g2, g3, g4, us', T', f, g5, g6, g7, g8⟩
  · subst hlnil; simp at hil
  have hblk : (φ nm).blk < w.heap.size := (Array.getElem?_eq_some_iff.1 g5).1
  have hu0 : u0 = .slice (some ⟨(φ nm).blk, (φ nm).off, none⟩) l.length (φ nm).cap := by rw [hv]; simp only [Loc.slice, g0]; rfl
  subst hu0
  have hholds : holds φ σ.obj nm := ⟨_, hnm, rfl, g0⟩
  obtain ⟨c1, hc1⟩ : ∃ c1 : Nat → Nat → Value, ∀ q j, q < l.length → j < 1 → us'[(φ nm).off + q * 1 + j]? = some (c1 q j) := ⟨fun q j => (us'[(φ nm).off + q * 1 + j]?).getD undef, fun q j hq hj => by
    obtain ⟨c, x1, _⟩ := g8 q j hq (by rw [g3]; exact hj)
    simp only [x1, Option.getD_some]⟩
  have hr1 : ∀ q j (h : q < l.length) (h' : j < l[q].cells.length), RepV m l[q].cells[j] (c1 q j) := fun q j h h' => by
    obtain ⟨c, x1, x2⟩ := g8 q j h h'
    have := hc1 q j h (by rw [← g3 q h]; exact h')
    rw [x1] at this; cases this; exact x2
  have hcell1 : ∀ j v, (rowOf c1 l.length 1)[j]? = some v → w.cell? ⟨(φ nm).blk, (φ nm).off + j, none⟩ = some v := fun j v hjv => by
    have := rowOf_cell (w := w) (c := c1) (n := l.length) (sz := 1) (blk := (φ nm).blk) (o := (φ nm).off) (fun q j hq hj => by rw [cell?_of g5]; exact hc1 q j hq hj) j v hjv
    rwa [addr_add] at this
  have hone1 : ∀ v ∈ rowOf c1 l.length 1, v.oneCell' = true := by
    intro v hv
    simp only [rowOf, List.mem_map, List.mem_range] at hv
    obtain ⟨k, hk, rfl⟩ := hv
    obtain ⟨d1, d2⟩ := div_lt_of hk
    exact oneC_oneCell' ((hr1 _ _ d1 (by rw [g3]; exact d2)).one (g4 _ d1 _ (List.getElem_mem _)))
  refine (del54 (φ nm).blk (φ nm).off l.length (φ nm).cap i (rowOf c1 l.length 1) w hil g1 (by unfold maxLen at g2; omega) (rowOf_len _ _ _) hcell1 (fun j => frozen?_no g5 g6) hone1).mono ?_
  rintro e w' ⟨rfl, rfl⟩
  obtain ⟨us3, k1, k2, k3⟩ := setCells_heap (φ nm).blk T' f ((rowOf c1 l.length 1).drop ((i + 1) * 1)) ((φ nm).off + i * 1) w.drew us' g5
  obtain ⟨us4, k4, k5, k6⟩ := setCells_heap (φ nm).blk T' f (List.replicate 1 (.int .i64 0)) ((φ nm).off + (l.length - 1) * 1) (wset w.drew (φ nm).blk (.cells us3 T' f)) us3 (wset_same hblk)
  rw [k1, k4, wset_wset]
  have hL : (l.eraseIdx i ++ [zI]).length = l.length := by simp [List.length_eraseIdx_of_lt hil]; omega
  have hsize : ∀ q (h : q < (l.eraseIdx i ++ [zI]).length), (l.eraseIdx i ++ [zI])[q].cells.length = 1 := fun q h => by
    rcases del_get hil h with ⟨_, h', e⟩ | ⟨_, h', e⟩ | ⟨_, e⟩ <;> rw [e]
    · exact g3 _ _
    · exact g3 _ _
    · rfl
  have hones : ∀ q (h : q < (l.eraseIdx i ++ [zI]).length), ∀ x ∈ (l.eraseIdx i ++ [zI])[q].cells, x.one = true := fun q h => by
    rcases del_get hil h with ⟨_, h', e⟩ | ⟨_, h', e⟩ | ⟨_, e⟩ <;> rw [e]
    · exact g4 _ _
    · exact g4 _ _
    · intro x hx
      simp only [zI, V.cells, List.mem_cons, List.not_mem_nil, or_false, or_self] at hx
      subst hx; rfl
  have hcapm : l.length * 1 ≤ (φ nm).cap * 1 := Nat.mul_le_mul_right _ g1
  have hcells : ∀ q j (h : q < (l.eraseIdx i ++ [zI]).length) (h' : j < (l.eraseIdx i ++ [zI])[q].cells.length), ∃ c, us4[(φ nm).off + q * 1 + j]? = some c ∧ RepV m (l.eraseIdx i ++ [zI])[q].cells[j] c := by
    intro q j h h'
    have hq : q < l.length := by rw [← hL]; exact h
    have hj : j < 1 := by rw [← hsize q h]; exact h'
    rw [k6 _ (by rw [k2]; omega), k3 _ (by omega)]
    simp only [List.length_replicate, List.length_drop, rowOf_len]
    rcases del_get hil h with ⟨h1, h2, e⟩ | ⟨h1, h2, e⟩ | ⟨h1, e⟩
    · simp only [e] at h' ⊢
      rw [if_neg (by omega), if_neg (by omega)]
      exact ⟨_, hc1 q j h2 hj, hr1 q j h2 h'⟩
    · simp only [e] at h' ⊢
      rw [if_neg (by omega), if_pos (by omega), List.getElem?_drop, show (i + 1) * 1 + ((φ nm).off + q * 1 + j - ((φ nm).off + i * 1)) = (q + 1) * 1 + j by omega]
      exact ⟨_, rowOf_get c1 h2 hj, hr1 (q + 1) j h2 h'⟩
    · simp only [e] at h' ⊢
      rw [if_pos (by omega)]
      refine ⟨.int .i64 0, by rw [List.getElem?_replicate, if_pos (by omega)], ?_⟩
      have hz : zI.cells[j] = .int .i64 0 := by
        have : zI.cells = List.replicate 1 (.int .i64 0) := rfl
        simp only [this, List.getElem_replicate]
      rw [hz]
      exact .int _ _
  have hx := Ext.same (φ := φ) (o' := .arr 1 (l.eraseIdx i ++ [zI])) hnm (by simp only [O.len?, hL]) rfl
  have hC1 := hC.chg (w' := wset w.drew (φ nm).blk (.cells us4 T' f)) nm (.arr 1 (l.eraseIdx i ++ [zI])) (φ nm) hx ⟨rfl, rfl, rfl, by rw [wset_size]; exact Nat.le_refl _⟩
    (fun b' hb' hn => by
      rw [wset_ne (by rcases hn with h | h; · rw [g0] at h; cases h
                      · exact h)]
      rfl) (fun _ => .inr ⟨hholds, rfl⟩)
    (.inr ⟨g0, by rw [hL]; exact g1, g2, hsize, hones, us4, T', f, wset_same hblk, g6, by rw [k5, k2]; exact g7, hcells⟩)
  rw [upd_id] at hC1 hx
  obtain ⟨m', q1, q2, q3⟩ := hC1.frz1 nm (.arr 1 (l.eraseIdx i ++ [zI])) (.farr 1 (l.eraseIdx i ++ [zI])) (upd_same _ _ _) rfl g0 us4 T' f (wset_same hblk) rfl rfl rfl
    (fun m' hle hm' => .inr ⟨g0, ⟨by rw [hL]; exact g1, by rw [hL]; exact Nat.le_trans g1 g2⟩, hsize, hones, fun i j a b => let ⟨c, x, y⟩ := hcells i j a b; ⟨c, hm' _ _ x, y.mono hle⟩⟩)
  simp only [upd_upd] at q2
  have hx2 : Ext φ φ σ.obj (upd σ.obj nm (some (.farr 1 (l.eraseIdx i ++ [zI])))) := by
    have := Ext.same (φ := φ) (o' := .farr 1 (l.eraseIdx i ++ [zI])) hnm (by simp only [O.len?, hL]) rfl
    rwa [upd_id] at this
  refine ⟨_, φ, m', rfl, q2, .v _ _ ?_, hx2⟩
  have hel : (l.eraseIdx i).length = l.length - 1 := List.length_eraseIdx_of_lt hil
  rw [← hel]
  by_cases hnil : l.eraseIdx i = []
  · rw [hnil]; exact .slnil _ _
  · have hget : ∀ q (h : q < (l.eraseIdx i).length), (l.eraseIdx i ++ [zI])[q]'(by rw [List.length_append]; omega) = (l.eraseIdx i)[q] := fun q h => List.getElem_append_left h
    refine .sl _ _ _ _ 1 (fun q j => (us4[(φ nm).off + q * 1 + j]?).getD undef) hnil (by rw [hel]; omega) (by rw [hel]; omega) (fun q h => ?_) (fun q j h hj => ?_) (fun q j h hj => ?_) (fun q h => ?_)
    · rw [← hget q h]; exact hsize _ _
    · obtain ⟨c, x, y⟩ := hcells q j (by rw [List.length_append]; omega) (by rw [hsize]; exact hj)
      rw [x]; exact q3 _ _ x
    · have hg := hget q h
      simp only [← hg] at hj ⊢
      obtain ⟨c, x, y⟩ := hcells q j (by rw [List.length_append]; omega) hj
      rw [x]; exact y.mono q1
    · rw [← hget q h]; exact hones _ _
end Go.Eng
/- What the evaluation of lend's sane takes from elsewhere: clones, Delete, sums and texts. -/
set_option linter.unusedVariables false
namespace Go.Eng
open Go Go.Proofs
/-! texts and sums, so that the kernel can reckon them -/
def digF : Nat → Nat → List Nat → List Nat
  | 0, _, acc => acc
  | f + 1, n, acc => cond (Nat.blt n 10) ((48 + n) :: acc) (digF f (n / 10) ((48 + n % 10) :: acc))
theorem digF_eq : ∀ (f n : Nat) (acc : List Nat), n < 10 ^ (f + 1) → digF (f + 1) n acc = (Lib.decDigits n).map UInt8.toNat ++ acc
  | f, n, acc, h => by
    unfold digF
    by_cases h9 : n < 10
    · have hb : Nat.blt n 10 = true := by simpa [Nat.blt_eq] using h9
      have : (UInt8.ofNat (48 + n)).toNat = 48 + n := UInt8.toNat_ofNat_of_lt' (by show 48 + n < 256; omega)
      rw [hb, Lib.decDigits_one h9, List.map_cons, List.map_nil, this]
      rfl
    · have hb : Nat.blt n 10 = false := by
        cases hh : Nat.blt n 10 with
        | false => rfl
        | true => exact absurd (by simpa [Nat.blt_eq] using hh) h9
      have hm : n % 10 < 10 := Nat.mod_lt _ (by omega)
      have : (UInt8.ofNat (48 + n % 10)).toNat = 48 + n % 10 := UInt8.toNat_ofNat_of_lt' (by show 48 + n % 10 < 256; omega)
      rw [hb, dig_step (by omega), cond_false]
      match f, h with
      | 0, h => exact absurd h (by simpa using h9)
      | g + 1, h =>
        rw [digF_eq g (n / 10) _ (by rw [Nat.pow_succ] at h; omega), List.map_append, List.map_cons, List.map_nil, this, List.append_assoc]
        rfl
def lineN (w : List Nat) (l : List Int) : List Nat := w ++ (l.flatMap (fun n => 32 :: digF 8 n.toNat []) ++ [10])
def unN (i : Nat) (l : List Par) : List Nat := l.flatMap fun p => lineN [117, 110, 100, 101, 114] [(i : Int), p.no, p.pa]
def textN (s : Stk) : List Nat :=
  lineN [104, 111, 108, 100, 115] s.ho ++ (unN 0 s.un.a ++ (unN 1 s.un.b ++ (unN 2 s.un.c ++ (unN 3 s.un.d ++ (unN 4 s.un.e ++ (unN 5 s.un.f ++ (lineN [115, 101, 110, 116] [s.se.a, s.se.b, s.se.c, s.se.d, s.se.e, s.se.f] ++ lineN [116, 97, 107, 101, 110] [s.ta.a, s.ta.b, s.ta.c, s.ta.d, s.ta.e, s.ta.f])))))))
def bN (b : ByteArray) : List Nat := b.data.toList.map UInt8.toNat
theorem bN_app (a b : ByteArray) : bN (a ++ b) = bN a ++ bN b := by
  unfold bN
  rw [← List.map_append]
  congr 1
  all_goals simp
theorem bN_str (l : List UInt8) : bN (strV l) = l.map UInt8.toNat := by simp [bN, strV]
theorem flatN_eq : ∀ {l : List Int}, (∀ n ∈ l, okN n) → (l.flatMap (fun n => 32 :: Lib.itoa n)).map UInt8.toNat = l.flatMap (fun n => 32 :: digF 8 n.toNat [])
  | [], _ => rfl
  | n :: r, h => by
    obtain ⟨h0, h1⟩ := h n (by simp)
    rw [List.flatMap_cons, List.flatMap_cons, List.map_append, flatN_eq fun m hm => h m (by simp [hm]), List.map_cons, itoa_nn h0, digF_eq 7 n.toNat [] (by show n.toNat < 100000000; omega), List.append_nil]
    rfl
theorem lineN_eq {w : List UInt8} {l : List Int} (h : ∀ n ∈ l, okN n) : bN (lineV (strV w) l) = lineN (w.map UInt8.toNat) l := by
  have e : (strV w).data.toList = w := by simp [strV]
  rw [lineV_eq, bN_str]
  unfold lineN lineL linePre
  rw [List.take_length, List.map_append, List.map_append, List.append_assoc, flatN_eq h, e]
  rfl
theorem unN_eq {a : ByteArray} {i : Nat} (hi : i < 6) {l : List Par} (h : ∀ p ∈ l, okN p.no ∧ okN p.pa) : ∀ k, k ≤ l.length → bN (unV a i l k) = bN a ++ unN i (l.take k)
  | 0, _ => by simp [unV, unN]
  | k + 1, hk => by
    have hk' : k < l.length := by omega
    have hq := h _ (List.getElem_mem hk')
    have ht : l.take (k + 1) = l.take k ++ [l[k]] := by rw [List.take_add_one, List.getElem?_eq_getElem hk']; rfl
    rw [unV, bN_app, unN_eq hi h k (by omega), getD_in hk', ht]
    have : bN (lineV wUnder [(i : Int), l[k].no, l[k].pa]) = lineN [117, 110, 100, 101, 114] [(i : Int), l[k].no, l[k].pa] := lineN_eq (w := [117, 110, 100, 101, 114]) (ok3 hi hq)
    rw [this]
    unfold unN
    rw [List.flatMap_append, List.flatMap_cons, List.flatMap_nil, List.append_nil, List.append_assoc]
theorem outN_succ {s : Stk} (hs : okS s) {i : Nat} (hi : i < 6) : bN (outV s (i + 1)) = bN (outV s i) ++ unN i (s.un.get i) := by
  have := unN_eq (a := outV s i) hi (hs.un i hi) _ (Nat.le_refl _)
  rw [List.take_length] at this
  exact this
theorem textN_eq {s : Stk} (hs : okS s) : bN (textV s) = textN s := by
  unfold textV textN
  have h0 : bN (outV s 0) = lineN [104, 111, 108, 100, 115] s.ho := lineN_eq (w := [104, 111, 108, 100, 115]) hs.ho
  have h7 : bN (lineV wSent (s.se.L id)) = lineN [115, 101, 110, 116] [s.se.a, s.se.b, s.se.c, s.se.d, s.se.e, s.se.f] := lineN_eq (w := [115, 101, 110, 116]) (six_mem hs.se)
  have h8 : bN (lineV wTaken (s.ta.L id)) = lineN [116, 97, 107, 101, 110] [s.ta.a, s.ta.b, s.ta.c, s.ta.d, s.ta.e, s.ta.f] := lineN_eq (w := [116, 97, 107, 101, 110]) (six_mem hs.ta)
  rw [bN_app, bN_app, h7, h8, outN_succ hs (show 5 < 6 by omega), outN_succ hs (show 4 < 6 by omega), outN_succ hs (show 3 < 6 by omega), outN_succ hs (show 2 < 6 by omega), outN_succ hs (show 1 < 6 by omega), outN_succ hs (show 0 < 6 by omega), h0]
  simp only [List.append_assoc]
  rfl
def stepN (o c : Nat) : Nat := (257 * o + c + 1) % 1000003
def sumN (s : Stk) (n : Int) : Nat := (textN s).foldl stepN (n.toNat % 1000003)
theorem tmod_nat (a : Nat) : ((a : Int)).tmod 1000003 = ((a % 1000003 : Nat) : Int) := rfl
theorem sumTo_nat (b : ByteArray) (n : Nat) : ∀ i, i ≤ b.size → sumTo b n i = (((bN b).take i).foldl stepN (n % 1000003) : Nat)
  | 0, _ => by rw [List.take_zero]; rfl
  | i + 1, h => by
    have hl : (bN b).length = b.size := by simp [bN]
    have hi : i < (bN b).length := by omega
    have hd : i < b.data.size := h
    have hc : byteC b i = (bN b)[i] := by
      have e1 : (bN b)[i] = (b.data[i]).toNat := by simp [bN]
      have e2 : b.data.getD i 0 = b.data[i] := by
        unfold Array.getD
        rw [dif_pos hd]
        rfl
      rw [e1, ← e2]
      rfl
    rw [sumTo, sumTo_nat b n i (by omega), List.take_add_one, List.getElem?_eq_getElem hi, List.foldl_append, hc]
    have : (257 * ((((bN b).take i).foldl stepN (n % 1000003) : Nat) : Int) + ((bN b)[i] : Nat) + 1) = ((257 * (((bN b).take i).foldl stepN (n % 1000003)) + (bN b)[i] + 1 : Nat) : Int) := by simp
    rw [this, tmod_nat]
    rfl
theorem sumV_eq {s : Stk} {n : Int} (hs : okS s) (hn : okN n) : sumV s n = (sumN s n : Nat) := by
  obtain ⟨N, rfl⟩ : ∃ N : Nat, n = N := ⟨n.toNat, by have := hn.1; omega⟩
  unfold sumV sumN
  have hl : (bN (textV s)).length = (textV s).size := by simp [bN]
  rw [sumTo_nat _ _ _ (Nat.le_refl _), ← hl, List.take_length, textN_eq hs, Int.toNat_natCast]
/-! what a call is handed, as data -/
def rowV : Option O → Option (List V)
  | some (.arr _ l) => some l
  | some (.farr _ l) => some l
  | _ => none
def rd1 (obj : Name → Option O) : D → Option V
  | .v x => some x
  | .nilsl => some (.sl [])
  | .msl nm k => match rowV (obj nm) with
    | some l => cond (Nat.beq k l.length) (some (.sl l)) none
    | none => none
  | _ => none
def rdL (obj : Name → Option O) : List D → Option (List V)
  | [] => some []
  | d :: r => match rd1 obj d with
    | some x => match rdL obj r with
      | some xs => some (x :: xs)
      | none => none
    | none => none
def Like2 (obj obj2 : Name → Option O) : Prop := ∀ nm, rowV (obj2 nm) = rowV (obj nm)
theorem rd1_frz (n : Nat) {obj obj2 : Name → Option O} (h : Like2 obj obj2) {d : D} {x : V} (hx : rd1 obj d = some x) :
    (frz (n + 1) obj2 d).ok ∧ (frz (n + 1) obj2 d).x = x ∧ Like2 obj (frz (n + 1) obj2 d).obj := by
  cases d with
  | v y => cases hx; exact ⟨trivial, rfl, h⟩
  | nilsl => cases hx; exact ⟨trivial, rfl, h⟩
  | msl nm k =>
    have hnm := h nm
    unfold rd1 at hx
    cases ho : obj2 nm with
    | none =>
      rw [ho] at hnm
      have h0 : rowV (obj nm) = none := hnm.symm
      simp only [h0] at hx
      cases hx
    | some o =>
      rw [ho] at hnm
      cases o with
      | arr sz l =>
        have h0 : rowV (obj nm) = some l := hnm.symm
        simp only [h0] at hx
        cases hb : Nat.beq k l.length with
        | false => rw [hb] at hx; cases hx
        | true =>
          rw [hb] at hx
          cases hx
          have hk := Nat.eq_of_beq_eq_true hb
          simp only [frz, ho]
          refine ⟨hk, trivial, fun y => ?_⟩
          by_cases hy : y = nm
          · subst hy
            rw [upd_same]
            exact h0.symm
          · rw [upd_ne _ _ _ hy]
            exact h y
      | farr sz l =>
        have h0 : rowV (obj nm) = some l := hnm.symm
        simp only [h0] at hx
        cases hb : Nat.beq k l.length with
        | false => rw [hb] at hx; cases hx
        | true =>
          rw [hb] at hx
          cases hx
          simp only [frz, ho]
          exact ⟨Nat.eq_of_beq_eq_true hb, trivial, h⟩
      | _ =>
        have h0 : rowV (obj nm) = none := hnm.symm
        simp only [h0] at hx
        cases hx
  | _ => cases hx
theorem rdL_frz (n : Nat) {obj : Name → Option O} : ∀ {ds : List D} {xs : List V} {obj2 : Name → Option O}, Like2 obj obj2 → rdL obj ds = some xs →
    (frzL (frz (n + 1)) obj2 ds).ok ∧ (frzL (frz (n + 1)) obj2 ds).xs = xs ∧ Like2 obj (frzL (frz (n + 1)) obj2 ds).obj
  | [], xs, obj2, h, hx => by cases hx; exact ⟨trivial, rfl, h⟩
  | d :: r, xs, obj2, h, hx => by
    unfold rdL at hx
    split at hx
    · rename_i x hd
      split at hx
      · rename_i ys hr
        cases hx
        obtain ⟨a1, a2, a3⟩ := rd1_frz n h hd
        obtain ⟨b1, b2, b3⟩ := rdL_frz n a3 hr
        exact ⟨⟨a1, b1⟩, by simp only [frzL, a2, b2], b3⟩
      · cases hx
    · cases hx
def rdS (obj : Name → Option O) : D → Option (List V)
  | .agg l => rdL obj l
  | .v (.agg l) => some l
  | _ => none
theorem rdS_frz {obj : Name → Option O} {d : D} {L : List V} (h : rdS obj d = some L) : (frz 6 obj d).ok ∧ (frz 6 obj d).x = .agg L := by
  cases d with
  | agg l =>
    obtain ⟨a1, a2, _⟩ := rdL_frz 4 (fun _ => rfl) (show rdL obj l = some L from h)
    exact ⟨a1, by simp only [frz] at *; exact congrArg V.agg a2⟩
  | v y =>
    cases y with
    | agg l => cases h; exact ⟨trivial, rfl⟩
    | _ => cases h
  | _ => cases h
/-! the contracts that can be run -/
def okNb (n : Int) : Bool := decide (0 ≤ n) && decide (n ≤ 1000000)
theorem okNb_ok {n : Int} (h : okNb n = true) : okN n := by
  unfold okNb at h
  simp only [Bool.and_eq_true, decide_eq_true_eq] at h
  exact h
def six6 {α : Type} (s : Six α) (f : α → Bool) : Bool := f s.a && (f s.b && (f s.c && (f s.d && (f s.e && f s.f))))
theorem six6_ok {α : Type} {s : Six α} {f : α → Bool} (h : six6 s f = true) : ∀ i, i < 6 → f (s.get i) = true := by
  unfold six6 at h
  simp only [Bool.and_eq_true] at h
  obtain ⟨h0, h1, h2, h3, h4, h5⟩ := h
  intro i hi
  match i, hi with
  | 0, _ => exact h0
  | 1, _ => exact h1
  | 2, _ => exact h2
  | 3, _ => exact h3
  | 4, _ => exact h4
  | 5, _ => exact h5
def okSb (s : Stk) : Bool := Nat.ble s.ho.length 40 && (s.ho.all okNb && (six6 s.un (fun l => Nat.ble l.length 40 && l.all fun p => okNb p.no && okNb p.pa) && (six6 s.se okNb && six6 s.ta okNb)))
theorem okSb_ok {s : Stk} (h : okSb s = true) : okS s := by
  unfold okSb at h
  simp only [Bool.and_eq_true] at h
  obtain ⟨h1, h2, h3, h4, h5⟩ := h
  have h3' := six6_ok h3
  refine ⟨Nat.le_of_ble_eq_true h1, fun n hn => okNb_ok (List.all_eq_true.1 h2 n hn), fun i hi => ?_, fun i hi p hp => ?_, fun i hi => okNb_ok (six6_ok h4 i hi), fun i hi => okNb_ok (six6_ok h5 i hi)⟩
  · have := h3' i hi
    simp only [Bool.and_eq_true] at this
    exact Nat.le_of_ble_eq_true this.1
  · have := h3' i hi
    simp only [Bool.and_eq_true] at this
    have := List.all_eq_true.1 this.2 p hp
    simp only [Bool.and_eq_true] at this
    exact ⟨okNb_ok this.1, okNb_ok this.2⟩
/-- A sum, run. -/
noncomputable def sumB : SpecB where
  spec := P60.toSpec
  run obj t ds := match ds with
    | [d, .v (.int .i64 n)] => match rdS obj d with
      | some L => cond (okSb (decStL L) && (okNb n && vEqM 6 (.agg (stL (decStL L))) (.agg L))) (some ⟨.v (.int .i64 (sumN (decStL L) n : Nat)), fpL (fp 6 obj) ds, [], fun t => t⟩) none
      | none => none
    | _ => none
  ok := by
    intro obj t ds r hr
    split at hr
    · rename_i d n
      split at hr
      · rename_i L hL
        cases hb : (okSb (decStL L) && (okNb n && vEqM 6 (.agg (stL (decStL L))) (.agg L))) with
        | false => rw [hb] at hr; cases hr
        | true =>
          rw [hb] at hr
          cases hr
          simp only [Bool.and_eq_true] at hb
          obtain ⟨h1, h2, h3⟩ := hb
          replace h3 : stL (decStL L) = L := V.agg.inj (vEqM_ok 6 h3)
          obtain ⟨a1, a2⟩ := rdS_frz hL
          have hxs : (frzL (frz 6) obj [d, .v (.int .i64 n)]).xs = [.agg L, .int .i64 n] := by
            show [(frz 6 obj d).x, (frz 6 (frz 6 obj d).obj (.v (.int .i64 n))).x] = _
            rw [a2]; rfl
          have hok : (frzL (frz 6) obj [d, .v (.int .i64 n)]).ok := ⟨a1, trivial, trivial⟩
          have hpre : P60.pre [.agg L, .int .i64 n] := ⟨congrArg V.agg h3, rfl, okSb_ok h1, okNb_ok h2⟩
          have hfn : P60.fn [.agg L, .int .i64 n] = vInt (sumV (decStL L) n) := rfl
          refine ⟨?_, ?_, rfl, rfl, fun tbl h => h⟩
          · show _ ∧ P60.pre _
            rw [hxs]
            exact ⟨hok, hpre⟩
          · show D.v (P60.fn _) = _
            rw [hxs, hfn, sumV_eq (okSb_ok h1) (okNb_ok h2)]
      · cases hr
    · cases hr
theorem str_of {b : ByteArray} {l : List Nat} (h : bN b = l) : (⟨(l.map UInt8.ofNat).toArray⟩ : ByteArray) = b := by
  subst h
  apply ByteArray.ext
  unfold bN
  rw [List.map_map]
  have : (UInt8.ofNat ∘ UInt8.toNat) = id := by funext x; simp
  rw [this, List.map_id]
/-- A text, run. -/
noncomputable def textB : SpecB where
  spec := P91.toSpec
  run obj t ds := match ds with
    | [d] => match rdS obj d with
      | some L => cond (okSb (decStL L) && vEqM 6 (.agg (stL (decStL L))) (.agg L)) (some ⟨.v (.str ⟨((textN (decStL L)).map UInt8.ofNat).toArray⟩), fpL (fp 6 obj) ds, [], fun t => t⟩) none
      | none => none
    | _ => none
  ok := by
    intro obj t ds r hr
    split at hr
    · rename_i d
      split at hr
      · rename_i L hL
        cases hb : (okSb (decStL L) && vEqM 6 (.agg (stL (decStL L))) (.agg L)) with
        | false => rw [hb] at hr; cases hr
        | true =>
          rw [hb] at hr
          cases hr
          simp only [Bool.and_eq_true] at hb
          obtain ⟨h1, h3⟩ := hb
          replace h3 : stL (decStL L) = L := V.agg.inj (vEqM_ok 6 h3)
          obtain ⟨a1, a2⟩ := rdS_frz hL
          have hxs : (frzL (frz 6) obj [d]).xs = [.agg L] := by
            show [(frz 6 obj d).x] = _
            rw [a2]
          have hok : (frzL (frz 6) obj [d]).ok := ⟨a1, trivial⟩
          have hpre : P91.pre [.agg L] := ⟨congrArg V.agg h3, okSb_ok h1⟩
          have hfn : P91.fn [.agg L] = .str (textV (decStL L)) := rfl
          refine ⟨?_, ?_, rfl, rfl, fun tbl h => h⟩
          · show _ ∧ P91.pre _
            rw [hxs]
            exact ⟨hok, hpre⟩
          · show D.v (P91.fn _) = _
            rw [hxs, hfn, str_of (textN_eq (okSb_ok h1))]
      · cases hr
    · cases hr
/-- Delete, run. -/
noncomputable def delB : SpecB where
  spec := S54
  run obj t ds := match ds with
    | [.msl nm k, .v (.int .i64 i), .v (.int .i64 j)] => match obj nm with
      | some (.arr sz l) => cond (Nat.beq k l.length && (Nat.beq sz 1 && (decide (0 ≤ i) && (decide (j = i + 1) && Nat.blt i.toNat l.length)))) (some ⟨.v (.sl (l.eraseIdx i.toNat)), [nm], [nm], fun t => setT t nm (.farr sz (l.eraseIdx i.toNat ++ [zI]))⟩) none
      | _ => none
    | _ => none
  ok := by
    intro obj t ds r hr
    split at hr
    · rename_i nm k i j
      split at hr
      · rename_i sz l ho
        cases hb : (Nat.beq k l.length && (Nat.beq sz 1 && (decide (0 ≤ i) && (decide (j = i + 1) && Nat.blt i.toNat l.length)))) with
        | false => rw [hb] at hr; cases hr
        | true =>
          rw [hb] at hr
          cases hr
          simp only [Bool.and_eq_true, decide_eq_true_eq] at hb
          obtain ⟨h1, h2, h3, h4, h5⟩ := hb
          have h5' : i.toNat < l.length := by simpa [Nat.blt_eq] using h5
          simp only [S54, aDel, ho]
          refine ⟨⟨Nat.eq_of_beq_eq_true h1, Nat.eq_of_beq_eq_true h2, h3, h4, h5'⟩, trivial, rfl, rfl, fun tbl h => ?_⟩
          rw [lookT_setT, h]
      · cases hr
    · cases hr
end Go.Eng
/- The base of lend's evaluation. -/
namespace Go.Eng
open Go Go.Proofs
noncomputable def lendB (f : FuncId) : Option SpecB :=
  match Nat.beq f 76 with
  | true => some (cloneB Tryz.prog 23)
  | false => match Nat.beq f 77 with
    | true => some (cloneB Tryz.prog 22)
    | false => match Nat.beq f 60 with
      | true => some sumB
      | false => match Nat.beq f 91 with
        | true => some textB
        | false => match Nat.beq f 54 with
          | true => some delB
          | false => none
noncomputable def keyBase (_ : FuncId → Option SpecB) (f : FuncId) : Option SpecB := lendB f
theorem keyBase_sound : ∀ Γ : FuncId → Option SpecB, (∀ f s, ofB Γ f = some s → SSound Tryz.prog f s) → ∀ f s, keyBase Γ f = some s → SSound Tryz.prog f s.spec := by
  intro Γ _ f s h
  unfold keyBase lendB at h
  split at h
  · rename_i hb; have := Nat.eq_of_beq_eq_true hb; subst this; cases h; exact clone_sound clone76
  · split at h
    · rename_i hb; have := Nat.eq_of_beq_eq_true hb; subst this; cases h; exact clone_sound clone77
    · split at h
      · rename_i hb; have := Nat.eq_of_beq_eq_true hb; subst this; cases h; exact k60
      · split at h
        · rename_i hb; have := Nat.eq_of_beq_eq_true hb; subst this; cases h; exact s91.sound
        · split at h
          · rename_i hb; have := Nat.eq_of_beq_eq_true hb; subst this; cases h; exact k54
          · cases h
noncomputable def keyΓ (F : List Nat) (T : List Ent) : FuncId → Option SpecB := ΓB Tryz.prog (baseM Tryz.prog keyBase 100000 F T) 100000 24
theorem keyΓ_sound {F : List Nat} {T : List Ent} (hT : ∀ e ∈ T, Ran Tryz.prog e) : ∀ f s, ofB (keyΓ F T) f = some s → SSound Tryz.prog f s :=
  ΓB_sound (baseM_sound (fun Γ h f s => keyBase_sound Γ h f s) hT) 24
theorem key_ran {F : List Nat} {T : List Ent} (hT : ∀ e ∈ T, Ran Tryz.prog e) {e : Ent} (h : runE Tryz.prog (keyΓ F T) 100000 e = true) : Ran Tryz.prog e := runE_ok (keyΓ_sound hT) h
theorem ran_cons {P : Program} {e : Ent} {T : List Ent} (h : Ran P e) (hT : ∀ e ∈ T, Ran P e) : ∀ x ∈ e :: T, Ran P x := by
  intro x hx
  rcases List.mem_cons.1 hx with rfl | hx
  · exact h
  · exact hT x hx
def keT0 : List Ent := []
theorem keO0 : ∀ e ∈ keT0, Ran Tryz.prog e := fun e h => by cases h
end Go.Eng
