import Derived.Test.YtckmfkgppohnmaaGreatDoorK7
/- Texts NW9 to NW17. -/
set_option linter.all false
namespace Go.Eng
open Go Go.Proofs
/-! sums -/
attribute [go_sem, simp] bytes_len
def byteC (b : ByteArray) (i : Nat) : Nat := (b.data.getD i 0).toNat
theorem byteC_lt (b : ByteArray) (i : Nat) : byteC b i < 256 := (b.data.getD i 0).toNat_lt
theorem bytes_at {b : ByteArray} {i : Nat} (h : i < b.size) : (bytesV b).getD i default = .int .u8 (byteC b i : Nat) := by
  have h' : i < b.data.toList.length := by rw [Array.length_toList]; exact h
  have h1 : i < b.data.size := h
  unfold bytesV
  rw [getD_in (by rw [List.length_map]; exact h'), List.getElem_map, Array.getElem_toList]
  unfold byteC byteV
  have : b.data.getD i 0 = b.data[i] := by
    unfold Array.getD
    rw [dif_pos h1]
    rfl
  rw [this]
def sumTo (b : ByteArray) (n : Int) : Nat → Int
  | 0 => n.tmod 1000003
  | i + 1 => (257 * sumTo b n i + byteC b i + 1).tmod 1000003
def sumV (s : Stk) (n : Int) : Int := sumTo (textV s) n (textV s).size
theorem sumTo_rng {b : ByteArray} {n : Int} (hn : okN n) : ∀ i, 0 ≤ sumTo b n i ∧ sumTo b n i < 1000003
  | 0 => by
    have := hn.1
    exact ⟨Int.tmod_nonneg _ this, Int.tmod_lt_of_pos _ (by omega)⟩
  | i + 1 => by
    have h := sumTo_rng (b := b) hn i
    exact ⟨Int.tmod_nonneg _ (by omega), Int.tmod_lt_of_pos _ (by omega)⟩
theorem sum_step {b : ByteArray} {n : Int} (hn : okN n) (i : Nat) : IntKind.i64.wrap (257 * sumTo b n i) = 257 * sumTo b n i ∧ IntKind.i64.wrap (byteC b i : Nat) = (byteC b i : Nat) ∧
    IntKind.i64.wrap (257 * sumTo b n i + (byteC b i : Nat)) = 257 * sumTo b n i + (byteC b i : Nat) ∧ IntKind.i64.wrap (257 * sumTo b n i + (byteC b i : Nat) + 1) = 257 * sumTo b n i + (byteC b i : Nat) + 1 ∧
    IntKind.i64.wrap (sumTo b n (i + 1)) = sumTo b n (i + 1) ∧ (257 * sumTo b n i + (byteC b i : Nat) + 1).tmod 1000003 = sumTo b n (i + 1) := by
  have h := sumTo_rng (b := b) hn i
  have h2 := sumTo_rng (b := b) hn (i + 1)
  have hb := byteC_lt b i
  exact ⟨wrap_i64 (by omega) (by omega), wrap_i64 (by omega) (by omega), wrap_i64 (by omega) (by omega), wrap_i64 (by omega) (by omega), wrap_i64 (by omega) (by omega), rfl⟩
noncomputable def K9 : List (Nat × Spec) := [(91, S91), (92, S92)]
theorem K9_sound : ∀ f s, tbl K9 f = some s → SSound Tryz.prog f s := tc k91 <| tc k92 <| tn
attribute [go_sem] K9
noncomputable def P60 : PSpec := p2 iSt iI (fun s n => okS s ∧ okN n) (fun s n => vInt (sumV s n)) true
noncomputable def S60 : Spec := P60.toSpec
attribute [go_sem] P60 S60
set_option maxHeartbeats 4000000 in
theorem s60 : PSound Tryz.prog 60 P60 := by
  refine w2 (rs := [.tmp 4]) Tryz.func60 Tryz.ntmps60 (by rfl) (by kernel_rfl) (by decide) (fun _ _ _ => rfl) ⟨_, rfl, lb rfl, fun s n hp hw => ?_⟩
  have hP := mixedK
  simp only [iI, iSt] at hw ⊢
  have hΓ := K9_sound
  obtain ⟨hs, hn⟩ := hp
  have ht := textV_le hs
  have hl : (textV s).size ≤ maxLen := by unfold maxLen; omega
  repeat refine sq ?_
  refine rs hΓ [1,2] [[2, 0]] ?_
  refine cl_weakM (weakM_fboxk [2, 0] (stL s) rfl [1,2] [[2, 0]] ?_ rfl) ?_
  · simp only [go_sem]
  simp only [go_sem]
  repeat refine sq ?_
  refine rs hΓ [2,5] [[2, 0]] ?_
  repeat refine sq ?_
  refine rs hΓ [5,12,13,14] [] ?_
  repeat refine sq ?_
  refine cl_block ?_
  repeat refine sq ?_
  refine cl_loop'  (fun z : Nat => [(14, ⟨true, .v (vInt z)⟩), (5, ⟨true, .v (vInt (sumTo (textV s) n z))⟩)]) (fun z => []) (fun z => z ≤ (textV s).size) (fun z => (textV s).size - z) 0 ?_ ?_ ?_ ?_
  · exact Nat.zero_le _
  · rfl
  · rfl
  rintro i hi
  simp only [go_sem]
  repeat refine sq ?_
  refine rs hΓ [5,12,13,14,15] [] ?_
  repeat refine sq ?_
  refine cl_cond rfl rfl (fun hb => ?_) fun hb => ?_
  · skip
    have hlt : i < (textV s).size := by simpa using hb
    have hlt' : (i : Int) < (textV s).size := by omega
    clear hb
    obtain ⟨d1, d2, d3, d4, d5, d6⟩ := sum_step (b := textV s) hn i
    have hb := bytes_at hlt
    repeat refine sq ?_
    refine cl_skip ?_
    repeat refine sq ?_
    refine cl_block ?_
    repeat refine sq ?_
    refine rx hΓ [5,7,12,13,14] [] (fun K' hK => by simp only [go_sem, Int.toNat_natCast, Int.natCast_nonneg, hlt', hb, Int.toNat_natCast, Int.natCast_nonneg, hlt']; (repeat (refine ⟨ob, ?_⟩)); exact hK _ (by simp only [go_sem]) (by simp only [go_sem] <;> rfl)) ?_
    repeat refine sq ?_
    refine cl_r hΓ fun K' hK => ?_
    simp only [go_sem, Int.toNat_natCast, Int.natCast_nonneg, hlt', d1, d2, d3, d4, d5, d6]
    repeat refine ⟨ob, ?_⟩
    refine hK _ ?_
    clear K' hK
    simp only [go_sem]
    refine kp [5,12,13,14] [] ?_
    repeat refine sq ?_
    refine cl_r hΓ fun K' hK => ?_
    simp only [go_sem, Int.toNat_natCast, Int.natCast_nonneg, hlt']
    repeat refine ⟨ob, ?_⟩
    refine hK _ ?_
    clear K' hK
    simp only [go_sem]
    refine ⟨i + 1, hlt, by (show (textV s).size - (i + 1) < (textV s).size - i; omega), ?_⟩
    refine weak_eq [5,12,13,14] [] ?_ ?_
    · simp only [go_sem, wrap_succ hlt hl, Int.natCast_add, Int.natCast_one]
    · simp only [go_sem, wrap_succ hlt hl, Int.natCast_add, Int.natCast_one]
  · skip
    have hge : i = (textV s).size := by
      have : ¬ (i : Int) < (textV s).size := by simpa using hb
      omega
    clear hb
    subst hge
    repeat refine sq ?_
    refine cl_exit ?_
    simp only [go_sem]
    refine kp [5] [] ?_
    repeat refine sq ?_
    refine rs hΓ [4] [] ?_
    refine cl_ret ?_
    simp only [go_sem]
    first | rfl
theorem k60 : SSound Tryz.prog 60 S60 := s60.sound
noncomputable def P63 : PSpec := p2 iSt iI (fun s n => okS s ∧ okN n) (fun s n => vInt (sumV s n)) true
noncomputable def S63 : Spec := P63.toSpec
attribute [go_sem] P63 S63
set_option maxHeartbeats 4000000 in
theorem s63 : PSound Tryz.prog 63 P63 := by
  refine w2 (rs := [.tmp 4]) Tryz.func63 Tryz.ntmps63 (by rfl) (by kernel_rfl) (by decide) (fun _ _ _ => rfl) ⟨_, rfl, lb rfl, fun s n hp hw => ?_⟩
  have hP := mixedK
  simp only [iI, iSt] at hw ⊢
  have hΓ := K9_sound
  obtain ⟨hs, hn⟩ := hp
  have ht := textV_le hs
  have hl : (textV s).size ≤ maxLen := by unfold maxLen; omega
  repeat refine sq ?_
  refine rs hΓ [1,2] [[2, 0]] ?_
  refine cl_weakM (weakM_fboxk [2, 0] (stL s) rfl [1,2] [[2, 0]] ?_ rfl) ?_
  · simp only [go_sem]
  simp only [go_sem]
  repeat refine sq ?_
  refine rs hΓ [1,5] [] ?_
  repeat refine sq ?_
  refine rs hΓ [5,6] [] ?_
  repeat refine sq ?_
  refine rs hΓ [5,6,7] [] ?_
  repeat refine sq ?_
  refine cl_block ?_
  repeat refine sq ?_
  refine cl_loop'  (fun z : Nat => [(7, ⟨true, .v (vInt z)⟩), (6, ⟨true, .v (vInt (sumTo (textV s) n z))⟩)]) (fun z => []) (fun z => z ≤ (textV s).size) (fun z => (textV s).size - z) 0 ?_ ?_ ?_ ?_
  · exact Nat.zero_le _
  · rfl
  · rfl
  rintro i hi
  simp only [go_sem]
  repeat refine sq ?_
  refine rs hΓ [5,6,7,15] [] ?_
  repeat refine sq ?_
  refine cl_cond rfl rfl (fun hb => ?_) fun hb => ?_
  · skip
    have hlt : i < (textV s).size := by simpa using hb
    have hlt' : (i : Int) < (textV s).size := by omega
    clear hb
    obtain ⟨d1, d2, d3, d4, d5, d6⟩ := sum_step (b := textV s) hn i
    have hb : ((textV s).data.getD i 0).toNat = byteC (textV s) i := rfl
    repeat refine sq ?_
    refine cl_skip ?_
    repeat refine sq ?_
    refine cl_block ?_
    repeat refine sq ?_
    refine cl_r hΓ fun K' hK => ?_
    simp only [go_sem, Int.toNat_natCast, Int.natCast_nonneg, hlt', hb, Int.toNat_natCast, Int.natCast_nonneg, hlt', d1, d2, d3, d4, d5, d6]
    repeat refine ⟨ob, ?_⟩
    refine hK _ ?_
    clear K' hK
    simp only [go_sem]
    refine kp [5,6,7] [] ?_
    repeat refine sq ?_
    refine cl_r hΓ fun K' hK => ?_
    simp only [go_sem, Int.toNat_natCast, Int.natCast_nonneg, hlt']
    repeat refine ⟨ob, ?_⟩
    refine hK _ ?_
    clear K' hK
    simp only [go_sem]
    refine ⟨i + 1, hlt, by (show (textV s).size - (i + 1) < (textV s).size - i; omega), ?_⟩
    refine weak_eq [5,6,7] [] ?_ ?_
    · simp only [go_sem, wrap_succ hlt hl, Int.natCast_add, Int.natCast_one]
    · simp only [go_sem, wrap_succ hlt hl, Int.natCast_add, Int.natCast_one]
  · skip
    have hge : i = (textV s).size := by
      have : ¬ (i : Int) < (textV s).size := by simpa using hb
      omega
    clear hb
    subst hge
    repeat refine sq ?_
    refine cl_exit ?_
    simp only [go_sem]
    refine kp [6] [] ?_
    repeat refine sq ?_
    refine rs hΓ [4] [] ?_
    refine cl_ret ?_
    simp only [go_sem]
    first | rfl
theorem k63 : SSound Tryz.prog 63 S63 := s63.sound
/-! sums and pages -/
def smE (s : Stk) (n : Int) : Int := if someB s = true then (if inI n 0 99999 = true then 0 else 1) else 90
def smV (s : Stk) (n : Int) : Int := if someB s = true then (if inI n 0 99999 = true then sumV s n else 0) else 0
def pgB (me : Int) (p : Pg) : Bool := inI p.co 0 99999 && stkB me p.st && (p.su == sumV p.st p.co)
def pgE (me : Int) (p : Pg) : Int := if pgB me p = true then 0 else 91
theorem stkE_t {me : Int} {s : Stk} (h : stkB me s = true) : stkE me s = 0 := if_pos h
theorem stkE_f {me : Int} {s : Stk} (h : stkB me s = false) : stkE me s = 90 := if_neg (by rw [h]; decide)
theorem pgE_t {me : Int} {p : Pg} (h : pgB me p = true) : pgE me p = 0 := if_pos h
theorem pgE_f {me : Int} {p : Pg} (h : pgB me p = false) : pgE me p = 91 := if_neg (by rw [h]; decide)
theorem pgE_z {me : Int} {p : Pg} : (pgE me p == 0) = pgB me p := by
  cases h : pgB me p
  · rw [pgE_f h]; rfl
  · rw [pgE_t h]; rfl
theorem pgB_a {me : Int} {p : Pg} (h : inI p.co 0 99999 = false) : pgB me p = false := by unfold pgB; rw [h]; rfl
theorem pgB_b {me : Int} {p : Pg} (h : stkB me p.st = false) : pgB me p = false := by unfold pgB; rw [h, Bool.and_false]; rfl
theorem pgB_c {me : Int} {p : Pg} (h : inI p.co 0 99999 = true) (hk : stkB me p.st = true) : pgB me p = (p.su == sumV p.st p.co) := by unfold pgB; rw [h, hk]; rfl
noncomputable def K10 : List (Nat × Spec) := [(78, S78), (79, S79), (60, S60), (80, S80), (81, S81), (63, S63), (89, S89), (43, S43)]
theorem K10_sound : ∀ f s, tbl K10 f = some s → SSound Tryz.prog f s := tc k78 <| tc k79 <| tc k60 <| tc k80 <| tc k81 <| tc k63 <| tc k89 <| tc k43 <| tn
attribute [go_sem] K10
noncomputable def P35 : PSpec := p2 iSt iI (fun _ _ => True) (fun s n => .tup [vInt (smV s n), vInt (smE s n)]) true
noncomputable def S35 : Spec := P35.toSpec
attribute [go_sem] P35 S35
set_option maxHeartbeats 4000000 in
theorem s35 : PSound Tryz.prog 35 P35 := by
  refine w2 (rs := [.tmp 4, .tmp 5]) Tryz.func35 Tryz.ntmps35 (by rfl) (by kernel_rfl) (by decide) (fun _ _ _ => rfl) ⟨_, rfl, lb rfl, fun s n hp hw => ?_⟩
  have hP := mixedK
  simp only [iI, iSt] at hw ⊢
  have hΓ := K10_sound
  repeat refine sq ?_
  refine rs hΓ [1,2] [[2, 0]] ?_
  refine cl_weakM (weakM_fboxk [2, 0] (stL s) rfl [1,2] [[2, 0]] ?_ rfl) ?_
  · simp only [go_sem]
  simp only [go_sem]
  repeat refine sq ?_
  refine cl_block ?_
  repeat refine sq ?_
  refine rs hΓ [1,2,6] [[2, 0]] ?_
  repeat refine sq ?_
  refine cl_cond rfl rfl (fun hb => ?_) fun hb => ?_
  · skip
    repeat refine sq ?_
    have hb1 : someB s = false := by simpa using hb
    repeat refine sq ?_
    refine rs hΓ [4,5] [] ?_
    refine cl_ret ?_
    simp only [go_sem]
    first | (simp [smV, smE, hb1]; done) | (simp [smV, smE, hb1, hb2]; done)
  · skip
    repeat refine sq ?_
    have hb1 : someB s = true := by simpa using hb
    have hs := okS_some hb1
    repeat refine sq ?_
    refine rs hΓ [1,2,10] [[2, 0]] ?_
    repeat refine sq ?_
    refine cl_cond rfl rfl (fun hb => ?_) fun hb => ?_
    · skip
      repeat refine sq ?_
      have hb2 : inI n 0 99999 = false := by simpa using hb
      repeat refine sq ?_
      refine rs hΓ [4,5] [] ?_
      refine cl_ret ?_
      simp only [go_sem]
      first | (simp [smV, smE, hb1]; done) | (simp [smV, smE, hb1, hb2]; done)
    · skip
      repeat refine sq ?_
      have hb2 : inI n 0 99999 = true := by simpa using hb
      have hc : okS s ∧ okN n := ⟨hs, inI_ok hb2 (by omega) (by omega)⟩
      refine cl_skip ?_
      refine cl_nil ?_
      simp only [go_sem]
      refine kp [1,2] [[2, 0]] ?_
      repeat refine sq ?_
      refine rx hΓ [4,5] [] (fun K' hK => by simp only [go_sem]; (repeat (refine ⟨by first | exact hc | exact ob, ?_⟩)); exact hK _ (by simp only [go_sem]) (by simp only [go_sem] <;> rfl)) ?_
      refine cl_ret ?_
      simp only [go_sem]
      first | (simp [smV, smE, hb1]; done) | (simp [smV, smE, hb1, hb2]; done)
theorem k35 : SSound Tryz.prog 35 S35 := s35.sound
noncomputable def P36 : PSpec := p2 iSt iI (fun _ _ => True) (fun s n => .tup [vInt (smV s n), vInt (smE s n)]) true
noncomputable def S36 : Spec := P36.toSpec
attribute [go_sem] P36 S36
set_option maxHeartbeats 4000000 in
theorem s36 : PSound Tryz.prog 36 P36 := by
  refine w2 (rs := [.tmp 4, .tmp 5]) Tryz.func36 Tryz.ntmps36 (by rfl) (by kernel_rfl) (by decide) (fun _ _ _ => rfl) ⟨_, rfl, lb rfl, fun s n hp hw => ?_⟩
  have hP := mixedK
  simp only [iI, iSt] at hw ⊢
  have hΓ := K10_sound
  repeat refine sq ?_
  refine rs hΓ [1,2] [[2, 0]] ?_
  refine cl_weakM (weakM_fboxk [2, 0] (stL s) rfl [1,2] [[2, 0]] ?_ rfl) ?_
  · simp only [go_sem]
  simp only [go_sem]
  repeat refine sq ?_
  refine rs hΓ [1,2,9] [[2, 0]] ?_
  repeat refine sq ?_
  refine cl_cond rfl rfl (fun hb => ?_) fun hb => ?_
  · skip
    repeat refine sq ?_
    have hb1 : someB s = false := by simpa using hb
    repeat refine sq ?_
    refine rs hΓ [4,5] [] ?_
    refine cl_ret ?_
    simp only [go_sem]
    first | (simp [smV, smE, hb1]; done) | (simp [smV, smE, hb1, hb2]; done)
  · skip
    repeat refine sq ?_
    have hb1 : someB s = true := by simpa using hb
    have hs := okS_some hb1
    refine cl_skip ?_
    repeat refine sq ?_
    refine rs hΓ [1,2,12] [[2, 0]] ?_
    repeat refine sq ?_
    refine cl_cond rfl rfl (fun hb => ?_) fun hb => ?_
    · skip
      repeat refine sq ?_
      have hb2 : inI n 0 99999 = false := by simpa using hb
      repeat refine sq ?_
      refine rs hΓ [4,5] [] ?_
      refine cl_ret ?_
      simp only [go_sem]
      first | (simp [smV, smE, hb1]; done) | (simp [smV, smE, hb1, hb2]; done)
    · skip
      repeat refine sq ?_
      have hb2 : inI n 0 99999 = true := by simpa using hb
      have hc : okS s ∧ okN n := ⟨hs, inI_ok hb2 (by omega) (by omega)⟩
      refine cl_skip ?_
      repeat refine sq ?_
      refine rx hΓ [6] [] (fun K' hK => by simp only [go_sem]; (repeat (refine ⟨by first | exact hc | exact ob, ?_⟩)); exact hK _ (by simp only [go_sem]) (by simp only [go_sem] <;> rfl)) ?_
      repeat refine sq ?_
      refine rs hΓ [4,5] [] ?_
      refine cl_ret ?_
      simp only [go_sem]
      first | (simp [smV, smE, hb1]; done) | (simp [smV, smE, hb1, hb2]; done)
theorem k36 : SSound Tryz.prog 36 S36 := s36.sound
noncomputable def P90 : PSpec := p2 iI iPg (fun _ _ => True) (fun me p => .bool (pgB me p)) true
noncomputable def S90 : Spec := P90.toSpec
attribute [go_sem] P90 S90
set_option maxHeartbeats 4000000 in
theorem s90 : PSound Tryz.prog 90 P90 := by
  refine w2 (rs := [.tmp 4]) Tryz.func90 Tryz.ntmps90 (by rfl) (by kernel_rfl) (by decide) (fun _ _ _ => rfl) ⟨_, rfl, lb rfl, fun me p hp hw => ?_⟩
  have hP := mixedK
  simp only [iI, iPg] at hw ⊢
  have hΓ := K10_sound
  repeat refine sq ?_
  refine rs hΓ [0,3] [[3, 0]] ?_
  refine cl_weakM (weakM_fboxk [3, 0] (pgL p) rfl [0,3] [[3, 0]] ?_ rfl) ?_
  · simp only [go_sem]
  simp only [go_sem]
  rcases hc : inI p.co 0 99999 with _ | _; rotate_left; rcases hk : stkB me p.st with _ | _; rotate_left 2
  · skip
    repeat refine sq ?_
    refine dx hΓ hP [[], [0], [0, 1], [0, 1, 2], [0, 1, 2, 3], [0, 1, 2, 3], [0, 1, 2, 3, 5], [0, 1, 2, 3, 4, 5, 6], [0, 1, 2, 3, 4, 5, 6, 7], [0, 1, 2, 3, 4, 5, 6, 7, 8], [0, 1, 2, 3, 4, 5, 6, 7, 8, 9], [0, 1, 2, 3, 4, 5, 6, 7, 8, 9, 10], [0, 1, 2, 3, 4, 5, 6, 7, 8, 9], [0, 1, 2, 3, 4, 5, 6, 7, 8, 9, 12], [0, 1, 2, 3, 4, 5, 6, 7, 8, 9], [0, 1, 2, 3, 4, 5, 6, 7, 8, 9, 14], [0, 1, 2, 3, 4, 5, 6, 7, 8, 9, 12, 13, 14, 15], [0, 1, 2, 3, 4, 5, 6, 7, 8, 9, 10, 11, 12, 13, 14, 15, 16], [0, 1, 2, 3, 4, 5, 6, 7, 8, 9, 10, 11, 12, 13, 14, 15, 16, 17], [0, 1, 2, 3, 4, 5, 6, 7, 8, 9, 10, 11, 12, 13, 14, 15, 16, 17, 18]] [4] [] (by kernel_rfl) (fun K' hK => by simp only [go_sem, hc]; (repeat (refine ⟨by first | exact hcc | exact ob, ?_⟩)); (first | refine ⟨by rfl, ?_⟩ | skip); exact hK _ (by simp only [go_sem]) (by simp only [go_sem] <;> rfl)) ?_
    refine cl_ret ?_
    simp only [go_sem]
    first | (rw [pgB_a hc]; done) | (rw [pgB_b hk]; done) | (rw [pgB_c hc hk]; done) | (simp [pgB, hc, hk]; done)
  · skip
    repeat refine sq ?_
    refine dx hΓ hP [[], [0], [0, 1], [0, 1, 2], [0, 1, 2, 3], [0, 1, 2, 3], [0, 1, 2, 3, 5], [0, 1, 2, 3, 4, 5, 6], [0, 1, 2, 3, 4, 5, 6, 7], [0, 1, 2, 3, 4, 5, 6, 7, 8], [0, 1, 2, 3, 4, 5, 6, 7, 8, 9], [0, 1, 2, 3, 4, 5, 6, 7, 8, 9, 10], [0, 1, 2, 3, 4, 5, 6, 7, 8, 9], [0, 1, 2, 3, 4, 5, 6, 7, 8, 9, 12], [0, 1, 2, 3, 4, 5, 6, 7, 8, 9], [0, 1, 2, 3, 4, 5, 6, 7, 8, 9, 14], [0, 1, 2, 3, 4, 5, 6, 7, 8, 9, 12, 13, 14, 15], [0, 1, 2, 3, 4, 5, 6, 7, 8, 9, 10, 11, 12, 13, 14, 15, 16], [0, 1, 2, 3, 4, 5, 6, 7, 8, 9, 10, 11, 12, 13, 14, 15, 16, 17], [0, 1, 2, 3, 4, 5, 6, 7, 8, 9, 10, 11, 12, 13, 14, 15, 16, 17, 18]] [4] [] (by kernel_rfl) (fun K' hK => by simp only [go_sem, hc, hk]; (repeat (refine ⟨by first | exact hcc | exact ob, ?_⟩)); (first | refine ⟨by rfl, ?_⟩ | skip); exact hK _ (by simp only [go_sem]) (by simp only [go_sem] <;> rfl)) ?_
    refine cl_ret ?_
    simp only [go_sem]
    first | (rw [pgB_a hc]; done) | (rw [pgB_b hk]; done) | (rw [pgB_c hc hk]; done) | (simp [pgB, hc, hk]; done)
  · skip
    have hcc : okS p.st ∧ okN p.co := ⟨okS_of hk, inI_ok hc (by omega) (by omega)⟩
    repeat refine sq ?_
    refine dx hΓ hP [[], [0], [0, 1], [0, 1, 2], [0, 1, 2, 3], [0, 1, 2, 3], [0, 1, 2, 3, 5], [0, 1, 2, 3, 4, 5, 6], [0, 1, 2, 3, 4, 5, 6, 7], [0, 1, 2, 3, 4, 5, 6, 7, 8], [0, 1, 2, 3, 4, 5, 6, 7, 8, 9], [0, 1, 2, 3, 4, 5, 6, 7, 8, 9, 10], [0, 1, 2, 3, 4, 5, 6, 7, 8, 9], [0, 1, 2, 3, 4, 5, 6, 7, 8, 9, 12], [0, 1, 2, 3, 4, 5, 6, 7, 8, 9], [0, 1, 2, 3, 4, 5, 6, 7, 8, 9, 14], [0, 1, 2, 3, 4, 5, 6, 7, 8, 9, 12, 13, 14, 15], [0, 1, 2, 3, 4, 5, 6, 7, 8, 9, 10, 11, 12, 13, 14, 15, 16], [0, 1, 2, 3, 4, 5, 6, 7, 8, 9, 10, 11, 12, 13, 14, 15, 16, 17], [0, 1, 2, 3, 4, 5, 6, 7, 8, 9, 10, 11, 12, 13, 14, 15, 16, 17, 18]] [4] [] (by kernel_rfl) (fun K' hK => by simp only [go_sem, hc, hk]; (repeat (refine ⟨by first | exact hcc | exact ob, ?_⟩)); (first | refine ⟨by rfl, ?_⟩ | skip); exact hK _ (by simp only [go_sem]) (by simp only [go_sem] <;> rfl)) ?_
    refine cl_ret ?_
    simp only [go_sem]
    first | (rw [pgB_a hc]; done) | (rw [pgB_b hk]; done) | (rw [pgB_c hc hk]; done) | (simp [pgB, hc, hk]; done)
theorem k90 : SSound Tryz.prog 90 S90 := s90.sound
noncomputable def K10b : List (Nat × Spec) := [(90, S90)]
theorem K10b_sound : ∀ f s, tbl K10b f = some s → SSound Tryz.prog f s := tc k90 <| tn
attribute [go_sem] K10b
noncomputable def P44 : PSpec := p2 iI iPg (fun _ _ => True) (fun me p => vInt (pgE me p)) true
noncomputable def S44 : Spec := P44.toSpec
attribute [go_sem] P44 S44
theorem s44 : PSound Tryz.prog 44 P44 := by
  refine w2 (rs := [.tmp 4]) Tryz.func44 Tryz.ntmps44 (by rfl) (by kernel_rfl) (by decide) (fun _ _ _ => rfl) ⟨_, rfl, lb rfl, fun me p hp hw => ?_⟩
  have hP := mixedK
  simp only [iI, iPg] at hw ⊢
  have hΓ := K10b_sound
  repeat refine sq ?_
  refine rs hΓ [0,3] [[3, 0]] ?_
  refine cl_weakM (weakM_fboxk [3, 0] (pgL p) rfl [0,3] [[3, 0]] ?_ rfl) ?_
  · simp only [go_sem]
  simp only [go_sem]
  repeat refine sq ?_
  refine rs hΓ [8] [] ?_
  repeat refine sq ?_
  refine cl_cond rfl rfl (fun hb => ?_) fun hb => ?_
  · skip
    repeat refine sq ?_
    refine rs hΓ [4] [] ?_
    refine cl_ret ?_
    simp only [go_sem]
    first | (rw [pgE_f (by simpa using hb)]; done) | (rw [pgE_t (by simpa using hb)]; done)
  · skip
    repeat refine sq ?_
    refine cl_skip ?_
    repeat refine sq ?_
    refine rs hΓ [4] [] ?_
    refine cl_ret ?_
    simp only [go_sem]
    first | (rw [pgE_f (by simpa using hb)]; done) | (rw [pgE_t (by simpa using hb)]; done)
theorem k44 : SSound Tryz.prog 44 S44 := s44.sound
noncomputable def P45 : PSpec := p2 iI iPg (fun _ _ => True) (fun me p => vInt (pgE me p)) true
noncomputable def S45 : Spec := P45.toSpec
attribute [go_sem] P45 S45
set_option maxHeartbeats 4000000 in
theorem s45 : PSound Tryz.prog 45 P45 := by
  refine w2 (rs := [.tmp 4]) Tryz.func45 Tryz.ntmps45 (by rfl) (by kernel_rfl) (by decide) (fun _ _ _ => rfl) ⟨_, rfl, lb rfl, fun me p hp hw => ?_⟩
  have hP := mixedK
  simp only [iI, iPg] at hw ⊢
  have hΓ := K10_sound
  repeat refine sq ?_
  refine rs hΓ [0,3] [[3, 0]] ?_
  refine cl_weakM (weakM_fboxk [3, 0] (pgL p) rfl [0,3] [[3, 0]] ?_ rfl) ?_
  · simp only [go_sem]
  simp only [go_sem]
  rcases hc : inI p.co 0 99999 with _ | _; rotate_left; rcases hk : stkB me p.st with _ | _; rotate_left 2
  · skip
    repeat refine sq ?_
    refine dx hΓ hP [[], [0], [0, 1], [0, 1, 2], [0, 1, 2, 3], [0, 1, 2, 3, 4], [0, 1, 2, 3, 4], [0, 1, 2, 3, 4, 6], [0, 1, 2, 3, 4, 5, 6, 7], [0, 1, 2, 3, 4, 5, 6, 7, 8], [0, 1, 2, 3, 4, 5, 6, 7, 8, 9], [0, 1, 2, 3, 4, 5, 6, 7, 8, 9, 10], [0, 1, 2, 3, 4, 5, 6, 7, 8, 9, 10, 11], [0, 1, 2, 3, 4, 5, 6, 7, 8, 9, 10, 11, 12], [0, 1, 2, 3, 4, 5, 6, 7, 8, 9, 10, 11], [0, 1, 2, 3, 4, 5, 6, 7, 8, 9, 10, 11, 14], [0, 1, 2, 3, 4, 5, 6, 7, 8, 9, 10, 11], [0, 1, 2, 3, 4, 5, 6, 7, 8, 9, 10, 11, 16], [0, 1, 2, 3, 4, 5, 6, 7, 8, 9, 10, 11, 14, 15, 16, 17], [0, 1, 2, 3, 4, 5, 6, 7, 8, 9, 10, 11, 12, 13, 14, 15, 16, 17, 18], [0, 1, 2, 3, 4, 5, 6, 7, 8, 9, 10, 11, 12, 13, 14, 15, 16, 17, 18, 19]] [25] [] (by kernel_rfl) (fun K' hK => by simp only [go_sem, hc]; (repeat (refine ⟨by first | exact hcc | exact ob, ?_⟩)); (first | refine ⟨by rfl, ?_⟩ | skip); exact hK _ (by simp only [go_sem]) (by simp only [go_sem] <;> rfl)) ?_
    repeat refine sq ?_
    refine cl_cond rfl rfl (fun hb => ?_) fun hb => ?_
    · skip
      repeat refine sq ?_
      refine rx hΓ [4] [] (fun K' hK => by simp only [go_sem, hc]; (repeat (refine ⟨ob, ?_⟩)); exact hK _ (by simp only [go_sem]) (by simp only [go_sem] <;> rfl)) ?_
      refine cl_ret ?_
      simp only [go_sem]
      first | (exact absurd hb (by decide)) | (simp at hb; done) | (rw [pgE_f (pgB_a hc)]; done) | (rw [pgE_f (pgB_b hk)]; done) | (rw [pgE_f (by rw [pgB_c hc hk]; simpa using hb)]; done) | (rw [pgE_t (by rw [pgB_c hc hk]; simpa using hb)]; done)
    · skip
      repeat refine sq ?_
      refine cl_skip ?_
      repeat refine sq ?_
      refine rx hΓ [4] [] (fun K' hK => by simp only [go_sem, hc]; (repeat (refine ⟨ob, ?_⟩)); exact hK _ (by simp only [go_sem]) (by simp only [go_sem] <;> rfl)) ?_
      refine cl_ret ?_
      simp only [go_sem]
      first | (exact absurd hb (by decide)) | (simp at hb; done) | (rw [pgE_f (pgB_a hc)]; done) | (rw [pgE_f (pgB_b hk)]; done) | (rw [pgE_f (by rw [pgB_c hc hk]; simpa using hb)]; done) | (rw [pgE_t (by rw [pgB_c hc hk]; simpa using hb)]; done)
  · skip
    repeat refine sq ?_
    refine dx hΓ hP [[], [0], [0, 1], [0, 1, 2], [0, 1, 2, 3], [0, 1, 2, 3, 4], [0, 1, 2, 3, 4], [0, 1, 2, 3, 4, 6], [0, 1, 2, 3, 4, 5, 6, 7], [0, 1, 2, 3, 4, 5, 6, 7, 8], [0, 1, 2, 3, 4, 5, 6, 7, 8, 9], [0, 1, 2, 3, 4, 5, 6, 7, 8, 9, 10], [0, 1, 2, 3, 4, 5, 6, 7, 8, 9, 10, 11], [0, 1, 2, 3, 4, 5, 6, 7, 8, 9, 10, 11, 12], [0, 1, 2, 3, 4, 5, 6, 7, 8, 9, 10, 11], [0, 1, 2, 3, 4, 5, 6, 7, 8, 9, 10, 11, 14], [0, 1, 2, 3, 4, 5, 6, 7, 8, 9, 10, 11], [0, 1, 2, 3, 4, 5, 6, 7, 8, 9, 10, 11, 16], [0, 1, 2, 3, 4, 5, 6, 7, 8, 9, 10, 11, 14, 15, 16, 17], [0, 1, 2, 3, 4, 5, 6, 7, 8, 9, 10, 11, 12, 13, 14, 15, 16, 17, 18], [0, 1, 2, 3, 4, 5, 6, 7, 8, 9, 10, 11, 12, 13, 14, 15, 16, 17, 18, 19]] [25] [] (by kernel_rfl) (fun K' hK => by simp only [go_sem, hc, stkE_f hk]; (repeat (refine ⟨by first | exact hcc | exact ob, ?_⟩)); (first | refine ⟨by rfl, ?_⟩ | skip); exact hK _ (by simp only [go_sem]) (by simp only [go_sem] <;> rfl)) ?_
    repeat refine sq ?_
    refine cl_cond rfl rfl (fun hb => ?_) fun hb => ?_
    · skip
      repeat refine sq ?_
      refine rx hΓ [4] [] (fun K' hK => by simp only [go_sem, hc, stkE_f hk]; (repeat (refine ⟨ob, ?_⟩)); exact hK _ (by simp only [go_sem]) (by simp only [go_sem] <;> rfl)) ?_
      refine cl_ret ?_
      simp only [go_sem]
      first | (exact absurd hb (by decide)) | (simp at hb; done) | (rw [pgE_f (pgB_a hc)]; done) | (rw [pgE_f (pgB_b hk)]; done) | (rw [pgE_f (by rw [pgB_c hc hk]; simpa using hb)]; done) | (rw [pgE_t (by rw [pgB_c hc hk]; simpa using hb)]; done)
    · skip
      repeat refine sq ?_
      refine cl_skip ?_
      repeat refine sq ?_
      refine rx hΓ [4] [] (fun K' hK => by simp only [go_sem, hc, stkE_f hk]; (repeat (refine ⟨ob, ?_⟩)); exact hK _ (by simp only [go_sem]) (by simp only [go_sem] <;> rfl)) ?_
      refine cl_ret ?_
      simp only [go_sem]
      first | (exact absurd hb (by decide)) | (simp at hb; done) | (rw [pgE_f (pgB_a hc)]; done) | (rw [pgE_f (pgB_b hk)]; done) | (rw [pgE_f (by rw [pgB_c hc hk]; simpa using hb)]; done) | (rw [pgE_t (by rw [pgB_c hc hk]; simpa using hb)]; done)
  · skip
    have hcc : okS p.st ∧ okN p.co := ⟨okS_of hk, inI_ok hc (by omega) (by omega)⟩
    repeat refine sq ?_
    refine dx hΓ hP [[], [0], [0, 1], [0, 1, 2], [0, 1, 2, 3], [0, 1, 2, 3, 4], [0, 1, 2, 3, 4], [0, 1, 2, 3, 4, 6], [0, 1, 2, 3, 4, 5, 6, 7], [0, 1, 2, 3, 4, 5, 6, 7, 8], [0, 1, 2, 3, 4, 5, 6, 7, 8, 9], [0, 1, 2, 3, 4, 5, 6, 7, 8, 9, 10], [0, 1, 2, 3, 4, 5, 6, 7, 8, 9, 10, 11], [0, 1, 2, 3, 4, 5, 6, 7, 8, 9, 10, 11, 12], [0, 1, 2, 3, 4, 5, 6, 7, 8, 9, 10, 11], [0, 1, 2, 3, 4, 5, 6, 7, 8, 9, 10, 11, 14], [0, 1, 2, 3, 4, 5, 6, 7, 8, 9, 10, 11], [0, 1, 2, 3, 4, 5, 6, 7, 8, 9, 10, 11, 16], [0, 1, 2, 3, 4, 5, 6, 7, 8, 9, 10, 11, 14, 15, 16, 17], [0, 1, 2, 3, 4, 5, 6, 7, 8, 9, 10, 11, 12, 13, 14, 15, 16, 17, 18], [0, 1, 2, 3, 4, 5, 6, 7, 8, 9, 10, 11, 12, 13, 14, 15, 16, 17, 18, 19]] [25] [] (by kernel_rfl) (fun K' hK => by simp only [go_sem, hc, stkE_t hk]; (repeat (refine ⟨by first | exact hcc | exact ob, ?_⟩)); (first | refine ⟨by rfl, ?_⟩ | skip); exact hK _ (by simp only [go_sem]) (by simp only [go_sem] <;> rfl)) ?_
    repeat refine sq ?_
    refine cl_cond rfl rfl (fun hb => ?_) fun hb => ?_
    · skip
      repeat refine sq ?_
      refine rx hΓ [4] [] (fun K' hK => by simp only [go_sem, hc, stkE_t hk]; (repeat (refine ⟨ob, ?_⟩)); exact hK _ (by simp only [go_sem]) (by simp only [go_sem] <;> rfl)) ?_
      refine cl_ret ?_
      simp only [go_sem]
      first | (exact absurd hb (by decide)) | (simp at hb; done) | (rw [pgE_f (pgB_a hc)]; done) | (rw [pgE_f (pgB_b hk)]; done) | (rw [pgE_f (by rw [pgB_c hc hk]; simpa using hb)]; done) | (rw [pgE_t (by rw [pgB_c hc hk]; simpa using hb)]; done)
    · skip
      repeat refine sq ?_
      refine cl_skip ?_
      repeat refine sq ?_
      refine rx hΓ [4] [] (fun K' hK => by simp only [go_sem, hc, stkE_t hk]; (repeat (refine ⟨ob, ?_⟩)); exact hK _ (by simp only [go_sem]) (by simp only [go_sem] <;> rfl)) ?_
      refine cl_ret ?_
      simp only [go_sem]
      first | (exact absurd hb (by decide)) | (simp at hb; done) | (rw [pgE_f (pgB_a hc)]; done) | (rw [pgE_f (pgB_b hk)]; done) | (rw [pgE_f (by rw [pgB_c hc hk]; simpa using hb)]; done) | (rw [pgE_t (by rw [pgB_c hc hk]; simpa using hb)]; done)
theorem k45 : SSound Tryz.prog 45 S45 := s45.sound
/-! desks -/
def wetB (d : Dk) : Bool := if d.wet < 0 then (pgB d.me d.pa || pgB d.me d.pb) && !((pgB d.me d.pa && pgB d.me d.pb) && (d.pa.co == d.pb.co))
  else (pgB d.me d.pa && pgB d.me d.pb) && decide ((d.pg d.wet.toNat).co > (d.pg (1 - d.wet).toNat).co)
def hdD (d : Dk) : Bool := stkB d.me d.now && inI d.wet (-1) 1
def dkB (d : Dk) : Bool := hdD d && wetB d
def dkE (d : Dk) : Int := if dkB d = true then 0 else 92
theorem dkE_t {d : Dk} (h : dkB d = true) : dkE d = 0 := if_pos h
theorem dkE_f {d : Dk} (h : dkB d = false) : dkE d = 92 := if_neg (by rw [h]; decide)
@[go_sem] theorem dkL_20 (d : Dk) : (dkL d).getD 20 default = vInt d.pa.co := rfl
@[go_sem] theorem dkL_41 (d : Dk) : (dkL d).getD 41 default = vInt d.pb.co := rfl
theorem wr0 : IntKind.i64.wrap 0 = 0 := by decide
theorem wr1 : IntKind.i64.wrap 1 = 1 := by decide
theorem wetB_n {d : Dk} (h : d.wet < 0) : wetB d = ((pgB d.me d.pa || pgB d.me d.pb) && !((pgB d.me d.pa && pgB d.me d.pb) && (d.pa.co == d.pb.co))) := by
  unfold wetB; rw [if_pos h]
theorem wetB_0 {d : Dk} (h : d.wet = 0) : wetB d = ((pgB d.me d.pa && pgB d.me d.pb) && decide (d.pa.co > d.pb.co)) := by
  unfold wetB; rw [if_neg (by omega), h]; rfl
theorem wetB_1 {d : Dk} (h : d.wet = 1) : wetB d = ((pgB d.me d.pa && pgB d.me d.pb) && decide (d.pb.co > d.pa.co)) := by
  unfold wetB; rw [if_neg (by omega), h]; rfl
theorem hd_cond (d : Dk) : (!stkB d.me d.now || !inI d.wet (-1) 1) = !hdD d := by
  unfold hdD
  cases stkB d.me d.now <;> cases inI d.wet (-1) 1 <;> rfl
theorem stkE_nz {me : Int} {s : Stk} : (stkE me s != 0) = !stkB me s := by
  cases h : stkB me s
  · rw [stkE_f h]; rfl
  · rw [stkE_t h]; rfl
noncomputable def K11 : List (Nat × Spec) := [(89, S89), (98, S98), (90, S90)]
theorem K11_sound : ∀ f s, tbl K11 f = some s → SSound Tryz.prog f s := tc k89 <| tc k98 <| tc k90 <| tn
attribute [go_sem] K11
noncomputable def P74 : PSpec := p1 iDk (fun _ => True) (fun d => .bool (dkB d)) true
noncomputable def S74 : Spec := P74.toSpec
attribute [go_sem] P74 S74
set_option maxHeartbeats 4000000 in
theorem s74 : PSound Tryz.prog 74 P74 := by
  refine w1 (rs := [.tmp 2]) Tryz.func74 Tryz.ntmps74 (by rfl) (by kernel_rfl) (by decide) (fun _ _ => rfl) ⟨_, rfl, lb rfl, fun d hp hw => ?_⟩
  have hP := mixedK
  simp only [iDk] at hw ⊢
  have hΓ := K11_sound
  repeat refine sq ?_
  refine rs hΓ [1] [[1, 0]] ?_
  refine cl_weakM (weakM_fboxk [1, 0] (dkL d) rfl [1] [[1, 0]] ?_ rfl) ?_
  · simp only [go_sem]
  simp only [go_sem]
  repeat refine sq ?_
  refine rs hΓ [1,16] [[1, 0]] ?_
  repeat refine sq ?_
  refine cl_cond rfl rfl (fun hb => ?_) fun hb => ?_
  · skip
    repeat refine sq ?_
    have hbad : hdD d = false := by have := hd_cond d; rw [hb] at this; simpa using this.symm
    repeat refine sq ?_
    refine rs hΓ [2] [] ?_
    refine cl_ret ?_
    simp only [go_sem]
    first | (simp [dkB, hbad]; done) | (unfold dkB; rw [hgood, wetB_n hneg]; simp) | (unfold dkB; rw [hgood, wetB_0 hw0]; simp) | (unfold dkB; rw [hgood, wetB_1 hw0]; simp)
  · skip
    repeat refine sq ?_
    have hgood : hdD d = true := by have := hd_cond d; rw [hb] at this; simpa using this.symm
    have hi : inI d.wet (-1) 1 = true := by unfold hdD at hgood; rw [Bool.and_eq_true] at hgood; exact hgood.2
    refine cl_skip ?_
    repeat refine sq ?_
    refine dx hΓ hP [[], [0], [], [2], [2, 3], [0, 1, 2, 3, 4], [], [6], [], [8], [8, 9], [0, 1, 2, 3, 4, 5, 6, 7, 8, 9, 10], [0, 1, 2, 3, 4, 5, 6, 7, 8, 9, 10, 11], [0, 1, 2, 3, 4, 5, 6, 7, 8, 9, 10, 11, 12]] [1,3,4] [[1, 0]] (by kernel_rfl) (fun K' hK => by simp only [go_sem, Int.cast_ofNat_Int, Int.reduceToNat, Int.toNat_one, Int.toNat_zero, Nat.reduceMul, Nat.reduceAdd, Nat.zero_mul, Nat.one_mul, Nat.add_zero]; (repeat (refine ⟨ob, ?_⟩)); (first | refine ⟨by rfl, ?_⟩ | skip); exact hK _ (by simp only [go_sem]) (by simp only [go_sem] <;> rfl)) ?_
    repeat refine sq ?_
    refine rs hΓ [1,3,4,31] [[1, 0]] ?_
    repeat refine sq ?_
    refine cl_cond rfl rfl (fun hb => ?_) fun hb => ?_
    · skip
      repeat refine sq ?_
      have hneg : d.wet < 0 := by simpa using hb
      repeat refine sq ?_
      refine rx hΓ [2] [] (fun K' hK => by simp only [go_sem, Int.cast_ofNat_Int, Int.reduceToNat, Int.toNat_one, Int.toNat_zero, Nat.reduceMul, Nat.reduceAdd, Nat.zero_mul, Nat.one_mul, Nat.add_zero]; (repeat (refine ⟨ob, ?_⟩)); exact hK _ (by simp only [go_sem]) (by simp only [go_sem] <;> rfl)) ?_
      refine cl_ret ?_
      simp only [go_sem]
      first | (simp [dkB, hbad]; done) | (unfold dkB; rw [hgood, wetB_n hneg]; simp) | (unfold dkB; rw [hgood, wetB_0 hw0]; simp) | (unfold dkB; rw [hgood, wetB_1 hw0]; simp)
    · skip
      repeat refine sq ?_
      have hge : ¬ d.wet < 0 := by simpa using hb
      have hwx : d.wet = 0 ∨ d.wet = 1 := by have := inI_iff.1 hi; omega
      refine cl_skip ?_
      rcases hwx with hw0 | hw0
      · skip
        repeat refine sq ?_
        refine dx hΓ hP [[], [0], [0, 1], [0, 1, 2], [0, 1, 2, 3], [0, 1, 2, 3, 4], [0, 1, 2, 3, 4, 5], [0, 1, 2, 3, 4], [0, 1, 2, 3, 4, 5, 6, 7], [0, 1, 2, 3, 4, 5, 6, 7, 8], [0, 1, 2, 3, 4, 5, 6, 7, 8, 9], [0, 1, 2, 3, 4], [0, 1, 2, 3, 4, 11], [0, 1, 2, 3, 4, 11, 12], [0, 1, 2, 3, 4], [0, 1, 2, 3, 4, 11, 12, 13, 14], [0, 1, 2, 3, 4, 11, 12, 13, 14, 15], [0, 1, 2, 3, 4, 11, 12, 13, 14, 15, 16], [0, 1, 2, 3, 4, 5, 6, 7, 8, 9, 10, 11, 12, 13, 14, 15, 16, 17], [0, 1, 2, 3, 4, 5, 6, 7, 8, 9, 10, 11, 12, 13, 14, 15, 16, 17, 18], [0, 1, 2, 3, 4, 5, 6, 7, 8, 9, 10, 11, 12, 13, 14, 15, 16, 17, 18, 19]] [2] [] (by kernel_rfl) (fun K' hK => by simp only [go_sem, hw0, wr0, wr1, Int.sub_self, Int.sub_zero, Int.cast_ofNat_Int, Int.reduceToNat, Int.toNat_one, Int.toNat_zero, Nat.reduceMul, Nat.reduceAdd, Nat.zero_mul, Nat.one_mul, Nat.add_zero]; (repeat (refine ⟨ob, ?_⟩)); (first | refine ⟨by rfl, ?_⟩ | skip); exact hK _ (by simp only [go_sem]) (by simp only [go_sem] <;> rfl)) ?_
        refine cl_ret ?_
        simp only [go_sem]
        first | (simp [dkB, hbad]; done) | (unfold dkB; rw [hgood, wetB_n hneg]; simp) | (unfold dkB; rw [hgood, wetB_0 hw0]; simp) | (unfold dkB; rw [hgood, wetB_1 hw0]; simp)
      · skip
        repeat refine sq ?_
        refine dx hΓ hP [[], [0], [0, 1], [0, 1, 2], [0, 1, 2, 3], [0, 1, 2, 3, 4], [0, 1, 2, 3, 4, 5], [0, 1, 2, 3, 4], [0, 1, 2, 3, 4, 5, 6, 7], [0, 1, 2, 3, 4, 5, 6, 7, 8], [0, 1, 2, 3, 4, 5, 6, 7, 8, 9], [0, 1, 2, 3, 4], [0, 1, 2, 3, 4, 11], [0, 1, 2, 3, 4, 11, 12], [0, 1, 2, 3, 4], [0, 1, 2, 3, 4, 11, 12, 13, 14], [0, 1, 2, 3, 4, 11, 12, 13, 14, 15], [0, 1, 2, 3, 4, 11, 12, 13, 14, 15, 16], [0, 1, 2, 3, 4, 5, 6, 7, 8, 9, 10, 11, 12, 13, 14, 15, 16, 17], [0, 1, 2, 3, 4, 5, 6, 7, 8, 9, 10, 11, 12, 13, 14, 15, 16, 17, 18], [0, 1, 2, 3, 4, 5, 6, 7, 8, 9, 10, 11, 12, 13, 14, 15, 16, 17, 18, 19]] [2] [] (by kernel_rfl) (fun K' hK => by simp only [go_sem, hw0, wr0, wr1, Int.sub_self, Int.sub_zero, Int.cast_ofNat_Int, Int.reduceToNat, Int.toNat_one, Int.toNat_zero, Nat.reduceMul, Nat.reduceAdd, Nat.zero_mul, Nat.one_mul, Nat.add_zero]; (repeat (refine ⟨ob, ?_⟩)); (first | refine ⟨by rfl, ?_⟩ | skip); exact hK _ (by simp only [go_sem]) (by simp only [go_sem] <;> rfl)) ?_
        refine cl_ret ?_
        simp only [go_sem]
        first | (simp [dkB, hbad]; done) | (unfold dkB; rw [hgood, wetB_n hneg]; simp) | (unfold dkB; rw [hgood, wetB_0 hw0]; simp) | (unfold dkB; rw [hgood, wetB_1 hw0]; simp)
theorem k74 : SSound Tryz.prog 74 S74 := s74.sound
noncomputable def K11b : List (Nat × Spec) := [(74, S74)]
theorem K11b_sound : ∀ f s, tbl K11b f = some s → SSound Tryz.prog f s := tc k74 <| tn
attribute [go_sem] K11b
noncomputable def P23 : PSpec := p1 iDk (fun _ => True) (fun d => vInt (dkE d)) true
noncomputable def S23 : Spec := P23.toSpec
attribute [go_sem] P23 S23
theorem s23 : PSound Tryz.prog 23 P23 := by
  refine w1 (rs := [.tmp 2]) Tryz.func23 Tryz.ntmps23 (by rfl) (by kernel_rfl) (by decide) (fun _ _ => rfl) ⟨_, rfl, lb rfl, fun d hp hw => ?_⟩
  have hP := mixedK
  simp only [iDk] at hw ⊢
  have hΓ := K11b_sound
  repeat refine sq ?_
  refine rs hΓ [1] [[1, 0]] ?_
  refine cl_weakM (weakM_fboxk [1, 0] (dkL d) rfl [1] [[1, 0]] ?_ rfl) ?_
  · simp only [go_sem]
  simp only [go_sem]
  repeat refine sq ?_
  refine rs hΓ [5] [] ?_
  repeat refine sq ?_
  refine cl_cond rfl rfl (fun hb => ?_) fun hb => ?_
  · skip
    repeat refine sq ?_
    refine rs hΓ [2] [] ?_
    refine cl_ret ?_
    simp only [go_sem]
    first | (rw [dkE_f (by simpa using hb)]; done) | (rw [dkE_t (by simpa using hb)]; done)
  · skip
    repeat refine sq ?_
    refine cl_skip ?_
    repeat refine sq ?_
    refine rs hΓ [2] [] ?_
    refine cl_ret ?_
    simp only [go_sem]
    first | (rw [dkE_f (by simpa using hb)]; done) | (rw [dkE_t (by simpa using hb)]; done)
theorem k23 : SSound Tryz.prog 23 S23 := s23.sound
noncomputable def K11c : List (Nat × Spec) := [(43, S43), (86, S86), (45, S45)]
theorem K11c_sound : ∀ f s, tbl K11c f = some s → SSound Tryz.prog f s := tc k43 <| tc k86 <| tc k45 <| tn
attribute [go_sem] K11c
noncomputable def P39 : PSpec := p1 iDk (fun _ => True) (fun d => vInt (dkE d)) true
noncomputable def S39 : Spec := P39.toSpec
attribute [go_sem] P39 S39
set_option maxHeartbeats 4000000 in
theorem s39 : PSound Tryz.prog 39 P39 := by
  refine w1 (rs := [.tmp 2]) Tryz.func39 Tryz.ntmps39 (by rfl) (by kernel_rfl) (by decide) (fun _ _ => rfl) ⟨_, rfl, lb rfl, fun d hp hw => ?_⟩
  have hP := mixedK
  simp only [iDk] at hw ⊢
  have hΓ := K11c_sound
  repeat refine sq ?_
  refine rs hΓ [1] [[1, 0]] ?_
  refine cl_weakM (weakM_fboxk [1, 0] (dkL d) rfl [1] [[1, 0]] ?_ rfl) ?_
  · simp only [go_sem]
  simp only [go_sem]
  repeat refine sq ?_
  refine rx hΓ [1,16] [[1, 0]] (fun K' hK => by simp only [go_sem, stkE_nz]; (repeat (refine ⟨ob, ?_⟩)); exact hK _ (by simp only [go_sem]) (by simp only [go_sem] <;> rfl)) ?_
  repeat refine sq ?_
  refine cl_cond rfl rfl (fun hb => ?_) fun hb => ?_
  · skip
    repeat refine sq ?_
    have hbad : hdD d = false := by have := hd_cond d; rw [hb] at this; simpa using this.symm
    have hw1 : dkB d = false := by unfold dkB; rw [hbad]; rfl
    repeat refine sq ?_
    refine rs hΓ [2] [] ?_
    refine cl_ret ?_
    simp only [go_sem]
    first | (rw [dkE_f hw1]; done) | (rw [dkE_t hw1]; done)
  · skip
    repeat refine sq ?_
    have hgood : hdD d = true := by have := hd_cond d; rw [hb] at this; simpa using this.symm
    have hi : inI d.wet (-1) 1 = true := by unfold hdD at hgood; rw [Bool.and_eq_true] at hgood; exact hgood.2
    refine cl_skip ?_
    repeat refine sq ?_
    refine rx hΓ [1,3] [[1, 0]] (fun K' hK => by simp only [go_sem, pgE_z, Int.cast_ofNat_Int, Int.reduceToNat, Int.toNat_one, Int.toNat_zero, Nat.reduceMul, Nat.reduceAdd, Nat.zero_mul, Nat.one_mul, Nat.add_zero]; (repeat (refine ⟨ob, ?_⟩)); exact hK _ (by simp only [go_sem]) (by simp only [go_sem] <;> rfl)) ?_
    repeat refine sq ?_
    refine rx hΓ [1,3,4] [[1, 0]] (fun K' hK => by simp only [go_sem, pgE_z, Int.cast_ofNat_Int, Int.reduceToNat, Int.toNat_one, Int.toNat_zero, Nat.reduceMul, Nat.reduceAdd, Nat.zero_mul, Nat.one_mul, Nat.add_zero]; (repeat (refine ⟨ob, ?_⟩)); exact hK _ (by simp only [go_sem]) (by simp only [go_sem] <;> rfl)) ?_
    repeat refine sq ?_
    refine rs hΓ [1,3,4,33] [[1, 0]] ?_
    repeat refine sq ?_
    refine cl_cond rfl rfl (fun hb => ?_) fun hb => ?_
    · skip
      repeat refine sq ?_
      have hneg : d.wet < 0 := by simpa using hb
      repeat refine sq ?_
      refine rx hΓ [56] [] (fun K' hK => by simp only [go_sem, Int.cast_ofNat_Int, Int.reduceToNat, Int.toNat_one, Int.toNat_zero, Nat.reduceMul, Nat.reduceAdd, Nat.zero_mul, Nat.one_mul, Nat.add_zero]; (repeat (refine ⟨ob, ?_⟩)); exact hK _ (by simp only [go_sem]) (by simp only [go_sem] <;> rfl)) ?_
      repeat refine sq ?_
      refine cl_cond rfl rfl (fun hb => ?_) fun hb => ?_
      · skip
        repeat refine sq ?_
        have hw1 : dkB d = false := by unfold dkB; rw [hgood, wetB_n hneg]; revert hb; cases pgB d.me d.pa <;> cases pgB d.me d.pb <;> simp
        repeat refine sq ?_
        refine rs hΓ [2] [] ?_
        refine cl_ret ?_
        simp only [go_sem]
        first | (rw [dkE_f hw1]; done) | (rw [dkE_t hw1]; done)
      · skip
        repeat refine sq ?_
        have hw1 : dkB d = true := by unfold dkB; rw [hgood, wetB_n hneg]; revert hb; cases pgB d.me d.pa <;> cases pgB d.me d.pb <;> simp
        refine cl_skip ?_
        repeat refine sq ?_
        refine rs hΓ [2] [] ?_
        refine cl_ret ?_
        simp only [go_sem]
        first | (rw [dkE_f hw1]; done) | (rw [dkE_t hw1]; done)
    · skip
      repeat refine sq ?_
      have hge : ¬ d.wet < 0 := by simpa using hb
      have hwx : d.wet = 0 ∨ d.wet = 1 := by have := inI_iff.1 hi; omega
      refine cl_skip ?_
      rcases hwx with hw0 | hw0
      · skip
        repeat refine sq ?_
        refine dx hΓ hP [[], [0], [0, 1], [0, 1, 2], [0, 1, 2, 3], [0, 1, 2, 3, 4], [0, 1, 2, 3, 4, 5], [0, 1, 2, 3, 4, 5, 6], [0, 1, 2, 3, 4, 5, 6, 7], [0, 1, 2, 3, 4, 5, 6], [0, 1, 2, 3, 4, 5, 6, 7, 8, 9], [0, 1, 2, 3, 4, 5, 6, 7, 8, 9, 10], [0, 1, 2, 3, 4, 5, 6, 7, 8, 9, 10, 11], [0, 1, 2, 3, 4, 5, 6], [0, 1, 2, 3, 4, 5, 6, 13], [0, 1, 2, 3, 4, 5, 6, 13, 14], [0, 1, 2, 3, 4, 5, 6], [0, 1, 2, 3, 4, 5, 6, 13, 14, 15, 16], [0, 1, 2, 3, 4, 5, 6, 13, 14, 15, 16, 17], [0, 1, 2, 3, 4, 5, 6, 13, 14, 15, 16, 17, 18], [0, 1, 2, 3, 4, 5, 6, 7, 8, 9, 10, 11, 12, 13, 14, 15, 16, 17, 18, 19], [0, 1, 2, 3, 4, 5, 6, 7, 8, 9, 10, 11, 12, 13, 14, 15, 16, 17, 18, 19, 20]] [78] [] (by kernel_rfl) (fun K' hK => by simp only [go_sem, hw0, wr0, wr1, Int.sub_self, Int.sub_zero, Int.cast_ofNat_Int, Int.reduceToNat, Int.toNat_one, Int.toNat_zero, Nat.reduceMul, Nat.reduceAdd, Nat.zero_mul, Nat.one_mul, Nat.add_zero]; (repeat (refine ⟨ob, ?_⟩)); (first | refine ⟨by rfl, ?_⟩ | skip); exact hK _ (by simp only [go_sem]) (by simp only [go_sem] <;> rfl)) ?_
        repeat refine sq ?_
        refine cl_cond rfl rfl (fun hb => ?_) fun hb => ?_
        · skip
          repeat refine sq ?_
          have hw1 : dkB d = false := by unfold dkB; rw [hgood, wetB_0 hw0]; revert hb; cases pgB d.me d.pa <;> cases pgB d.me d.pb <;> simp
          repeat refine sq ?_
          refine rx hΓ [2] [] (fun K' hK => by simp only [go_sem, hw0, wr0, wr1, Int.sub_self, Int.sub_zero, Int.cast_ofNat_Int, Int.reduceToNat, Int.toNat_one, Int.toNat_zero, Nat.reduceMul, Nat.reduceAdd, Nat.zero_mul, Nat.one_mul, Nat.add_zero]; (repeat (refine ⟨ob, ?_⟩)); exact hK _ (by simp only [go_sem]) (by simp only [go_sem] <;> rfl)) ?_
          refine cl_ret ?_
          simp only [go_sem]
          first | (rw [dkE_f hw1]; done) | (rw [dkE_t hw1]; done)
        · skip
          repeat refine sq ?_
          have hw1 : dkB d = true := by unfold dkB; rw [hgood, wetB_0 hw0]; revert hb; cases pgB d.me d.pa <;> cases pgB d.me d.pb <;> simp
          refine cl_skip ?_
          repeat refine sq ?_
          refine rx hΓ [2] [] (fun K' hK => by simp only [go_sem, hw0, wr0, wr1, Int.sub_self, Int.sub_zero, Int.cast_ofNat_Int, Int.reduceToNat, Int.toNat_one, Int.toNat_zero, Nat.reduceMul, Nat.reduceAdd, Nat.zero_mul, Nat.one_mul, Nat.add_zero]; (repeat (refine ⟨ob, ?_⟩)); exact hK _ (by simp only [go_sem]) (by simp only [go_sem] <;> rfl)) ?_
          refine cl_ret ?_
          simp only [go_sem]
          first | (rw [dkE_f hw1]; done) | (rw [dkE_t hw1]; done)
      · skip
        repeat refine sq ?_
        refine dx hΓ hP [[], [0], [0, 1], [0, 1, 2], [0, 1, 2, 3], [0, 1, 2, 3, 4], [0, 1, 2, 3, 4, 5], [0, 1, 2, 3, 4, 5, 6], [0, 1, 2, 3, 4, 5, 6, 7], [0, 1, 2, 3, 4, 5, 6], [0, 1, 2, 3, 4, 5, 6, 7, 8, 9], [0, 1, 2, 3, 4, 5, 6, 7, 8, 9, 10], [0, 1, 2, 3, 4, 5, 6, 7, 8, 9, 10, 11], [0, 1, 2, 3, 4, 5, 6], [0, 1, 2, 3, 4, 5, 6, 13], [0, 1, 2, 3, 4, 5, 6, 13, 14], [0, 1, 2, 3, 4, 5, 6], [0, 1, 2, 3, 4, 5, 6, 13, 14, 15, 16], [0, 1, 2, 3, 4, 5, 6, 13, 14, 15, 16, 17], [0, 1, 2, 3, 4, 5, 6, 13, 14, 15, 16, 17, 18], [0, 1, 2, 3, 4, 5, 6, 7, 8, 9, 10, 11, 12, 13, 14, 15, 16, 17, 18, 19], [0, 1, 2, 3, 4, 5, 6, 7, 8, 9, 10, 11, 12, 13, 14, 15, 16, 17, 18, 19, 20]] [78] [] (by kernel_rfl) (fun K' hK => by simp only [go_sem, hw0, wr0, wr1, Int.sub_self, Int.sub_zero, Int.cast_ofNat_Int, Int.reduceToNat, Int.toNat_one, Int.toNat_zero, Nat.reduceMul, Nat.reduceAdd, Nat.zero_mul, Nat.one_mul, Nat.add_zero]; (repeat (refine ⟨ob, ?_⟩)); (first | refine ⟨by rfl, ?_⟩ | skip); exact hK _ (by simp only [go_sem]) (by simp only [go_sem] <;> rfl)) ?_
        repeat refine sq ?_
        refine cl_cond rfl rfl (fun hb => ?_) fun hb => ?_
        · skip
          repeat refine sq ?_
          have hw1 : dkB d = false := by unfold dkB; rw [hgood, wetB_1 hw0]; revert hb; cases pgB d.me d.pa <;> cases pgB d.me d.pb <;> simp
          repeat refine sq ?_
          refine rx hΓ [2] [] (fun K' hK => by simp only [go_sem, hw0, wr0, wr1, Int.sub_self, Int.sub_zero, Int.cast_ofNat_Int, Int.reduceToNat, Int.toNat_one, Int.toNat_zero, Nat.reduceMul, Nat.reduceAdd, Nat.zero_mul, Nat.one_mul, Nat.add_zero]; (repeat (refine ⟨ob, ?_⟩)); exact hK _ (by simp only [go_sem]) (by simp only [go_sem] <;> rfl)) ?_
          refine cl_ret ?_
          simp only [go_sem]
          first | (rw [dkE_f hw1]; done) | (rw [dkE_t hw1]; done)
        · skip
          repeat refine sq ?_
          have hw1 : dkB d = true := by unfold dkB; rw [hgood, wetB_1 hw0]; revert hb; cases pgB d.me d.pa <;> cases pgB d.me d.pb <;> simp
          refine cl_skip ?_
          repeat refine sq ?_
          refine rx hΓ [2] [] (fun K' hK => by simp only [go_sem, hw0, wr0, wr1, Int.sub_self, Int.sub_zero, Int.cast_ofNat_Int, Int.reduceToNat, Int.toNat_one, Int.toNat_zero, Nat.reduceMul, Nat.reduceAdd, Nat.zero_mul, Nat.one_mul, Nat.add_zero]; (repeat (refine ⟨ob, ?_⟩)); exact hK _ (by simp only [go_sem]) (by simp only [go_sem] <;> rfl)) ?_
          refine cl_ret ?_
          simp only [go_sem]
          first | (rw [dkE_f hw1]; done) | (rw [dkE_t hw1]; done)
theorem k39 : SSound Tryz.prog 39 S39 := s39.sound
end Go.Eng
set_option linter.unusedVariables false
namespace Go.Eng
open Go Go.Proofs Go.RowKit Go.Lib Go.Shelf

set_option maxHeartbeats 2000000 in
set_option maxRecDepth 100000 in
theorem clone76_nil (n c : Nat) (w : World) : Calls Tryz.prog 76 #[.slice none n c] w fun e w' => e = .returned (.slice none 0 0) ∧ w' = w := by
  have mixed : Tryz.prog.follows Departure.mixedOrders = true := by kernel_rfl
  have qT : ∀ (w : World) (a : Option Addr) (n c n' c' : Nat), (binOp .eql 23 (.slice a n c) (.slice none n' c')).run Tryz.prog w = .ok (.bool a.isNone) w := fun w a n c n' c' => Lib.run_eql_slice_nil w _ _ a n c n' c' Tryz.underlying23
  go_enter Tryz.func76, Tryz.ntmps76
  go_wp2
  go_ret
  exact ⟨rfl, rfl⟩

set_option maxHeartbeats 2000000 in
set_option maxRecDepth 100000 in
theorem clone76_some (a : Addr) (n c : Nat) (w : World) (v' : Value) (w' : World)
    (hrun : ∀ ty, (Builtin.append_ #[23, 23] ty #[.slice (some ⟨w.heap.size, 0, none⟩) 0 0, .slice (some a) n c]).run Tryz.prog (w.alloc (.cells #[] 91)) = .ok v' w') :
    Calls Tryz.prog 76 #[.slice (some a) n c] w fun e w1 => e = .returned v' ∧ w1 = w' := by
  have mixed : Tryz.prog.follows Departure.mixedOrders = true := by kernel_rfl
  have qT : ∀ (w : World) (a : Option Addr) (n c n' c' : Nat), (binOp .eql 23 (.slice a n c) (.slice none n' c')).run Tryz.prog w = .ok (.bool a.isNone) w := fun w a n c n' c' => Lib.run_eql_slice_nil w _ _ a n c n' c' Tryz.underlying23
  go_enter Tryz.func76, Tryz.ntmps76
  go_wp2_with (at_builtin; refine Lib.wpList_append_run _ rfl _ _ _ _ rfl _ _ rfl rfl _ _ (hrun _) ?_)
  go_ret
  exact ⟨rfl, rfl⟩


set_option maxHeartbeats 2000000 in
set_option maxRecDepth 100000 in
theorem clone77_nil (n c : Nat) (w : World) : Calls Tryz.prog 77 #[.slice none n c] w fun e w' => e = .returned (.slice none 0 0) ∧ w' = w := by
  have mixed : Tryz.prog.follows Departure.mixedOrders = true := by kernel_rfl
  have qT : ∀ (w : World) (a : Option Addr) (n c n' c' : Nat), (binOp .eql 22 (.slice a n c) (.slice none n' c')).run Tryz.prog w = .ok (.bool a.isNone) w := fun w a n c n' c' => Lib.run_eql_slice_nil w _ _ a n c n' c' Tryz.underlying22
  go_enter Tryz.func77, Tryz.ntmps77
  go_wp2
  go_ret
  exact ⟨rfl, rfl⟩

set_option maxHeartbeats 2000000 in
set_option maxRecDepth 100000 in
theorem clone77_some (a : Addr) (n c : Nat) (w : World) (v' : Value) (w' : World)
    (hrun : ∀ ty, (Builtin.append_ #[22, 22] ty #[.slice (some ⟨w.heap.size, 0, none⟩) 0 0, .slice (some a) n c]).run Tryz.prog (w.alloc (.cells #[] 3)) = .ok v' w') :
    Calls Tryz.prog 77 #[.slice (some a) n c] w fun e w1 => e = .returned v' ∧ w1 = w' := by
  have mixed : Tryz.prog.follows Departure.mixedOrders = true := by kernel_rfl
  have qT : ∀ (w : World) (a : Option Addr) (n c n' c' : Nat), (binOp .eql 22 (.slice a n c) (.slice none n' c')).run Tryz.prog w = .ok (.bool a.isNone) w := fun w a n c n' c' => Lib.run_eql_slice_nil w _ _ a n c n' c' Tryz.underlying22
  go_enter Tryz.func77, Tryz.ntmps77
  go_wp2_with (at_builtin; refine Lib.wpList_append_run _ rfl _ _ _ _ rfl _ _ rfl rfl _ _ (hrun _) ?_)
  go_ret
  exact ⟨rfl, rfl⟩

theorem notYid (n : Nat) (h : n < 1000000000) : n ≠ yid := by unfold yid; omega
theorem clone76 : CloneLaw Tryz.prog 76 23 91 2 16 (.agg #[.int .i64 0, .int .i64 0]) :=
  ⟨by kernel_rfl, by kernel_rfl, notYid _ (by decide), enter_of Tryz.func76 (by rfl) (by kernel_rfl), clone76_nil, clone76_some⟩
theorem clone77 : CloneLaw Tryz.prog 77 22 3 1 8 (.int .i64 0) :=
  ⟨by kernel_rfl, by kernel_rfl, notYid _ (by decide), enter_of Tryz.func77 (by rfl) (by kernel_rfl), clone77_nil, clone77_some⟩
/-- Clone over plain rows: the same row. -/
def pCloneD (sz by_ : Nat) : PSpec := ⟨fun xs => ∃ l, xs = [.sl l] ∧ (∀ z ∈ l, z.cells.length = sz ∧ z.okc = true) ∧ l.length * by_ ≤ 140737488355328, fun xs => xs.headD default, false⟩
theorem cloneD_sound {P : Program} {f T E sz by_ : Nat} {Z : Value} (L : CloneLaw P f T E sz by_ Z) (hz : Z.cells.size = sz) (hb : 0 < by_) : PSound P f (pCloneD sz by_) := by
  refine psound_of (clone_sound L) L.ne (fun h => by cases h) ?_
  rintro xs ⟨l, rfl, hl, hn⟩
  simp only [cloneSpec, List.map_cons, List.map_nil, pCloneD, List.headD_cons]
  cases l with
  | nil => exact ⟨trivial, trivial, rfl⟩
  | cons y r =>
    have e : aClone P (fun _ => none) [0, 0] T (.v (.sl (y :: r))) = aAppend P (fun _ => none) [0, 0] T T .nilsl (.v (.sl (y :: r))) := rfl
    rw [e]
    have hn' : (y :: r).length * by_ ≤ 140737488355328 := hn
    have hm' : (y :: r).length ≤ maxLen := by unfold maxLen; have := Nat.le_mul_of_pos_right (y :: r).length hb; omega
    simp only [aAppend, L.tE, L.tZ, srcL, frz, upd_same, nmO]
    exact ⟨⟨trivial, hl, hz, hn', hm', trivial⟩, trivial, trivial⟩
theorem PSound.conv {P : Program} {f : FuncId} {s s' : PSpec} (h : PSound P f s) (hf : s'.flat = s.flat) (hp : ∀ xs, s'.pre xs → s.pre xs ∧ s'.fn xs = s.fn xs) : PSound P f s' := by
  refine ⟨h.ne, h.enter, fun hfl xs hx => ?_, fun m w xs args hm ht hx hpre => ?_⟩
  · rw [(hp xs hx).2]; exact h.flat (hf ▸ hfl) xs (hp xs hx).1
  · rw [(hp xs hpre).2]; exact h.calls m w xs args hm ht hx (hp xs hpre).1
noncomputable def P77 : PSpec := p1 iIs (fun l => l.length * 8 ≤ 140737488355328) (fun l => .sl (l.map vInt)) false
noncomputable def S77 : Spec := P77.toSpec
theorem k77 : SSound Tryz.prog 77 S77 := (PSound.conv (s' := P77) (cloneD_sound clone77 rfl (by decide)) rfl (by
  intro xs hx
  obtain ⟨l, rfl, hl, e⟩ := p1_elim hx
  exact ⟨⟨_, rfl, fun z hz => by obtain ⟨x, _, rfl⟩ := List.mem_map.1 hz; exact ⟨rfl, rfl⟩, by simpa using hl⟩, e⟩)).sound
noncomputable def P76 : PSpec := p1 iPs (fun l => l.length * 16 ≤ 140737488355328) (fun l => .sl (l.map encPa)) false
noncomputable def S76 : Spec := P76.toSpec
theorem k76 : SSound Tryz.prog 76 S76 := (PSound.conv (s' := P76) (cloneD_sound clone76 rfl (by decide)) rfl (by
  intro xs hx
  obtain ⟨l, rfl, hl, e⟩ := p1_elim hx
  exact ⟨⟨_, rfl, fun z hz => by obtain ⟨x, _, rfl⟩ := List.mem_map.1 hz; exact ⟨rfl, rfl⟩, by simpa using hl⟩, e⟩)).sound
attribute [go_sem] P76 S76 P77 S77
end Go.Eng
/- The engine's text of loops over functions that hold on to what changes. -/
namespace Go.Eng
open Go
structure CapsOk (r : Lp) (caps : List Name → List D) : Prop where
  ren : ∀ f Ls, Ls.length = r.m → D.renL f (caps Ls) = caps (Ls.map f)
  clo : ∀ dom Ls, Ls.length = r.m → (∀ x ∈ Ls, dom x = true) → D.closL dom (caps Ls) = true
  reach : ∀ Ls s obj R k, Ls.length = r.m → (R :: Ls).Nodup → objAll obj Ls (r.fam Ls s) → obj R = some (r.rc Ls .ready none) → reachL obj (k + r.fu + 1) (R :: namesL (caps Ls)) [] = R :: Ls
def Lp.itC (r : Lp) (caps : List Name → List D) : CSpec where
  pre := fun os ds => os = r.rc (LI r.m) .ready none :: r.fam (LI r.m) 0 ∧ ds = .yld [0, 1] :: caps (LI r.m)
  out := fun _ _ => ⟨(0, r.fin (LI r.m)) :: upds 1 (r.fam (LI r.m) r.e), [], .tup []⟩
theorem Lp.itC_app {r : Lp} (hr : r.Ok) {caps : List Name → List D} (hcp : CapsOk r caps) {obj : Name → Option O} {t R : Name} {Ls : List Name} (hl : Ls.length = r.m) (hn : Ls.Nodup) (hR : R ∉ Ls)
    (h0 : obj R = some (r.rc Ls .ready none)) (hF : objAll obj Ls (r.fam Ls 0)) :
    (r.itC caps).toSpec.app obj t (.yld R :: caps Ls) = ⟨True, .tup [], setLs Ls (r.fam Ls r.e) (upd obj R (some (r.fin Ls)))⟩ := by
  have hnn : (R :: Ls).Nodup := List.nodup_cons.2 ⟨hR, hn⟩
  have hreach : reach obj (.yld R :: caps Ls) = R :: Ls := by
    unfold reach
    have := hcp.reach Ls 0 obj R (2999 - r.fu) hl hnn hF h0
    rw [show 2999 - r.fu + r.fu + 1 = 3000 by have := hr.fuel; omega] at this
    exact this
  have hcanon : ∀ s, objAll obj Ls (r.fam Ls s) → Ls.map (canonO (R :: Ls) obj) = (r.fam Ls s).map (O.ren (cin (R :: Ls))) := by
    intro s hF
    rw [objAll_iff] at hF
    refine List.ext_getElem (by simp [hr.len _ _ hl, hl]) fun i h1 h2 => ?_
    have h3 : i < Ls.length := by simpa using h1
    have h4 : i < (r.fam Ls s).length := by rw [hr.len _ _ hl, ← hl]; exact h3
    have h5 := congrArg (fun l => l[i]?) hF
    have h6 : obj Ls[i] = some (r.fam Ls s)[i] := by simpa [h3, h4] using h5
    simp only [List.getElem_map, canonO, h6]
  have e1 : cOs obj (.yld R :: caps Ls) = r.rc (LI r.m) .ready none :: r.fam (LI r.m) 0 := by
    unfold cOs
    rw [hreach, List.map_cons, hcanon 0 hF, hr.renF _ _ _ hl, cin_next hn hR, hl]
    congr 1
    unfold Lp.rc at h0 ⊢
    simp only [canonO, h0, O.ren]
    rw [hr.renE _ _ hl, cin_next hn hR, hl]
  have e2 : cDs obj (.yld R :: caps Ls) = .yld [0, 1] :: caps (LI r.m) := by
    unfold cDs
    rw [hreach]
    simp only [D.renL, D.ren, hcp.ren _ _ hl]
    rw [cin_next hn hR, hl]
    simp only [cin, idx, if_true]
  have hpre : (r.itC caps).pre (r.rc (LI r.m) .ready none :: r.fam (LI r.m) 0) (.yld [0, 1] :: caps (LI r.m)) := ⟨rfl, rfl⟩
  have hout : ∀ os ds, (r.itC caps).out os ds = ⟨(0, r.fin (LI r.m)) :: upds 1 (r.fam (LI r.m) r.e), [], .tup []⟩ := fun _ _ => rfl
  have hinL : ∀ x ∈ Ls, inL (R :: Ls) x = true := fun x hx => inL_iff.2 (List.mem_cons_of_mem _ hx)
  have hsh : shut obj (R :: Ls) = true := by
    unfold shut
    rw [List.all_eq_true]
    intro x hx
    rcases List.mem_cons.1 hx with rfl | hx
    · rw [h0]
      unfold Lp.rc
      exact hr.closE _ _ hl hinL
    obtain ⟨i, hi, rfl⟩ := List.getElem_of_mem hx
    rw [objAll_iff] at hF
    have h4 : i < (r.fam Ls 0).length := by rw [hr.len _ _ hl, ← hl]; exact hi
    have h5 := congrArg (fun l => l[i]?) hF
    have h6 : obj Ls[i] = some (r.fam Ls 0)[i] := by simpa [hi, h4] using h5
    rw [h6]
    exact hr.closF _ _ _ hl hinL _ (List.getElem_mem h4)
  have hcl : D.closL (inL (R :: Ls)) (.yld R :: caps Ls) = true := by
    show (inL (R :: Ls) R && D.closL _ _) = true
    rw [hcp.clo _ _ hl hinL]
    simp [inL]
  have hp : ∀ obj', putU (R :: Ls) t (upds 1 (r.fam (LI r.m) r.e)) obj' = setLs Ls (r.fam Ls r.e) obj' := by
    intro obj'
    rw [putU_upds (Ls := Ls) (by rw [hr.len _ _ (LI_len _), hl]) fun i hi => by
      rw [Nat.add_comm, List.getD_cons_succ]; exact getD_mem hi, hr.renF _ _ _ (LI_len _)]
    have : (LI r.m).map (cout (R :: Ls) t) = Ls := by rw [← hl]; exact cout_next R Ls t
    rw [this]
  have hf : O.ren (cout (R :: Ls) t) (r.fin (LI r.m)) = r.fin Ls := by
    unfold Lp.fin Lp.rc
    simp only [O.ren]
    rw [hr.renE _ _ (LI_len _)]
    have : (LI r.m).map (cout (R :: Ls) t) = Ls := by rw [← hl]; exact cout_next R Ls t
    rw [this]
  simp only [CSpec.toSpec, e1, e2, hreach, hout, hsh, hcl, fresh, List.all_nil, Bool.and_self, hpre, and_self, putN, putU, List.getD_cons_zero, hf, hp, D.ren, D.renL]
/-- The statement 'for .. := range f'. -/
theorem cl_iterC {P : Program} {r : Lp} (hr : r.Ok) {caps : List Name → List D} (hcp : CapsOk r caps) {g : Operand} {ps : Array Tmp} {asg body : Code} {σ : S} {rest : List Code} {K : Exit → S → Prop} (k k' : Nat) {f : FuncId} {Ls : List Name}
    (hc : opC σ g = true) (hg : opD σ g = .clo (.func f) [] (caps Ls)) (hne : f ≠ yid) (hs : SSound P f (r.itC caps).toSpec) (hnew : σ.obj (k :: σ.pre) = none)
    (he : (List.range σ.nt).map σ.env = r.env Ls) (hps : ps.toList = r.ps) (ha : asg = r.asg) (hb : body = r.body) (hl : Ls.length = r.m) (hn : Ls.Nodup) (hR : (k :: σ.pre) ∉ Ls) (hF : objAll σ.obj Ls (r.fam Ls 0))
    (hK : ∀ o : O, pdK (thenK (fun σ' => CL P rest σ' K) K) { σ with obj := upd (setLs Ls (r.fam Ls r.e) σ.obj) (k :: σ.pre) (some o) } r.pd) : CL P (.rangeFunc g ps asg body :: rest) σ K := by
  subst ha
  subst hb
  generalize hRn : k :: σ.pre = R at *
  have hagr : ∀ x ∈ Ls, (upd σ.obj R (some (r.rc Ls .ready none))) x = σ.obj x := fun x hx => upd_ne _ _ _ (by rintro rfl; exact hR hx)
  have happ := Lp.itC_app hr hcp (t := k' :: σ.pre) hl hn hR (upd_same σ.obj R (some (r.rc Ls .ready none))) (objAll_agr hF hagr)
  have hrec : O.loop ((List.range σ.nt).map σ.env) ps.toList r.asg r.body .ready none = r.rc Ls .ready none := by unfold Lp.rc; rw [he, hps]
  have hargs : clArgs (opD σ g) [.yld R] = .yld R :: caps Ls := by rw [hg]; rfl
  have hfn : clFn (opD σ g) = some f := by rw [hg]; simp [clFn, hne]
  have hswap : ∀ (F : List O) (obj : Name → Option O) (a b : Option O), upd (setLs Ls F (upd obj R a)) R b = upd (setLs Ls F obj) R b := by
    intro F obj a b
    funext x
    by_cases h : x = R
    · subst h; rw [upd_same, upd_same]
    · rw [upd_ne _ _ _ h, upd_ne _ _ _ h]
      have : ∀ (Ls : List Name) (F : List O) (o1 o2 : Name → Option O), o1 x = o2 x → setLs Ls F o1 x = setLs Ls F o2 x := by
        intro Ls
        induction Ls with
        | nil => intro F o1 o2 h; simpa [setLs] using h
        | cons y ys ih =>
          intro F o1 o2 h
          cases F with
          | nil => simpa [setLs] using h
          | cons f fs =>
            simp only [setLs]
            refine ih fs _ _ ?_
            by_cases e : x = y
            · subst e; rw [upd_same, upd_same]
            · rw [upd_ne _ _ _ e, upd_ne _ _ _ e, h]
      exact this Ls F _ _ (upd_ne _ _ _ h)
  refine cl_rangeFunc (Γ := fun x => if x = f then some (r.itC caps).toSpec else none) (fun x s hx => by
    split at hx
    · rename_i e; cases hx; subst e; exact hs
    · cases hx) k k' hc hfn hne (if_pos rfl) (by rw [hRn]; exact hnew) ?_ ?_
  · rw [hRn, hargs, hrec, happ]; trivial
  · rw [hRn, hargs, hrec, happ]
    have hfin : setLs Ls (r.fam Ls r.e) (upd (upd σ.obj R (some (r.rc Ls .ready none))) R (some (r.fin Ls))) R = some (r.fin Ls) := by rw [setLs_ne hR, upd_same]
    have hsp : spent (setLs Ls (r.fam Ls r.e) (upd (upd σ.obj R (some (r.rc Ls .ready none))) R (some (r.fin Ls)))) R =
        upd (setLs Ls (r.fam Ls r.e) σ.obj) R (some (r.rc Ls .exhausted r.pd)) := by
      unfold spent
      rw [hfin]
      unfold Lp.fin Lp.rc
      simp only [hswap]
    refine leftK_of r.pd hfin ?_
    rw [hsp]
    exact hK (r.rc Ls .exhausted r.pd)
end Go.Eng
/- The engine's text of loops over functions whose rounds all go on. -/
namespace Go.Eng
open Go
/-! what lies outside, all of it anew -/
def setU (obj : Name → Option O) (L : List O) : Name → Option O := fun nm => match outH L nm with | some o => some o | none => obj nm
theorem setU_out {L1 L2 : List O} (h : L2.length = L1.length) : setU (outH L1) L2 = outH L2 := by
  funext nm
  unfold setU
  cases hx : isOut nm with
  | false => rw [outH_not hx, outH_not hx]
  | true =>
    obtain ⟨i, rfl⟩ := isOut_iff.1 hx
    simp only [outH]
    by_cases hi : i < L2.length
    · rw [List.getElem?_eq_getElem hi]
    · rw [List.getElem?_eq_none (by omega), List.getElem?_eq_none (by omega)]
theorem mkS_setU (n : Nat) (p : Name) (F H : Name → Option O) (L : List O) (l : List (Nat × E)) (h : List (Name × O)) :
    mkS n p (setU (fun nm => if own p nm = true then F nm else H nm) L) l h = mkS n p (setU H L) l h :=
  mkS_same fun nm hn => by unfold setU; simp [hn]
theorem OutC_setU (p : Name) (dom : Name → Bool) (F H : Name → Option O) (L : List O) :
    OutC p dom (setU (fun nm => if own p nm = true then F nm else H nm) L) = OutC p dom (setU H L) := by
  have e : ∀ nm, own p nm = false → setU (fun nm => if own p nm = true then F nm else H nm) L nm = setU H L nm := fun nm hn => by unfold setU; simp [hn]
  exact propext ⟨fun k nm q hn h => k nm q hn (by rw [e nm hn]; exact h), fun k nm q hn h => k nm q hn (by rw [← e nm hn]; exact h)⟩
def Lp.I (r : Lp) (s : Nat) : List O := r.rc (LI r.m) .ready none :: r.fam (LI r.m) s
theorem Lp.I_len {r : Lp} (hr : r.Ok) (s : Nat) : (r.I s).length = r.m + 1 := by unfold Lp.I; rw [List.length_cons, hr.len _ _ (LI_len _)]
theorem Lp.I_clos {r : Lp} (hr : r.Ok) (s : Nat) : ∀ o ∈ r.I s, ∀ dom : Name → Bool, (∀ i, dom [i, 1] = true) → O.clos dom o = true := by
  intro o ho dom hd
  have hd' : ∀ x ∈ LI r.m, dom x = true := fun x hx => by
    obtain ⟨i, _, rfl⟩ := List.mem_map.1 hx
    exact hd _
  rcases List.mem_cons.1 ho with rfl | ho
  · exact hr.closE _ _ (LI_len _) hd'
  · exact hr.closF _ _ _ (LI_len _) hd' _ ho
theorem Lp.y_setU {r : Lp} (hr : r.Ok) (hst : ∀ j, r.st j = none) {s : Nat} (hs : s < r.n) (obj : Name → Option O) (tm : Name) (ho : ∀ nm, isOut nm = true → obj nm = outH (r.I s) nm) :
    r.y.toSpec.app obj tm (.yld [0, 1] :: r.vals s) = ⟨True, .v (.bool true), setU obj (r.I (s + 1))⟩ := by
  have hLn : (LI r.m).Nodup := List.Pairwise.map _ (fun a b h => by simpa using h) List.nodup_range
  have hRn : ([0, 1] : Name) ∉ LI r.m := fun h => by
    obtain ⟨i, _, hi⟩ := List.mem_map.1 h
    simp at hi
  have h0 : obj [0, 1] = some (r.rc (LI r.m) .ready none) := by
    rw [ho _ rfl]; rfl
  have hF : objAll obj (LI r.m) (r.fam (LI r.m) s) := by
    rw [objAll_iff]
    refine List.ext_getElem (by rw [List.length_map, List.length_map, LI_len, hr.len _ _ (LI_len _)]) fun i h3 h4 => ?_
    simp only [List.getElem_map, LI, List.getElem_range]
    rw [ho _ rfl]
    simp only [Lp.I, outH, List.getElem?_cons_succ]
    have h5 : i < (r.fam (LI r.m) s).length := by simpa using h4
    rw [List.getElem?_eq_getElem h5]
    rfl
  have happ := Lp.y_app hr hs (fun j _ => hst j) (t := tm) (LI_len _) hLn hRn h0 hF
  rw [happ, hst s]
  simp only [Option.isNone_none, if_true]
  congr 1
  funext nm
  have hlen := hr.len (LI r.m) (s + 1) (LI_len _)
  by_cases hR : nm = [0, 1]
  · subst hR
    rw [upd_same]
    rfl
  · rw [upd_ne _ _ _ hR]
    unfold setU
    cases hx : isOut nm with
    | false =>
      rw [outH_not hx, setLs_ne]
      intro hm2
      obtain ⟨i, _, rfl⟩ := List.mem_map.1 hm2
      cases hx
    | true =>
      obtain ⟨i, rfl⟩ := isOut_iff.1 hx
      have hall := setLs_all (obj := obj) (F := r.fam (LI r.m) (s + 1)) hLn (by rw [LI_len, hlen])
      match i, hR with
      | 0, hR => exact (hR rfl).elim
      | i + 1, _ =>
        simp only [Lp.I, outH, List.getElem?_cons_succ]
        by_cases hi : i < r.m
        · have h6 := objAll_get hall i (by rw [LI_len]; exact hi) (by rw [hlen]; exact hi)
          simp only [LI, List.getElem_map, List.getElem_range] at h6
          rw [show (r.fam (LI r.m) (s + 1))[i]? = some (r.fam (LI r.m) (s + 1))[i] from List.getElem?_eq_getElem (by rw [hlen]; exact hi)]
          exact h6
        · rw [List.getElem?_eq_none (by rw [hlen]; omega), setLs_ne]
          intro hm2
          obtain ⟨j, hj2, hj3⟩ := List.mem_map.1 hm2
          have := List.mem_range.1 hj2
          simp at hj3
          omega
theorem Lp.go_e {r : Lp} (hst : ∀ j, r.st j = none) : r.e = r.n ∧ r.pd = none := by
  have : (List.range r.n).find? (fun s => (r.st s).isSome) = none := List.find?_eq_none.2 fun s _ => by rw [hst s]; decide
  unfold Lp.e Lp.pd
  rw [this]
  exact ⟨rfl, rfl⟩
theorem Lp.go_end {P : Program} {r : Lp} (hr : r.Ok) (hst : ∀ j, r.st j = none) {σ : S} (hob : ∀ i, σ.obj [i, 1] = outH (r.I r.n) [i, 1]) :
    (resAll P σ []).ok ∧ (resAll P σ []).d = .tup [] ∧ endC (r.rc (LI r.m) .ready none :: r.fam (LI r.m) 0) ⟨(0, r.fin (LI r.m)) :: upds 1 (r.fam (LI r.m) r.e), [], .tup []⟩ σ := by
  obtain ⟨e1, e2⟩ := Lp.go_e hst
  refine Lp.it_end hr ?_ ?_
  · rw [hob]
    unfold Lp.fin
    rw [e2]
    rfl
  · rw [objAll_iff, e1]
    refine List.ext_getElem (by rw [List.length_map, List.length_map, LI_len, hr.len _ _ (LI_len _)]) fun i h3 h4 => ?_
    simp only [List.getElem_map, LI, List.getElem_range]
    rw [hob]
    simp only [Lp.I, outH, List.getElem?_cons_succ]
    have h5 : i < (r.fam (LI r.m) r.n).length := by simpa using h4
    rw [List.getElem?_eq_getElem h5]
    rfl
theorem Lp.itC_sound {P : Program} {r : Lp} (hr : r.Ok) (hst : ∀ j, r.st j = none) {caps : List Name → List D} {f : FuncId} {fn : Func} {nt : Nat} (hf : P.funcs[f]? = some fn) (hnt : fn.ntmps = nt) (hrs : fn.results.toList = []) (hn : (fn.name == "runtime.NumGoroutine") = false) (hy : f < 1000000000)
    (hw : ∃ c, fn.body = some c ∧ (caps (LI r.m)).length + 1 ≤ nt ∧ CL P [c] (mkS nt [0] (outH (r.I 0)) (argsD 0 (.yld [0, 1] :: caps (LI r.m))) []) (fun e σ => (e = .normal ∨ e = .ret) ∧ ∀ i, σ.obj [i, 1] = outH (r.I r.n) [i, 1])) : SSound P f (r.itC caps).toSpec := by
  obtain ⟨c, hc, hl, hw⟩ := hw
  refine csound hf hc hnt hrs (enter_of hf hc hn) (Nat.ne_of_lt (show f < yid from hy)) ?_
  rintro os ds ⟨rfl, rfl⟩
  refine ⟨by simpa using hl, CW.mono (cl_of hw) ?_⟩
  rintro e σ ⟨he, hob⟩
  rcases he with rfl | rfl
  · exact Lp.go_end hr hst hob
  · exact Lp.go_end hr hst hob
theorem Lp.it_sound {P : Program} {r : Lp} (hr : r.Ok) (hst : ∀ j, r.st j = none) {caps : List V} {f : FuncId} {fn : Func} {nt : Nat} (hf : P.funcs[f]? = some fn) (hnt : fn.ntmps = nt) (hrs : fn.results.toList = []) (hn : (fn.name == "runtime.NumGoroutine") = false) (hy : f < 1000000000)
    (hw : ∃ c, fn.body = some c ∧ caps.length + 1 ≤ nt ∧ CL P [c] (mkS nt [0] (outH (r.I 0)) (argsD 0 (.yld [0, 1] :: caps.map .v)) []) (fun e σ => (e = .normal ∨ e = .ret) ∧ ∀ i, σ.obj [i, 1] = outH (r.I r.n) [i, 1])) : SSound P f (r.it caps).toSpec := by
  obtain ⟨c, hc, hl, hw⟩ := hw
  refine csound hf hc hnt hrs (enter_of hf hc hn) (Nat.ne_of_lt (show f < yid from hy)) ?_
  rintro os ds ⟨rfl, rfl⟩
  refine ⟨by simpa using hl, CW.mono (cl_of hw) ?_⟩
  rintro e σ ⟨he, hob⟩
  rcases he with rfl | rfl
  · exact Lp.go_end hr hst hob
  · exact Lp.go_end hr hst hob
end Go.Eng
/- The engine's text of functions that only read what they reach: their contracts under any names. -/
namespace Go.Eng
open Go
structure Ro (α : Type) where
  m : Nat
  fam : α → List Name → List O
  args : α → List Name → List D
  ok : α → Prop
  val : α → D
structure Ro.Ok {α : Type} (r : Ro α) : Prop where
  len : ∀ a Ls, Ls.length = r.m → (r.fam a Ls).length = r.m
  renF : ∀ a f Ls, Ls.length = r.m → (r.fam a Ls).map (O.ren f) = r.fam a (Ls.map f)
  renA : ∀ a f Ls, Ls.length = r.m → D.renL f (r.args a Ls) = r.args a (Ls.map f)
  reach : ∀ a Ls obj, Ls.length = r.m → Ls.Nodup → objAll obj Ls (r.fam a Ls) → reach obj (r.args a Ls) = Ls
  closF : ∀ a dom Ls, Ls.length = r.m → (∀ x ∈ Ls, dom x = true) → ∀ o ∈ r.fam a Ls, O.clos dom o = true
  closA : ∀ a dom Ls, Ls.length = r.m → (∀ x ∈ Ls, dom x = true) → D.closL dom (r.args a Ls) = true
  det : ∀ a b, r.ok a → r.ok b → r.fam a (LR r.m) = r.fam b (LR r.m) → r.args a (LR r.m) = r.args b (LR r.m) → r.val a = r.val b
  vcl : ∀ a dom, D.clos dom (r.val a) = true
  vren : ∀ a f, (r.val a).ren f = r.val a
variable {α : Type}
noncomputable def Ro.c (r : Ro α) : CSpec where
  pre := fun os ds => ∃ a, r.ok a ∧ os = r.fam a (LR r.m) ∧ ds = r.args a (LR r.m)
  out := fun os ds => ⟨[], [], by classical exact if h : ∃ a, r.ok a ∧ os = r.fam a (LR r.m) ∧ ds = r.args a (LR r.m) then r.val h.choose else .any⟩
theorem Ro.c_out {r : Ro α} (hr : r.Ok) {a : α} (ha : r.ok a) : r.c.out (r.fam a (LR r.m)) (r.args a (LR r.m)) = ⟨[], [], r.val a⟩ := by
  have h : ∃ b, r.ok b ∧ r.fam a (LR r.m) = r.fam b (LR r.m) ∧ r.args a (LR r.m) = r.args b (LR r.m) := ⟨a, ha, rfl, rfl⟩
  have e : r.val h.choose = r.val a := (hr.det _ _ ha h.choose_spec.1 h.choose_spec.2.1 h.choose_spec.2.2).symm
  simp only [Ro.c]
  rw [dif_pos h, e]
theorem Ro.c_app {r : Ro α} (hr : r.Ok) {a : α} (ha : r.ok a) {obj : Name → Option O} {t : Name} {Ls : List Name} (hl : Ls.length = r.m) (hn : Ls.Nodup) (hF : objAll obj Ls (r.fam a Ls)) :
    r.c.toSpec.app obj t (r.args a Ls) = ⟨True, r.val a, obj⟩ := by
  have hreach := hr.reach a Ls obj hl hn hF
  have hcan : Ls.map (cin Ls) = LR r.m := by rw [cin_all hn, hl]
  have e1 : cOs obj (r.args a Ls) = r.fam a (LR r.m) := by
    unfold cOs
    rw [hreach]
    have hF' := hF
    rw [objAll_iff] at hF'
    have : Ls.map (canonO Ls obj) = (r.fam a Ls).map (O.ren (cin Ls)) := by
      refine List.ext_getElem (by simp [hr.len _ _ hl, hl]) fun i h1 h2 => ?_
      have h3 : i < Ls.length := by simpa using h1
      have h4 : i < (r.fam a Ls).length := by rw [hr.len _ _ hl, ← hl]; exact h3
      have h5 := congrArg (fun l => l[i]?) hF'
      have h6 : obj Ls[i] = some (r.fam a Ls)[i] := by simpa [h3, h4] using h5
      simp only [List.getElem_map, canonO, h6]
    rw [this, hr.renF _ _ _ hl, hcan]
  have e2 : cDs obj (r.args a Ls) = r.args a (LR r.m) := by
    unfold cDs
    rw [hreach, hr.renA _ _ _ hl, hcan]
  have hin : ∀ x ∈ Ls, inL Ls x = true := fun x hx => inL_iff.2 hx
  have hsh : shut obj Ls = true := by
    unfold shut
    rw [List.all_eq_true]
    intro x hx
    obtain ⟨i, hi, rfl⟩ := List.getElem_of_mem hx
    have hF' := hF
    rw [objAll_iff] at hF'
    have h4 : i < (r.fam a Ls).length := by rw [hr.len _ _ hl, ← hl]; exact hi
    have h5 := congrArg (fun l => l[i]?) hF'
    have h6 : obj Ls[i] = some (r.fam a Ls)[i] := by simpa [hi, h4] using h5
    rw [h6]
    exact hr.closF _ _ _ hl hin _ (List.getElem_mem h4)
  have hpre : r.c.pre (r.fam a (LR r.m)) (r.args a (LR r.m)) := ⟨a, ha, rfl, rfl⟩
  simp only [CSpec.toSpec, e1, e2, hreach, Ro.c_out hr ha, hsh, hr.closA _ _ _ hl hin, fresh, List.all_nil, Bool.and_self, hpre, and_self, putN, putU, hr.vren]
/-- What a body has to come to. -/
def retRo (P : Program) (rs : List ResultVar) (v : D) (H : Name → Option O) (e : Exit) (σ : S) : Prop :=
  (e = .normal ∨ e = .ret) ∧ (resAll P σ rs).ok ∧ (resAll P σ rs).d = v ∧ ∀ i, σ.obj [i, 1] = H [i, 1]
theorem objsOk_nil {σ : S} : ∀ {os : List O} {k : Nat}, (∀ i (h : i < os.length), σ.obj [k + i, 1] = some os[i]) → objsOk σ [] k os
  | [], _, _ => trivial
  | o :: r, k, h => by
    refine ⟨by have := h 0 (by simp); simp only [Nat.add_zero, List.getElem_cons_zero] at this; exact this, objsOk_nil fun i hi => ?_⟩
    have := h (i + 1) (by simpa using hi)
    rw [show k + 1 + i = k + (i + 1) by omega]
    simpa using this
theorem Ro.sound {P : Program} {r : Ro α} (hr : r.Ok) {f : FuncId} {fn : Func} {nt : Nat} {rs : List ResultVar} (hf : P.funcs[f]? = some fn) (hnt : fn.ntmps = nt) (hrs : fn.results.toList = rs) (hn : (fn.name == "runtime.NumGoroutine") = false) (hy : f < 1000000000)
    (hw : ∃ c, fn.body = some c ∧ ∀ a, r.ok a → (r.args a (LR r.m)).length ≤ nt ∧ CL P [c] (mkS nt [0] (outH (r.fam a (LR r.m))) (argsD 0 (r.args a (LR r.m))) []) (retRo P rs (r.val a) (outH (r.fam a (LR r.m))))) : SSound P f r.c.toSpec := by
  obtain ⟨c, hc, hw⟩ := hw
  refine csound hf hc hnt hrs (enter_of hf hc hn) (Nat.ne_of_lt (show f < yid from hy)) ?_
  rintro os ds ⟨a, ha, rfl, rfl⟩
  obtain ⟨hl, h⟩ := hw a ha
  refine ⟨hl, ?_⟩
  rw [Ro.c_out hr ha]
  refine CW.mono (cl_of h) ?_
  rintro e σ ⟨he, h1, h2, h3⟩
  have fin : (resAll P σ rs).ok ∧ (resAll P σ rs).d = r.val a ∧ endC (r.fam a (LR r.m)) ⟨[], [], r.val a⟩ σ := by
    refine ⟨h1, h2, objsOk_nil fun i hi => ?_, trivial, ?_⟩
    · rw [Nat.zero_add, h3]
      show (r.fam a (LR r.m))[i]? = _
      rw [List.getElem?_eq_getElem hi]
    · simp [hr.vcl, distinct]
  rcases he with rfl | rfl
  · exact fin
  · exact fin
theorem Ro.outC {r : Ro α} (hr : r.Ok) (a : α) : ∀ hs, OutC [0] (domOf [0] hs) (outH (r.fam a (LR r.m))) = True := fun hs => eq_true (outC_outs (fun o ho dom hd => hr.closF a dom _ (LR_len _) (fun x hx => by
  obtain ⟨i, _, rfl⟩ := List.mem_map.1 hx
  exact hd i) o ho) hs)
open Go Go.Proofs
/-! copies of stocks -/
def szS (s : Stk) : Prop := s.ho.length * 8 ≤ 140737488355328 ∧ ∀ i, i < 6 → (s.un.get i).length * 16 ≤ 140737488355328
theorem okS.sz {s : Stk} (h : okS s) : szS s := ⟨by have := h.hol; omega, fun i hi => by have := h.unl i hi; omega⟩
theorem map_v_inj : ∀ {a b : List V}, a.map D.v = b.map D.v → a = b
  | [], [], _ => rfl
  | [], _ :: _, h => by cases h
  | _ :: _, [], h => by cases h
  | x :: r, y :: q, h => by
    simp only [List.map_cons, List.cons.injEq, D.v.injEq] at h
    rw [h.1, map_v_inj h.2]
theorem renL_mapV (f : Name → Name) : ∀ l : List V, D.renL f (l.map .v) = l.map .v
  | [] => rfl
  | x :: r => by
    rw [List.map_cons, D.renL, renL_mapV f r]; rfl
theorem namesL_mapV : ∀ l : List V, namesL (l.map .v) = []
  | [] => rfl
  | x :: r => by
    rw [List.map_cons, namesL, namesL_mapV r]; rfl
theorem names1 {Ls : List Name} (h : Ls.length = 1) : ∃ a, Ls = [a] := by
  match Ls, h with
  | [a], _ => exact ⟨a, rfl⟩
def soRo : Ro (List V × Nat × Stk) where
  m := 1
  fam a _ := [.box (a.1.map .v)]
  args a Ls := [.ref (Ls.headD [0, 1]) a.2.1]
  ok a := (a.1.drop a.2.1).take 19 = stL a.2.2 ∧ szS a.2.2
  val a := .v (encSt a.2.2)
theorem soRo_ok : soRo.Ok where
  len := fun _ _ _ => rfl
  renF := fun a f Ls _ => by simp only [soRo, List.map_cons, List.map_nil, O.ren, renL_mapV]
  renA := fun a f Ls h => by
    obtain ⟨n, rfl⟩ := names1 h
    rfl
  reach := fun a Ls obj h _ hF => by
    obtain ⟨n, rfl⟩ := names1 h
    obtain ⟨h1, _⟩ := hF
    have en : namesL (soRo.args a [n]) = [n] := rfl
    unfold Go.Eng.reach
    rw [en]
    show reachL obj (2998 + 1 + 1) [n] [] = [n]
    simp [reachL, inL_iff, h1, namesO, namesL_mapV]
  closF := fun a dom Ls _ _ o ho => by
    simp only [soRo, List.mem_singleton] at ho
    subst ho
    exact closL_mapV _ _
  closA := fun a dom Ls h hd => by
    obtain ⟨n, rfl⟩ := names1 h
    simp [soRo, D.closL, D.clos, hd n (by simp)]
  det := fun a b h1 h2 h3 h4 => by
    have e1 : a.1 = b.1 := map_v_inj (O.box.inj (List.cons.inj h3).1)
    have e2 : a.2.1 = b.2.1 := (D.ref.inj (List.cons.inj h4).1).2
    have e3 : stL a.2.2 = stL b.2.2 := by rw [← h1.1, ← h2.1, e1, e2]
    have e4 : a.2.2 = b.2.2 := by rw [← decStL_enc a.2.2, e3, decStL_enc]
    simp only [soRo, e4]
  vcl := fun _ _ => rfl
  vren := fun _ _ => rfl
noncomputable def S59 : Spec := soRo.c.toSpec
theorem getD_map_v (l : List V) (i : Nat) : (l.map D.v).getD i .any = if i < l.length then .v (l.getD i default) else .any := by
  by_cases h : i < l.length
  · rw [if_pos h, getD_in (by simpa using h), getD_in h]; simp
  · rw [if_neg h]; simp [List.getD, List.getElem?_eq_none (Nat.le_of_not_lt h)]
theorem cut_at {l : List V} {off : Nat} {s : Stk} (h : (l.drop off).take 19 = stL s) {i : Nat} (hi : i < 19) : (l.map D.v).getD (off + i) .any = .v ((stL s).getD i default) := by
  have hlen : 19 ≤ (l.drop off).length := by
    have := congrArg List.length h
    rw [List.length_take, stL_len] at this
    omega
  rw [List.length_drop] at hlen
  rw [getD_map_v, if_pos (by omega), ← h, getD_in (show off + i < l.length by omega), getD_in (by rw [List.length_take, List.length_drop]; omega)]
  simp
theorem cut_all {l : List V} {off : Nat} {s : Stk} (h : (l.drop off).take 19 = stL s) : ((l.map D.v).drop off).take 19 = (stL s).map D.v := by
  rw [← h, List.map_take, List.map_drop]
theorem cut_len {l : List V} {off : Nat} {s : Stk} (h : (l.drop off).take 19 = stL s) : off + 19 ≤ l.length := by
  have := congrArg List.length h
  rw [List.length_take, stL_len, List.length_drop] at this
  omega
@[go_sem] theorem st_set0 (s : Stk) : D.v (.sl (s.ho.map vInt)) :: List.drop 1 ((stL s).map D.v) = (stL s).map D.v := rfl
theorem st_setU (s : Stk) {i : Nat} (h : i < 6) : List.take (1 + i) ((stL s).map D.v) ++ [D.v (.sl ((s.un.get i).map encPa))] ++ List.drop (1 + i + 1) ((stL s).map D.v) = (stL s).map D.v := by
  match i, h with
  | 0, _ => rfl
  | 1, _ => rfl
  | 2, _ => rfl
  | 3, _ => rfl
  | 4, _ => rfl
  | 5, _ => rfl
theorem cut_un {l : List V} {off : Nat} {s : Stk} (h : (l.drop off).take 19 = stL s) {i : Nat} (hi : i < 6) : (l.map D.v).getD (off + 1 + i) .any = .v (rowP (s.un.get i)) := by
  rw [Nat.add_assoc, cut_at h (show 1 + i < 19 by omega), stL_un_at s hi]
@[go_sem] theorem stM_take (s : Stk) : List.take 19 ((stL s).map D.v) = (stL s).map D.v := rfl
@[go_sem] theorem stM_len (s : Stk) : ((stL s).map D.v).length = 19 := rfl
attribute [go_sem] retRo
noncomputable def K12 : List (Nat × Spec) := [(76, S76), (77, S77)]
theorem K12_sound : ∀ f s, tbl K12 f = some s → SSound Tryz.prog f s := tc k76 <| tc k77 <| tn
attribute [go_sem] K12
set_option maxHeartbeats 4000000 in
theorem k59 : SSound Tryz.prog 59 S59 := by
  refine Ro.sound soRo_ok (rs := [.cell 2 27]) Tryz.func59 Tryz.ntmps59 (by rfl) (by kernel_rfl) (by decide) ⟨_, rfl, ?_⟩
  rintro ⟨l, off, s⟩ ⟨hcut, hsz⟩
  refine ⟨lb rfl, ?_⟩
  have hΓ := K12_sound
  have hO := Ro.outC soRo_ok (l, off, s)
  have h0 : outH (soRo.fam (l, off, s) (LR soRo.m)) [0, 1] = some (.box (l.map .v)) := rfl
  generalize outH (soRo.fam (l, off, s) (LR soRo.m)) = H at *
  have ha : soRo.args (l, off, s) (LR soRo.m) = [.ref [0, 1] off] := rfl
  have hv : soRo.val (l, off, s) = .v (encSt s) := rfl
  rw [ha, hv]
  simp only [argsD, Nat.zero_add] at h0 ⊢
  replace hcut : (l.drop off).take 19 = stL s := hcut
  replace hsz : szS s := hsz
  have hA := cut_all hcut
  have hB := cut_at hcut (show 0 < 19 by omega)
  have hL := cut_len hcut
  have hB' : (l.map D.v).getD off .any = .v (rowI s.ho) := hB
  repeat refine sq ?_
  refine rx hΓ [0,2] [[2, 0]] (fun K' hK => by simp only [go_sem, hO, h0]; (repeat (refine ⟨ob, ?_⟩)); exact hK _ (by simp only [go_sem, hO, h0]) (by simp only [go_sem, hO, h0] <;> rfl)) ?_
  repeat refine sq ?_
  refine rx hΓ [0,2,3] [[2, 0],[3, 0]] (fun K' hK => by simp only [go_sem, hO, h0, hA, hB, hL, List.length_map, List.append_nil, stL_len]; (repeat (refine ⟨ob, ?_⟩)); exact hK _ (by simp only [go_sem, hO, h0, hA, hB, hL, List.length_map, List.append_nil, stL_len]) (by simp only [go_sem, hO, h0, hA, hB, hL, List.length_map, List.append_nil, stL_len] <;> rfl)) ?_
  repeat refine sq ?_
  refine rx hΓ [0,2,3] [[2, 0],[3, 0]] (fun K' hK => by simp only [go_sem, hO, h0, Nat.add_zero, hB', hsz.1]; (repeat (refine ⟨ob, ?_⟩)); exact hK _ (by simp only [go_sem, hO, h0, Nat.add_zero, hB', hsz.1]) (by simp only [go_sem, hO, h0, Nat.add_zero, hB', hsz.1] <;> rfl)) ?_
  repeat refine sq ?_
  refine rx hΓ [0,2,3,14] [[2, 0],[3, 0]] (fun K' hK => by simp only [go_sem, hO, h0]; (repeat (refine ⟨ob, ?_⟩)); exact hK _ (by simp only [go_sem, hO, h0]) (by simp only [go_sem, hO, h0] <;> rfl)) ?_
  repeat refine sq ?_
  refine cl_block ?_
  repeat refine sq ?_
  refine cl_loop'  (fun z : Nat => [(14, ⟨true, .v (vInt z)⟩)]) (fun z => []) (fun z => z ≤ 6) (fun z => 6 - z) 0 ?_ ?_ ?_ ?_
  · exact Nat.zero_le _
  · rfl
  · rfl
  rintro i hi
  simp only [go_sem]
  repeat refine sq ?_
  refine rx hΓ [0,2,3,14,15] [[2, 0],[3, 0]] (fun K' hK => by simp only [go_sem, hO, h0]; (repeat (refine ⟨ob, ?_⟩)); exact hK _ (by simp only [go_sem, hO, h0]) (by simp only [go_sem, hO, h0] <;> rfl)) ?_
  repeat refine sq ?_
  refine cl_cond rfl rfl (fun hb => ?_) fun hb => ?_
  · skip
    have hlt : i < 6 := by have hq : (i : Int) < 6 := (by simpa using hb); omega
    have hlt' : (i : Int) < 6 := by omega
    clear hb
    have hC := cut_un hcut hlt
    have hz1 := hsz.2 i hlt
    repeat refine sq ?_
    refine cl_skip ?_
    repeat refine sq ?_
    refine cl_block ?_
    repeat refine sq ?_
    refine rx hΓ [0,2,3,4,14] [[2, 0],[3, 0]] (fun K' hK => by simp only [go_sem, hO, h0, Int.toNat_natCast, Int.natCast_nonneg, hlt']; (repeat (refine ⟨ob, ?_⟩)); exact hK _ (by simp only [go_sem, hO, h0, Int.toNat_natCast, Int.natCast_nonneg, hlt']) (by simp only [go_sem, hO, h0, Int.toNat_natCast, Int.natCast_nonneg, hlt'] <;> rfl)) ?_
    repeat refine sq ?_
    refine cl_r hΓ fun K' hK => ?_
    simp only [go_sem, hO, h0, Int.toNat_natCast, Int.natCast_nonneg, hlt', hC, hz1, st_setU s hlt, Int.toNat_natCast, Int.natCast_nonneg, hlt']
    repeat refine ⟨ob, ?_⟩
    refine hK _ ?_
    clear K' hK
    simp only [go_sem]
    refine cl_keep [0,2,3,14] [[2, 0],[3, 0]] ?_ ?_
    · simp only [go_sem, hO, h0]
    simp only [go_sem, hO, h0]
    repeat refine sq ?_
    refine cl_r hΓ fun K' hK => ?_
    simp only [go_sem, hO, h0, Int.toNat_natCast, Int.natCast_nonneg, hlt']
    repeat refine ⟨ob, ?_⟩
    refine hK _ ?_
    clear K' hK
    simp only [go_sem]
    refine ⟨i + 1, hlt, by (show 6 - (i + 1) < 6 - i; omega), ?_⟩
    refine weak_eq [0,2,3,14] [[2, 0],[3, 0]] ?_ ?_
    · simp only [go_sem, wrap_succ hlt (lb rfl : (6 : Nat) ≤ maxLen), Int.natCast_add, Int.natCast_one, st_setU s hlt, hO, h0]
    · simp only [go_sem, wrap_succ hlt (lb rfl : (6 : Nat) ≤ maxLen), Int.natCast_add, Int.natCast_one, st_setU s hlt, hO, h0]
  · skip
    have hge : i = 6 := by
      have : ¬ (i : Int) < 6 := by simpa using hb
      omega
    clear hb
    subst hge
    repeat refine sq ?_
    refine cl_exit ?_
    simp only [go_sem]
    refine cl_keep [2,3] [[2, 0],[3, 0]] ?_ ?_
    · simp only [go_sem, hO, h0]
    simp only [go_sem, hO, h0]
    repeat refine sq ?_
    refine rx hΓ [2] [[2, 0]] (fun K' hK => by simp only [go_sem, hO, h0, List.append_nil]; (repeat (refine ⟨ob, ?_⟩)); exact hK _ (by simp only [go_sem, hO, h0, List.append_nil]) (by simp only [go_sem, hO, h0, List.append_nil] <;> rfl)) ?_
    refine cl_weakM (weakM_fboxk [2, 0] (stL s) rfl [2] [[2, 0]] ?_ rfl) ?_
    · simp only [go_sem, hO, h0]
    simp only [go_sem, hO, h0]
    refine cl_ret ?_
    simp only [go_sem, hO, h0]
    exact .inr trivial
end Go.Eng
/- A row that a box holds will not grow any more. -/
namespace Go.Eng
open Go
theorem weakM_frzB {σ : S} (b nm : Name) (i k sz : Nat) (cs : List D) (L : List V) (hb : σ.obj b = some (.box cs)) (hi : cs[i]? = some (.msl nm k)) (hn : σ.obj nm = some (.arr sz L)) (hk : k = L.length) :
    WeakM σ ⟨σ.nt, σ.env, upd (upd σ.obj nm (some (.farr sz L))) b (some (.box (cs.set i (.v (.sl L))))), σ.pre, σ.base⟩ := by
  intro G φ m a w hC
  have hne : b ≠ nm := fun e => by subst e; rw [hb] at hn; cases hn
  obtain ⟨h1, h2, h3, us, T, f, h4, h5, h6, h7⟩ := hC.objs b _ hb
  obtain ⟨hil, hie⟩ := List.getElem?_eq_some_iff.1 hi
  have h0 : i < us.size := by omega
  have h8 := h7 i hil h0
  rw [hie] at h8
  have hfr : frz 6 σ.obj (.msl nm k) = ⟨k = L.length, .sl L, upd σ.obj nm (some (.farr sz L))⟩ := by simp only [frz, hn]
  obtain ⟨m2, k1, k2, k3, k4, _⟩ := frz_ok 6 _ _ _ _ _ _ hC _ _ h8 (by rw [hfr]; exact hk)
  rw [hfr] at k2 k3 k4
  simp only at k2 k3 k4
  have hb' : (upd σ.obj nm (some (.farr sz L))) b = some (.box cs) := by rw [upd_ne _ _ _ hne]; exact hb
  have hx2 := Ext.same (φ := φ) (o' := .box (cs.set i (.v (.sl L)))) hb' rfl rfl
  have hx2' := hx2
  rw [upd_id] at hx2'
  refine ⟨_, m2, k2.chg (w' := w) b (.box (cs.set i (.v (.sl L)))) _ hx2 ⟨rfl, rfl, rfl, Nat.le_refl _⟩ (fun _ _ _ => rfl) (fun _ => .inr ⟨⟨_, hb', rfl, h2⟩, rfl⟩) ?_⟩
  rw [upd_id]
  refine ⟨h1, h2, fun d hd => ?_, us, T, f, h4, h5, by simpa using h6, fun j hj hj' => ?_⟩
  · rcases List.mem_or_eq_of_mem_set hd with h | h
    · exact h3 d h
    · subst h; rfl
  · simp only [List.length_set] at hj
    rw [List.getElem_set]
    by_cases hij : i = j
    · subst hij
      rw [if_pos rfl]
      exact .v _ _ k4
    · rw [if_neg hij]
      exact ((h7 j hj hj').ext k1 k3).ext (Mem.le_refl m2) hx2'
theorem weakM_frzI {σ τ : S} (b nm : Name) (i k sz : Nat) (cs : List D) (L : List V) (hb : σ.obj b = some (.box cs)) (hi : cs[i]? = some (.msl nm k)) (hn : σ.obj nm = some (.arr sz L)) (hk : k = L.length) (ks : List Nat) (ns : List Name)
    (h : clS ks ns ⟨σ.nt, σ.env, upd (upd σ.obj nm (some (.farr sz L))) b (some (.box (cs.set i (.v (.sl L))))), σ.pre, σ.base⟩)
    (hk' : keepS ks ns ⟨σ.nt, σ.env, upd (upd σ.obj nm (some (.farr sz L))) b (some (.box (cs.set i (.v (.sl L))))), σ.pre, σ.base⟩ = τ) : WeakM σ τ :=
  (weakM_frzB b nm i k sz cs L hb hi hn hk).trans (weakM_keep ks ns h hk')
end Go.Eng
--OBX exact okI _ | exact okPa _
namespace Go.Eng
open Go Go.Proofs
/-! copies of stocks: the reference's -/
theorem okI (l : List Int) : ∀ y ∈ l.map vInt, y.cells.length = 1 ∧ y.okc = true := by
  intro y hy; obtain ⟨x, _, rfl⟩ := List.mem_map.1 hy; exact ⟨rfl, rfl⟩
theorem okPa (l : List Par) : ∀ y ∈ l.map encPa, y.cells.length = 2 ∧ y.okc = true := by
  intro y hy; obtain ⟨x, _, rfl⟩ := List.mem_map.1 hy; exact ⟨rfl, rfl⟩
theorem obx {p : Prop} (h : p := by first | exact okI _ | exact okPa _ | ((repeat' apply And.intro) <;> first | rfl | omega | (unfold maxLen; omega) | trivial | decide | exact okI _ | exact okPa _) | exact ob) : p := h
def cpR (s : Stk) : List D := [.v (vInt s.se.a), .v (vInt s.se.b), .v (vInt s.se.c), .v (vInt s.se.d), .v (vInt s.se.e), .v (vInt s.se.f), .v (vInt s.ta.a), .v (vInt s.ta.b), .v (vInt s.ta.c), .v (vInt s.ta.d), .v (vInt s.ta.e), .v (vInt s.ta.f)]
def cpL (s : Stk) (z : Nat) : List D := .v (rowI s.ho) :: (if 0 < z then .v (rowP s.un.a) else .nilsl) :: (if 1 < z then .v (rowP s.un.b) else .nilsl) :: (if 2 < z then .v (rowP s.un.c) else .nilsl) ::
  (if 3 < z then .v (rowP s.un.d) else .nilsl) :: (if 4 < z then .v (rowP s.un.e) else .nilsl) :: (if 5 < z then .v (rowP s.un.f) else .nilsl) :: cpR s
theorem mid_at {α : Type} {C : List α} {x : α} {n : Nat} (h : n < C.length) : (List.take n C ++ [x] ++ List.drop (n + 1) C)[n]? = some x := by
  rw [List.append_assoc, List.getElem?_append_right (by rw [List.length_take]; omega), List.length_take, Nat.min_eq_left (by omega), Nat.sub_self]
  rfl
theorem mid_set {α : Type} {C : List α} {x y : α} {n : Nat} (h : n < C.length) : (List.take n C ++ [x] ++ List.drop (n + 1) C).set n y = List.take n C ++ [y] ++ List.drop (n + 1) C := by
  rw [List.append_assoc, List.set_append_right _ _ (by rw [List.length_take]; omega), List.length_take, Nat.min_eq_left (by omega), Nat.sub_self, List.append_assoc]
  rfl
theorem cpL_step (s : Stk) {i : Nat} (h : i < 6) : List.take (1 + i) (cpL s i) ++ [D.v (.sl ((s.un.get i).map encPa))] ++ List.drop (1 + i + 1) (cpL s i) = cpL s (i + 1) := by
  match i, h with
  | 0, _ => rfl
  | 1, _ => rfl
  | 2, _ => rfl
  | 3, _ => rfl
  | 4, _ => rfl
  | 5, _ => rfl
theorem cpL_end (s : Stk) : cpL s 6 = (stL s).map .v := rfl
@[go_sem] theorem cpL_len (s : Stk) (z : Nat) : (cpL s z).length = 19 := rfl
theorem clos_if (dom : Name → Bool) (p : Prop) [Decidable p] (l : List V) : D.clos dom (if p then .v (.sl l) else .nilsl) = true := by
  split <;> rfl
@[go_sem] theorem cpL_clos (dom : Name → Bool) (s : Stk) (z : Nat) : D.closL dom (cpL s z) = true := by
  simp only [cpL, cpR, D.closL, D.clos, clos_if, Bool.and_self, rowP]
noncomputable def P62 : PSpec := p1 iSt (fun s => szS s) (fun s => encSt s) false
noncomputable def S62 : Spec := P62.toSpec
attribute [go_sem] P62 S62
set_option maxHeartbeats 4000000 in
theorem s62 : PSound Tryz.prog 62 P62 := by
  refine w1 (rs := [.cell 2 27]) Tryz.func62 Tryz.ntmps62 (by rfl) (by kernel_rfl) (by decide) (fun h => by cases h) ⟨_, rfl, lb rfl, fun s hp hw => ?_⟩
  have hP := mixedK
  simp only [iSt] at hw ⊢
  have hΓ := @no_sound Tryz.prog
  have hsz : szS s := hp
  have hsz1 := hsz.1
  repeat refine sq ?_
  refine rx hΓ [1,2] [[1, 0],[2, 0],[8, 0],[24, 0]] (fun K' hK => by simp only [go_sem]; (repeat (refine ⟨obx, ?_⟩)); exact hK _ (by simp only [go_sem]) (by simp only [go_sem] <;> rfl)) ?_
  refine cl_weakM (weakM_fboxk [1, 0] (stL s) rfl [1,2] [[1, 0],[2, 0],[8, 0],[24, 0]] ?_ rfl) ?_
  · simp only [go_sem]
  simp only [go_sem]
  repeat refine sq ?_
  refine dx hΓ hP [[], [], [1], [0, 1, 2], [], [4], [], [6], [0, 1, 2, 3, 4, 5, 6, 7], [], [0, 1, 2, 3, 4, 5, 6, 7, 8, 9]] [1,2,3] [[1, 0],[2, 0],[3, 0],[8, 0],[24, 0]] (by kernel_rfl) (fun K' hK => by simp only [go_sem, Six.L, id_eq]; (repeat (refine ⟨obx, ?_⟩)); (first | refine ⟨by rfl, ?_⟩ | skip); exact hK _ (by simp only [go_sem]) (by simp only [go_sem] <;> rfl)) ?_
  refine cl_weakM (weakM_frzI [3, 0] [8, 0] 0 _ _ _ _ rfl rfl rfl (by first | rfl | (simp only [List.length_map]; done)) [1,2,3] [[1, 0],[2, 0],[3, 0]] ?_ rfl) ?_
  · simp only [go_sem, List.set_cons_succ, List.set_cons_zero]
  simp only [go_sem, List.set_cons_succ, List.set_cons_zero]
  repeat refine sq ?_
  refine rx hΓ [1,2,3,4] [[1, 0],[2, 0],[3, 0],[8, 0],[24, 0]] (fun K' hK => by simp only [go_sem]; (repeat (refine ⟨obx, ?_⟩)); exact hK _ (by simp only [go_sem]) (by simp only [go_sem] <;> rfl)) ?_
  repeat refine sq ?_
  refine cl_block ?_
  repeat refine sq ?_
  refine cl_loop'  (fun z : Nat => [(4, ⟨true, .v (vInt z)⟩)]) (fun z => [([3, 0], .box (cpL s z))]) (fun z => z ≤ 6) (fun z => 6 - z) 0 ?_ ?_ ?_ ?_
  · exact Nat.zero_le _
  · rfl
  · rfl
  rintro i hi
  simp only [go_sem]
  repeat refine sq ?_
  refine rx hΓ [1,2,3,4,15] [[1, 0],[2, 0],[3, 0],[8, 0],[24, 0]] (fun K' hK => by simp only [go_sem]; (repeat (refine ⟨obx, ?_⟩)); exact hK _ (by simp only [go_sem]) (by simp only [go_sem] <;> rfl)) ?_
  repeat refine sq ?_
  refine cl_cond rfl rfl (fun hb => ?_) fun hb => ?_
  · skip
    have hlt : i < 6 := by have hq : (i : Int) < 6 := (by simpa using hb); omega
    have hlt' : (i : Int) < 6 := by omega
    clear hb
    have hz1 := hsz.2 i hlt
    repeat refine sq ?_
    refine cl_skip ?_
    repeat refine sq ?_
    refine cl_block ?_
    repeat refine sq ?_
    refine cl_r hΓ fun K' hK => ?_
    simp only [go_sem, Int.toNat_natCast, Int.natCast_nonneg, hlt', stL_un_at s hlt, Int.toNat_natCast, Int.natCast_nonneg, hlt']
    repeat (refine ⟨obx, ?_⟩)
    refine hK _ ?_
    clear K' hK
    refine cl_weakM (weakM_frzI [3, 0] [24, 0] (1 + i) _ _ _ _ rfl (mid_at (by show 1 + i < 19; omega)) rfl (by simp only [List.length_map]) [1,2,3,4] [[1, 0],[2, 0],[3, 0]] ?_ rfl) ?_
    · simp only [go_sem, mid_set (show 1 + i < (cpL s i).length by show 1 + i < 19; omega), cpL_step s hlt]
    simp only [mid_set (show 1 + i < (cpL s i).length by show 1 + i < 19; omega), cpL_step s hlt]
    simp only [go_sem]
    refine kp [1,2,3,4] [[1, 0],[2, 0],[3, 0],[8, 0],[24, 0]] ?_
    repeat refine sq ?_
    refine cl_r hΓ fun K' hK => ?_
    simp only [go_sem, Int.toNat_natCast, Int.natCast_nonneg, hlt']
    repeat (refine ⟨obx, ?_⟩)
    refine hK _ ?_
    clear K' hK
    simp only [go_sem]
    refine ⟨i + 1, hlt, by (show 6 - (i + 1) < 6 - i; omega), ?_⟩
    refine weak_eq [1,2,3,4] [[1, 0],[2, 0],[3, 0],[8, 0],[24, 0]] ?_ ?_
    · simp only [go_sem, wrap_succ hlt (lb rfl : (6 : Nat) ≤ maxLen), Int.natCast_add, Int.natCast_one]
    · simp only [go_sem, wrap_succ hlt (lb rfl : (6 : Nat) ≤ maxLen), Int.natCast_add, Int.natCast_one]
  · skip
    have hge : i = 6 := by
      have : ¬ (i : Int) < 6 := by simpa using hb
      omega
    clear hb
    subst hge
    repeat refine sq ?_
    refine cl_exit ?_
    simp only [go_sem]
    refine kp [2,3] [[2, 0],[3, 0],[8, 0],[24, 0]] ?_
    repeat refine sq ?_
    refine rx hΓ [2] [[2, 0],[8, 0],[24, 0]] (fun K' hK => by simp only [go_sem, cpL_end, List.append_nil]; (repeat (refine ⟨obx, ?_⟩)); exact hK _ (by simp only [go_sem]) (by simp only [go_sem] <;> rfl)) ?_
    refine cl_weakM (weakM_fboxk [2, 0] (stL s) rfl [2] [[2, 0],[8, 0],[24, 0]] ?_ rfl) ?_
    · simp only [go_sem]
    simp only [go_sem]
    refine cl_ret ?_
    simp only [go_sem]
    skip
theorem k62 : SSound Tryz.prog 62 S62 := s62.sound
end Go.Eng
/- The engine's text of boxes whose nil slices are plain data. -/
namespace Go.Eng
open Go
theorem weakM_boxV {σ : S} (b : Name) (cs : List D) (l : List V) (hb : σ.obj b = some (.box cs)) (hl : asV1s cs = some l) : WeakM σ ⟨σ.nt, σ.env, upd σ.obj b (some (.box (l.map .v))), σ.pre, σ.base⟩ := by
  intro G φ m a w hC
  obtain ⟨h1, h2, h3, us, T, f, h4, h5, h6, h7⟩ := hC.objs b _ hb
  obtain ⟨hlen, hat⟩ := asV1s_spec hl
  have hx2 := Ext.same (φ := φ) (o' := .box (l.map .v)) hb rfl rfl
  have hx2' := hx2
  rw [upd_id] at hx2'
  refine ⟨_, m, hC.chg (w' := w) b (.box (l.map .v)) _ hx2 ⟨rfl, rfl, rfl, Nat.le_refl _⟩ (fun _ _ _ => rfl) (fun _ => .inr ⟨⟨_, hb, rfl, h2⟩, rfl⟩) ?_⟩
  rw [upd_id]
  refine ⟨h1, h2, fun d hd => ?_, us, T, f, h4, h5, by rw [List.length_map, hlen]; exact h6, fun j hj hj' => ?_⟩
  · obtain ⟨x, hx, rfl⟩ := List.mem_map.1 hd
    obtain ⟨i, hi, rfl⟩ := List.getElem_of_mem hx
    exact asV1_one (hat i (by omega) hi) (h3 _ (List.getElem_mem _))
  · have hj2 : j < l.length := by simpa using hj
    have hj1 : j < cs.length := by omega
    simp only [List.getElem_map]
    exact .v _ _ (asV1_rep (h7 j hj1 hj') (hat j hj1 hj2))
theorem weakM_boxk {σ τ : S} (b : Name) (cs : List D) (l : List V) (hb : σ.obj b = some (.box cs)) (hl : asV1s cs = some l) (ks : List Nat) (ns : List Name)
    (h : clS ks ns ⟨σ.nt, σ.env, upd σ.obj b (some (.box (l.map .v))), σ.pre, σ.base⟩) (hk : keepS ks ns ⟨σ.nt, σ.env, upd σ.obj b (some (.box (l.map .v))), σ.pre, σ.base⟩ = τ) : WeakM σ τ :=
  (weakM_boxV b cs l hb hl).trans (weakM_keep ks ns h hk)
end Go.Eng
--OBX exact okI _ | exact okPa _
namespace Go.Eng
open Go Go.Proofs
/-! new desks -/
def st0 (l : List Int) : Stk := ⟨l, six fun _ => [], six fun _ => 0, six fun _ => 0⟩
def zS : Stk := st0 []
def zP : Pg := ⟨0, zS, 0⟩
def zD : Dk := ⟨0, zS, zP, zP, 0⟩
def newD (me : Int) (l : List Int) : Dk := ⟨me, st0 l, ⟨1, st0 l, sumV (st0 l) 1⟩, ⟨0, zS, sumV zS 0⟩, -1⟩
def nwB (me : Int) (l : List Int) : Bool := inI me 0 5 && papB l
def nwE (me : Int) (l : List Int) : Int := if inI me 0 5 = true then (if papB l = true then 0 else 1) else 94
def nwD (me : Int) (l : List Int) : Dk := if nwB me l = true then newD me l else zD
theorem closL_tk (dom : Name → Bool) (l : List V) (n : Nat) : D.closL dom (List.take n (l.map .v)) = true := by
  rw [← List.map_take]; exact closL_mapV _ _
theorem closL_dp (dom : Name → Bool) (l : List V) (n : Nat) : D.closL dom (List.drop n (l.map .v)) = true := by
  rw [← List.map_drop]; exact closL_mapV _ _
attribute [go_sem] closL_app closL_tk closL_dp
@[go_sem] theorem frzL_mapF (f : (Name → Option O) → D → FR) (obj : Name → Option O) (h : ∀ obj x, f obj (.v x) = ⟨True, x, obj⟩) : ∀ l : List V, frzL f obj (l.map .v) = ⟨True, l, obj⟩
  | [] => rfl
  | x :: r => by simp only [List.map_cons, frzL, h, frzL_mapF f obj h r, and_self]
@[go_sem] theorem zst_lit : V.agg [V.sl [], V.sl [], V.sl [], V.sl [], V.sl [], V.sl [], V.sl [], V.int .i64 0, V.int .i64 0, V.int .i64 0, V.int .i64 0, V.int .i64 0, V.int .i64 0, V.int .i64 0, V.int .i64 0, V.int .i64 0, V.int .i64 0, V.int .i64 0, V.int .i64 0] = V.agg (stL zS) := rfl
@[go_sem] theorem dkM_now (d : Dk) : ((((dkL d).map D.v).drop 1).take 19) = (stL d.now).map D.v := rfl
@[go_sem] theorem dkM_len (d : Dk) : ((dkL d).map D.v).length = 63 := rfl
@[go_sem] theorem dkM_drop (d : Dk) : ((dkL d).map D.v).drop 63 = [] := rfl
@[go_sem] theorem dkM_all (d : Dk) : ((dkL d).map D.v).take 63 = (dkL d).map D.v := rfl
@[go_sem] theorem bt1 (s : Stk) (x : D) : (List.map D.v (stL s) ++ [x]).length = 20 := rfl
@[go_sem] theorem bt2 (s : Stk) (x : D) : List.take 19 (List.map D.v (stL s) ++ [x]) = List.map D.v (stL s) := rfl
@[go_sem] theorem bt3 (s : Stk) (x : D) : List.drop 20 (List.map D.v (stL s) ++ [x]) = [] := rfl
@[go_sem] theorem bt4 (c u : Int) (s : Stk) : D.v (.int .i64 c) :: (List.map D.v (stL s) ++ [D.v (vInt u)]) = (pgL ⟨c, s, u⟩).map D.v := rfl
@[go_sem] theorem bt5 (p : Pg) : (List.map D.v (pgL p)).length = 21 := rfl
@[go_sem] theorem bt6 (p : Pg) : List.take 21 (List.map D.v (pgL p)) = List.map D.v (pgL p) := rfl
@[go_sem] theorem pg_setS (p : Pg) (u : Int) : List.take 20 (List.map D.v (pgL p)) ++ [D.v (vInt u)] ++ List.drop 21 (List.map D.v (pgL p)) = List.map D.v (pgL ⟨p.co, p.st, u⟩) := rfl
@[go_sem] theorem dk_setA (d : Dk) (p : Pg) : List.take 20 (List.map D.v (dkL d)) ++ List.map D.v (pgL p) ++ List.drop 41 (List.map D.v (dkL d)) = List.map D.v (dkL ⟨d.me, d.now, p, d.pb, d.wet⟩) := rfl
@[go_sem] theorem dk_setB (d : Dk) (p : Pg) : List.take 41 (List.map D.v (dkL d)) ++ List.map D.v (pgL p) ++ List.drop 62 (List.map D.v (dkL d)) = List.map D.v (dkL ⟨d.me, d.now, d.pa, p, d.wet⟩) := rfl
theorem papB_st0 {l : List Int} (h : papB l = true) : okS (st0 l) := by
  have hl := papB_ok h
  have h6 : ∀ i : Nat, (six fun _ => (0 : Int)).get i = 0 := fun i => by
    match i with
    | 0 => rfl
    | 1 => rfl
    | 2 => rfl
    | 3 => rfl
    | 4 => rfl
    | _ + 5 => rfl
  have h7 : ∀ i : Nat, (six fun _ => ([] : List Par)).get i = [] := fun i => by
    match i with
    | 0 => rfl
    | 1 => rfl
    | 2 => rfl
    | 3 => rfl
    | 4 => rfl
    | _ + 5 => rfl
  refine ⟨hl.1, hl.2, fun i _ => ?_, fun i _ p hp => ?_, fun i _ => ?_, fun i _ => ?_⟩
  · show ((six fun _ => ([] : List Par)).get i).length ≤ 40
    rw [h7]; exact Nat.zero_le _
  · have : p ∈ (six fun _ => ([] : List Par)).get i := hp
    rw [h7] at this; cases this
  · show okN ((six fun _ => (0 : Int)).get i)
    rw [h6]; exact ⟨by omega, by omega⟩
  · show okN ((six fun _ => (0 : Int)).get i)
    rw [h6]; exact ⟨by omega, by omega⟩
theorem okS_z : okS zS := papB_st0 rfl
def nd0 (me : Int) (l : List Int) : Dk := ⟨me, st0 l, zP, zP, -1⟩
def nd1 (me : Int) (l : List Int) : Dk := ⟨me, st0 l, ⟨1, st0 l, sumV (st0 l) 1⟩, zP, -1⟩
theorem s59_app {L : List V} {off : Nat} {s : Stk} {obj : Name → Option O} {t nm : Name} (ho : obj nm = some (.box (L.map .v))) (hc : (L.drop off).take 19 = stL s) (hs : szS s) :
    S59.app obj t [.ref nm off] = ⟨True, .v (encSt s), obj⟩ :=
  Ro.c_app soRo_ok (a := (L, off, s)) ⟨hc, hs⟩ (Ls := [nm]) rfl (by simp) ⟨ho, trivial⟩
noncomputable def K14 : List (Nat × Spec) := [(82, S82), (83, S83), (77, S77), (59, S59), (60, S60)]
theorem K14_sound : ∀ f s, tbl K14 f = some s → SSound Tryz.prog f s := tc k82 <| tc k83 <| tc k77 <| tc k59 <| tc k60 <| tn
attribute [go_sem] K14
noncomputable def P37 : PSpec := p2 iI iIs (fun _ _ => True) (fun me l => .tup [encDk (nwD me l), vInt (nwE me l)]) false
noncomputable def S37 : Spec := P37.toSpec
attribute [go_sem] P37 S37
set_option maxHeartbeats 4000000 in
theorem s37 : PSound Tryz.prog 37 P37 := by
  refine w2 (rs := [.cell 4 32, .tmp 5]) Tryz.func37 Tryz.ntmps37 (by rfl) (by kernel_rfl) (by decide) (fun h => by cases h) ⟨_, rfl, lb rfl, fun me l hp hw => ?_⟩
  have hP := mixedK
  simp only [iI, iIs] at hw ⊢
  have hΓ := K14_sound
  repeat refine sq ?_
  refine rx hΓ [0,1,4] [[4, 0]] (fun K' hK => by simp only [go_sem]; (repeat (refine ⟨obx, ?_⟩)); exact hK _ (by simp only [go_sem]) (by simp only [go_sem] <;> rfl)) ?_
  refine cl_weakM (weakM_boxk [4, 0] _ (dkL zD) rfl rfl [0,1,4] [[4, 0]] ?_ rfl) ?_
  · simp only [go_sem]
  simp only [go_sem]
  repeat refine sq ?_
  refine cl_block ?_
  repeat refine sq ?_
  refine rx hΓ [0,1,4,7] [[4, 0]] (fun K' hK => by simp only [go_sem]; (repeat (refine ⟨obx, ?_⟩)); exact hK _ (by simp only [go_sem]) (by simp only [go_sem] <;> rfl)) ?_
  repeat refine sq ?_
  refine cl_cond rfl rfl (fun hb => ?_) fun hb => ?_
  · skip
    repeat refine sq ?_
    have hb1 : inI me 0 5 = false := by simpa using hb
    have e1 : nwE me l = 94 := if_neg (by rw [hb1]; decide)
    have e2 : nwD me l = zD := if_neg (by unfold nwB; rw [hb1]; exact Bool.false_ne_true)
    repeat refine sq ?_
    refine rx hΓ [4,5] [[4, 0]] (fun K' hK => by simp only [go_sem]; (repeat (refine ⟨obx, ?_⟩)); exact hK _ (by simp only [go_sem]) (by simp only [go_sem] <;> rfl)) ?_
    refine cl_ret ?_
    simp only [go_sem]
    first | (rw [e1, e2]; done) | (rw [e1, e2]; rfl)
  · skip
    repeat refine sq ?_
    have hb1 : inI me 0 5 = true := by simpa using hb
    repeat refine sq ?_
    refine rx hΓ [0,1,4,12] [[4, 0]] (fun K' hK => by simp only [go_sem]; (repeat (refine ⟨obx, ?_⟩)); exact hK _ (by simp only [go_sem]) (by simp only [go_sem] <;> rfl)) ?_
    repeat refine sq ?_
    refine cl_cond rfl rfl (fun hb => ?_) fun hb => ?_
    · skip
      repeat refine sq ?_
      have hb2 : papB l = false := by simpa using hb
      have e1 : nwE me l = 1 := by unfold nwE; rw [if_pos hb1, if_neg (by rw [hb2]; decide)]
      have e2 : nwD me l = zD := if_neg (by unfold nwB; rw [hb2, Bool.and_false]; exact Bool.false_ne_true)
      repeat refine sq ?_
      refine rx hΓ [4,5] [[4, 0]] (fun K' hK => by simp only [go_sem]; (repeat (refine ⟨obx, ?_⟩)); exact hK _ (by simp only [go_sem]) (by simp only [go_sem] <;> rfl)) ?_
      refine cl_ret ?_
      simp only [go_sem]
      first | (rw [e1, e2]; done) | (rw [e1, e2]; rfl)
    · skip
      repeat refine sq ?_
      have hb2 : papB l = true := by simpa using hb
      have e1 : nwE me l = 0 := by unfold nwE; rw [if_pos hb1, if_pos hb2]
      have e2 : nwD me l = newD me l := if_pos (by unfold nwB; rw [hb1, hb2]; rfl)
      have hs0 := papB_st0 hb2
      have hl40 := (papB_ok hb2).1
      have h59 : ∀ (F : Name → Option O) (t : Name), F [6, 0] = some (.box ((dkL (nd0 me l)).map .v)) → S59.app (fun nm => if own [0] nm = true then F nm else none) t [.ref [6, 0] 1] = ⟨True, .v (.agg (stL (st0 l))), fun nm => if own [0] nm = true then F nm else none⟩ := fun F t h => s59_app (s := st0 l) (L := dkL (nd0 me l)) (off := 1) h (dkL_now (nd0 me l)) hs0.sz
      have hc2 : okS zS ∧ okN 0 := ⟨okS_z, by decide, by decide⟩
      have hc1 : okS (st0 l) ∧ okN 1 := ⟨hs0, by decide, by decide⟩
      refine cl_skip ?_
      refine cl_nil ?_
      simp only [go_sem]
      refine kp [0,1,4] [[4, 0]] ?_
      repeat refine sq ?_
      refine rx hΓ [4,6] [[4, 0],[6, 0]] (fun K' hK => by simp only [go_sem]; (repeat (refine ⟨obx, ?_⟩)); exact hK _ (by simp only [go_sem]) (by simp only [go_sem] <;> rfl)) ?_
      refine cl_weakM (weakM_boxk [6, 0] _ (dkL (nd0 me l)) rfl rfl [4,6] [[4, 0],[6, 0]] ?_ rfl) ?_
      · simp only [go_sem]
      simp only [go_sem]
      repeat refine sq ?_
      refine dx hΓ hP [[], [0], [], [2], [0, 1, 2, 3], [0, 1, 2, 3, 4], [], [0, 1, 2, 3, 4, 5, 6], [0, 1, 2, 3, 4, 5, 6, 7]] [4,6] [[4, 0],[6, 0]] (by kernel_rfl) (fun K' hK => by simp only [go_sem, h59, List.append_nil, Nat.reduceAdd]; (repeat (refine ⟨by first | exact hc1 | exact obx, ?_⟩)); (first | refine ⟨by rfl, ?_⟩ | skip); exact hK _ (by simp only [go_sem]) (by simp only [go_sem] <;> rfl)) ?_
      repeat refine sq ?_
      refine rx hΓ [4,6] [[4, 0],[6, 0]] (fun K' hK => by simp only [go_sem, Nat.reduceAdd, Int.cast_ofNat_Int, Int.reduceToNat, Int.toNat_one, Nat.reduceMul]; (repeat (refine ⟨by first | exact hc2 | exact obx, ?_⟩)); exact hK _ (by simp only [go_sem]) (by simp only [go_sem] <;> rfl)) ?_
      refine cl_weakM (weakM_boxk [6, 0] _ (dkL (newD me l)) rfl rfl [4,6] [[4, 0],[6, 0]] ?_ rfl) ?_
      · simp only [go_sem]
      simp only [go_sem]
      repeat refine sq ?_
      refine rx hΓ [4,5] [[4, 0]] (fun K' hK => by simp only [go_sem, List.append_nil]; (repeat (refine ⟨obx, ?_⟩)); exact hK _ (by simp only [go_sem]) (by simp only [go_sem] <;> rfl)) ?_
      refine cl_ret ?_
      simp only [go_sem]
      first | (rw [e1, e2]; done) | (rw [e1, e2]; rfl)
theorem k37 : SSound Tryz.prog 37 S37 := s37.sound
end Go.Eng
--OBX exact okI _ | exact okPa _
namespace Go.Eng
open Go Go.Proofs
/-! new desks: the reference's -/
theorem bt7 (s : Stk) (X : List D) : List.take 61 (List.map D.v (stL s) ++ X) = List.map D.v (stL s) ++ List.take 42 X := rfl
theorem bt8 (s : Stk) (X : List D) : List.drop 62 (List.map D.v (stL s) ++ X) = List.drop 43 X := rfl
noncomputable def K15 : List (Nat × Spec) := [(84, S84), (85, S85), (62, S62), (63, S63)]
theorem K15_sound : ∀ f s, tbl K15 f = some s → SSound Tryz.prog f s := tc k84 <| tc k85 <| tc k62 <| tc k63 <| tn
attribute [go_sem] K15
noncomputable def P38 : PSpec := p2 iI iIs (fun _ _ => True) (fun me l => .tup [encDk (nwD me l), vInt (nwE me l)]) false
noncomputable def S38 : Spec := P38.toSpec
attribute [go_sem] P38 S38
set_option maxHeartbeats 4000000 in
theorem s38 : PSound Tryz.prog 38 P38 := by
  refine w2 (rs := [.cell 4 32, .tmp 5]) Tryz.func38 Tryz.ntmps38 (by rfl) (by kernel_rfl) (by decide) (fun h => by cases h) ⟨_, rfl, lb rfl, fun me l hp hw => ?_⟩
  have hP := mixedK
  simp only [iI, iIs] at hw ⊢
  have hΓ := K15_sound
  repeat refine sq ?_
  refine rx hΓ [0,1,4] [[4, 0],[18, 0]] (fun K' hK => by simp only [go_sem]; (repeat (refine ⟨obx, ?_⟩)); exact hK _ (by simp only [go_sem]) (by simp only [go_sem] <;> rfl)) ?_
  refine cl_weakM (weakM_boxk [4, 0] _ (dkL zD) rfl rfl [0,1,4] [[4, 0],[18, 0]] ?_ rfl) ?_
  · simp only [go_sem]
  simp only [go_sem]
  repeat refine sq ?_
  refine rx hΓ [0,1,4,10] [[4, 0],[18, 0]] (fun K' hK => by simp only [go_sem]; (repeat (refine ⟨obx, ?_⟩)); exact hK _ (by simp only [go_sem]) (by simp only [go_sem] <;> rfl)) ?_
  repeat refine sq ?_
  refine cl_cond rfl rfl (fun hb => ?_) fun hb => ?_
  · skip
    repeat refine sq ?_
    have hb1 : inI me 0 5 = false := by simpa using hb
    have e1 : nwE me l = 94 := if_neg (by rw [hb1]; decide)
    have e2 : nwD me l = zD := if_neg (by unfold nwB; rw [hb1]; exact Bool.false_ne_true)
    repeat refine sq ?_
    refine rx hΓ [4,5] [[4, 0],[18, 0]] (fun K' hK => by simp only [go_sem]; (repeat (refine ⟨obx, ?_⟩)); exact hK _ (by simp only [go_sem]) (by simp only [go_sem] <;> rfl)) ?_
    refine cl_ret ?_
    simp only [go_sem]
    first | (rw [e1, e2]; done) | (rw [e1, e2]; rfl)
  · skip
    repeat refine sq ?_
    have hb1 : inI me 0 5 = true := by simpa using hb
    refine cl_skip ?_
    repeat refine sq ?_
    refine rx hΓ [0,1,4,14] [[4, 0],[18, 0]] (fun K' hK => by simp only [go_sem]; (repeat (refine ⟨obx, ?_⟩)); exact hK _ (by simp only [go_sem]) (by simp only [go_sem] <;> rfl)) ?_
    repeat refine sq ?_
    refine cl_cond rfl rfl (fun hb => ?_) fun hb => ?_
    · skip
      repeat refine sq ?_
      have hb2 : papB l = false := by simpa using hb
      have e1 : nwE me l = 1 := by unfold nwE; rw [if_pos hb1, if_neg (by rw [hb2]; decide)]
      have e2 : nwD me l = zD := if_neg (by unfold nwB; rw [hb2, Bool.and_false]; exact Bool.false_ne_true)
      repeat refine sq ?_
      refine rx hΓ [4,5] [[4, 0],[18, 0]] (fun K' hK => by simp only [go_sem]; (repeat (refine ⟨obx, ?_⟩)); exact hK _ (by simp only [go_sem]) (by simp only [go_sem] <;> rfl)) ?_
      refine cl_ret ?_
      simp only [go_sem]
      first | (rw [e1, e2]; done) | (rw [e1, e2]; rfl)
    · skip
      repeat refine sq ?_
      have hb2 : papB l = true := by simpa using hb
      have e1 : nwE me l = 0 := by unfold nwE; rw [if_pos hb1, if_pos hb2]
      have e2 : nwD me l = newD me l := if_pos (by unfold nwB; rw [hb1, hb2]; rfl)
      have hs0 := papB_st0 hb2
      have hl40 := (papB_ok hb2).1
      have hc2 : okS zS ∧ okN 0 := ⟨okS_z, by decide, by decide⟩
      have hc1 : okS (st0 l) ∧ okN 1 := ⟨hs0, by decide, by decide⟩
      have hc3 := hs0.sz
      refine cl_skip ?_
      repeat refine sq ?_
      refine rx hΓ [0,4,6] [[4, 0],[6, 0],[18, 0]] (fun K' hK => by simp only [go_sem]; (repeat (refine ⟨obx, ?_⟩)); exact hK _ (by simp only [go_sem]) (by simp only [go_sem] <;> rfl)) ?_
      refine cl_weakM (weakM_frzI [6, 0] [18, 0] 0 _ _ _ _ rfl rfl rfl (by first | rfl | (simp only [List.length_map]; done)) [0,4,6] [[4, 0],[6, 0]] ?_ rfl) ?_
      · simp only [go_sem, List.set_cons_succ, List.set_cons_zero]
      simp only [go_sem, List.set_cons_succ, List.set_cons_zero]
      refine cl_weakM (weakM_boxk [6, 0] _ (stL (st0 l)) rfl rfl [0,4,6] [[4, 0],[6, 0]] ?_ rfl) ?_
      · simp only [go_sem]
      simp only [go_sem]
      repeat refine sq ?_
      refine rx hΓ [4,6,7] [[4, 0],[6, 0],[7, 0],[18, 0]] (fun K' hK => by simp only [go_sem, List.length_append, List.length_cons, List.length_nil, Nat.reduceAdd, Nat.reduceLeDiff, bt7, bt8]; (repeat (refine ⟨obx, ?_⟩)); exact hK _ (by simp only [go_sem]) (by simp only [go_sem] <;> rfl)) ?_
      refine cl_weakM (weakM_boxk [7, 0] _ (dkL (nd0 me l)) rfl rfl [4,6,7] [[4, 0],[6, 0],[7, 0],[18, 0]] ?_ rfl) ?_
      · simp only [go_sem]
      simp only [go_sem]
      repeat refine sq ?_
      refine dx hΓ hP [[], [0], [], [0, 1, 2], [0, 1, 2, 3], [], [0, 1, 2, 3, 4, 5], [0, 1, 2, 3, 4, 5, 6]] [4,7] [[4, 0],[7, 0],[18, 0]] (by kernel_rfl) (fun K' hK => by simp only [go_sem, List.append_nil, Nat.reduceAdd]; (repeat (refine ⟨by first | exact hc1 | exact hc3 | exact obx, ?_⟩)); (first | refine ⟨by rfl, ?_⟩ | skip); exact hK _ (by simp only [go_sem]) (by simp only [go_sem] <;> rfl)) ?_
      repeat refine sq ?_
      refine rx hΓ [4,7] [[4, 0],[7, 0],[18, 0]] (fun K' hK => by simp only [go_sem, Nat.reduceAdd, Int.cast_ofNat_Int, Int.reduceToNat, Int.toNat_one, Nat.reduceMul]; (repeat (refine ⟨by first | exact hc2 | exact obx, ?_⟩)); exact hK _ (by simp only [go_sem]) (by simp only [go_sem] <;> rfl)) ?_
      refine cl_weakM (weakM_boxk [7, 0] _ (dkL (newD me l)) rfl rfl [4,7] [[4, 0],[7, 0],[18, 0]] ?_ rfl) ?_
      · simp only [go_sem]
      simp only [go_sem]
      repeat refine sq ?_
      refine rx hΓ [4,5] [[4, 0],[18, 0]] (fun K' hK => by simp only [go_sem, List.append_nil]; (repeat (refine ⟨obx, ?_⟩)); exact hK _ (by simp only [go_sem]) (by simp only [go_sem] <;> rfl)) ?_
      refine cl_ret ?_
      simp only [go_sem]
      first | (rw [e1, e2]; done) | (rw [e1, e2]; rfl)
theorem k38 : SSound Tryz.prog 38 S38 := s38.sound
/-! equal rows, stocks, bags, desks -/
theorem eqV3 (d : Nat) (a b : Int) : eqV Tryz.prog (d + 1) 3 (vInt a) (vInt b) = some (a == b) := by
  simp only [eqV, Tryz.underlying3, if_true]
theorem held91 : Tryz.prog.stoodInHeld 91 = false := by kernel_rfl
theorem guard91 : Tryz.prog.eqGuardType Tryz.prog.depth 91 = false := by kernel_rfl
theorem eqV91 (d : Nat) (a b a' b' : Int) : eqV Tryz.prog (d + 2) 91 (.agg [vInt a, vInt b]) (.agg [vInt a', vInt b']) = some (a == a' && b == b') := by
  unfold eqV
  simp only [Tryz.underlying91, held91, Bool.false_eq_true, if_false, eqFs, partV, ta3, List.getElem?_cons_zero, List.getElem?_cons_succ, eqV3]
  cases a == a' <;> cases b == b' <;> rfl
@[go_sem] theorem aEqS91 (obj : Name → Option O) (op : BinOp) (a b a' b' : Int) : aEqS Tryz.prog obj op 91 (.agg [vInt a, vInt b]) (.agg [vInt a', vInt b']) =
    ⟨op = .eql ∨ op = .neq, .v (.bool (if op = .eql then (a == a' && b == b') else !(a == a' && b == b'))), obj⟩ := by
  unfold aEqS
  rw [show Op.maxDepth = 9998 + 2 from rfl, eqV91]
  simp only [guard91, true_and]
theorem guard25 : Tryz.prog.eqGuardType Tryz.prog.depth 25 = false := by kernel_rfl
def eq6 (a b : Six Int) : Bool := a.a == b.a && (a.b == b.b && (a.c == b.c && (a.d == b.d && (a.e == b.e && a.f == b.f))))
theorem eq6_iff {a b : Six Int} : eq6 a b = true ↔ a = b := by
  obtain ⟨a0, a1, a2, a3, a4, a5⟩ := a
  obtain ⟨b0, b1, b2, b3, b4, b5⟩ := b
  simp [eq6]
theorem eqV25 (d : Nat) (a b : Six Int) : eqV Tryz.prog (d + 2) 25 (.agg ((a.L id).map vInt)) (.agg ((b.L id).map vInt)) = some (eq6 a b) := by
  obtain ⟨a0, a1, a2, a3, a4, a5⟩ := a
  obtain ⟨b0, b1, b2, b3, b4, b5⟩ := b
  unfold eqV
  simp only [Tryz.underlying25, ta3, List.range', eqAs, Six.L, List.map_cons, List.map_nil, id, partV, Nat.zero_mul, Nat.one_mul, Nat.mul_one, Nat.reduceAdd, List.getElem?_cons_zero, List.getElem?_cons_succ, eqV3, eq6]
  cases a0 == b0 <;> cases a1 == b1 <;> cases a2 == b2 <;> cases a3 == b3 <;> cases a4 == b4 <;> cases a5 == b5 <;> rfl
@[go_sem] theorem aEqS25 (obj : Name → Option O) (op : BinOp) (a b : Six Int) : aEqS Tryz.prog obj op 25 (.agg ((a.L id).map vInt)) (.agg ((b.L id).map vInt)) =
    ⟨op = .eql ∨ op = .neq, .v (.bool (if op = .eql then eq6 a b else !eq6 a b)), obj⟩ := by
  unfold aEqS
  rw [show Op.maxDepth = 9998 + 2 from rfl, eqV25]
  simp only [guard25, true_and]
/-- Equal as far as they were looked at. -/
def sameTo {α : Type} (a b : List α) (n : Nat) : Prop := ∀ j (h : j < a.length) (h' : j < b.length), j < n → a[j] = b[j]
theorem sameTo_succ {α : Type} {a b : List α} {i : Nat} (h : sameTo a b i) (hi : ∀ (h : i < a.length) (h' : i < b.length), a[i] = b[i]) : sameTo a b (i + 1) := by
  intro j hj hj' hji
  rcases Nat.lt_succ_iff_lt_or_eq.1 hji with h1 | rfl
  · exact h j hj hj' h1
  · exact hi hj hj'
theorem sameTo_end {α : Type} {a b : List α} (hl : a.length = b.length) (h : sameTo a b a.length) : a = b := List.ext_getElem hl fun j h1 h2 => h j h1 h2 h1
theorem par_ne {a b : Par} : (!(a.no == b.no && a.pa == b.pa)) = false ↔ a = b := by
  obtain ⟨a0, a1⟩ := a
  obtain ⟨b0, b1⟩ := b
  simp
noncomputable def P34 : PSpec := p2 iIs iIs (fun _ _ => True) (fun a b => .bool (decide (a = b))) true
noncomputable def S34 : Spec := P34.toSpec
attribute [go_sem] P34 S34
set_option maxHeartbeats 4000000 in
theorem s34 : PSound Tryz.prog 34 P34 := by
  refine w2 (rs := [.tmp 4]) Tryz.func34 Tryz.ntmps34 (by rfl) (by kernel_rfl) (by decide) (fun _ _ _ => rfl) ⟨_, rfl, lb rfl, fun a b hp hw => ?_⟩
  have hP := mixedK
  simp only [iIs] at hw ⊢
  have hΓ := @no_sound Tryz.prog
  have hl : a.length ≤ maxLen := by have := hw.1.1; simpa using this
  repeat refine sq ?_
  refine rs hΓ [0,1] [] ?_
  repeat refine sq ?_
  refine rs hΓ [0,1,10] [] ?_
  repeat refine sq ?_
  refine cl_cond rfl rfl (fun hb => ?_) fun hb => ?_
  · skip
    repeat refine sq ?_
    have hbad : a ≠ b := by
      rintro rfl
      simp at hb
    repeat refine sq ?_
    refine rs hΓ [4] [] ?_
    refine cl_ret ?_
    simp only [go_sem]
    rw [decide_eq_false hbad]
  · skip
    repeat refine sq ?_
    have hab : a.length = b.length := by
      have : (a.length : Int) = b.length := by simpa using hb
      omega
    clear hb
    refine cl_skip ?_
    repeat refine sq ?_
    refine rs hΓ [0,1,5] [] ?_
    repeat refine sq ?_
    refine cl_block ?_
    repeat refine sq ?_
    refine cl_loop'  (fun s : Nat => [(5, ⟨true, .v (vInt s)⟩)]) (fun s => []) (fun s => s ≤ a.length ∧ sameTo a b s) (fun s => a.length - s) 0 ?_ ?_ ?_ ?_
    · exact ⟨Nat.zero_le _, fun j _ _ h => by omega⟩
    · rfl
    · rfl
    rintro i ⟨hi, hR⟩
    simp only [go_sem]
    repeat refine sq ?_
    refine rs hΓ [0,1,5,14] [] ?_
    repeat refine sq ?_
    refine cl_cond rfl rfl (fun hb => ?_) fun hb => ?_
    · skip
      have hlt : i < a.length := by simpa using hb
      have hlt' : (i : Int) < a.length := by omega
      clear hb
      have hlb' : (i : Int) < b.length := by omega
      have hlb : i < b.length := by omega
      repeat refine sq ?_
      refine cl_skip ?_
      repeat refine sq ?_
      refine cl_block ?_
      repeat refine sq ?_
      refine dx hΓ hP [[], [], [0, 1], [0, 1, 2], [], [], [4, 5], [4, 5, 6], [0, 1, 2, 3, 4, 5, 6, 7]] [0,1,5,25] [] (by kernel_rfl) (fun K' hK => by simp only [go_sem, map_getD hlt, map_getD (show i < b.length by omega), Int.toNat_natCast, Int.natCast_nonneg, hlt', hlb']; (repeat (refine ⟨ob, ?_⟩)); (first | refine ⟨by rfl, ?_⟩ | skip); exact hK _ (by simp only [go_sem]) (by simp only [go_sem] <;> rfl)) ?_
      repeat refine sq ?_
      refine cl_cond rfl rfl (fun hb => ?_) fun hb => ?_
      · skip
        repeat refine sq ?_
        have hbad : a ≠ b := by
          rintro rfl
          simp at hb
        repeat refine sq ?_
        refine rx hΓ [4] [] (fun K' hK => by simp only [go_sem, map_getD hlt, map_getD (show i < b.length by omega), Int.toNat_natCast, Int.natCast_nonneg, hlt', hlb']; (repeat (refine ⟨ob, ?_⟩)); exact hK _ (by simp only [go_sem]) (by simp only [go_sem] <;> rfl)) ?_
        refine cl_ret ?_
        simp only [go_sem]
        rw [decide_eq_false hbad]
      · skip
        repeat refine sq ?_
        refine cl_skip ?_
        refine cl_nil ?_
        simp only [go_sem]
        refine kp [0,1,5] [] ?_
        repeat refine sq ?_
        refine cl_r hΓ fun K' hK => ?_
        simp only [go_sem, map_getD hlt, map_getD (show i < b.length by omega), Int.toNat_natCast, Int.natCast_nonneg, hlt', hlb']
        repeat refine ⟨ob, ?_⟩
        refine hK _ ?_
        clear K' hK
        simp only [go_sem]
        refine ⟨i + 1, ⟨hlt, ?_⟩, by (show a.length - (i + 1) < a.length - i; omega), ?_⟩
        · skip
          exact sameTo_succ hR fun _ _ => by first | exact par_ne.1 hb | simpa using hb
        refine weak_eq [0,1,5] [] ?_ ?_
        · simp only [go_sem, wrap_succ hlt hl, Int.natCast_add, Int.natCast_one]
        · simp only [go_sem, wrap_succ hlt hl, Int.natCast_add, Int.natCast_one]
    · skip
      have hge : i = a.length := by
        have : ¬ (i : Int) < a.length := by simpa using hb
        omega
      clear hb
      subst hge
      repeat refine sq ?_
      refine cl_exit ?_
      simp only [go_sem]
      refine kp [] [] ?_
      repeat refine sq ?_
      refine rs hΓ [4] [] ?_
      refine cl_ret ?_
      simp only [go_sem]
      rw [decide_eq_true (sameTo_end hab hR)]
theorem k34 : SSound Tryz.prog 34 S34 := s34.sound

noncomputable def P75 : PSpec := p2 iPs iPs (fun _ _ => True) (fun a b => .bool (decide (a = b))) true
noncomputable def S75 : Spec := P75.toSpec
attribute [go_sem] P75 S75
set_option maxHeartbeats 4000000 in
theorem s75 : PSound Tryz.prog 75 P75 := by
  refine w2 (rs := [.tmp 4]) Tryz.func75 Tryz.ntmps75 (by rfl) (by kernel_rfl) (by decide) (fun _ _ _ => rfl) ⟨_, rfl, lb rfl, fun a b hp hw => ?_⟩
  have hP := mixedK
  simp only [iPs] at hw ⊢
  have hΓ := @no_sound Tryz.prog
  have hl : a.length ≤ maxLen := by have := hw.1.1; simpa using this
  repeat refine sq ?_
  refine rs hΓ [0,1] [] ?_
  repeat refine sq ?_
  refine rs hΓ [0,1,10] [] ?_
  repeat refine sq ?_
  refine cl_cond rfl rfl (fun hb => ?_) fun hb => ?_
  · skip
    repeat refine sq ?_
    have hbad : a ≠ b := by
      rintro rfl
      simp at hb
    repeat refine sq ?_
    refine rs hΓ [4] [] ?_
    refine cl_ret ?_
    simp only [go_sem]
    rw [decide_eq_false hbad]
  · skip
    repeat refine sq ?_
    have hab : a.length = b.length := by
      have : (a.length : Int) = b.length := by simpa using hb
      omega
    clear hb
    refine cl_skip ?_
    repeat refine sq ?_
    refine rs hΓ [0,1,5] [] ?_
    repeat refine sq ?_
    refine cl_block ?_
    repeat refine sq ?_
    refine cl_loop'  (fun s : Nat => [(5, ⟨true, .v (vInt s)⟩)]) (fun s => []) (fun s => s ≤ a.length ∧ sameTo a b s) (fun s => a.length - s) 0 ?_ ?_ ?_ ?_
    · exact ⟨Nat.zero_le _, fun j _ _ h => by omega⟩
    · rfl
    · rfl
    rintro i ⟨hi, hR⟩
    simp only [go_sem]
    repeat refine sq ?_
    refine rs hΓ [0,1,5,14] [] ?_
    repeat refine sq ?_
    refine cl_cond rfl rfl (fun hb => ?_) fun hb => ?_
    · skip
      have hlt : i < a.length := by simpa using hb
      have hlt' : (i : Int) < a.length := by omega
      clear hb
      have hlb' : (i : Int) < b.length := by omega
      have hlb : i < b.length := by omega
      repeat refine sq ?_
      refine cl_skip ?_
      repeat refine sq ?_
      refine cl_block ?_
      repeat refine sq ?_
      refine dx hΓ hP [[], [], [0, 1], [0, 1, 2], [], [], [4, 5], [4, 5, 6], [0, 1, 2, 3, 4, 5, 6, 7]] [0,1,5,25] [] (by kernel_rfl) (fun K' hK => by simp only [go_sem, map_getD hlt, map_getD (show i < b.length by omega), Int.toNat_natCast, Int.natCast_nonneg, hlt', hlb']; (repeat (refine ⟨ob, ?_⟩)); (first | refine ⟨by rfl, ?_⟩ | skip); exact hK _ (by simp only [go_sem]) (by simp only [go_sem] <;> rfl)) ?_
      repeat refine sq ?_
      refine cl_cond rfl rfl (fun hb => ?_) fun hb => ?_
      · skip
        repeat refine sq ?_
        have hbad : a ≠ b := by
          rintro rfl
          simp at hb
        repeat refine sq ?_
        refine rx hΓ [4] [] (fun K' hK => by simp only [go_sem, map_getD hlt, map_getD (show i < b.length by omega), Int.toNat_natCast, Int.natCast_nonneg, hlt', hlb']; (repeat (refine ⟨ob, ?_⟩)); exact hK _ (by simp only [go_sem]) (by simp only [go_sem] <;> rfl)) ?_
        refine cl_ret ?_
        simp only [go_sem]
        rw [decide_eq_false hbad]
      · skip
        repeat refine sq ?_
        refine cl_skip ?_
        refine cl_nil ?_
        simp only [go_sem]
        refine kp [0,1,5] [] ?_
        repeat refine sq ?_
        refine cl_r hΓ fun K' hK => ?_
        simp only [go_sem, map_getD hlt, map_getD (show i < b.length by omega), Int.toNat_natCast, Int.natCast_nonneg, hlt', hlb']
        repeat refine ⟨ob, ?_⟩
        refine hK _ ?_
        clear K' hK
        simp only [go_sem]
        refine ⟨i + 1, ⟨hlt, ?_⟩, by (show a.length - (i + 1) < a.length - i; omega), ?_⟩
        · skip
          exact sameTo_succ hR fun _ _ => by first | exact par_ne.1 hb | simpa using hb
        refine weak_eq [0,1,5] [] ?_ ?_
        · simp only [go_sem, wrap_succ hlt hl, Int.natCast_add, Int.natCast_one]
        · simp only [go_sem, wrap_succ hlt hl, Int.natCast_add, Int.natCast_one]
    · skip
      have hge : i = a.length := by
        have : ¬ (i : Int) < a.length := by simpa using hb
        omega
      clear hb
      subst hge
      repeat refine sq ?_
      refine cl_exit ?_
      simp only [go_sem]
      refine kp [] [] ?_
      repeat refine sq ?_
      refine rs hΓ [4] [] ?_
      refine cl_ret ?_
      simp only [go_sem]
      rw [decide_eq_true (sameTo_end hab hR)]
theorem k75 : SSound Tryz.prog 75 S75 := s75.sound

noncomputable def K16 : List (Nat × Spec) := [(34, S34), (75, S75)]
theorem K16_sound : ∀ f s, tbl K16 f = some s → SSound Tryz.prog f s := tc k34 <| tc k75 <| tn
attribute [go_sem] K16
theorem st_same {a b : Stk} (h : a.un = b.un) : decide (a = b) = (decide (a.ho = b.ho) && (eq6 a.se b.se && eq6 a.ta b.ta)) := by
  obtain ⟨h1, u1, s1, t1⟩ := a
  obtain ⟨h2, u2, s2, t2⟩ := b
  simp only at h
  subst h
  rw [Bool.eq_iff_iff]
  simp [eq6_iff]
noncomputable def P24 : PSpec := p2 iSt iSt (fun _ _ => True) (fun a b => .bool (decide (a = b))) true
noncomputable def S24 : Spec := P24.toSpec
attribute [go_sem] P24 S24
set_option maxHeartbeats 4000000 in
theorem s24 : PSound Tryz.prog 24 P24 := by
  refine w2 (rs := [.tmp 4]) Tryz.func24 Tryz.ntmps24 (by rfl) (by kernel_rfl) (by decide) (fun _ _ _ => rfl) ⟨_, rfl, lb rfl, fun a b hp hw => ?_⟩
  have hP := mixedK
  simp only [iSt] at hw ⊢
  have hΓ := K16_sound
  repeat refine sq ?_
  refine rs hΓ [2,3] [[2, 0],[3, 0]] ?_
  refine cl_weakM (weakM_fboxk [2, 0] (stL a) rfl [2,3] [[2, 0],[3, 0]] ?_ rfl) ?_
  · simp only [go_sem]
  simp only [go_sem]
  refine cl_weakM (weakM_fboxk [3, 0] (stL b) rfl [2,3] [[2, 0],[3, 0]] ?_ rfl) ?_
  · simp only [go_sem]
  simp only [go_sem]
  repeat refine sq ?_
  refine rs hΓ [2,3,5] [[2, 0],[3, 0]] ?_
  repeat refine sq ?_
  refine cl_block ?_
  repeat refine sq ?_
  refine cl_loop'  (fun z : Nat => [(5, ⟨true, .v (vInt z)⟩)]) (fun z => []) (fun z => z ≤ 6 ∧ ∀ j, j < z → a.un.get j = b.un.get j) (fun z => 6 - z) 0 ?_ ?_ ?_ ?_
  · exact ⟨Nat.zero_le _, fun j h => by omega⟩
  · rfl
  · rfl
  rintro i ⟨hi, hR⟩
  simp only [go_sem]
  repeat refine sq ?_
  refine rs hΓ [2,3,5,7] [[2, 0],[3, 0]] ?_
  repeat refine sq ?_
  refine cl_cond rfl rfl (fun hb => ?_) fun hb => ?_
  · skip
    have hlt : i < 6 := by have hq : (i : Int) < 6 := (by simpa using hb); omega
    have hlt' : (i : Int) < 6 := by omega
    clear hb
    repeat refine sq ?_
    refine cl_skip ?_
    repeat refine sq ?_
    refine cl_block ?_
    repeat refine sq ?_
    refine dx hΓ hP [[], [], [0, 1], [0, 1, 2], [], [], [4, 5], [4, 5, 6], [0, 1, 2, 3, 4, 5, 6, 7], [0, 1, 2, 3, 4, 5, 6, 7, 8]] [2,3,5,19] [[2, 0],[3, 0]] (by kernel_rfl) (fun K' hK => by simp only [go_sem, Int.toNat_natCast, Int.natCast_nonneg, hlt', stL_un_at a hlt, stL_un_at b hlt, Int.toNat_natCast, Int.natCast_nonneg, hlt']; (repeat (refine ⟨ob, ?_⟩)); (first | refine ⟨by rfl, ?_⟩ | skip); exact hK _ (by simp only [go_sem]) (by simp only [go_sem] <;> rfl)) ?_
    repeat refine sq ?_
    refine cl_cond rfl rfl (fun hb => ?_) fun hb => ?_
    · skip
      repeat refine sq ?_
      have hbad : a ≠ b := by
        rintro rfl
        simp at hb
      repeat refine sq ?_
      refine rx hΓ [4] [] (fun K' hK => by simp only [go_sem, Int.toNat_natCast, Int.natCast_nonneg, hlt']; (repeat (refine ⟨ob, ?_⟩)); exact hK _ (by simp only [go_sem]) (by simp only [go_sem] <;> rfl)) ?_
      refine cl_ret ?_
      simp only [go_sem]
      rw [decide_eq_false hbad]
    · skip
      repeat refine sq ?_
      refine cl_skip ?_
      refine cl_nil ?_
      simp only [go_sem]
      refine kp [2,3,5] [[2, 0],[3, 0]] ?_
      repeat refine sq ?_
      refine cl_r hΓ fun K' hK => ?_
      simp only [go_sem, Int.toNat_natCast, Int.natCast_nonneg, hlt']
      repeat refine ⟨ob, ?_⟩
      refine hK _ ?_
      clear K' hK
      simp only [go_sem]
      refine ⟨i + 1, ⟨hlt, ?_⟩, by (show 6 - (i + 1) < 6 - i; omega), ?_⟩
      · skip
        intro j hj
        rcases Nat.lt_succ_iff_lt_or_eq.1 hj with h1 | rfl
        · exact hR j h1
        · simpa using hb
      refine weak_eq [2,3,5] [[2, 0],[3, 0]] ?_ ?_
      · simp only [go_sem, wrap_succ hlt (lb rfl : (6 : Nat) ≤ maxLen), Int.natCast_add, Int.natCast_one]
      · simp only [go_sem, wrap_succ hlt (lb rfl : (6 : Nat) ≤ maxLen), Int.natCast_add, Int.natCast_one]
  · skip
    have hge : i = 6 := by
      have : ¬ (i : Int) < 6 := by simpa using hb
      omega
    clear hb
    subst hge
    repeat refine sq ?_
    refine cl_exit ?_
    simp only [go_sem]
    refine kp [2,3] [[2, 0],[3, 0]] ?_
    repeat refine sq ?_
    refine rs hΓ [4] [] ?_
    refine cl_ret ?_
    simp only [go_sem]
    rw [st_same (six_ext hR)]; simp [Bool.and_assoc]
theorem k24 : SSound Tryz.prog 24 S24 := s24.sound
/-! equal bags and desks -/
theorem bag_same {a b : Bag} : decide (a = b) = ((a.fr == b.fr && a.to == b.to && a.ta == b.ta) && decide (a.ps = b.ps)) := by
  obtain ⟨f1, t1, p1, x1⟩ := a
  obtain ⟨f2, t2, p2, x2⟩ := b
  rw [Bool.eq_iff_iff]
  simp only [decide_eq_true_eq, Bool.and_eq_true, Bag.mk.injEq, beq_iff_eq]
  constructor
  · rintro ⟨h1, h2, h3, h4⟩; exact ⟨⟨⟨h1, h2⟩, h4⟩, h3⟩
  · rintro ⟨⟨⟨h1, h2⟩, h4⟩, h3⟩; exact ⟨h1, h2, h3, h4⟩
noncomputable def K17 : List (Nat × Spec) := [(75, S75)]
theorem K17_sound : ∀ f s, tbl K17 f = some s → SSound Tryz.prog f s := tc k75 <| tn
attribute [go_sem] K17
noncomputable def P33 : PSpec := p2 iBg iBg (fun _ _ => True) (fun a b => .bool (decide (a = b))) true
noncomputable def S33 : Spec := P33.toSpec
attribute [go_sem] P33 S33
set_option maxHeartbeats 4000000 in
theorem s33 : PSound Tryz.prog 33 P33 := by
  refine w2 (rs := [.tmp 4]) Tryz.func33 Tryz.ntmps33 (by rfl) (by kernel_rfl) (by decide) (fun _ _ _ => rfl) ⟨_, rfl, lb rfl, fun a b hp hw => ?_⟩
  have hP := mixedK
  simp only [iBg] at hw ⊢
  have hΓ := K17_sound
  repeat refine sq ?_
  refine rs hΓ [2,3] [[2, 0],[3, 0]] ?_
  refine cl_weakM (weakM_fboxk [2, 0] (bgL a) rfl [2,3] [[2, 0],[3, 0]] ?_ rfl) ?_
  · simp only [go_sem]
  simp only [go_sem]
  refine cl_weakM (weakM_fboxk [3, 0] (bgL b) rfl [2,3] [[2, 0],[3, 0]] ?_ rfl) ?_
  · simp only [go_sem]
  simp only [go_sem]
  repeat refine sq ?_
  refine rs hΓ [4] [] ?_
  refine cl_ret ?_
  simp only [go_sem]
  rw [bag_same]; congr 1; rw [Bool.eq_iff_iff]; simp [and_assoc]
theorem k33 : SSound Tryz.prog 33 S33 := s33.sound
theorem dkL_co (d : Dk) {i : Nat} (h : i < 2) : (dkL d).getD (20 + i * 21) default = vInt (d.pg i).co := by
  match i, h with
  | 0, _ => rfl
  | 1, _ => rfl
theorem dkL_su (d : Dk) {i : Nat} (h : i < 2) : (dkL d).getD (20 + i * 21 + 20) default = vInt (d.pg i).su := by
  match i, h with
  | 0, _ => rfl
  | 1, _ => rfl
theorem dkL_stk (d : Dk) {i : Nat} (h : i < 2) : ((dkL d).drop (20 + i * 21 + 1)).take 19 = stL (d.pg i).st := by
  match i, h with
  | 0, _ => rfl
  | 1, _ => rfl
theorem pg_ext {a b : Pg} (h1 : a.co = b.co) (h2 : a.su = b.su) (h3 : a.st = b.st) : a = b := by
  obtain ⟨a1, a2, a3⟩ := a
  obtain ⟨b1, b2, b3⟩ := b
  simp only at h1 h2 h3
  subst h1 h2 h3
  rfl
theorem dk_same {a b : Dk} (h : ∀ j, j < 2 → a.pg j = b.pg j) : decide (a = b) = ((a.me == b.me && a.wet == b.wet) && decide (a.now = b.now)) := by
  have h0 := h 0 (by omega)
  have h1 := h 1 (by omega)
  obtain ⟨m1, n1, p1, q1, w1⟩ := a
  obtain ⟨m2, n2, p2, q2, w2⟩ := b
  simp only [Dk.pg] at h0 h1
  subst h0 h1
  rw [Bool.eq_iff_iff]
  simp only [decide_eq_true_eq, Bool.and_eq_true, Dk.mk.injEq, beq_iff_eq, true_and]
  constructor
  · rintro ⟨h1, h2, h3⟩; exact ⟨⟨h1, h3⟩, h2⟩
  · rintro ⟨⟨h1, h3⟩, h2⟩; exact ⟨h1, h2, h3⟩
noncomputable def K17b : List (Nat × Spec) := [(24, S24)]
theorem K17b_sound : ∀ f s, tbl K17b f = some s → SSound Tryz.prog f s := tc k24 <| tn
attribute [go_sem] K17b
noncomputable def P18 : PSpec := p2 iDk iDk (fun _ _ => True) (fun a b => .bool (decide (a = b))) true
noncomputable def S18 : Spec := P18.toSpec
attribute [go_sem] P18 S18
set_option maxHeartbeats 4000000 in
theorem s18 : PSound Tryz.prog 18 P18 := by
  refine w2 (rs := [.tmp 4]) Tryz.func18 Tryz.ntmps18 (by rfl) (by kernel_rfl) (by decide) (fun _ _ _ => rfl) ⟨_, rfl, lb rfl, fun a b hp hw => ?_⟩
  have hP := mixedK
  simp only [iDk] at hw ⊢
  have hΓ := K17b_sound
  repeat refine sq ?_
  refine rs hΓ [2,3] [[2, 0],[3, 0]] ?_
  refine cl_weakM (weakM_fboxk [2, 0] (dkL a) rfl [2,3] [[2, 0],[3, 0]] ?_ rfl) ?_
  · simp only [go_sem]
  simp only [go_sem]
  refine cl_weakM (weakM_fboxk [3, 0] (dkL b) rfl [2,3] [[2, 0],[3, 0]] ?_ rfl) ?_
  · simp only [go_sem]
  simp only [go_sem]
  repeat refine sq ?_
  refine rs hΓ [2,3,5] [[2, 0],[3, 0]] ?_
  repeat refine sq ?_
  refine cl_block ?_
  repeat refine sq ?_
  refine cl_loop'  (fun z : Nat => [(5, ⟨true, .v (vInt z)⟩)]) (fun z => []) (fun z => z ≤ 2 ∧ ∀ j, j < z → a.pg j = b.pg j) (fun z => 2 - z) 0 ?_ ?_ ?_ ?_
  · exact ⟨Nat.zero_le _, fun j h => by omega⟩
  · rfl
  · rfl
  rintro i ⟨hi, hR⟩
  simp only [go_sem]
  repeat refine sq ?_
  refine rs hΓ [2,3,5,7] [[2, 0],[3, 0]] ?_
  repeat refine sq ?_
  refine cl_cond rfl rfl (fun hb => ?_) fun hb => ?_
  · skip
    have hlt : i < 2 := by have hq : (i : Int) < 2 := (by simpa using hb); omega
    have hlt' : (i : Int) < 2 := by omega
    clear hb
    repeat refine sq ?_
    refine cl_skip ?_
    repeat refine sq ?_
    refine cl_block ?_
    repeat refine sq ?_
    refine dx hΓ hP [[], [], [0, 1], [0, 1, 2], [0, 1, 2, 3], [], [], [5, 6], [5, 6, 7], [5, 6, 7, 8], [0, 1, 2, 3, 4, 5, 6, 7, 8, 9], [0, 1, 2, 3, 4, 5, 6, 7, 8, 9, 10], [0, 1, 2, 3, 4, 5, 6, 7, 8, 9, 10, 11], [0, 1, 2, 3, 4, 5, 6, 7, 8, 9, 10, 11], [0, 1, 2, 3, 4, 5, 6, 7, 8, 9, 10, 11, 12, 13], [0, 1, 2, 3, 4, 5, 6, 7, 8, 9, 10, 11, 12, 13, 14], [0, 1, 2, 3, 4, 5, 6, 7, 8, 9, 10, 11, 12, 13, 14, 15], [0, 1, 2, 3, 4, 5, 6, 7, 8, 9, 10, 11], [0, 1, 2, 3, 4, 5, 6, 7, 8, 9, 10, 11], [0, 1, 2, 3, 4, 5, 6, 7, 8, 9, 10, 11, 17, 18], [0, 1, 2, 3, 4, 5, 6, 7, 8, 9, 10, 11, 17, 18, 19], [0, 1, 2, 3, 4, 5, 6, 7, 8, 9, 10, 11, 17, 18, 19, 20], [0, 1, 2, 3, 4, 5, 6, 7, 8, 9, 10, 11, 12, 13, 14, 15, 16, 17, 18, 19, 20, 21], [0, 1, 2, 3, 4, 5, 6, 7, 8, 9, 10, 11, 12, 13, 14, 15, 16, 17, 18, 19, 20, 21, 22], [0, 1, 2, 3, 4, 5, 6, 7, 8, 9, 10, 11, 12, 13, 14, 15, 16, 17, 18, 19, 20, 21, 22, 23], [0, 1, 2, 3, 4, 5, 6, 7, 8, 9, 10, 11, 12, 13, 14, 15, 16, 17, 18, 19, 20, 21, 22, 23, 24], [0, 1, 2, 3, 4, 5, 6, 7, 8, 9, 10, 11, 12, 13, 14, 15, 16, 17, 18, 19, 20, 21, 22, 23, 24], [0, 1, 2, 3, 4, 5, 6, 7, 8, 9, 10, 11, 12, 13, 14, 15, 16, 17, 18, 19, 20, 21, 22, 23, 24, 25, 26], [0, 1, 2, 3, 4, 5, 6, 7, 8, 9, 10, 11, 12, 13, 14, 15, 16, 17, 18, 19, 20, 21, 22, 23, 24, 25, 26, 27], [0, 1, 2, 3, 4, 5, 6, 7, 8, 9, 10, 11, 12, 13, 14, 15, 16, 17, 18, 19, 20, 21, 22, 23, 24, 25, 26, 27, 28], [0, 1, 2, 3, 4, 5, 6, 7, 8, 9, 10, 11, 12, 13, 14, 15, 16, 17, 18, 19, 20, 21, 22, 23, 24], [0, 1, 2, 3, 4, 5, 6, 7, 8, 9, 10, 11, 12, 13, 14, 15, 16, 17, 18, 19, 20, 21, 22, 23, 24], [0, 1, 2, 3, 4, 5, 6, 7, 8, 9, 10, 11, 12, 13, 14, 15, 16, 17, 18, 19, 20, 21, 22, 23, 24, 30, 31], [0, 1, 2, 3, 4, 5, 6, 7, 8, 9, 10, 11, 12, 13, 14, 15, 16, 17, 18, 19, 20, 21, 22, 23, 24, 30, 31, 32], [0, 1, 2, 3, 4, 5, 6, 7, 8, 9, 10, 11, 12, 13, 14, 15, 16, 17, 18, 19, 20, 21, 22, 23, 24, 30, 31, 32, 33], [0, 1, 2, 3, 4, 5, 6, 7, 8, 9, 10, 11, 12, 13, 14, 15, 16, 17, 18, 19, 20, 21, 22, 23, 24, 25, 26, 27, 28, 29, 30, 31, 32, 33, 34], [0, 1, 2, 3, 4, 5, 6, 7, 8, 9, 10, 11, 12, 13, 14, 15, 16, 17, 18, 19, 20, 21, 22, 23, 24, 25, 26, 27, 28, 29, 30, 31, 32, 33, 34, 35], [0, 1, 2, 3, 4, 5, 6, 7, 8, 9, 10, 11, 12, 13, 14, 15, 16, 17, 18, 19, 20, 21, 22, 23, 24, 25, 26, 27, 28, 29, 30, 31, 32, 33, 34, 35, 36]] [2,3,5,47] [[2, 0],[3, 0]] (by kernel_rfl) (fun K' hK => by simp only [go_sem, Int.toNat_natCast, Int.natCast_nonneg, hlt', Nat.add_zero, dkL_co a hlt, dkL_co b hlt, dkL_su a hlt, dkL_su b hlt, dkL_stk a hlt, dkL_stk b hlt, Int.toNat_natCast, Int.natCast_nonneg, hlt']; (repeat (refine ⟨ob, ?_⟩)); (first | refine ⟨by rfl, ?_⟩ | skip); exact hK _ (by simp only [go_sem]) (by simp only [go_sem] <;> rfl)) ?_
    repeat refine sq ?_
    refine cl_cond rfl rfl (fun hb => ?_) fun hb => ?_
    · skip
      repeat refine sq ?_
      have hbad : a ≠ b := by
        rintro rfl
        simp at hb
      repeat refine sq ?_
      refine rx hΓ [4] [] (fun K' hK => by simp only [go_sem, Int.toNat_natCast, Int.natCast_nonneg, hlt']; (repeat (refine ⟨ob, ?_⟩)); exact hK _ (by simp only [go_sem]) (by simp only [go_sem] <;> rfl)) ?_
      refine cl_ret ?_
      simp only [go_sem]
      rw [decide_eq_false hbad]
    · skip
      repeat refine sq ?_
      refine cl_skip ?_
      refine cl_nil ?_
      simp only [go_sem]
      refine kp [2,3,5] [[2, 0],[3, 0]] ?_
      repeat refine sq ?_
      refine cl_r hΓ fun K' hK => ?_
      simp only [go_sem, Int.toNat_natCast, Int.natCast_nonneg, hlt']
      repeat refine ⟨ob, ?_⟩
      refine hK _ ?_
      clear K' hK
      simp only [go_sem]
      refine ⟨i + 1, ⟨hlt, ?_⟩, by (show 2 - (i + 1) < 2 - i; omega), ?_⟩
      · skip
        intro j hj
        rcases Nat.lt_succ_iff_lt_or_eq.1 hj with h1 | rfl
        · exact hR j h1
        · (simp at hb; exact pg_ext hb.1.1 hb.1.2 hb.2)
      refine weak_eq [2,3,5] [[2, 0],[3, 0]] ?_ ?_
      · simp only [go_sem, wrap_succ hlt (lb rfl : (2 : Nat) ≤ maxLen), Int.natCast_add, Int.natCast_one]
      · simp only [go_sem, wrap_succ hlt (lb rfl : (2 : Nat) ≤ maxLen), Int.natCast_add, Int.natCast_one]
  · skip
    have hge : i = 2 := by
      have : ¬ (i : Int) < 2 := by simpa using hb
      omega
    clear hb
    subst hge
    repeat refine sq ?_
    refine cl_exit ?_
    simp only [go_sem]
    refine kp [2,3] [[2, 0],[3, 0]] ?_
    repeat refine sq ?_
    refine rs hΓ [4] [] ?_
    refine cl_ret ?_
    simp only [go_sem]
    rw [dk_same hR]; congr 1; rw [Bool.eq_iff_iff]; simp [and_assoc]
theorem k18 : SSound Tryz.prog 18 S18 := s18.sound
end Go.Eng
