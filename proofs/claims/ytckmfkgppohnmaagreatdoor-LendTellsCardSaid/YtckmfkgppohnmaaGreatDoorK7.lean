import Derived.Test.YtckmfkgppohnmaaGreatDoorK6
import Derived.Shelf.Strings.BuilderK
import Derived.Shelf.Strconv.Itoa3
import Derived.Test.YtckmfkgppohnmaaGreatDoorProg
import Derived.WalkKit
import Derived.BigCall
import Derived.KernelRfl
import Derived.Lib.ItoaLen
/- Texts NB to NW8. -/
set_option linter.all false
set_option linter.unusedVariables false
namespace Go.Proofs
open Go Go.Shelf Go.RowKit
def Tryz.lays171_ren : Shelf.Ren := ⟨fun | 171 => 123 | 243 => 133 | 246 => 140 | 283 => 149 | 284 => 150 | 285 => 151 | 286 => 152 | 129 => 161 | 317 => 160 | 318 => 162 | 319 => 163 | 320 => 164 | 337 => 172 | 338 => 173 | n => n, fun | 3 => 3 | 9 => 9 | 2 => 2 | 4 => 4 | 171 => 187 | 0 => 0 | 53 => 188 | 37 => 136 | 5 => 5 | 173 => 191 | 212 => 205 | 51 => 206 | 20 => 20 | 213 => 207 | 46 => 134 | 232 => 221 | 233 => 222 | n => n, fun | 17 => 2 | 18 => 6 | 19 => 7 | n => n⟩
theorem Tryz.lays171 : LaysM.n171 Tryz.prog Tryz.lays171_ren := {
  mixed := by kernel_rfl,
  f129 := Tryz.func161.trans (congrArg some (by kernel_rfl)),
  f171 := Tryz.func123.trans (congrArg some (by kernel_rfl)),
  f243 := Tryz.func133.trans (congrArg some (by kernel_rfl)),
  f246 := Tryz.func140.trans (congrArg some (by kernel_rfl)),
  f283 := Tryz.func149.trans (congrArg some (by kernel_rfl)),
  f284 := Tryz.func150.trans (congrArg some (by kernel_rfl)),
  f285 := Tryz.func151.trans (congrArg some (by kernel_rfl)),
  f286 := Tryz.func152.trans (congrArg some (by kernel_rfl)),
  f317 := Tryz.func160.trans (congrArg some (by kernel_rfl)),
  f318 := Tryz.func162.trans (congrArg some (by kernel_rfl)),
  f319 := Tryz.func163.trans (congrArg some (by kernel_rfl)),
  f320 := Tryz.func164.trans (congrArg some (by kernel_rfl)),
  f337 := Tryz.func172.trans (congrArg some (by kernel_rfl)),
  f338 := Tryz.func173.trans (congrArg some (by kernel_rfl)),
  t0 := Tryz.underlying0,
  a0 := Tryz.isAgg0,
  z0 := Tryz.sizeOf0,
  v0 := Tryz.zeroValue0,
  t2 := Tryz.underlying2,
  a2 := Tryz.isAgg2,
  z2 := Tryz.sizeOf2,
  v2 := Tryz.zeroValue2,
  t3 := Tryz.underlying3,
  a3 := Tryz.isAgg3,
  z3 := Tryz.sizeOf3,
  v3 := Tryz.zeroValue3,
  t4 := Tryz.underlying4,
  a4 := Tryz.isAgg4,
  z4 := Tryz.sizeOf4,
  v4 := Tryz.zeroValue4,
  t5 := Tryz.underlying5,
  a5 := Tryz.isAgg5,
  z5 := Tryz.sizeOf5,
  v5 := Tryz.zeroValue5,
  t9 := Tryz.underlying9,
  a9 := Tryz.isAgg9,
  z9 := Tryz.sizeOf9,
  v9 := Tryz.zeroValue9,
  t20 := Tryz.underlying20,
  a20 := Tryz.isAgg20,
  z20 := Tryz.sizeOf20,
  v20 := Tryz.zeroValue20,
  t37 := Tryz.underlying136,
  a37 := Tryz.isAgg136,
  z37 := Tryz.sizeOf136,
  v37 := Tryz.zeroValue136,
  t46 := Tryz.underlying134,
  a46 := Tryz.isAgg134,
  z46 := Tryz.sizeOf134,
  v46 := Tryz.zeroValue134,
  t51 := Tryz.underlying206,
  a51 := Tryz.isAgg206,
  z51 := Tryz.sizeOf206,
  v51 := Tryz.zeroValue206,
  t53 := Tryz.underlying188,
  a53 := Tryz.isAgg188,
  z53 := Tryz.sizeOf188,
  v53 := Tryz.zeroValue188,
  t171 := Tryz.underlying187,
  a171 := Tryz.isAgg187,
  z171 := Tryz.sizeOf187,
  v171 := Tryz.zeroValue187,
  t173 := Tryz.underlying191,
  a173 := Tryz.isAgg191,
  z173 := Tryz.sizeOf191,
  v173 := Tryz.zeroValue191,
  t212 := Tryz.underlying205,
  a212 := Tryz.isAgg205,
  z212 := Tryz.sizeOf205,
  v212 := Tryz.zeroValue205,
  t213 := Tryz.underlying207,
  a213 := Tryz.isAgg207,
  z213 := Tryz.sizeOf207,
  t232 := Tryz.underlying221,
  a232 := Tryz.isAgg221,
  z232 := Tryz.sizeOf221,
  v232 := Tryz.zeroValue221,
  t233 := Tryz.underlying222,
  a233 := Tryz.isAgg222,
  z233 := Tryz.sizeOf222,
  v233 := Tryz.zeroValue222,
  g17 := by kernel_rfl,
  g18 := by kernel_rfl,
  g19 := by kernel_rfl,
  i0 := by kernel_rfl,
  i2 := by kernel_rfl,
  i3 := by kernel_rfl,
  i4 := by kernel_rfl,
  i5 := by kernel_rfl,
  i9 := by kernel_rfl,
  i20 := by kernel_rfl,
  i37 := by kernel_rfl,
  i46 := by kernel_rfl,
  i51 := by kernel_rfl,
  i53 := by kernel_rfl,
  i171 := by kernel_rfl,
  i173 := by kernel_rfl,
  i212 := by kernel_rfl,
  i232 := by kernel_rfl,
  i233 := by kernel_rfl,
  m17 := by kernel_rfl,
  m18 := by kernel_rfl,
  m19 := by kernel_rfl }
def Tryz.lays169_ren : Shelf.Ren := ⟨fun | 169 => 124 | n => n, fun | 70 => 156 | 9 => 9 | 0 => 0 | 72 => 158 | 37 => 136 | 127 => 169 | 3 => 3 | 5 => 5 | n => n, fun | n => n⟩
theorem Tryz.lays169 : Lays.n169 Tryz.prog Tryz.lays169_ren := {
  mixed := by kernel_rfl,
  f169 := Tryz.func124.trans (congrArg some (by kernel_rfl)),
  t0 := Tryz.underlying0,
  a0 := Tryz.isAgg0,
  z0 := Tryz.sizeOf0,
  v0 := Tryz.zeroValue0,
  t3 := Tryz.underlying3,
  a3 := Tryz.isAgg3,
  z3 := Tryz.sizeOf3,
  v3 := Tryz.zeroValue3,
  t9 := Tryz.underlying9,
  a9 := Tryz.isAgg9,
  z9 := Tryz.sizeOf9,
  v9 := Tryz.zeroValue9,
  t37 := Tryz.underlying136,
  a37 := Tryz.isAgg136,
  z37 := Tryz.sizeOf136,
  v37 := Tryz.zeroValue136,
  t70 := Tryz.underlying156,
  a70 := Tryz.isAgg156,
  z70 := Tryz.sizeOf156,
  v70 := Tryz.zeroValue156,
  t72 := Tryz.underlying158,
  a72 := Tryz.isAgg158,
  z72 := Tryz.sizeOf158,
  v72 := Tryz.zeroValue158,
  t127 := Tryz.underlying169,
  a127 := Tryz.isAgg169,
  z127 := Tryz.sizeOf169,
  v127 := Tryz.zeroValue169 }
theorem Tryz.bldX : Builder.Extra Tryz.prog Tryz.lays169_ren := {
  sizeBuilder := by kernel_rfl,
  liesBuilder := by kernel_rfl,
  t5 := Tryz.underlying5,
  a5 := Tryz.isAgg5,
  z5 := Tryz.sizeOf5,
  v5 := Tryz.zeroValue5,
  infoByte := by kernel_rfl,
  cellsByte := by kernel_rfl,
  sizeByte := by kernel_rfl,
  neB5 := by decide }
end Go.Proofs
namespace Go.Eng
open Go Go.Proofs Go.Shelf Go.RowKit
/-! strings.Builder and strconv.Itoa at this program -/
set_option maxHeartbeats 1000000 in
set_option maxRecDepth 100000 in
theorem bl_used (b : Nat) (w : World) (h0 : w.cell? ⟨b, 0, none⟩ = some (.pointer (some ⟨b, 0, none⟩))) :
    Calls Tryz.prog 132 #[.pointer (some ⟨b, 0, none⟩)] w fun e w' => e = .returned (.tuple #[]) ∧ w' = w := by
  obtain ⟨j, hj, _⟩ := Option.map_eq_some_iff.1 Tryz.bldX.sizeBuilder
  have mixed : Tryz.prog.follows Departure.mixedOrders = true := by kernel_rfl
  go_enter Tryz.func132, Tryz.ntmps132
  go_wp2
  rw [Lib.run_neq_ptr_same w _ Tryz.underlying156 hj]
  go_wp2
  go_end0
  exact ⟨rfl, rfl⟩
set_option maxHeartbeats 1000000 in
set_option maxRecDepth 100000 in
theorem bl_fresh (b : Nat) (w : World) (h0 : w.cell? ⟨b, 0, none⟩ = some (.pointer none)) (hsh : w.shape? b = some (158, 2)) (hfz : w.frozen? ⟨b, 0, none⟩ = false) :
    Calls Tryz.prog 132 #[.pointer (some ⟨b, 0, none⟩)] w fun e w' => e = .returned (.tuple #[]) ∧ w' = w.setCell ⟨b, 0, none⟩ (.pointer (some ⟨b, 0, none⟩)) := by
  obtain ⟨j, hj, hjs⟩ := Option.map_eq_some_iff.1 Tryz.bldX.sizeBuilder
  have mixed : Tryz.prog.follows Departure.mixedOrders = true := by kernel_rfl
  go_enter Tryz.func132, Tryz.ntmps132
  go_wp2
  rw [Lib.run_to_unsafe w ⟨b, 0, none⟩ Tryz.underlying156 Tryz.underlying176 hj (by rw [hjs]; decide) hsh (Nat.zero_lt_succ 1)]
  simp only [Result.andThen]
  rw [Oper.upon_value]
  go_wp2
  rw [run_callFunc_extern Tryz.func139 (by kernel_rfl) (by kernel_rfl) (by kernel_rfl) (e := Extern.AbiNoEscape.same) (by kernel_rfl)]
  rw [Lib.run_noEscape]
  simp only [Result.andThen]
  rw [Oper.upon_value]
  go_wp2
  rw [Lib.run_from_unsafe w ⟨b, 0, none⟩ Tryz.underlying176 Tryz.underlying156 hj hsh Tryz.bldX.liesBuilder]
  simp only [Result.andThen]
  rw [Oper.upon_value]
  go_wp2
  go_end0
  exact ⟨rfl, rfl⟩
theorem bl_check (b : Nat) (bs : List Value) (w : World) (h : Lib.IsBuilderF 158 5 b b bs w) :
    Calls Tryz.prog 132 #[.pointer (some ⟨b, 0, none⟩)] w fun e w' => e = .returned (.tuple #[]) ∧ (Lib.BuilderAtF 158 5 b b (.pointer (some ⟨b, 0, none⟩)) bs w' ∧ Below b w w') := by
  rcases h with h | h
  · refine (bl_fresh b w h.cell0 h.shape h.frozen0).mono ?_
    rintro e w' ⟨rfl, rfl⟩
    exact ⟨rfl, h.used _, (Below.refl b w).setCell (p := ⟨b, 0, none⟩) h.1 _⟩
  · refine (bl_used b w h.cell0).mono ?_
    rintro e w' ⟨rfl, rfl⟩
    exact ⟨rfl, h, Below.refl b _⟩
set_option maxHeartbeats 2000000 in
set_option maxRecDepth 100000 in
theorem bl_write (b : Nat) (bs : List Value) (s : ByteArray) (w : World) (h : Lib.IsBuilderF 158 5 b b bs w) (hlen : bs.length + s.size ≤ 140737488355328) (hbw : b ≤ w.heap.size) :
    Calls Tryz.prog 122 #[.pointer (some ⟨b, 0, none⟩), .string s] w fun e w' => e = .returned (.tuple #[.int .i64 s.size, .nilIface]) ∧ (Lib.IsBuilderF 158 5 b b (bs ++ Lib.strCells s) w' ∧ Below b w w') := by
  obtain ⟨i0, hi, hz0, hz1, hz2⟩ := info_parts Tryz.bldX.infoByte
  have mixed : Tryz.prog.follows Departure.mixedOrders = true := by kernel_rfl
  go_enter Tryz.func122, Tryz.ntmps122
  go_wp2_with (go_at_call 132; refine (bl_check b bs _ h).mono ?_)
  rintro e w1 ⟨rfl, h1, hb1⟩
  obtain ⟨hB, v, hbk, hown, hne⟩ := h1
  have c0 : w1.cell? ⟨b, 0, none⟩ = some (.pointer (some ⟨b, 0, none⟩)) := by rw [Lib.cell_of_heap hbk]; rfl
  have c1 : w1.cell? ⟨b, 1, none⟩ = some v := by rw [Lib.cell_of_heap hbk]; rfl
  go_wp2_with (at_builtin; refine Lib.wpList_append_own_stringF _ rfl _ _ 136 9 rfl b 5 i0 Tryz.underlying136 Tryz.underlying9 hi hz0 hz1 hz2 _ _ _ rfl hown s rfl ?c3 ?c4 ?c5 ?_)
  case c3 => unfold maxLen; omega
  case c4 => omega
  case c5 => have := hb1.size; omega
  intro v' w2 hown' hgrow _
  have hlt : b < w1.heap.size := by
    rcases Nat.lt_or_ge b w1.heap.size with h' | h'
    · exact h'
    · simp [Array.getElem?_eq_none h'] at hbk
  have hb2 : w2.heap[b]? = some (.cells #[.pointer (some ⟨b, 0, none⟩), v] 158 (0, 0)) := by
    rw [hgrow.block b hlt (fun e => hne e.symm)]
    exact hbk
  have d0 : w2.cell? ⟨b, 0, none⟩ = some (.pointer (some ⟨b, 0, none⟩)) := by rw [Lib.cell_of_heap hb2]; rfl
  have d1 : w2.cell? ⟨b, 1, none⟩ = some v := by rw [Lib.cell_of_heap hb2]; rfl
  have f1 : w2.frozen? ⟨b, 1, none⟩ = false := Lib.frozen_of_heap hb2 1
  obtain ⟨ao, n', cap, rfl⟩ : ∃ ao n' cap, v' = .slice ao n' cap := by
    rcases hown'.2 with ⟨hv, _⟩ | ⟨g, cap, cur, fz, hv, _⟩
    · exact ⟨_, _, _, hv⟩
    · exact ⟨_, _, _, hv⟩
  go_wp2
  go_ret2
  refine ⟨rfl, .inr ?_, ?_⟩
  · exact Lib.BuilderAtF.put (T := 158) (e := 5) hB hb2 (bs' := bs ++ Lib.strCells s) (by simpa [Lib.strCells_length] using hown') (by decide)
  · exact (hb1.grown hgrow (by have := hb1.size; omega) (fun k hk => (hown.lt k hk).1)).setCell (p := ⟨b, 1, none⟩) hB _
end Go.Eng
set_option linter.unusedVariables false
namespace Go.Eng
open Go Go.Proofs Go.Shelf Go.RowKit
/-! line: a word and numbers -/
theorem grownBy_grow (w : World) (k : Nat) (os : Array Obj) : w.grownBy (Go.Sort.grow (w.drewN k) os) none := by
  refine ⟨rfl, rfl, rfl, ?_, fun b hb _ => ?_⟩
  · show w.heap.size ≤ (w.heap ++ os).size
    rw [Array.size_append]; omega
  · show (w.heap ++ os)[b]? = _
    rw [Array.getElem?_append_left hb]
theorem bl_grow {b : Nat} {bs : List Value} {w : World} (h : Lib.IsBuilderF 158 5 b b bs w) (k : Nat) (os : Array Obj) : Lib.IsBuilderF 158 5 b b bs (Go.Sort.grow (w.drewN k) os) := by
  have key : ∀ p, Lib.BuilderAtF 158 5 b b p bs w → Lib.BuilderAtF 158 5 b b p bs (Go.Sort.grow (w.drewN k) os) := by
    intro p h
    have hlt := h.lt
    obtain ⟨hB, v, hb, hown, hne⟩ := h
    refine ⟨hB, v, ?_, hown.kept (grownBy_grow w k os) ?_, hne⟩
    · rw [(grownBy_grow w k os).block b hlt (by simp)]; exact hb
    · cases hv : v.ownBlock with
      | none => exact .inl rfl
      | some => exact .inr (by simp)
  exact h.elim (fun h => .inl (key _ h)) (fun h => .inr (key _ h))
theorem below_grow {b : Nat} {w w' : World} (h : Below b w w') (hb : b ≤ w.heap.size) (k : Nat) (os : Array Obj) : Below b w (Go.Sort.grow (w'.drewN k) os) := by
  refine h.grown (row := none) (grownBy_grow w' k os) ?_ (fun k hk => by cases hk)
  have := h.size
  omega
theorem tabs_below {w w' : World} (h : Tabs w) (hb : Below w.heap.size w w') : Tabs w' := fun q hq => by
  obtain ⟨T, f, e⟩ := h q hq
  exact ⟨T, f, (hb.block _ (Array.getElem?_eq_some_iff.1 e).1).trans e⟩
theorem tab_is {w : World} (h : Tabs w) {name : String} (hn : Tryz.prog.globalNamed name = some 2) : Lib.TabIs Tryz.prog w name .u64 Lib.pow10Tab := by
  obtain ⟨T, f, e⟩ := h _ (List.mem_singleton.2 rfl)
  unfold Lib.TabIs World.var?
  rw [hn]
  simp only [Option.bind_some, e]
theorem itoa_run (n : Int) (h0 : -9223372036854775808 ≤ n) (h1 : n ≤ 9223372036854775807) (w : World) (ht : Tabs w) :
    Calls Tryz.prog 123 #[.int .i64 n] w fun e w' => e = .returned (.string ⟨(Lib.itoa n).toArray⟩) ∧ ∃ k os, w' = Go.Sort.grow (w.drewN k) os :=
  Any.strconv_Itoa Tryz.lays171 n h0 h1 w (tab_is ht (by kernel_rfl))
def linePre (word : ByteArray) (l : List Int) (k : Nat) : List UInt8 := word.data.toList ++ (l.take k).flatMap fun n => 32 :: Lib.itoa n
def lineL (word : ByteArray) (l : List Int) : List UInt8 := linePre word l l.length ++ [10]
theorem linePre_succ (word : ByteArray) (l : List Int) {k : Nat} (h : k < l.length) : linePre word l (k + 1) = linePre word l k ++ (32 :: Lib.itoa l[k]) := by
  unfold linePre
  rw [List.take_add_one, List.getElem?_eq_getElem h, List.flatMap_append, List.append_assoc]
  simp
theorem linePre_len (word : ByteArray) (l : List Int) (hr : ∀ n ∈ l, -9223372036854775808 ≤ n ∧ n ≤ 9223372036854775807) : ∀ k, k ≤ l.length → (linePre word l k).length ≤ word.size + 22 * k
  | 0, _ => by
    unfold linePre
    rw [List.take_zero, List.flatMap_nil, List.append_nil, Array.length_toList]
    exact Nat.le_refl _
  | k + 1, h => by
    rw [linePre_succ word l (by omega), List.length_append, List.length_cons]
    have h1 := linePre_len word l hr k (by omega)
    have h2 := hr _ (List.getElem_mem (show k < l.length by omega))
    have h3 := Lib.itoa_length_le l[k] h2.1 h2.2
    omega
set_option maxHeartbeats 4000000 in
set_option maxRecDepth 100000 in
theorem line_calls (word : ByteArray) (a : Option Addr) (l : List Int) (cap : Nat) (w : World)
    (ha : l = [] ∨ ∃ bl o, a = some ⟨bl, o, none⟩ ∧ bl < w.heap.size ∧ ∀ i (h : i < l.length), w.cell? ⟨bl, o + i, none⟩ = some (.int .i64 l[i]))
    (hr : ∀ n ∈ l, -9223372036854775808 ≤ n ∧ n ≤ 9223372036854775807) (hw : word.size ≤ 1000) (hl : l.length ≤ 1000000) (ht : Tabs w) :
    Calls Tryz.prog 110 #[.string word, .slice a l.length cap] w fun e w' => e = .returned (.string ⟨(lineL word l).toArray⟩) ∧ Below w.heap.size w w' := by
  have mixed : Tryz.prog.follows Departure.mixedOrders = true := by kernel_rfl
  have h0 : Lib.IsBuilderF 158 5 w.heap.size w.heap.size [] (w.alloc (.cells #[.pointer none, .slice none 0 0] 158)) := Lib.IsBuilderF.of (Lib.fresh_isBuilder 158 5 w)
  have b0 : Below w.heap.size w (w.alloc (.cells #[.pointer none, .slice none 0 0] 158)) := (Below.refl _ w).alloc (Nat.le_refl _) _
  have hlen := linePre_len word l hr
  go_enter Tryz.func110, Tryz.ntmps110
  go_wp2_with (go_at_call 122; refine (bl_write w.heap.size [] word _ h0 (by simp; omega) b0.size).mono ?_; rintro e W1 ⟨rfl, h1, b1⟩)
  have h1' : Lib.IsBuilderF 158 5 w.heap.size w.heap.size (Lib.byteCells (linePre word l 0)) W1 := by
    rw [List.nil_append, Lib.strCells_eq] at h1
    unfold linePre
    simpa using h1
  have b1' := b0.trans b1
  clear h0 h1 b0 b1
  go_loopw [12] (fun i wr => ∃ k : Nat, k ≤ l.length ∧ i = .int .i64 k ∧ Lib.IsBuilderF 158 5 w.heap.size w.heap.size (Lib.byteCells (linePre word l k)) wr ∧ Below w.heap.size w wr) (fun i _ => l.length - (intOf i).toNat)
  case atStart => exact ⟨0, Nat.zero_le _, rfl, h1', b1'⟩
  case round =>
    obtain ⟨k, hk, rfl, hB, hb⟩ := hrel
    clear h1' b1'
    have htk := tabs_below ht hb
    have hsz := hb.size
    by_cases hlt : k < l.length
    · rcases ha with rfl | ⟨bl, o, rfl, hbl, hc⟩
      · simp at hlt
      have hcell : wr.cell? ⟨bl, o + k, none⟩ = some (.int .i64 l[k]) := by
        rw [← hc k hlt]
        unfold World.cell?
        rw [hb.block bl hbl]
      have hrk := hr _ (List.getElem_mem hlt)
      have hL := hlen k hk
      have hit := Lib.itoa_length_le l[k] hrk.1 hrk.2
      have hlt' : (k : Int) < (l.length : Int) := by omega
      have hcells : (⟨#[32]⟩ ++ ⟨(Lib.itoa l[k]).toArray⟩ : ByteArray) = ⟨(32 :: Lib.itoa l[k]).toArray⟩ := by
        apply ByteArray.ext
        simp
      have hsz2 : (⟨(32 :: Lib.itoa l[k]).toArray⟩ : ByteArray).size = (Lib.itoa l[k]).length + 1 := by
        show ((32 :: Lib.itoa l[k]).toArray).size = _
        rw [List.size_toArray, List.length_cons]
      go_wp2_with (first
        | (go_at_call 123; refine (itoa_run l[k] hrk.1 hrk.2 _ htk).mono ?_; rintro e W2 ⟨rfl, kk, os, rfl⟩)
        | (go_at_call 122; refine (bl_write w.heap.size _ _ _ (bl_grow hB _ _) ?sz ?le).mono ?_))
      case sz => rw [Lib.byteCells_length, hsz2]; omega
      case le => rw [Go.Sort.size_grow]; show w.heap.size ≤ wr.heap.size + _; omega
      rintro e W3 ⟨rfl, h3, b3⟩
      have h3' : Lib.IsBuilderF 158 5 w.heap.size w.heap.size (Lib.byteCells (linePre word l (k + 1))) W3 := by
        rw [Lib.strCells_eq, ← Lib.byteCells_append] at h3
        rw [linePre_succ word l hlt]
        exact h3
      have hb3 : Below w.heap.size w W3 := (below_grow hb (Nat.le_refl _) kk os).trans b3
      go_wp2
      go_roundw
      case rel => exact ⟨k + 1, hlt, by first | (simp [IntKind.wrap_i64]; done) | (simp [IntKind.wrap_i64]; omega), h3', hb3⟩
      case measure =>
        simp [intOf, IntKind.wrap_i64]
        omega
    · have hkl : k = l.length := by omega
      subst hkl
      have hL := hlen l.length (Nat.le_refl _)
      go_wp2_with (go_at_call 124; refine (Any.Builder_String_any_k Tryz.lays169 Tryz.bldX w.heap.size w.heap.size _ _ hB hb.size).mono ?_; rintro e W3 ⟨rfl, h3, b3, -⟩)
      go_wp2
      go_ret
      refine ⟨?_, hb.trans b3⟩
      have : (⟨(linePre word l l.length).toArray⟩ ++ ⟨#[10]⟩ : ByteArray) = ⟨(lineL word l).toArray⟩ := by
        apply ByteArray.ext
        simp [lineL]
      simp [this]
open Go Go.Proofs
/-! line as a contract -/
def lineV (w : ByteArray) (l : List Int) : ByteArray := ⟨(lineL w l).toArray⟩
def i64B (n : Int) : Prop := -9223372036854775808 ≤ n ∧ n ≤ 9223372036854775807
noncomputable def P110 : PSpec := p2 iStr iIs (fun w l => w.size ≤ 1000 ∧ l.length ≤ 1000000 ∧ ∀ n ∈ l, i64B n) (fun w l => .str (lineV w l)) true
noncomputable def S110 : Spec := P110.toSpec
attribute [go_sem] P110 S110
theorem lineV_size {w : ByteArray} {l : List Int} (hw : w.size ≤ 1000) (hl : l.length ≤ 1000000) (hr : ∀ n ∈ l, i64B n) : (lineV w l).size ≤ 23000000 := by
  have h := linePre_len w l hr l.length (Nat.le_refl _)
  show (lineL w l).toArray.size ≤ _
  unfold lineL
  rw [List.size_toArray, List.length_append, List.length_singleton]
  omega
theorem s110 : PSound Tryz.prog 110 P110 := by
  refine ⟨by decide, enter_of Tryz.func110 rfl (by kernel_rfl), fun h => p2_flat (fun _ _ => rfl) h, fun m w xs args ht hm hx hp => ?_⟩
  obtain ⟨word, l, rfl, ⟨h1, h2, h3⟩, hg⟩ := p2_elim hp
  have hg : P110.fn _ = _ := hg
  rw [hg]
  obtain ⟨h4, h5⟩ := hx
  have hsz : args.size = 2 := by simpa using h4.symm
  have e0 := h5 0 (by simp) (by simp [hsz])
  have e1 := h5 1 (by simp) (by simp [hsz])
  simp only [List.getElem_cons_zero, List.getElem_cons_succ, Array.getElem_toList] at e0 e1
  have hargs : args = #[args[0], args[1]] := by
    apply Array.ext
    · simp [hsz]
    · intro j a b
      rcases j with _ | _ | j
      · rfl
      · rfl
      · omega
  have key : ∀ a0 a1, RepV m (.str word) a0 → RepV m (.sl (l.map vInt)) a1 → Calls Tryz.prog 110 #[a0, a1] w fun e w' => ∃ v m', e = .returned v ∧ RowKit.Below w.heap.size w w' ∧ Mem.le m m' ∧
      (∀ b off c, m' b off = some c → m b off = some c ∨ (w.heap.size ≤ b ∧ w'.cell? ⟨b, off, none⟩ = some c)) ∧ RepV m' (.str (lineV word l)) v := by
    intro a0 a1 r0 r1
    cases r0
    have fin : ∀ a cap, (l = [] ∨ ∃ bl o, a = some ⟨bl, o, none⟩ ∧ bl < w.heap.size ∧ ∀ i (h : i < l.length), w.cell? ⟨bl, o + i, none⟩ = some (.int .i64 l[i])) →
        Calls Tryz.prog 110 #[.string word, .slice a l.length cap] w fun e w' => ∃ v m', e = .returned v ∧ RowKit.Below w.heap.size w w' ∧ Mem.le m m' ∧
      (∀ b off c, m' b off = some c → m b off = some c ∨ (w.heap.size ≤ b ∧ w'.cell? ⟨b, off, none⟩ = some c)) ∧ RepV m' (.str (lineV word l)) v := by
      intro a cap ha
      refine (line_calls word a l cap w ha h3 h1 h2 ht).mono ?_
      rintro e w' ⟨rfl, hb⟩
      exact ⟨_, m, rfl, hb, Mem.le_refl m, fun b off c h => .inl h, .str _ (by have := lineV_size h1 h2 h3; unfold maxLen; omega)⟩
    generalize hL : l.map vInt = L at r1
    cases r1 with
    | slnil a cap =>
      have : l = [] := List.map_eq_nil_iff.1 hL
      subst this
      exact fin a cap (.inl rfl)
    | sl _ b o cap sz c hn hl hcap hs hc hr ho =>
      subst hL
      rw [List.length_map]
      refine fin _ _ (.inr ⟨b, o, rfl, ?_, fun i hi => ?_⟩)
      · have hpos : 0 < l.length := by
          rcases l with _ | _
          · simp at hn
          · simp
        have hs0 := hs 0 (by simpa using hpos)
        simp only [List.getElem_map, V.cells, List.length_singleton] at hs0
        have := hm _ _ _ (hc 0 0 (by simpa using hpos) (by omega))
        exact cell?_lt this
      · have hi' : i < (l.map vInt).length := by simpa using hi
        have hs0 := hs i hi'
        simp only [List.getElem_map, V.cells, List.length_singleton] at hs0
        subst hs0
        have h6 := hm _ _ _ (hc i 0 hi' (by omega))
        have h7 := hr i 0 hi' (by simp [V.cells])
        simp only [List.getElem_map, V.cells, List.getElem_cons_zero] at h7
        have h8 : ∀ u, RepV m (vInt l[i]) u → u = .int .i64 l[i] := by intro u h; cases h; rfl
        rw [h8 _ h7] at h6
        simpa using h6
  rw [hargs]
  exact key _ _ e0 e1
theorem k110 : SSound Tryz.prog 110 S110 := s110.sound
/-! bounds -/
noncomputable def P98 : PSpec := p3 iI iI iI (fun _ _ _ => True) (fun n lo hi => .bool (inI n lo hi)) true
noncomputable def S98 : Spec := P98.toSpec
attribute [go_sem] P98 S98
theorem s98 : PSound Tryz.prog 98 P98 := by
  refine w3 (rs := [.tmp 6]) Tryz.func98 Tryz.ntmps98 (by rfl) (by kernel_rfl) (by decide) (fun _ _ _ _ => rfl) ⟨_, rfl, lb rfl, fun n lo hi hp hw => ?_⟩
  have hP := mixedK
  simp only [iI] at hw ⊢
  have hΓ := @no_sound Tryz.prog
  repeat refine sq ?_
  refine rs hΓ [0,1,2] [] ?_
  repeat refine sq ?_
  refine rs hΓ [6] [] ?_
  refine cl_ret ?_
  simp only [go_sem]
  all_goals first | rfl | (simp; done) | (simp_all; done)
theorem k98 : SSound Tryz.prog 98 S98 := s98.sound

noncomputable def P86 : PSpec := p3 iI iI iI (fun _ _ _ => True) (fun n lo hi => .bool (inI n lo hi)) true
noncomputable def S86 : Spec := P86.toSpec
attribute [go_sem] P86 S86
theorem s86 : PSound Tryz.prog 86 P86 := by
  refine w3 (rs := [.tmp 6]) Tryz.func86 Tryz.ntmps86 (by rfl) (by kernel_rfl) (by decide) (fun _ _ _ _ => rfl) ⟨_, rfl, lb rfl, fun n lo hi hp hw => ?_⟩
  have hP := mixedK
  simp only [iI] at hw ⊢
  have hΓ := @no_sound Tryz.prog
  repeat refine sq ?_
  refine rs hΓ [0,1,2] [] ?_
  repeat refine sq ?_
  refine rs hΓ [6] [] ?_
  refine cl_ret ?_
  simp only [go_sem]
  all_goals first | rfl | (simp; done) | (simp_all; done)
theorem k86 : SSound Tryz.prog 86 S86 := s86.sound

noncomputable def K1 : List (Nat × Spec) := [(98, S98), (86, S86)]
theorem K1_sound : ∀ f s, tbl K1 f = some s → SSound Tryz.prog f s := tc k98 <| tc k86 <| tn
attribute [go_sem] K1
noncomputable def P82 : PSpec := p1 iI (fun _ => True) (fun n => .bool (inI n 0 5)) true
noncomputable def S82 : Spec := P82.toSpec
attribute [go_sem] P82 S82
theorem s82 : PSound Tryz.prog 82 P82 := by
  refine w1 (rs := [.tmp 2]) Tryz.func82 Tryz.ntmps82 (by rfl) (by kernel_rfl) (by decide) (fun _ _ => rfl) ⟨_, rfl, lb rfl, fun n hp hw => ?_⟩
  have hP := mixedK
  simp only [iI] at hw ⊢
  have hΓ := K1_sound
  repeat refine sq ?_
  refine rs hΓ [0] [] ?_
  repeat refine sq ?_
  refine rs hΓ [2] [] ?_
  refine cl_ret ?_
  simp only [go_sem]
  all_goals first | rfl | (simp; done) | (simp_all; done)
theorem k82 : SSound Tryz.prog 82 S82 := s82.sound

noncomputable def P84 : PSpec := p1 iI (fun _ => True) (fun n => .bool (inI n 0 5)) true
noncomputable def S84 : Spec := P84.toSpec
attribute [go_sem] P84 S84
theorem s84 : PSound Tryz.prog 84 P84 := by
  refine w1 (rs := [.tmp 2]) Tryz.func84 Tryz.ntmps84 (by rfl) (by kernel_rfl) (by decide) (fun _ _ => rfl) ⟨_, rfl, lb rfl, fun n hp hw => ?_⟩
  have hP := mixedK
  simp only [iI] at hw ⊢
  have hΓ := K1_sound
  repeat refine sq ?_
  refine rs hΓ [0] [] ?_
  repeat refine sq ?_
  refine rs hΓ [2] [] ?_
  refine cl_ret ?_
  simp only [go_sem]
  all_goals first | rfl | (simp; done) | (simp_all; done)
theorem k84 : SSound Tryz.prog 84 S84 := s84.sound

noncomputable def P50 : PSpec := p1 iI (fun _ => True) (fun n => .bool (inI n 1 999)) true
noncomputable def S50 : Spec := P50.toSpec
attribute [go_sem] P50 S50
theorem s50 : PSound Tryz.prog 50 P50 := by
  refine w1 (rs := [.tmp 2]) Tryz.func50 Tryz.ntmps50 (by rfl) (by kernel_rfl) (by decide) (fun _ _ => rfl) ⟨_, rfl, lb rfl, fun n hp hw => ?_⟩
  have hP := mixedK
  simp only [iI] at hw ⊢
  have hΓ := K1_sound
  repeat refine sq ?_
  refine rs hΓ [0] [] ?_
  repeat refine sq ?_
  refine rs hΓ [2] [] ?_
  refine cl_ret ?_
  simp only [go_sem]
  all_goals first | rfl | (simp; done) | (simp_all; done)
theorem k50 : SSound Tryz.prog 50 S50 := s50.sound

noncomputable def P55 : PSpec := p1 iI (fun _ => True) (fun n => .bool (inI n 1 999)) true
noncomputable def S55 : Spec := P55.toSpec
attribute [go_sem] P55 S55
theorem s55 : PSound Tryz.prog 55 P55 := by
  refine w1 (rs := [.tmp 2]) Tryz.func55 Tryz.ntmps55 (by rfl) (by kernel_rfl) (by decide) (fun _ _ => rfl) ⟨_, rfl, lb rfl, fun n hp hw => ?_⟩
  have hP := mixedK
  simp only [iI] at hw ⊢
  have hΓ := K1_sound
  repeat refine sq ?_
  refine rs hΓ [0] [] ?_
  repeat refine sq ?_
  refine rs hΓ [2] [] ?_
  refine cl_ret ?_
  simp only [go_sem]
  all_goals first | rfl | (simp; done) | (simp_all; done)
theorem k55 : SSound Tryz.prog 55 S55 := s55.sound

noncomputable def P79 : PSpec := p1 iI (fun _ => True) (fun n => .bool (inI n 0 99999)) true
noncomputable def S79 : Spec := P79.toSpec
attribute [go_sem] P79 S79
theorem s79 : PSound Tryz.prog 79 P79 := by
  refine w1 (rs := [.tmp 2]) Tryz.func79 Tryz.ntmps79 (by rfl) (by kernel_rfl) (by decide) (fun _ _ => rfl) ⟨_, rfl, lb rfl, fun n hp hw => ?_⟩
  have hP := mixedK
  simp only [iI] at hw ⊢
  have hΓ := K1_sound
  repeat refine sq ?_
  refine rs hΓ [0] [] ?_
  repeat refine sq ?_
  refine rs hΓ [2] [] ?_
  refine cl_ret ?_
  simp only [go_sem]
  all_goals first | rfl | (simp; done) | (simp_all; done)
theorem k79 : SSound Tryz.prog 79 S79 := s79.sound

noncomputable def P81 : PSpec := p1 iI (fun _ => True) (fun n => .bool (inI n 0 99999)) true
noncomputable def S81 : Spec := P81.toSpec
attribute [go_sem] P81 S81
theorem s81 : PSound Tryz.prog 81 P81 := by
  refine w1 (rs := [.tmp 2]) Tryz.func81 Tryz.ntmps81 (by rfl) (by kernel_rfl) (by decide) (fun _ _ => rfl) ⟨_, rfl, lb rfl, fun n hp hw => ?_⟩
  have hP := mixedK
  simp only [iI] at hw ⊢
  have hΓ := K1_sound
  repeat refine sq ?_
  refine rs hΓ [0] [] ?_
  repeat refine sq ?_
  refine rs hΓ [2] [] ?_
  refine cl_ret ?_
  simp only [go_sem]
  all_goals first | rfl | (simp; done) | (simp_all; done)
theorem k81 : SSound Tryz.prog 81 S81 := s81.sound

theorem inI_iff {n lo hi : Int} : inI n lo hi = true ↔ lo ≤ n ∧ n ≤ hi := by unfold inI; simp
theorem inI_of {n lo hi : Int} (h1 : lo ≤ n) (h2 : n ≤ hi) : inI n lo hi = true := inI_iff.2 ⟨h1, h2⟩
def allN (n : Nat) (f : Nat → Bool) : Bool := (List.range n).all f
theorem allN_iff {n : Nat} {f : Nat → Bool} : allN n f = true ↔ ∀ j, j < n → f j = true := by
  unfold allN; rw [List.all_eq_true]; exact ⟨fun h j hj => h j (List.mem_range.2 hj), fun h j hj => h j (List.mem_range.1 hj)⟩
theorem allN_bad {n i : Nat} {f : Nat → Bool} (h : i < n) (hb : f i = false) : allN n f = false := by
  rw [Bool.eq_false_iff]; intro k; rw [allN_iff.1 k i h] at hb; cases hb
theorem allN_succ {n : Nat} {f : Nat → Bool} (h : allN n f = true) (hb : f n = true) : allN (n + 1) f = true := allN_iff.2 fun j hj => by
  rcases Nat.lt_succ_iff_lt_or_eq.1 hj with h5 | rfl
  · exact allN_iff.1 h j h5
  · exact hb
theorem allN_zero {f : Nat → Bool} : allN 0 f = true := rfl
def papAt (l : List Int) (i : Nat) : Bool := inI (l.getD i 0) 1 999 && (i == 0 || decide (l.getD (i - 1) 0 < l.getD i 0))
def papB (l : List Int) : Bool := allN l.length (papAt l) && decide (l.length ≤ 40)
def parAt (l : List Par) (i : Nat) : Bool := inI (l.getD i default).no 1 99999 && inI (l.getD i default).pa 1 999 && (i == 0 || (l.getD (i - 1) default).no + 1 == (l.getD i default).no)
def parB (l : List Par) : Bool := allN l.length (parAt l) && decide (l.length ≤ 40)
theorem prev_at {i n : Nat} (h : i < n) (hn : n ≤ maxLen) : ∃ p : Nat, (IntKind.i64.wrap ((i : Int) - 1)).toNat = p ∧ p < n ∧ p = i - 1 ∧ (0 < i → 0 ≤ IntKind.i64.wrap ((i : Int) - 1) ∧ IntKind.i64.wrap ((i : Int) - 1) < n) := by
  unfold maxLen at hn
  rcases Nat.eq_zero_or_pos i with rfl | hp
  · exact ⟨0, by decide, h, rfl, fun h => by omega⟩
  · have : IntKind.i64.wrap ((i : Int) - 1) = ((i - 1 : Nat) : Int) := by rw [wrap_i64 (by omega) (by omega)]; omega
    exact ⟨i - 1, by rw [this]; rfl, by omega, rfl, fun _ => by omega⟩
theorem pos_dec {i : Nat} : decide ((i : Int) > 0) = !(i == 0) := by
  cases i <;> simp
theorem not_lt {a b : Int} : decide (a ≥ b) = !decide (a < b) := by
  by_cases h : a < b
  · rw [decide_eq_true h, decide_eq_false (by omega)]; rfl
  · rw [decide_eq_false h, decide_eq_true (by omega)]; rfl
noncomputable def K1p : List (Nat × Spec) := [(50, S50), (55, S55), (98, S98), (86, S86)]
theorem K1p_sound : ∀ f s, tbl K1p f = some s → SSound Tryz.prog f s := tc k50 <| tc k55 <| tc k98 <| tc k86 <| tn
attribute [go_sem] K1p
theorem pap_cond {l : List Int} {i p : Nat} (hp : p = i - 1) (hi : i < l.length) (hpl : p < l.length) : (!inI l[i] 1 999 || (!(i == 0) && !decide (l[p] < l[i]))) = !papAt l i := by
  subst hp
  unfold papAt
  rw [getD_at hi, getD_at hpl]
  cases inI l[i] 1 999 <;> cases (i == 0) <;> cases decide (l[i - 1] < l[i]) <;> rfl
theorem par_cond {l : List Par} {i p : Nat} (hp : p = i - 1) (hi : i < l.length) (hpl : p < l.length) :
    (!inI l[i].no 1 99999 || (!inI l[i].pa 1 999 || (!(i == 0) && (l[p].no + 1 != l[i].no)))) = !parAt l i := by
  subst hp
  unfold parAt
  rw [getD_at hi, getD_at hpl]
  have : (l[i - 1].no + 1 != l[i].no) = !(l[i - 1].no + 1 == l[i].no) := rfl
  rw [this]
  cases inI l[i].no 1 99999 <;> cases inI l[i].pa 1 999 <;> cases (i == 0) <;> cases (l[i - 1].no + 1 == l[i].no) <;> rfl
theorem par_prev {l : List Par} {i p : Nat} (hp : p = i - 1) (hpl : p < l.length) (hR : allN i (parAt l) = true) (h0 : 0 < i) : IntKind.i64.wrap (l[p].no + 1) = l[p].no + 1 := by
  have := allN_iff.1 hR p (by omega)
  unfold parAt at this
  rw [getD_at hpl] at this
  simp only [Bool.and_eq_true] at this
  have := inI_iff.1 this.1.1
  exact wrap_i64 (by omega) (by omega)
noncomputable def P83 : PSpec := p1 iIs (fun _ => True) (fun l => .bool (papB l)) true
noncomputable def S83 : Spec := P83.toSpec
attribute [go_sem] P83 S83
set_option maxHeartbeats 4000000 in
theorem s83 : PSound Tryz.prog 83 P83 := by
  refine w1 (rs := [.tmp 2]) Tryz.func83 Tryz.ntmps83 (by rfl) (by kernel_rfl) (by decide) (fun _ _ => rfl) ⟨_, rfl, lb rfl, fun l hp hw => ?_⟩
  have hP := mixedK
  simp only [iIs] at hw ⊢
  have hΓ := K1p_sound
  have hl : l.length ≤ maxLen := by have := hw.1.1; simpa using this
  repeat refine sq ?_
  refine rs hΓ [0] [] ?_
  repeat refine sq ?_
  refine rs hΓ [0,5,6,7] [] ?_
  repeat refine sq ?_
  refine cl_block ?_
  repeat refine sq ?_
  refine cl_loop'  (fun s : Nat => [(7, ⟨true, .v (vInt s)⟩)]) (fun s => []) (fun s => s ≤ l.length ∧ allN s (papAt l) = true) (fun s => l.length - s) 0 ?_ ?_ ?_ ?_
  · exact ⟨Nat.zero_le _, rfl⟩
  · rfl
  · rfl
  rintro i ⟨hi, hR⟩
  simp only [go_sem]
  repeat refine sq ?_
  refine rs hΓ [0,5,6,7,8] [] ?_
  repeat refine sq ?_
  refine cl_cond rfl rfl (fun hb => ?_) fun hb => ?_
  · skip
    have hlt : i < l.length := by simpa using hb
    have hlt' : (i : Int) < l.length := by omega
    clear hb
    obtain ⟨p, hp, hpl, hpe, hpos⟩ := prev_at hlt hl
    have hpc := pap_cond hpe hlt hpl
    repeat refine sq ?_
    refine cl_skip ?_
    repeat refine sq ?_
    refine cl_block ?_
    repeat refine sq ?_
    refine rx hΓ [0,3,4,5,6,7] [] (fun K' hK => by simp only [go_sem, map_getD hlt, Int.toNat_natCast, Int.natCast_nonneg, hlt']; (repeat (refine ⟨ob, ?_⟩)); exact hK _ (by simp only [go_sem]) (by simp only [go_sem] <;> rfl)) ?_
    repeat refine sq ?_
    refine rx hΓ [0,5,6,7,27] [] (fun K' hK => by simp only [go_sem, map_getD hlt, Int.toNat_natCast, Int.natCast_nonneg, hlt', hp, map_getD hlt, map_getD hpl, Int.toNat_natCast, Int.natCast_nonneg, hlt', pos_dec, not_lt]; (repeat (refine ⟨by first | exact ob | exact fun h => hpos (by simp_all; omega) | (intro h; have := hpos (by simp_all; omega); simp_all; done), ?_⟩)); exact hK _ (by simp only [go_sem]) (by simp only [go_sem] <;> rfl)) ?_
    repeat refine sq ?_
    refine cl_cond rfl rfl (fun hb => ?_) fun hb => ?_
    · skip
      repeat refine sq ?_
      have hbad : papAt l i = false := by simpa [hpc] using hb
      repeat refine sq ?_
      refine rx hΓ [2] [] (fun K' hK => by simp only [go_sem, map_getD hlt, Int.toNat_natCast, Int.natCast_nonneg, hlt']; (repeat (refine ⟨ob, ?_⟩)); exact hK _ (by simp only [go_sem]) (by simp only [go_sem] <;> rfl)) ?_
      refine cl_ret ?_
      simp only [go_sem]
      simp only [papB, allN_bad hlt hbad, Bool.false_and]
    · skip
      repeat refine sq ?_
      have hgood : papAt l i = true := by simpa [hpc] using hb
      refine cl_skip ?_
      refine cl_nil ?_
      simp only [go_sem]
      refine kp [0,5,6,7] [] ?_
      repeat refine sq ?_
      refine cl_r hΓ fun K' hK => ?_
      simp only [go_sem, map_getD hlt, Int.toNat_natCast, Int.natCast_nonneg, hlt']
      repeat refine ⟨ob, ?_⟩
      refine hK _ ?_
      clear K' hK
      simp only [go_sem]
      refine ⟨i + 1, ⟨hlt, ?_⟩, by (show l.length - (i + 1) < l.length - i; omega), ?_⟩
      · skip
        exact allN_succ hR hgood
      refine weak_eq [0,5,6,7] [] ?_ ?_
      · simp only [go_sem, wrap_succ hlt hl, Int.natCast_add, Int.natCast_one]
      · simp only [go_sem, wrap_succ hlt hl, Int.natCast_add, Int.natCast_one]
  · skip
    have hge : i = l.length := by
      have : ¬ (i : Int) < l.length := by simpa using hb
      omega
    clear hb
    subst hge
    repeat refine sq ?_
    refine cl_exit ?_
    simp only [go_sem]
    refine kp [0] [] ?_
    repeat refine sq ?_
    refine rs hΓ [2] [] ?_
    refine cl_ret ?_
    simp only [go_sem]
    simp only [papB, hR, Bool.true_and]
    try (congr 2; apply propext; omega)
theorem k83 : SSound Tryz.prog 83 S83 := s83.sound
noncomputable def P87 : PSpec := p1 iPs (fun _ => True) (fun l => .bool (parB l)) true
noncomputable def S87 : Spec := P87.toSpec
attribute [go_sem] P87 S87
set_option maxHeartbeats 4000000 in
theorem s87 : PSound Tryz.prog 87 P87 := by
  refine w1 (rs := [.tmp 2]) Tryz.func87 Tryz.ntmps87 (by rfl) (by kernel_rfl) (by decide) (fun _ _ => rfl) ⟨_, rfl, lb rfl, fun l hp hw => ?_⟩
  have hP := mixedK
  simp only [iPs] at hw ⊢
  have hΓ := K1p_sound
  have hl : l.length ≤ maxLen := by have := hw.1.1; simpa using this
  repeat refine sq ?_
  refine rs hΓ [0] [] ?_
  repeat refine sq ?_
  refine rs hΓ [0,5,6,7] [] ?_
  repeat refine sq ?_
  refine cl_block ?_
  repeat refine sq ?_
  refine cl_loop'  (fun s : Nat => [(7, ⟨true, .v (vInt s)⟩)]) (fun s => []) (fun s => s ≤ l.length ∧ allN s (parAt l) = true) (fun s => l.length - s) 0 ?_ ?_ ?_ ?_
  · exact ⟨Nat.zero_le _, rfl⟩
  · rfl
  · rfl
  rintro i ⟨hi, hR⟩
  simp only [go_sem]
  repeat refine sq ?_
  refine rs hΓ [0,5,6,7,8] [] ?_
  repeat refine sq ?_
  refine cl_cond rfl rfl (fun hb => ?_) fun hb => ?_
  · skip
    have hlt : i < l.length := by simpa using hb
    have hlt' : (i : Int) < l.length := by omega
    clear hb
    obtain ⟨p, hp, hpl, hpe, hpos⟩ := prev_at hlt hl
    have hpc := par_cond hpe hlt hpl
    repeat refine sq ?_
    refine cl_skip ?_
    repeat refine sq ?_
    refine cl_block ?_
    repeat refine sq ?_
    refine rx hΓ [0,3,4,5,6,7] [[4, 0]] (fun K' hK => by simp only [go_sem, map_getD hlt, Int.toNat_natCast, Int.natCast_nonneg, hlt']; (repeat (refine ⟨ob, ?_⟩)); exact hK _ (by simp only [go_sem]) (by simp only [go_sem] <;> rfl)) ?_
    rcases Nat.eq_zero_or_pos i with h0 | h0
    · skip
      have hz0 : (i == 0) = true := by simp [h0]
      repeat refine sq ?_
      refine dx hΓ hP [[], [0], [0, 1], [0, 1, 2], [0, 1, 2, 3], [0, 1, 2, 3, 4], [0, 1, 2, 3, 4, 5], [0, 1, 2, 3, 4, 5, 6], [0, 1, 2, 3, 4, 5, 6, 7], [0, 1, 2, 3, 4, 5, 6, 7, 8], [0, 1, 2, 3, 4, 5, 6, 7, 8, 9], [0, 1, 2, 3, 4, 5, 6, 7, 8, 9, 10], [0, 1, 2, 3, 4, 5, 6, 7, 8, 9, 10, 11], [0, 1, 2, 3, 4, 5, 6, 7, 8, 9, 10, 11, 12], [0, 1, 2, 3, 4, 5, 6, 7, 8, 9, 10, 11, 12, 13], [0, 1, 2, 3, 4, 5, 6, 7, 8, 9, 10, 11, 12, 13], [0, 1, 2, 3, 4, 5, 6, 7, 8, 9, 10, 11, 12, 13, 15], [0, 1, 2, 3, 4, 5, 6, 7, 8, 9, 10, 11, 12, 13, 14, 15, 16], [0, 1, 2, 3, 4, 5, 6, 7, 8, 9, 10, 11, 12, 13, 14, 15, 16, 17], [0, 1, 2, 3, 4, 5, 6, 7, 8, 9, 10, 11, 12, 13, 14, 15, 16, 17, 18], [0, 1, 2, 3, 4, 5, 6, 7, 8, 9, 10, 11, 12, 13, 14, 15, 16, 17, 18, 19], [0, 1, 2, 3, 4, 5, 6, 7, 8, 9, 10, 11, 12, 13], [0, 1, 2, 3, 4, 5, 6, 7, 8, 9, 10, 11, 12, 13, 21], [0, 1, 2, 3, 4, 5, 6, 7, 8, 9, 10, 11, 12, 13, 14, 15, 16, 17, 18, 19, 20, 21, 22], [0, 1, 2, 3, 4, 5, 6, 7, 8, 9, 10, 11, 12, 13, 14, 15, 16, 17, 18, 19, 20, 21, 22, 23], [0, 1, 2, 3, 4, 5, 6, 7, 8, 9, 10, 11, 12, 13, 14, 15, 16, 17, 18, 19, 20, 21, 22, 23, 24]] [0,5,6,7,37] [] (by kernel_rfl) (fun K' hK => by simp only [go_sem, map_getD hlt, Int.toNat_natCast, Int.natCast_nonneg, hlt', hz0, hp, map_getD hlt, map_getD hpl, Int.toNat_natCast, Int.natCast_nonneg, hlt', pos_dec, not_lt]; (repeat (refine ⟨by first | exact ob | exact fun _ => ⟨hq1, hq2, rfl⟩ | exact fun _ => ⟨hq1, hq2⟩, ?_⟩)); (first | refine ⟨by rfl, ?_⟩ | skip); exact hK _ (by simp only [go_sem]) (by simp only [go_sem] <;> rfl)) ?_
      repeat refine sq ?_
      refine cl_cond rfl rfl (fun hb => ?_) fun hb => ?_
      · skip
        repeat refine sq ?_
        have hbad : parAt l i = false := by simpa [hz0, hb] using hpc.symm
        repeat refine sq ?_
        refine rx hΓ [2] [] (fun K' hK => by simp only [go_sem, map_getD hlt, Int.toNat_natCast, Int.natCast_nonneg, hlt', hz0]; (repeat (refine ⟨ob, ?_⟩)); exact hK _ (by simp only [go_sem]) (by simp only [go_sem] <;> rfl)) ?_
        refine cl_ret ?_
        simp only [go_sem]
        first | simp only [parB, allN_bad hlt hbad, Bool.false_and] | (simp only [parB, hR, Bool.true_and]; done) | (simp only [parB, hR, Bool.true_and]; congr 2; apply propext; omega)
      · skip
        repeat refine sq ?_
        have hgood : parAt l i = true := by simpa [hz0, hb] using hpc.symm
        refine cl_skip ?_
        refine cl_nil ?_
        simp only [go_sem]
        refine kp [0,5,6,7] [] ?_
        repeat refine sq ?_
        refine cl_r hΓ fun K' hK => ?_
        simp only [go_sem, map_getD hlt, Int.toNat_natCast, Int.natCast_nonneg, hlt', hz0]
        repeat refine ⟨ob, ?_⟩
        refine hK _ ?_
        clear K' hK
        simp only [go_sem]
        refine ⟨i + 1, ⟨hlt, ?_⟩, by (show l.length - (i + 1) < l.length - i; omega), ?_⟩
        · skip
          exact allN_succ hR hgood
        refine weak_eq [0,5,6,7] [] ?_ ?_
        · simp only [go_sem, wrap_succ hlt hl, Int.natCast_add, Int.natCast_one]
        · simp only [go_sem, wrap_succ hlt hl, Int.natCast_add, Int.natCast_one]
    · skip
      have hwr := par_prev hpe hpl hR h0
      have hz0 : (i == 0) = false := by rw [beq_eq_false_iff_ne]; omega
      obtain ⟨hq1, hq2⟩ := hpos h0
      repeat refine sq ?_
      refine dx hΓ hP [[], [0], [0, 1], [0, 1, 2], [0, 1, 2, 3], [0, 1, 2, 3, 4], [0, 1, 2, 3, 4, 5], [0, 1, 2, 3, 4, 5, 6], [0, 1, 2, 3, 4, 5, 6, 7], [0, 1, 2, 3, 4, 5, 6, 7, 8], [0, 1, 2, 3, 4, 5, 6, 7, 8, 9], [0, 1, 2, 3, 4, 5, 6, 7, 8, 9, 10], [0, 1, 2, 3, 4, 5, 6, 7, 8, 9, 10, 11], [0, 1, 2, 3, 4, 5, 6, 7, 8, 9, 10, 11, 12], [0, 1, 2, 3, 4, 5, 6, 7, 8, 9, 10, 11, 12, 13], [0, 1, 2, 3, 4, 5, 6, 7, 8, 9, 10, 11, 12, 13], [0, 1, 2, 3, 4, 5, 6, 7, 8, 9, 10, 11, 12, 13, 15], [0, 1, 2, 3, 4, 5, 6, 7, 8, 9, 10, 11, 12, 13, 14, 15, 16], [0, 1, 2, 3, 4, 5, 6, 7, 8, 9, 10, 11, 12, 13, 14, 15, 16, 17], [0, 1, 2, 3, 4, 5, 6, 7, 8, 9, 10, 11, 12, 13, 14, 15, 16, 17, 18], [0, 1, 2, 3, 4, 5, 6, 7, 8, 9, 10, 11, 12, 13, 14, 15, 16, 17, 18, 19], [0, 1, 2, 3, 4, 5, 6, 7, 8, 9, 10, 11, 12, 13], [0, 1, 2, 3, 4, 5, 6, 7, 8, 9, 10, 11, 12, 13, 21], [0, 1, 2, 3, 4, 5, 6, 7, 8, 9, 10, 11, 12, 13, 14, 15, 16, 17, 18, 19, 20, 21, 22], [0, 1, 2, 3, 4, 5, 6, 7, 8, 9, 10, 11, 12, 13, 14, 15, 16, 17, 18, 19, 20, 21, 22, 23], [0, 1, 2, 3, 4, 5, 6, 7, 8, 9, 10, 11, 12, 13, 14, 15, 16, 17, 18, 19, 20, 21, 22, 23, 24]] [0,5,6,7,37] [] (by kernel_rfl) (fun K' hK => by simp only [go_sem, map_getD hlt, Int.toNat_natCast, Int.natCast_nonneg, hlt', hwr, hz0, hq1, hq2, hp, map_getD hlt, map_getD hpl, Int.toNat_natCast, Int.natCast_nonneg, hlt', pos_dec, not_lt]; (repeat (refine ⟨by first | exact ob | exact fun _ => ⟨hq1, hq2, rfl⟩ | exact fun _ => ⟨hq1, hq2⟩, ?_⟩)); (first | refine ⟨by rfl, ?_⟩ | skip); exact hK _ (by simp only [go_sem]) (by simp only [go_sem] <;> rfl)) ?_
      repeat refine sq ?_
      refine cl_cond rfl rfl (fun hb => ?_) fun hb => ?_
      · skip
        repeat refine sq ?_
        have hbad : parAt l i = false := by simpa [hz0, ← Bool.or_assoc, hb] using hpc.symm
        repeat refine sq ?_
        refine rx hΓ [2] [] (fun K' hK => by simp only [go_sem, map_getD hlt, Int.toNat_natCast, Int.natCast_nonneg, hlt', hwr, hz0, hq1, hq2]; (repeat (refine ⟨ob, ?_⟩)); exact hK _ (by simp only [go_sem]) (by simp only [go_sem] <;> rfl)) ?_
        refine cl_ret ?_
        simp only [go_sem]
        first | simp only [parB, allN_bad hlt hbad, Bool.false_and] | (simp only [parB, hR, Bool.true_and]; done) | (simp only [parB, hR, Bool.true_and]; congr 2; apply propext; omega)
      · skip
        repeat refine sq ?_
        have hgood : parAt l i = true := by simpa [hz0, ← Bool.or_assoc, hb] using hpc.symm
        refine cl_skip ?_
        refine cl_nil ?_
        simp only [go_sem]
        refine kp [0,5,6,7] [] ?_
        repeat refine sq ?_
        refine cl_r hΓ fun K' hK => ?_
        simp only [go_sem, map_getD hlt, Int.toNat_natCast, Int.natCast_nonneg, hlt', hwr, hz0, hq1, hq2]
        repeat refine ⟨ob, ?_⟩
        refine hK _ ?_
        clear K' hK
        simp only [go_sem]
        refine ⟨i + 1, ⟨hlt, ?_⟩, by (show l.length - (i + 1) < l.length - i; omega), ?_⟩
        · skip
          exact allN_succ hR hgood
        refine weak_eq [0,5,6,7] [] ?_ ?_
        · simp only [go_sem, wrap_succ hlt hl, Int.natCast_add, Int.natCast_one]
        · simp only [go_sem, wrap_succ hlt hl, Int.natCast_add, Int.natCast_one]
  · skip
    have hge : i = l.length := by
      have : ¬ (i : Int) < l.length := by simpa using hb
      omega
    clear hb
    subst hge
    repeat refine sq ?_
    refine cl_exit ?_
    simp only [go_sem]
    refine kp [0] [] ?_
    repeat refine sq ?_
    refine rs hΓ [2] [] ?_
    refine cl_ret ?_
    simp only [go_sem]
    first | simp only [parB, allN_bad hlt hbad, Bool.false_and] | (simp only [parB, hR, Bool.true_and]; done) | (simp only [parB, hR, Bool.true_and]; congr 2; apply propext; omega)
theorem k87 : SSound Tryz.prog 87 S87 := s87.sound
/-! stocks -/
@[go_sem] theorem L_take {α : Type} (s : Six α) (e : α → V) : (s.L e).take 6 = s.L e := rfl
theorem L_at {α : Type} (s : Six α) (e : α → V) {i : Nat} (h : i < 6) : ((s.L e).drop i).take 1 = [e (s.get i)] := by
  match i, h with
  | 0, _ => rfl
  | 1, _ => rfl
  | 2, _ => rfl
  | 3, _ => rfl
  | 4, _ => rfl
  | 5, _ => rfl
@[go_sem] theorem L_len' {α : Type} (s : Six α) (e : α → V) : (s.L e).length = 6 := rfl
attribute [go_sem] Nat.mul_one
def stkAt (s : Stk) (i : Nat) : Bool := inI (s.se.get i) 0 99999 && inI (s.ta.get i) 0 99999 && parB (s.un.get i) && ((s.un.get i).length == 0 || ((s.un.get i).getD ((s.un.get i).length - 1) default).no == s.se.get i)
def stkB (me : Int) (s : Stk) : Bool := inI me 0 5 && papB s.ho && ((s.un.get me.toNat).length == 0) && (s.se.get me.toNat == 0) && (s.ta.get me.toNat == 0) && allN 6 (stkAt s)
theorem len_pos' {α : Type} {l : List α} : decide ((l.length : Int) > 0) = !(l.length == 0) := by
  cases l with
  | nil => rfl
  | cons a r =>
    have h1 : ((a :: r).length == 0) = false := rfl
    rw [h1]
    simp
theorem last_at {l : List Par} (hl : l.length ≤ maxLen) : ∃ p : Nat, (IntKind.i64.wrap ((l.length : Int) - 1)).toNat = p ∧ p = l.length - 1 ∧ ((l.length == 0) = false → p < l.length ∧ 0 ≤ IntKind.i64.wrap ((l.length : Int) - 1) ∧ IntKind.i64.wrap ((l.length : Int) - 1) < l.length) := by
  unfold maxLen at hl
  by_cases h : l.length = 0
  · exact ⟨0, by rw [h]; decide, by omega, fun h2 => by rw [h] at h2; cases h2⟩
  · have : IntKind.i64.wrap ((l.length : Int) - 1) = ((l.length - 1 : Nat) : Int) := by rw [wrap_i64 (by omega) (by omega)]; omega
    exact ⟨l.length - 1, by rw [this]; rfl, rfl, fun _ => by omega⟩
theorem stk_bad {me : Int} {s : Stk} {i : Nat} (hi : i < 6) (h : stkAt s i = false) : stkB me s = false := by
  unfold stkB
  rw [allN_bad hi h, Bool.and_false]
theorem wfL_un {s : Stk} (h : V.wfL [.agg (stL s)]) {i : Nat} (hi : i < 6) : (s.un.get i).length ≤ maxLen := by
  have h1 : V.wfL (stL s) := h.1
  have h2 : rowP (s.un.get i) ∈ stL s := by
    match i, hi with
    | 0, _ => simp [stL, Six.L, Six.get]
    | 1, _ => simp [stL, Six.L, Six.get]
    | 2, _ => simp [stL, Six.L, Six.get]
    | 3, _ => simp [stL, Six.L, Six.get]
    | 4, _ => simp [stL, Six.L, Six.get]
    | 5, _ => simp [stL, Six.L, Six.get]
  have h3 := (wfL_mem h1 _ h2).1
  simpa using h3
theorem par_cond2 {l : List Par} {i p : Nat} (hp : p = i - 1) (hi : i < l.length) (hpl : p < l.length) :
    (!inI l[i].pa 1 999 || (!inI l[i].no 1 99999 || (!(i == 0) && (l[i].no != l[p].no + 1)))) = !parAt l i := by
  rw [← par_cond hp hi hpl]
  have : (l[i].no != l[p].no + 1) = (l[p].no + 1 != l[i].no) := by
    rw [Bool.eq_iff_iff, bne_iff_ne, bne_iff_ne]; exact ⟨fun h => h.symm, fun h => h.symm⟩
  rw [this]
  cases inI l[i].no 1 99999 <;> cases inI l[i].pa 1 999 <;> rfl
noncomputable def P85 : PSpec := p1 iIs (fun _ => True) (fun l => .bool (papB l)) true
noncomputable def S85 : Spec := P85.toSpec
attribute [go_sem] P85 S85
set_option maxHeartbeats 4000000 in
theorem s85 : PSound Tryz.prog 85 P85 := by
  refine w1 (rs := [.tmp 2]) Tryz.func85 Tryz.ntmps85 (by rfl) (by kernel_rfl) (by decide) (fun _ _ => rfl) ⟨_, rfl, lb rfl, fun l hp hw => ?_⟩
  have hP := mixedK
  simp only [iIs] at hw ⊢
  have hΓ := K1p_sound
  have hl : l.length ≤ maxLen := by have := hw.1.1; simpa using this
  repeat refine sq ?_
  refine rs hΓ [0] [] ?_
  repeat refine sq ?_
  refine rs hΓ [0,3] [] ?_
  repeat refine sq ?_
  refine cl_block ?_
  repeat refine sq ?_
  refine cl_loop'  (fun s : Nat => [(3, ⟨true, .v (vInt s)⟩)]) (fun s => []) (fun s => s ≤ l.length ∧ allN s (papAt l) = true) (fun s => l.length - s) 0 ?_ ?_ ?_ ?_
  · exact ⟨Nat.zero_le _, rfl⟩
  · rfl
  · rfl
  rintro i ⟨hi, hR⟩
  simp only [go_sem]
  repeat refine sq ?_
  refine rs hΓ [0,3,7] [] ?_
  repeat refine sq ?_
  refine cl_cond rfl rfl (fun hb => ?_) fun hb => ?_
  · skip
    have hlt : i < l.length := by simpa using hb
    have hlt' : (i : Int) < l.length := by omega
    clear hb
    obtain ⟨p, hp, hpl, hpe, hpos⟩ := prev_at hlt hl
    have hpc := pap_cond hpe hlt hpl
    repeat refine sq ?_
    refine cl_skip ?_
    repeat refine sq ?_
    refine cl_block ?_
    repeat refine sq ?_
    refine dx hΓ hP [[], [], [0, 1], [0, 1, 2], [0, 1, 2, 3], [0, 1, 2, 3, 4], [0, 1, 2, 3, 4, 5], [0, 1, 2, 3, 4, 5, 6], [0, 1, 2, 3, 4, 5, 6, 7], [0, 1, 2, 3, 4, 5, 6, 7, 8], [0, 1, 2, 3, 4, 5, 6, 7, 8, 9], [0, 1, 2, 3, 4, 5, 6, 7, 8, 9], [0, 1, 2, 3, 4, 5, 6, 7, 8, 9, 11], [0, 1, 2, 3, 4, 5, 6, 7, 8, 9, 10, 11, 12], [0, 1, 2, 3, 4, 5, 6, 7, 8, 9, 10, 11, 12, 13], [0, 1, 2, 3, 4, 5, 6, 7, 8, 9], [0, 1, 2, 3, 4, 5, 6, 7, 8, 9], [0, 1, 2, 3, 4, 5, 6, 7, 8, 9, 15, 16], [0, 1, 2, 3, 4, 5, 6, 7, 8, 9, 15, 16, 17], [0, 1, 2, 3, 4, 5, 6, 7, 8, 9, 10, 11, 12, 13, 14, 15, 16, 17, 18], [0, 1, 2, 3, 4, 5, 6, 7, 8, 9, 10, 11, 12, 13, 14, 15, 16, 17, 18, 19], [0, 1, 2, 3, 4, 5, 6, 7, 8, 9, 10, 11, 12, 13, 14, 15, 16, 17, 18, 19, 20]] [0,3,31] [] (by kernel_rfl) (fun K' hK => by simp only [go_sem, map_getD hlt, Int.toNat_natCast, Int.natCast_nonneg, hlt', hp, map_getD hlt, map_getD hpl, Int.toNat_natCast, Int.natCast_nonneg, hlt', pos_dec, not_lt]; (repeat (refine ⟨by first | exact ob | exact fun h => hpos (by simp_all; omega) | (intro h; have := hpos (by simp_all; omega); simp_all; done), ?_⟩)); (first | refine ⟨by rfl, ?_⟩ | skip); exact hK _ (by simp only [go_sem]) (by simp only [go_sem] <;> rfl)) ?_
    repeat refine sq ?_
    refine cl_cond rfl rfl (fun hb => ?_) fun hb => ?_
    · skip
      repeat refine sq ?_
      have hbad : papAt l i = false := by simpa [hpc] using hb
      repeat refine sq ?_
      refine rx hΓ [2] [] (fun K' hK => by simp only [go_sem, map_getD hlt, Int.toNat_natCast, Int.natCast_nonneg, hlt']; (repeat (refine ⟨ob, ?_⟩)); exact hK _ (by simp only [go_sem]) (by simp only [go_sem] <;> rfl)) ?_
      refine cl_ret ?_
      simp only [go_sem]
      simp only [papB, allN_bad hlt hbad, Bool.false_and]
    · skip
      repeat refine sq ?_
      have hgood : papAt l i = true := by simpa [hpc] using hb
      refine cl_skip ?_
      refine cl_nil ?_
      simp only [go_sem]
      refine kp [0,3] [] ?_
      repeat refine sq ?_
      refine cl_r hΓ fun K' hK => ?_
      simp only [go_sem, map_getD hlt, Int.toNat_natCast, Int.natCast_nonneg, hlt']
      repeat refine ⟨ob, ?_⟩
      refine hK _ ?_
      clear K' hK
      simp only [go_sem]
      refine ⟨i + 1, ⟨hlt, ?_⟩, by (show l.length - (i + 1) < l.length - i; omega), ?_⟩
      · skip
        exact allN_succ hR hgood
      refine weak_eq [0,3] [] ?_ ?_
      · simp only [go_sem, wrap_succ hlt hl, Int.natCast_add, Int.natCast_one]
      · simp only [go_sem, wrap_succ hlt hl, Int.natCast_add, Int.natCast_one]
  · skip
    have hge : i = l.length := by
      have : ¬ (i : Int) < l.length := by simpa using hb
      omega
    clear hb
    subst hge
    repeat refine sq ?_
    refine cl_exit ?_
    simp only [go_sem]
    refine kp [0] [] ?_
    repeat refine sq ?_
    refine rs hΓ [2] [] ?_
    refine cl_ret ?_
    simp only [go_sem]
    simp only [papB, hR, Bool.true_and]
    try (congr 2; apply propext; omega)
theorem k85 : SSound Tryz.prog 85 S85 := s85.sound
noncomputable def P88 : PSpec := p1 iPs (fun _ => True) (fun l => .bool (parB l)) true
noncomputable def S88 : Spec := P88.toSpec
attribute [go_sem] P88 S88
set_option maxHeartbeats 4000000 in
theorem s88 : PSound Tryz.prog 88 P88 := by
  refine w1 (rs := [.tmp 2]) Tryz.func88 Tryz.ntmps88 (by rfl) (by kernel_rfl) (by decide) (fun _ _ => rfl) ⟨_, rfl, lb rfl, fun l hp hw => ?_⟩
  have hP := mixedK
  simp only [iPs] at hw ⊢
  have hΓ := K1p_sound
  have hl : l.length ≤ maxLen := by have := hw.1.1; simpa using this
  repeat refine sq ?_
  refine rs hΓ [0] [] ?_
  repeat refine sq ?_
  refine rs hΓ [0,3] [] ?_
  repeat refine sq ?_
  refine cl_block ?_
  repeat refine sq ?_
  refine cl_loop'  (fun s : Nat => [(3, ⟨true, .v (vInt s)⟩)]) (fun s => []) (fun s => s ≤ l.length ∧ allN s (parAt l) = true) (fun s => l.length - s) 0 ?_ ?_ ?_ ?_
  · exact ⟨Nat.zero_le _, rfl⟩
  · rfl
  · rfl
  rintro i ⟨hi, hR⟩
  simp only [go_sem]
  repeat refine sq ?_
  refine rs hΓ [0,3,7] [] ?_
  repeat refine sq ?_
  refine cl_cond rfl rfl (fun hb => ?_) fun hb => ?_
  · skip
    have hlt : i < l.length := by simpa using hb
    have hlt' : (i : Int) < l.length := by omega
    clear hb
    obtain ⟨p, hp, hpl, hpe, hpos⟩ := prev_at hlt hl
    have hpc := par_cond2 hpe hlt hpl
    repeat refine sq ?_
    refine cl_skip ?_
    repeat refine sq ?_
    refine cl_block ?_
    repeat refine sq ?_
    rcases Nat.eq_zero_or_pos i with h0 | h0
    · skip
      have hz0 : (i == 0) = true := by simp [h0]
      repeat refine sq ?_
      refine dx hΓ hP [[], [], [0, 1], [0, 1, 2], [0, 1, 2, 3], [0, 1, 2, 3, 4], [0, 1, 2, 3, 4, 5], [0, 1, 2, 3, 4, 5, 6], [0, 1, 2, 3, 4, 5, 6, 7], [0, 1, 2, 3, 4, 5, 6, 7], [0, 1, 2, 3, 4, 5, 6, 7, 8, 9], [0, 1, 2, 3, 4, 5, 6, 7, 8, 9, 10], [0, 1, 2, 3, 4, 5, 6, 7, 8, 9, 10, 11], [0, 1, 2, 3, 4, 5, 6, 7, 8, 9, 10, 11, 12], [0, 1, 2, 3, 4, 5, 6, 7, 8, 9, 10, 11, 12, 13], [0, 1, 2, 3, 4, 5, 6, 7, 8, 9, 10, 11, 12, 13, 14], [0, 1, 2, 3, 4, 5, 6, 7, 8, 9, 10, 11, 12, 13, 14, 15], [0, 1, 2, 3, 4, 5, 6, 7, 8, 9, 10, 11, 12, 13, 14, 15, 16], [0, 1, 2, 3, 4, 5, 6, 7, 8, 9, 10, 11, 12, 13, 14, 15, 16, 17], [0, 1, 2, 3, 4, 5, 6, 7, 8, 9, 10, 11, 12, 13, 14, 15, 16, 17, 18], [0, 1, 2, 3, 4, 5, 6, 7, 8, 9, 10, 11, 12, 13, 14, 15, 16, 17, 18, 19], [0, 1, 2, 3, 4, 5, 6, 7, 8, 9, 10, 11, 12, 13, 14, 15, 16, 17, 18, 19], [0, 1, 2, 3, 4, 5, 6, 7, 8, 9, 10, 11, 12, 13, 14, 15, 16, 17, 18, 19, 20, 21], [0, 1, 2, 3, 4, 5, 6, 7, 8, 9, 10, 11, 12, 13, 14, 15, 16, 17, 18, 19, 20, 21, 22], [0, 1, 2, 3, 4, 5, 6, 7, 8, 9, 10, 11, 12, 13, 14, 15, 16, 17, 18, 19, 20, 21, 22, 23], [0, 1, 2, 3, 4, 5, 6, 7, 8, 9, 10, 11, 12, 13, 14, 15, 16, 17, 18, 19], [0, 1, 2, 3, 4, 5, 6, 7, 8, 9, 10, 11, 12, 13, 14, 15, 16, 17, 18, 19], [0, 1, 2, 3, 4, 5, 6, 7, 8, 9, 10, 11, 12, 13, 14, 15, 16, 17, 18, 19, 26], [0, 1, 2, 3, 4, 5, 6, 7, 8, 9, 10, 11, 12, 13, 14, 15, 16, 17, 18, 19, 25, 26, 27], [0, 1, 2, 3, 4, 5, 6, 7, 8, 9, 10, 11, 12, 13, 14, 15, 16, 17, 18, 19, 25, 26, 27, 28], [0, 1, 2, 3, 4, 5, 6, 7, 8, 9, 10, 11, 12, 13, 14, 15, 16, 17, 18, 19, 25, 26, 27, 28, 29], [0, 1, 2, 3, 4, 5, 6, 7, 8, 9, 10, 11, 12, 13, 14, 15, 16, 17, 18, 19, 25, 26, 27, 28, 29, 30], [0, 1, 2, 3, 4, 5, 6, 7, 8, 9, 10, 11, 12, 13, 14, 15, 16, 17, 18, 19, 20, 21, 22, 23, 24, 25, 26, 27, 28, 29, 30, 31], [0, 1, 2, 3, 4, 5, 6, 7, 8, 9, 10, 11, 12, 13, 14, 15, 16, 17, 18, 19, 20, 21, 22, 23, 24, 25, 26, 27, 28, 29, 30, 31, 32], [0, 1, 2, 3, 4, 5, 6, 7, 8, 9, 10, 11, 12, 13, 14, 15, 16, 17, 18, 19, 20, 21, 22, 23, 24, 25, 26, 27, 28, 29, 30, 31, 32, 33]] [0,3,44] [] (by kernel_rfl) (fun K' hK => by simp only [go_sem, map_getD hlt, Int.toNat_natCast, Int.natCast_nonneg, hlt', hz0, hp, map_getD hlt, map_getD hpl, Int.toNat_natCast, Int.natCast_nonneg, hlt', pos_dec, not_lt]; (repeat (refine ⟨by first | exact ob | exact fun _ => ⟨hq1, hq2, rfl⟩ | exact fun _ => ⟨hq1, hq2⟩, ?_⟩)); (first | refine ⟨by rfl, ?_⟩ | skip); exact hK _ (by simp only [go_sem]) (by simp only [go_sem] <;> rfl)) ?_
      repeat refine sq ?_
      refine cl_cond rfl rfl (fun hb => ?_) fun hb => ?_
      · skip
        repeat refine sq ?_
        have hbad : parAt l i = false := by simpa [hz0, hb] using hpc.symm
        repeat refine sq ?_
        refine rx hΓ [2] [] (fun K' hK => by simp only [go_sem, map_getD hlt, Int.toNat_natCast, Int.natCast_nonneg, hlt', hz0]; (repeat (refine ⟨ob, ?_⟩)); exact hK _ (by simp only [go_sem]) (by simp only [go_sem] <;> rfl)) ?_
        refine cl_ret ?_
        simp only [go_sem]
        first | simp only [parB, allN_bad hlt hbad, Bool.false_and] | (simp only [parB, hR, Bool.true_and]; done) | (simp only [parB, hR, Bool.true_and]; congr 2; apply propext; omega)
      · skip
        repeat refine sq ?_
        have hgood : parAt l i = true := by simpa [hz0, hb] using hpc.symm
        refine cl_skip ?_
        refine cl_nil ?_
        simp only [go_sem]
        refine kp [0,3] [] ?_
        repeat refine sq ?_
        refine cl_r hΓ fun K' hK => ?_
        simp only [go_sem, map_getD hlt, Int.toNat_natCast, Int.natCast_nonneg, hlt', hz0]
        repeat refine ⟨ob, ?_⟩
        refine hK _ ?_
        clear K' hK
        simp only [go_sem]
        refine ⟨i + 1, ⟨hlt, ?_⟩, by (show l.length - (i + 1) < l.length - i; omega), ?_⟩
        · skip
          exact allN_succ hR hgood
        refine weak_eq [0,3] [] ?_ ?_
        · simp only [go_sem, wrap_succ hlt hl, Int.natCast_add, Int.natCast_one]
        · simp only [go_sem, wrap_succ hlt hl, Int.natCast_add, Int.natCast_one]
    · skip
      have hwr := par_prev hpe hpl hR h0
      have hz0 : (i == 0) = false := by rw [beq_eq_false_iff_ne]; omega
      obtain ⟨hq1, hq2⟩ := hpos h0
      repeat refine sq ?_
      refine dx hΓ hP [[], [], [0, 1], [0, 1, 2], [0, 1, 2, 3], [0, 1, 2, 3, 4], [0, 1, 2, 3, 4, 5], [0, 1, 2, 3, 4, 5, 6], [0, 1, 2, 3, 4, 5, 6, 7], [0, 1, 2, 3, 4, 5, 6, 7], [0, 1, 2, 3, 4, 5, 6, 7, 8, 9], [0, 1, 2, 3, 4, 5, 6, 7, 8, 9, 10], [0, 1, 2, 3, 4, 5, 6, 7, 8, 9, 10, 11], [0, 1, 2, 3, 4, 5, 6, 7, 8, 9, 10, 11, 12], [0, 1, 2, 3, 4, 5, 6, 7, 8, 9, 10, 11, 12, 13], [0, 1, 2, 3, 4, 5, 6, 7, 8, 9, 10, 11, 12, 13, 14], [0, 1, 2, 3, 4, 5, 6, 7, 8, 9, 10, 11, 12, 13, 14, 15], [0, 1, 2, 3, 4, 5, 6, 7, 8, 9, 10, 11, 12, 13, 14, 15, 16], [0, 1, 2, 3, 4, 5, 6, 7, 8, 9, 10, 11, 12, 13, 14, 15, 16, 17], [0, 1, 2, 3, 4, 5, 6, 7, 8, 9, 10, 11, 12, 13, 14, 15, 16, 17, 18], [0, 1, 2, 3, 4, 5, 6, 7, 8, 9, 10, 11, 12, 13, 14, 15, 16, 17, 18, 19], [0, 1, 2, 3, 4, 5, 6, 7, 8, 9, 10, 11, 12, 13, 14, 15, 16, 17, 18, 19], [0, 1, 2, 3, 4, 5, 6, 7, 8, 9, 10, 11, 12, 13, 14, 15, 16, 17, 18, 19, 20, 21], [0, 1, 2, 3, 4, 5, 6, 7, 8, 9, 10, 11, 12, 13, 14, 15, 16, 17, 18, 19, 20, 21, 22], [0, 1, 2, 3, 4, 5, 6, 7, 8, 9, 10, 11, 12, 13, 14, 15, 16, 17, 18, 19, 20, 21, 22, 23], [0, 1, 2, 3, 4, 5, 6, 7, 8, 9, 10, 11, 12, 13, 14, 15, 16, 17, 18, 19], [0, 1, 2, 3, 4, 5, 6, 7, 8, 9, 10, 11, 12, 13, 14, 15, 16, 17, 18, 19], [0, 1, 2, 3, 4, 5, 6, 7, 8, 9, 10, 11, 12, 13, 14, 15, 16, 17, 18, 19, 26], [0, 1, 2, 3, 4, 5, 6, 7, 8, 9, 10, 11, 12, 13, 14, 15, 16, 17, 18, 19, 25, 26, 27], [0, 1, 2, 3, 4, 5, 6, 7, 8, 9, 10, 11, 12, 13, 14, 15, 16, 17, 18, 19, 25, 26, 27, 28], [0, 1, 2, 3, 4, 5, 6, 7, 8, 9, 10, 11, 12, 13, 14, 15, 16, 17, 18, 19, 25, 26, 27, 28, 29], [0, 1, 2, 3, 4, 5, 6, 7, 8, 9, 10, 11, 12, 13, 14, 15, 16, 17, 18, 19, 25, 26, 27, 28, 29, 30], [0, 1, 2, 3, 4, 5, 6, 7, 8, 9, 10, 11, 12, 13, 14, 15, 16, 17, 18, 19, 20, 21, 22, 23, 24, 25, 26, 27, 28, 29, 30, 31], [0, 1, 2, 3, 4, 5, 6, 7, 8, 9, 10, 11, 12, 13, 14, 15, 16, 17, 18, 19, 20, 21, 22, 23, 24, 25, 26, 27, 28, 29, 30, 31, 32], [0, 1, 2, 3, 4, 5, 6, 7, 8, 9, 10, 11, 12, 13, 14, 15, 16, 17, 18, 19, 20, 21, 22, 23, 24, 25, 26, 27, 28, 29, 30, 31, 32, 33]] [0,3,44] [] (by kernel_rfl) (fun K' hK => by simp only [go_sem, map_getD hlt, Int.toNat_natCast, Int.natCast_nonneg, hlt', hwr, hz0, hq1, hq2, hp, map_getD hlt, map_getD hpl, Int.toNat_natCast, Int.natCast_nonneg, hlt', pos_dec, not_lt]; (repeat (refine ⟨by first | exact ob | exact fun _ => ⟨hq1, hq2, rfl⟩ | exact fun _ => ⟨hq1, hq2⟩, ?_⟩)); (first | refine ⟨by rfl, ?_⟩ | skip); exact hK _ (by simp only [go_sem]) (by simp only [go_sem] <;> rfl)) ?_
      repeat refine sq ?_
      refine cl_cond rfl rfl (fun hb => ?_) fun hb => ?_
      · skip
        repeat refine sq ?_
        have hbad : parAt l i = false := by simpa [hz0, ← Bool.or_assoc, hb] using hpc.symm
        repeat refine sq ?_
        refine rx hΓ [2] [] (fun K' hK => by simp only [go_sem, map_getD hlt, Int.toNat_natCast, Int.natCast_nonneg, hlt', hwr, hz0, hq1, hq2]; (repeat (refine ⟨ob, ?_⟩)); exact hK _ (by simp only [go_sem]) (by simp only [go_sem] <;> rfl)) ?_
        refine cl_ret ?_
        simp only [go_sem]
        first | simp only [parB, allN_bad hlt hbad, Bool.false_and] | (simp only [parB, hR, Bool.true_and]; done) | (simp only [parB, hR, Bool.true_and]; congr 2; apply propext; omega)
      · skip
        repeat refine sq ?_
        have hgood : parAt l i = true := by simpa [hz0, ← Bool.or_assoc, hb] using hpc.symm
        refine cl_skip ?_
        refine cl_nil ?_
        simp only [go_sem]
        refine kp [0,3] [] ?_
        repeat refine sq ?_
        refine cl_r hΓ fun K' hK => ?_
        simp only [go_sem, map_getD hlt, Int.toNat_natCast, Int.natCast_nonneg, hlt', hwr, hz0, hq1, hq2]
        repeat refine ⟨ob, ?_⟩
        refine hK _ ?_
        clear K' hK
        simp only [go_sem]
        refine ⟨i + 1, ⟨hlt, ?_⟩, by (show l.length - (i + 1) < l.length - i; omega), ?_⟩
        · skip
          exact allN_succ hR hgood
        refine weak_eq [0,3] [] ?_ ?_
        · simp only [go_sem, wrap_succ hlt hl, Int.natCast_add, Int.natCast_one]
        · simp only [go_sem, wrap_succ hlt hl, Int.natCast_add, Int.natCast_one]
  · skip
    have hge : i = l.length := by
      have : ¬ (i : Int) < l.length := by simpa using hb
      omega
    clear hb
    subst hge
    repeat refine sq ?_
    refine cl_exit ?_
    simp only [go_sem]
    refine kp [0] [] ?_
    repeat refine sq ?_
    refine rs hΓ [2] [] ?_
    refine cl_ret ?_
    simp only [go_sem]
    first | simp only [parB, allN_bad hlt hbad, Bool.false_and] | (simp only [parB, hR, Bool.true_and]; done) | (simp only [parB, hR, Bool.true_and]; congr 2; apply propext; omega)
theorem k88 : SSound Tryz.prog 88 S88 := s88.sound
noncomputable def K2 : List (Nat × Spec) := [(82, S82), (83, S83), (79, S79), (87, S87), (84, S84), (85, S85), (81, S81), (88, S88)]
theorem K2_sound : ∀ f s, tbl K2 f = some s → SSound Tryz.prog f s := tc k82 <| tc k83 <| tc k79 <| tc k87 <| tc k84 <| tc k85 <| tc k81 <| tc k88 <| tn
attribute [go_sem] K2
/-! stocks: the checks -/
theorem stk_cond {s : Stk} {i p : Nat} (hp : p = (s.un.get i).length - 1) (hz : ((s.un.get i).length == 0) = false) (hpl : p < (s.un.get i).length) :
    (!inI (s.se.get i) 0 99999 || (!inI (s.ta.get i) 0 99999 || (!parB (s.un.get i) || (((s.un.get i)[p]).no != s.se.get i)))) = !stkAt s i := by
  subst hp
  unfold stkAt
  rw [hz, getD_at hpl]
  have : (((s.un.get i)[(s.un.get i).length - 1]).no != s.se.get i) = !(((s.un.get i)[(s.un.get i).length - 1]).no == s.se.get i) := rfl
  rw [this]
  cases inI (s.se.get i) 0 99999 <;> cases inI (s.ta.get i) 0 99999 <;> cases parB (s.un.get i) <;> cases ((s.un.get i)[(s.un.get i).length - 1].no == s.se.get i) <;> rfl
theorem stk_cond0 {s : Stk} {i : Nat} (hz : ((s.un.get i).length == 0) = true) :
    (!inI (s.se.get i) 0 99999 || (!inI (s.ta.get i) 0 99999 || !parB (s.un.get i))) = !stkAt s i := by
  unfold stkAt
  rw [hz]
  cases inI (s.se.get i) 0 99999 <;> cases inI (s.ta.get i) 0 99999 <;> cases parB (s.un.get i) <;> rfl
def hdB (me : Int) (s : Stk) : Bool := !papB s.ho || (!((s.un.get me.toNat).length == 0) || ((s.se.get me.toNat != 0) || (s.ta.get me.toNat != 0)))
theorem stk_hd {me : Int} {s : Stk} (hme : inI me 0 5 = true) : stkB me s = (!hdB me s && allN 6 (stkAt s)) := by
  unfold stkB hdB
  rw [hme]
  have h1 : (s.se.get me.toNat != 0) = !(s.se.get me.toNat == 0) := rfl
  have h2 : (s.ta.get me.toNat != 0) = !(s.ta.get me.toNat == 0) := rfl
  rw [h1, h2]
  cases papB s.ho <;> cases ((s.un.get me.toNat).length == 0) <;> cases (s.se.get me.toNat == 0) <;> cases (s.ta.get me.toNat == 0) <;> rfl
noncomputable def P89 : PSpec := p2 iI iSt (fun _ _ => True) (fun me s => .bool (stkB me s)) true
noncomputable def S89 : Spec := P89.toSpec
attribute [go_sem] P89 S89
set_option maxHeartbeats 4000000 in
theorem s89 : PSound Tryz.prog 89 P89 := by
  refine w2 (rs := [.tmp 4]) Tryz.func89 Tryz.ntmps89 (by rfl) (by kernel_rfl) (by decide) (fun _ _ _ => rfl) ⟨_, rfl, lb rfl, fun me s hp hw => ?_⟩
  have hP := mixedK
  simp only [iI, iSt] at hw ⊢
  have hΓ := K2_sound
  repeat refine sq ?_
  refine rs hΓ [0,3] [[3, 0]] ?_
  refine cl_weakM (weakM_fboxk [3, 0] (stL s) rfl [0,3] [[3, 0]] ?_ rfl) ?_
  · simp only [go_sem]
  simp only [go_sem]
  rcases hme : inI me 0 5 with _ | _
  · skip
    repeat refine sq ?_
    refine rx hΓ [3,37] [[3, 0]] (fun K' hK => by simp only [go_sem, hme]; (repeat (refine ⟨ob, ?_⟩)); exact hK _ (by simp only [go_sem]) (by simp only [go_sem] <;> rfl)) ?_
    repeat refine sq ?_
    refine cl_cond rfl rfl (fun hb => ?_) fun hb => ?_
    · skip
      repeat refine sq ?_
      refine rx hΓ [4] [] (fun K' hK => by simp only [go_sem, hme]; (repeat (refine ⟨ob, ?_⟩)); exact hK _ (by simp only [go_sem]) (by simp only [go_sem] <;> rfl)) ?_
      refine cl_ret ?_
      simp only [go_sem]
      first | (simp [stkB, hme]; done) | (rw [stk_hd hme, hhd]; rfl) | (rw [stk_hd hme, hhd, allN_bad hlt hbad]; rfl) | (rw [stk_hd hme, hhd, hR]; rfl)
    · cases hb
  · skip
    have hm := inI_iff.1 hme
    have hk : me.toNat < 6 := by omega
    have hm0 : 0 ≤ me := hm.1
    have hm6 : me < 6 := by omega
    repeat refine sq ?_
    refine rx hΓ [3,37] [[3, 0]] (fun K' hK => by simp only [go_sem, hme, hm0, hm6, stL_un_at s hk, stL_se_at s hk, stL_ta_at s hk, len_pos']; (repeat (refine ⟨ob, ?_⟩)); exact hK _ (by simp only [go_sem]) (by simp only [go_sem] <;> rfl)) ?_
    repeat refine sq ?_
    refine cl_cond rfl rfl (fun hb => ?_) fun hb => ?_
    · skip
      repeat refine sq ?_
      have hhd : hdB me s = true := by simpa [hdB, ← Bool.or_assoc] using hb
      repeat refine sq ?_
      refine rx hΓ [4] [] (fun K' hK => by simp only [go_sem, hme, hm0, hm6, stL_un_at s hk, stL_se_at s hk, stL_ta_at s hk, len_pos']; (repeat (refine ⟨ob, ?_⟩)); exact hK _ (by simp only [go_sem]) (by simp only [go_sem] <;> rfl)) ?_
      refine cl_ret ?_
      simp only [go_sem]
      first | (simp [stkB, hme]; done) | (rw [stk_hd hme, hhd]; rfl) | (rw [stk_hd hme, hhd, allN_bad hlt hbad]; rfl) | (rw [stk_hd hme, hhd, hR]; rfl)
    · skip
      repeat refine sq ?_
      have hhd : hdB me s = false := by simpa [hdB, ← Bool.or_assoc] using hb
      refine cl_skip ?_
      repeat refine sq ?_
      refine rx hΓ [3,39,40] [[3, 0]] (fun K' hK => by simp only [go_sem, hme, hm0, hm6, stL_un_at s hk, stL_se_at s hk, stL_ta_at s hk, len_pos']; (repeat (refine ⟨ob, ?_⟩)); exact hK _ (by simp only [go_sem]) (by simp only [go_sem] <;> rfl)) ?_
      repeat refine sq ?_
      refine cl_block ?_
      repeat refine sq ?_
      refine cl_loop'  (fun z : Nat => [(40, ⟨true, .v (vInt z)⟩)]) (fun z => []) (fun z => z ≤ 6 ∧ allN z (stkAt s) = true) (fun z => 6 - z) 0 ?_ ?_ ?_ ?_
      · exact ⟨Nat.zero_le _, rfl⟩
      · rfl
      · rfl
      rintro i ⟨hi, hR⟩
      simp only [go_sem]
      repeat refine sq ?_
      refine rx hΓ [3,39,40,41] [[3, 0]] (fun K' hK => by simp only [go_sem, hme, hm0, hm6, stL_un_at s hk, stL_se_at s hk, stL_ta_at s hk, len_pos']; (repeat (refine ⟨ob, ?_⟩)); exact hK _ (by simp only [go_sem]) (by simp only [go_sem] <;> rfl)) ?_
      repeat refine sq ?_
      refine cl_cond rfl rfl (fun hb => ?_) fun hb => ?_
      · skip
        have hlt : i < 6 := by have hq : (i : Int) < 6 := (by simpa using hb); omega
        have hlt' : (i : Int) < 6 := by omega
        clear hb
        obtain ⟨p, hp, hpe, hpos⟩ := last_at (l := s.un.get i) (wfL_un hw.2 hlt)
        repeat refine sq ?_
        refine cl_skip ?_
        repeat refine sq ?_
        refine cl_block ?_
        repeat refine sq ?_
        refine rx hΓ [3,5,6,39,40] [[3, 0]] (fun K' hK => by simp only [go_sem, hme, hm0, hm6, stL_un_at s hk, stL_se_at s hk, stL_ta_at s hk, len_pos', Int.toNat_natCast, Int.natCast_nonneg, hlt', Six.L_get s.un rowP default hlt, Int.toNat_natCast, Int.natCast_nonneg, hlt']; (repeat (refine ⟨ob, ?_⟩)); exact hK _ (by simp only [go_sem]) (by simp only [go_sem] <;> rfl)) ?_
        rcases hz : ((s.un.get i).length == 0) with _ | _
        · skip
          obtain ⟨hpl, hq1, hq2⟩ := hpos hz
          have hpc := stk_cond hpe hz hpl
          repeat refine sq ?_
          refine dx hΓ hP [[], [], [0, 1], [0, 1, 2], [0, 1, 2, 3], [0, 1, 2, 3, 4], [0, 1, 2, 3, 4, 5], [0, 1, 2, 3, 4, 5, 6], [0, 1, 2, 3, 4, 5, 6], [0, 1, 2, 3, 4, 5, 6, 7, 8], [0, 1, 2, 3, 4, 5, 6, 7, 8, 9], [0, 1, 2, 3, 4, 5, 6, 7, 8, 9, 10], [0, 1, 2, 3, 4, 5, 6, 7, 8, 9, 10, 11], [0, 1, 2, 3, 4, 5, 6, 7, 8, 9, 10, 11, 12], [0, 1, 2, 3, 4, 5, 6, 7, 8, 9, 10, 11, 12, 13], [0, 1, 2, 3, 4, 5, 6, 7, 8, 9, 10, 11, 12, 13, 14], [0, 1, 2, 3, 4, 5, 6, 7, 8, 9, 10, 11, 12, 13, 14, 15], [0, 1, 2, 3, 4, 5, 6, 7, 8, 9, 10, 11, 12, 13, 14, 15, 16], [0, 1, 2, 3, 4, 5, 6, 7, 8, 9, 10, 11, 12, 13, 14, 15, 16, 17], [0, 1, 2, 3, 4, 5, 6, 7, 8, 9, 10, 11, 12, 13, 14, 15, 16, 17, 18], [0, 1, 2, 3, 4, 5, 6, 7, 8, 9, 10, 11, 12, 13, 14, 15, 16, 17, 18, 19], [0, 1, 2, 3, 4, 5, 6, 7, 8, 9, 10, 11, 12, 13, 14, 15, 16, 17, 18, 19, 20], [0, 1, 2, 3, 4, 5, 6, 7, 8, 9, 10, 11, 12, 13, 14, 15, 16, 17, 18, 19, 20, 21], [0, 1, 2, 3, 4, 5, 6, 7, 8, 9, 10, 11, 12, 13, 14, 15, 16, 17, 18, 19, 20, 21, 22], [0, 1, 2, 3, 4, 5, 6, 7, 8, 9, 10, 11, 12, 13, 14, 15, 16, 17, 18, 19, 20, 21, 22, 23], [0, 1, 2, 3, 4, 5, 6, 7, 8, 9, 10, 11, 12, 13, 14, 15, 16, 17, 18, 19, 20, 21, 22, 23], [0, 1, 2, 3, 4, 5, 6, 7, 8, 9, 10, 11, 12, 13, 14, 15, 16, 17, 18, 19, 20, 21, 22, 23, 25], [0, 1, 2, 3, 4, 5, 6, 7, 8, 9, 10, 11, 12, 13, 14, 15, 16, 17, 18, 19, 20, 21, 22, 23, 25, 26], [0, 1, 2, 3, 4, 5, 6, 7, 8, 9, 10, 11, 12, 13, 14, 15, 16, 17, 18, 19, 20, 21, 22, 23, 24, 25, 26, 27], [0, 1, 2, 3, 4, 5, 6, 7, 8, 9, 10, 11, 12, 13, 14, 15, 16, 17, 18, 19, 20, 21, 22, 23, 24, 25, 26, 27, 28], [0, 1, 2, 3, 4, 5, 6, 7, 8, 9, 10, 11, 12, 13, 14, 15, 16, 17, 18, 19, 20, 21, 22, 23, 24, 25, 26, 27, 28, 29], [0, 1, 2, 3, 4, 5, 6, 7, 8, 9, 10, 11, 12, 13, 14, 15, 16, 17, 18, 19, 20, 21, 22, 23], [0, 1, 2, 3, 4, 5, 6, 7, 8, 9, 10, 11, 12, 13, 14, 15, 16, 17, 18, 19, 20, 21, 22, 23], [0, 1, 2, 3, 4, 5, 6, 7, 8, 9, 10, 11, 12, 13, 14, 15, 16, 17, 18, 19, 20, 21, 22, 23, 31, 32], [0, 1, 2, 3, 4, 5, 6, 7, 8, 9, 10, 11, 12, 13, 14, 15, 16, 17, 18, 19, 20, 21, 22, 23, 31, 32, 33], [0, 1, 2, 3, 4, 5, 6, 7, 8, 9, 10, 11, 12, 13, 14, 15, 16, 17, 18, 19, 20, 21, 22, 23, 24, 25, 26, 27, 28, 29, 30, 31, 32, 33, 34], [0, 1, 2, 3, 4, 5, 6, 7, 8, 9, 10, 11, 12, 13, 14, 15, 16, 17, 18, 19, 20, 21, 22, 23, 24, 25, 26, 27, 28, 29, 30, 31, 32, 33, 34, 35], [0, 1, 2, 3, 4, 5, 6, 7, 8, 9, 10, 11, 12, 13, 14, 15, 16, 17, 18, 19, 20, 21, 22, 23, 24, 25, 26, 27, 28, 29, 30, 31, 32, 33, 34, 35, 36]] [3,39,40,81] [[3, 0]] (by kernel_rfl) (fun K' hK => by simp only [go_sem, hme, hm0, hm6, stL_un_at s hk, stL_se_at s hk, stL_ta_at s hk, len_pos', Int.toNat_natCast, Int.natCast_nonneg, hlt', hz, hp, hq1, hq2, map_getD hpl, stL_se_at s hlt, stL_ta_at s hlt, Int.toNat_natCast, Int.natCast_nonneg, hlt', len_pos']; (repeat (refine ⟨by first | exact ob | exact ⟨hq1, hq2, rfl⟩ | exact fun _ => ⟨hq1, hq2, rfl⟩, ?_⟩)); (first | refine ⟨by rfl, ?_⟩ | skip); exact hK _ (by simp only [go_sem]) (by simp only [go_sem] <;> rfl)) ?_
          repeat refine sq ?_
          refine cl_cond rfl rfl (fun hb => ?_) fun hb => ?_
          · skip
            repeat refine sq ?_
            have hbad : stkAt s i = false := by simpa [← Bool.or_assoc, hb] using hpc.symm
            repeat refine sq ?_
            refine rx hΓ [4] [] (fun K' hK => by simp only [go_sem, hme, hm0, hm6, stL_un_at s hk, stL_se_at s hk, stL_ta_at s hk, len_pos', Int.toNat_natCast, Int.natCast_nonneg, hlt', hz, hp, hq1, hq2, map_getD hpl]; (repeat (refine ⟨ob, ?_⟩)); exact hK _ (by simp only [go_sem]) (by simp only [go_sem] <;> rfl)) ?_
            refine cl_ret ?_
            simp only [go_sem]
            first | (simp [stkB, hme]; done) | (rw [stk_hd hme, hhd]; rfl) | (rw [stk_hd hme, hhd, allN_bad hlt hbad]; rfl) | (rw [stk_hd hme, hhd, hR]; rfl)
          · skip
            repeat refine sq ?_
            have hgood : stkAt s i = true := by simpa [← Bool.or_assoc, hb] using hpc.symm
            refine cl_skip ?_
            refine cl_nil ?_
            simp only [go_sem]
            refine kp [3,39,40] [[3, 0]] ?_
            repeat refine sq ?_
            refine cl_r hΓ fun K' hK => ?_
            simp only [go_sem, hme, hm0, hm6, stL_un_at s hk, stL_se_at s hk, stL_ta_at s hk, len_pos', Int.toNat_natCast, Int.natCast_nonneg, hlt', hz, hp, hq1, hq2, map_getD hpl]
            repeat refine ⟨ob, ?_⟩
            refine hK _ ?_
            clear K' hK
            simp only [go_sem]
            refine ⟨i + 1, ⟨hlt, ?_⟩, by (show 6 - (i + 1) < 6 - i; omega), ?_⟩
            · skip
              exact allN_succ hR hgood
            refine weak_eq [3,39,40] [[3, 0]] ?_ ?_
            · simp only [go_sem, wrap_succ hlt (lb rfl : (6 : Nat) ≤ maxLen), Int.natCast_add, Int.natCast_one]
            · simp only [go_sem, wrap_succ hlt (lb rfl : (6 : Nat) ≤ maxLen), Int.natCast_add, Int.natCast_one]
        · skip
          have hpc := stk_cond0 hz
          repeat refine sq ?_
          refine dx hΓ hP [[], [], [0, 1], [0, 1, 2], [0, 1, 2, 3], [0, 1, 2, 3, 4], [0, 1, 2, 3, 4, 5], [0, 1, 2, 3, 4, 5, 6], [0, 1, 2, 3, 4, 5, 6], [0, 1, 2, 3, 4, 5, 6, 7, 8], [0, 1, 2, 3, 4, 5, 6, 7, 8, 9], [0, 1, 2, 3, 4, 5, 6, 7, 8, 9, 10], [0, 1, 2, 3, 4, 5, 6, 7, 8, 9, 10, 11], [0, 1, 2, 3, 4, 5, 6, 7, 8, 9, 10, 11, 12], [0, 1, 2, 3, 4, 5, 6, 7, 8, 9, 10, 11, 12, 13], [0, 1, 2, 3, 4, 5, 6, 7, 8, 9, 10, 11, 12, 13, 14], [0, 1, 2, 3, 4, 5, 6, 7, 8, 9, 10, 11, 12, 13, 14, 15], [0, 1, 2, 3, 4, 5, 6, 7, 8, 9, 10, 11, 12, 13, 14, 15, 16], [0, 1, 2, 3, 4, 5, 6, 7, 8, 9, 10, 11, 12, 13, 14, 15, 16, 17], [0, 1, 2, 3, 4, 5, 6, 7, 8, 9, 10, 11, 12, 13, 14, 15, 16, 17, 18], [0, 1, 2, 3, 4, 5, 6, 7, 8, 9, 10, 11, 12, 13, 14, 15, 16, 17, 18, 19], [0, 1, 2, 3, 4, 5, 6, 7, 8, 9, 10, 11, 12, 13, 14, 15, 16, 17, 18, 19, 20], [0, 1, 2, 3, 4, 5, 6, 7, 8, 9, 10, 11, 12, 13, 14, 15, 16, 17, 18, 19, 20, 21], [0, 1, 2, 3, 4, 5, 6, 7, 8, 9, 10, 11, 12, 13, 14, 15, 16, 17, 18, 19, 20, 21, 22], [0, 1, 2, 3, 4, 5, 6, 7, 8, 9, 10, 11, 12, 13, 14, 15, 16, 17, 18, 19, 20, 21, 22, 23], [0, 1, 2, 3, 4, 5, 6, 7, 8, 9, 10, 11, 12, 13, 14, 15, 16, 17, 18, 19, 20, 21, 22, 23], [0, 1, 2, 3, 4, 5, 6, 7, 8, 9, 10, 11, 12, 13, 14, 15, 16, 17, 18, 19, 20, 21, 22, 23, 25], [0, 1, 2, 3, 4, 5, 6, 7, 8, 9, 10, 11, 12, 13, 14, 15, 16, 17, 18, 19, 20, 21, 22, 23, 25, 26], [0, 1, 2, 3, 4, 5, 6, 7, 8, 9, 10, 11, 12, 13, 14, 15, 16, 17, 18, 19, 20, 21, 22, 23, 24, 25, 26, 27], [0, 1, 2, 3, 4, 5, 6, 7, 8, 9, 10, 11, 12, 13, 14, 15, 16, 17, 18, 19, 20, 21, 22, 23, 24, 25, 26, 27, 28], [0, 1, 2, 3, 4, 5, 6, 7, 8, 9, 10, 11, 12, 13, 14, 15, 16, 17, 18, 19, 20, 21, 22, 23, 24, 25, 26, 27, 28, 29], [0, 1, 2, 3, 4, 5, 6, 7, 8, 9, 10, 11, 12, 13, 14, 15, 16, 17, 18, 19, 20, 21, 22, 23], [0, 1, 2, 3, 4, 5, 6, 7, 8, 9, 10, 11, 12, 13, 14, 15, 16, 17, 18, 19, 20, 21, 22, 23], [0, 1, 2, 3, 4, 5, 6, 7, 8, 9, 10, 11, 12, 13, 14, 15, 16, 17, 18, 19, 20, 21, 22, 23, 31, 32], [0, 1, 2, 3, 4, 5, 6, 7, 8, 9, 10, 11, 12, 13, 14, 15, 16, 17, 18, 19, 20, 21, 22, 23, 31, 32, 33], [0, 1, 2, 3, 4, 5, 6, 7, 8, 9, 10, 11, 12, 13, 14, 15, 16, 17, 18, 19, 20, 21, 22, 23, 24, 25, 26, 27, 28, 29, 30, 31, 32, 33, 34], [0, 1, 2, 3, 4, 5, 6, 7, 8, 9, 10, 11, 12, 13, 14, 15, 16, 17, 18, 19, 20, 21, 22, 23, 24, 25, 26, 27, 28, 29, 30, 31, 32, 33, 34, 35], [0, 1, 2, 3, 4, 5, 6, 7, 8, 9, 10, 11, 12, 13, 14, 15, 16, 17, 18, 19, 20, 21, 22, 23, 24, 25, 26, 27, 28, 29, 30, 31, 32, 33, 34, 35, 36]] [3,39,40,81] [[3, 0]] (by kernel_rfl) (fun K' hK => by simp only [go_sem, hme, hm0, hm6, stL_un_at s hk, stL_se_at s hk, stL_ta_at s hk, len_pos', Int.toNat_natCast, Int.natCast_nonneg, hlt', hz, stL_se_at s hlt, stL_ta_at s hlt, Int.toNat_natCast, Int.natCast_nonneg, hlt', len_pos']; (repeat (refine ⟨by first | exact ob | exact ⟨hq1, hq2, rfl⟩ | exact fun _ => ⟨hq1, hq2, rfl⟩, ?_⟩)); (first | refine ⟨by rfl, ?_⟩ | skip); exact hK _ (by simp only [go_sem]) (by simp only [go_sem] <;> rfl)) ?_
          repeat refine sq ?_
          refine cl_cond rfl rfl (fun hb => ?_) fun hb => ?_
          · skip
            repeat refine sq ?_
            have hbad : stkAt s i = false := by simpa [← Bool.or_assoc, hb] using hpc.symm
            repeat refine sq ?_
            refine rx hΓ [4] [] (fun K' hK => by simp only [go_sem, hme, hm0, hm6, stL_un_at s hk, stL_se_at s hk, stL_ta_at s hk, len_pos', Int.toNat_natCast, Int.natCast_nonneg, hlt', hz]; (repeat (refine ⟨ob, ?_⟩)); exact hK _ (by simp only [go_sem]) (by simp only [go_sem] <;> rfl)) ?_
            refine cl_ret ?_
            simp only [go_sem]
            first | (simp [stkB, hme]; done) | (rw [stk_hd hme, hhd]; rfl) | (rw [stk_hd hme, hhd, allN_bad hlt hbad]; rfl) | (rw [stk_hd hme, hhd, hR]; rfl)
          · skip
            repeat refine sq ?_
            have hgood : stkAt s i = true := by simpa [← Bool.or_assoc, hb] using hpc.symm
            refine cl_skip ?_
            refine cl_nil ?_
            simp only [go_sem]
            refine kp [3,39,40] [[3, 0]] ?_
            repeat refine sq ?_
            refine cl_r hΓ fun K' hK => ?_
            simp only [go_sem, hme, hm0, hm6, stL_un_at s hk, stL_se_at s hk, stL_ta_at s hk, len_pos', Int.toNat_natCast, Int.natCast_nonneg, hlt', hz]
            repeat refine ⟨ob, ?_⟩
            refine hK _ ?_
            clear K' hK
            simp only [go_sem]
            refine ⟨i + 1, ⟨hlt, ?_⟩, by (show 6 - (i + 1) < 6 - i; omega), ?_⟩
            · skip
              exact allN_succ hR hgood
            refine weak_eq [3,39,40] [[3, 0]] ?_ ?_
            · simp only [go_sem, wrap_succ hlt (lb rfl : (6 : Nat) ≤ maxLen), Int.natCast_add, Int.natCast_one]
            · simp only [go_sem, wrap_succ hlt (lb rfl : (6 : Nat) ≤ maxLen), Int.natCast_add, Int.natCast_one]
      · skip
        have hge : i = 6 := by
          have : ¬ (i : Int) < 6 := by simpa using hb
          omega
        clear hb
        subst hge
        repeat refine sq ?_
        refine cl_exit ?_
        simp only [go_sem]
        refine kp [] [] ?_
        repeat refine sq ?_
        refine rx hΓ [4] [] (fun K' hK => by simp only [go_sem, hme, hm0, hm6, stL_un_at s hk, stL_se_at s hk, stL_ta_at s hk, len_pos']; (repeat (refine ⟨ob, ?_⟩)); exact hK _ (by simp only [go_sem]) (by simp only [go_sem] <;> rfl)) ?_
        refine cl_ret ?_
        simp only [go_sem]
        first | (simp [stkB, hme]; done) | (rw [stk_hd hme, hhd]; rfl) | (rw [stk_hd hme, hhd, allN_bad hlt hbad]; rfl) | (rw [stk_hd hme, hhd, hR]; rfl)
theorem k89 : SSound Tryz.prog 89 S89 := s89.sound
/-! stocks: the reference's check; bags -/
def stkE (me : Int) (s : Stk) : Int := if stkB me s = true then 0 else 90
def someB (s : Stk) : Bool := !allN 6 fun m => !stkB m s
def bagB (b : Bag) : Bool := inI b.fr 0 5 && inI b.to 0 5 && (b.fr != b.to) && parB b.ps && inI b.ta 0 99999
def bagE (b : Bag) : Int := if bagB b = true then 0 else 93
noncomputable def P43 : PSpec := p2 iI iSt (fun _ _ => True) (fun me s => vInt (stkE me s)) true
noncomputable def S43 : Spec := P43.toSpec
attribute [go_sem] P43 S43
set_option maxHeartbeats 4000000 in
theorem s43 : PSound Tryz.prog 43 P43 := by
  refine w2 (rs := [.tmp 4]) Tryz.func43 Tryz.ntmps43 (by rfl) (by kernel_rfl) (by decide) (fun _ _ _ => rfl) ⟨_, rfl, lb rfl, fun me s hp hw => ?_⟩
  have hP := mixedK
  simp only [iI, iSt] at hw ⊢
  have hΓ := K2_sound
  repeat refine sq ?_
  refine rs hΓ [0,3] [[3, 0]] ?_
  refine cl_weakM (weakM_fboxk [3, 0] (stL s) rfl [0,3] [[3, 0]] ?_ rfl) ?_
  · simp only [go_sem]
  simp only [go_sem]
  rcases hme : inI me 0 5 with _ | _
  · skip
    repeat refine sq ?_
    refine rx hΓ [3,37] [[3, 0]] (fun K' hK => by simp only [go_sem, hme]; (repeat (refine ⟨ob, ?_⟩)); exact hK _ (by simp only [go_sem]) (by simp only [go_sem] <;> rfl)) ?_
    repeat refine sq ?_
    refine cl_cond rfl rfl (fun hb => ?_) fun hb => ?_
    · skip
      repeat refine sq ?_
      refine rx hΓ [4] [] (fun K' hK => by simp only [go_sem, hme]; (repeat (refine ⟨ob, ?_⟩)); exact hK _ (by simp only [go_sem]) (by simp only [go_sem] <;> rfl)) ?_
      refine cl_ret ?_
      simp only [go_sem]
      first | (simp [stkE, stkB, hme]; done) | (unfold stkE; rw [stk_hd hme, hhd]; rfl) | (unfold stkE; rw [stk_hd hme, hhd, allN_bad hlt hbad]; rfl) | (unfold stkE; rw [stk_hd hme, hhd, hR]; rfl)
    · cases hb
  · skip
    have hm := inI_iff.1 hme
    have hk : me.toNat < 6 := by omega
    have hm0 : 0 ≤ me := hm.1
    have hm6 : me < 6 := by omega
    repeat refine sq ?_
    refine rx hΓ [3,37] [[3, 0]] (fun K' hK => by simp only [go_sem, hme, hm0, hm6, stL_un_at s hk, stL_se_at s hk, stL_ta_at s hk, len_pos']; (repeat (refine ⟨ob, ?_⟩)); exact hK _ (by simp only [go_sem]) (by simp only [go_sem] <;> rfl)) ?_
    repeat refine sq ?_
    refine cl_cond rfl rfl (fun hb => ?_) fun hb => ?_
    · skip
      repeat refine sq ?_
      have hhd : hdB me s = true := by simpa [hdB, ← Bool.or_assoc] using hb
      repeat refine sq ?_
      refine rx hΓ [4] [] (fun K' hK => by simp only [go_sem, hme, hm0, hm6, stL_un_at s hk, stL_se_at s hk, stL_ta_at s hk, len_pos']; (repeat (refine ⟨ob, ?_⟩)); exact hK _ (by simp only [go_sem]) (by simp only [go_sem] <;> rfl)) ?_
      refine cl_ret ?_
      simp only [go_sem]
      first | (simp [stkE, stkB, hme]; done) | (unfold stkE; rw [stk_hd hme, hhd]; rfl) | (unfold stkE; rw [stk_hd hme, hhd, allN_bad hlt hbad]; rfl) | (unfold stkE; rw [stk_hd hme, hhd, hR]; rfl)
    · skip
      repeat refine sq ?_
      have hhd : hdB me s = false := by simpa [hdB, ← Bool.or_assoc] using hb
      refine cl_skip ?_
      repeat refine sq ?_
      refine rx hΓ [3,5] [[3, 0]] (fun K' hK => by simp only [go_sem, hme, hm0, hm6, stL_un_at s hk, stL_se_at s hk, stL_ta_at s hk, len_pos']; (repeat (refine ⟨ob, ?_⟩)); exact hK _ (by simp only [go_sem]) (by simp only [go_sem] <;> rfl)) ?_
      repeat refine sq ?_
      refine cl_block ?_
      repeat refine sq ?_
      refine cl_loop'  (fun z : Nat => [(5, ⟨true, .v (vInt z)⟩)]) (fun z => []) (fun z => z ≤ 6 ∧ allN z (stkAt s) = true) (fun z => 6 - z) 0 ?_ ?_ ?_ ?_
      · exact ⟨Nat.zero_le _, rfl⟩
      · rfl
      · rfl
      rintro i ⟨hi, hR⟩
      simp only [go_sem]
      repeat refine sq ?_
      refine rx hΓ [3,5,39] [[3, 0]] (fun K' hK => by simp only [go_sem, hme, hm0, hm6, stL_un_at s hk, stL_se_at s hk, stL_ta_at s hk, len_pos']; (repeat (refine ⟨ob, ?_⟩)); exact hK _ (by simp only [go_sem]) (by simp only [go_sem] <;> rfl)) ?_
      repeat refine sq ?_
      refine cl_cond rfl rfl (fun hb => ?_) fun hb => ?_
      · skip
        have hlt : i < 6 := by have hq : (i : Int) < 6 := (by simpa using hb); omega
        have hlt' : (i : Int) < 6 := by omega
        clear hb
        obtain ⟨p, hp, hpe, hpos⟩ := last_at (l := s.un.get i) (wfL_un hw.2 hlt)
        repeat refine sq ?_
        refine cl_skip ?_
        repeat refine sq ?_
        refine cl_block ?_
        repeat refine sq ?_
        refine rx hΓ [3,5,6] [[3, 0]] (fun K' hK => by simp only [go_sem, hme, hm0, hm6, stL_un_at s hk, stL_se_at s hk, stL_ta_at s hk, len_pos', Int.toNat_natCast, Int.natCast_nonneg, hlt', stL_un_at s hlt, Int.toNat_natCast, Int.natCast_nonneg, hlt']; (repeat (refine ⟨ob, ?_⟩)); exact hK _ (by simp only [go_sem]) (by simp only [go_sem] <;> rfl)) ?_
        rcases hz : ((s.un.get i).length == 0) with _ | _
        · skip
          obtain ⟨hpl, hq1, hq2⟩ := hpos hz
          have hpc := stk_cond hpe hz hpl
          repeat refine sq ?_
          refine dx hΓ hP [[], [], [0, 1], [0, 1, 2], [0, 1, 2, 3], [0, 1, 2, 3, 4], [0, 1, 2, 3, 4, 5], [0, 1, 2, 3, 4, 5, 6], [0, 1, 2, 3, 4, 5, 6], [0, 1, 2, 3, 4, 5, 6, 7, 8], [0, 1, 2, 3, 4, 5, 6, 7, 8, 9], [0, 1, 2, 3, 4, 5, 6, 7, 8, 9, 10], [0, 1, 2, 3, 4, 5, 6, 7, 8, 9, 10, 11], [0, 1, 2, 3, 4, 5, 6, 7, 8, 9, 10, 11, 12], [0, 1, 2, 3, 4, 5, 6, 7, 8, 9, 10, 11, 12, 13], [0, 1, 2, 3, 4, 5, 6, 7, 8, 9, 10, 11, 12, 13, 14], [0, 1, 2, 3, 4, 5, 6, 7, 8, 9, 10, 11, 12, 13, 14, 15], [0, 1, 2, 3, 4, 5, 6, 7, 8, 9, 10, 11, 12, 13, 14, 15, 16], [0, 1, 2, 3, 4, 5, 6, 7, 8, 9, 10, 11, 12, 13, 14, 15, 16, 17], [0, 1, 2, 3, 4, 5, 6, 7, 8, 9, 10, 11, 12, 13, 14, 15, 16, 17, 18], [0, 1, 2, 3, 4, 5, 6, 7, 8, 9, 10, 11, 12, 13, 14, 15, 16, 17, 18, 19], [0, 1, 2, 3, 4, 5, 6, 7, 8, 9, 10, 11, 12, 13, 14, 15, 16, 17, 18, 19, 20], [0, 1, 2, 3, 4, 5, 6, 7, 8, 9, 10, 11, 12, 13, 14, 15, 16, 17, 18, 19, 20, 21], [0, 1, 2, 3, 4, 5, 6, 7, 8, 9, 10, 11, 12, 13, 14, 15, 16, 17, 18, 19, 20, 21, 22], [0, 1, 2, 3, 4, 5, 6, 7, 8, 9, 10, 11, 12, 13, 14, 15, 16, 17, 18, 19, 20, 21, 22, 23], [0, 1, 2, 3, 4, 5, 6, 7, 8, 9, 10, 11, 12, 13, 14, 15, 16, 17, 18, 19, 20, 21, 22, 23], [0, 1, 2, 3, 4, 5, 6, 7, 8, 9, 10, 11, 12, 13, 14, 15, 16, 17, 18, 19, 20, 21, 22, 23, 25], [0, 1, 2, 3, 4, 5, 6, 7, 8, 9, 10, 11, 12, 13, 14, 15, 16, 17, 18, 19, 20, 21, 22, 23, 25, 26], [0, 1, 2, 3, 4, 5, 6, 7, 8, 9, 10, 11, 12, 13, 14, 15, 16, 17, 18, 19, 20, 21, 22, 23, 24, 25, 26, 27], [0, 1, 2, 3, 4, 5, 6, 7, 8, 9, 10, 11, 12, 13, 14, 15, 16, 17, 18, 19, 20, 21, 22, 23, 24, 25, 26, 27, 28], [0, 1, 2, 3, 4, 5, 6, 7, 8, 9, 10, 11, 12, 13, 14, 15, 16, 17, 18, 19, 20, 21, 22, 23, 24, 25, 26, 27, 28, 29], [0, 1, 2, 3, 4, 5, 6, 7, 8, 9, 10, 11, 12, 13, 14, 15, 16, 17, 18, 19, 20, 21, 22, 23], [0, 1, 2, 3, 4, 5, 6, 7, 8, 9, 10, 11, 12, 13, 14, 15, 16, 17, 18, 19, 20, 21, 22, 23], [0, 1, 2, 3, 4, 5, 6, 7, 8, 9, 10, 11, 12, 13, 14, 15, 16, 17, 18, 19, 20, 21, 22, 23, 31, 32], [0, 1, 2, 3, 4, 5, 6, 7, 8, 9, 10, 11, 12, 13, 14, 15, 16, 17, 18, 19, 20, 21, 22, 23, 31, 32, 33], [0, 1, 2, 3, 4, 5, 6, 7, 8, 9, 10, 11, 12, 13, 14, 15, 16, 17, 18, 19, 20, 21, 22, 23, 24, 25, 26, 27, 28, 29, 30, 31, 32, 33, 34], [0, 1, 2, 3, 4, 5, 6, 7, 8, 9, 10, 11, 12, 13, 14, 15, 16, 17, 18, 19, 20, 21, 22, 23, 24, 25, 26, 27, 28, 29, 30, 31, 32, 33, 34, 35], [0, 1, 2, 3, 4, 5, 6, 7, 8, 9, 10, 11, 12, 13, 14, 15, 16, 17, 18, 19, 20, 21, 22, 23, 24, 25, 26, 27, 28, 29, 30, 31, 32, 33, 34, 35, 36]] [3,5,83] [[3, 0]] (by kernel_rfl) (fun K' hK => by simp only [go_sem, hme, hm0, hm6, stL_un_at s hk, stL_se_at s hk, stL_ta_at s hk, len_pos', Int.toNat_natCast, Int.natCast_nonneg, hlt', hz, hp, hq1, hq2, map_getD hpl, stL_se_at s hlt, stL_ta_at s hlt, Int.toNat_natCast, Int.natCast_nonneg, hlt', len_pos']; (repeat (refine ⟨by first | exact ob | exact ⟨hq1, hq2, rfl⟩ | exact fun _ => ⟨hq1, hq2, rfl⟩, ?_⟩)); (first | refine ⟨by rfl, ?_⟩ | skip); exact hK _ (by simp only [go_sem]) (by simp only [go_sem] <;> rfl)) ?_
          repeat refine sq ?_
          refine cl_cond rfl rfl (fun hb => ?_) fun hb => ?_
          · skip
            repeat refine sq ?_
            have hbad : stkAt s i = false := by simpa [← Bool.or_assoc, hb] using hpc.symm
            repeat refine sq ?_
            refine rx hΓ [4] [] (fun K' hK => by simp only [go_sem, hme, hm0, hm6, stL_un_at s hk, stL_se_at s hk, stL_ta_at s hk, len_pos', Int.toNat_natCast, Int.natCast_nonneg, hlt', hz, hp, hq1, hq2, map_getD hpl]; (repeat (refine ⟨ob, ?_⟩)); exact hK _ (by simp only [go_sem]) (by simp only [go_sem] <;> rfl)) ?_
            refine cl_ret ?_
            simp only [go_sem]
            first | (simp [stkE, stkB, hme]; done) | (unfold stkE; rw [stk_hd hme, hhd]; rfl) | (unfold stkE; rw [stk_hd hme, hhd, allN_bad hlt hbad]; rfl) | (unfold stkE; rw [stk_hd hme, hhd, hR]; rfl)
          · skip
            repeat refine sq ?_
            have hgood : stkAt s i = true := by simpa [← Bool.or_assoc, hb] using hpc.symm
            refine cl_skip ?_
            refine cl_nil ?_
            simp only [go_sem]
            refine kp [3,5] [[3, 0]] ?_
            repeat refine sq ?_
            refine cl_r hΓ fun K' hK => ?_
            simp only [go_sem, hme, hm0, hm6, stL_un_at s hk, stL_se_at s hk, stL_ta_at s hk, len_pos', Int.toNat_natCast, Int.natCast_nonneg, hlt', hz, hp, hq1, hq2, map_getD hpl]
            repeat refine ⟨ob, ?_⟩
            refine hK _ ?_
            clear K' hK
            simp only [go_sem]
            refine ⟨i + 1, ⟨hlt, ?_⟩, by (show 6 - (i + 1) < 6 - i; omega), ?_⟩
            · skip
              exact allN_succ hR hgood
            refine weak_eq [3,5] [[3, 0]] ?_ ?_
            · simp only [go_sem, wrap_succ hlt (lb rfl : (6 : Nat) ≤ maxLen), Int.natCast_add, Int.natCast_one]
            · simp only [go_sem, wrap_succ hlt (lb rfl : (6 : Nat) ≤ maxLen), Int.natCast_add, Int.natCast_one]
        · skip
          have hpc := stk_cond0 hz
          repeat refine sq ?_
          refine dx hΓ hP [[], [], [0, 1], [0, 1, 2], [0, 1, 2, 3], [0, 1, 2, 3, 4], [0, 1, 2, 3, 4, 5], [0, 1, 2, 3, 4, 5, 6], [0, 1, 2, 3, 4, 5, 6], [0, 1, 2, 3, 4, 5, 6, 7, 8], [0, 1, 2, 3, 4, 5, 6, 7, 8, 9], [0, 1, 2, 3, 4, 5, 6, 7, 8, 9, 10], [0, 1, 2, 3, 4, 5, 6, 7, 8, 9, 10, 11], [0, 1, 2, 3, 4, 5, 6, 7, 8, 9, 10, 11, 12], [0, 1, 2, 3, 4, 5, 6, 7, 8, 9, 10, 11, 12, 13], [0, 1, 2, 3, 4, 5, 6, 7, 8, 9, 10, 11, 12, 13, 14], [0, 1, 2, 3, 4, 5, 6, 7, 8, 9, 10, 11, 12, 13, 14, 15], [0, 1, 2, 3, 4, 5, 6, 7, 8, 9, 10, 11, 12, 13, 14, 15, 16], [0, 1, 2, 3, 4, 5, 6, 7, 8, 9, 10, 11, 12, 13, 14, 15, 16, 17], [0, 1, 2, 3, 4, 5, 6, 7, 8, 9, 10, 11, 12, 13, 14, 15, 16, 17, 18], [0, 1, 2, 3, 4, 5, 6, 7, 8, 9, 10, 11, 12, 13, 14, 15, 16, 17, 18, 19], [0, 1, 2, 3, 4, 5, 6, 7, 8, 9, 10, 11, 12, 13, 14, 15, 16, 17, 18, 19, 20], [0, 1, 2, 3, 4, 5, 6, 7, 8, 9, 10, 11, 12, 13, 14, 15, 16, 17, 18, 19, 20, 21], [0, 1, 2, 3, 4, 5, 6, 7, 8, 9, 10, 11, 12, 13, 14, 15, 16, 17, 18, 19, 20, 21, 22], [0, 1, 2, 3, 4, 5, 6, 7, 8, 9, 10, 11, 12, 13, 14, 15, 16, 17, 18, 19, 20, 21, 22, 23], [0, 1, 2, 3, 4, 5, 6, 7, 8, 9, 10, 11, 12, 13, 14, 15, 16, 17, 18, 19, 20, 21, 22, 23], [0, 1, 2, 3, 4, 5, 6, 7, 8, 9, 10, 11, 12, 13, 14, 15, 16, 17, 18, 19, 20, 21, 22, 23, 25], [0, 1, 2, 3, 4, 5, 6, 7, 8, 9, 10, 11, 12, 13, 14, 15, 16, 17, 18, 19, 20, 21, 22, 23, 25, 26], [0, 1, 2, 3, 4, 5, 6, 7, 8, 9, 10, 11, 12, 13, 14, 15, 16, 17, 18, 19, 20, 21, 22, 23, 24, 25, 26, 27], [0, 1, 2, 3, 4, 5, 6, 7, 8, 9, 10, 11, 12, 13, 14, 15, 16, 17, 18, 19, 20, 21, 22, 23, 24, 25, 26, 27, 28], [0, 1, 2, 3, 4, 5, 6, 7, 8, 9, 10, 11, 12, 13, 14, 15, 16, 17, 18, 19, 20, 21, 22, 23, 24, 25, 26, 27, 28, 29], [0, 1, 2, 3, 4, 5, 6, 7, 8, 9, 10, 11, 12, 13, 14, 15, 16, 17, 18, 19, 20, 21, 22, 23], [0, 1, 2, 3, 4, 5, 6, 7, 8, 9, 10, 11, 12, 13, 14, 15, 16, 17, 18, 19, 20, 21, 22, 23], [0, 1, 2, 3, 4, 5, 6, 7, 8, 9, 10, 11, 12, 13, 14, 15, 16, 17, 18, 19, 20, 21, 22, 23, 31, 32], [0, 1, 2, 3, 4, 5, 6, 7, 8, 9, 10, 11, 12, 13, 14, 15, 16, 17, 18, 19, 20, 21, 22, 23, 31, 32, 33], [0, 1, 2, 3, 4, 5, 6, 7, 8, 9, 10, 11, 12, 13, 14, 15, 16, 17, 18, 19, 20, 21, 22, 23, 24, 25, 26, 27, 28, 29, 30, 31, 32, 33, 34], [0, 1, 2, 3, 4, 5, 6, 7, 8, 9, 10, 11, 12, 13, 14, 15, 16, 17, 18, 19, 20, 21, 22, 23, 24, 25, 26, 27, 28, 29, 30, 31, 32, 33, 34, 35], [0, 1, 2, 3, 4, 5, 6, 7, 8, 9, 10, 11, 12, 13, 14, 15, 16, 17, 18, 19, 20, 21, 22, 23, 24, 25, 26, 27, 28, 29, 30, 31, 32, 33, 34, 35, 36]] [3,5,83] [[3, 0]] (by kernel_rfl) (fun K' hK => by simp only [go_sem, hme, hm0, hm6, stL_un_at s hk, stL_se_at s hk, stL_ta_at s hk, len_pos', Int.toNat_natCast, Int.natCast_nonneg, hlt', hz, stL_se_at s hlt, stL_ta_at s hlt, Int.toNat_natCast, Int.natCast_nonneg, hlt', len_pos']; (repeat (refine ⟨by first | exact ob | exact ⟨hq1, hq2, rfl⟩ | exact fun _ => ⟨hq1, hq2, rfl⟩, ?_⟩)); (first | refine ⟨by rfl, ?_⟩ | skip); exact hK _ (by simp only [go_sem]) (by simp only [go_sem] <;> rfl)) ?_
          repeat refine sq ?_
          refine cl_cond rfl rfl (fun hb => ?_) fun hb => ?_
          · skip
            repeat refine sq ?_
            have hbad : stkAt s i = false := by simpa [← Bool.or_assoc, hb] using hpc.symm
            repeat refine sq ?_
            refine rx hΓ [4] [] (fun K' hK => by simp only [go_sem, hme, hm0, hm6, stL_un_at s hk, stL_se_at s hk, stL_ta_at s hk, len_pos', Int.toNat_natCast, Int.natCast_nonneg, hlt', hz]; (repeat (refine ⟨ob, ?_⟩)); exact hK _ (by simp only [go_sem]) (by simp only [go_sem] <;> rfl)) ?_
            refine cl_ret ?_
            simp only [go_sem]
            first | (simp [stkE, stkB, hme]; done) | (unfold stkE; rw [stk_hd hme, hhd]; rfl) | (unfold stkE; rw [stk_hd hme, hhd, allN_bad hlt hbad]; rfl) | (unfold stkE; rw [stk_hd hme, hhd, hR]; rfl)
          · skip
            repeat refine sq ?_
            have hgood : stkAt s i = true := by simpa [← Bool.or_assoc, hb] using hpc.symm
            refine cl_skip ?_
            refine cl_nil ?_
            simp only [go_sem]
            refine kp [3,5] [[3, 0]] ?_
            repeat refine sq ?_
            refine cl_r hΓ fun K' hK => ?_
            simp only [go_sem, hme, hm0, hm6, stL_un_at s hk, stL_se_at s hk, stL_ta_at s hk, len_pos', Int.toNat_natCast, Int.natCast_nonneg, hlt', hz]
            repeat refine ⟨ob, ?_⟩
            refine hK _ ?_
            clear K' hK
            simp only [go_sem]
            refine ⟨i + 1, ⟨hlt, ?_⟩, by (show 6 - (i + 1) < 6 - i; omega), ?_⟩
            · skip
              exact allN_succ hR hgood
            refine weak_eq [3,5] [[3, 0]] ?_ ?_
            · simp only [go_sem, wrap_succ hlt (lb rfl : (6 : Nat) ≤ maxLen), Int.natCast_add, Int.natCast_one]
            · simp only [go_sem, wrap_succ hlt (lb rfl : (6 : Nat) ≤ maxLen), Int.natCast_add, Int.natCast_one]
      · skip
        have hge : i = 6 := by
          have : ¬ (i : Int) < 6 := by simpa using hb
          omega
        clear hb
        subst hge
        repeat refine sq ?_
        refine cl_exit ?_
        simp only [go_sem]
        refine kp [] [] ?_
        repeat refine sq ?_
        refine rx hΓ [4] [] (fun K' hK => by simp only [go_sem, hme, hm0, hm6, stL_un_at s hk, stL_se_at s hk, stL_ta_at s hk, len_pos']; (repeat (refine ⟨ob, ?_⟩)); exact hK _ (by simp only [go_sem]) (by simp only [go_sem] <;> rfl)) ?_
        refine cl_ret ?_
        simp only [go_sem]
        first | (simp [stkE, stkB, hme]; done) | (unfold stkE; rw [stk_hd hme, hhd]; rfl) | (unfold stkE; rw [stk_hd hme, hhd, allN_bad hlt hbad]; rfl) | (unfold stkE; rw [stk_hd hme, hhd, hR]; rfl)
theorem k43 : SSound Tryz.prog 43 S43 := s43.sound
noncomputable def K4 : List (Nat × Spec) := [(89, S89), (43, S43), (82, S82), (87, S87), (79, S79), (84, S84), (88, S88), (81, S81)]
theorem K4_sound : ∀ f s, tbl K4 f = some s → SSound Tryz.prog f s := tc k89 <| tc k43 <| tc k82 <| tc k87 <| tc k79 <| tc k84 <| tc k88 <| tc k81 <| tn
attribute [go_sem] K4
noncomputable def P42 : PSpec := p2 iI iSt (fun _ _ => True) (fun me s => vInt (stkE me s)) true
noncomputable def S42 : Spec := P42.toSpec
attribute [go_sem] P42 S42
theorem s42 : PSound Tryz.prog 42 P42 := by
  refine w2 (rs := [.tmp 4]) Tryz.func42 Tryz.ntmps42 (by rfl) (by kernel_rfl) (by decide) (fun _ _ _ => rfl) ⟨_, rfl, lb rfl, fun me s hp hw => ?_⟩
  have hP := mixedK
  simp only [iI, iSt] at hw ⊢
  have hΓ := K4_sound
  repeat refine sq ?_
  refine rs hΓ [0,3] [[3, 0]] ?_
  refine cl_weakM (weakM_fboxk [3, 0] (stL s) rfl [0,3] [[3, 0]] ?_ rfl) ?_
  · simp only [go_sem]
  simp only [go_sem]
  repeat refine sq ?_
  refine rs hΓ [8] [] ?_
  repeat refine sq ?_
  refine cl_cond rfl rfl (fun hb => ?_) fun hb => ?_
  · skip
    repeat refine sq ?_
    refine rs hΓ [4] [] ?_
    refine cl_ret ?_
    simp only [go_sem]
    first | (simp_all [stkE]; done)
  · skip
    repeat refine sq ?_
    refine cl_skip ?_
    repeat refine sq ?_
    refine rs hΓ [4] [] ?_
    refine cl_ret ?_
    simp only [go_sem]
    first | (simp_all [stkE]; done)
theorem k42 : SSound Tryz.prog 42 S42 := s42.sound
theorem some_yes {s : Stk} {i : Nat} (hi : i < 6) (h : stkB i s = true) : someB s = true := by
  unfold someB
  rw [allN_bad hi (by rw [h]; rfl)]; rfl
theorem stkE_z {me : Int} {s : Stk} : (stkE me s == 0) = stkB me s := by
  unfold stkE
  cases stkB me s <;> rfl
noncomputable def P78 : PSpec := p1 iSt (fun _ => True) (fun s => .bool (someB s)) true
noncomputable def S78 : Spec := P78.toSpec
attribute [go_sem] P78 S78
set_option maxHeartbeats 4000000 in
theorem s78 : PSound Tryz.prog 78 P78 := by
  refine w1 (rs := [.tmp 2]) Tryz.func78 Tryz.ntmps78 (by rfl) (by kernel_rfl) (by decide) (fun _ _ => rfl) ⟨_, rfl, lb rfl, fun s hp hw => ?_⟩
  have hP := mixedK
  simp only [iSt] at hw ⊢
  have hΓ := K4_sound
  repeat refine sq ?_
  refine rs hΓ [1] [[1, 0]] ?_
  refine cl_weakM (weakM_fboxk [1, 0] (stL s) rfl [1] [[1, 0]] ?_ rfl) ?_
  · simp only [go_sem]
  simp only [go_sem]
  repeat refine sq ?_
  refine rs hΓ [1,4] [[1, 0]] ?_
  repeat refine sq ?_
  refine cl_block ?_
  repeat refine sq ?_
  refine cl_loop'  (fun z : Nat => [(4, ⟨true, .v (vInt z)⟩)]) (fun z => []) (fun z => z ≤ 6 ∧ allN z (fun m => !stkB m s) = true) (fun z => 6 - z) 0 ?_ ?_ ?_ ?_
  · exact ⟨Nat.zero_le _, rfl⟩
  · rfl
  · rfl
  rintro i ⟨hi, hR⟩
  simp only [go_sem]
  repeat refine sq ?_
  refine rs hΓ [1,4,5] [[1, 0]] ?_
  repeat refine sq ?_
  refine cl_cond rfl rfl (fun hb => ?_) fun hb => ?_
  · skip
    have hlt : i < 6 := by have hq : (i : Int) < 6 := (by simpa using hb); omega
    have hlt' : (i : Int) < 6 := by omega
    clear hb
    repeat refine sq ?_
    refine cl_skip ?_
    repeat refine sq ?_
    refine cl_block ?_
    repeat refine sq ?_
    refine rx hΓ [1,3,4] [[1, 0]] (fun K' hK => by simp only [go_sem, Int.toNat_natCast, Int.natCast_nonneg, hlt']; (repeat (refine ⟨ob, ?_⟩)); exact hK _ (by simp only [go_sem]) (by simp only [go_sem] <;> rfl)) ?_
    repeat refine sq ?_
    refine rx hΓ [1,4,9] [[1, 0]] (fun K' hK => by simp only [go_sem, Int.toNat_natCast, Int.natCast_nonneg, hlt']; (repeat (refine ⟨ob, ?_⟩)); exact hK _ (by simp only [go_sem]) (by simp only [go_sem] <;> rfl)) ?_
    repeat refine sq ?_
    refine cl_cond rfl rfl (fun hb => ?_) fun hb => ?_
    · skip
      repeat refine sq ?_
      refine rx hΓ [2] [] (fun K' hK => by simp only [go_sem, Int.toNat_natCast, Int.natCast_nonneg, hlt']; (repeat (refine ⟨ob, ?_⟩)); exact hK _ (by simp only [go_sem]) (by simp only [go_sem] <;> rfl)) ?_
      refine cl_ret ?_
      simp only [go_sem]
      first | (rw [some_yes hlt (by simpa using hb)]; done) | (unfold someB; rw [hR]; rfl)
    · skip
      repeat refine sq ?_
      refine cl_skip ?_
      refine cl_nil ?_
      simp only [go_sem]
      refine kp [1,4] [[1, 0]] ?_
      repeat refine sq ?_
      refine cl_r hΓ fun K' hK => ?_
      simp only [go_sem, Int.toNat_natCast, Int.natCast_nonneg, hlt']
      repeat refine ⟨ob, ?_⟩
      refine hK _ ?_
      clear K' hK
      simp only [go_sem]
      refine ⟨i + 1, ⟨hlt, ?_⟩, by (show 6 - (i + 1) < 6 - i; omega), ?_⟩
      · skip
        exact allN_succ hR (by simpa using hb)
      refine weak_eq [1,4] [[1, 0]] ?_ ?_
      · simp only [go_sem, wrap_succ hlt (lb rfl : (6 : Nat) ≤ maxLen), Int.natCast_add, Int.natCast_one]
      · simp only [go_sem, wrap_succ hlt (lb rfl : (6 : Nat) ≤ maxLen), Int.natCast_add, Int.natCast_one]
  · skip
    have hge : i = 6 := by
      have : ¬ (i : Int) < 6 := by simpa using hb
      omega
    clear hb
    subst hge
    repeat refine sq ?_
    refine cl_exit ?_
    simp only [go_sem]
    refine kp [] [] ?_
    repeat refine sq ?_
    refine rs hΓ [2] [] ?_
    refine cl_ret ?_
    simp only [go_sem]
    first | (rw [some_yes hlt (by simpa using hb)]; done) | (unfold someB; rw [hR]; rfl)
theorem k78 : SSound Tryz.prog 78 S78 := s78.sound
noncomputable def P80 : PSpec := p1 iSt (fun _ => True) (fun s => .bool (someB s)) true
noncomputable def S80 : Spec := P80.toSpec
attribute [go_sem] P80 S80
set_option maxHeartbeats 4000000 in
theorem s80 : PSound Tryz.prog 80 P80 := by
  refine w1 (rs := [.tmp 2]) Tryz.func80 Tryz.ntmps80 (by rfl) (by kernel_rfl) (by decide) (fun _ _ => rfl) ⟨_, rfl, lb rfl, fun s hp hw => ?_⟩
  have hP := mixedK
  simp only [iSt] at hw ⊢
  have hΓ := K4_sound
  repeat refine sq ?_
  refine rs hΓ [1] [[1, 0]] ?_
  refine cl_weakM (weakM_fboxk [1, 0] (stL s) rfl [1] [[1, 0]] ?_ rfl) ?_
  · simp only [go_sem]
  simp only [go_sem]
  repeat refine sq ?_
  refine rs hΓ [1,3] [[1, 0]] ?_
  repeat refine sq ?_
  refine cl_block ?_
  repeat refine sq ?_
  refine cl_loop'  (fun z : Nat => [(3, ⟨true, .v (vInt z)⟩)]) (fun z => []) (fun z => z ≤ 6 ∧ allN z (fun m => !stkB m s) = true) (fun z => 6 - z) 0 ?_ ?_ ?_ ?_
  · exact ⟨Nat.zero_le _, rfl⟩
  · rfl
  · rfl
  rintro i ⟨hi, hR⟩
  simp only [go_sem]
  repeat refine sq ?_
  refine rs hΓ [1,3,5] [[1, 0]] ?_
  repeat refine sq ?_
  refine cl_cond rfl rfl (fun hb => ?_) fun hb => ?_
  · skip
    have hlt : i < 6 := by have hq : (i : Int) < 6 := (by simpa using hb); omega
    have hlt' : (i : Int) < 6 := by omega
    clear hb
    repeat refine sq ?_
    refine cl_skip ?_
    repeat refine sq ?_
    refine cl_block ?_
    repeat refine sq ?_
    refine rx hΓ [1,3,11] [[1, 0]] (fun K' hK => by simp only [go_sem, Int.toNat_natCast, Int.natCast_nonneg, hlt', stkE_z]; (repeat (refine ⟨ob, ?_⟩)); exact hK _ (by simp only [go_sem]) (by simp only [go_sem] <;> rfl)) ?_
    repeat refine sq ?_
    refine cl_cond rfl rfl (fun hb => ?_) fun hb => ?_
    · skip
      repeat refine sq ?_
      refine rx hΓ [2] [] (fun K' hK => by simp only [go_sem, Int.toNat_natCast, Int.natCast_nonneg, hlt', stkE_z]; (repeat (refine ⟨ob, ?_⟩)); exact hK _ (by simp only [go_sem]) (by simp only [go_sem] <;> rfl)) ?_
      refine cl_ret ?_
      simp only [go_sem]
      first | (rw [some_yes hlt (by simpa using hb)]; done) | (unfold someB; rw [hR]; rfl)
    · skip
      repeat refine sq ?_
      refine cl_skip ?_
      refine cl_nil ?_
      simp only [go_sem]
      refine kp [1,3] [[1, 0]] ?_
      repeat refine sq ?_
      refine cl_r hΓ fun K' hK => ?_
      simp only [go_sem, Int.toNat_natCast, Int.natCast_nonneg, hlt', stkE_z]
      repeat refine ⟨ob, ?_⟩
      refine hK _ ?_
      clear K' hK
      simp only [go_sem]
      refine ⟨i + 1, ⟨hlt, ?_⟩, by (show 6 - (i + 1) < 6 - i; omega), ?_⟩
      · skip
        exact allN_succ hR (by simpa using hb)
      refine weak_eq [1,3] [[1, 0]] ?_ ?_
      · simp only [go_sem, wrap_succ hlt (lb rfl : (6 : Nat) ≤ maxLen), Int.natCast_add, Int.natCast_one]
      · simp only [go_sem, wrap_succ hlt (lb rfl : (6 : Nat) ≤ maxLen), Int.natCast_add, Int.natCast_one]
  · skip
    have hge : i = 6 := by
      have : ¬ (i : Int) < 6 := by simpa using hb
      omega
    clear hb
    subst hge
    repeat refine sq ?_
    refine cl_exit ?_
    simp only [go_sem]
    refine kp [] [] ?_
    repeat refine sq ?_
    refine rs hΓ [2] [] ?_
    refine cl_ret ?_
    simp only [go_sem]
    first | (rw [some_yes hlt (by simpa using hb)]; done) | (unfold someB; rw [hR]; rfl)
theorem k80 : SSound Tryz.prog 80 S80 := s80.sound
theorem bag_cond (b : Bag) : (!inI b.fr 0 5 || (!inI b.to 0 5 || ((b.fr == b.to) || (!parB b.ps || !inI b.ta 0 99999)))) = !bagB b := by
  unfold bagB
  have : (b.fr != b.to) = !(b.fr == b.to) := rfl
  rw [this]
  cases inI b.fr 0 5 <;> cases inI b.to 0 5 <;> cases (b.fr == b.to) <;> cases parB b.ps <;> cases inI b.ta 0 99999 <;> rfl
noncomputable def P40 : PSpec := p1 iBg (fun _ => True) (fun b => vInt (bagE b)) true
noncomputable def S40 : Spec := P40.toSpec
attribute [go_sem] P40 S40
set_option maxHeartbeats 4000000 in
theorem s40 : PSound Tryz.prog 40 P40 := by
  refine w1 (rs := [.tmp 2]) Tryz.func40 Tryz.ntmps40 (by rfl) (by kernel_rfl) (by decide) (fun _ _ => rfl) ⟨_, rfl, lb rfl, fun b hp hw => ?_⟩
  have hP := mixedK
  simp only [iBg] at hw ⊢
  have hΓ := K4_sound
  repeat refine sq ?_
  refine rs hΓ [1] [[1, 0]] ?_
  refine cl_weakM (weakM_fboxk [1, 0] (bgL b) rfl [1] [[1, 0]] ?_ rfl) ?_
  · simp only [go_sem]
  simp only [go_sem]
  repeat refine sq ?_
  refine rs hΓ [31] [] ?_
  repeat refine sq ?_
  refine cl_cond rfl rfl (fun hb => ?_) fun hb => ?_
  · skip
    repeat refine sq ?_
    have hbad : bagB b = false := by simpa [← Bool.or_assoc, hb] using (bag_cond b).symm
    repeat refine sq ?_
    refine rs hΓ [2] [] ?_
    refine cl_ret ?_
    simp only [go_sem]
    first | (unfold bagE; rw [hbad]; rfl) | (unfold bagE; rw [hgood]; rfl)
  · skip
    repeat refine sq ?_
    have hgood : bagB b = true := by simpa [← Bool.or_assoc, hb] using (bag_cond b).symm
    refine cl_skip ?_
    repeat refine sq ?_
    refine rs hΓ [2] [] ?_
    refine cl_ret ?_
    simp only [go_sem]
    first | (unfold bagE; rw [hbad]; rfl) | (unfold bagE; rw [hgood]; rfl)
theorem k40 : SSound Tryz.prog 40 S40 := s40.sound

noncomputable def P41 : PSpec := p1 iBg (fun _ => True) (fun b => vInt (bagE b)) true
noncomputable def S41 : Spec := P41.toSpec
attribute [go_sem] P41 S41
set_option maxHeartbeats 4000000 in
theorem s41 : PSound Tryz.prog 41 P41 := by
  refine w1 (rs := [.tmp 2]) Tryz.func41 Tryz.ntmps41 (by rfl) (by kernel_rfl) (by decide) (fun _ _ => rfl) ⟨_, rfl, lb rfl, fun b hp hw => ?_⟩
  have hP := mixedK
  simp only [iBg] at hw ⊢
  have hΓ := K4_sound
  repeat refine sq ?_
  refine rs hΓ [1] [[1, 0]] ?_
  refine cl_weakM (weakM_fboxk [1, 0] (bgL b) rfl [1] [[1, 0]] ?_ rfl) ?_
  · simp only [go_sem]
  simp only [go_sem]
  repeat refine sq ?_
  refine rs hΓ [31] [] ?_
  repeat refine sq ?_
  refine cl_cond rfl rfl (fun hb => ?_) fun hb => ?_
  · skip
    repeat refine sq ?_
    have hbad : bagB b = false := by simpa [← Bool.or_assoc, hb] using (bag_cond b).symm
    repeat refine sq ?_
    refine rs hΓ [2] [] ?_
    refine cl_ret ?_
    simp only [go_sem]
    first | (unfold bagE; rw [hbad]; rfl) | (unfold bagE; rw [hgood]; rfl)
  · skip
    repeat refine sq ?_
    have hgood : bagB b = true := by simpa [← Bool.or_assoc, hb] using (bag_cond b).symm
    refine cl_skip ?_
    repeat refine sq ?_
    refine rs hΓ [2] [] ?_
    refine cl_ret ?_
    simp only [go_sem]
    first | (unfold bagE; rw [hbad]; rfl) | (unfold bagE; rw [hgood]; rfl)
theorem k41 : SSound Tryz.prog 41 S41 := s41.sound

/-! texts and sums -/
def strV (l : List UInt8) : ByteArray := ⟨l.toArray⟩
theorem strV_app (a b : List UInt8) : strV a ++ strV b = strV (a ++ b) := by
  apply ByteArray.ext
  simp [strV]
theorem strV_one (x : UInt8) : (⟨[x].toArray⟩ : ByteArray) = strV [x] := rfl
theorem strV_size (l : List UInt8) : (strV l).size = l.length := by
  show l.toArray.size = _
  rw [List.size_toArray]
@[go_sem] theorem un3 : (Tryz.prog.underlying 3).isSome = true := by kernel_rfl
@[go_sem] theorem un5 : (Tryz.prog.underlying 5).isSome = true := by kernel_rfl
@[go_sem] theorem lit_nil : (if (#[] : Array UInt8).size ≤ maxLen then D.v (.str ⟨#[]⟩) else D.any) = D.v (.str (strV [])) := by
  rw [if_pos (by unfold maxLen; decide)]; rfl
theorem lineV_eq (w : ByteArray) (l : List Int) : lineV w l = strV (lineL w l) := rfl
theorem itoa_nn {n : Int} (h : 0 ≤ n) : Lib.itoa n = Lib.decDigits n.toNat := by
  unfold Lib.itoa
  rw [if_neg (by omega)]
theorem dig_step {m : Nat} (h : 9 < m) : Lib.decDigits m = Lib.decDigits (m / 10) ++ [UInt8.ofNat (48 + m % 10)] := by
  rw [Lib.decDigits, dif_neg (by omega)]
theorem dig_facts (m : Nat) (hm : m ≤ 1000000) : (m : Int).tmod 10 = ((m % 10 : Nat) : Int) ∧ (m : Int).tdiv 10 = ((m / 10 : Nat) : Int) ∧ IntKind.i64.wrap (48 + ((m % 10 : Nat) : Int)) = ((48 + m % 10 : Nat) : Int) ∧
    IntKind.u8.wrap ((48 + m % 10 : Nat) : Int) = ((48 + m % 10 : Nat) : Int) ∧ IntKind.i64.wrap ((m / 10 : Nat) : Int) = ((m / 10 : Nat) : Int) := by
  refine ⟨rfl, rfl, ?_, ?_, ?_⟩
  · rw [wrap_i64 (by omega) (by omega)]; rfl
  · have h1 : 48 + m % 10 < 58 := by omega
    generalize 48 + m % 10 = k at h1
    simp only [IntKind.wrap, IntKind.signed, IntKind.bits]
    first | omega | (simp; omega)
  · rw [wrap_i64 (by omega) (by omega)]
theorem unbyte_nat (k : Nat) : unbyte (.int .u8 (k : Int)) = UInt8.ofNat k := rfl
theorem isByte_nat {k : Nat} (h : k < 256) : isByteV (.int .u8 (k : Int)) = true := by
  unfold isByteV
  simp
  omega
noncomputable def P125 : PSpec := p1 iI (fun n => 0 ≤ n ∧ n ≤ 1000000) (fun n => .str (strV (Lib.itoa n))) true
noncomputable def S125 : Spec := P125.toSpec
attribute [go_sem] P125 S125
set_option maxHeartbeats 4000000 in
theorem s125 : PSound Tryz.prog 125 P125 := by
  refine w1 (rs := [.tmp 2]) Tryz.func125 Tryz.ntmps125 (by rfl) (by kernel_rfl) (by decide) (fun _ _ => rfl) ⟨_, rfl, lb rfl, fun n hp hw => ?_⟩
  have hP := mixedK
  simp only [iI] at hw ⊢
  have hΓ := @no_sound Tryz.prog
  obtain ⟨hp0, hp1⟩ := hp
  obtain ⟨N, rfl⟩ : ∃ N : Nat, n = N := ⟨n.toNat, by omega⟩
  have hNl : (Lib.decDigits N).length ≤ 21 := by
    have := Lib.itoa_length_le (N : Int) (by omega) (by omega)
    rwa [itoa_nn (by omega), Int.toNat_natCast] at this
  repeat refine sq ?_
  refine rs hΓ [0] [] ?_
  repeat refine sq ?_
  refine rs hΓ [0,3] [] ?_
  repeat refine sq ?_
  refine cl_block ?_
  repeat refine sq ?_
  refine cl_loop'  (fun s : Nat × List UInt8 => [(0, ⟨true, .v (vInt s.1)⟩), (3, ⟨true, .v (.str (strV s.2))⟩)]) (fun s => []) (fun s => s.1 ≤ N ∧ Lib.decDigits N = Lib.decDigits s.1 ++ s.2) (fun s => s.1) (N, []) ?_ ?_ ?_ ?_
  · exact ⟨Nat.le_refl _, by simp⟩
  · rfl
  · rfl
  rintro ⟨m, acc⟩ ⟨hi, hR⟩
  simp only [go_sem]
  replace hi : m ≤ N := hi
  replace hR : Lib.decDigits N = Lib.decDigits m ++ acc := hR
  have hal : acc.length ≤ 21 := by
    have := congrArg List.length hR
    rw [List.length_append] at this
    omega
  obtain ⟨d1, d2, d3, d4, d5⟩ := dig_facts m (by omega)
  have hby := isByte_nat (k := 48 + m % 10) (by omega)
  repeat refine sq ?_
  refine rs hΓ [0,3,5] [] ?_
  repeat refine sq ?_
  refine cl_cond rfl rfl (fun hb => ?_) fun hb => ?_
  · skip
    have hgt : 9 < m := by
      have : (m : Int) > 9 := by simpa using hb
      omega
    repeat refine sq ?_
    refine cl_skip ?_
    repeat refine sq ?_
    refine cl_block ?_
    repeat refine sq ?_
    refine rx hΓ [0,3] [] (fun K' hK => by simp only [go_sem, d1, d3, d4, hby, unbyte_nat, strV_one, strV_app]; (repeat (refine ⟨by first | (simp only [strV_size, maxLen, List.length_cons, List.length_nil]; omega) | exact ob, ?_⟩)); exact hK _ (by simp only [go_sem, d1, d3, d4, hby, unbyte_nat, strV_one, strV_app]) (by simp only [go_sem, d1, d3, d4, hby, unbyte_nat, strV_one, strV_app] <;> rfl)) ?_
    repeat refine sq ?_
    refine cl_r hΓ fun K' hK => ?_
    simp only [go_sem, d2, d5]
    repeat refine ⟨ob, ?_⟩
    refine hK _ ?_
    clear K' hK
    simp only [go_sem]
    refine ⟨(m / 10, UInt8.ofNat (48 + m % 10) :: acc), ⟨by show m / 10 ≤ N; omega, ?_⟩, by show m / 10 < m; omega, ?_⟩
    · rw [hR, dig_step hgt, List.append_assoc]; rfl
    refine weak_eq [0,3] [] ?_ ?_
    · simp only [go_sem]
    · simp only [go_sem]
  · skip
    have hle : m ≤ 9 := by
      have : ¬ (m : Int) > 9 := by simpa using hb
      omega
    have hm9 : m % 10 = m := by omega
    rw [hm9] at d3 d4 hby
    have hwm : IntKind.i64.wrap (48 + (m : Int)) = ((48 + m : Nat) : Int) := d3
    repeat refine sq ?_
    refine cl_exit ?_
    simp only [go_sem]
    refine kp [0,3] [] ?_
    repeat refine sq ?_
    refine rx hΓ [2] [] (fun K' hK => by simp only [go_sem, hwm, d4, hby, unbyte_nat, strV_one, strV_app]; (repeat (refine ⟨by first | (simp only [strV_size, maxLen, List.length_cons, List.length_nil]; omega) | exact ob, ?_⟩)); exact hK _ (by simp only [go_sem, hwm, d4, hby, unbyte_nat, strV_one, strV_app]) (by simp only [go_sem, hwm, d4, hby, unbyte_nat, strV_one, strV_app] <;> rfl)) ?_
    refine cl_ret ?_
    simp only [go_sem]
    have : Lib.decDigits m = [UInt8.ofNat (48 + m)] := Lib.decDigits_one (by omega)
    rw [itoa_nn (by omega), Int.toNat_natCast, hR, this]
    all_goals first | rfl | (simp; done)
theorem k125 : SSound Tryz.prog 125 S125 := s125.sound
/-! rows of a text: the reference's -/
@[go_sem] theorem lit_sp : (if (#[32] : Array UInt8).size ≤ maxLen then D.v (.str ⟨#[32]⟩) else D.any) = D.v (.str (strV [32])) := by
  rw [if_pos (by unfold maxLen; decide)]; rfl
@[go_sem] theorem lit_nl : (if (#[10] : Array UInt8).size ≤ maxLen then D.v (.str ⟨#[10]⟩) else D.any) = D.v (.str (strV [10])) := by
  rw [if_pos (by unfold maxLen; decide)]; rfl
def okN (n : Int) : Prop := 0 ≤ n ∧ n ≤ 1000000
theorem okN_b {n : Int} (h : okN n) : i64B n := ⟨by have := h.1; omega, by have := h.2; omega⟩
theorem itoa_len {n : Int} (h : okN n) : (Lib.itoa n).length ≤ 21 := Lib.itoa_length_le n (okN_b h).1 (okN_b h).2
theorem getD_in {α : Type} {l : List α} {k : Nat} (h : k < l.length) (z : α) : l.getD k z = l[k] := by
  simp [List.getD, List.getElem?_eq_getElem h]
def preV (w : ByteArray) (l : List Int) : Nat → ByteArray
  | 0 => w
  | i + 1 => preV w l i ++ strV (32 :: Lib.itoa (l.getD i 0))
theorem preV_eq (w : ByteArray) (l : List Int) : ∀ k, k ≤ l.length → preV w l k = strV (linePre w l k)
  | 0, _ => by
    unfold linePre
    rw [List.take_zero, List.flatMap_nil, List.append_nil]
    rfl
  | k + 1, h => by
    rw [preV, preV_eq w l k (by omega), linePre_succ w l (by omega), strV_app, getD_in (show k < l.length by omega)]
theorem preV_size {w : ByteArray} {l : List Int} (hl : ∀ n ∈ l, okN n) {k : Nat} (h : k ≤ l.length) : (preV w l k).size ≤ w.size + 22 * k := by
  rw [preV_eq w l k h, strV_size]
  exact linePre_len w l (fun n hn => okN_b (hl n hn)) k h
theorem preV_end {w : ByteArray} {l : List Int} : preV w l l.length ++ strV [10] = lineV w l := by
  rw [preV_eq w l _ (Nat.le_refl _), strV_app]
  rfl
noncomputable def K6 : List (Nat × Spec) := [(125, S125)]
theorem K6_sound : ∀ f s, tbl K6 f = some s → SSound Tryz.prog f s := tc k125 <| tn
attribute [go_sem] K6
noncomputable def P111 : PSpec := p2 iStr iIs (fun w l => w.size ≤ 1000 ∧ l.length ≤ 1000000 ∧ ∀ n ∈ l, okN n) (fun w l => .str (lineV w l)) true
noncomputable def S111 : Spec := P111.toSpec
attribute [go_sem] P111 S111
set_option maxHeartbeats 4000000 in
theorem s111 : PSound Tryz.prog 111 P111 := by
  refine w2 (rs := [.tmp 4]) Tryz.func111 Tryz.ntmps111 (by rfl) (by kernel_rfl) (by decide) (fun _ _ _ => rfl) ⟨_, rfl, lb rfl, fun w l hp hw => ?_⟩
  have hP := mixedK
  simp only [iIs, iStr] at hw ⊢
  have hΓ := K6_sound
  obtain ⟨hp1, hp2, hp3⟩ := hp
  have hl : l.length ≤ maxLen := by unfold maxLen; omega
  repeat refine sq ?_
  refine rs hΓ [0,1] [] ?_
  repeat refine sq ?_
  refine rs hΓ [0,1,5] [] ?_
  repeat refine sq ?_
  refine cl_block ?_
  repeat refine sq ?_
  refine cl_loop'  (fun s : Nat => [(5, ⟨true, .v (vInt s)⟩), (0, ⟨true, .v (.str (preV w l s))⟩)]) (fun s => []) (fun s => s ≤ l.length) (fun s => l.length - s) 0 ?_ ?_ ?_ ?_
  · exact Nat.zero_le _
  · rfl
  · rfl
  rintro i hi
  simp only [go_sem]
  repeat refine sq ?_
  refine rs hΓ [0,1,5,9] [] ?_
  repeat refine sq ?_
  refine cl_cond rfl rfl (fun hb => ?_) fun hb => ?_
  · skip
    have hlt : i < l.length := by simpa using hb
    have hlt' : (i : Int) < l.length := by omega
    clear hb
    have hn := hp3 _ (List.getElem_mem hlt)
    have hn0 := hn.1
    have hn1 := hn.2
    have hz0 := itoa_len hn
    have hz3 := preV_size (w := w) hp3 (Nat.le_of_lt hlt)
    have hz1 : (strV [32]).size + (strV (Lib.itoa l[i])).size ≤ maxLen := by rw [strV_size, strV_size]; unfold maxLen; simp only [List.length_cons, List.length_nil]; omega
    have hz2 : (preV w l i).size + (strV (32 :: Lib.itoa l[i])).size ≤ maxLen := by rw [strV_size]; unfold maxLen; simp only [List.length_cons]; omega
    have he : preV w l i ++ strV (32 :: Lib.itoa l[i]) = preV w l (i + 1) := by rw [preV, getD_in hlt]
    repeat refine sq ?_
    refine cl_skip ?_
    repeat refine sq ?_
    refine cl_block ?_
    repeat refine sq ?_
    refine cl_r hΓ fun K' hK => ?_
    simp only [go_sem, Int.toNat_natCast, Int.natCast_nonneg, hlt', map_getD hlt, map_getD hlt, Int.toNat_natCast, Int.natCast_nonneg, hlt', hz1, hz2, strV_app, he]
    repeat refine ⟨ob, ?_⟩
    refine hK _ ?_
    clear K' hK
    simp only [go_sem]
    refine kp [0,1,5] [] ?_
    repeat refine sq ?_
    refine cl_r hΓ fun K' hK => ?_
    simp only [go_sem, Int.toNat_natCast, Int.natCast_nonneg, hlt', map_getD hlt]
    repeat refine ⟨ob, ?_⟩
    refine hK _ ?_
    clear K' hK
    simp only [go_sem]
    refine ⟨i + 1, hlt, by (show l.length - (i + 1) < l.length - i; omega), ?_⟩
    refine weak_eq [0,1,5] [] ?_ ?_
    · simp only [go_sem, wrap_succ hlt hl, Int.natCast_add, Int.natCast_one]
    · simp only [go_sem, wrap_succ hlt hl, Int.natCast_add, Int.natCast_one]
  · skip
    have hge : i = l.length := by
      have : ¬ (i : Int) < l.length := by simpa using hb
      omega
    clear hb
    subst hge
    have hz3 := preV_size (w := w) hp3 (Nat.le_refl _)
    have hz4 : (preV w l l.length).size + (strV [10]).size ≤ maxLen := by rw [strV_size]; unfold maxLen; simp only [List.length_cons, List.length_nil]; omega
    repeat refine sq ?_
    refine cl_exit ?_
    simp only [go_sem]
    refine kp [0] [] ?_
    repeat refine sq ?_
    refine rx hΓ [4] [] (fun K' hK => by simp only [go_sem, hz4, preV_end]; (repeat (refine ⟨ob, ?_⟩)); exact hK _ (by simp only [go_sem]) (by simp only [go_sem] <;> rfl)) ?_
    refine cl_ret ?_
    simp only [go_sem]
    skip
theorem k111 : SSound Tryz.prog 111 S111 := s111.sound
/-! the text of a stock -/
theorem getD_mem' {α : Type} {l : List α} {x : α} (h : x ∈ l) (z : α) : ∃ k, k < l.length ∧ l.getD k z = x := by
  obtain ⟨k, hk, rfl⟩ := List.mem_iff_getElem.1 h
  exact ⟨k, hk, getD_in hk z⟩
structure okS (s : Stk) : Prop where
  hol : s.ho.length ≤ 40
  ho : ∀ n ∈ s.ho, okN n
  unl : ∀ i, i < 6 → (s.un.get i).length ≤ 40
  un : ∀ i, i < 6 → ∀ p ∈ s.un.get i, okN p.no ∧ okN p.pa
  se : ∀ i, i < 6 → okN (s.se.get i)
  ta : ∀ i, i < 6 → okN (s.ta.get i)
theorem inI_ok {n lo hi : Int} (h : inI n lo hi = true) (h0 : 0 ≤ lo) (h1 : hi ≤ 1000000) : okN n := by
  obtain ⟨a, b⟩ := inI_iff.1 h
  exact ⟨by omega, by omega⟩
theorem papB_ok {l : List Int} (h : papB l = true) : l.length ≤ 40 ∧ ∀ n ∈ l, okN n := by
  unfold papB at h
  rw [Bool.and_eq_true, decide_eq_true_eq, allN_iff] at h
  refine ⟨h.2, fun n hn => ?_⟩
  obtain ⟨k, hk, rfl⟩ := getD_mem' hn 0
  have := h.1 k hk
  unfold papAt at this
  rw [Bool.and_eq_true] at this
  exact inI_ok this.1 (by omega) (by omega)
theorem parB_ok {l : List Par} (h : parB l = true) : l.length ≤ 40 ∧ ∀ p ∈ l, okN p.no ∧ okN p.pa := by
  unfold parB at h
  rw [Bool.and_eq_true, decide_eq_true_eq, allN_iff] at h
  refine ⟨h.2, fun n hn => ?_⟩
  obtain ⟨k, hk, rfl⟩ := getD_mem' hn default
  have := h.1 k hk
  unfold parAt at this
  rw [Bool.and_eq_true, Bool.and_eq_true] at this
  exact ⟨inI_ok this.1.1 (by omega) (by omega), inI_ok this.1.2 (by omega) (by omega)⟩
theorem okS_of {me : Int} {s : Stk} (h : stkB me s = true) : okS s := by
  unfold stkB at h
  simp only [Bool.and_eq_true] at h
  obtain ⟨⟨⟨⟨⟨h0, h1⟩, h2⟩, h3⟩, h4⟩, h5⟩ := h
  have hA := allN_iff.1 h5
  have hB : ∀ i, i < 6 → inI (s.se.get i) 0 99999 = true ∧ inI (s.ta.get i) 0 99999 = true ∧ parB (s.un.get i) = true := by
    intro i hi
    have := hA i hi
    unfold stkAt at this
    simp only [Bool.and_eq_true] at this
    exact ⟨this.1.1.1, this.1.1.2, this.1.2⟩
  exact ⟨(papB_ok h1).1, (papB_ok h1).2, fun i hi => (parB_ok (hB i hi).2.2).1, fun i hi => (parB_ok (hB i hi).2.2).2, fun i hi => inI_ok (hB i hi).1 (by omega) (by omega), fun i hi => inI_ok (hB i hi).2.1 (by omega) (by omega)⟩
theorem okS_some {s : Stk} (h : someB s = true) : okS s := by
  unfold someB at h
  rcases Classical.em (∃ m : Nat, m < 6 ∧ stkB m s = true) with ⟨m, hm, hb⟩ | hn
  · exact okS_of hb
  · exfalso
    rw [allN_iff.2 fun j hj => by
      cases hb : stkB (j : Int) s with
      | false => rfl
      | true => exact absurd ⟨j, hj, hb⟩ hn] at h
    exact absurd h (by decide)
def wHolds : ByteArray := strV [104, 111, 108, 100, 115]
def wUnder : ByteArray := strV [117, 110, 100, 101, 114]
def wSent : ByteArray := strV [115, 101, 110, 116]
def wTaken : ByteArray := strV [116, 97, 107, 101, 110]
@[go_sem] theorem lit_holds : (if (#[104, 111, 108, 100, 115] : Array UInt8).size ≤ maxLen then D.v (.str ⟨#[104, 111, 108, 100, 115]⟩) else D.any) = D.v (.str wHolds) := by
  rw [if_pos (by unfold maxLen; decide)]; rfl
@[go_sem] theorem lit_under : (if (#[117, 110, 100, 101, 114] : Array UInt8).size ≤ maxLen then D.v (.str ⟨#[117, 110, 100, 101, 114]⟩) else D.any) = D.v (.str wUnder) := by
  rw [if_pos (by unfold maxLen; decide)]; rfl
@[go_sem] theorem lit_sent : (if (#[115, 101, 110, 116] : Array UInt8).size ≤ maxLen then D.v (.str ⟨#[115, 101, 110, 116]⟩) else D.any) = D.v (.str wSent) := by
  rw [if_pos (by unfold maxLen; decide)]; rfl
@[go_sem] theorem lit_taken : (if (#[116, 97, 107, 101, 110] : Array UInt8).size ≤ maxLen then D.v (.str ⟨#[116, 97, 107, 101, 110]⟩) else D.any) = D.v (.str wTaken) := by
  rw [if_pos (by unfold maxLen; decide)]; rfl
def unV (a : ByteArray) (i : Nat) (l : List Par) : Nat → ByteArray
  | 0 => a
  | j + 1 => unV a i l j ++ lineV wUnder [(i : Int), (l.getD j default).no, (l.getD j default).pa]
def outV (s : Stk) : Nat → ByteArray
  | 0 => lineV wHolds s.ho
  | i + 1 => unV (outV s i) i (s.un.get i) (s.un.get i).length
theorem outV_succ (s : Stk) (i : Nat) : unV (outV s i) i (s.un.get i) (s.un.get i).length = outV s (i + 1) := rfl
def textV (s : Stk) : ByteArray := outV s 6 ++ lineV wSent (s.se.L id) ++ lineV wTaken (s.ta.L id)
theorem lineV_le {w : ByteArray} {l : List Int} (h : ∀ n ∈ l, okN n) : (lineV w l).size ≤ w.size + 22 * l.length + 1 := by
  rw [← preV_end, ByteArray.size_append, strV_size]
  have := preV_size (w := w) h (Nat.le_refl _)
  simp only [List.length_cons, List.length_nil]
  omega
theorem okN_i {i : Nat} (h : i < 6) : okN (i : Int) := ⟨by omega, by omega⟩
theorem ok3 {i : Nat} (hi : i < 6) {p : Par} (h : okN p.no ∧ okN p.pa) : ∀ n ∈ [(i : Int), p.no, p.pa], okN n := by
  intro n hn
  simp only [List.mem_cons, List.not_mem_nil, or_false] at hn
  rcases hn with rfl | rfl | rfl
  · exact okN_i hi
  · exact h.1
  · exact h.2
theorem under_le {i : Nat} (hi : i < 6) {p : Par} (h : okN p.no ∧ okN p.pa) : (lineV wUnder [(i : Int), p.no, p.pa]).size ≤ 72 := by
  have := lineV_le (w := wUnder) (ok3 hi h)
  have hw : wUnder.size = 5 := rfl
  simp only [List.length_cons, List.length_nil] at this
  omega
theorem unV_le {a : ByteArray} {i : Nat} (hi : i < 6) {l : List Par} (h : ∀ p ∈ l, okN p.no ∧ okN p.pa) : ∀ k, k ≤ l.length → (unV a i l k).size ≤ a.size + 72 * k
  | 0, _ => by show a.size ≤ _; omega
  | k + 1, hk => by
    have h1 := unV_le (a := a) hi h k (by omega)
    have h2 := under_le hi (h _ (by rw [getD_in (show k < l.length by omega) default]; exact List.getElem_mem (by omega) : l.getD k default ∈ l))
    show (unV a i l k ++ lineV wUnder [(i : Int), (l.getD k default).no, (l.getD k default).pa]).size ≤ _
    rw [ByteArray.size_append]
    omega
theorem outV_le {s : Stk} (hs : okS s) : ∀ i, i ≤ 6 → (outV s i).size ≤ 886 + 2880 * i
  | 0, _ => by
    have h1 := lineV_le (w := wHolds) hs.ho
    have h2 := hs.hol
    have hw : wHolds.size = 5 := rfl
    show (lineV wHolds s.ho).size ≤ _
    omega
  | i + 1, hi => by
    have h0 := outV_le hs i (by omega)
    have h1 := unV_le (a := outV s i) (show i < 6 by omega) (hs.un i (by omega)) _ (Nat.le_refl _)
    have h2 := hs.unl i (by omega)
    show (unV (outV s i) i (s.un.get i) (s.un.get i).length).size ≤ _
    omega
theorem six_mem {s : Six Int} (h : ∀ i, i < 6 → okN (s.get i)) : ∀ n ∈ s.L id, okN n := by
  intro n hn
  simp only [Six.L, List.mem_cons, List.not_mem_nil, or_false, id] at hn
  rcases hn with rfl | rfl | rfl | rfl | rfl | rfl
  · exact h 0 (by omega)
  · exact h 1 (by omega)
  · exact h 2 (by omega)
  · exact h 3 (by omega)
  · exact h 4 (by omega)
  · exact h 5 (by omega)
theorem sent_le {s : Stk} (hs : okS s) : (lineV wSent (s.se.L id)).size ≤ 137 := by
  have := lineV_le (w := wSent) (six_mem hs.se)
  have hw : wSent.size = 4 := rfl
  rw [Six.L_len] at this
  omega
theorem taken_le {s : Stk} (hs : okS s) : (lineV wTaken (s.ta.L id)).size ≤ 138 := by
  have := lineV_le (w := wTaken) (six_mem hs.ta)
  have hw : wTaken.size = 5 := rfl
  rw [Six.L_len] at this
  omega
theorem textV_le {s : Stk} (hs : okS s) : (textV s).size ≤ 20000 := by
  unfold textV
  rw [ByteArray.size_append, ByteArray.size_append]
  have h1 := outV_le hs 6 (by omega)
  have h2 := sent_le hs
  have h3 := taken_le hs
  omega
noncomputable def K7 : List (Nat × Spec) := [(110, S110), (111, S111)]
theorem K7_sound : ∀ f s, tbl K7 f = some s → SSound Tryz.prog f s := tc k110 <| tc k111 <| tn
attribute [go_sem] K7
noncomputable def P91 : PSpec := p1 iSt (fun s => okS s) (fun s => .str (textV s)) true
noncomputable def S91 : Spec := P91.toSpec
attribute [go_sem] P91 S91
set_option maxHeartbeats 4000000 in
theorem s91 : PSound Tryz.prog 91 P91 := by
  refine w1 (rs := [.tmp 2]) Tryz.func91 Tryz.ntmps91 (by rfl) (by kernel_rfl) (by decide) (fun _ _ => rfl) ⟨_, rfl, lb rfl, fun s hp hw => ?_⟩
  have hP := mixedK
  simp only [iSt] at hw ⊢
  have hΓ := K7_sound
  have hs : okS s := hp
  have c1 : wHolds.size ≤ 1000 ∧ s.ho.length ≤ 1000000 ∧ ∀ n ∈ s.ho, i64B n := ⟨by decide, by have := hs.hol; omega, fun n hn => okN_b (hs.ho n hn)⟩
  repeat refine sq ?_
  refine rs hΓ [1] [[1, 0]] ?_
  refine cl_weakM (weakM_fboxk [1, 0] (stL s) rfl [1] [[1, 0]] ?_ rfl) ?_
  · simp only [go_sem]
  simp only [go_sem]
  repeat refine sq ?_
  refine rx hΓ [1,3] [[1, 0]] (fun K' hK => by simp only [go_sem]; (repeat (refine ⟨by first | exact c1 | exact ob, ?_⟩)); exact hK _ (by simp only [go_sem]) (by simp only [go_sem] <;> rfl)) ?_
  repeat refine sq ?_
  refine rs hΓ [1,3,12,13] [[1, 0]] ?_
  repeat refine sq ?_
  refine cl_block ?_
  repeat refine sq ?_
  refine cl_loop'  (fun z : Nat => [(13, ⟨true, .v (vInt z)⟩), (3, ⟨true, .v (.str (outV s z))⟩)]) (fun z => []) (fun z => z ≤ 6) (fun z => 6 - z) 0 ?_ ?_ ?_ ?_
  · exact Nat.zero_le _
  · rfl
  · rfl
  rintro i hi
  simp only [go_sem]
  repeat refine sq ?_
  refine rs hΓ [1,3,12,13,14] [[1, 0]] ?_
  repeat refine sq ?_
  refine cl_cond rfl rfl (fun hb => ?_) fun hb => ?_
  · skip
    have hlt : i < 6 := by have hq : (i : Int) < 6 := (by simpa using hb); omega
    have hlt' : (i : Int) < 6 := by omega
    clear hb
    repeat refine sq ?_
    refine cl_skip ?_
    repeat refine sq ?_
    refine cl_block ?_
    repeat refine sq ?_
    refine rx hΓ [1,3,4,5,12,13] [[1, 0]] (fun K' hK => by simp only [go_sem, Int.toNat_natCast, Int.natCast_nonneg, hlt', Six.L_get s.un rowP default hlt, Int.toNat_natCast, Int.natCast_nonneg, hlt']; (repeat (refine ⟨ob, ?_⟩)); exact hK _ (by simp only [go_sem]) (by simp only [go_sem] <;> rfl)) ?_
    repeat refine sq ?_
    refine rx hΓ [1,3,4,12,13,17,18,19] [[1, 0]] (fun K' hK => by simp only [go_sem, Int.toNat_natCast, Int.natCast_nonneg, hlt']; (repeat (refine ⟨ob, ?_⟩)); exact hK _ (by simp only [go_sem]) (by simp only [go_sem] <;> rfl)) ?_
    repeat refine sq ?_
    refine cl_block ?_
    repeat refine sq ?_
    refine cl_loop'  (fun z : Nat => [(19, ⟨true, .v (vInt z)⟩), (3, ⟨true, .v (.str (unV (outV s i) i (s.un.get i) z))⟩)]) (fun z => []) (fun z => z ≤ (s.un.get i).length) (fun z => (s.un.get i).length - z) 0 ?_ ?_ ?_ ?_
    · exact Nat.zero_le _
    · rfl
    · rfl
    rintro i1 hi
    simp only [go_sem]
    repeat refine sq ?_
    refine rx hΓ [1,3,4,12,13,17,18,19,20] [[1, 0]] (fun K' hK => by simp only [go_sem, Int.toNat_natCast, Int.natCast_nonneg, hlt']; (repeat (refine ⟨ob, ?_⟩)); exact hK _ (by simp only [go_sem]) (by simp only [go_sem] <;> rfl)) ?_
    repeat refine sq ?_
    refine cl_cond rfl rfl (fun hb => ?_) fun hb => ?_
    · skip
      have hlt1 : i1 < (s.un.get i).length := by simpa using hb
      have hlt1' : (i1 : Int) < (s.un.get i).length := by omega
      clear hb
      have hq := hs.un i hlt _ (List.getElem_mem hlt1)
      have c8 : wUnder.size ≤ 1000 ∧ [(i : Int), (s.un.get i)[i1].no, (s.un.get i)[i1].pa].length ≤ 1000000 ∧ ∀ n ∈ [(i : Int), (s.un.get i)[i1].no, (s.un.get i)[i1].pa], i64B n := ⟨by decide, by show 3 ≤ 1000000; omega, fun n hn => okN_b (ok3 hlt hq n hn)⟩
      have hz1 := under_le hlt hq
      have hz2 := unV_le (a := outV s i) hlt (hs.un i hlt) i1 (Nat.le_of_lt hlt1)
      have hz3 := outV_le hs i (Nat.le_of_lt hlt)
      have hz4 := hs.unl i hlt
      have hz : (unV (outV s i) i (s.un.get i) i1).size + (lineV wUnder [(i : Int), (s.un.get i)[i1].no, (s.un.get i)[i1].pa]).size ≤ maxLen := by unfold maxLen; omega
      have he : unV (outV s i) i (s.un.get i) i1 ++ lineV wUnder [(i : Int), (s.un.get i)[i1].no, (s.un.get i)[i1].pa] = unV (outV s i) i (s.un.get i) (i1 + 1) := by rw [unV, getD_in hlt1]
      repeat refine sq ?_
      refine cl_skip ?_
      repeat refine sq ?_
      refine cl_block ?_
      repeat refine sq ?_
      refine rx hΓ [1,3,4,7,12,13,17,18,19] [[1, 0],[7, 0]] (fun K' hK => by simp only [go_sem, Int.toNat_natCast, Int.natCast_nonneg, hlt', Int.toNat_natCast, Int.natCast_nonneg, hlt1', map_getD hlt1]; (repeat (refine ⟨ob, ?_⟩)); exact hK _ (by simp only [go_sem]) (by simp only [go_sem] <;> rfl)) ?_
      repeat refine sq ?_
      refine cl_r hΓ fun K' hK => ?_
      simp only [go_sem, Int.toNat_natCast, Int.natCast_nonneg, hlt', Int.toNat_natCast, Int.natCast_nonneg, hlt1', map_getD hlt1, hz, he]
      repeat (refine ⟨by first | exact c8 | exact ob, ?_⟩)
      refine hK _ ?_
      clear K' hK
      simp only [go_sem]
      refine kp [1,3,4,12,13,17,18,19] [[1, 0]] ?_
      repeat refine sq ?_
      refine cl_r hΓ fun K' hK => ?_
      simp only [go_sem, Int.toNat_natCast, Int.natCast_nonneg, hlt', Int.toNat_natCast, Int.natCast_nonneg, hlt1', map_getD hlt1]
      repeat refine ⟨ob, ?_⟩
      refine hK _ ?_
      clear K' hK
      simp only [go_sem]
      refine ⟨i1 + 1, hlt1, by (show (s.un.get i).length - (i1 + 1) < (s.un.get i).length - i1; omega), ?_⟩
      refine weak_eq [1,3,4,12,13,17,18,19] [[1, 0]] ?_ ?_
      · simp only [go_sem, wrap_succ hlt1 (wfL_un hw hlt), Int.natCast_add, Int.natCast_one]
      · simp only [go_sem, wrap_succ hlt1 (wfL_un hw hlt), Int.natCast_add, Int.natCast_one]
    · skip
      have hge1 : i1 = (s.un.get i).length := by
        have : ¬ (i1 : Int) < (s.un.get i).length := by simpa using hb
        omega
      clear hb
      subst hge1
      repeat refine sq ?_
      refine cl_exit ?_
      simp only [go_sem]
      refine kp [1,3,12,13] [[1, 0]] ?_
      repeat refine sq ?_
      refine cl_r hΓ fun K' hK => ?_
      simp only [go_sem, Int.toNat_natCast, Int.natCast_nonneg, hlt']
      repeat refine ⟨ob, ?_⟩
      refine hK _ ?_
      clear K' hK
      simp only [go_sem]
      refine ⟨i + 1, hlt, by (show 6 - (i + 1) < 6 - i; omega), ?_⟩
      refine weak_eq [1,3,12,13] [[1, 0]] ?_ ?_
      · simp only [go_sem, wrap_succ hlt (lb rfl : (6 : Nat) ≤ maxLen), Int.natCast_add, Int.natCast_one, outV_succ s i]
      · simp only [go_sem, wrap_succ hlt (lb rfl : (6 : Nat) ≤ maxLen), Int.natCast_add, Int.natCast_one, outV_succ s i]
  · skip
    have hge : i = 6 := by
      have : ¬ (i : Int) < 6 := by simpa using hb
      omega
    clear hb
    subst hge
    have hz1 := outV_le hs 6 (Nat.le_refl _)
    have hz2 := sent_le hs
    have hz3 := taken_le hs
    have c2 : wSent.size ≤ 1000 ∧ (s.se.L id).length ≤ 1000000 ∧ ∀ n ∈ s.se.L id, i64B n := ⟨by decide, by show 6 ≤ 1000000; omega, fun n hn => okN_b (six_mem hs.se n hn)⟩
    have c3 : wTaken.size ≤ 1000 ∧ (s.ta.L id).length ≤ 1000000 ∧ ∀ n ∈ s.ta.L id, i64B n := ⟨by decide, by show 6 ≤ 1000000; omega, fun n hn => okN_b (six_mem hs.ta n hn)⟩
    have hz4 : (outV s 6).size + (lineV wSent (s.se.L id)).size ≤ maxLen := by unfold maxLen; omega
    have hz5 : (outV s 6 ++ lineV wSent (s.se.L id)).size + (lineV wTaken (s.ta.L id)).size ≤ maxLen := by rw [ByteArray.size_append]; unfold maxLen; omega
    repeat refine sq ?_
    refine cl_exit ?_
    simp only [go_sem]
    refine kp [1,3] [[1, 0]] ?_
    repeat refine sq ?_
    refine dx hΓ hP [[], [], [1], [1, 2], [0, 1, 2, 3], [], [5], [1, 2, 3, 5, 6], [0, 1, 2, 3, 4, 5, 6, 7], [0, 1, 2, 3, 4, 5, 6, 7, 8]] [2] [] (by kernel_rfl) (fun K' hK => by simp only [go_sem, hz4, hz5]; (repeat (refine ⟨by first | exact c2 | exact c3 | exact ob, ?_⟩)); (first | refine ⟨by rfl, ?_⟩ | skip); exact hK _ (by simp only [go_sem]) (by simp only [go_sem] <;> rfl)) ?_
    refine cl_ret ?_
    simp only [go_sem]
    first | rfl
theorem k91 : SSound Tryz.prog 91 S91 := s91.sound
/-! the text of a stock: the reference's -/
def sixTo (x : Six Int) (z : Nat) : List Int := (x.L id).take z
theorem sixTo_len (x : Six Int) {z : Nat} (h : z ≤ 6) : (sixTo x z).length = z := by
  unfold sixTo
  rw [List.length_take, Six.L_len]
  omega
theorem sixTo_succ (x : Six Int) {z : Nat} (h : z < 6) : sixTo x (z + 1) = sixTo x z ++ [x.get z] := by
  match z, h with
  | 0, _ => rfl
  | 1, _ => rfl
  | 2, _ => rfl
  | 3, _ => rfl
  | 4, _ => rfl
  | 5, _ => rfl
theorem sixTo_all (x : Six Int) : sixTo x 6 = x.L id := rfl
noncomputable def P92 : PSpec := p1 iSt (fun s => okS s) (fun s => .str (textV s)) true
noncomputable def S92 : Spec := P92.toSpec
attribute [go_sem] P92 S92
set_option maxHeartbeats 4000000 in
theorem s92 : PSound Tryz.prog 92 P92 := by
  refine w1 (rs := [.tmp 2]) Tryz.func92 Tryz.ntmps92 (by rfl) (by kernel_rfl) (by decide) (fun _ _ => rfl) ⟨_, rfl, lb rfl, fun s hp hw => ?_⟩
  have hP := mixedK
  simp only [iSt] at hw ⊢
  have hΓ := K7_sound
  have hs : okS s := hp
  have c1 : wHolds.size ≤ 1000 ∧ s.ho.length ≤ 1000000 ∧ ∀ n ∈ s.ho, okN n := ⟨by decide, by have := hs.hol; omega, hs.ho⟩
  have hz1 := outV_le hs 6 (Nat.le_refl _)
  have hz2 := sent_le hs
  have hz3 := taken_le hs
  have c2 : wSent.size ≤ 1000 ∧ (s.se.L id).length ≤ 1000000 ∧ ∀ n ∈ s.se.L id, okN n := ⟨by decide, by show 6 ≤ 1000000; omega, six_mem hs.se⟩
  have c3 : wTaken.size ≤ 1000 ∧ (s.ta.L id).length ≤ 1000000 ∧ ∀ n ∈ s.ta.L id, okN n := ⟨by decide, by show 6 ≤ 1000000; omega, six_mem hs.ta⟩
  have hz4 : (outV s 6).size + (lineV wSent (s.se.L id)).size ≤ maxLen := by unfold maxLen; omega
  have hz5 : (outV s 6 ++ lineV wSent (s.se.L id)).size + (lineV wTaken (s.ta.L id)).size ≤ maxLen := by rw [ByteArray.size_append]; unfold maxLen; omega
  repeat refine sq ?_
  refine rs hΓ [1] [[1, 0]] ?_
  refine cl_weakM (weakM_fboxk [1, 0] (stL s) rfl [1] [[1, 0]] ?_ rfl) ?_
  · simp only [go_sem]
  simp only [go_sem]
  repeat refine sq ?_
  refine rx hΓ [1,3] [[1, 0]] (fun K' hK => by simp only [go_sem]; (repeat (refine ⟨by first | exact c1 | exact ob, ?_⟩)); exact hK _ (by simp only [go_sem]) (by simp only [go_sem] <;> rfl)) ?_
  repeat refine sq ?_
  refine rs hΓ [1,3,4] [[1, 0]] ?_
  repeat refine sq ?_
  refine cl_block ?_
  repeat refine sq ?_
  refine cl_loop'  (fun z : Nat => [(4, ⟨true, .v (vInt z)⟩), (3, ⟨true, .v (.str (outV s z))⟩)]) (fun z => []) (fun z => z ≤ 6) (fun z => 6 - z) 0 ?_ ?_ ?_ ?_
  · exact Nat.zero_le _
  · rfl
  · rfl
  rintro i hi
  simp only [go_sem]
  repeat refine sq ?_
  refine rs hΓ [1,3,4,13] [[1, 0]] ?_
  repeat refine sq ?_
  refine cl_cond rfl rfl (fun hb => ?_) fun hb => ?_
  · skip
    have hlt : i < 6 := by have hq : (i : Int) < 6 := (by simpa using hb); omega
    have hlt' : (i : Int) < 6 := by omega
    clear hb
    repeat refine sq ?_
    refine cl_skip ?_
    repeat refine sq ?_
    refine cl_block ?_
    repeat refine sq ?_
    refine rx hΓ [1,3,4,5] [[1, 0]] (fun K' hK => by simp only [go_sem, Int.toNat_natCast, Int.natCast_nonneg, hlt']; (repeat (refine ⟨ob, ?_⟩)); exact hK _ (by simp only [go_sem]) (by simp only [go_sem] <;> rfl)) ?_
    repeat refine sq ?_
    refine cl_block ?_
    repeat refine sq ?_
    refine cl_loop'  (fun z : Nat => [(5, ⟨true, .v (vInt z)⟩), (3, ⟨true, .v (.str (unV (outV s i) i (s.un.get i) z))⟩)]) (fun z => []) (fun z => z ≤ (s.un.get i).length) (fun z => (s.un.get i).length - z) 0 ?_ ?_ ?_ ?_
    · exact Nat.zero_le _
    · rfl
    · rfl
    rintro i1 hi
    simp only [go_sem]
    repeat refine sq ?_
    refine rx hΓ [1,3,4,5,22] [[1, 0]] (fun K' hK => by simp only [go_sem, Int.toNat_natCast, Int.natCast_nonneg, hlt', stL_un_at s hlt, Int.toNat_natCast, Int.natCast_nonneg, hlt']; (repeat (refine ⟨ob, ?_⟩)); exact hK _ (by simp only [go_sem]) (by simp only [go_sem] <;> rfl)) ?_
    repeat refine sq ?_
    refine cl_cond rfl rfl (fun hb => ?_) fun hb => ?_
    · skip
      have hlt1 : i1 < (s.un.get i).length := by simpa using hb
      have hlt1' : (i1 : Int) < (s.un.get i).length := by omega
      clear hb
      have hq := hs.un i hlt _ (List.getElem_mem hlt1)
      have c8 : wUnder.size ≤ 1000 ∧ [(i : Int), (s.un.get i)[i1].no, (s.un.get i)[i1].pa].length ≤ 1000000 ∧ ∀ n ∈ [(i : Int), (s.un.get i)[i1].no, (s.un.get i)[i1].pa], okN n := ⟨by decide, by show 3 ≤ 1000000; omega, ok3 hlt hq⟩
      have hz1 := under_le hlt hq
      have hz2 := unV_le (a := outV s i) hlt (hs.un i hlt) i1 (Nat.le_of_lt hlt1)
      have hz3 := outV_le hs i (Nat.le_of_lt hlt)
      have hz4 := hs.unl i hlt
      have hz : (unV (outV s i) i (s.un.get i) i1).size + (lineV wUnder [(i : Int), (s.un.get i)[i1].no, (s.un.get i)[i1].pa]).size ≤ maxLen := by unfold maxLen; omega
      have he : unV (outV s i) i (s.un.get i) i1 ++ lineV wUnder [(i : Int), (s.un.get i)[i1].no, (s.un.get i)[i1].pa] = unV (outV s i) i (s.un.get i) (i1 + 1) := by rw [unV, getD_in hlt1]
      repeat refine sq ?_
      refine cl_skip ?_
      repeat refine sq ?_
      refine cl_block ?_
      repeat refine sq ?_
      refine cl_d hΓ hP [[], [], [], [], [2, 3], [2, 3, 4], [], [2, 3, 4, 5, 6], [2, 3, 4, 5, 6, 7], [2, 3, 4, 5, 6, 7, 8], [], [], [10, 11], [10, 11, 12], [], [10, 11, 12, 13, 14], [10, 11, 12, 13, 14, 15], [10, 11, 12, 13, 14, 15, 16], [1, 2, 3, 4, 5, 6, 7, 8, 9, 10, 11, 12, 13, 14, 15, 16, 17], [1, 2, 3, 4, 5, 6, 7, 8, 9, 10, 11, 12, 13, 14, 15, 16, 17, 18], [0, 1, 2, 3, 4, 5, 6, 7, 8, 9, 10, 11, 12, 13, 14, 15, 16, 17, 18, 19], [0, 1, 2, 3, 4, 5, 6, 7, 8, 9, 10, 11, 12, 13, 14, 15, 16, 17, 18, 19, 20]] (by kernel_rfl) fun K' hK => ?_
      simp only [go_sem, Int.toNat_natCast, Int.natCast_nonneg, hlt', Int.toNat_natCast, Int.natCast_nonneg, hlt1', hlt', map_getD hlt1, stL_un_at s hlt, hz, he, stL_un_at s hlt, Int.toNat_natCast, Int.natCast_nonneg, hlt', hlt1', map_getD hlt1]
      repeat (refine ⟨by first | exact c8 | exact ob, ?_⟩)
      first | refine ⟨by rfl, ?_⟩ | skip
      refine hK _ ?_
      clear K' hK
      simp only [go_sem]
      refine kp [1,3,4,5] [[1, 0]] ?_
      repeat refine sq ?_
      refine cl_r hΓ fun K' hK => ?_
      simp only [go_sem, Int.toNat_natCast, Int.natCast_nonneg, hlt', Int.toNat_natCast, Int.natCast_nonneg, hlt1', hlt', map_getD hlt1, stL_un_at s hlt]
      repeat refine ⟨ob, ?_⟩
      refine hK _ ?_
      clear K' hK
      simp only [go_sem]
      refine ⟨i1 + 1, hlt1, by (show (s.un.get i).length - (i1 + 1) < (s.un.get i).length - i1; omega), ?_⟩
      refine weak_eq [1,3,4,5] [[1, 0]] ?_ ?_
      · simp only [go_sem, wrap_succ hlt1 (wfL_un hw hlt), Int.natCast_add, Int.natCast_one]
      · simp only [go_sem, wrap_succ hlt1 (wfL_un hw hlt), Int.natCast_add, Int.natCast_one]
    · skip
      have hge1 : i1 = (s.un.get i).length := by
        have : ¬ (i1 : Int) < (s.un.get i).length := by simpa using hb
        omega
      clear hb
      subst hge1
      repeat refine sq ?_
      refine cl_exit ?_
      simp only [go_sem]
      refine kp [1,3,4] [[1, 0]] ?_
      repeat refine sq ?_
      refine cl_r hΓ fun K' hK => ?_
      simp only [go_sem, Int.toNat_natCast, Int.natCast_nonneg, hlt']
      repeat refine ⟨ob, ?_⟩
      refine hK _ ?_
      clear K' hK
      simp only [go_sem]
      refine ⟨i + 1, hlt, by (show 6 - (i + 1) < 6 - i; omega), ?_⟩
      refine weak_eq [1,3,4] [[1, 0]] ?_ ?_
      · simp only [go_sem, wrap_succ hlt (lb rfl : (6 : Nat) ≤ maxLen), Int.natCast_add, Int.natCast_one, outV_succ s i]
      · simp only [go_sem, wrap_succ hlt (lb rfl : (6 : Nat) ≤ maxLen), Int.natCast_add, Int.natCast_one, outV_succ s i]
  · skip
    have hge : i = 6 := by
      have : ¬ (i : Int) < 6 := by simpa using hb
      omega
    clear hb
    subst hge
    repeat refine sq ?_
    refine cl_exit ?_
    simp only [go_sem]
    refine kp [1,3] [[1, 0]] ?_
    repeat refine sq ?_
    refine rs hΓ [1,3,6] [[1, 0],[56, 0]] ?_
    refine cl_weakM (weakM_ghostk 6 [56, 0] 1 (by simp only [go_sem]) (by simp only [go_sem]) [1,3,6] [[1, 0],[56, 0]] ?_ rfl) ?_
    · simp only [go_sem]
    simp only [go_sem]
    repeat refine sq ?_
    refine rs hΓ [1,3,6,7] [[1, 0],[56, 0],[63, 0]] ?_
    refine cl_weakM (weakM_ghostk 7 [63, 0] 1 (by simp only [go_sem]) (by simp only [go_sem]) [1,3,6,7] [[1, 0],[56, 0],[63, 0]] ?_ rfl) ?_
    · simp only [go_sem]
    simp only [go_sem]
    repeat refine sq ?_
    refine rs hΓ [1,3,6,7,8] [[1, 0],[56, 0],[63, 0]] ?_
    repeat refine sq ?_
    refine cl_block ?_
    repeat refine sq ?_
    refine cl_loop'  (fun z : Nat => [(8, ⟨true, .v (vInt z)⟩), (6, ⟨true, .msl [56, 0] (sixTo s.se z).length⟩), (7, ⟨true, .msl [63, 0] (sixTo s.ta z).length⟩)]) (fun z => [([56, 0], .arr 1 ((sixTo s.se z).map vInt)), ([63, 0], .arr 1 ((sixTo s.ta z).map vInt))]) (fun z => z ≤ 6) (fun z => 6 - z) 0 ?_ ?_ ?_ ?_
    · exact Nat.zero_le _
    · rfl
    · rfl
    rintro i2 hi
    simp only [go_sem]
    repeat refine sq ?_
    refine rs hΓ [1,3,6,7,8,47] [[1, 0],[56, 0],[63, 0]] ?_
    repeat refine sq ?_
    refine cl_cond rfl rfl (fun hb => ?_) fun hb => ?_
    · skip
      have hlt2 : i2 < 6 := by have hq : (i2 : Int) < 6 := (by simpa using hb); omega
      have hlt2' : (i2 : Int) < 6 := by omega
      clear hb
      have hx1 := sixTo_len s.se (Nat.le_of_lt hlt2)
      have hx2 := sixTo_len s.ta (Nat.le_of_lt hlt2)
      repeat refine sq ?_
      refine cl_skip ?_
      repeat refine sq ?_
      refine cl_block ?_
      repeat refine sq ?_
      refine rx hΓ [1,3,6,7,8] [[1, 0],[56, 0],[63, 0]] (fun K' hK => by simp only [go_sem, Int.toNat_natCast, Int.natCast_nonneg, hlt2', stL_se_at s hlt2, Int.toNat_natCast, Int.natCast_nonneg, hlt2']; (repeat (refine ⟨ob, ?_⟩)); exact hK _ (by simp only [go_sem]) (by simp only [go_sem] <;> rfl)) ?_
      repeat refine sq ?_
      refine cl_r hΓ fun K' hK => ?_
      simp only [go_sem, Int.toNat_natCast, Int.natCast_nonneg, hlt2', stL_ta_at s hlt2, Int.toNat_natCast, Int.natCast_nonneg, hlt2']
      repeat refine ⟨ob, ?_⟩
      refine hK _ ?_
      clear K' hK
      simp only [go_sem]
      refine kp [1,3,6,7,8] [[1, 0],[56, 0],[63, 0]] ?_
      repeat refine sq ?_
      refine cl_r hΓ fun K' hK => ?_
      simp only [go_sem, Int.toNat_natCast, Int.natCast_nonneg, hlt2']
      repeat refine ⟨ob, ?_⟩
      refine hK _ ?_
      clear K' hK
      simp only [go_sem]
      refine ⟨i2 + 1, hlt2, by (show 6 - (i2 + 1) < 6 - i2; omega), ?_⟩
      refine weak_eq [1,3,6,7,8] [[1, 0],[56, 0],[63, 0]] ?_ ?_
      · simp only [go_sem, wrap_succ hlt2 (lb rfl : (6 : Nat) ≤ maxLen), Int.natCast_add, Int.natCast_one, sixTo_succ s.se hlt2, sixTo_succ s.ta hlt2, List.map_append, List.length_append, List.map_cons, List.map_nil, List.length_cons, List.length_nil]
      · simp only [go_sem, wrap_succ hlt2 (lb rfl : (6 : Nat) ≤ maxLen), Int.natCast_add, Int.natCast_one, sixTo_succ s.se hlt2, sixTo_succ s.ta hlt2, List.map_append, List.length_append, List.map_cons, List.map_nil, List.length_cons, List.length_nil]
    · skip
      have hge2 : i2 = 6 := by
        have : ¬ (i2 : Int) < 6 := by simpa using hb
        omega
      clear hb
      subst hge2
      repeat refine sq ?_
      refine cl_exit ?_
      simp only [go_sem]
      refine kp [3,6,7] [[56, 0],[63, 0]] ?_
      repeat refine sq ?_
      refine rx hΓ [2] [] (fun K' hK => by simp only [go_sem, hz4, hz5, sixTo_all]; (repeat (refine ⟨by first | exact c2 | exact c3 | exact ob, ?_⟩)); exact hK _ (by simp only [go_sem]) (by simp only [go_sem] <;> rfl)) ?_
      refine cl_ret ?_
      simp only [go_sem]
      first | rfl
theorem k92 : SSound Tryz.prog 92 S92 := s92.sound
end Go.Eng
