import Derived.Test.YtckmfkgppohnmaaGreatDoorK15
import GoSem.ClaimChange
import Derived.DataReads
import Derived.ChangeReads
import Derived.ProofKit
import Derived.Carry
import Derived.Lib.LaidTab
import Derived.LaidMore
import Derived.Stop.LaidErr
import Derived.Stop.Joined
import Derived.OpenShut
import Derived.Test.YtckmfkgppohnmaaGreatDoorRows
import Derived.Test.YtckmfkgppohnmaaGreatDoorChecked
import Derived.MakeChecks
import Derived.SevenTiedAt
import Derived.Test.YtckmfkgppohnmaaGreatDoorCards
import Derived.Test.YtckmfkgppohnmaaGreatDoorTie
/- parviselaw09.LendTells holds at every input: the tied card. -/
set_option linter.all false
/- lend's sane: its contract. -/
namespace Go.Eng
open Go Go.Proofs
theorem s19 : PSound Tryz.prog 19 ⟨fun xs => xs = [], fun _ => .bool true, true⟩ :=
  ran_pure (b := .bool true) keR35 (by
    intro fn h
    have e : Tryz.prog.funcs[19]? = some Tryz.f19 := Tryz.func19
    rw [e] at h
    obtain rfl := Option.some.inj h
    exact (by kernel_rfl : (Tryz.f19.name == "runtime.NumGoroutine") = false)) (by decide) rfl
noncomputable def P19 : PSpec := ⟨fun xs => xs = [], fun _ => .bool true, true⟩
noncomputable def S19 : Spec := P19.toSpec
theorem k19 : SSound Tryz.prog 19 S19 := s19.sound
attribute [go_sem] P19 S19
/-! LendTells -/
@[go_sem] theorem bgM_all (b : Bag) : ((bgL b).map D.v).take 4 = (bgL b).map D.v := rfl
@[go_sem] theorem bgM_len (b : Bag) : ((bgL b).map D.v).length = 4 := rfl
noncomputable def K25 : List (Nat × Spec) := [(26, S26), (27, S27), (28, S28), (29, S29), (30, S30), (31, S31), (22, S22), (32, S32), (33, S33), (34, S34), (24, S24), (19, S19)]
theorem K25_sound : ∀ f s, tbl K25 f = some s → SSound Tryz.prog f s := tc k26 <| tc k27 <| tc k28 <| tc k29 <| tc k30 <| tc k31 <| tc k22 <| tc k32 <| tc k33 <| tc k34 <| tc k24 <| tc k19 <| tn
attribute [go_sem] K25
noncomputable def P5 : PSpec := p2 iDk iI (fun _ _ => True) (fun _ _ => .bool true) true
noncomputable def S5 : Spec := P5.toSpec
attribute [go_sem] P5 S5
set_option maxHeartbeats 4000000 in
theorem s5 : PSound Tryz.prog 5 P5 := by
  refine w2 (rs := [.tmp 4]) Tryz.func5 Tryz.ntmps5 (by rfl) (by kernel_rfl) (by decide) (fun _ _ _ => rfl) ⟨_, rfl, lb rfl, fun d t hp hw => ?_⟩
  have hP := mixedK
  simp only [iDk, iI] at hw ⊢
  have hΓ := K25_sound
  repeat refine sq ?_
  refine rs hΓ [1,2] [[2, 0]] ?_
  refine cl_weakM (weakM_fboxk [2, 0] (dkL d) rfl [1,2] [[2, 0]] ?_ rfl) ?_
  · simp only [go_sem]
  simp only [go_sem]
  repeat refine sq ?_
  refine rx hΓ [1,2,5,6] [[2, 0],[5, 0]] (fun K' hK => by simp only [go_sem, List.append_nil]; (repeat (refine ⟨ob, ?_⟩)); exact hK _ (by simp only [go_sem]) (by simp only [go_sem] <;> rfl)) ?_
  repeat refine sq ?_
  refine rx hΓ [1,2,5,6,7,8] [[2, 0],[5, 0],[7, 0]] (fun K' hK => by simp only [go_sem, List.append_nil]; (repeat (refine ⟨ob, ?_⟩)); exact hK _ (by simp only [go_sem]) (by simp only [go_sem] <;> rfl)) ?_
  repeat refine sq ?_
  refine rs hΓ [1,2,5,6,7,8,9,10] [[2, 0],[5, 0],[7, 0]] ?_
  repeat refine sq ?_
  refine rs hΓ [1,2,5,6,7,8,9,10,11,12] [[2, 0],[5, 0],[7, 0]] ?_
  repeat refine sq ?_
  refine rs hΓ [1,2,5,6,7,8,9,10,11,12,13,14] [[2, 0],[5, 0],[7, 0]] ?_
  repeat refine sq ?_
  refine rs hΓ [2,5,6,7,8,9,10,11,12,13,14,15,16] [[2, 0],[5, 0],[7, 0]] ?_
  repeat refine sq ?_
  refine rx hΓ [2,5,6,7,8,9,10,11,12,13,14,15,16,17,18] [[2, 0],[5, 0],[7, 0],[17, 0]] (fun K' hK => by simp only [go_sem, List.append_nil]; (repeat (refine ⟨ob, ?_⟩)); exact hK _ (by simp only [go_sem]) (by simp only [go_sem] <;> rfl)) ?_
  repeat refine sq ?_
  refine rx hΓ [5,6,7,8,9,10,11,12,13,14,15,16,17,18,19,20] [[5, 0],[7, 0],[17, 0],[19, 0]] (fun K' hK => by simp only [go_sem, List.append_nil]; (repeat (refine ⟨ob, ?_⟩)); exact hK _ (by simp only [go_sem]) (by simp only [go_sem] <;> rfl)) ?_
  repeat refine sq ?_
  refine rx hΓ [4] [] (fun K' hK => by simp only [go_sem, List.append_nil, beq_self_eq_true, decide_true, Bool.and_self, if_true, Bool.true_and, Bool.and_true]; (repeat (refine ⟨ob, ?_⟩)); exact hK _ (by simp only [go_sem]) (by simp only [go_sem] <;> rfl)) ?_
  refine cl_ret ?_
  simp only [go_sem]
  skip
theorem k5 : SSound Tryz.prog 5 S5 := s5.sound
end Go.Eng
/- The engine's text of readings: what reads as plain data is represented by data. -/
namespace Go.Eng
open Go

def aggT (P : Program) (t : TypeId) : Bool := match P.underlying t with | some (.struct _) => true | some (.array _ _) => true | _ => false
def packV (ag : Bool) (xs : List V) : V := if ag then .agg xs else xs.getD 0 default

def tiles (P : Program) : List Field → Nat → Nat → Bool
  | [], off, tot => off == tot
  | f :: r, off, tot => f.offset == off && tiles P r (off + P.cellsOf f.type) tot

/-- Types of numbers, bools, strings, slices, structs and arrays. -/
def plainT (P : Program) : Nat → TypeId → Bool
  | 0, _ => false
  | n + 1, t => match P.underlying t with
    | some .bool => P.cellsOf t == 1
    | some (.int _) => P.cellsOf t == 1
    | some .string => P.cellsOf t == 1
    | some (.slice e) => P.cellsOf t == 1 && plainT P n e && decide (0 < P.cellsOf e) && (aggT P e || P.cellsOf e == 1)
    | some (.struct fs) => tiles P fs.toList 0 (P.cellsOf t) && fs.toList.all fun f => plainT P n f.type
    | some (.array m e) => P.cellsOf t == m * P.cellsOf e && plainT P n e
    | _ => false

def ShpL (S : TypeId → List V → Prop) : List TypeId → List V → Prop
  | [], xs => xs = []
  | t :: r, xs => ∃ a b, xs = a ++ b ∧ S t a ∧ ShpL S r b
/-- The cells of data of a type. -/
def Shp (P : Program) : Nat → TypeId → List V → Prop
  | 0, _, _ => False
  | n + 1, t, xs => match P.underlying t with
    | some .bool => ∃ b, xs = [.bool b]
    | some (.int k) => ∃ z, xs = [.int k z] ∧ (Lit.int k z).wf = true
    | some .string => ∃ s, xs = [.str s] ∧ s.size ≤ maxLen
    | some (.slice e) => ∃ ls : List (List V), xs = [.sl (ls.map (packV (aggT P e)))] ∧ ls.length ≤ maxLen ∧ ∀ y ∈ ls, Shp P n e y
    | some (.struct fs) => ShpL (Shp P n) (fs.toList.map (·.type)) xs
    | some (.array m e) => ShpL (Shp P n) (List.replicate m e) xs
    | _ => False

structure RepCs (m : Mem) (xs : List V) (cs : List Value) : Prop where
  len : xs.length = cs.length
  rep : ∀ i (h : i < xs.length) (h' : i < cs.length), RepV m xs[i] cs[i]
  one : ∀ x ∈ xs, x.one = true

theorem RepCs.nil (m : Mem) : RepCs m [] [] := ⟨rfl, fun i h => by simp at h, fun x h => by simp at h⟩
theorem RepCs.append {m : Mem} {xs ys : List V} {cs ds : List Value} (h : RepCs m xs cs) (k : RepCs m ys ds) : RepCs m (xs ++ ys) (cs ++ ds) := by
  refine ⟨by simp [h.len, k.len], fun i h1 h2 => ?_, fun x hx => ?_⟩
  · by_cases hi : i < xs.length
    · rw [List.getElem_append_left hi, List.getElem_append_left (by rw [← h.len]; exact hi)]
      exact h.rep i hi _
    · have hl := h.len
      have e : i - xs.length = i - cs.length := by rw [hl]
      rw [List.getElem_append_right (by omega), List.getElem_append_right (by omega)]
      simp only [List.length_append] at h1 h2
      have := k.rep (i - xs.length) (by omega) (by rw [← k.len]; omega)
      simp only [e] at this ⊢
      exact this
  · rcases List.mem_append.1 hx with hx | hx
    · exact h.one x hx
    · exact k.one x hx
theorem RepCs.single {m : Mem} {x : V} {u : Value} (h : RepV m x u) (ho : x.one = true) : RepCs m [x] [u] :=
  ⟨rfl, fun i h1 h2 => by simp at h1; subst h1; exact h, fun y hy => by simp at hy; subst hy; exact ho⟩

theorem mapM_some {α β : Type} {f : α → Option β} : ∀ {l : List α} {r : List β}, l.mapM f = some r → r.length = l.length ∧ ∀ i (h : i < l.length) (h' : i < r.length), f l[i] = some r[i]
  | [], r, h => by
    simp only [List.mapM_nil] at h
    cases h
    exact ⟨rfl, fun i h => by simp at h⟩
  | a :: l, r, h => by
    simp only [List.mapM_cons, Option.bind_eq_bind, Option.bind_eq_some_iff] at h
    obtain ⟨b, hb, bs, hbs, hr⟩ := h
    cases hr
    obtain ⟨h1, h2⟩ := mapM_some hbs
    refine ⟨by simp [h1], fun i hi hi' => ?_⟩
    cases i with
    | zero => exact hb
    | succ i => exact h2 i (by simpa using hi) (by simpa using hi')

theorem tiles_le {P : Program} : ∀ {fs : List Field} {off tot : Nat}, tiles P fs off tot = true → off ≤ tot
  | [], off, tot, h => by simp [tiles] at h; omega
  | f :: r, off, tot, h => by
    simp only [tiles, Bool.and_eq_true] at h
    have := tiles_le h.2
    omega

theorem fields_rep {P : Program} {m : Mem} {S : TypeId → List V → Prop} {cs : List Value} : ∀ {fs : List Field} {off : Nat}, tiles P fs off cs.length = true →
    (∀ f ∈ fs, ∃ xs, S f.type xs ∧ RepCs m xs ((cs.drop f.offset).take (P.cellsOf f.type))) → ∃ xs, ShpL S (fs.map (·.type)) xs ∧ RepCs m xs (cs.drop off)
  | [], off, h, _ => by
    simp [tiles] at h
    subst h
    exact ⟨[], rfl, by simpa using RepCs.nil m⟩
  | f :: r, off, h, hf => by
    simp only [tiles, Bool.and_eq_true, beq_iff_eq] at h
    obtain ⟨h1, h2⟩ := h
    obtain ⟨a, ha, hra⟩ := hf f (by simp)
    obtain ⟨b, hb, hrb⟩ := fields_rep h2 fun g hg => hf g (by simp [hg])
    refine ⟨a ++ b, ⟨a, b, rfl, ha, hb⟩, ?_⟩
    have e : cs.drop off = (cs.drop f.offset).take (P.cellsOf f.type) ++ cs.drop (off + P.cellsOf f.type) := by
      rw [h1, ← List.drop_drop, List.take_append_drop]
    rw [e]
    exact hra.append hrb

theorem array_rep {m : Mem} {S : TypeId → List V → Prop} {e : TypeId} {k : Nat} {cs : List Value} : ∀ (n off : Nat), cs.length = (off + n) * k →
    (∀ i, i < off + n → ∃ xs, S e xs ∧ RepCs m xs ((cs.drop (i * k)).take k)) → ∃ xs, ShpL S (List.replicate n e) xs ∧ RepCs m xs (cs.drop (off * k))
  | 0, off, h, _ => by
    have : cs.drop (off * k) = [] := List.drop_eq_nil_of_le (by rw [h]; simp)
    rw [this]
    exact ⟨[], rfl, RepCs.nil m⟩
  | n + 1, off, h, hf => by
    obtain ⟨a, ha, hra⟩ := hf off (by omega)
    obtain ⟨b, hb, hrb⟩ := array_rep n (off + 1) (by rw [h]; congr 1; omega) fun i hi => hf i (by omega)
    refine ⟨a ++ b, ⟨a, b, rfl, ha, hb⟩, ?_⟩
    have e : cs.drop (off * k) = (cs.drop (off * k)).take k ++ cs.drop ((off + 1) * k) := by
      rw [Nat.succ_mul, ← List.drop_drop, List.take_append_drop]
    rw [e]
    exact hra.append hrb

theorem packV_cells {ag : Bool} {xs : List V} (h : ag = true ∨ xs.length = 1) (ho : ∀ x ∈ xs, x.one = true) : (packV ag xs).cells = xs := by
  cases ag with
  | true => rfl
  | false =>
    rcases h with h | h
    · cases h
    match xs, h with
    | [x], _ =>
      have := ho x (by simp)
      show x.cells = [x]
      cases x <;> first | rfl | (simp [V.one] at this)

def memOf (w : World) : Mem := fun b off => w.cell? ⟨b, off, none⟩

theorem add_at {a : Addr} (h : a.spot = none) (n : Nat) : a.add n = ⟨a.block, a.off + n, none⟩ := by
  obtain ⟨b, o, s⟩ := a
  simp only at h
  subst h
  unfold Addr.add
  split
  · rename_i e; subst e; rfl
  · rfl

theorem rep_trod {H : Type} {enc : TypeId × Value → H} {P : Program} {w : World} {base : Nat} {spare : Nat → Bool} {held : Bool} :
    ∀ (n fuel : Nat) (t : TypeId) (cs : List Value) (r : DataW H × List MemPlace), plainT P n t = true → cs.length = P.cellsOf t → DataW.trod enc P w base spare held fuel t cs = some r → ∃ xs, Shp P n t xs ∧ RepCs (memOf w) xs cs
  | 0, _, _, _, _, h, _, _ => by simp [plainT] at h
  | n + 1, 0, _, _, _, _, _, h => by simp [DataW.trod] at h
  | n + 1, fuel + 1, t, cs, r, hp, hlen, h => by
    rw [DataW.trod_step] at h
    unfold DataW.trodStep at h
    unfold plainT at hp
    unfold Shp
    rcases hu : P.underlying t with _ | u
    · rw [hu] at hp; simp at hp
    rw [hu] at hp h
    cases u with
    | bool =>
      have hb : ∃ b, cs = [.bool b] := by
        simp only at h
        split at h <;> simp_all
      obtain ⟨b, rfl⟩ := hb
      exact ⟨_, ⟨b, rfl⟩, .single (.bool _) rfl⟩
    | int k =>
      simp only at hp h ⊢
      split at h <;> simp_all
      obtain ⟨⟨rfl, h1⟩, _⟩ := h
      exact ⟨_, ⟨_, rfl, h1⟩, .single (.int _ _) rfl⟩
    | string =>
      simp only at hp h ⊢
      split at h <;> simp_all
      obtain ⟨h1, _⟩ := h
      exact ⟨_, ⟨_, rfl, h1⟩, .single (.str _ h1) rfl⟩
    | slice e =>
      simp only [Bool.and_eq_true, decide_eq_true_eq, Bool.or_eq_true, beq_iff_eq] at hp ⊢
      obtain ⟨⟨⟨_, hpe⟩, hpos⟩, hag⟩ := hp
      split at h <;> simp_all
      · exact ⟨_, ⟨[], rfl, Nat.zero_le _, by simp⟩, .single (.slnil _ _) rfl⟩
      · rename_i e' a len cap _ _
        obtain ⟨⟨hb, hlc, hcm⟩, h⟩ := h
        simp only [Option.bind_eq_some_iff] at h
        obtain ⟨elems, hel, _⟩ := h
        obtain ⟨l1, l2⟩ := mapM_some hel
        simp only [List.length_range] at l1
        have hx : ∀ i, i < len → ∃ xs cells, w.cells? base (a.add (i * P.cellsOf e')) (P.cellsOf e') = some cells ∧ Shp P n e' xs ∧ RepCs (memOf w) xs cells := by
          intro i hi
          have h3 := l2 i (by simpa using hi) (by omega)
          simp only [List.getElem_range, Option.bind_eq_some_iff] at h3
          obtain ⟨cells, h4, h5⟩ := h3
          obtain ⟨xs, h6, h7⟩ := rep_trod n fuel _ _ _ hpe (World.cells?_some h4).2.1 h5
          exact ⟨xs, cells, h4, h6, h7⟩
        rcases Nat.eq_zero_or_pos len with hz | hpos'
        · subst hz
          exact ⟨[.sl []], ⟨[], rfl, Nat.zero_le _, by simp⟩, .single (.slnil _ _) rfl⟩
        have hspot : a.spot = none := by
          obtain ⟨xs, cells, h4, _⟩ := hx 0 hpos'
          have h8 := (World.cells?_some h4).2.2 0 hpos
          have h9 := (World.cells?_some h4).2.1
          have h10 : w.cell? ((a.add (0 * P.cellsOf e')).add 0) = some (cells[0]'(by omega)) := by rw [h8]; exact List.getElem?_eq_getElem (by omega)
          simpa [Addr.add] using World.cell?_spot h10
        let X : Nat → List V := fun i => if h : i < len then Classical.choose (hx i h) else []
        let C : Nat → List Value := fun i => (w.cells? base (a.add (i * P.cellsOf e')) (P.cellsOf e')).getD []
        have hX : ∀ i, i < len → Shp P n e' (X i) ∧ RepCs (memOf w) (X i) (C i) ∧ (C i).length = P.cellsOf e' ∧ ∀ j, j < P.cellsOf e' → w.cell? ⟨a.block, a.off + i * P.cellsOf e' + j, none⟩ = (C i)[j]? := by
          intro i hi
          obtain ⟨cells, h4, h6, h7⟩ := Classical.choose_spec (hx i hi)
          have e1 : X i = Classical.choose (hx i hi) := dif_pos hi
          have e2 : C i = cells := by show (w.cells? _ _ _).getD [] = cells; rw [h4]; rfl
          rw [e1, e2]
          refine ⟨h6, h7, (World.cells?_some h4).2.1, fun j hj => ?_⟩
          have h8 := (World.cells?_some h4).2.2 j hj
          rw [add_at hspot, add_at rfl] at h8
          exact h8
        have hcells : ∀ i, i < len → (packV (aggT P e') (X i)).cells = X i := fun i hi => by
          obtain ⟨h1, h2, h3, _⟩ := hX i hi
          refine packV_cells ?_ h2.one
          rcases hag with h | h
          · exact .inl h
          · exact .inr (by rw [h2.len, h3, h])
        refine ⟨[.sl (((List.range len).map X).map (packV (aggT P e')))], ⟨(List.range len).map X, rfl, by simp; omega, fun y hy => ?_⟩, .single ?_ rfl⟩
        · simp only [List.mem_map, List.mem_range] at hy
          obtain ⟨i, hi, rfl⟩ := hy
          exact (hX i hi).1
        · obtain ⟨b, o, s⟩ := a
          simp only at hspot hX
          subst hspot
          have key := RepV.sl (m := memOf w) (((List.range len).map X).map (packV (aggT P e'))) b o cap (P.cellsOf e') (fun i j => ((C i)[j]?).getD undef) (by
              intro h; have := congrArg List.length h; simp at this; omega) (by simp; omega) (by simpa using hlc)
            (fun i hi => by
              have hi' : i < len := by simpa using hi
              obtain ⟨h1, h2, h3, _⟩ := hX i hi'
              simp only [List.getElem_map, List.getElem_range]
              rw [hcells i hi', h2.len, h3])
            (fun i j hi hj => by
              have hi' : i < len := by simpa using hi
              obtain ⟨h1, h2, h3, h4⟩ := hX i hi'
              show w.cell? _ = _
              rw [h4 j hj, List.getElem?_eq_getElem (by omega)]
              rfl)
            (fun i j hi hj => by
              have hi' : i < len := by simpa using hi
              obtain ⟨h1, h2, h3, h4⟩ := hX i hi'
              simp only [List.getElem_map, List.getElem_range, hcells i hi'] at hj ⊢
              have hj' : j < (C i).length := by rw [← h2.len]; exact hj
              rw [List.getElem?_eq_getElem hj']
              exact h2.rep j hj hj')
            (fun i hi x hx => by
              have hi' : i < len := by simpa using hi
              simp only [List.getElem_map, List.getElem_range, hcells i hi'] at hx
              exact (hX i hi').2.1.one x hx)
          simpa using key
    | struct fs =>
      simp only [Bool.and_eq_true, List.all_eq_true] at hp h ⊢
      obtain ⟨ht, hall⟩ := hp
      rw [if_pos hlen] at h
      simp only [Option.map_eq_some_iff] at h
      obtain ⟨ys, hys, _⟩ := h
      obtain ⟨l1, l2⟩ := mapM_some hys
      have := fields_rep (m := memOf w) (S := Shp P n) (cs := cs) (fs := fs.toList) (off := 0) (by rw [hlen]; exact ht) fun f hf => by
        obtain ⟨i, hi, rfl⟩ := List.mem_iff_getElem.1 hf
        have h3 := l2 i hi (by omega)
        have hle : P.cellsOf fs.toList[i].type ≤ (cs.drop fs.toList[i].offset).length := by
          have key : ∀ (l : List Field) (off tot : Nat), tiles P l off tot = true → ∀ f ∈ l, f.offset + P.cellsOf f.type ≤ tot := by
            intro l
            induction l with
            | nil => intro _ _ _ f hf; simp at hf
            | cons g r ih =>
              intro off tot h f hf
              simp only [tiles, Bool.and_eq_true, beq_iff_eq] at h
              rcases List.mem_cons.1 hf with rfl | hf
              · have := tiles_le h.2; omega
              · exact ih _ _ h.2 f hf
          have := key _ _ _ ht _ hf
          simp only [List.length_drop]
          omega
        exact rep_trod n fuel _ _ _ (hall _ hf) (by rw [List.length_take]; omega) h3
      simpa using this
    | array m e =>
      simp only [Bool.and_eq_true, beq_iff_eq] at hp h ⊢
      obtain ⟨ht, hpe⟩ := hp
      rw [if_pos hlen] at h
      simp only [Option.map_eq_some_iff] at h
      obtain ⟨ys, hys, _⟩ := h
      obtain ⟨l1, l2⟩ := mapM_some hys
      have := array_rep (m := memOf w) (S := Shp P n) (e := e) (k := P.cellsOf e) (cs := cs) m 0 (by rw [hlen, ht]; simp) fun i hi => by
        have hi' : i < m := by omega
        have h3 := l2 i (by simpa using hi') (by rw [l1]; simpa using hi')
        simp only [List.getElem_range] at h3
        have hle : i * P.cellsOf e + P.cellsOf e ≤ cs.length := by
          rw [hlen, ht, ← Nat.succ_mul]; exact Nat.mul_le_mul_right _ hi'
        exact rep_trod n fuel _ _ _ hpe (by rw [List.length_take, List.length_drop]; omega) h3
      simpa using this
    | _ => simp at hp

end Go.Eng
/- The engine's text of laws: from a contract on data to the statement of a law. -/
namespace Go.Eng
open Go Go.RowKit Go.ChangeShapes Go.WideShapes Go.ChangeAt

theorem okWide_plain {P : Program} {n : Nat} {t : TypeId} {W : World} {r : Reach} {base : Nat} {v : Value} (hp : plainT P n t = true) (h : Value.okWide P W r base t v) :
    v.cells.size = P.cellsOf t ∧ (aggT P t = true → ∃ cs, v = .agg cs) ∧ (aggT P t = false → v.cells = #[v] ∧ P.cellsOf t = 1) := by
  cases n with
  | zero => simp [plainT] at hp
  | succ n =>
    unfold plainT at hp
    unfold aggT
    rcases hu : P.underlying t with _ | u
    · rw [hu] at hp; simp at hp
    rw [hu] at hp
    cases u with
    | bool =>
      obtain ⟨b, rfl⟩ := okWide_bool hu h
      simp only [beq_iff_eq] at hp
      exact ⟨by simp [Value.cells, hp], by simp, fun _ => ⟨rfl, hp⟩⟩
    | int k =>
      obtain ⟨b, rfl⟩ := okWide_int hu h
      simp only [beq_iff_eq] at hp
      exact ⟨by simp [Value.cells, hp], by simp, fun _ => ⟨rfl, hp⟩⟩
    | string =>
      obtain ⟨b, rfl⟩ := okWide_string hu h
      simp only [beq_iff_eq] at hp
      exact ⟨by simp [Value.cells, hp], by simp, fun _ => ⟨rfl, hp⟩⟩
    | slice e =>
      obtain ⟨a, len, cap, rfl⟩ := okWide_slice hu h
      simp only [Bool.and_eq_true, beq_iff_eq] at hp
      exact ⟨by simp [Value.cells, hp.1.1.1], by simp, fun _ => ⟨rfl, hp.1.1.1⟩⟩
    | struct fs =>
      simp only [Value.okWide, hu] at h
      obtain ⟨cs, rfl, h2, _⟩ := h
      exact ⟨h2, fun _ => ⟨cs, rfl⟩, fun h => by simp at h⟩
    | array m e =>
      simp only [Value.okWide, hu] at h
      obtain ⟨cs, rfl, h2, _⟩ := h
      exact ⟨h2, fun _ => ⟨cs, rfl⟩, fun h => by simp at h⟩
    | _ => simp at hp

/-- Data of a type. -/
def ArgS (P : Program) (n : Nat) (t : TypeId) (x : V) : Prop := ∃ xs, Shp P n t xs ∧ x = packV (aggT P t) xs
def ArgsS (P : Program) (n : Nat) : List TypeId → List V → Prop
  | [], xs => xs = []
  | t :: r, xs => ∃ x ys, xs = x :: ys ∧ ArgS P n t x ∧ ArgsS P n r ys

theorem arg_rep {H : Type} {enc : TypeId × Value → H} {P : Program} {w : World} {b0 : Nat} {spare : Nat → Bool} {held : Bool} {n : Nat} {t : TypeId} {r : Reach} {base : Nat} {v : Value} {d : DataW H} {ps : List MemPlace}
    (hp : plainT P n t = true) (h : Value.okWide P w r base t v) (ht : DataW.Trod enc P w b0 spare held t v d ps) : ∃ x, ArgS P n t x ∧ RepV (memOf w) x v := by
  obtain ⟨h1, h2, h3⟩ := okWide_plain hp h
  obtain ⟨fuel, hf⟩ := ht
  obtain ⟨xs, k1, k2⟩ := rep_trod n fuel t v.cells.toList _ hp (by simpa using h1) hf
  refine ⟨packV (aggT P t) xs, ⟨xs, k1, rfl⟩, ?_⟩
  cases ha : aggT P t with
  | true =>
    obtain ⟨cs, rfl⟩ := h2 ha
    simp only [packV, if_true]
    refine .agg xs cs (by simpa [Value.cells] using k2.len) k2.one fun i h h' => ?_
    have := k2.rep i h (by simpa [Value.cells] using h')
    simpa [Value.cells] using this
  | false =>
    obtain ⟨h4, h5⟩ := h3 ha
    have hl : xs.length = 1 := by rw [k2.len]; simp [h4]
    match xs, hl with
    | [x], _ =>
      have := k2.rep 0 (by simp) (by simp [h4])
      simp only [packV, Bool.false_eq_true, if_false, List.getD_cons_zero]
      simpa [h4] using this

theorem args_rep {H : Type} {enc : TypeId × Value → H} {P : Program} {w : World} {b0 : Nat} {spare : Nat → Bool} {held : Bool} {n : Nat} {r : Reach} {base : Nat} : ∀ {ts : List TypeId} {vs : List Value} {ds : List (DataW H)} {ps : List MemPlace},
    (∀ t ∈ ts, plainT P n t = true) → (∀ (j : Nat) t v, ts[j]? = some t → vs[j]? = some v → Value.okWide P w r base t v) → DataW.TrodAll enc P w b0 spare held ts vs ds ps → ∃ xs, ArgsS P n ts xs ∧ RepVs (memOf w) xs vs
  | [], vs, ds, ps, _, _, h => by
    cases vs with
    | nil => exact ⟨[], rfl, rfl, fun i h => by simp at h⟩
    | cons => cases ds <;> simp [DataW.TrodAll] at h
  | t :: ts, [], ds, ps, _, _, h => by cases ds <;> simp [DataW.TrodAll] at h
  | t :: ts, v :: vs, [], ps, _, _, h => by simp [DataW.TrodAll] at h
  | t :: ts, v :: vs, d :: ds, ps, hp, hv, h => by
    obtain ⟨p, q, h1, h2, _⟩ := h
    obtain ⟨x, k1, k2⟩ := arg_rep (hp t (by simp)) (hv 0 t v rfl rfl) h1
    obtain ⟨ys, k3, k4, k5⟩ := args_rep (fun t ht => hp t (by simp [ht])) (fun j t v h h' => hv (j + 1) t v (by simpa using h) (by simpa using h')) h2
    refine ⟨x :: ys, ⟨x, ys, rfl, k1, k3⟩, by simp [k4], fun i hi hi' => ?_⟩
    cases i with
    | zero => exact k2
    | succ i => exact k5 i (by simpa using hi) (by simpa using hi')

theorem args_trod {H : Type} {enc : TypeId × Value → H} {P : Program} (hl : laidOutB P = true) {W W' : World} (hb : Below W.heap.size W W') : ∀ {ts : List TypeId} {vs : List Value} {ds : List (DataW H)} {ps : List MemPlace},
    (∀ t ∈ ts, P.readableRec t = true ∧ t < P.types.size) → DataW.TrodAll enc P W 0 (fun _ => true) true ts vs ds ps → (∀ x ∈ ps, x.block < W.heap.size) → DataW.TrodAll enc P W' 0 (fun b => decide (b < W.heap.size)) true ts vs ds ps
  | [], vs, ds, ps, _, h, _ => by
    cases vs <;> cases ds <;> simp_all [DataW.TrodAll]
  | t :: ts, [], ds, ps, _, h, _ => by cases ds <;> simp [DataW.TrodAll] at h
  | t :: ts, v :: vs, [], ps, _, h, _ => by simp [DataW.TrodAll] at h
  | t :: ts, v :: vs, d :: ds, ps, hr, h, hlt => by
    obtain ⟨p, q, h1, h2, rfl⟩ := h
    exact ⟨p, q, Below.trod hl (hr t (by simp)).1 (hr t (by simp)).2 h1 hb (fun x hx => hlt x (by simp [hx])),
      args_trod hl hb (fun t ht => hr t (by simp [ht])) h2 (fun x hx => hlt x (by simp [hx])), rfl⟩

theorem trodAll_len {H : Type} {enc : TypeId × Value → H} {P : Program} {w : World} {b0 : Nat} {spare : Nat → Bool} {held : Bool} : ∀ {ts : List TypeId} {vs : List Value} {ds : List (DataW H)} {ps : List MemPlace}, DataW.TrodAll enc P w b0 spare held ts vs ds ps → ds.length = ts.length
  | [], vs, ds, ps, h => by cases vs <;> cases ds <;> simp_all [DataW.TrodAll]
  | t :: ts, [], ds, ps, h => by cases ds <;> simp [DataW.TrodAll] at h
  | t :: ts, v :: vs, [], ps, h => by simp [DataW.TrodAll] at h
  | t :: ts, v :: vs, d :: ds, ps, h => by
    obtain ⟨p, q, _, h2, _⟩ := h
    simp [trodAll_len h2]

theorem law_lifted {H : Type} {enc : TypeId × Value → H} {C : Checked} {os : Os} {f : FuncId} {fn : Func} {s : ChangeSpec} {conds : List PathCond} {n : Nat} {tb : TypeId}
    (own : ownKnob C.prog.godebug = none) (started : os.Started) (noInit : C.prog.inits.idxOf? f = none) (hfn : C.prog.funcs[f]? = some fn)
    (witness : ∃ (w : World) (tape : Tape) (i : Input), w.os = os ∧ (w.forCall tape i).Shaped C.prog ∧ i.vars = [] ∧ Input.okWide C.prog (w.forCall tape i) .any w.heap.size f i ∧
      s.pre6 enc C.prog fn conds false (w.forCall tape i).memory i.args ∧ ({} : Assume).holds C.prog (lone (Frame.enter C.prog f i.args .normal) [] (w.forCall tape i)))
    (hl : laidOutB C.prog = true) (hps : ∀ t ∈ fn.params.toList, plainT C.prog n t = true ∧ C.prog.readableRec t = true ∧ t < C.prog.types.size) (hres : fn.resultTypes = #[tb]) (htb : C.prog.underlying tb = some .bool)
    (hvars : s.vars = []) (hs : ∀ ds : List (DataW H), ds.length = fn.params.toList.length → (s.fn H ds).results = [.lit (.bool true)] ∧ (s.fn H ds).args = ds ∧ (s.fn H ds).vars = [])
    (hcalls : ∀ (W : World) (args : Array Value) (xs : List V), ArgsS C.prog n fn.params.toList xs → RepVs (memOf W) xs args.toList → Calls C.prog f args W fun e W' => e = .returned (.bool true) ∧ Below W.heap.size W W') :
    ReturnsInHanded {} C os f .any (s.pre6 enc C.prog fn conds false) (s.post enc C.prog fn false true false false) := by
  refine returnsInHanded_of_change own started noInit hfn witness ?_
  intro W base args ds gs before hval hW _ _
  have hW' := hW
  obtain ⟨p, q, hA, hV, rfl, _, _⟩ := hW
  rw [hvars] at hV
  obtain ⟨rfl, rfl⟩ := trodVars_none hV
  simp only [List.append_nil] at hW'
  have hlt : ∀ y ∈ p, y.block < W.heap.size := fun y hy => by simpa using hW'.lt y hy
  obtain ⟨xs, h1, h2⟩ := args_rep (vs := args.toList) (ts := fn.params.toList) (fun t ht => (hps t ht).1) (fun j t v h h' => hval j t v (by simpa using h) (by simpa using h')) hA
  obtain ⟨e1, e2, e3⟩ := hs ds (trodAll_len hA)
  refine (hcalls W args xs h1 h2).mono fun e W' ⟨he, hn⟩ => ?_
  subst he
  refine ⟨_, rfl, ds, [], p, [], p, [], hW', ?_, ?_, ?_, hn.frame _, fun h => by cases h⟩
  · rw [List.append_nil, e1, hres]
    exact trodAll_mk1 (shut_bool htb _)
  · rw [List.append_nil, e2]
    exact args_trod hl hn (fun t ht => (hps t ht).2) hA hlt
  · rw [List.append_nil, e3, hvars]
    rfl
end Go.Eng
/- The engine's text of laws whose rows list tables that stand in the world. -/
namespace Go.Eng
open Go Go.RowKit Go.ChangeShapes Go.WideShapes Go.ChangeAt
theorem law_lifted_laid {H : Type} {enc : TypeId × Value → H} {C : Checked} {os : Os} {f : FuncId} {fn : Func} {s : ChangeSpec} {conds : List PathCond} {n : Nat} {tb : TypeId} {laid : List (String × DataW Unit)}
    (own : ownKnob C.prog.godebug = none) (started : os.Started) (noInit : C.prog.inits.idxOf? f = none) (hfn : C.prog.funcs[f]? = some fn)
    (witness : ∃ (w : World) (tape : Tape) (i : Input), w.os = os ∧ (w.forCall tape i).Shaped C.prog ∧ i.vars = [] ∧ Input.okWide C.prog (w.forCall tape i) .any w.heap.size f i ∧
      ((s.pre enc C.prog fn conds false (w.forCall tape i).memory i.args ∧ laidMetH C.prog laid (w.forCall tape i).memory) ∧ sizedMet enc C.prog fn (OpenSpec.ofChange s) false (w.forCall tape i).memory i.args) ∧ ({} : Assume).holds C.prog (lone (Frame.enter C.prog f i.args .normal) [] (w.forCall tape i)))
    (hT : ∀ W : World, laidMetH C.prog laid W → Tabs W)
    (hl : laidOutB C.prog = true) (hps : ∀ t ∈ fn.params.toList, plainT C.prog n t = true ∧ C.prog.readableRec t = true ∧ t < C.prog.types.size) (hres : fn.resultTypes = #[tb]) (htb : C.prog.underlying tb = some .bool)
    (hvars : s.vars = []) (hs : ∀ ds : List (DataW H), ds.length = fn.params.toList.length → (s.fn H ds).results = [.lit (.bool true)] ∧ (s.fn H ds).args = ds ∧ (s.fn H ds).vars = [])
    (hcalls : ∀ (W : World) (args : Array Value) (xs : List V), Tabs W → ArgsS C.prog n fn.params.toList xs → RepVs (memOf W) xs args.toList → Calls C.prog f args W fun e W' => e = .returned (.bool true) ∧ Below W.heap.size W W') :
    ReturnsInHanded {} C os f .any (fun w args => (s.pre enc C.prog fn conds false w args ∧ laidMetH C.prog laid w) ∧ sizedMet enc C.prog fn (OpenSpec.ofChange s) false w args) (s.post enc C.prog fn false true false false) := by
  refine returnsInHanded_of_change_and (X := fun w _ => laidMetH C.prog laid w) (fun _ _ _ hh h => h.of_heap hh) own started noInit hfn witness ?_
  intro W base args ds gs before hval hW _ _ hL _
  have hW' := hW
  obtain ⟨p, q, hA, hV, rfl, _, _⟩ := hW
  rw [hvars] at hV
  obtain ⟨rfl, rfl⟩ := trodVars_none hV
  simp only [List.append_nil] at hW'
  have hlt : ∀ y ∈ p, y.block < W.heap.size := fun y hy => by simpa using hW'.lt y hy
  obtain ⟨xs, h1, h2⟩ := args_rep (vs := args.toList) (ts := fn.params.toList) (fun t ht => (hps t ht).1) (fun j t v h h' => hval j t v (by simpa using h) (by simpa using h')) hA
  obtain ⟨e1, e2, e3⟩ := hs ds (trodAll_len hA)
  refine (hcalls W args xs (hT W hL) h1 h2).mono fun e W' ⟨he, hn⟩ => ?_
  subst he
  refine ⟨_, rfl, ds, [], p, [], p, [], hW', ?_, ?_, ?_, hn.frame _, fun h => by cases h⟩
  · rw [List.append_nil, e1, hres]
    exact trodAll_mk1 (shut_bool htb _)
  · rw [List.append_nil, e2]
    exact args_trod hl hn (fun t ht => (hps t ht).2) hA hlt
  · rw [List.append_nil, e3, hvars]
    rfl
end Go.Eng
set_option linter.constructorNameAsVariable false
namespace Go.Eng
open Go Go.Proofs Go.Proofs.YtckmfkgppohnmaaGreatDoor Go.RowKit Go.ChangeShapes
/-! lend's rows: the tables that they list -/
theorem kOwn : ownKnob Tryz.prog.godebug = none := by kernel_rfl
theorem kLaid : laidOutB Tryz.prog = true := by kernel_rfl
noncomputable def lendLaid : List (String × DataW Unit) := Rows.lendChecksRow.laid
theorem gPow : Tryz.prog.globalNamed "internal/strconv.uint64pow10" = some 2 := by kernel_rfl
theorem pow_tab : (Rows.laid_internal_strconv_uint64pow10 : DataW Unit) = Lib.tabData .u64 Lib.pow10Tab := by rfl
theorem lendT (W : World) (h : laidMetH Tryz.prog lendLaid W) : Tabs W := by
  rw [MakeChecks.laidMetH_plain _ _ _ (by kernel_rfl)] at h
  have h2 : laidMet Tryz.prog [("internal/strconv.uint64pow10", Lib.tabData .u64 Lib.pow10Tab)] W := h.tail.tail
  have h3 : Lib.TabIs Tryz.prog W "internal/strconv.uint64pow10" .u64 Lib.pow10Tab := Lib.tabIs_of_head (t := 205) (e := 188) (n := 20) gPow (by kernel_rfl) (by kernel_rfl) (by kernel_rfl) (by kernel_rfl) (by kernel_rfl) h2
  unfold Lib.TabIs World.var? at h3
  rw [gPow] at h3
  simp only [Option.bind_some] at h3
  intro q hq
  have : q = (2, (Lib.pow10Tab.map fun z => Value.int .u64 z).toArray) := by simpa [tabL] using hq
  subst this
  split at h3
  · rename_i cs T f hh
    cases h3
    exact ⟨_, _, hh⟩
  · cases h3
/-- One start: the tables as the rows list them. -/
def cellsOfLaid : DataW Unit → Array Value
  | .agg l => (l.map fun d => match d with | .lit (.int k n) => Value.int k n | _ => undef).toArray
  | _ => #[]
def putCells (cs : Array Value) : Obj → Obj
  | .cells _ t f => .cells cs t f
  | o => o
noncomputable def lendWorld (os : Os) : World :=
  let w0 := World.holding Tryz.prog os ⟨#[], #[], []⟩
  { w0 with heap := ((w0.heap.modify 2 (putCells (cellsOfLaid Rows.laid_internal_strconv_uint64pow10))).modify 6 (putCells (cellsOfLaid Rows.laid_math_bits_deBruijn32tab))).modify 7 (putCells (cellsOfLaid Rows.laid_math_bits_deBruijn64tab)) }
theorem lend_met (os : Os) (args : Array Value) : laidMetH Tryz.prog lendLaid ((lendWorld os).forCall (fun _ _ => 0) ⟨#[], args, []⟩).memory := by
  rw [MakeChecks.laidMetH_plain _ _ _ (by kernel_rfl)]
  exact laidMet_of_run' 8 (by kernel_rfl) (by kernel_rfl)
end Go.Eng
set_option linter.constructorNameAsVariable false
set_option maxRecDepth 100000
namespace Go.Eng
open Go Go.Proofs
/-! what data of lend's types are -/
theorem shp3 {n : Nat} {xs : List V} (h : Shp Tryz.prog (n + 1) 3 xs) : ∃ k, xs = [vInt k] ∧ (Lit.int .i64 k).wf = true := by
  unfold Shp at h
  simp only [Tryz.underlying3] at h
  exact h
theorem aggT3 : aggT Tryz.prog 3 = false := by kernel_rfl
theorem aggT91 : aggT Tryz.prog 91 = true := by kernel_rfl
theorem map_ex {α β : Type} {f : α → β} {P : β → Prop} (h : ∀ y, P y → ∃ x, y = f x) : ∀ {l : List β}, (∀ y ∈ l, P y) → ∃ m : List α, l = m.map f
  | [], _ => ⟨[], rfl⟩
  | y :: r, hl => by
    obtain ⟨x, rfl⟩ := h y (hl y (by simp))
    obtain ⟨m, rfl⟩ := map_ex h (l := r) fun z hz => hl z (by simp [hz])
    exact ⟨x :: m, rfl⟩
/-- A slice's data, from its elements'. -/
theorem shpSl {n : Nat} {T e : TypeId} {xs : List V} {α : Type} {f : α → V} (hu : Tryz.prog.underlying T = some (.slice e)) (h : Shp Tryz.prog (n + 1) T xs)
    (he : ∀ ys, Shp Tryz.prog n e ys → ∃ a, packV (aggT Tryz.prog e) ys = f a) : ∃ l : List α, xs = [.sl (l.map f)] := by
  unfold Shp at h
  simp only [hu] at h
  obtain ⟨ls, rfl, _, h3⟩ := h
  obtain ⟨m, hm⟩ := map_ex (f := f) (P := fun y => ∃ d, y = f d) (fun y h => h) (l := ls.map (packV (aggT Tryz.prog e))) fun y hy => by
    obtain ⟨z, hz, rfl⟩ := List.mem_map.1 hy
    exact he z (h3 z hz)
  exact ⟨m, by rw [hm]⟩
theorem shp22 {n : Nat} {xs : List V} (h : Shp Tryz.prog (n + 2) 22 xs) : ∃ l : List Int, xs = [.sl (l.map vInt)] :=
  shpSl Tryz.underlying22 h fun ys hy => by
    obtain ⟨k, rfl, _⟩ := shp3 hy
    rw [aggT3]
    exact ⟨k, rfl⟩
theorem shp91 {n : Nat} {xs : List V} (h : Shp Tryz.prog (n + 2) 91 xs) : ∃ p : Par, xs = [vInt p.no, vInt p.pa] := by
  unfold Shp at h
  simp only [Tryz.underlying91] at h
  obtain ⟨x, y, rfl, h1, x2, y2, rfl, h2, rfl⟩ := h
  obtain ⟨a, rfl, _⟩ := shp3 h1
  obtain ⟨b, rfl, _⟩ := shp3 h2
  exact ⟨⟨a, b⟩, rfl⟩
theorem shp23 {n : Nat} {xs : List V} (h : Shp Tryz.prog (n + 3) 23 xs) : ∃ l : List Par, xs = [.sl (l.map encPa)] :=
  shpSl Tryz.underlying23 h fun ys hy => by
    obtain ⟨p, rfl⟩ := shp91 hy
    rw [aggT91]
    exact ⟨p, rfl⟩
theorem shp24 {n : Nat} {xs : List V} (h : Shp Tryz.prog (n + 4) 24 xs) : ∃ u : Six (List Par), xs = u.L rowP := by
  unfold Shp at h
  simp only [Tryz.underlying24] at h
  obtain ⟨x1, y1, rfl, h1, x2, y2, rfl, h2, x3, y3, rfl, h3, x4, y4, rfl, h4, x5, y5, rfl, h5, x6, y6, rfl, h6, rfl⟩ := h
  obtain ⟨a, rfl⟩ := shp23 h1
  obtain ⟨b, rfl⟩ := shp23 h2
  obtain ⟨c, rfl⟩ := shp23 h3
  obtain ⟨d, rfl⟩ := shp23 h4
  obtain ⟨e, rfl⟩ := shp23 h5
  obtain ⟨f, rfl⟩ := shp23 h6
  exact ⟨⟨a, b, c, d, e, f⟩, rfl⟩
theorem shp25 {n : Nat} {xs : List V} (h : Shp Tryz.prog (n + 2) 25 xs) : ∃ u : Six Int, xs = u.L vInt := by
  unfold Shp at h
  simp only [Tryz.underlying25] at h
  obtain ⟨x1, y1, rfl, h1, x2, y2, rfl, h2, x3, y3, rfl, h3, x4, y4, rfl, h4, x5, y5, rfl, h5, x6, y6, rfl, h6, rfl⟩ := h
  obtain ⟨a, rfl, _⟩ := shp3 h1
  obtain ⟨b, rfl, _⟩ := shp3 h2
  obtain ⟨c, rfl, _⟩ := shp3 h3
  obtain ⟨d, rfl, _⟩ := shp3 h4
  obtain ⟨e, rfl, _⟩ := shp3 h5
  obtain ⟨f, rfl, _⟩ := shp3 h6
  exact ⟨⟨a, b, c, d, e, f⟩, rfl⟩
theorem shp27 {n : Nat} {xs : List V} (h : Shp Tryz.prog (n + 5) 27 xs) : ∃ s : Stk, xs = stL s := by
  unfold Shp at h
  simp only [Tryz.underlying27] at h
  obtain ⟨x1, y1, rfl, h1, x2, y2, rfl, h2, x3, y3, rfl, h3, x4, y4, rfl, h4, rfl⟩ := h
  obtain ⟨a, rfl⟩ := shp22 h1
  obtain ⟨b, rfl⟩ := shp24 h2
  obtain ⟨c, rfl⟩ := shp25 h3
  obtain ⟨d, rfl⟩ := shp25 h4
  exact ⟨⟨a, b, c, d⟩, by rw [List.append_nil]; rfl⟩
theorem shp29 {n : Nat} {xs : List V} (h : Shp Tryz.prog (n + 6) 29 xs) : ∃ p : Pg, xs = pgL p := by
  unfold Shp at h
  simp only [Tryz.underlying29] at h
  obtain ⟨x1, y1, rfl, h1, x2, y2, rfl, h2, x3, y3, rfl, h3, rfl⟩ := h
  obtain ⟨a, rfl, _⟩ := shp3 h1
  obtain ⟨b, rfl⟩ := shp27 h2
  obtain ⟨c, rfl, _⟩ := shp3 h3
  exact ⟨⟨a, b, c⟩, by rw [List.append_nil]; rfl⟩
theorem shp30 {n : Nat} {xs : List V} (h : Shp Tryz.prog (n + 7) 30 xs) : ∃ p q : Pg, xs = pgL p ++ pgL q := by
  unfold Shp at h
  simp only [Tryz.underlying30] at h
  obtain ⟨x1, y1, rfl, h1, x2, y2, rfl, h2, rfl⟩ := h
  obtain ⟨a, rfl⟩ := shp29 h1
  obtain ⟨b, rfl⟩ := shp29 h2
  exact ⟨a, b, by rw [List.append_nil]⟩
theorem shp32 {n : Nat} {xs : List V} (h : Shp Tryz.prog (n + 8) 32 xs) : ∃ d : Dk, xs = dkL d := by
  unfold Shp at h
  simp only [Tryz.underlying32] at h
  obtain ⟨x1, y1, rfl, h1, x2, y2, rfl, h2, x3, y3, rfl, h3, x4, y4, rfl, h4, rfl⟩ := h
  obtain ⟨a, rfl, _⟩ := shp3 h1
  obtain ⟨b, rfl⟩ := shp27 h2
  obtain ⟨p, q, rfl⟩ := shp30 h3
  obtain ⟨c, rfl, _⟩ := shp3 h4
  exact ⟨⟨a, b, p, q, c⟩, by rw [List.append_nil, List.append_assoc]; rfl⟩
theorem shp34 {n : Nat} {xs : List V} (h : Shp Tryz.prog (n + 4) 34 xs) : ∃ b : Bag, xs = bgL b := by
  unfold Shp at h
  simp only [Tryz.underlying34] at h
  obtain ⟨x1, y1, rfl, h1, x2, y2, rfl, h2, x3, y3, rfl, h3, x4, y4, rfl, h4, rfl⟩ := h
  obtain ⟨a, rfl, _⟩ := shp3 h1
  obtain ⟨b, rfl, _⟩ := shp3 h2
  obtain ⟨c, rfl⟩ := shp23 h3
  obtain ⟨d, rfl, _⟩ := shp3 h4
  exact ⟨⟨a, b, c, d⟩, by rw [List.append_nil]; rfl⟩
theorem shp68 {n : Nat} {xs : List V} (h : Shp Tryz.prog (n + 2) 68 xs) : ∃ a b, xs = [vInt a, vInt b] := by
  unfold Shp at h
  simp only [Tryz.underlying68] at h
  obtain ⟨x1, y1, rfl, h1, x2, y2, rfl, h2, rfl⟩ := h
  obtain ⟨a, rfl, _⟩ := shp3 h1
  obtain ⟨b, rfl, _⟩ := shp3 h2
  exact ⟨a, b, rfl⟩
theorem agg32 : aggT Tryz.prog 32 = true := by kernel_rfl
theorem agg34 : aggT Tryz.prog 34 = true := by kernel_rfl
theorem agg68 : aggT Tryz.prog 68 = true := by kernel_rfl
theorem arg32 {x : V} (h : ArgS Tryz.prog 8 32 x) : ∃ d : Dk, x = encDk d := by
  obtain ⟨xs, h1, rfl⟩ := h
  rw [agg32]
  obtain ⟨d, rfl⟩ := shp32 h1
  exact ⟨d, rfl⟩
theorem arg34 {x : V} (h : ArgS Tryz.prog 8 34 x) : ∃ b : Bag, x = encBg b := by
  obtain ⟨xs, h1, rfl⟩ := h
  rw [agg34]
  obtain ⟨b, rfl⟩ := shp34 h1
  exact ⟨b, rfl⟩
theorem arg68 {x : V} (h : ArgS Tryz.prog 8 68 x) : ∃ a b, x = .agg [vInt a, vInt b] := by
  obtain ⟨xs, h1, rfl⟩ := h
  rw [agg68]
  obtain ⟨a, b, rfl⟩ := shp68 h1
  exact ⟨a, b, rfl⟩
end Go.Eng
set_option linter.constructorNameAsVariable false
set_option maxRecDepth 100000
namespace Go.Eng
open Go Go.Proofs Go.Proofs.YtckmfkgppohnmaaGreatDoor Go.RowKit Go.ChangeShapes
theorem calls_true {f : FuncId} {s : PSpec} (h : PSound Tryz.prog f s) {W : World} {args : Array Value} {xs : List V} (ht : Tabs W) (hr : RepVs (memOf W) xs args.toList) (hp : s.pre xs) (hv : s.fn xs = .bool true) :
    Calls Tryz.prog f args W fun e W' => e = .returned (.bool true) ∧ RowKit.Below W.heap.size W W' := by
  refine (h.calls (memOf W) W xs args ht (fun b off v hv => hv) hr hp).mono ?_
  rintro e W' ⟨v, m', rfl, hb, _, _, h⟩
  rw [hv] at h
  cases h
  exact ⟨rfl, hb⟩
theorem lendTells_lifted (hc : ∀ (W : World) (args : Array Value) (xs : List V), Tabs W → ArgsS Tryz.prog 8 Tryz.f5.params.toList xs → RepVs (memOf W) xs args.toList → Calls Tryz.prog 5 args W fun e W' => e = .returned (.bool true) ∧ Below W.heap.size W W')
    (os : Os) (started : os.Started) (H : Type) (enc : TypeId × Value → H) :
    ReturnsInHanded {} Tryz.checked os 5 .any (fun w args => (Rows.lendTellsSpec.pre enc Tryz.prog Tryz.f5 [] false w args ∧ laidMetH Tryz.prog lendLaid w) ∧ sizedMet enc Tryz.prog Tryz.f5 (OpenSpec.ofChange Rows.lendTellsSpec) false w args)
      (Rows.lendTellsSpec.post enc Tryz.prog Tryz.f5 false true false false) := by
  refine law_lifted_laid (C := Tryz.checked) (n := 8) (tb := 4) (laid := lendLaid) kOwn started (by kernel_rfl) Tryz.func5
    (ChangeSpec.witness_shaped (enc := enc) (C := Tryz.checked) (os := os) (X := fun w _ => laidMetH Tryz.prog lendLaid w) false (lendWorld os) #[.agg #[.int .i64 0, .slice none 0 0, .slice none 0 0, .slice none 0 0, .slice none 0 0, .slice none 0 0, .slice none 0 0, .slice none 0 0, .int .i64 0, .int .i64 0, .int .i64 0, .int .i64 0, .int .i64 0, .int .i64 0, .int .i64 0, .int .i64 0, .int .i64 0, .int .i64 0, .int .i64 0, .int .i64 0, .int .i64 0, .slice none 0 0, .slice none 0 0, .slice none 0 0, .slice none 0 0, .slice none 0 0, .slice none 0 0, .slice none 0 0, .int .i64 0, .int .i64 0, .int .i64 0, .int .i64 0, .int .i64 0, .int .i64 0, .int .i64 0, .int .i64 0, .int .i64 0, .int .i64 0, .int .i64 0, .int .i64 0, .int .i64 0, .int .i64 0, .slice none 0 0, .slice none 0 0, .slice none 0 0, .slice none 0 0, .slice none 0 0, .slice none 0 0, .slice none 0 0, .int .i64 0, .int .i64 0, .int .i64 0, .int .i64 0, .int .i64 0, .int .i64 0, .int .i64 0, .int .i64 0, .int .i64 0, .int .i64 0, .int .i64 0, .int .i64 0, .int .i64 0, .int .i64 0], .int .i64 0] 8 rfl (World.shaped_of_RefB (by kernel_rfl) (by kernel_rfl)) (by kernel_rfl) (by kernel_rfl) (by kernel_rfl) (lend_met os _))
    lendT kLaid ?_ (by kernel_rfl) (by kernel_rfl) rfl ?_ hc
  · have h : (Tryz.f5.params.toList.all fun t => plainT Tryz.prog 8 t && Tryz.prog.readableRec t && decide (t < Tryz.prog.types.size)) = true := by kernel_rfl
    intro t ht
    have := List.all_eq_true.1 h t ht
    simp only [Bool.and_eq_true, decide_eq_true_eq] at this
    exact ⟨this.1.1, this.1.2, this.2⟩
  · intro ds hds
    have hl : Tryz.f5.params.toList.length = 2 := by kernel_rfl
    rw [hl] at hds
    match ds, hds with
    | [d1, d2], _ => exact ⟨rfl, rfl, rfl⟩
theorem lendTells_said (hc : ∀ (W : World) (args : Array Value) (xs : List V), Tabs W → ArgsS Tryz.prog 8 Tryz.f5.params.toList xs → RepVs (memOf W) xs args.toList → Calls Tryz.prog 5 args W fun e W' => e = .returned (.bool true) ∧ Below W.heap.size W W') :
    Rows.LendTellsSaid :=
  OpenClaim.holds_of_wide 5 Tryz.f5 rfl rfl rfl rfl rfl rfl rfl ⟨rfl, rfl, rfl, rfl, rfl⟩ rfl rfl rfl rfl rfl (by kernel_rfl) Tryz.func5 (by kernel_rfl)
    (of_decide_eq_true (by kernel_rfl)) (by unfold Func.isWrapper; first | (rw [if_pos (by decide +kernel)]; kernel_rfl) | (rw [if_neg (by decide +kernel)]; exact ⟨rfl, rfl⟩))
    (fun os started H enc _ => lendTells_lifted hc os started H enc)
theorem lendTells_card (h : Rows.LendTellsSaid) : Rows.LendTellsCardSaid :=
  Claim7.holds_tied_plain_at .later [] [.data, .data, .data] true (true, "58faa61de3eff3aedc16e69c27c048a92a6db18e7103f1e09a0cb20b9d907ff5") true
    h (fun _ h => by cases h) (by kernel_rfl) (fun _ h => by cases h) lendTells_row_tie rfl ⟨rfl, rfl⟩ (by kernel_rfl) rfl
    (fun f fn hf hfn => by
      obtain rfl : f = 5 := Option.some.inj ((show Tryz.prog.funcNamed "parvise/parviselaw09.LendTells" = some 5 by kernel_rfl).symm.trans hf) |>.symm
      obtain rfl : fn = Tryz.f5 := (Option.some.inj (Tryz.func5.symm.trans hfn)).symm
      exact ⟨by kernel_rfl, fun j t ht => by
        have hall : (Tryz.f5.params.toList.all fun t => !Tryz.prog.wantsStandIn t) = true := by kernel_rfl
        have hm : t ∈ Tryz.f5.params.toList := by
          obtain ⟨hj, e⟩ := Array.getElem?_eq_some_iff.1 ht
          rw [← e]
          exact Array.getElem_mem_toList hj
        have := List.all_eq_true.1 hall t hm
        have h1 : Tryz.prog.wantsStandIn t = false := by simpa using this
        exact h1⟩)
    (by kernel_rfl)
end Go.Eng
set_option maxRecDepth 100000
namespace Go.Eng
open Go Go.Proofs Go.Proofs.YtckmfkgppohnmaaGreatDoor
theorem lendTells_holds : Rows.LendTellsCardSaid :=
  lendTells_card <| lendTells_said fun W args xs ht ha hr => by
    obtain ⟨x, ys, rfl, h1, y, zs, rfl, h2, rfl⟩ := (show ArgsS Tryz.prog 8 [32, 3] xs from ha)
    obtain ⟨d, rfl⟩ := arg32 h1
    obtain ⟨us, h2, rfl⟩ := h2
    obtain ⟨n, rfl, _⟩ := shp3 h2
    rw [aggT3] at hr
    exact calls_true s5 ht hr ⟨congrArg encDk (decDk_enc' d), rfl, trivial⟩ rfl
end Go.Eng
namespace Go.Proofs.YtckmfkgppohnmaaGreatDoor
theorem lendTellsCard_holds : Rows.LendTellsCardSaid := Go.Eng.lendTells_holds
end Go.Proofs.YtckmfkgppohnmaaGreatDoor
#print axioms Go.Proofs.YtckmfkgppohnmaaGreatDoor.lendTellsCard_holds
