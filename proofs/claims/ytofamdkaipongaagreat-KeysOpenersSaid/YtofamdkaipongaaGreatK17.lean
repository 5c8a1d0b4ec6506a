import Derived.Test.YtofamdkaipongaaGreatK16
import GoSem.ClaimChange
import Derived.DataReads
import Derived.ChangeReads
import Derived.ProofKit
import Derived.Carry
import Derived.Test.YtofamdkaipongaaGreatRows
import Derived.Test.YtofamdkaipongaaGreatChecked
/- Texts EngN to EngP. -/
set_option linter.all false
namespace Go.Eng
open Go
theorem outH_nil : outH [] = fun _ => none := by
 funext nm
 unfold outH
 split <;> simp
theorem ran_pure {P : Program} {f : FuncId} {b : V} {fl : Bool} (h : Ran P ⟨f, [], [], ⟨[], [], .v b⟩⟩) (hn : ∀ fn, P.funcs[f]? = some fn → (fn.name == "runtime.NumGoroutine") = false) (hy : f < 1000000000) (hfl : b.flat = true) :
  PSound P f ⟨fun xs => xs = [], fun _ => b, fl⟩ := by
 obtain ⟨fn, c, h1, h2, h3, h4⟩ := h
 have h1' : P.funcs[f]? = some fn := h1
 refine psound h1' h2 rfl rfl (enter_of h1' h2 (hn fn h1')) (Nat.ne_of_lt (show f < yid from hy)) (fun _ _ _ => hfl) ?_
 rintro xs rfl _
 refine ⟨Nat.zero_le _, ?_⟩
 have h4' : CW P c (mkS fn.ntmps [0] (fun _ => none) (argsL 0 []) []) (retC P fn.results.toList [] ⟨[], [], .v b⟩) := by
  have := h4
  simp only [outH_nil] at this
  exact this
 refine CW.mono h4' ?_
 intro e σ hK
 have key : ((resAll P σ fn.results.toList).ok ∧ (resAll P σ fn.results.toList).d = .v b ∧ endC [] ⟨[], [], .v b⟩ σ) → (resAll P σ fn.results.toList).ok ∧ (frz 6 σ.obj (resAll P σ fn.results.toList).d).ok ∧ (frz 6 σ.obj (resAll P σ fn.results.toList).d).x = b := by
  rintro ⟨k1, k2, _⟩
  rw [k2]
  exact ⟨k1, trivial, rfl⟩
 cases e with
 | normal => exact key hK
 | ret => exact key hK
 | _ => exact hK.elim
open Go Go.Proofs
theorem s17 : PSound Tryz.prog 17 ⟨fun xs => xs = [], fun _ => .bool true, true⟩ :=
 ran_pure (b := .bool true) keR78 (by
  intro fn h
  have e : Tryz.prog.funcs[17]? = some Tryz.f17 := Tryz.func17
  rw [e] at h
  obtain rfl := Option.some.inj h
  exact (by kernel_rfl : (Tryz.f17.name == "runtime.NumGoroutine") = false)) (by decide) rfl
def aggT (P : Program) (t : TypeId) : Bool := match P.underlying t with | some (.struct _) => true | some (.array _ _) => true | _ => false
def packV (ag : Bool) (xs : List V) : V := if ag then .agg xs else xs.getD 0 default
def tiles (P : Program) : List Field → Nat → Nat → Bool
 | [], off, tot => off == tot
 | f :: r, off, tot => f.offset == off && tiles P r (off + P.cellsOf f.type) tot
def plainT (P : Program) : Nat → TypeId → Bool
 | 0, _ => false
 | n + 1, t => match P.underlying t with
  | some .bool => P.cellsOf t == 1
  | some (.int _) => P.cellsOf t == 1
  | some .string => P.cellsOf t == 1
  | some (.slice e) => P.cellsOf t == 1 && plainT P n e && decide (0 < P.cellsOf e) && (aggT P e || P.cellsOf e == 1)
  | some (.struct fs) => tiles P fs.toList 0 (P.cellsOf t) && fs.toList.all fun f => plainT P n f.type
  | some (.array m e) => P.cellsOf t == m * P.cellsOf e && plainT P n e
  | _ => false
def ShpL (S : TypeId → List V → Prop) : List TypeId → List V → Prop
 | [], xs => xs = []
 | t :: r, xs => ∃ a b, xs = a ++ b ∧ S t a ∧ ShpL S r b
def Shp (P : Program) : Nat → TypeId → List V → Prop
 | 0, _, _ => False
 | n + 1, t, xs => match P.underlying t with
  | some .bool => ∃ b, xs = [.bool b]
  | some (.int k) => ∃ z, xs = [.int k z] ∧ (Lit.int k z).wf = true
  | some .string => ∃ s, xs = [.str s] ∧ s.size ≤ maxLen
  | some (.slice e) => ∃ ls : List (List V), xs = [.sl (ls.map (packV (aggT P e)))] ∧ ls.length ≤ maxLen ∧ ∀ y ∈ ls, Shp P n e y
  | some (.struct fs) => ShpL (Shp P n) (fs.toList.map (·.type)) xs
  | some (.array m e) => ShpL (Shp P n) (List.replicate m e) xs
  | _ => False
structure RepCs (m : Mem) (xs : List V) (cs : List Value) : Prop where
 len : xs.length = cs.length
 rep : ∀ i (h : i < xs.length) (h' : i < cs.length), RepV m xs[i] cs[i]
 one : ∀ x ∈ xs, x.one = true
theorem RepCs.nil (m : Mem) : RepCs m [] [] := ⟨rfl, fun i h => by simp at h, fun x h => by simp at h⟩
theorem RepCs.append {m : Mem} {xs ys : List V} {cs ds : List Value} (h : RepCs m xs cs) (k : RepCs m ys ds) : RepCs m (xs ++ ys) (cs ++ ds) := by
 refine ⟨by simp [h.len, k.len], fun i h1 h2 => ?_, fun x hx => ?_⟩
 ·by_cases hi : i < xs.length
  ·rw [List.getElem_append_left hi, List.getElem_append_left (by rw [← h.len]; exact hi)]
   exact h.rep i hi _
  ·have hl := h.len
   have e : i - xs.length = i - cs.length := by rw [hl]
   rw [List.getElem_append_right (by omega), List.getElem_append_right (by omega)]
   simp only [List.length_append] at h1 h2
   have := k.rep (i - xs.length) (by omega) (by rw [← k.len]; omega)
   simp only [e] at this ⊢
   exact this
 ·rcases List.mem_append.1 hx with hx | hx
  ·exact h.one x hx
  ·exact k.one x hx
theorem RepCs.single {m : Mem} {x : V} {u : Value} (h : RepV m x u) (ho : x.one = true) : RepCs m [x] [u] :=
 ⟨rfl, fun i h1 h2 => by simp at h1; subst h1; exact h, fun y hy => by simp at hy; subst hy; exact ho⟩
theorem mapM_some {α β : Type} {f : α → Option β} : ∀ {l : List α} {r : List β}, l.mapM f = some r → r.length = l.length ∧ ∀ i (h : i < l.length) (h' : i < r.length), f l[i] = some r[i]
 | [], r, h => by
  simp only [List.mapM_nil] at h
  cases h
  exact ⟨rfl, fun i h => by simp at h⟩
 | a :: l, r, h => by
  simp only [List.mapM_cons, Option.bind_eq_bind, Option.bind_eq_some_iff] at h
  obtain ⟨b, hb, bs, hbs, hr⟩ := h
  cases hr
  obtain ⟨h1, h2⟩ := mapM_some hbs
  refine ⟨by simp [h1], fun i hi hi' => ?_⟩
  cases i with
  | zero => exact hb
  | succ i => exact h2 i (by simpa using hi) (by simpa using hi')
theorem tiles_le {P : Program} : ∀ {fs : List Field} {off tot : Nat}, tiles P fs off tot = true → off ≤ tot
 | [], off, tot, h => by simp [tiles] at h; omega
 | f :: r, off, tot, h => by
  simp only [tiles, Bool.and_eq_true] at h
  have := tiles_le h.2
  omega
theorem fields_rep {P : Program} {m : Mem} {S : TypeId → List V → Prop} {cs : List Value} : ∀ {fs : List Field} {off : Nat}, tiles P fs off cs.length = true →
  (∀ f ∈ fs, ∃ xs, S f.type xs ∧ RepCs m xs ((cs.drop f.offset).take (P.cellsOf f.type))) → ∃ xs, ShpL S (fs.map (·.type)) xs ∧ RepCs m xs (cs.drop off)
 | [], off, h, _ => by
  simp [tiles] at h
  subst h
  exact ⟨[], rfl, by simpa using RepCs.nil m⟩
 | f :: r, off, h, hf => by
  simp only [tiles, Bool.and_eq_true, beq_iff_eq] at h
  obtain ⟨h1, h2⟩ := h
  obtain ⟨a, ha, hra⟩ := hf f (by simp)
  obtain ⟨b, hb, hrb⟩ := fields_rep h2 fun g hg => hf g (by simp [hg])
  refine ⟨a ++ b, ⟨a, b, rfl, ha, hb⟩, ?_⟩
  have e : cs.drop off = (cs.drop f.offset).take (P.cellsOf f.type) ++ cs.drop (off + P.cellsOf f.type) := by
   rw [h1, ← List.drop_drop, List.take_append_drop]
  rw [e]
  exact hra.append hrb
theorem array_rep {m : Mem} {S : TypeId → List V → Prop} {e : TypeId} {k : Nat} {cs : List Value} : ∀ (n off : Nat), cs.length = (off + n) * k →
  (∀ i, i < off + n → ∃ xs, S e xs ∧ RepCs m xs ((cs.drop (i * k)).take k)) → ∃ xs, ShpL S (List.replicate n e) xs ∧ RepCs m xs (cs.drop (off * k))
 | 0, off, h, _ => by
  have : cs.drop (off * k) = [] := List.drop_eq_nil_of_le (by rw [h]; simp)
  rw [this]
  exact ⟨[], rfl, RepCs.nil m⟩
 | n + 1, off, h, hf => by
  obtain ⟨a, ha, hra⟩ := hf off (by omega)
  obtain ⟨b, hb, hrb⟩ := array_rep n (off + 1) (by rw [h]; congr 1; omega) fun i hi => hf i (by omega)
  refine ⟨a ++ b, ⟨a, b, rfl, ha, hb⟩, ?_⟩
  have e : cs.drop (off * k) = (cs.drop (off * k)).take k ++ cs.drop ((off + 1) * k) := by
   rw [Nat.succ_mul, ← List.drop_drop, List.take_append_drop]
  rw [e]
  exact hra.append hrb
theorem packV_cells {ag : Bool} {xs : List V} (h : ag = true ∨ xs.length = 1) (ho : ∀ x ∈ xs, x.one = true) : (packV ag xs).cells = xs := by
 cases ag with
 | true => rfl
 | false =>
  rcases h with h | h
  ·cases h
  match xs, h with
  | [x], _ =>
   have := ho x (by simp)
   show x.cells = [x]
   cases x <;> first | rfl | (simp [V.one] at this)
def memOf (w : World) : Mem := fun b off => w.cell? ⟨b, off, none⟩
theorem add_at {a : Addr} (h : a.spot = none) (n : Nat) : a.add n = ⟨a.block, a.off + n, none⟩ := by
 obtain ⟨b, o, s⟩ := a
 simp only at h
 subst h
 unfold Addr.add
 split
 ·rename_i e; subst e; rfl
 ·rfl
theorem rep_trod {H : Type} {enc : TypeId × Value → H} {P : Program} {w : World} {base : Nat} {spare : Nat → Bool} {held : Bool} :
  ∀ (n fuel : Nat) (t : TypeId) (cs : List Value) (r : DataW H × List MemPlace), plainT P n t = true → cs.length = P.cellsOf t → DataW.trod enc P w base spare held fuel t cs = some r → ∃ xs, Shp P n t xs ∧ RepCs (memOf w) xs cs
 | 0, _, _, _, _, h, _, _ => by simp [plainT] at h
 | n + 1, 0, _, _, _, _, _, h => by simp [DataW.trod] at h
 | n + 1, fuel + 1, t, cs, r, hp, hlen, h => by
  rw [DataW.trod_step] at h
  unfold DataW.trodStep at h
  unfold plainT at hp
  unfold Shp
  rcases hu : P.underlying t with _ | u
  ·rw [hu] at hp; simp at hp
  rw [hu] at hp h
  cases u with
  | bool =>
   have hb : ∃ b, cs = [.bool b] := by
    simp only at h
    split at h <;> simp_all
   obtain ⟨b, rfl⟩ := hb
   exact ⟨_, ⟨b, rfl⟩, .single (.bool _) rfl⟩
  | int k =>
   simp only at hp h ⊢
   split at h <;> simp_all
   obtain ⟨⟨rfl, h1⟩, _⟩ := h
   exact ⟨_, ⟨_, rfl, h1⟩, .single (.int _ _) rfl⟩
  | string =>
   simp only at hp h ⊢
   split at h <;> simp_all
   obtain ⟨h1, _⟩ := h
   exact ⟨_, ⟨_, rfl, h1⟩, .single (.str _ h1) rfl⟩
  | slice e =>
   simp only [Bool.and_eq_true, decide_eq_true_eq, Bool.or_eq_true, beq_iff_eq] at hp ⊢
   obtain ⟨⟨⟨_, hpe⟩, hpos⟩, hag⟩ := hp
   split at h <;> simp_all
   ·exact ⟨_, ⟨[], rfl, Nat.zero_le _, by simp⟩, .single (.slnil _ _) rfl⟩
   ·rename_i e' a len cap _ _
    obtain ⟨⟨hb, hlc, hcm⟩, h⟩ := h
    simp only [Option.bind_eq_some_iff] at h
    obtain ⟨elems, hel, _⟩ := h
    obtain ⟨l1, l2⟩ := mapM_some hel
    simp only [List.length_range] at l1
    have hx : ∀ i, i < len → ∃ xs cells, w.cells? base (a.add (i * P.cellsOf e')) (P.cellsOf e') = some cells ∧ Shp P n e' xs ∧ RepCs (memOf w) xs cells := by
     intro i hi
     have h3 := l2 i (by simpa using hi) (by omega)
     simp only [List.getElem_range, Option.bind_eq_some_iff] at h3
     obtain ⟨cells, h4, h5⟩ := h3
     obtain ⟨xs, h6, h7⟩ := rep_trod n fuel _ _ _ hpe (World.cells?_some h4).2.1 h5
     exact ⟨xs, cells, h4, h6, h7⟩
    rcases Nat.eq_zero_or_pos len with hz | hpos'
    ·subst hz
     exact ⟨[.sl []], ⟨[], rfl, Nat.zero_le _, by simp⟩, .single (.slnil _ _) rfl⟩
    have hspot : a.spot = none := by
     obtain ⟨xs, cells, h4, _⟩ := hx 0 hpos'
     have h8 := (World.cells?_some h4).2.2 0 hpos
     have h9 := (World.cells?_some h4).2.1
     have h10 : w.cell? ((a.add (0 * P.cellsOf e')).add 0) = some (cells[0]'(by omega)) := by rw [h8]; exact List.getElem?_eq_getElem (by omega)
     simpa [Addr.add] using World.cell?_spot h10
    let X : Nat → List V := fun i => if h : i < len then Classical.choose (hx i h) else []
    let C : Nat → List Value := fun i => (w.cells? base (a.add (i * P.cellsOf e')) (P.cellsOf e')).getD []
    have hX : ∀ i, i < len → Shp P n e' (X i) ∧ RepCs (memOf w) (X i) (C i) ∧ (C i).length = P.cellsOf e' ∧ ∀ j, j < P.cellsOf e' → w.cell? ⟨a.block, a.off + i * P.cellsOf e' + j, none⟩ = (C i)[j]? := by
     intro i hi
     obtain ⟨cells, h4, h6, h7⟩ := Classical.choose_spec (hx i hi)
     have e1 : X i = Classical.choose (hx i hi) := dif_pos hi
     have e2 : C i = cells := by show (w.cells? _ _ _).getD [] = cells; rw [h4]; rfl
     rw [e1, e2]
     refine ⟨h6, h7, (World.cells?_some h4).2.1, fun j hj => ?_⟩
     have h8 := (World.cells?_some h4).2.2 j hj
     rw [add_at hspot, add_at rfl] at h8
     exact h8
    have hcells : ∀ i, i < len → (packV (aggT P e') (X i)).cells = X i := fun i hi => by
     obtain ⟨h1, h2, h3, _⟩ := hX i hi
     refine packV_cells ?_ h2.one
     rcases hag with h | h
     ·exact .inl h
     ·exact .inr (by rw [h2.len, h3, h])
    refine ⟨[.sl (((List.range len).map X).map (packV (aggT P e')))], ⟨(List.range len).map X, rfl, by simp; omega, fun y hy => ?_⟩, .single ?_ rfl⟩
    ·simp only [List.mem_map, List.mem_range] at hy
     obtain ⟨i, hi, rfl⟩ := hy
     exact (hX i hi).1
    ·obtain ⟨b, o, s⟩ := a
     simp only at hspot hX
     subst hspot
     have key := RepV.sl (m := memOf w) (((List.range len).map X).map (packV (aggT P e'))) b o cap (P.cellsOf e') (fun i j => ((C i)[j]?).getD undef) (by
       intro h; have := congrArg List.length h; simp at this; omega) (by simp; omega) (by simpa using hlc)
      (fun i hi => by
       have hi' : i < len := by simpa using hi
       obtain ⟨h1, h2, h3, _⟩ := hX i hi'
       simp only [List.getElem_map, List.getElem_range]
       rw [hcells i hi', h2.len, h3])
      (fun i j hi hj => by
       have hi' : i < len := by simpa using hi
       obtain ⟨h1, h2, h3, h4⟩ := hX i hi'
       show w.cell? _ = _
       rw [h4 j hj, List.getElem?_eq_getElem (by omega)]
       rfl)
      (fun i j hi hj => by
       have hi' : i < len := by simpa using hi
       obtain ⟨h1, h2, h3, h4⟩ := hX i hi'
       simp only [List.getElem_map, List.getElem_range, hcells i hi'] at hj ⊢
       have hj' : j < (C i).length := by rw [← h2.len]; exact hj
       rw [List.getElem?_eq_getElem hj']
       exact h2.rep j hj hj')
      (fun i hi x hx => by
       have hi' : i < len := by simpa using hi
       simp only [List.getElem_map, List.getElem_range, hcells i hi'] at hx
       exact (hX i hi').2.1.one x hx)
     simpa using key
  | struct fs =>
   simp only [Bool.and_eq_true, List.all_eq_true] at hp h ⊢
   obtain ⟨ht, hall⟩ := hp
   rw [if_pos hlen] at h
   simp only [Option.map_eq_some_iff] at h
   obtain ⟨ys, hys, _⟩ := h
   obtain ⟨l1, l2⟩ := mapM_some hys
   have := fields_rep (m := memOf w) (S := Shp P n) (cs := cs) (fs := fs.toList) (off := 0) (by rw [hlen]; exact ht) fun f hf => by
    obtain ⟨i, hi, rfl⟩ := List.mem_iff_getElem.1 hf
    have h3 := l2 i hi (by omega)
    have hle : P.cellsOf fs.toList[i].type ≤ (cs.drop fs.toList[i].offset).length := by
     have key : ∀ (l : List Field) (off tot : Nat), tiles P l off tot = true → ∀ f ∈ l, f.offset + P.cellsOf f.type ≤ tot := by
      intro l
      induction l with
      | nil => intro _ _ _ f hf; simp at hf
      | cons g r ih =>
       intro off tot h f hf
       simp only [tiles, Bool.and_eq_true, beq_iff_eq] at h
       rcases List.mem_cons.1 hf with rfl | hf
       ·have := tiles_le h.2; omega
       ·exact ih _ _ h.2 f hf
     have := key _ _ _ ht _ hf
     simp only [List.length_drop]
     omega
    exact rep_trod n fuel _ _ _ (hall _ hf) (by rw [List.length_take]; omega) h3
   simpa using this
  | array m e =>
   simp only [Bool.and_eq_true, beq_iff_eq] at hp h ⊢
   obtain ⟨ht, hpe⟩ := hp
   rw [if_pos hlen] at h
   simp only [Option.map_eq_some_iff] at h
   obtain ⟨ys, hys, _⟩ := h
   obtain ⟨l1, l2⟩ := mapM_some hys
   have := array_rep (m := memOf w) (S := Shp P n) (e := e) (k := P.cellsOf e) (cs := cs) m 0 (by rw [hlen, ht]; simp) fun i hi => by
    have hi' : i < m := by omega
    have h3 := l2 i (by simpa using hi') (by rw [l1]; simpa using hi')
    simp only [List.getElem_range] at h3
    have hle : i * P.cellsOf e + P.cellsOf e ≤ cs.length := by
     rw [hlen, ht, ← Nat.succ_mul]; exact Nat.mul_le_mul_right _ hi'
    exact rep_trod n fuel _ _ _ hpe (by rw [List.length_take, List.length_drop]; omega) h3
   simpa using this
  | _ => simp at hp
open Go Go.RowKit Go.ChangeShapes Go.WideShapes Go.ChangeAt
theorem okWide_plain {P : Program} {n : Nat} {t : TypeId} {W : World} {r : Reach} {base : Nat} {v : Value} (hp : plainT P n t = true) (h : Value.okWide P W r base t v) :
    v.cells.size = P.cellsOf t ∧ (aggT P t = true → ∃ cs, v = .agg cs) ∧ (aggT P t = false → v.cells = #[v] ∧ P.cellsOf t = 1) := by
  cases n with
  | zero => simp [plainT] at hp
  | succ n =>
    unfold plainT at hp
    unfold aggT
    rcases hu : P.underlying t with _ | u
    · rw [hu] at hp; simp at hp
    rw [hu] at hp
    cases u with
    | bool =>
      obtain ⟨b, rfl⟩ := okWide_bool hu h
      simp only [beq_iff_eq] at hp
      exact ⟨by simp [Value.cells, hp], by simp, fun _ => ⟨rfl, hp⟩⟩
    | int k =>
      obtain ⟨b, rfl⟩ := okWide_int hu h
      simp only [beq_iff_eq] at hp
      exact ⟨by simp [Value.cells, hp], by simp, fun _ => ⟨rfl, hp⟩⟩
    | string =>
      obtain ⟨b, rfl⟩ := okWide_string hu h
      simp only [beq_iff_eq] at hp
      exact ⟨by simp [Value.cells, hp], by simp, fun _ => ⟨rfl, hp⟩⟩
    | slice e =>
      obtain ⟨a, len, cap, rfl⟩ := okWide_slice hu h
      simp only [Bool.and_eq_true, beq_iff_eq] at hp
      exact ⟨by simp [Value.cells, hp.1.1.1], by simp, fun _ => ⟨rfl, hp.1.1.1⟩⟩
    | struct fs =>
      simp only [Value.okWide, hu] at h
      obtain ⟨cs, rfl, h2, _⟩ := h
      exact ⟨h2, fun _ => ⟨cs, rfl⟩, fun h => by simp at h⟩
    | array m e =>
      simp only [Value.okWide, hu] at h
      obtain ⟨cs, rfl, h2, _⟩ := h
      exact ⟨h2, fun _ => ⟨cs, rfl⟩, fun h => by simp at h⟩
    | _ => simp at hp
def ArgS (P : Program) (n : Nat) (t : TypeId) (x : V) : Prop := ∃ xs, Shp P n t xs ∧ x = packV (aggT P t) xs
def ArgsS (P : Program) (n : Nat) : List TypeId → List V → Prop
  | [], xs => xs = []
  | t :: r, xs => ∃ x ys, xs = x :: ys ∧ ArgS P n t x ∧ ArgsS P n r ys
theorem arg_rep {H : Type} {enc : TypeId × Value → H} {P : Program} {w : World} {b0 : Nat} {spare : Nat → Bool} {held : Bool} {n : Nat} {t : TypeId} {r : Reach} {base : Nat} {v : Value} {d : DataW H} {ps : List MemPlace}
    (hp : plainT P n t = true) (h : Value.okWide P w r base t v) (ht : DataW.Trod enc P w b0 spare held t v d ps) : ∃ x, ArgS P n t x ∧ RepV (memOf w) x v := by
  obtain ⟨h1, h2, h3⟩ := okWide_plain hp h
  obtain ⟨fuel, hf⟩ := ht
  obtain ⟨xs, k1, k2⟩ := rep_trod n fuel t v.cells.toList _ hp (by simpa using h1) hf
  refine ⟨packV (aggT P t) xs, ⟨xs, k1, rfl⟩, ?_⟩
  cases ha : aggT P t with
  | true =>
    obtain ⟨cs, rfl⟩ := h2 ha
    simp only [packV, if_true]
    refine .agg xs cs (by simpa [Value.cells] using k2.len) k2.one fun i h h' => ?_
    have := k2.rep i h (by simpa [Value.cells] using h')
    simpa [Value.cells] using this
  | false =>
    obtain ⟨h4, h5⟩ := h3 ha
    have hl : xs.length = 1 := by rw [k2.len]; simp [h4]
    match xs, hl with
    | [x], _ =>
      have := k2.rep 0 (by simp) (by simp [h4])
      simp only [packV, Bool.false_eq_true, if_false, List.getD_cons_zero]
      simpa [h4] using this
theorem args_rep {H : Type} {enc : TypeId × Value → H} {P : Program} {w : World} {b0 : Nat} {spare : Nat → Bool} {held : Bool} {n : Nat} {r : Reach} {base : Nat} : ∀ {ts : List TypeId} {vs : List Value} {ds : List (DataW H)} {ps : List MemPlace},
    (∀ t ∈ ts, plainT P n t = true) → (∀ (j : Nat) t v, ts[j]? = some t → vs[j]? = some v → Value.okWide P w r base t v) → DataW.TrodAll enc P w b0 spare held ts vs ds ps → ∃ xs, ArgsS P n ts xs ∧ RepVs (memOf w) xs vs
  | [], vs, ds, ps, _, _, h => by
    cases vs with
    | nil => exact ⟨[], rfl, rfl, fun i h => by simp at h⟩
    | cons => cases ds <;> simp [DataW.TrodAll] at h
  | t :: ts, [], ds, ps, _, _, h => by cases ds <;> simp [DataW.TrodAll] at h
  | t :: ts, v :: vs, [], ps, _, _, h => by simp [DataW.TrodAll] at h
  | t :: ts, v :: vs, d :: ds, ps, hp, hv, h => by
    obtain ⟨p, q, h1, h2, _⟩ := h
    obtain ⟨x, k1, k2⟩ := arg_rep (hp t (by simp)) (hv 0 t v rfl rfl) h1
    obtain ⟨ys, k3, k4, k5⟩ := args_rep (fun t ht => hp t (by simp [ht])) (fun j t v h h' => hv (j + 1) t v (by simpa using h) (by simpa using h')) h2
    refine ⟨x :: ys, ⟨x, ys, rfl, k1, k3⟩, by simp [k4], fun i hi hi' => ?_⟩
    cases i with
    | zero => exact k2
    | succ i => exact k5 i (by simpa using hi) (by simpa using hi')
theorem args_trod {H : Type} {enc : TypeId × Value → H} {P : Program} (hl : laidOutB P = true) {W W' : World} (hb : Below W.heap.size W W') : ∀ {ts : List TypeId} {vs : List Value} {ds : List (DataW H)} {ps : List MemPlace},
    (∀ t ∈ ts, P.readableRec t = true ∧ t < P.types.size) → DataW.TrodAll enc P W 0 (fun _ => true) true ts vs ds ps → (∀ x ∈ ps, x.block < W.heap.size) → DataW.TrodAll enc P W' 0 (fun b => decide (b < W.heap.size)) true ts vs ds ps
  | [], vs, ds, ps, _, h, _ => by
    cases vs <;> cases ds <;> simp_all [DataW.TrodAll]
  | t :: ts, [], ds, ps, _, h, _ => by cases ds <;> simp [DataW.TrodAll] at h
  | t :: ts, v :: vs, [], ps, _, h, _ => by simp [DataW.TrodAll] at h
  | t :: ts, v :: vs, d :: ds, ps, hr, h, hlt => by
    obtain ⟨p, q, h1, h2, rfl⟩ := h
    exact ⟨p, q, Below.trod hl (hr t (by simp)).1 (hr t (by simp)).2 h1 hb (fun x hx => hlt x (by simp [hx])),
      args_trod hl hb (fun t ht => hr t (by simp [ht])) h2 (fun x hx => hlt x (by simp [hx])), rfl⟩
theorem trodAll_len {H : Type} {enc : TypeId × Value → H} {P : Program} {w : World} {b0 : Nat} {spare : Nat → Bool} {held : Bool} : ∀ {ts : List TypeId} {vs : List Value} {ds : List (DataW H)} {ps : List MemPlace}, DataW.TrodAll enc P w b0 spare held ts vs ds ps → ds.length = ts.length
  | [], vs, ds, ps, h => by cases vs <;> cases ds <;> simp_all [DataW.TrodAll]
  | t :: ts, [], ds, ps, h => by cases ds <;> simp [DataW.TrodAll] at h
  | t :: ts, v :: vs, [], ps, h => by simp [DataW.TrodAll] at h
  | t :: ts, v :: vs, d :: ds, ps, h => by
    obtain ⟨p, q, _, h2, _⟩ := h
    simp [trodAll_len h2]
theorem law_lifted {H : Type} {enc : TypeId × Value → H} {C : Checked} {os : Os} {f : FuncId} {fn : Func} {s : ChangeSpec} {conds : List PathCond} {n : Nat} {tb : TypeId}
    (own : ownKnob C.prog.godebug = none) (started : os.Started) (noInit : C.prog.inits.idxOf? f = none) (hfn : C.prog.funcs[f]? = some fn)
    (witness : ∃ (w : World) (tape : Tape) (i : Input), w.os = os ∧ (w.forCall tape i).Shaped C.prog ∧ i.vars = [] ∧ Input.okWide C.prog (w.forCall tape i) .any w.heap.size f i ∧
      s.pre6 enc C.prog fn conds false (w.forCall tape i).memory i.args ∧ ({} : Assume).holds C.prog (lone (Frame.enter C.prog f i.args .normal) [] (w.forCall tape i)))
    (hl : laidOutB C.prog = true) (hps : ∀ t ∈ fn.params.toList, plainT C.prog n t = true ∧ C.prog.readableRec t = true ∧ t < C.prog.types.size) (hres : fn.resultTypes = #[tb]) (htb : C.prog.underlying tb = some .bool)
    (hvars : s.vars = []) (hs : ∀ ds : List (DataW H), ds.length = fn.params.toList.length → (s.fn H ds).results = [.lit (.bool true)] ∧ (s.fn H ds).args = ds ∧ (s.fn H ds).vars = [])
    (hcalls : ∀ (W : World) (args : Array Value) (xs : List V), ArgsS C.prog n fn.params.toList xs → RepVs (memOf W) xs args.toList → Calls C.prog f args W fun e W' => e = .returned (.bool true) ∧ Below W.heap.size W W') :
    ReturnsInHanded {} C os f .any (s.pre6 enc C.prog fn conds false) (s.post enc C.prog fn false true false false) := by
  refine returnsInHanded_of_change own started noInit hfn witness ?_
  intro W base args ds gs before hval hW _ _
  have hW' := hW
  obtain ⟨p, q, hA, hV, rfl, _, _⟩ := hW
  rw [hvars] at hV
  obtain ⟨rfl, rfl⟩ := trodVars_none hV
  simp only [List.append_nil] at hW'
  have hlt : ∀ y ∈ p, y.block < W.heap.size := fun y hy => by simpa using hW'.lt y hy
  obtain ⟨xs, h1, h2⟩ := args_rep (vs := args.toList) (ts := fn.params.toList) (fun t ht => (hps t ht).1) (fun j t v h h' => hval j t v (by simpa using h) (by simpa using h')) hA
  obtain ⟨e1, e2, e3⟩ := hs ds (trodAll_len hA)
  refine (hcalls W args xs h1 h2).mono fun e W' ⟨he, hn⟩ => ?_
  subst he
  refine ⟨_, rfl, ds, [], p, [], p, [], hW', ?_, ?_, ?_, hn.frame _, fun h => by cases h⟩
  · rw [List.append_nil, e1, hres]
    exact trodAll_mk1 (shut_bool htb _)
  · rw [List.append_nil, e2]
    exact args_trod hl hn (fun t ht => (hps t ht).2) hA hlt
  · rw [List.append_nil, e3, hvars]
    rfl
open Go Go.Proofs Go.Proofs.YtofamdkaipongaaGreat Go.RowKit Go.ChangeShapes
theorem kOwn : ownKnob Tryz.prog.godebug = none := by kernel_rfl
theorem kLaid : laidOutB Tryz.prog = true := by kernel_rfl
end Go.Eng
set_option linter.constructorNameAsVariable false
set_option maxRecDepth 100000
namespace Go.Eng
open Go Go.Proofs
theorem shp3 {n : Nat} {xs : List V} (h : Shp Tryz.prog (n + 1) 3 xs) : ∃ k, xs = [vInt k] ∧ (Lit.int .i64 k).wf = true := by
 unfold Shp at h
 simp only [Tryz.underlying3] at h
 exact h
theorem shp31 {n : Nat} {xs : List V} (h : Shp Tryz.prog (n + 2) 31 xs) : ∃ a b, xs = [vInt a, vInt b] := by
 unfold Shp at h
 simp only [Tryz.underlying31] at h
 obtain ⟨x, y, rfl, h1, x2, y2, rfl, h2, rfl⟩ := h
 obtain ⟨a, rfl, _⟩ := shp3 h1
 obtain ⟨b, rfl, _⟩ := shp3 h2
 exact ⟨a, b, rfl⟩
theorem shp33 {n : Nat} {xs : List V} (h : Shp Tryz.prog (n + 2) 33 xs) : ∃ a b, xs = [vInt a, vInt b] := by
 unfold Shp at h
 simp only [Tryz.underlying33] at h
 obtain ⟨x, y, rfl, h1, x2, y2, rfl, h2, rfl⟩ := h
 obtain ⟨a, rfl, _⟩ := shp3 h1
 obtain ⟨b, rfl, _⟩ := shp3 h2
 exact ⟨a, b, rfl⟩
theorem shp35 {n : Nat} {xs : List V} (h : Shp Tryz.prog (n + 3) 35 xs) : ∃ d, V.agg xs = encD d := by
 unfold Shp at h
 simp only [Tryz.underlying35] at h
 obtain ⟨x1, y, rfl, h1, x2, y2, rfl, h2, x3, y3, rfl, h3, x4, y4, rfl, h4, x5, y5, rfl, h5, x6, y6, rfl, h6, x7, y7, rfl, h7, rfl⟩ := h
 obtain ⟨a, b, rfl⟩ := shp31 h1
 obtain ⟨c, rfl, _⟩ := shp3 h2
 obtain ⟨d, rfl, _⟩ := shp3 h3
 obtain ⟨e, rfl, _⟩ := shp3 h4
 obtain ⟨f, g, rfl⟩ := shp33 h5
 obtain ⟨i, rfl, _⟩ := shp3 h6
 obtain ⟨j, rfl, _⟩ := shp3 h7
 exact ⟨⟨a, b, c, d, e, f, g, i, j⟩, rfl⟩
theorem aggT35 : aggT Tryz.prog 35 = true := by kernel_rfl
theorem aggT22 : aggT Tryz.prog 22 = false := by kernel_rfl
theorem aggT3 : aggT Tryz.prog 3 = false := by kernel_rfl
theorem map_ex {α β : Type} {f : α → β} {P : β → Prop} (h : ∀ y, P y → ∃ x, y = f x) : ∀ {l : List β}, (∀ y ∈ l, P y) → ∃ m : List α, l = m.map f
 | [], _ => ⟨[], rfl⟩
 | y :: r, hl => by
  obtain ⟨x, rfl⟩ := h y (hl y (by simp))
  obtain ⟨m, rfl⟩ := map_ex h (l := r) fun z hz => hl z (by simp [hz])
  exact ⟨x :: m, rfl⟩
theorem arg22 {x : V} (h : ArgS Tryz.prog 6 22 x) : ∃ l : List Deed, x = .sl (l.map encD) := by
 obtain ⟨xs, h1, rfl⟩ := h
 rw [aggT22]
 unfold Shp at h1
 simp only [Tryz.underlying22] at h1
 obtain ⟨ls, rfl, _, h3⟩ := h1
 rw [aggT35]
 obtain ⟨m, hm⟩ := map_ex (f := encD) (P := fun y => ∃ d, y = encD d) (fun y h => h) (l := ls.map (packV true)) fun y hy => by
  obtain ⟨z, hz, rfl⟩ := List.mem_map.1 hy
  exact shp35 (h3 z hz)
 exact ⟨m, by rw [hm]; rfl⟩
theorem calls_true {f : FuncId} {s : PSpec} (h : PSound Tryz.prog f s) {W : World} {args : Array Value} {xs : List V} (hr : RepVs (memOf W) xs args.toList) (hp : s.pre xs) (ht : s.fn xs = .bool true) :
  Calls Tryz.prog f args W fun e W' => e = .returned (.bool true) ∧ RowKit.Below W.heap.size W W' := by
 refine (h.calls (memOf W) W xs args (fun b off v hv => hv) hr hp).mono ?_
 rintro e W' ⟨v, m', rfl, hb, _, _, hv⟩
 rw [ht] at hv
 cases hv
 exact ⟨rfl, hb⟩
set_option maxRecDepth 10000
def sIII (g : Int → Int → Int → V) : Spec := (pIII g).toSpec
theorem sIII_app {g : Int → Int → Int → V} {obj : Name → Option O} {t : Name} {a b c : Int} : (sIII g).app obj t [.v (vInt a), .v (vInt b), .v (vInt c)] = ⟨True, .v (g a b c), obj⟩ := by
 simp only [sIII, PSpec.toSpec, pIII, frzL, frz, if_true]
 congr 1
 simp only [eq_iff_iff, iff_true]
 exact ⟨⟨trivial, trivial, trivial, trivial⟩, a, b, c, rfl⟩
theorem countL_len (l : List Deed) (k : Int) : (countL l k).length ≤ l.length := List.length_filter_le _ _
@[go_sem] theorem ta23 : tAgg Tryz.prog 23 = some (true, 2) := by kernel_rfl
@[go_sem] theorem tr23 : tArr Tryz.prog 23 = some (2, 1, false) := by kernel_rfl
@[go_sem] theorem tp23 : tPlaces Tryz.prog 23 = some [(0, 1), (1, 1)] := by kernel_rfl
@[go_sem] theorem tz23 : tZero Tryz.prog 23 = some (.agg #[(.int .i64 0), (.int .i64 0)]) := by kernel_rfl
@[go_sem] theorem ta143 : tAgg Tryz.prog 143 = some (false, 1) := by kernel_rfl
@[go_sem] theorem ta146 : tAgg Tryz.prog 146 = some (false, 1) := by kernel_rfl
@[go_sem] theorem te146 : tElem Tryz.prog 146 = some (33, 2, 16) := by kernel_rfl
@[go_sem] theorem tl146 : tLen Tryz.prog 146 = some 0 := by kernel_rfl
@[go_sem] theorem tz146 : tZero Tryz.prog 146 = some (.slice none 0 0) := by kernel_rfl
@[go_sem] theorem ta100 : tAgg Tryz.prog 100 = some (false, 1) := by kernel_rfl
@[go_sem] theorem ta61 : tAgg Tryz.prog 61 = some (false, 1) := by kernel_rfl
@[go_sem] theorem ta69 : tAgg Tryz.prog 69 = some (false, 1) := by kernel_rfl
@[go_sem] theorem ta56 : tAgg Tryz.prog 56 = some (false, 1) := by kernel_rfl
def clashB (a b : Deed) : Bool := sameThB a b && decide (b.dh < a.dl)
theorem valid_kind {d : Deed} (h : isDeedB d = true) : (offB d.ki = true ∧ d.lo = 0 ∧ 1 ≤ d.pe ∧ d.pe ≤ 99) ∨ (offB d.ki = false ∧ 1 ≤ d.lo ∧ d.lo ≤ 3) := by
 unfold isDeedB at h
 simp only [Bool.and_eq_true] at h
 have h7 := h.2
 unfold offB
 by_cases h1 : d.ki = 1 ∨ d.ki = 2
 ·rw [if_pos h1] at h7
  simp only [Bool.and_eq_true, beq_iff_eq, inI_iff] at h7
  refine .inl ⟨by simp; exact h1, h7.1, h7.2.1, h7.2.2⟩
 ·rw [if_neg h1] at h7
  refine .inr ⟨by simp; omega, ?_⟩
  by_cases h2 : d.ki = 3 ∨ d.ki = 4
  ·rw [if_pos h2] at h7
   simp only [Bool.and_eq_true, inI_iff] at h7
   exact h7.1
  ·rw [if_neg h2] at h7
   by_cases h3 : d.ki = 5 ∨ d.ki = 6
   ·rw [if_pos h3] at h7
    simp only [Bool.and_eq_true, inI_iff] at h7
    exact h7.1
   ·rw [if_neg h3] at h7; cases h7
theorem same_is {a b : Deed} (ha : isDeedB a = true) (hb : isDeedB b = true) : sameThB a b = isOfB b a.lo a.pe := by
 have h1 := valid_kind ha
 have h2 := valid_kind hb
 unfold sameThB isOfB
 rcases h1 with ⟨h1, h3, _⟩ | ⟨h1, h3⟩ <;> rcases h2 with ⟨h2, h4, _⟩ | ⟨h2, h4⟩ <;> simp only [h1, h2, Bool.true_and, Bool.false_and, if_true, Bool.false_eq_true, if_false]
 ·rw [if_neg (by omega), h4]; simp; exact Bool.beq_comm ..
 ·rw [if_neg (by omega)]
  have : (b.lo == 0) = false := by simp; omega
  rw [this]; rfl
 ·rw [if_pos (by omega), h4]
  have : (a.lo == 0) = false := by simp; omega
  have h5 : ((0 : Int) == a.lo) = false := by simp; omega
  rw [this, h5]
 ·rw [if_pos (by omega)]
  exact Bool.beq_comm ..
theorem clash_contra {a b : Deed} (ha : isDeedB a = true) (hb : isDeedB b = true) : clashB a b = contraB a b := by
 unfold clashB contraB
 rw [same_is ha hb]
theorem pairI_congr {p q : Deed → Deed → Bool} {l : List Deed} (h : ∀ a ∈ l, ∀ b ∈ l, p a b = q a b) : pairI p l = pairI q l := by
 cases hp : pairI p l with
 | none =>
  refine (pairI_none fun i k hi hk hik => ?_).symm
  rw [← h _ (List.getElem_mem hi) _ (List.getElem_mem hk)]
  exact pairI_not hp i k hi hk hik
 | some x =>
  obtain ⟨hi, hk, hik, hc, hm⟩ := pairI_is hp
  refine (pairI_some (i := x.1) (k := x.2) ⟨hi, hk, hik, ?_, fun i' k' hi' hk' hik' hcc => ?_⟩).symm
  ·rw [← h _ (List.getElem_mem hi) _ (List.getElem_mem hk)]; exact hc
  ·rw [← h _ (List.getElem_mem hi') _ (List.getElem_mem hk')]; exact hm i' k' hi' hk' hik' hcc
theorem countL_valid {l : List Deed} (h : okL l) (k : Int) : ∀ d ∈ countL l k, isDeedB d = true := fun d hd => h.2.1 d (List.mem_filter.1 hd).1
theorem pairI_clash {l : List Deed} (h : okL l) (k : Int) : pairI clashB (countL l k) = pairI contraB (countL l k) :=
 pairI_congr fun a ha b hb => clash_contra (countL_valid h k a ha) (countL_valid h k b hb)
theorem reach2 {obj : Name → Option O} {nm b b' : Name} {n sz g : Nat} {L : List V} {cs cs' : List V} (hb : b ≠ nm) (hb' : b' ≠ nm) (hbb : b' ≠ b) (ho : obj nm = some (.arr sz L)) (h : obj b = some (.box (cs.map .v))) (h' : obj b' = some (.box (cs'.map .v))) :
  reach obj [.msl nm n, .clo (.func g) [] [.ref b 0, .ref b' 0]] = [nm, b, b'] := by
 have h0 : namesL [.msl nm n, .clo (.func g) [] [.ref b 0, .ref b' 0]] = [nm, b, b'] := rfl
 have hn : ∀ cs : List V, namesL (cs.map D.v) = [] := by
  intro cs
  induction cs with
  | nil => rfl
  | cons x r ih => simp only [List.map_cons, namesL, namesD, List.nil_append, ih]
 have e1 : (nm == b) = false := by simpa using fun e => hb e.symm
 have e2 : (nm == b') = false := by simpa using fun e => hb' e.symm
 have e3 : (b == b') = false := by simpa using fun e => hbb e.symm
 unfold reach
 rw [h0]
 show reachL obj (2996 + 1 + 1 + 1 + 1) [nm, b, b'] [] = [nm, b, b']
 simp only [reachL, inL, List.any_nil, Bool.false_eq_true, if_false, ho, h, h', namesO, List.nil_append, hn, List.any_cons, e1, e2, e3, Bool.or_self, List.cons_append]
theorem del_app2 {obj : Name → Option O} {t nm b b' : Name} {n : Nat} {l : List Deed} {k j : Int} (hl : l.length < 1000000) (hb : b ≠ nm) (hb' : b' ≠ nm) (hbb : b' ≠ b) (ho : obj nm = some (.arr 9 (l.map encD))) (hn : n = l.length) (h : obj b = some (.box [.v (vInt k)])) (h' : obj b' = some (.box [.v (vInt j)])) :
  ((∀ d ∈ l, pO 143 [.box [.v (vInt k)], .box [.v (vInt j)]] d = false) → sDel.app obj t [.msl nm n, .clo (.func 143) [] [.ref b 0, .ref b' 0]] = ⟨True, .msl nm l.length, obj⟩) ∧
  (¬ (∀ d ∈ l, pO 143 [.box [.v (vInt k)], .box [.v (vInt j)]] d = false) → sDel.app obj t [.msl nm n, .clo (.func 143) [] [.ref b 0, .ref b' 0]] = ⟨True, .v (.sl ((keepD (pO 143 [.box [.v (vInt k)], .box [.v (vInt j)]]) l).map encD)), upd obj nm (some (.farr 9 (delZ (pO 143 [.box [.v (vInt k)], .box [.v (vInt j)]]) l)))⟩) := by
 subst hn
 have hr := reach2 (n := l.length) (g := 143) (cs := [vInt k]) (cs' := [vInt j]) hb hb' hbb ho h h'
 have h1 : cOs obj [.msl nm l.length, .clo (.func 143) [] [.ref b 0, .ref b' 0]] = .arr 9 (l.map encD) :: [.box [.v (vInt k)], .box [.v (vInt j)]] := by
  unfold cOs
  rw [hr]
  simp only [List.map_cons, List.map_nil, canonO, ho, h, h', O.ren, D.renL, D.ren]
 have i1 : idx [nm, b, b'] b = 1 := by simp [idx, hb.symm]
 have i0 : idx [nm, b, b'] nm = 0 := by simp [idx]
 have i2 : idx [nm, b, b'] b' = 2 := by simp [idx, hb'.symm, hbb.symm]
 have h2 : cDs obj [.msl nm l.length, .clo (.func 143) [] [.ref b 0, .ref b' 0]] = [.msl [0, 1] l.length, .clo (.func 143) [] [.ref [1, 1] 0, .ref [2, 1] 0]] := by
  unfold cDs
  rw [hr]
  simp only [D.renL, D.ren, cin, i0, i1, i2]
 have hf : famO 143 [.box [.v (vInt k)], .box [.v (vInt j)]] [.ref [1, 1] 0, .ref [2, 1] 0] := .inr (.inl ⟨rfl, rfl, k, j, rfl⟩)
 have hpre : delC.pre (.arr 9 (l.map encD) :: [.box [.v (vInt k)], .box [.v (vInt j)]]) [.msl [0, 1] l.length, .clo (.func 143) [] [.ref [1, 1] 0, .ref [2, 1] 0]] := .inl ⟨l, 143, _, _, rfl, rfl, hf, hl⟩
 have e1 : ∀ o : Out, o.new = [] → (shut obj [nm, b, b'] && D.closL (inL [nm, b, b']) [.msl nm l.length, .clo (.func 143) [] [.ref b 0, .ref b' 0]] && fresh obj t o.new) = true := by
  intro o h0
  rw [h0]
  simp [shut, ho, h, h', O.clos, D.closL, D.clos, inL, fresh]
 constructor
 ·intro ha
  have hout : delC.out (.arr 9 (l.map encD) :: [.box [.v (vInt k)], .box [.v (vInt j)]]) [.msl [0, 1] l.length, .clo (.func 143) [] [.ref [1, 1] 0, .ref [2, 1] 0]] = ⟨[], [], .msl [0, 1] l.length⟩ := by
   rw [delC_out]; unfold delOut; rw [if_pos ha]
  unfold sDel
  simp only [CSpec.toSpec, h1, h2, hr, hout, e1 ⟨[], [], .msl [0, 1] l.length⟩ rfl, putU, putN, D.ren, cout, List.getD_cons_zero]
  congr 1
  simp only [eq_iff_iff, iff_true]
  exact ⟨trivial, hpre⟩
 ·intro ha
  have hout : delC.out (.arr 9 (l.map encD) :: [.box [.v (vInt k)], .box [.v (vInt j)]]) [.msl [0, 1] l.length, .clo (.func 143) [] [.ref [1, 1] 0, .ref [2, 1] 0]] = ⟨[(0, .farr 9 (delZ (pO 143 [.box [.v (vInt k)], .box [.v (vInt j)]]) l))], [], .v (.sl ((keepD (pO 143 [.box [.v (vInt k)], .box [.v (vInt j)]]) l).map encD))⟩ := by
   rw [delC_out]; unfold delOut; rw [if_neg ha]
  unfold sDel
  simp only [CSpec.toSpec, h1, h2, hr, hout, e1 ⟨[(0, .farr 9 (delZ (pO 143 [.box [.v (vInt k)], .box [.v (vInt j)]]) l))], [], .v (.sl ((keepD (pO 143 [.box [.v (vInt k)], .box [.v (vInt j)]]) l).map encD))⟩ rfl, putU, putN, D.ren, O.ren, List.getD_cons_zero]
  congr 1
  simp only [eq_iff_iff, iff_true]
  exact ⟨trivial, hpre⟩
theorem del_appN2 {obj : Name → Option O} {t b b' : Name} {k j : Int} (hbb : b' ≠ b) (h : obj b = some (.box [.v (vInt k)])) (h' : obj b' = some (.box [.v (vInt j)])) :
  sDel.app obj t [.nilsl, .clo (.func 143) [] [.ref b 0, .ref b' 0]] = ⟨True, .nilsl, obj⟩ := by
 have hr : reach obj [.nilsl, .clo (.func 143) [] [.ref b 0, .ref b' 0]] = [b, b'] := by
  have h0 : namesL [.nilsl, .clo (.func 143) [] [.ref b 0, .ref b' 0]] = [b, b'] := rfl
  have e3 : (b == b') = false := by simpa using fun e => hbb e.symm
  unfold reach
  rw [h0]
  show reachL obj (2997 + 1 + 1 + 1) [b, b'] [] = [b, b']
  simp only [reachL, inL, List.any_nil, Bool.false_eq_true, if_false, h, h', namesO, namesL, namesD, List.nil_append, List.any_cons, e3, Bool.or_self, List.cons_append]
 have h1 : cOs obj [.nilsl, .clo (.func 143) [] [.ref b 0, .ref b' 0]] = [.box [.v (vInt k)], .box [.v (vInt j)]] := by
  unfold cOs
  rw [hr]
  simp only [List.map_cons, List.map_nil, canonO, h, h', O.ren, D.renL, D.ren]
 have i0 : idx [b, b'] b = 0 := by simp [idx]
 have i1 : idx [b, b'] b' = 1 := by simp [idx, hbb.symm]
 have h2 : cDs obj [.nilsl, .clo (.func 143) [] [.ref b 0, .ref b' 0]] = [.nilsl, .clo (.func 143) [] [.ref [0, 1] 0, .ref [1, 1] 0]] := by
  unfold cDs
  rw [hr]
  simp only [D.renL, D.ren, cin, i0, i1]
 have hpre : delC.pre [.box [.v (vInt k)], .box [.v (vInt j)]] [.nilsl, .clo (.func 143) [] [.ref [0, 1] 0, .ref [1, 1] 0]] := .inr ⟨143, _, rfl, .inr (.inl ⟨rfl, rfl, k, j, rfl⟩)⟩
 have hout : delC.out [.box [.v (vInt k)], .box [.v (vInt j)]] [.nilsl, .clo (.func 143) [] [.ref [0, 1] 0, .ref [1, 1] 0]] = ⟨[], [], .nilsl⟩ := by
  simp only [delC]
 have e1 : (shut obj [b, b'] && D.closL (inL [b, b']) [.nilsl, .clo (.func 143) [] [.ref b 0, .ref b' 0]] && fresh obj t []) = true := by
  simp [shut, h, h', O.clos, D.closL, D.clos, inL, fresh]
 unfold sDel
 simp only [CSpec.toSpec, h1, h2, hr, hout, e1, putU, putN, D.ren]
 congr 1
 simp only [eq_iff_iff, iff_true]
 exact ⟨trivial, hpre⟩
def pLII (P : List Deed → Prop) (f : List Deed → Int → Int → V) (fl : Bool) : PSpec := ⟨fun xs => ∃ (l : List Deed) (k j : Int), xs = [.sl (l.map encD), vInt k, vInt j] ∧ P l, fun xs => match xs with | [.sl l, .int _ k, .int _ j] => f (l.map decD) k j | _ => .bool false, fl⟩
theorem pLII_fn (P : List Deed → Prop) (f : List Deed → Int → Int → V) (fl : Bool) (l : List Deed) (k j : Int) : (pLII P f fl).fn [.sl (l.map encD), vInt k, vInt j] = f l k j := by
 simp only [pLII, decD_map]
set_option maxHeartbeats 2000000 in
theorem s86 : PSound Tryz.prog 86 (pLII (fun l => l.length ≤ 60) (fun l lo pe => .sl ((thrL l lo pe).map encD)) false) := by
 refine psoundB (rs := [.tmp 6]) Tryz.func86 Tryz.ntmps86 (by rfl) (by kernel_rfl) (by decide) (fun h => by cases h) ⟨_, rfl, ?_⟩
 rintro xs ⟨l, k, j, rfl, hl⟩ hw
 refine ⟨lb rfl, ?_⟩
 rw [pLII_fn]
 have hk : keepD (pO 143 [.box [.v (vInt k)], .box [.v (vInt j)]]) l = thrL l k j := by unfold keepD thrL pO; simp
 have hΓ := K25_sound
 have hP := mixedK
 repeat refine sq ?_
 refine rs hΓ [0,4,5] [[4, 0], [5, 0]] ?_
 have hd := fun (obj : Name → Option O) (t : Name) (ho : obj [8, 0] = _) (h : obj [4, 0] = _) (h' : obj [5, 0] = _) => del_app2 (obj := obj) (t := t) (nm := [8, 0]) (b := [4, 0]) (b' := [5, 0]) (n := l.length) (l := l) (k := k) (j := j) (by omega) (by decide) (by decide) (by decide) ho rfl h h'
 have hn := fun (obj : Name → Option O) (t : Name) (h : obj [4, 0] = _) (h' : obj [5, 0] = _) => del_appN2 (obj := obj) (t := t) (b := [4, 0]) (b' := [5, 0]) (k := k) (j := j) (by decide) h h'
 rw [hk] at hd
 rcases l with _ | ⟨d0, l0⟩
 ·repeat refine sq ?_
  refine rx hΓ [6] [[8, 0]] (fun K' hK => by simp only [go_sem, cloneSpec, aClone, hn]; exact fin) ?_
  refine cl_ret ?_
  simp only [go_sem]
  rfl
 simp only [List.length_cons] at hd hl
 by_cases hall : ∀ d ∈ d0 :: l0, pO 143 [.box [.v (vInt k)], .box [.v (vInt j)]] d = false
 ·rw [← hk, keep_none hall]
  have hd1 := fun (obj : Name → Option O) (t : Name) ho h h' => (hd obj t ho h h').1 hall
  simp only [List.map_cons, encD] at hd1
  clear hd
  repeat refine sq ?_
  refine cl_rs hΓ [6] [[8, 0]] fun K' hK => ?_
  simp only [go_sem, cloneSpec, aClone, te22, tz35, hd1]
  repeat' apply And.intro
  all_goals first | rfl | omega | exact Int.le_refl _ | exact Bool.or_not_self _ | exact Bool.not_or_self _ | exact enc_okI _ | exact enc_ok _ | exact fun x hx => (enc_okI _ x hx).1 | exact fun x hx => (enc_ok _ x hx).1 | (simp only [List.length_take, List.length_append, List.length_map, List.length_drop, List.length_cons, List.length_nil]; done) | (simp only [List.length_take, List.length_append, List.length_map, List.length_drop, List.length_cons, List.length_nil]; omega) | (simp only [List.length_take, List.length_append, List.length_map, List.length_drop, List.length_cons, List.length_nil, maxLen]; omega) | (exact fun _ => by decide) | (exact fun h => ⟨h, by decide⟩) | (simp only [decide_eq_true_eq]; omega) | skip
  refine hK _ ?_ ?_ <;> clear K' hK <;> simp only [go_sem]
  exact rt
 ·have hd1 := fun (obj : Name → Option O) (t : Name) ho h h' => (hd obj t ho h h').2 hall
  simp only [List.map_cons, encD] at hd1
  clear hd
  repeat refine sq ?_
  refine cl_rs hΓ [6] [] fun K' hK => ?_
  simp only [go_sem, cloneSpec, aClone, te22, tz35, hd1]
  repeat' apply And.intro
  all_goals first | rfl | omega | exact Int.le_refl _ | exact Bool.or_not_self _ | exact Bool.not_or_self _ | exact enc_okI _ | exact enc_ok _ | exact fun x hx => (enc_okI _ x hx).1 | exact fun x hx => (enc_ok _ x hx).1 | (simp only [List.length_take, List.length_append, List.length_map, List.length_drop, List.length_cons, List.length_nil]; done) | (simp only [List.length_take, List.length_append, List.length_map, List.length_drop, List.length_cons, List.length_nil]; omega) | (simp only [List.length_take, List.length_append, List.length_map, List.length_drop, List.length_cons, List.length_nil, maxLen]; omega) | (exact fun _ => by decide) | (exact fun h => ⟨h, by decide⟩) | (simp only [decide_eq_true_eq]; omega) | skip
  refine hK _ ?_ ?_ <;> clear K' hK <;> simp only [go_sem]
  refine cl_ret ?_
  simp only [go_sem]
  all_goals rfl
def loM (l : List Deed) : Int := l.foldl (fun m d => if d.dl > m then d.dl else m) 0
def hiM (l : List Deed) : Int := l.foldl (fun m d => if d.dh < m then d.dh else m) 100000
theorem loM_next {l : List Deed} {i : Nat} (h : i < l.length) : loM (l.take (i + 1)) = if l[i].dl > loM (l.take i) then l[i].dl else loM (l.take i) := by
 unfold loM
 rw [List.take_add_one, List.getElem?_eq_getElem h, List.foldl_append]
 rfl
theorem hiM_next {l : List Deed} {i : Nat} (h : i < l.length) : hiM (l.take (i + 1)) = if l[i].dh < hiM (l.take i) then l[i].dh else hiM (l.take i) := by
 unfold hiM
 rw [List.take_add_one, List.getElem?_eq_getElem h, List.foldl_append]
 rfl
def pLN (f : List Deed → Nat → V) : PSpec := ⟨fun xs => ∃ (l : List Deed) (n : Nat), xs = [.sl (l.map encD), vInt n] ∧ n < l.length, fun xs => match xs with | [.sl l, .int _ n] => f (l.map decD) n.toNat | _ => .bool false, true⟩
theorem pLN_fn (f : List Deed → Nat → V) (l : List Deed) (n : Nat) : (pLN f).fn [.sl (l.map encD), vInt n] = f l n := by
 simp only [pLN, decD_map, Int.toNat_natCast]
set_option maxHeartbeats 2000000 in
theorem s88 : PSound Tryz.prog 88 (pLN fun l n => vInt (loM (l.take (n + 1)))) := by
 refine psoundB (rs := [.tmp 4]) Tryz.func88 Tryz.ntmps88 (by rfl) (by kernel_rfl) (by decide) (by rintro _ xs ⟨l, n, rfl, _⟩; rfl) ⟨_, rfl, ?_⟩
 rintro xs ⟨l, n, rfl, hn⟩ hw
 have hl : l.length ≤ maxLen := by have := hw.1.1; simpa using this
 refine ⟨lb rfl, ?_⟩
 rw [pLN_fn]
 have hΓ := @no_sound Tryz.prog
 have hn1 : ((n + 1 : Nat) : Int) ≤ l.length := by omega
 have e2 : (List.map encD l).take (n + 1) = (l.take (n + 1)).map encD := List.map_take.symm
 obtain ⟨r, hr, hrm⟩ : ∃ r, r = l.take (n + 1) ∧ r.length ≤ maxLen := ⟨_, rfl, by simp; omega⟩
 rw [← hr] at e2 ⊢
 repeat refine sq ?_
 refine rs hΓ [0,1] [] ?_
 repeat refine sq ?_
 refine rs hΓ [0,1,5] [] ?_
 repeat refine sq ?_
 refine cl_rs hΓ [5,11,12,13] [] fun K' hK => ?_
 simp only [go_sem, wrap_succ hn hl, Int.toNat_natCast, Int.natCast_nonneg, hn1, e2, te116]
 repeat' apply And.intro
 all_goals first | rfl | omega | exact Int.le_refl _ | exact Bool.or_not_self _ | exact Bool.not_or_self _ | exact enc_okI _ | exact enc_ok _ | exact fun x hx => (enc_okI _ x hx).1 | exact fun x hx => (enc_ok _ x hx).1 | (simp only [List.length_take, List.length_append, List.length_map, List.length_drop, List.length_cons, List.length_nil]; done) | (simp only [List.length_take, List.length_append, List.length_map, List.length_drop, List.length_cons, List.length_nil]; omega) | (simp only [List.length_take, List.length_append, List.length_map, List.length_drop, List.length_cons, List.length_nil, maxLen]; omega) | (exact fun _ => by decide) | (exact fun h => ⟨h, by decide⟩) | (simp only [decide_eq_true_eq]; omega) | skip
 refine hK _ ?_ ?_ <;> clear K' hK <;> simp only [go_sem]
 repeat refine sq ?_
 refine cl_block ?_
 repeat refine sq ?_
 refine cl_loop' (fun s : Nat => [(5, ⟨true, .v (vInt (loM (r.take s)))⟩), (13, ⟨true, .v (vInt s)⟩)]) (fun s => []) (fun s => s ≤ r.length) (fun s => r.length - s) 0 ?_ ?_ ?_ ?_
 ·exact Nat.zero_le _
 ·rfl
 ·rfl
 rintro i hi
 simp only [go_sem]
 repeat refine sq ?_
 refine rs hΓ [5,11,12,13,14] [] ?_
 repeat refine sq ?_
 refine cl_cond rfl rfl (fun hb => ?_) fun hb => ?_
 ·have hlt : i < r.length := by simpa using hb
  have hlt' : (i : Int) < r.length := by omega
  clear hb
  repeat refine sq ?_
  refine cl_skip ?_
  repeat refine sq ?_
  refine cl_block ?_
  repeat refine sq ?_
  refine rx hΓ [5,7,11,12,13] [[7, 0]] (fun K' hK => by simp only [go_sem, map_getD hlt, Int.toNat_natCast, Int.natCast_nonneg, hlt']; exact fin) ?_
  repeat refine sq ?_
  refine re hΓ [5,11,12,13] [] (fun _ h => h) ?_
  repeat refine sq ?_
  refine cl_r hΓ fun K' hK => ?_
  simp only [go_sem]
  repeat refine ⟨ob, ?_⟩
  refine hK _ ?_
  clear K' hK
  simp only [go_sem]
  refine ⟨i + 1, hlt, (show r.length - (i + 1) < r.length - i by omega), ?_⟩
  rw [loM_next hlt]
  refine weak_eq [5,11,12,13] [] ?_ ?_ <;> simp only [go_sem, wrap_succ hlt hrm, Int.natCast_add, Int.natCast_one]
 ·have hge : i = r.length := by
   have : ¬ (i : Int) < r.length := by simpa using hb
   omega
  subst hge
  clear hb
  repeat refine sq ?_
  refine cl_exit ?_
  simp only [go_sem]
  refine cl_keep [5] [] ?_ ?_ <;> simp only [go_sem]
  rw [List.take_length]
  repeat refine sq ?_
  refine rs hΓ [4] [] ?_
  exact rt
set_option maxHeartbeats 2000000 in
theorem s89 : PSound Tryz.prog 89 (pLN fun l n => vInt (hiM (l.drop n))) := by
 refine psoundB (rs := [.tmp 4]) Tryz.func89 Tryz.ntmps89 (by rfl) (by kernel_rfl) (by decide) (by rintro _ xs ⟨l, n, rfl, _⟩; rfl) ⟨_, rfl, ?_⟩
 rintro xs ⟨l, n, rfl, hn⟩ hw
 have hl : l.length ≤ maxLen := by have := hw.1.1; simpa using this
 refine ⟨lb rfl, ?_⟩
 rw [pLN_fn]
 have hΓ := @no_sound Tryz.prog
 have hn1 : (n : Int) ≤ l.length := by omega
 have e2 : (List.map encD l).drop n = (l.drop n).map encD := List.map_drop.symm
 have e3 : List.take (l.length - n) ((l.drop n).map encD) = (l.drop n).map encD := List.take_of_length_le (by simp)
 obtain ⟨r, hr, hrm⟩ : ∃ r, r = l.drop n ∧ r.length ≤ maxLen := ⟨_, rfl, by simp; omega⟩
 rw [← hr] at e2 e3 ⊢
 repeat refine sq ?_
 refine rs hΓ [0,1] [] ?_
 repeat refine sq ?_
 refine rs hΓ [0,1,5] [] ?_
 repeat refine sq ?_
 refine cl_rs hΓ [5,10,11,12] [] fun K' hK => ?_
 simp only [go_sem, Int.toNat_natCast, Int.natCast_nonneg, hn1, e2, e3, te116]
 repeat' apply And.intro
 all_goals first | rfl | omega | exact Int.le_refl _ | exact Bool.or_not_self _ | exact Bool.not_or_self _ | exact enc_okI _ | exact enc_ok _ | exact fun x hx => (enc_okI _ x hx).1 | exact fun x hx => (enc_ok _ x hx).1 | (simp only [List.length_take, List.length_append, List.length_map, List.length_drop, List.length_cons, List.length_nil]; done) | (simp only [List.length_take, List.length_append, List.length_map, List.length_drop, List.length_cons, List.length_nil]; omega) | (simp only [List.length_take, List.length_append, List.length_map, List.length_drop, List.length_cons, List.length_nil, maxLen]; omega) | (exact fun _ => by decide) | (exact fun h => ⟨h, by decide⟩) | (simp only [decide_eq_true_eq]; omega) | skip
 refine hK _ ?_ ?_ <;> clear K' hK <;> simp only [go_sem]
 repeat refine sq ?_
 refine cl_block ?_
 repeat refine sq ?_
 refine cl_loop' (fun s : Nat => [(5, ⟨true, .v (vInt (hiM (r.take s)))⟩), (12, ⟨true, .v (vInt s)⟩)]) (fun s => []) (fun s => s ≤ r.length) (fun s => r.length - s) 0 ?_ ?_ ?_ ?_
 ·exact Nat.zero_le _
 ·rfl
 ·rfl
 rintro i hi
 simp only [go_sem]
 repeat refine sq ?_
 refine rs hΓ [5,10,11,12,13] [] ?_
 repeat refine sq ?_
 refine cl_cond rfl rfl (fun hb => ?_) fun hb => ?_
 ·have hlt : i < r.length := by simpa using hb
  have hlt' : (i : Int) < r.length := by omega
  clear hb
  repeat refine sq ?_
  refine cl_skip ?_
  repeat refine sq ?_
  refine cl_block ?_
  repeat refine sq ?_
  refine rx hΓ [5,7,10,11,12] [[7, 0]] (fun K' hK => by simp only [go_sem, map_getD hlt, Int.toNat_natCast, Int.natCast_nonneg, hlt']; exact fin) ?_
  repeat refine sq ?_
  refine re hΓ [5,10,11,12] [] (fun _ h => h) ?_
  repeat refine sq ?_
  refine cl_r hΓ fun K' hK => ?_
  simp only [go_sem]
  repeat refine ⟨ob, ?_⟩
  refine hK _ ?_
  clear K' hK
  simp only [go_sem]
  refine ⟨i + 1, hlt, (show r.length - (i + 1) < r.length - i by omega), ?_⟩
  rw [hiM_next hlt]
  refine weak_eq [5,10,11,12] [] ?_ ?_ <;> simp only [go_sem, wrap_succ hlt hrm, Int.natCast_add, Int.natCast_one]
 ·have hge : i = r.length := by
   have : ¬ (i : Int) < r.length := by simpa using hb
   omega
  subst hge
  clear hb
  repeat refine sq ?_
  refine cl_exit ?_
  simp only [go_sem]
  refine cl_keep [5] [] ?_ ?_ <;> simp only [go_sem]
  rw [List.take_length]
  repeat refine sq ?_
  refine rs hΓ [4] [] ?_
  exact rt
noncomputable def contV (l : List Deed) (k : Int) : V := if (confP (countL l k)).isSome then .tup [.sl [], vInt 13] else .tup [.sl ((countL l k).map encD), vInt 0]
theorem s83 : PSound Tryz.prog 83 (pLI okL contV false) := by
 refine psoundB (rs := [.tmp 4, .tmp 5]) Tryz.func83 Tryz.ntmps83 (by rfl) (by kernel_rfl) (by decide) (fun h => by cases h) ⟨_, rfl, ?_⟩
 rintro xs ⟨l, k, rfl, hok⟩ hw
 refine ⟨lb rfl, ?_⟩
 rw [pLI_fn]
 have hΓ := K30_sound
 have hc := fun (obj : Name → Option O) (t : Name) (f : List Deed → Int → V) (fl : Bool) => sLI_app (P := okL) (f := f) (fl := fl) (obj := obj) (t := t) (k := k) hok
 have hf := fun (obj : Name → Option O) (t : Name) (f : List Deed → V) (c : List Deed) => sL_app (P := fun _ => True) (f := f) (obj := obj) (t := t) (l := c) trivial
 repeat refine sq ?_
 refine rs hΓ [0,1] [] ?_
 repeat refine sq ?_
 refine rx hΓ [6] [] (fun K' hK => by simp only [go_sem, hc]; exact fin) ?_
 repeat refine sq ?_
 refine rx hΓ [6,8] [] (fun K' hK => by simp only [go_sem, hf, confV_eq]; exact fin) ?_
 repeat refine sq ?_
 refine rs hΓ [6,17] [] ?_
 repeat refine sq ?_
 refine cl_cond rfl rfl (fun hb => ?_) fun hb => ?_
 ·repeat refine sq ?_
  refine rs hΓ [4,5] [] ?_
  refine cl_ret ?_
  simp only [go_sem]
  unfold contV; rw [if_pos hb]
 ·repeat refine sq ?_
  refine cl_skip ?_
  repeat refine sq ?_
  refine rs hΓ [4,5] [] ?_
  refine cl_ret ?_
  simp only [go_sem]
  unfold contV; rw [if_neg (by simp [hb])]
noncomputable def sLII (P : List Deed → Prop) (f : List Deed → Int → Int → V) (fl : Bool) : Spec := (pLII P f fl).toSpec
theorem sLII_app {P : List Deed → Prop} {f : List Deed → Int → Int → V} {fl : Bool} {obj : Name → Option O} {t : Name} {l : List Deed} {k j : Int} (h : P l) : (sLII P f fl).app obj t [.v (.sl (l.map encD)), .v (vInt k), .v (vInt j)] = ⟨True, .v (f l k j), obj⟩ := by
 simp only [sLII, PSpec.toSpec, frzL, frz, pLII_fn, ite_self]
 congr 1
 simp only [eq_iff_iff, iff_true]
 exact ⟨⟨trivial, trivial, trivial, trivial⟩, l, k, j, rfl, h⟩
noncomputable def sLN (f : List Deed → Nat → V) : Spec := (pLN f).toSpec
theorem sLN_app {f : List Deed → Nat → V} {obj : Name → Option O} {t : Name} {l : List Deed} {n : Nat} (h : n < l.length) : (sLN f).app obj t [.v (.sl (l.map encD)), .v (vInt n)] = ⟨True, .v (f l n), obj⟩ := by
 simp only [sLN, PSpec.toSpec, frzL, frz, pLN_fn]
 simp only [pLN, if_true]
 congr 1
 simp only [eq_iff_iff, iff_true]
 exact ⟨⟨trivial, trivial, trivial⟩, l, n, rfl, h⟩
def trueP (q : Deed → Deed → Bool) (c : List Deed) (ds : List Int) : Prop :=
 ds.length = c.length ∧ ∀ i (h : i < c.length) (h' : i < ds.length), inI ds[i] c[i].dl c[i].dh = true ∧ ∀ k (hk : k < i), (q c[k] c[i] && decide (ds[k] > ds[i])) = false
open Classical in
noncomputable def trueB (q : Deed → Deed → Bool) (c : List Deed) (ds : List Int) : Bool := decide (trueP q c ds)
def q1 (a b : Deed) : Bool := isOfB b a.lo a.pe
theorem trueP_congr {p q : Deed → Deed → Bool} {c : List Deed} {ds : List Int} (h : ∀ a ∈ c, ∀ b ∈ c, p a b = q a b) : trueP p c ds ↔ trueP q c ds := by
 unfold trueP
 refine and_congr Iff.rfl (forall_congr' fun i => forall_congr' fun hi => forall_congr' fun hi' => and_congr Iff.rfl (forall_congr' fun k => forall_congr' fun hk => ?_))
 rw [h _ (List.getElem_mem _) _ (List.getElem_mem _)]
def sIn : Spec := sIII fun a b c => .bool (inI a b c)
theorem pIn_is : pIn = pIII fun a b c => .bool (inI a b c) := rfl
theorem s151' : SSound Tryz.prog 151 sIn := by have := s151; rw [pIn_is] at this; exact this.sound
theorem s79' : SSound Tryz.prog 79 sIn := by have := s79; rw [pIn_is] at this; exact this.sound
theorem sIn_app {obj : Name → Option O} {t : Name} {a b c : Int} : sIn.app obj t [.v (vInt a), .v (vInt b), .v (vInt c)] = ⟨True, .v (.bool (inI a b c)), obj⟩ := sIII_app
noncomputable def K40 : FuncId → Option Spec := fun f => match f with
 | 151 => some sIn
 | 79 => some sIn
 | 144 => some (sDII fun d k j => .bool (isOfB d k j))
 | _ => none
theorem K40_sound : ∀ f s, K40 f = some s → SSound Tryz.prog f s := by
 intro f s h
 unfold K40 at h
 split at h
 ·cases h; exact s151'
 ·cases h; exact s79'
 ·cases h; exact s144.sound
 ·cases h
@[go_sem] theorem K40_151 : K40 151 = some sIn := rfl
@[go_sem] theorem K40_79 : K40 79 = some sIn := rfl
@[go_sem] theorem K40_144 : K40 144 = some (sDII fun d k j => .bool (isOfB d k j)) := rfl
theorem trueB_not {q : Deed → Deed → Bool} {c : List Deed} {ds : List Int} (h : ¬ trueP q c ds) : trueB q c ds = false := by unfold trueB; simp [h]
theorem trueB_yes {q : Deed → Deed → Bool} {c : List Deed} {ds : List Int} (h : trueP q c ds) : trueB q c ds = true := by unfold trueB; simp [h]
set_option maxHeartbeats 8000000 in
theorem s118 : PSound Tryz.prog 118 (pDays fun c ds => .bool (trueB q1 c ds)) := by
 refine psoundB (rs := [.tmp 4]) Tryz.func118 Tryz.ntmps118 (by rfl) (by kernel_rfl) (by decide) (by rintro _ xs ⟨l, g, rfl⟩; rfl) ⟨_, rfl, ?_⟩
 rintro xs ⟨c, ds, rfl⟩ hw
 have hl : c.length ≤ maxLen := by have := hw.1.1; simpa using this
 refine ⟨lb rfl, ?_⟩
 rw [pDays_fn]
 have hΓ := K40_sound
 have hP := mixedK
 have hin := fun (obj : Name → Option O) (t : Name) (a b c : Int) => sIn_app (obj := obj) (t := t) (a := a) (b := b) (c := c)
 repeat refine sq ?_
 refine rs hΓ [0,1] [] ?_
 repeat refine sq ?_
 refine rs hΓ [0,1,12] [] ?_
 repeat refine sq ?_
 refine cl_cond rfl rfl (fun hb => ?_) fun hb => ?_
 ·repeat refine sq ?_
  refine rs hΓ [4] [] ?_
  refine cl_ret ?_
  simp only [go_sem]
  have hne : ds.length ≠ c.length := by
   have : ((ds.length : Int) != (c.length : Int)) = true := hb
   simp at this; omega
  rw [trueB_not fun h => hne h.1]
 have hlen : ds.length = c.length := by
  have : ((ds.length : Int) != (c.length : Int)) = false := hb
  simp at this; omega
 clear hb
 repeat refine sq ?_
 refine cl_skip ?_
 repeat refine sq ?_
 refine rs hΓ [0,1,13,14,15] [] ?_
 repeat refine sq ?_
 refine cl_block ?_
 repeat refine sq ?_
 refine cl_loop' (fun s : Nat => [(15, ⟨true, .v (vInt s)⟩)]) (fun s => []) (fun s => s ≤ c.length ∧ ∀ i (h : i < c.length) (h' : i < ds.length), i < s → inI ds[i] c[i].dl c[i].dh = true ∧ ∀ k (hk : k < i), (q1 c[k] c[i] && decide (ds[k] > ds[i])) = false) (fun s => c.length - s) 0 ?_ ?_ ?_ ?_
 ·exact ⟨Nat.zero_le _, fun i h h' hj => by omega⟩
 ·rfl
 ·rfl
 rintro i ⟨hi, hz⟩
 simp only [go_sem]
 repeat refine sq ?_
 refine rs hΓ [0,1,13,14,15,16] [] ?_
 repeat refine sq ?_
 refine cl_cond rfl rfl (fun hb => ?_) fun hb => ?_
 ·have hlt : i < c.length := by simpa using hb
  have hlt' : (i : Int) < c.length := by omega
  clear hb
  repeat refine sq ?_
  refine cl_skip ?_
  repeat refine sq ?_
  refine cl_block ?_
  repeat refine sq ?_
  have hds : i < ds.length := by omega
  have hds' : (i : Int) < ds.length := by omega
  repeat refine sq ?_
  refine rx hΓ [0,1,5,6,13,14,15] [[6, 0]] (fun K' hK => by simp only [go_sem, map_getD hlt, Int.toNat_natCast, Int.natCast_nonneg, hlt']; exact fin) ?_
  repeat refine sq ?_
  refine cl_ds hΓ hP [[], [], [0, 1], [0, 1, 2], [], [4], [4, 5], [], [7], [7, 8], [0, 1, 2, 3, 4, 5, 6, 7, 8, 9], [0, 1, 2, 3, 4, 5, 6, 7, 8, 9, 10]] [0,1,5,6,13,14,15,31] [[6, 0]] (by kernel_rfl) fun K' hK => ?_
  simp only [go_sem, map_getD hds, Int.toNat_natCast, Int.natCast_nonneg, hds', hin]
  repeat refine ⟨ob, ?_⟩
  first | refine ⟨by rfl, ?_⟩ | skip
  refine hK _ ?_ ?_ <;> clear K' hK <;> simp only [go_sem, map_getD hds, Int.toNat_natCast, Int.natCast_nonneg, hds', hin]
  repeat refine sq ?_
  refine cl_cond rfl rfl (fun hb => ?_) fun hb => ?_
  ·repeat refine sq ?_
   refine rs hΓ [4] [] ?_
   refine cl_ret ?_
   simp only [go_sem]
   rw [trueB_not fun h => by
    have h1 := (h.2 i hlt hds).1
    rw [h1] at hb; cases hb]
  have hin1 : inI ds[i] c[i].dl c[i].dh = true := by simpa using hb
  clear hb
  repeat refine sq ?_
  refine cl_skip ?_
  repeat refine sq ?_
  refine rs hΓ [0,1,5,6,13,14,15,32,33] [[6, 0]] ?_
  repeat refine sq ?_
  refine cl_block ?_
  repeat refine sq ?_
  refine cl_loop' (fun s : Nat => [(33, ⟨true, .v (vInt s)⟩)]) (fun s => []) (fun s => s ≤ i ∧ ∀ k (hk : k < i), k < s → (q1 c[k] c[i] && decide (ds[k] > ds[i])) = false) (fun s => i - s) 0 ?_ ?_ ?_ ?_
  ·exact ⟨Nat.zero_le _, fun k hk h => by omega⟩
  ·rfl
  ·rfl
  rintro j ⟨hj, hzj⟩
  simp only [go_sem]
  repeat refine sq ?_
  refine rs hΓ [0,1,5,6,13,14,15,32,33,34] [[6, 0]] ?_
  repeat refine sq ?_
  refine cl_cond rfl rfl (fun hb => ?_) fun hb => ?_
  ·have hlt : j < i := by simpa using hb
   have hlt' : (j : Int) < i := by omega
   clear hb
   repeat refine sq ?_
   refine cl_skip ?_
   repeat refine sq ?_
   refine cl_block ?_
   repeat refine sq ?_
   have hjc : j < c.length := by omega
   have hjc' : (j : Int) < c.length := by omega
   have hjd : j < ds.length := by omega
   have hjd' : (j : Int) < ds.length := by omega
   have hic : i < c.length := by omega
   have hcc := fun (g : Deed → Int → Int → V) (obj : Name → Option O) (t : Name) (n m : Int) => sDII_app (g := g) (obj := obj) (t := t) (k := n) (j := m) (d := c[i]) (dx := rdD c[i]) rfl
   unfold rdD at hcc
   repeat refine sq ?_
   refine rs hΓ [0,1,5,6,7,13,14,15,32,33] [[6, 0]] ?_
   repeat refine sq ?_
   refine cl_ds hΓ hP [[], [], [], [1, 2], [1, 2, 3], [1, 2, 3, 4], [], [], [6, 7], [6, 7, 8], [6, 7, 8, 9], [0, 1, 2, 3, 4, 5, 6, 7, 8, 9, 10], [0, 1, 2, 3, 4, 5, 6, 7, 8, 9, 10, 11], [0, 1, 2, 3, 4, 5, 6, 7, 8, 9, 10, 11, 12], [0, 1, 2, 3, 4, 5, 6, 7, 8, 9, 10, 11, 12], [0, 1, 2, 3, 4, 5, 6, 7, 8, 9, 10, 11, 12, 13, 14], [0, 1, 2, 3, 4, 5, 6, 7, 8, 9, 10, 11, 12, 13, 14, 15], [0, 1, 2, 3, 4, 5, 6, 7, 8, 9, 10, 11, 12], [0, 1, 2, 3, 4, 5, 6, 7, 8, 9, 10, 11, 12], [0, 1, 2, 3, 4, 5, 6, 7, 8, 9, 10, 11, 12, 17, 18], [0, 1, 2, 3, 4, 5, 6, 7, 8, 9, 10, 11, 12, 17, 18, 19], [0, 1, 2, 3, 4, 5, 6, 7, 8, 9, 10, 11, 12, 13, 14, 15, 16, 17, 18, 19, 20], [0, 1, 2, 3, 4, 5, 6, 7, 8, 9, 10, 11, 12, 13, 14, 15, 16, 17, 18, 19, 20, 21]] [0,1,5,6,13,14,15,32,33,58] [[6, 0]] (by kernel_rfl) fun K' hK => ?_
   simp only [go_sem, map_getD hjc, map_getD hjd, map_getD hds, Int.toNat_natCast, Int.natCast_nonneg, hjc', hjd', hds', hcc]
   repeat refine ⟨ob, ?_⟩
   first | refine ⟨by rfl, ?_⟩ | skip
   refine hK _ ?_ ?_ <;> clear K' hK <;> simp only [go_sem, map_getD hjc, map_getD hjd, map_getD hds, Int.toNat_natCast, Int.natCast_nonneg, hjc', hjd', hds', hcc]
   repeat refine sq ?_
   refine cl_cond rfl rfl (fun hb => ?_) fun hb => ?_
   ·repeat refine sq ?_
    refine rs hΓ [4] [] ?_
    refine cl_ret ?_
    simp only [go_sem]
    rw [trueB_not fun h => by
     have h1 := (h.2 i hic hds).2 j hlt
     have h2 : (q1 c[j] c[i] && decide (ds[j] > ds[i])) = true := hb
     rw [h1] at h2; cases h2]
   ·have hn : (q1 c[j] c[i] && decide (ds[j] > ds[i])) = false := hb
    clear hb
    repeat refine sq ?_
    refine cl_skip ?_
    refine cl_nil ?_
    simp only [go_sem]
    refine cl_keep [0,1,5,6,13,14,15,32,33] [[6, 0]] ?_ ?_ <;> simp only [go_sem]
    repeat refine sq ?_
    refine cl_r hΓ fun K' hK => ?_
    simp only [go_sem]
    repeat refine ⟨ob, ?_⟩
    refine hK _ ?_
    clear K' hK
    simp only [go_sem]
    refine ⟨j + 1, ⟨hlt, fun k hk h => ?_⟩, (show i - (j + 1) < i - j by omega), ?_⟩
    ·by_cases e : k = j
     ·subst e; exact hn
     ·exact hzj k hk (by omega)
    refine weak_eq [0,1,5,6,13,14,15,32,33] [[6, 0]] ?_ ?_ <;> simp only [go_sem, wrap_succ hlt (show i ≤ maxLen by omega), Int.natCast_add, Int.natCast_one]
  ·have hge : j = i := by
    have : ¬ (j : Int) < i := by simpa using hb
    omega
   subst hge
   clear hb
   repeat refine sq ?_
   refine cl_exit ?_
   simp only [go_sem]
   refine cl_keep [0,1,13,14,15] [] ?_ ?_ <;> simp only [go_sem]
   repeat refine sq ?_
   refine cl_r hΓ fun K' hK => ?_
   simp only [go_sem]
   repeat refine ⟨ob, ?_⟩
   refine hK _ ?_
   clear K' hK
   simp only [go_sem]
   refine ⟨j + 1, ⟨by omega, fun i' h h' hi' => ?_⟩, (show c.length - (j + 1) < c.length - j by omega), ?_⟩
   ·by_cases e : i' = j
    ·subst e; exact ⟨hin1, fun k hk => hzj k hk hk⟩
    ·exact hz i' h h' (by omega)
   refine weak_eq [0,1,13,14,15] [] ?_ ?_ <;> simp only [go_sem, wrap_succ (show j < c.length by omega) hl, Int.natCast_add, Int.natCast_one]
 ·have hge : i = c.length := by
   have : ¬ (i : Int) < c.length := by simpa using hb
   omega
  subst hge
  clear hb
  repeat refine sq ?_
  refine cl_exit ?_
  simp only [go_sem]
  refine cl_keep [] [] ?_ ?_ <;> simp only [go_sem]
  repeat refine sq ?_
  refine rs hΓ [4] [] ?_
  refine cl_ret ?_
  simp only [go_sem]
  rw [trueB_yes ⟨hlen, fun i h h' => hz i h h' h⟩]
noncomputable def sDays2 (f : List Deed → List Int → V) : Spec := (pDays f).toSpec
theorem sDays2_app {f : List Deed → List Int → V} {obj : Name → Option O} {t : Name} {l : List Deed} {ds : List Int} : (sDays2 f).app obj t [.v (.sl (l.map encD)), .v (.sl (ds.map vInt))] = ⟨True, .v (f l ds), obj⟩ := by
 simp only [sDays2, PSpec.toSpec, frzL, frz, pDays_fn]
 simp only [pDays, if_true]
 congr 1
 simp only [eq_iff_iff, iff_true]
 exact ⟨⟨trivial, trivial, trivial⟩, l, ds, rfl⟩
theorem day_of {d : Deed} (h : isDeedB d = true) : 0 ≤ d.dl ∧ d.dl ≤ d.dh ∧ d.dh ≤ 100000 := by
 have : inI d.dl 0 d.dh = true ∧ inI d.dh 0 100000 = true := by
  unfold isDeedB at h
  grind
 simp only [inI_iff] at this
 omega
@[go_sem] theorem ta137 : tAgg Tryz.prog 137 = some (true, 3) := by kernel_rfl
@[go_sem] theorem tp137 : tPlaces Tryz.prog 137 = some [(0, 1), (1, 1), (2, 1)] := by kernel_rfl
@[go_sem] theorem tz137 : tZero Tryz.prog 137 = some (.agg #[(.int .i64 0), (.int .i64 0), (.bool false)]) := by kernel_rfl
@[go_sem] theorem tf137_0 : tField Tryz.prog 137 0 = some (0, 1, false) := by kernel_rfl
@[go_sem] theorem tf137_1 : tField Tryz.prog 137 1 = some (1, 1, false) := by kernel_rfl
@[go_sem] theorem tf137_2 : tField Tryz.prog 137 2 = some (2, 1, false) := by kernel_rfl
@[go_sem] theorem ta183 : tAgg Tryz.prog 183 = some (false, 1) := by kernel_rfl
@[go_sem] theorem tl183 : tLen Tryz.prog 183 = some 2 := by kernel_rfl
@[go_sem] theorem tz183 : tZero Tryz.prog 183 = some (.map none) := by kernel_rfl
@[go_sem] theorem tm183 : tMap Tryz.prog 183 = some (0, 185) := by kernel_rfl
@[go_sem] theorem ta185 : tAgg Tryz.prog 185 = some (false, 1) := by kernel_rfl
@[go_sem] theorem tz185 : tZero Tryz.prog 185 = some .nilFunc := by kernel_rfl
structure Sta where
 h : Int
 n : Int
 o : Bool
 deriving DecidableEq
def encS (s : Sta) : V := .agg [vInt s.h, vInt s.n, .bool s.o]
def zeroS : Sta := ⟨0, 0, false⟩
def doS (k : Int) (s : Sta) (p : Int) : Sta :=
 if k = 1 then ⟨0, 0, true⟩ else if k = 3 then ⟨p, p, false⟩ else if k = 4 then (if s.h = 0 then s else ⟨s.h, p, false⟩) else if k = 5 then ⟨s.h, s.h, false⟩ else ⟨0, 0, false⟩
def pSt (f : Sta → Int → Sta) : PSpec := ⟨fun xs => ∃ s p, xs = [encS s, vInt p], fun xs => match xs with | [.agg [.int _ h, .int _ n, .bool o], .int _ p] => encS (f ⟨h, n, o⟩ p) | _ => .bool false, true⟩
theorem pSt_fn (f : Sta → Int → Sta) (s : Sta) (p : Int) : (pSt f).fn [encS s, vInt p] = encS (f s p) := rfl
noncomputable def K0n : FuncId → Option Spec := fun _ => none
theorem K0n_sound : ∀ f s, K0n f = some s → SSound Tryz.prog f s := fun _ _ h => by cases h
theorem s170 : PSound Tryz.prog 170 (pSt (doS 1)) := by
 refine psoundB (rs := [.cell 4 137]) Tryz.func170 Tryz.ntmps170 (by rfl) (by kernel_rfl) (by decide) (by rintro _ xs ⟨s, p, rfl⟩; rfl) ⟨_, rfl, ?_⟩
 rintro xs ⟨⟨h, n, o⟩, p, rfl⟩ _
 refine ⟨lb rfl, ?_⟩
 rw [pSt_fn]
 have hΓ := K0n_sound
 simp only [encS]
 repeat refine sq ?_
 refine rx hΓ [4] [[4, 0]] (fun K' hK => by simp only [go_sem, tz137]; exact fin) ?_
 repeat refine sq ?_
 refine rx hΓ [4] [[4, 0]] (fun K' hK => by simp only [go_sem, tz137, tp137, Nat.reduceLeDiff, Nat.le_refl]; exact fin) ?_
 refine cl_ret ?_
 simp only [go_sem]
 all_goals first | done | rfl | exact ⟨by decide, rfl⟩ | exact ⟨by decide, trivial⟩ | decide
theorem s171 : PSound Tryz.prog 171 (pSt (doS 2)) := by
 refine psoundB (rs := [.cell 4 137]) Tryz.func171 Tryz.ntmps171 (by rfl) (by kernel_rfl) (by decide) (by rintro _ xs ⟨s, p, rfl⟩; rfl) ⟨_, rfl, ?_⟩
 rintro xs ⟨⟨h, n, o⟩, p, rfl⟩ _
 refine ⟨lb rfl, ?_⟩
 rw [pSt_fn]
 have hΓ := K0n_sound
 simp only [encS]
 repeat refine sq ?_
 refine rx hΓ [4] [[4, 0]] (fun K' hK => by simp only [go_sem, tz137]; exact fin) ?_
 repeat refine sq ?_
 refine rx hΓ [4] [[4, 0]] (fun K' hK => by simp only [go_sem, tz137, tp137, Nat.reduceLeDiff, Nat.le_refl]; exact fin) ?_
 refine cl_ret ?_
 simp only [go_sem]
 all_goals first | done | rfl | exact ⟨by decide, rfl⟩ | exact ⟨by decide, trivial⟩ | decide
theorem s172 : PSound Tryz.prog 172 (pSt (doS 3)) := by
 refine psoundB (rs := [.cell 4 137]) Tryz.func172 Tryz.ntmps172 (by rfl) (by kernel_rfl) (by decide) (by rintro _ xs ⟨s, p, rfl⟩; rfl) ⟨_, rfl, ?_⟩
 rintro xs ⟨⟨h, n, o⟩, p, rfl⟩ _
 refine ⟨lb rfl, ?_⟩
 rw [pSt_fn]
 have hΓ := K0n_sound
 simp only [encS]
 repeat refine sq ?_
 refine rx hΓ [1,4] [[4, 0]] (fun K' hK => by simp only [go_sem, tz137]; exact fin) ?_
 repeat refine sq ?_
 refine rx hΓ [4] [[4, 0]] (fun K' hK => by simp only [go_sem, tz137, tp137, Nat.reduceLeDiff, Nat.le_refl]; exact fin) ?_
 refine cl_ret ?_
 simp only [go_sem]
 all_goals first | done | rfl | exact ⟨by decide, rfl⟩ | exact ⟨by decide, trivial⟩ | decide
theorem s173 : PSound Tryz.prog 173 (pSt (doS 4)) := by
 refine psoundB (rs := [.cell 4 137]) Tryz.func173 Tryz.ntmps173 (by rfl) (by kernel_rfl) (by decide) (by rintro _ xs ⟨s, p, rfl⟩; rfl) ⟨_, rfl, ?_⟩
 rintro xs ⟨⟨h, n, o⟩, p, rfl⟩ _
 refine ⟨lb rfl, ?_⟩
 rw [pSt_fn]
 have hΓ := K0n_sound
 simp only [encS]
 repeat refine sq ?_
 refine rx hΓ [1,2,4] [[2, 0],[4, 0]] (fun K' hK => by simp only [go_sem, tz137]; exact fin) ?_
 repeat refine sq ?_
 refine rs hΓ [1,2,4,7] [[2, 0],[4, 0]] ?_
 repeat refine sq ?_
 refine cl_cond rfl rfl (fun hb => ?_) fun hb => ?_
 ·have hh : h = 0 := by simpa using hb
  repeat refine sq ?_
  refine rx hΓ [4] [[4, 0]] (fun K' hK => by simp only [go_sem, tz137, tp137, Nat.reduceLeDiff, Nat.le_refl]; exact fin) ?_
  refine cl_ret ?_
  simp only [go_sem]
  subst hh
  all_goals first | done | rfl | exact ⟨by decide, rfl⟩ | exact ⟨by decide, trivial⟩ | decide
 ·have hh : ¬ h = 0 := by simpa using hb
  have e : doS 4 ⟨h, n, o⟩ p = ⟨h, p, false⟩ := by simp [doS, hh]
  rw [e]
  repeat refine sq ?_
  refine cl_skip ?_
  repeat refine sq ?_
  refine rx hΓ [4] [[4, 0]] (fun K' hK => by simp only [go_sem, tz137, tp137, Nat.reduceLeDiff, Nat.le_refl]; exact fin) ?_
  refine cl_ret ?_
  simp only [go_sem]
  all_goals first | done | rfl | exact ⟨by decide, rfl⟩ | exact ⟨by decide, trivial⟩ | decide
theorem s174 : PSound Tryz.prog 174 (pSt (doS 5)) := by
 refine psoundB (rs := [.cell 4 137]) Tryz.func174 Tryz.ntmps174 (by rfl) (by kernel_rfl) (by decide) (by rintro _ xs ⟨s, p, rfl⟩; rfl) ⟨_, rfl, ?_⟩
 rintro xs ⟨⟨h, n, o⟩, p, rfl⟩ _
 refine ⟨lb rfl, ?_⟩
 rw [pSt_fn]
 have hΓ := K0n_sound
 simp only [encS]
 repeat refine sq ?_
 refine rx hΓ [2,4] [[2, 0],[4, 0]] (fun K' hK => by simp only [go_sem, tz137]; exact fin) ?_
 repeat refine sq ?_
 refine rx hΓ [4] [[4, 0]] (fun K' hK => by simp only [go_sem, tz137, tp137, Nat.reduceLeDiff, Nat.le_refl]; exact fin) ?_
 refine cl_ret ?_
 simp only [go_sem]
 all_goals first | done | rfl | exact ⟨by decide, rfl⟩ | exact ⟨by decide, trivial⟩ | decide
theorem s175 : PSound Tryz.prog 175 (pSt (doS 6)) := by
 refine psoundB (rs := [.cell 4 137]) Tryz.func175 Tryz.ntmps175 (by rfl) (by kernel_rfl) (by decide) (by rintro _ xs ⟨s, p, rfl⟩; rfl) ⟨_, rfl, ?_⟩
 rintro xs ⟨⟨h, n, o⟩, p, rfl⟩ _
 refine ⟨lb rfl, ?_⟩
 rw [pSt_fn]
 have hΓ := K0n_sound
 simp only [encS]
 repeat refine sq ?_
 refine rx hΓ [4] [[4, 0]] (fun K' hK => by simp only [go_sem, tz137]; exact fin) ?_
 repeat refine sq ?_
 refine rx hΓ [4] [[4, 0]] (fun K' hK => by simp only [go_sem, tz137, tp137, Nat.reduceLeDiff, Nat.le_refl]; exact fin) ?_
 refine cl_ret ?_
 simp only [go_sem]
 all_goals first | done | rfl | exact ⟨by decide, rfl⟩ | exact ⟨by decide, trivial⟩ | decide
def doesM : List (V × V) := [(vInt 1, .clo (.func 170) [] []), (vInt 2, .clo (.func 171) [] []), (vInt 3, .clo (.func 172) [] []), (vInt 4, .clo (.func 173) [] []), (vInt 5, .clo (.func 174) [] []), (vInt 6, .clo (.func 175) [] [])]
theorem mset6 : mset (mset (mset (mset (mset (mset [] (vInt 1) (.clo (.func 170) [] [])) (vInt 2) (.clo (.func 171) [] [])) (vInt 3) (.clo (.func 172) [] [])) (vInt 4) (.clo (.func 173) [] [])) (vInt 5) (.clo (.func 174) [] [])) (vInt 6) (.clo (.func 175) [] []) = doesM := rfl
def doesC : CSpec := ⟨fun os ds => os = [] ∧ ds = [], fun _ _ => ⟨[], [([1, 0], .map 0 doesM)], .map [1, 0]⟩⟩
def sDoes : Spec := doesC.toSpec
theorem s156 : SSound Tryz.prog 156 sDoes := by
 refine csound (nt := 3) (rs := [.tmp 0]) Tryz.func156 rfl (by rfl) (by kernel_rfl) (enter_of Tryz.func156 rfl (by kernel_rfl)) (notYid _ (by decide)) ?_
 rintro os ds ⟨rfl, rfl⟩
 refine ⟨Nat.zero_le _, cl_of ?_⟩
 have hΓ := K0n_sound
 have hO1 : ∀ hs, OutC [0] (domOf [0] hs) (outH []) = True := fun hs => eq_true (outC_outs (by simp) hs)
 have hH : outH [] = fun _ => none := by funext nm; unfold outH; split <;> rfl
 rw [hH]
 repeat refine sq ?_
 refine rs hΓ [] [] ?_
 repeat refine sq ?_
 refine rx hΓ [0] [[1, 0]] (fun K' hK => by simp only [go_sem, keyIs, mset6]; exact fin) ?_
 refine cl_ret ?_
 simp only [go_sem, doesC, newsOk]
 all_goals first | done | rfl | exact ⟨by decide, rfl⟩ | exact ⟨by decide, trivial⟩
theorem sDoes_app {obj : Name → Option O} {t : Name} (h : obj (1 :: 0 :: t) = none) : sDoes.app obj t [] = ⟨True, .map (1 :: 0 :: t), upd obj (1 :: 0 :: t) (some (.map 0 doesM))⟩ := by
 have hr : reach obj [] = [] := rfl
 have h1 : cOs obj [] = [] := rfl
 have h2 : cDs obj [] = [] := rfl
 simp only [sDoes, CSpec.toSpec, h1, h2, hr, doesC, putN, putU, D.ren, O.ren, cout]
 have e1 : (shut obj [] && D.closL (inL []) [] && fresh obj t [([1, 0], .map 0 doesM)]) = true := by
  simp [shut, D.closL, fresh, h]
 rw [e1]
 simp only [and_self, List.cons_append, List.nil_append]
noncomputable def sSt (f : Sta → Int → Sta) : Spec := (pSt f).toSpec
theorem sSt_app {f : Sta → Int → Sta} {obj : Name → Option O} {t : Name} {h n p : Int} {o : Bool} : (sSt f).app obj t [.agg [.v (vInt h), .v (vInt n), .v (.bool o)], .v (vInt p)] = ⟨True, .v (encS (f ⟨h, n, o⟩ p)), obj⟩ := by
 have e : frzL (frz 6) obj [.agg [.v (vInt h), .v (vInt n), .v (.bool o)], .v (vInt p)] = ⟨True, [encS ⟨h, n, o⟩, vInt p], obj⟩ := by
  simp [frzL, frz, D.one, V.one, encS]
 simp only [sSt, PSpec.toSpec, e, pSt_fn]
 simp only [pSt, if_true]
 congr 1
 simp only [eq_iff_iff, iff_true]
 exact ⟨trivial, _, _, rfl⟩
def stA (l : List Deed) (n : Nat) : Sta := (l.take n).foldl (fun s d => doS d.ki s d.pe) zeroS
theorem stA_succ {l : List Deed} {n : Nat} (h : n < l.length) : stA l (n + 1) = doS l[n].ki (stA l n) l[n].pe := by
 unfold stA
 rw [List.take_add_one, List.getElem?_eq_getElem h, List.foldl_append]
 rfl
def kindOk (d : Deed) : Prop := 1 ≤ d.ki ∧ d.ki ≤ 6
noncomputable def K45 : FuncId → Option Spec := fun f => match f with
 | 156 => some sDoes
 | 170 => some (sSt (doS 1))
 | 171 => some (sSt (doS 2))
 | 172 => some (sSt (doS 3))
 | 173 => some (sSt (doS 4))
 | 174 => some (sSt (doS 5))
 | 175 => some (sSt (doS 6))
 | _ => none
theorem K45_sound : ∀ f s, K45 f = some s → SSound Tryz.prog f s := by
 intro f s h
 unfold K45 at h
 split at h
 ·cases h; exact s156
 ·cases h; exact s170.sound
 ·cases h; exact s171.sound
 ·cases h; exact s172.sound
 ·cases h; exact s173.sound
 ·cases h; exact s174.sound
 ·cases h; exact s175.sound
 ·cases h
@[go_sem] theorem K45_156 : K45 156 = some sDoes := rfl
theorem does_at {k : Int} (h : 1 ≤ k ∧ k ≤ 6) : ∃ g, mget doesM (vInt k) = some (.clo (.func g) [] []) ∧ K45 g = some (sSt (doS k)) ∧ ¬ g = 1000000000 := by
 obtain ⟨h1, h2⟩ := h
 have : k = 1 ∨ k = 2 ∨ k = 3 ∨ k = 4 ∨ k = 5 ∨ k = 6 := by omega
 rcases this with rfl | rfl | rfl | rfl | rfl | rfl
 ·exact ⟨170, rfl, rfl, by decide⟩
 ·exact ⟨171, rfl, rfl, by decide⟩
 ·exact ⟨172, rfl, rfl, by decide⟩
 ·exact ⟨173, rfl, rfl, by decide⟩
 ·exact ⟨174, rfl, rfl, by decide⟩
 ·exact ⟨175, rfl, rfl, by decide⟩
set_option maxHeartbeats 8000000 in
theorem s167 : PSound Tryz.prog 167 ⟨fun xs => ∃ (l : List Deed) (n : Nat), xs = [.sl (l.map encD), vInt n] ∧ n ≤ l.length ∧ ∀ d ∈ l, kindOk d, fun xs => match xs with | [.sl l, .int _ n] => encS (stA (l.map decD) n.toNat) | _ => .bool false, true⟩ := by
 refine psoundB (rs := [.cell 4 137]) Tryz.func167 Tryz.ntmps167 (by rfl) (by kernel_rfl) (by decide) (by rintro _ xs ⟨l, n, rfl, _⟩; rfl) ⟨_, rfl, ?_⟩
 rintro xs ⟨l, n, rfl, hn, hk⟩ hw
 have hl : l.length ≤ maxLen := by have := hw.1.1; simpa using this
 refine ⟨lb rfl, ?_⟩
 simp only [decD_map, Int.toNat_natCast]
 have hΓ := K45_sound
 have hP := mixedK
 have hn' : (n : Int) ≤ l.length := by omega
 have e2 : (List.map encD l).take n = (l.take n).map encD := List.map_take.symm
 obtain ⟨r, hr, hrm, hrk, hrs⟩ : ∃ r, r = l.take n ∧ r.length ≤ maxLen ∧ (∀ d ∈ r, kindOk d) ∧ stA l n = stA r r.length := ⟨_, rfl, by simp; omega, fun d hd => hk d (List.mem_of_mem_take hd), by unfold stA; rw [List.take_length]⟩
 rw [← hr] at e2
 rw [hrs]
 repeat refine sq ?_
 refine rx hΓ [0,1,4] [[4, 0]] (fun K' hK => by simp only [go_sem, tz137]; exact fin) ?_
 repeat refine sq ?_
 refine rx hΓ [0,1,4,5] [[4, 0],[5, 0]] (fun K' hK => by simp only [go_sem, tz137]; exact fin) ?_
 repeat refine sq ?_
 refine rx hΓ [0,1,4,5,6] [[4, 0],[5, 0],[1, 0, 9, 0]] (fun K' hK => by simp only [go_sem, sDoes_app]; exact fin) ?_
 repeat refine sq ?_
 refine cl_rs hΓ [4,5,6,12,13,14] [[4, 0],[5, 0],[1, 0, 9, 0]] fun K' hK => ?_
 simp only [go_sem, Int.toNat_natCast, Int.natCast_nonneg, hn', e2, te116]
 repeat' apply And.intro
 all_goals first | rfl | omega | exact Int.le_refl _ | exact Bool.or_not_self _ | exact Bool.not_or_self _ | exact enc_okI _ | exact enc_ok _ | exact fun x hx => (enc_okI _ x hx).1 | exact fun x hx => (enc_ok _ x hx).1 | (simp only [List.length_take, List.length_append, List.length_map, List.length_drop, List.length_cons, List.length_nil]; done) | (simp only [List.length_take, List.length_append, List.length_map, List.length_drop, List.length_cons, List.length_nil]; omega) | (simp only [List.length_take, List.length_append, List.length_map, List.length_drop, List.length_cons, List.length_nil, maxLen]; omega) | (exact fun _ => by decide) | (exact fun h => ⟨h, by decide⟩) | (simp only [decide_eq_true_eq]; omega) | skip
 refine hK _ ?_ ?_ <;> clear K' hK <;> simp only [go_sem]
 repeat refine sq ?_
 refine cl_block ?_
 repeat refine sq ?_
 refine cl_loop' (fun s : Nat => [(14, ⟨true, .v (vInt s)⟩)]) (fun s => [([5, 0], .box [.v (vInt (stA r s).h), .v (vInt (stA r s).n), .v (.bool (stA r s).o)])]) (fun s => s ≤ r.length) (fun s => r.length - s) 0 ?_ ?_ ?_ ?_
 ·exact Nat.zero_le _
 ·rfl
 ·rfl
 rintro i hi
 simp only [go_sem]
 repeat refine sq ?_
 refine rs hΓ [4,5,6,12,13,14,15] [[4, 0],[5, 0],[1, 0, 9, 0]] ?_
 repeat refine sq ?_
 refine cl_cond rfl rfl (fun hb => ?_) fun hb => ?_
 ·have hlt : i < r.length := by simpa using hb
  have hlt' : (i : Int) < r.length := by omega
  clear hb
  repeat refine sq ?_
  refine cl_skip ?_
  repeat refine sq ?_
  refine cl_block ?_
  repeat refine sq ?_
  refine rx hΓ [4,5,6,8,12,13,14] [[4, 0],[5, 0],[8, 0],[1, 0, 9, 0]] (fun K' hK => by simp only [go_sem, map_getD hlt, Int.toNat_natCast, Int.natCast_nonneg, hlt']; exact fin) ?_
  obtain ⟨g, hg1, hg2, hg3⟩ := does_at (hrk _ (List.getElem_mem hlt))
  repeat refine sq ?_
  refine cl_r hΓ fun K' hK => ?_
  simp only [go_sem, tz185, hg1, hg2, hg3, keyIs, Option.getD_some, sSt_app, encS]
  repeat refine ⟨ob, ?_⟩
  refine hK _ ?_
  clear K' hK
  simp only [go_sem]
  refine cl_keep [4,5,6,12,13,14] [[4, 0],[5, 0],[1, 0, 9, 0]] ?_ ?_ <;> simp only [go_sem]
  repeat refine sq ?_
  refine cl_r hΓ fun K' hK => ?_
  simp only [go_sem]
  repeat refine ⟨ob, ?_⟩
  refine hK _ ?_
  clear K' hK
  simp only [go_sem]
  refine ⟨i + 1, hlt, (show r.length - (i + 1) < r.length - i by omega), ?_⟩
  rw [stA_succ hlt]
  refine weak_eq [4,5,6,12,13,14] [[4, 0],[5, 0],[1, 0, 9, 0]] ?_ ?_ <;> simp only [go_sem, wrap_succ hlt hrm, Int.natCast_add, Int.natCast_one]
 ·have hge : i = r.length := by
   have : ¬ (i : Int) < r.length := by simpa using hb
   omega
  subst hge
  clear hb
  repeat refine sq ?_
  refine cl_exit ?_
  simp only [go_sem]
  refine cl_keep [4,5] [[4, 0],[5, 0]] ?_ ?_ <;> simp only [go_sem]
  repeat refine sq ?_
  refine rx hΓ [4] [[4, 0]] (fun K' hK => by simp only [go_sem, tp137, Nat.reduceLeDiff, Nat.le_refl]; exact fin) ?_
  refine cl_ret ?_
  simp only [go_sem]
  all_goals first | done | rfl | exact ⟨by decide, rfl⟩ | exact ⟨by decide, trivial⟩ | decide
def mayB (l : List Deed) (n : Nat) (day : Int) : Bool := (n == 0 || decide (loM (l.take n) ≤ day)) && (n == l.length || decide (hiM (l.drop n) > day))
def pLNI (f : List Deed → Nat → Int → V) : PSpec := ⟨fun xs => ∃ (l : List Deed) (n : Nat) (k : Int), xs = [.sl (l.map encD), vInt n, vInt k] ∧ n ≤ l.length, fun xs => match xs with | [.sl l, .int _ n, .int _ k] => f (l.map decD) n.toNat k | _ => .bool false, true⟩
theorem pLNI_fn (f : List Deed → Nat → Int → V) (l : List Deed) (n : Nat) (k : Int) : (pLNI f).fn [.sl (l.map encD), vInt n, vInt k] = f l n k := by
 simp only [pLNI, decD_map, Int.toNat_natCast]
noncomputable def K46 : FuncId → Option Spec := fun f => match f with
 | 88 => some (sLN fun l n => vInt (loM (l.take (n + 1))))
 | 89 => some (sLN fun l n => vInt (hiM (l.drop n)))
 | _ => none
theorem K46_sound : ∀ f s, K46 f = some s → SSound Tryz.prog f s := by
 intro f s h
 unfold K46 at h
 split at h
 ·cases h; exact s88.sound
 ·cases h; exact s89.sound
 ·cases h
@[go_sem] theorem K46_88 : K46 88 = some (sLN fun l n => vInt (loM (l.take (n + 1)))) := rfl
@[go_sem] theorem K46_89 : K46 89 = some (sLN fun l n => vInt (hiM (l.drop n))) := rfl
theorem wrap_pred {n : Nat} (h : ¬ n = 0) (hn : n ≤ maxLen) : IntKind.i64.wrap ((n : Int) - 1) = ((n - 1 : Nat) : Int) := by
 unfold maxLen at hn
 rw [wrap_i64 (by omega) (by omega)]
 omega
set_option maxHeartbeats 8000000 in
theorem s166 : PSound Tryz.prog 166 (pLNI fun l n k => .bool (mayB l n k)) := by
 refine psoundB (rs := [.tmp 6]) Tryz.func166 Tryz.ntmps166 (by rfl) (by kernel_rfl) (by decide) (by rintro _ xs ⟨l, n, k, rfl, _⟩; rfl) ⟨_, rfl, ?_⟩
 rintro xs ⟨l, n, k, rfl, hn⟩ hw
 have hl : l.length ≤ maxLen := by have := hw.1.1; simpa using this
 refine ⟨lb rfl, ?_⟩
 rw [pLNI_fn]
 have hΓ := K46_sound
 have hf := fun (f : List Deed → Nat → V) (obj : Name → Option O) (t : Name) (n : Nat) (h : n < l.length) => sLN_app (f := f) (obj := obj) (t := t) (l := l) (n := n) h
 repeat refine sq ?_
 refine rs hΓ [0,1,2] [] ?_
 have hend : ∀ b : Bool, (n = 0 ∨ ¬ n = 0 ∧ loM (l.take n) ≤ k) → mayB l n k = (n == l.length || decide (hiM (l.drop n) > k)) := by
  intro _ h
  unfold mayB
  rcases h with h | ⟨_, h⟩
  ·simp [h]
  ·simp [h]
 by_cases h0 : n = 0
 ·have e1 : mayB l n k = (n == l.length || decide (hiM (l.drop n) > k)) := hend true (.inl h0)
  have e0 : ((n : Int) == 0) = true := by simp [h0]
  by_cases h1 : n = l.length
  ·have e2 : ((n : Int) == (l.length : Int)) = true := by simp [h1]
   have e3 : mayB l n k = true := by rw [e1]; simp [h1]
   rw [e3]
   repeat refine sq ?_
   refine rx hΓ [6] [] (fun K' hK => by simp only [go_sem, e0, e2]; exact fin) ?_
   exact rt
  ·have e2 : ((n : Int) == (l.length : Int)) = false := by simpa using fun h => h1 (by omega)
   have e3 : mayB l n k = decide (hiM (l.drop n) > k) := by rw [e1]; simp [h1]
   have hlt : n < l.length := by omega
   rw [e3]
   repeat refine sq ?_
   refine rx hΓ [6] [] (fun K' hK => by simp only [go_sem, e0, e2, hf _ _ _ _ hlt]; exact fin) ?_
   exact rt
 ·have e0 : ((n : Int) == 0) = false := by simp [h0]
  have hlt0 : n - 1 < l.length := by omega
  have e4 : n - 1 + 1 = n := by omega
  by_cases h2 : loM (l.take n) ≤ k
  ·have e1 : mayB l n k = (n == l.length || decide (hiM (l.drop n) > k)) := hend true (.inr ⟨h0, h2⟩)
   by_cases h1 : n = l.length
   ·have e2 : ((n : Int) == (l.length : Int)) = true := by simp [h1]
    have e3 : mayB l n k = true := by rw [e1]; simp [h1]
    rw [e3]
    repeat refine sq ?_
    refine rx hΓ [6] [] (fun K' hK => by simp only [go_sem, e0, e2, wrap_pred h0 (Nat.le_trans hn hl), hf _ _ _ _ hlt0, e4, h2, decide_true]; exact fin) ?_
    exact rt
   ·have e2 : ((n : Int) == (l.length : Int)) = false := by simpa using fun h => h1 (by omega)
    have e3 : mayB l n k = decide (hiM (l.drop n) > k) := by rw [e1]; simp [h1]
    have hlt : n < l.length := by omega
    rw [e3]
    repeat refine sq ?_
    refine rx hΓ [6] [] (fun K' hK => by simp only [go_sem, e0, e2, wrap_pred h0 (Nat.le_trans hn hl), hf _ _ _ _ hlt0, hf _ _ _ _ hlt, e4, h2, decide_true]; exact fin) ?_
    exact rt
  ·have e3 : mayB l n k = false := by unfold mayB; simp [h0, h2]
   rw [e3]
   repeat refine sq ?_
   refine rx hΓ [6] [] (fun K' hK => by simp only [go_sem, e0, wrap_pred h0 (Nat.le_trans hn hl), hf _ _ _ _ hlt0, e4, h2, decide_false]; exact fin) ?_
   exact rt
def pS1 (f : Sta → V) : PSpec := ⟨fun xs => ∃ s, xs = [encS s], fun xs => match xs with | [.agg [.int _ h, .int _ n, .bool o]] => f ⟨h, n, o⟩ | _ => .bool false, true⟩
theorem s92 : PSound Tryz.prog 92 (pS1 fun s => vInt s.h) := by
 refine psoundB (rs := [.tmp 2]) Tryz.func92 Tryz.ntmps92 (by rfl) (by kernel_rfl) (by decide) (by rintro _ xs ⟨s, rfl⟩; rfl) ⟨_, rfl, ?_⟩
 rintro xs ⟨⟨h, n, o⟩, rfl⟩ _
 refine ⟨lb rfl, ?_⟩
 simp only [encS]
 have hΓ := K0n_sound
 repeat refine sq ?_
 refine rs hΓ [1] [[1, 0]] ?_
 repeat refine sq ?_
 refine rs hΓ [2] [] ?_
 refine cl_ret ?_
 simp only [go_sem]
 rfl
theorem s93 : PSound Tryz.prog 93 (pS1 fun s => vInt s.n) := by
 refine psoundB (rs := [.tmp 2]) Tryz.func93 Tryz.ntmps93 (by rfl) (by kernel_rfl) (by decide) (by rintro _ xs ⟨s, rfl⟩; rfl) ⟨_, rfl, ?_⟩
 rintro xs ⟨⟨h, n, o⟩, rfl⟩ _
 refine ⟨lb rfl, ?_⟩
 simp only [encS]
 have hΓ := K0n_sound
 repeat refine sq ?_
 refine rs hΓ [1] [[1, 0]] ?_
 repeat refine sq ?_
 refine rs hΓ [2] [] ?_
 refine cl_ret ?_
 simp only [go_sem]
 rfl
noncomputable def askV (l : List Deed) (day k : Int) : V := if daysI l [day, k] = 0 then contV l k else .tup [.sl [], vInt (daysI l [day, k])]
theorem sDaysI_two {obj : Name → Option O} {t : Name} {l : List Deed} {a b : Int} : sDaysI.app obj t [.v (.sl (l.map encD)), .v (.sl [vInt a, vInt b])] = ⟨True, .v (vInt (daysI l [a, b])), obj⟩ := sDaysI_app (ds := [a, b])
theorem contV_ex (l : List Deed) (k : Int) : ∃ (x : List Deed) (e : Int), contV l k = .tup [.sl (x.map encD), vInt e] := by
 unfold contV
 split
 ·exact ⟨[], _, rfl⟩
 ·exact ⟨_, _, rfl⟩
def isLockB (n : Int) : Bool := inI n 1 3
noncomputable def K48 : FuncId → Option Spec := fun f => match f with
 | 39 => some sChk
 | 145 => some (pInt isLockB)
 | 132 => some (sIdxI fun p l => .bool (l.any p))
 | 70 => some sDaysI
 | 83 => some (sLI okL contV false)
 | 86 => some (sLII (fun l => l.length ≤ 60) (fun l lo pe => .sl ((thrL l lo pe).map encD)) false)
 | _ => none
theorem K48_sound : ∀ f s, K48 f = some s → SSound Tryz.prog f s := by
 intro f s h
 unfold K48 at h
 split at h
 ·cases h; exact s39'
 ·cases h; exact s145.sound
 ·cases h; exact s132.sound
 ·cases h; exact s70.sound
 ·cases h; exact s83.sound
 ·cases h; exact s86.sound
 ·cases h
@[go_sem] theorem K48_39 : K48 39 = some sChk := rfl
@[go_sem] theorem K48_145 : K48 145 = some (pInt isLockB) := rfl
@[go_sem] theorem K48_132 : K48 132 = some (sIdxI fun p l => .bool (l.any p)) := rfl
@[go_sem] theorem K48_70 : K48 70 = some sDaysI := rfl
@[go_sem] theorem K48_83 : K48 83 = some (sLI okL contV false) := rfl
@[go_sem] theorem K48_86 : K48 86 = some (sLII (fun l => l.length ≤ 60) (fun l lo pe => .sl ((thrL l lo pe).map encD)) false) := rfl
set_option maxHeartbeats 4000000 in
theorem s110 : PSound Tryz.prog 110 (pLII (fun _ => True) askV false) := by
 refine psoundB (rs := [.tmp 6, .tmp 7]) Tryz.func110 Tryz.ntmps110 (by rfl) (by kernel_rfl) (by decide) (fun h => by cases h) ⟨_, rfl, ?_⟩
 rintro xs ⟨l, day, k, rfl, _⟩ hw
 refine ⟨lb rfl, ?_⟩
 rw [pLII_fn]
 have hΓ := K48_sound
 repeat refine sq ?_
 refine rs hΓ [0,1,2] [] ?_
 repeat refine sq ?_
 refine rx hΓ [0,2,8] [] (fun K' hK => by simp only [go_sem, sDaysI_two]; exact fin) ?_
 repeat refine sq ?_
 refine rs hΓ [0,2,8,15] [] ?_
 repeat refine sq ?_
 refine cl_cond rfl rfl (fun hb => ?_) fun hb => ?_
 ·repeat refine sq ?_
  have hn : ¬ daysI l [day, k] = 0 := by simpa using hb
  repeat refine sq ?_
  refine rs hΓ [6,7] [] ?_
  refine cl_ret ?_
  simp only [go_sem]
  unfold askV; rw [if_neg hn]
 ·have hz : daysI l [day, k] = 0 := by simpa using hb
  have hok := days_ok hz
  obtain ⟨x, e, he⟩ := contV_ex l k
  have hc := fun (obj : Name → Option O) (t : Name) (f : List Deed → Int → V) (fl : Bool) => sLI_app (P := okL) (f := f) (fl := fl) (obj := obj) (t := t) (k := k) hok
  have hv : askV l day k = .tup [.sl (x.map encD), vInt e] := by unfold askV; rw [if_pos hz, he]
  rw [hv]
  repeat refine sq ?_
  refine cl_skip ?_
  repeat refine sq ?_
  refine rx hΓ [6,7] [] (fun K' hK => by simp only [go_sem, hc, he]; exact fin) ?_
  exact rt
@[go_sem] theorem ta85 : tAgg Tryz.prog 85 = some (true, 2) := by kernel_rfl
@[go_sem] theorem tp85 : tPlaces Tryz.prog 85 = some [(0, 1), (1, 1)] := by kernel_rfl
@[go_sem] theorem tz85 : tZero Tryz.prog 85 = some (.agg #[(.int .i64 0), (.int .i64 0)]) := by kernel_rfl
@[go_sem] theorem tf85_0 : tField Tryz.prog 85 0 = some (0, 1, false) := by kernel_rfl
@[go_sem] theorem tf85_1 : tField Tryz.prog 85 1 = some (1, 1, false) := by kernel_rfl
@[go_sem] theorem ta132 : tAgg Tryz.prog 132 = some (false, 1) := by kernel_rfl
@[go_sem] theorem te132 : tElem Tryz.prog 132 = some (85, 2, 16) := by kernel_rfl
@[go_sem] theorem tl132 : tLen Tryz.prog 132 = some 0 := by kernel_rfl
@[go_sem] theorem tz132 : tZero Tryz.prog 132 = some (.slice none 0 0) := by kernel_rfl
def thrB (lock : Int) (d : Deed) : Bool := !offB d.ki && d.lo == lock
def offpB (pe : Int) (d : Deed) : Bool := offB d.ki && d.pe == pe
@[go_sem] theorem ta48 : tAgg Tryz.prog 48 = some (true, 4) := by kernel_rfl
@[go_sem] theorem tf48_0 : tField Tryz.prog 48 0 = some (0, 1, false) := by kernel_rfl
@[go_sem] theorem tf48_1 : tField Tryz.prog 48 1 = some (1, 1, false) := by kernel_rfl
@[go_sem] theorem tf48_2 : tField Tryz.prog 48 2 = some (2, 1, false) := by kernel_rfl
@[go_sem] theorem tf48_3 : tField Tryz.prog 48 3 = some (3, 1, false) := by kernel_rfl
structure Aska where
 lo : Int
 pe : Int
 da : Int
 kn : Int
def thB (p : Deed → Bool) : Prop := ∀ d o, isDeedB d = true → isDeedB o = true → p d = true → sameThB d o = p o
theorem thrB_of (lock : Int) (hl : 1 ≤ lock) : thB (thrB lock) := by
 intro d o hd ho hp
 have h2 := valid_kind ho
 unfold thrB at hp ⊢
 unfold sameThB
 simp only [Bool.and_eq_true, Bool.not_eq_true', beq_iff_eq] at hp
 rw [if_neg (by rw [hp.1]; decide), hp.2]
 rcases h2 with ⟨h2, h4, _⟩ | ⟨h2, h4⟩
 ·rw [h2, h4]
  have : (lock == (0 : Int)) = false := by simp; omega
  rw [this]; rfl
 ·rw [h2]; simp; exact Bool.beq_comm ..
theorem offpB_of (pe : Int) : thB (offpB pe) := by
 intro d o hd ho hp
 unfold offpB at hp ⊢
 unfold sameThB
 simp only [Bool.and_eq_true, beq_iff_eq] at hp
 rw [if_pos hp.1, hp.2]
 congr 1
 exact Bool.beq_comm ..
theorem thrL_lock {c : List Deed} (hv : ∀ d ∈ c, isDeedB d = true) {lock : Int} (hl : 1 ≤ lock) : thrL c lock 0 = c.filter (thrB lock) := by
 unfold thrL
 refine List.filter_congr fun d hd => ?_
 have h2 := valid_kind (hv d hd)
 unfold isOfB thrB
 rw [if_pos (by omega)]
 rcases h2 with ⟨h2, h4, _⟩ | ⟨h2, h4⟩
 ·rw [h2, h4]
  have : ((0 : Int) == lock) = false := by simp; omega
  rw [this]; rfl
 ·rw [h2]; simp
theorem thrL_pers {c : List Deed} (hv : ∀ d ∈ c, isDeedB d = true) (pe : Int) : thrL c 0 pe = c.filter (offpB pe) := by
 unfold thrL
 refine List.filter_congr fun d hd => ?_
 have h2 := valid_kind (hv d hd)
 unfold isOfB offpB
 rw [if_neg (by omega)]
 rcases h2 with ⟨h2, h4, _⟩ | ⟨h2, h4⟩
 ·rw [h2, h4]; simp
 ·rw [h2]
  have : (d.lo == (0 : Int)) = false := by simp; omega
  rw [this]
theorem kind_of {d : Deed} (h : isDeedB d = true) : kindOk d := by
 unfold isDeedB at h
 unfold kindOk
 grind
theorem loM_le {day : Int} : ∀ {X : List Deed}, 0 ≤ day → (∀ d ∈ X, d.dl ≤ day) → loM X ≤ day := by
 intro X h0 h
 have : ∀ (X : List Deed) (m : Int), m ≤ day → (∀ d ∈ X, d.dl ≤ day) → X.foldl (fun m d => if d.dl > m then d.dl else m) m ≤ day := by
  intro X
  induction X with
  | nil => intro m hm _; exact hm
  | cons o r ih =>
   intro m hm h
   rw [List.foldl_cons]
   refine ih _ ?_ fun d hd => h d (by simp [hd])
   have := h o (by simp)
   split <;> omega
 exact this X 0 h0 h
theorem hiM_le {day : Int} {X : List Deed} (h : hiM X ≤ day) : 100000 ≤ day ∨ ∃ d ∈ X, d.dh ≤ day := by
 have : ∀ (X : List Deed) (m : Int), X.foldl (fun m d => if d.dh < m then d.dh else m) m ≤ day → m ≤ day ∨ ∃ d ∈ X, d.dh ≤ day := by
  intro X
  induction X with
  | nil => intro m hm; exact .inl hm
  | cons o r ih =>
   intro m h
   rw [List.foldl_cons] at h
   rcases ih _ h with h1 | ⟨d, hd, h1⟩
   ·split at h1
    ·exact .inr ⟨o, by simp, h1⟩
    ·exact .inl h1
   ·exact .inr ⟨d, by simp [hd], h1⟩
 exact this X 100000 h
def evenT (t : List Deed) : Prop := ∀ i k (hi : i < t.length) (hk : k < t.length), i ≤ k → t[i].dl ≤ t[k].dh
theorem may_some {t : List Deed} (ht : evenT t) (hv : ∀ d ∈ t, d.dl ≤ d.dh ∧ d.dh ≤ 100000) {day : Int} (h0 : 0 ≤ day) : ∃ n, n ≤ t.length ∧ mayB t n day = true := by
 have key : ∀ m, m ≤ t.length → (∃ n, n ≤ t.length ∧ mayB t n day = true) ∨ ∀ i (hi : i < t.length), i < m → t[i].dl ≤ day := by
  intro m
  induction m with
  | zero => exact fun _ => .inr fun i hi h => by omega
  | succ m ih =>
   intro hm
   rcases ih (by omega) with h | h
   ·exact .inl h
   have hlo : loM (t.take m) ≤ day := loM_le h0 fun d hd => by
    obtain ⟨i, hi, rfl⟩ := List.getElem_of_mem hd
    rw [List.getElem_take]
    simp at hi
    exact h i (by omega) (by omega)
   by_cases hh : hiM (t.drop m) > day
   ·refine .inl ⟨m, by omega, ?_⟩
    unfold mayB
    simp [hlo, hh]
   ·refine .inr fun i hi hi' => ?_
    by_cases hi2 : i < m
    ·exact h i hi hi2
    rcases hiM_le (Int.not_lt.1 hh) with h1 | ⟨d, hd, h1⟩
    ·have := hv _ (List.getElem_mem hi)
     omega
    ·obtain ⟨k, hk, rfl⟩ := List.getElem_of_mem hd
     rw [List.getElem_drop] at h1
     simp at hk
     have := ht i (m + k) hi (by omega) (by omega)
     omega
 rcases key t.length (Nat.le_refl _) with h | h
 ·exact h
 ·refine ⟨t.length, Nat.le_refl _, ?_⟩
  have hlo : loM (t.take t.length) ≤ day := loM_le h0 fun d hd => by
   rw [List.take_length] at hd
   obtain ⟨i, hi, rfl⟩ := List.getElem_of_mem hd
   exact h i hi hi
  rw [List.take_length] at hlo
  unfold mayB
  simp [hlo]
theorem even_thr {c : List Deed} (hs : c.Pairwise ltD) (hv : ∀ d ∈ c, isDeedB d = true) (hn : pairI clashB c = none) {p : Deed → Bool} (hp : thB p) : evenT (c.filter p) := by
 have hpw : c.Pairwise fun a b => sameThB a b = true → a.dl ≤ b.dh := by
  rw [List.pairwise_iff_getElem]
  intro i k hi hk hik hsm
  have := pairI_not hn i k hi hk hik
  unfold clashB at this
  rw [hsm] at this
  simp at this
  omega
 have hf := hpw.filter p
 intro i k hi hk hik
 have hvi := List.mem_filter.1 (List.getElem_mem hi)
 have hvk := List.mem_filter.1 (List.getElem_mem hk)
 rcases Nat.lt_or_eq_of_le hik with h | h
 ·refine List.pairwise_iff_getElem.1 hf i k hi hk h ?_
  rw [hp _ _ (hv _ hvi.1) (hv _ hvk.1) hvi.2]
  exact hvk.2
 ·subst h
  have := day_of (hv _ hvi.1)
  omega
def mayL (t : List Deed) (day : Int) (s : Nat) : List Nat := (List.range s).filter fun n => mayB t n day
theorem mayL_next (t : List Deed) (day : Int) (s : Nat) : mayL t day (s + 1) = if mayB t s day then mayL t day s ++ [s] else mayL t day s := by
 unfold mayL
 rw [List.range_succ, List.filter_append]
 simp only [List.filter_cons, List.filter_nil]
 split <;> simp
def whoTo (f : Sta → Int) (t : List Deed) (day : Int) (s : Nat) : List Int := (mayL t day s).foldl (fun o n => insI o (f (stA t n))) []
theorem whoTo_next (f : Sta → Int) (t : List Deed) (day : Int) (s : Nat) : whoTo f t day (s + 1) = if mayB t s day then insI (whoTo f t day s) (f (stA t s)) else whoTo f t day s := by
 unfold whoTo
 rw [mayL_next]
 split
 ·rw [List.foldl_append]; rfl
 ·rfl
theorem whoTo_ok (f : Sta → Int) (t : List Deed) (day : Int) : ∀ s, (whoTo f t day s).Pairwise (· < ·) ∧ (whoTo f t day s).length ≤ s
 | 0 => ⟨List.Pairwise.nil, Nat.le_refl _⟩
 | s + 1 => by
  obtain ⟨h1, h2⟩ := whoTo_ok f t day s
  rw [whoTo_next]
  split
  ·refine ⟨insI_sorted h1, ?_⟩
   have := insI_len (whoTo f t day s) (f (stA t s))
   omega
  ·exact ⟨h1, by omega⟩
def whoL (f : Sta → Int) (t : List Deed) (day : Int) : List Int := whoTo f t day (t.length + 1)
theorem conf_clash {l : List Deed} (h : okL l) {k : Int} (hn : ¬ (confP (countL l k)).isSome = true) : pairI clashB (countL l k) = none := by
 rw [pairI_clash h]
 unfold confP at hn
 simpa using hn
theorem lock_some {l : List Deed} (h : okL l) {k : Int} (hn : ¬ (confP (countL l k)).isSome = true) {lock day : Int} (hl : 1 ≤ lock) (h0 : 0 ≤ day) : ∃ n, n ≤ (thrL (countL l k) lock 0).length ∧ mayB (thrL (countL l k) lock 0) n day = true := by
 have hv := countL_valid h k
 rw [thrL_lock hv hl]
 refine may_some (even_thr (countL_sorted h k) hv (conf_clash h hn) (thrB_of lock hl)) (fun d hd => ?_) h0
 have := day_of (hv d (List.mem_filter.1 hd).1)
 omega
theorem pers_some {l : List Deed} (h : okL l) {k : Int} (hn : ¬ (confP (countL l k)).isSome = true) {pe day : Int} (h0 : 0 ≤ day) : ∃ n, n ≤ (thrL (countL l k) 0 pe).length ∧ mayB (thrL (countL l k) 0 pe) n day = true := by
 have hv := countL_valid h k
 rw [thrL_pers hv]
 refine may_some (even_thr (countL_sorted h k) hv (conf_clash h hn) (offpB_of pe)) (fun d hd => ?_) h0
 have := day_of (hv d (List.mem_filter.1 hd).1)
 omega
noncomputable def askE (l : List Deed) (day k : Int) : Int := if daysI l [day, k] = 0 then (if (confP (countL l k)).isSome then 13 else 0) else daysI l [day, k]
theorem askV_eq (l : List Deed) (day k : Int) : askV l day k = .tup [.sl ((if askE l day k = 0 then countL l k else []).map encD), vInt (askE l day k)] := by
 unfold askV askE contV
 by_cases h1 : daysI l [day, k] = 0
 ·simp only [h1, if_true]
  by_cases h2 : (confP (countL l k)).isSome = true
  ·simp [h2]
  ·simp [h2]
 ·simp only [h1, if_false]
  rfl
theorem askE_ok {l : List Deed} {day k : Int} (h : askE l day k = 0) : okL l ∧ ¬ (confP (countL l k)).isSome = true ∧ daysI l [day, k] = 0 := by
 unfold askE at h
 split at h
 ·rename_i h1
  split at h
  ·cases h
  ·rename_i h2
   exact ⟨days_ok h1, h2, h1⟩
 ·rename_i h1; exact (h1 h).elim
open Go
theorem weak_ghostB {σ : S} (b nm : Name) (sz : Nat) (hb : σ.obj b = some (.box [.nilsl])) (hn : σ.obj nm = none) :
  Weak σ ⟨σ.nt, σ.env, upd (upd σ.obj nm (some (.arr sz []))) b (some (.box [.msl nm 0])), σ.pre, σ.base⟩ := by
 intro G φ m a w hC
 have hne : b ≠ nm := fun e => by subst e; rw [hb] at hn; cases hn
 obtain ⟨h1, h2, h3, us, T, f, h4, h5, h6, h7⟩ := hC.objs b _ hb
 have h0 : 0 < us.size := by rw [h6]; simp
 have h8 := h7 0 (by simp) h0
 simp only [List.getElem_cons_zero] at h8
 generalize hu : us[0] = u at h8
 cases h8 with
 | nilsl b' =>
 have hx := Ext.new (φ := φ) hn ⟨0, 0, 0, true, b'⟩ (.arr sz [])
 have hC' := hC.chg (w' := w) nm (.arr sz []) ⟨0, 0, 0, true, b'⟩ hx ⟨rfl, rfl, rfl, Nat.le_refl _⟩ (fun _ _ _ => rfl) (fun h => by cases h) (.inl ⟨rfl, rfl⟩)
 have hb' : (upd σ.obj nm (some (.arr sz []))) b = some (.box [.nilsl]) := by rw [upd_ne _ _ _ hne]; exact hb
 have hφ : (upd φ nm ⟨0, 0, 0, true, b'⟩) b = φ b := upd_ne _ _ _ hne
 have hx2 := Ext.same (φ := upd φ nm ⟨0, 0, 0, true, b'⟩) (o' := .box [.msl nm 0]) hb' rfl rfl
 refine ⟨_, hC'.chg (w' := w) b (.box [.msl nm 0]) _ hx2 ⟨rfl, rfl, rfl, Nat.le_refl _⟩ (fun _ _ _ => rfl) (fun _ => .inr ⟨⟨_, hb', rfl, by rw [hφ]; exact h2⟩, rfl⟩) ?_⟩
 rw [upd_id, hφ]
 refine ⟨h1, h2, by simp [D.one], us, T, f, h4, h5, by simpa using h6, fun i hi hi' => ?_⟩
 have hi0 : i = 0 := by simp at hi; exact hi
 subst hi0
 simp only [List.getElem_cons_zero]
 rw [hu]
 have hnm : (upd (upd σ.obj nm (some (.arr sz []))) b (some (.box [.msl nm 0]))) nm = some (.arr sz []) := by rw [upd_ne _ _ _ hne.symm, upd_same]
 refine .msl _ _ _ ⟨_, _, hnm, rfl, by simp, fun _ => ?_⟩ rfl
 rw [upd_same]; rfl
theorem weakM_ghostB {σ τ : S} (b nm : Name) (sz : Nat) (hb : σ.obj b = some (.box [.nilsl])) (hn : σ.obj nm = none) (ks : List Nat) (ns : List Name)
  (h : clS ks ns ⟨σ.nt, σ.env, upd (upd σ.obj nm (some (.arr sz []))) b (some (.box [.msl nm 0])), σ.pre, σ.base⟩) (hk : keepS ks ns ⟨σ.nt, σ.env, upd (upd σ.obj nm (some (.arr sz []))) b (some (.box [.msl nm 0])), σ.pre, σ.base⟩ = τ) : WeakM σ τ :=
 (weak_ghostB b nm sz hb hn).toM.trans (weakM_keep ks ns h hk)
theorem leftK_go {K : Exit → S → Prop} {obj : Name → Option O} {nm : Name} {σ : S} {env : List E} {ps : List Nat} {a b : Code} (h : obj nm = some (.loop env ps a b .ready none)) (hK : K .normal σ) : leftK K obj nm σ := by
 unfold leftK
 rw [h]
 exact hK
theorem cl_rangeFuncR {P : Program} {Γ : FuncId → Option Spec} (hΓ : ∀ f s, Γ f = some s → SSound P f s) {g : Operand} {ps : Array Tmp} {asg body : Code} {σ : S} {r : List Code} {K : Exit → S → Prop} (k k' : Nat) {f : FuncId} {s : Spec} {d : D} {obj' : Name → Option O}
  {env' : List E} {ps' : List Nat} {a' b' : Code} (hc : opC σ g = true) (hfn : clFn (opD σ g) = some f) (hne : f ≠ yid) (hs : Γ f = some s) (hnew : σ.obj (k :: σ.pre) = none)
  (hR : s.app (upd σ.obj (k :: σ.pre) (some (.loop ((List.range σ.nt).map σ.env) ps.toList asg body .ready none))) (k' :: σ.pre) (clArgs (opD σ g) [.yld (k :: σ.pre)]) = ⟨True, d, obj'⟩)
  (hL : obj' (k :: σ.pre) = some (.loop env' ps' a' b' .ready none))
  (hK : CL P r { σ with obj := upd obj' (k :: σ.pre) (some (.loop env' ps' a' b' .exhausted none)) } K) : CL P (.rangeFunc g ps asg body :: r) σ K := by
 refine cl_rangeFunc hΓ k k' hc hfn hne hs hnew (by rw [hR]; trivial) ?_
 rw [hR]
 refine leftK_go hL ?_
 show CL P r _ K
 have e : spent obj' (k :: σ.pre) = upd obj' (k :: σ.pre) (some (.loop env' ps' a' b' .exhausted none)) := by unfold spent; rw [hL]
 rw [e]
 exact hK
@[go_sem] theorem ta176 : tAgg Tryz.prog 176 = some (false, 1) := by kernel_rfl
@[go_sem] theorem ta195 : tAgg Tryz.prog 195 = some (false, 1) := by kernel_rfl
theorem s147 : PSound Tryz.prog 147 (pLI (fun _ => True) (fun l k => .clo (.func 165) [] [.ptr [.sl (l.map encD)], .ptr [vInt k]]) false) := by
 refine psoundB (rs := [.tmp 4]) Tryz.func147 Tryz.ntmps147 (by rfl) (by kernel_rfl) (by decide) (fun h => by cases h) ⟨_, rfl, ?_⟩
 rintro xs ⟨l, k, rfl, _⟩ hw
 refine ⟨lb rfl, ?_⟩
 rw [pLI_fn]
 have hΓ := K0n_sound
 repeat refine sq ?_
 refine cl_rs hΓ [2,3] [[2, 0],[3, 0]] fun K' hK => ?_
 simp only [go_sem]
 repeat refine ⟨ob, ?_⟩
 refine hK _ ?_ ?_ <;> clear K' hK <;> simp only [go_sem]
 repeat refine sq ?_
 refine cl_rs hΓ [4] [[2, 0],[3, 0]] fun K' hK => ?_
 simp only [go_sem]
 repeat refine ⟨ob, ?_⟩
 refine hK _ ?_ ?_ <;> clear K' hK <;> simp only [go_sem]
 refine cl_ret ?_
 simp only [go_sem]
 all_goals first | done | rfl | exact ⟨by decide, rfl⟩ | exact ⟨by decide, trivial⟩
noncomputable def sMay : Spec := (pLNI fun l n k => .bool (mayB l n k)).toSpec
theorem sMay_app {obj : Name → Option O} {t : Name} {l : List Deed} {n : Nat} {k : Int} (h : n ≤ l.length) : sMay.app obj t [.v (.sl (l.map encD)), .v (vInt n), .v (vInt k)] = ⟨True, .v (.bool (mayB l n k)), obj⟩ := by
 simp only [sMay, PSpec.toSpec, frzL, frz, pLNI_fn, ite_self]
 congr 1
 simp only [eq_iff_iff, iff_true]
 exact ⟨⟨trivial, trivial, trivial, trivial⟩, l, n, k, rfl, h⟩
def pAft : PSpec := ⟨fun xs => ∃ (l : List Deed) (n : Nat), xs = [.sl (l.map encD), vInt n] ∧ n ≤ l.length ∧ ∀ d ∈ l, kindOk d, fun xs => match xs with | [.sl l, .int _ n] => encS (stA (l.map decD) n.toNat) | _ => .bool false, true⟩
theorem pAft_fn (l : List Deed) (n : Nat) : pAft.fn [.sl (l.map encD), vInt n] = encS (stA l n) := by
 simp only [pAft, decD_map, Int.toNat_natCast]
noncomputable def sAft : Spec := pAft.toSpec
theorem sAft_app {obj : Name → Option O} {t : Name} {l : List Deed} {n : Nat} (h : n ≤ l.length) (hk : ∀ d ∈ l, kindOk d) : sAft.app obj t [.v (.sl (l.map encD)), .v (vInt n)] = ⟨True, .v (encS (stA l n)), obj⟩ := by
 simp only [sAft, PSpec.toSpec, frzL, frz, pAft_fn, ite_self]
 congr 1
 simp only [eq_iff_iff, iff_true]
 exact ⟨⟨trivial, trivial, trivial⟩, l, n, rfl, h, hk⟩
def setU (obj : Name → Option O) (L : List O) : Name → Option O := fun nm => match outH L nm with | some o => some o | none => obj nm
theorem setU_out {L1 L2 : List O} (h : L2.length = L1.length) : setU (outH L1) L2 = outH L2 := by
 funext nm
 unfold setU
 cases hx : isOut nm with
 | false => rw [outH_not hx, outH_not hx]
 | true =>
  obtain ⟨i, rfl⟩ := isOut_iff.1 hx
  simp only [outH]
  by_cases hi : i < L2.length
  ·rw [List.getElem?_eq_getElem hi]
  ·rw [List.getElem?_eq_none (by omega), List.getElem?_eq_none (by omega)]
theorem mkS_setU (n : Nat) (p : Name) (F H : Name → Option O) (L : List O) (l : List (Nat × E)) (h : List (Name × O)) :
  mkS n p (setU (fun nm => if own p nm = true then F nm else H nm) L) l h = mkS n p (setU H L) l h :=
 mkS_same fun nm hn => by unfold setU; simp [hn]
theorem OutC_setU (p : Name) (dom : Name → Bool) (F H : Name → Option O) (L : List O) :
  OutC p dom (setU (fun nm => if own p nm = true then F nm else H nm) L) = OutC p dom (setU H L) := by
 have e : ∀ nm, own p nm = false → setU (fun nm => if own p nm = true then F nm else H nm) L nm = setU H L nm := fun nm hn => by unfold setU; simp [hn]
 exact propext ⟨fun k nm q hn h => k nm q hn (by rw [e nm hn]; exact h), fun k nm q hn h => k nm q hn (by rw [← e nm hn]; exact h)⟩
def endN (q : Nat → Bool) (n : Nat) : Nat := match (List.range n).find? q with | some s => s + 1 | none => n
theorem endN_none {q : Nat → Bool} {n : Nat} (h : ∀ s, s < n → q s = false) : endN q n = n := by
 unfold endN
 rw [List.find?_eq_none.2 fun s hs => by rw [h s (List.mem_range.1 hs)]; decide]
theorem endN_at {q : Nat → Bool} {n s : Nat} (hs : s < n) (hq : q s = true) (h : ∀ j, j < s → q j = false) : endN q n = s + 1 := by
 unfold endN
 have : (List.range n).find? q = some s := by
  rw [List.find?_eq_some_iff_getElem]
  refine ⟨hq, s, by simpa using hs, by simp, fun j hj => by simp [h j hj]⟩
 rw [this]
set_option maxHeartbeats 8000000 in
theorem w165 {Γ : FuncId → Option Spec} (hΓ : ∀ f s, Γ f = some s → SSound Tryz.prog f s) {sY : Spec} (hY : Γ yid = some sY) (h6 : Γ 166 = some sMay) (h7 : Γ 167 = some sAft)
  {t : List Deed} {day : Int} (hl : t.length ≤ 60) (hk : ∀ d ∈ t, kindOk d) {I : Nat → List O} {b : Nat → Bool} (hI : ∀ s, (I s).length = (I 0).length)
  (hc : ∀ s, ∀ o ∈ I s, ∀ dom : Name → Bool, (∀ i, dom [i, 1] = true) → O.clos dom o = true) (hst : ∀ s, s ≤ t.length → mayB t s day = false → I (s + 1) = I s)
  (hap : ∀ s, s ≤ t.length → mayB t s day = true → (∀ j, j < s → (mayB t j day && !b j) = false) → ∀ obj tm, (∀ nm, isOut nm = true → obj nm = outH (I s) nm) → sY.app obj tm [.yld [0, 1], .v (vInt s), .v (encS (stA t s))] = ⟨True, .v (.bool (b s)), setU obj (I (s + 1))⟩) :
  ∃ c, Tryz.f165.body = some c ∧ CL Tryz.prog [c] (mkS 25 [0] (outH (I 0)) [(0, ⟨true, .yld [0, 1]⟩), (1, ⟨true, .v (.ptr [.sl (t.map encD)])⟩), (2, ⟨true, .v (.ptr [vInt day])⟩)] [])
   (fun e σ => (e = .normal ∨ e = .ret) ∧ ∀ i, σ.obj [i, 1] = outH (I (endN (fun s => mayB t s day && !b s) (t.length + 1))) [i, 1]) := by
 refine ⟨_, rfl, ?_⟩
 have hO : ∀ s hs, OutC [0] (domOf [0] hs) (outH (I s)) = True := fun s hs => eq_true (outC_outs (hc s) hs)
 have hset : ∀ s, setU (outH (I s)) (I (s + 1)) = outH (I (s + 1)) := fun s => setU_out ((hI _).trans (hI s).symm)
 obtain ⟨H, hH⟩ : ∃ H : Nat → Name → Option O, ∀ s, outH (I s) = H s := ⟨_, fun _ => rfl⟩
 simp only [hH] at hO hset hap ⊢
 have hY' : Γ 1000000000 = some sY := hY
 have hw1 : IntKind.i64.wrap ((t.length : Int) + 1) = ((t.length + 1 : Nat) : Int) := wrap_succ (n := 61) (by omega) (by unfold maxLen; omega)
 repeat refine sq ?_
 refine cl_rs hΓ [0,1,2,7,8] [] fun K' hK => ?_
 simp only [go_sem, hO, hw1]
 repeat refine ⟨ob, ?_⟩
 refine hK _ ?_ ?_ <;> clear K' hK <;> simp only [go_sem, hO, hw1]
 repeat refine sq ?_
 refine cl_block ?_
 repeat refine sq ?_
 refine cl_loop (fun s : Nat => mkS 25 [0] (H s) [(0, ⟨true, .yld [0, 1]⟩), (1, ⟨true, .v (.ptr [.sl (t.map encD)])⟩), (2, ⟨true, .v (.ptr [vInt day])⟩), (7, ⟨true, .v (vInt (t.length + 1 : Nat))⟩), (8, ⟨true, .v (vInt s)⟩)] [])
  (fun s => s ≤ t.length + 1 ∧ ∀ j, j < s → (mayB t j day && !b j) = false) (fun s => t.length + 1 - s) 0 ⟨Nat.zero_le _, fun j hj => by omega⟩ (Weak.refl _) ?_
 rintro i ⟨hi, hq⟩
 repeat refine sq ?_
 refine cl_rs hΓ [0,1,2,7,8,9] [] fun K' hK => ?_
 simp only [go_sem, hO]
 repeat refine ⟨ob, ?_⟩
 refine hK _ ?_ ?_ <;> clear K' hK <;> simp only [go_sem, hO]
 repeat refine sq ?_
 refine cl_cond rfl rfl (fun hb => ?_) fun hb => ?_
 ·have hlt : i ≤ t.length := by
   have : (i : Int) < (t.length + 1 : Nat) := by simpa using hb
   omega
  have hws : IntKind.i64.wrap ((i : Int) + 1) = ((i + 1 : Nat) : Int) := wrap_succ (n := 61) (by omega) (by unfold maxLen; omega)
  clear hb
  repeat refine sq ?_
  refine cl_skip ?_
  repeat refine sq ?_
  refine cl_block ?_
  repeat refine sq ?_
  refine cl_rs hΓ [0,1,2,4,7,8] [] fun K' hK => ?_
  simp only [go_sem, hO]
  repeat refine ⟨ob, ?_⟩
  refine hK _ ?_ ?_ <;> clear K' hK <;> simp only [go_sem, hO]
  have hmy := fun (obj : Name → Option O) (tm : Name) => sMay_app (obj := obj) (t := tm) (k := day) hlt
  have haf := fun (obj : Name → Option O) (tm : Name) => sAft_app (obj := obj) (t := tm) hlt hk
  cases hm : mayB t i day with
  | false =>
   repeat refine sq ?_
   refine cl_rs hΓ [0,1,2,7,8,23] [] fun K' hK => ?_
   simp only [go_sem, hO, h6, h7, hY', hmy, haf, hm]
   repeat refine ⟨ob, ?_⟩
   refine hK _ ?_ ?_ <;> clear K' hK <;> simp only [go_sem, hO, h6, h7, hY', hmy, haf, hm]
   repeat refine sq ?_
   refine cl_cond rfl rfl (fun hb => ?_) fun hb => ?_
   ·cases hb
   repeat refine sq ?_
   refine cl_skip ?_
   refine cl_nil ?_
   simp only [go_sem]
   refine cl_keep [0,1,2,7,8] [] ?_ ?_
   ·simp only [go_sem, hO]
   simp only [go_sem, hO]
   repeat refine sq ?_
   refine cl_r hΓ fun K' hK => ?_
   simp only [go_sem]
   repeat refine ⟨ob, ?_⟩
   refine hK _ ?_
   clear K' hK
   simp only [go_sem]
   refine ⟨i + 1, ⟨by omega, fun j hj => ?_⟩, by omega, ?_⟩
   ·by_cases h : j < i
    ·exact hq j h
    ·have : j = i := by omega
     subst this
     rw [hm]; rfl
   have hHe : H (i + 1) = H i := by rw [← hH, ← hH, hst i hlt hm]
   rw [hHe]
   refine weak_eq [0,1,2,7,8] [] ?_ ?_
   ·simp only [go_sem, hO, hws, Int.natCast_add, Int.natCast_one]
   ·simp only [go_sem, hO, hws, Int.natCast_add, Int.natCast_one]
  | true =>
   have hap2 : ∀ tm, sY.app (fun nm => if own [0] nm = true then none else H i nm) tm [.yld [0, 1], .v (vInt i), .v (encS (stA t i))] = ⟨True, .v (.bool (b i)), setU (fun nm => if own [0] nm = true then none else H i nm) (I (i + 1))⟩ := fun tm => hap i hlt hm hq _ tm fun nm hn => by
    obtain ⟨k, rfl⟩ := isOut_iff.1 hn
    simp [own_out01]
   repeat refine sq ?_
   refine cl_rs hΓ [0,1,2,7,8,23] [] fun K' hK => ?_
   simp only [go_sem, hO, h6, h7, hY', hmy, haf, hm, hap2, mkS_setU, OutC_setU, hset]
   repeat refine ⟨ob, ?_⟩
   refine hK _ ?_ ?_ <;> clear K' hK <;> simp only [go_sem, hO, h6, h7, hY', hmy, haf, hm, hap2, mkS_setU, OutC_setU, hset]
   repeat refine sq ?_
   refine cl_cond rfl rfl (fun hb => ?_) fun hb => ?_
   ·have hbi : b i = false := by simpa using hb
    repeat refine sq ?_
    refine cl_ret ?_
    simp only [go_sem]
    have hen : endN (fun s => mayB t s day && !b s) (t.length + 1) = i + 1 := endN_at (by omega) (by simp [hm, hbi]) hq
    rw [hen]
    exact ⟨by simp, fun k => by simp [own_out01]⟩
   ·have hbi : b i = true := by simpa using hb
    repeat refine sq ?_
    refine cl_skip ?_
    refine cl_nil ?_
    simp only [go_sem]
    refine cl_keep [0,1,2,7,8] [] ?_ ?_
    ·simp only [go_sem, hO]
    simp only [go_sem, hO]
    repeat refine sq ?_
    refine cl_r hΓ fun K' hK => ?_
    simp only [go_sem]
    repeat refine ⟨ob, ?_⟩
    refine hK _ ?_
    clear K' hK
    simp only [go_sem]
    refine ⟨i + 1, ⟨by omega, fun j hj => ?_⟩, by omega, ?_⟩
    ·by_cases h : j < i
     ·exact hq j h
     ·have : j = i := by omega
      subst this
      rw [hbi]; simp
    refine weak_eq [0,1,2,7,8] [] ?_ ?_
    ·simp only [go_sem, hO, hws, Int.natCast_add, Int.natCast_one]
    ·simp only [go_sem, hO, hws, Int.natCast_add, Int.natCast_one]
 ·have hge : i = t.length + 1 := by
   have : ¬ (i : Int) < (t.length + 1 : Nat) := by simpa using hb
   omega
  subst hge
  clear hb
  repeat refine sq ?_
  refine cl_exit ?_
  simp only [go_sem]
  refine cl_nil ?_
  simp only [go_sem]
  rw [endN_none hq]
  exact ⟨by simp, fun k => by simp [own_out01]⟩
def objAll (obj : Name → Option O) : List Name → List O → Prop
 | [], [] => True
 | x :: xs, o :: os => obj x = some o ∧ objAll obj xs os
 | _, _ => False
theorem objAll_iff {obj : Name → Option O} : ∀ {Ls : List Name} {F : List O}, objAll obj Ls F ↔ Ls.map obj = F.map some
 | [], [] => by simp [objAll]
 | x :: xs, o :: os => by simp only [objAll, List.map_cons, List.cons.injEq, objAll_iff]
 | [], _ :: _ => by simp [objAll]
 | _ :: _, [] => by simp [objAll]
theorem objAll_agr {obj obj2 : Name → Option O} {Ls : List Name} {F : List O} (h : objAll obj Ls F) (ha : ∀ x ∈ Ls, obj2 x = obj x) : objAll obj2 Ls F := by
 rw [objAll_iff] at h ⊢
 rw [← h]
 exact List.map_congr_left ha
theorem objAll_get {obj : Name → Option O} : ∀ {Ls : List Name} {F : List O}, objAll obj Ls F → ∀ i (h : i < Ls.length) (h' : i < F.length), obj Ls[i] = some F[i]
 | _ :: _, _ :: _, h, 0, _, _ => h.1
 | _ :: _, _ :: _, h, i + 1, h1, h2 => by
  simp only [List.getElem_cons_succ]
  exact objAll_get h.2 i (by simpa using h1) (by simpa using h2)
def pdK (K : Exit → S → Prop) (σ : S) : Option Code → Prop
 | none => K .normal σ
 | some .ret => K .ret σ
 | some (.exit id) => K (.exit id) σ
 | _ => False
theorem leftK_of {K : Exit → S → Prop} {obj : Name → Option O} {nm : Name} {σ : S} {env : List E} {ps : List Nat} {a b : Code} (pd : Option Code) (h : obj nm = some (.loop env ps a b (if pd.isNone then .ready else .done) pd))
  (hK : pdK K σ pd) : leftK K obj nm σ := by
 unfold leftK
 rw [h]
 rcases pd with _ | c
 ·exact hK
 ·cases c <;> first | exact hK.elim | exact hK
def LR (m : Nat) : List Name := (List.range m).map fun i => [i, 1]
def LI (m : Nat) : List Name := (List.range m).map fun i => [i + 1, 1]
theorem LR_len (m : Nat) : (LR m).length = m := by simp [LR]
theorem LI_len (m : Nat) : (LI m).length = m := by simp [LI]
theorem LR_nodup (m : Nat) : (LR m).Nodup := by
 unfold LR
 exact List.Pairwise.map _ (fun a b h => by simpa using h) List.nodup_range
theorem cin_all {Ls : List Name} (hn : Ls.Nodup) : Ls.map (cin Ls) = LR Ls.length := by
 refine List.ext_getElem (by simp [LR]) fun i h1 h2 => ?_
 simp only [List.getElem_map, LR, List.getElem_range, cin]
 rw [idx_at hn (by simpa using h1)]
theorem cin_next {R : Name} {Ls : List Name} (hn : Ls.Nodup) (hR : R ∉ Ls) : Ls.map (cin (R :: Ls)) = LI Ls.length := by
 refine List.ext_getElem (by simp [LI]) fun i h1 h2 => ?_
 simp only [List.getElem_map, LI, List.getElem_range, cin]
 have h3 : i < Ls.length := by simpa using h1
 have h4 := idx_at (L := R :: Ls) (List.nodup_cons.2 ⟨hR, hn⟩) (i := i + 1) (by simp; omega)
 simp only [List.getElem_cons_succ] at h4
 rw [h4]
theorem cout_all (Ls : List Name) (t : Name) : (LR Ls.length).map (cout Ls t) = Ls := by
 refine List.ext_getElem (by simp [LR]) fun i h1 h2 => ?_
 simp only [List.getElem_map, LR, List.getElem_range, cout]
 exact getD_mem h2
theorem cout_next (R : Name) (Ls : List Name) (t : Name) : (LI Ls.length).map (cout (R :: Ls) t) = Ls := by
 refine List.ext_getElem (by simp [LI]) fun i h1 h2 => ?_
 simp only [List.getElem_map, LI, List.getElem_range, cout]
 rw [getD_mem (by simpa using h2)]
 simp
def setLs : List Name → List O → (Name → Option O) → (Name → Option O)
 | x :: xs, o :: os, obj => setLs xs os (upd obj x (some o))
 | _, _, obj => obj
theorem setLs_ne : ∀ {Ls : List Name} {F : List O} {obj : Name → Option O} {x : Name}, x ∉ Ls → setLs Ls F obj x = obj x
 | [], _, _, _, _ => by simp [setLs]
 | _ :: _, [], _, _, _ => by simp [setLs]
 | y :: ys, o :: os, obj, x, h => by
  simp only [List.mem_cons, not_or] at h
  simp only [setLs]
  rw [setLs_ne h.2, upd_ne _ _ _ h.1]
theorem setLs_all : ∀ {Ls : List Name} {F : List O} {obj : Name → Option O}, Ls.Nodup → Ls.length = F.length → objAll (setLs Ls F obj) Ls F
 | [], [], _, _, _ => trivial
 | [], _ :: _, _, _, h => by simp at h
 | _ :: _, [], _, _, h => by simp at h
 | y :: ys, o :: os, obj, hn, h => by
  rw [List.nodup_cons] at hn
  refine ⟨?_, setLs_all (obj := upd obj y (some o)) hn.2 (by simpa using h)⟩
  simp only [setLs]
  rw [setLs_ne hn.1, upd_same]
def upds : Nat → List O → List (Nat × O)
 | _, [] => []
 | k, o :: r => (k, o) :: upds (k + 1) r
theorem putU_upds {t : Name} {L : List Name} : ∀ {Ls : List Name} {k : Nat} {F : List O} {obj : Name → Option O}, Ls.length = F.length → (∀ i (h : i < Ls.length), L.getD (k + i) [] = Ls[i]) →
  putU L t (upds k F) obj = setLs Ls (F.map (O.ren (cout L t))) obj
 | [], k, [], obj, _, _ => rfl
 | [], k, _ :: _, obj, h, _ => by simp at h
 | _ :: _, k, [], obj, h, _ => by simp at h
 | x :: xs, k, o :: os, obj, h, hL => by
  simp only [upds, putU, List.map_cons, setLs]
  have h0 := hL 0 (by simp)
  simp only [Nat.add_zero, List.getElem_cons_zero] at h0
  rw [h0]
  exact putU_upds (by simpa using h) fun i hi => by
   have := hL (i + 1) (by simpa using hi)
   rw [show k + 1 + i = k + (i + 1) by omega]
   simpa using this
theorem lastU_other : ∀ {F : List O} {k i : Nat} {o : O}, i < k → lastU (upds k F) i o = o
 | [], k, i, o, _ => rfl
 | f :: r, k, i, o, h => by
  simp only [upds, lastU]
  rw [if_neg (by omega)]
  exact lastU_other (by omega)
theorem objsOk_upds {σ : S} : ∀ {F os : List O} {k : Nat} {u : List (Nat × O)}, F.length = os.length → (∀ i, k ≤ i → ∀ o, lastU u i o = lastU (upds k F) i o) →
  (∀ i (h : i < F.length), σ.obj [k + i, 1] = some F[i]) → objsOk σ u k os
 | [], [], _, _, _, _, _ => trivial
 | [], _ :: _, _, _, h, _, _ => by simp at h
 | _ :: _, [], _, _, h, _, _ => by simp at h
 | f :: fs, o :: os, k, u, h, hu, hs => by
  refine ⟨?_, objsOk_upds (F := fs) (by simpa using h) (fun i hi x => ?_) fun i hi => ?_⟩
  ·have h0 := hs 0 (by simp)
   simp only [Nat.add_zero, List.getElem_cons_zero] at h0
   rw [h0, hu k (Nat.le_refl _) o]
   simp only [upds, lastU, if_true]
   rw [lastU_other (by omega)]
  ·rw [hu i (by omega) x]
   simp only [upds, lastU]
   rw [if_neg (by omega)]
  ·have := hs (i + 1) (by simpa using hi)
   rw [show k + 1 + i = k + (i + 1) by omega]
   simpa using this
structure Lp where
 m : Nat
 env : List Name → List E
 fam : List Name → Nat → List O
 ps : List Nat
 asg : Code
 body : Code
 n : Nat
 vals : Nat → List D
 st : Nat → Option Code
 fu : Nat
structure Lp.Ok (r : Lp) : Prop where
 len : ∀ Ls s, Ls.length = r.m → (r.fam Ls s).length = r.m
 renE : ∀ f Ls, Ls.length = r.m → (r.env Ls).map (E.ren f) = r.env (Ls.map f)
 renF : ∀ f Ls s, Ls.length = r.m → (r.fam Ls s).map (O.ren f) = r.fam (Ls.map f) s
 reach : ∀ Ls s obj acc k, Ls.length = r.m → Ls.Nodup → (∀ x ∈ Ls, x ∉ acc) → objAll obj Ls (r.fam Ls s) → reachL obj (k + r.fu) (namesL ((r.env Ls).map (·.d))) acc = acc ++ Ls
 closE : ∀ dom Ls, Ls.length = r.m → (∀ x ∈ Ls, dom x = true) → D.closL dom ((r.env Ls).map (·.d)) = true
 closF : ∀ dom Ls s, Ls.length = r.m → (∀ x ∈ Ls, dom x = true) → ∀ o ∈ r.fam Ls s, O.clos dom o = true
 psz : ∀ Ls, Ls.length = r.m → (r.ps.all fun p => decide (p < (r.env Ls).length)) = true
 args : ∀ s, (r.vals s).length = r.ps.length
 fuel : r.fu ≤ 2000
 vnam : ∀ s, namesL (r.vals s) = []
 vcl : ∀ s dom, D.closL dom (r.vals s) = true
 vren : ∀ s f, D.renL f (r.vals s) = r.vals s
 inj : ∀ s s', s < r.n → s' < r.n → r.vals s = r.vals s' → s = s'
theorem names_vals (a : List D) : ∀ vs : List V, namesL (a ++ vs.map D.v) = namesL a := by
 intro vs
 have h0 : ∀ vs : List V, namesL (vs.map D.v) = [] := by
  intro vs
  induction vs with
  | nil => rfl
  | cons x r ih => simp only [List.map_cons, namesL, namesD, List.nil_append, ih]
 induction a with
 | nil => simpa [namesL] using h0 vs
 | cons x r ih => simp only [List.cons_append, namesL, ih]
theorem closL_vals (dom : Name → Bool) (vs : List V) : ∀ a : List D, D.closL dom (a ++ vs.map D.v) = D.closL dom a := by
 have h0 : ∀ vs : List V, D.closL dom (vs.map D.v) = true := by
  intro vs
  induction vs with
  | nil => rfl
  | cons x r ih => simp only [List.map_cons, D.closL, D.clos, ih, Bool.and_self]
 intro a
 induction a with
 | nil => simpa [D.closL] using h0 vs
 | cons x r ih => simp only [List.cons_append, D.closL, ih]
theorem renL_vals (f : Name → Name) (vs : List V) : D.renL f (vs.map D.v) = vs.map D.v := by
 induction vs with
 | nil => rfl
 | cons x r ih => simp only [List.map_cons, D.renL, D.ren, ih]
theorem names_app (a b : List D) : namesL (a ++ b) = namesL a ++ namesL b := by
 induction a with
 | nil => rfl
 | cons x r ih => simp only [List.cons_append, namesL, ih, List.append_assoc]
theorem closL_app (dom : Name → Bool) (a b : List D) : D.closL dom (a ++ b) = (D.closL dom a && D.closL dom b) := by
 induction a with
 | nil => simp [D.closL]
 | cons x r ih => simp only [List.cons_append, D.closL, ih, Bool.and_assoc]
noncomputable def Lp.y (r : Lp) : YSpec where
 pre := fun env ps asg body os ds => ∃ s, s < r.n ∧ (∀ j, j < s → r.st j = none) ∧ env = r.env (LR r.m) ∧ ps = r.ps ∧ asg = r.asg ∧ body = r.body ∧ os = r.fam (LR r.m) s ∧ ds = r.vals s
 out := fun _ _ _ _ _ ds => by
  classical exact if h : ∃ s, s < r.n ∧ ds = r.vals s then (⟨upds 0 (r.fam (LR r.m) (h.choose + 1)), [], .v (.bool true)⟩, r.st h.choose) else (⟨[], [], .any⟩, none)
theorem Lp.y_out {r : Lp} (hr : r.Ok) {s : Nat} (hs : s < r.n) (env : List E) (ps : List Nat) (asg body : Code) (os : List O) :
  r.y.out env ps asg body os (r.vals s) = (⟨upds 0 (r.fam (LR r.m) (s + 1)), [], .v (.bool true)⟩, r.st s) := by
 have h : ∃ s', s' < r.n ∧ r.vals s = r.vals s' := ⟨s, hs, rfl⟩
 have e : h.choose = s := (hr.inj _ _ hs h.choose_spec.1 h.choose_spec.2).symm
 simp only [Lp.y]
 rw [dif_pos h, e]
def retL (m : Nat) (F : List O) (p : Option Code) : Exit → S → Prop
 | .normal, σ => p = none ∧ objAll σ.obj (LR m) F
 | .ret, σ => p = some .ret ∧ objAll σ.obj (LR m) F
 | .exit id, σ => p = some (.exit id) ∧ objAll σ.obj (LR m) F
 | _, _ => False
theorem endC_of {os F : List O} {σ : S} {m : Nat} (h1 : os.length = m) (h2 : F.length = m) (hc : ∀ dom : Name → Bool, (∀ x ∈ LR m, dom x = true) → ∀ o ∈ F, O.clos dom o = true) (h : objAll σ.obj (LR m) F) :
  endC os ⟨upds 0 F, [], .v (.bool true)⟩ σ := by
 have hget : ∀ i (hi : i < F.length), σ.obj [i, 1] = some F[i] := by
  rw [objAll_iff] at h
  intro i hi
  have h3 := congrArg (fun l => l[i]?) h
  have hi' : i < m := by omega
  simpa [LR, hi, hi'] using h3
 refine ⟨objsOk_upds (F := F) (by omega) (fun i _ o => rfl) fun i hi => by rw [Nat.zero_add]; exact hget i hi, trivial, ?_⟩
 have hdom : ∀ x ∈ LR m, domC os.length [] x = true := by
  intro x hx
  obtain ⟨i, hi, rfl⟩ := List.mem_map.1 hx
  have := List.mem_range.1 hi
  simp [domC]
  omega
 have hall : ∀ (F' : List O) (k : Nat), (∀ o ∈ F', O.clos (domC os.length []) o = true) → k + F'.length ≤ os.length → ((upds k F').all fun x => O.clos (domC os.length []) x.2 && decide (x.1 < os.length)) = true := by
  intro F'
  induction F' with
  | nil => intros; rfl
  | cons f fs ih =>
   intro k hf hk
   simp only [List.length_cons] at hk
   simp only [upds, List.all_cons, Bool.and_eq_true, decide_eq_true_eq]
   exact ⟨⟨hf f (by simp), by omega⟩, by have := ih (k + 1) (fun o ho => hf o (by simp [ho])) (by omega); simpa using this⟩
 have := hall F 0 (hc _ hdom) (by omega)
 simp only [D.clos, this, List.all_nil, List.map_nil, distinct, Bool.and_self]
theorem Lp.y_sound {P : Program} {r : Lp} (hr : r.Ok) (h : ∀ s, s < r.n → (∀ j, j < s → r.st j = none) →
   CW P r.asg ⟨(r.env (LR r.m)).length, setP (envF (r.env (LR r.m))) r.ps (r.vals s), outH (r.fam (LR r.m) s), [0], 0⟩ (onlyK fun σ1 => CW P r.body σ1 (retL r.m (r.fam (LR r.m) (s + 1)) (r.st s)))) : SSound P yid r.y.toSpec := by
 refine yield_run ?_
 rintro env ps asg body os ds ⟨s, hs, hj, rfl, rfl, rfl, rfl, rfl, rfl⟩ _
 rw [Lp.y_out hr hs]
 refine CW.mono (h s hs hj) fun e σ hk => ?_
 cases e with
 | normal =>
  refine CW.mono hk fun e σ hk => ?_
  have fin : objAll σ.obj (LR r.m) (r.fam (LR r.m) (s + 1)) → endC (r.fam (LR r.m) s) ⟨upds 0 (r.fam (LR r.m) (s + 1)), [], .v (.bool true)⟩ σ :=
   endC_of (hr.len _ _ (LR_len _)) (hr.len _ _ (LR_len _)) fun dom hd => hr.closF dom _ _ (LR_len _) hd
  cases e with
  | normal => exact ⟨hk.1, fin hk.2⟩
  | ret => exact ⟨hk.1, fin hk.2⟩
  | exit id => exact ⟨hk.1, fin hk.2⟩
  | goto l => exact hk.elim
  | panic c => exact hk.elim
  | outgrown => exact hk.elim
 | ret => exact hk.elim
 | exit id => exact hk.elim
 | goto l => exact hk.elim
 | panic c => exact hk.elim
 | outgrown => exact hk.elim
def Lp.rc (r : Lp) (Ls : List Name) (st : LoopState) (pd : Option Code) : O := .loop (r.env Ls) r.ps r.asg r.body st pd
theorem Lp.y_app {r : Lp} (hr : r.Ok) {s : Nat} (hs : s < r.n) (hj : ∀ j, j < s → r.st j = none) {obj : Name → Option O} {t R : Name} {Ls : List Name} (hl : Ls.length = r.m) (hn : Ls.Nodup) (hR : R ∉ Ls)
  (h0 : obj R = some (r.rc Ls .ready none)) (hF : objAll obj Ls (r.fam Ls s)) :
  r.y.toSpec.app obj t (.yld R :: r.vals s) = ⟨True, .v (.bool (r.st s).isNone), upd (setLs Ls (r.fam Ls (s + 1)) obj) R (some (r.rc Ls (if (r.st s).isNone then .ready else .done) (r.st s)))⟩ := by
 have hreach : reach obj (roots (r.env Ls) (r.vals s)) = Ls := by
  unfold reach roots
  rw [names_app, hr.vnam, List.append_nil]
  have := hr.reach Ls s obj [] (3000 - r.fu) hl hn (fun _ _ => by simp) hF
  rwa [show 3000 - r.fu + r.fu = 3000 by have := hr.fuel; omega] at this
 have e1 : cOs obj (roots (r.env Ls) (r.vals s)) = r.fam (LR r.m) s := by
  unfold cOs
  rw [hreach]
  have : Ls.map (canonO Ls obj) = (r.fam Ls s).map (O.ren (cin Ls)) := by
   rw [objAll_iff] at hF
   refine List.ext_getElem (by simp [hr.len _ _ hl, hl]) fun i h1 h2 => ?_
   have h3 : i < Ls.length := by simpa using h1
   have h4 : i < (r.fam Ls s).length := by rw [hr.len _ _ hl, ← hl]; exact h3
   have h5 := congrArg (fun l => l[i]?) hF
   have h6 : obj Ls[i] = some (r.fam Ls s)[i] := by simpa [h3, h4] using h5
   simp only [List.getElem_map, canonO, h6]
  rw [this, hr.renF _ _ _ hl, cin_all hn, hl]
 have e2 : yEnv obj (r.env Ls) (r.vals s) = r.env (LR r.m) := by
  unfold yEnv
  rw [hreach, hr.renE _ _ hl, cin_all hn, hl]
 have e3 : yDs obj (r.env Ls) (r.vals s) = r.vals s := by
  unfold yDs
  exact hr.vren s _
 have e4 : r.y.o obj (r.env Ls) r.ps r.asg r.body (r.vals s) = (⟨upds 0 (r.fam (LR r.m) (s + 1)), [], .v (.bool true)⟩, r.st s) := by
  unfold YSpec.o
  rw [e1, e2, e3, Lp.y_out hr hs]
 have hpre : r.y.pre (r.env (LR r.m)) r.ps r.asg r.body (r.fam (LR r.m) s) (r.vals s) := ⟨s, hs, hj, rfl, rfl, rfl, rfl, rfl, rfl⟩
 have hcl : D.closL (inL Ls) (roots (r.env Ls) (r.vals s)) = true := by
  unfold roots
  rw [closL_app, hr.vcl, Bool.and_true]
  exact hr.closE _ _ hl fun x hx => inL_iff.2 hx
 have hsh : shut obj Ls = true := by
  unfold shut
  rw [List.all_eq_true]
  intro x hx
  obtain ⟨i, hi, rfl⟩ := List.getElem_of_mem hx
  rw [objAll_iff] at hF
  have h4 : i < (r.fam Ls s).length := by rw [hr.len _ _ hl, ← hl]; exact hi
  have h5 := congrArg (fun l => l[i]?) hF
  have h6 : obj Ls[i] = some (r.fam Ls s)[i] := by simpa [hi, h4] using h5
  rw [h6]
  exact hr.closF _ _ _ hl (fun x hx => inL_iff.2 hx) _ (List.getElem_mem h4)
 have hnR : inL Ls R = false := by
  cases h : inL Ls R with
  | false => rfl
  | true => exact (hR (inL_iff.1 h)).elim
 have hp : putU Ls t (upds 0 (r.fam (LR r.m) (s + 1))) obj = setLs Ls (r.fam Ls (s + 1)) obj := by
  rw [putU_upds (Ls := Ls) (by rw [hr.len _ _ (LR_len _), hl]) fun i hi => by rw [Nat.zero_add]; exact getD_mem hi, hr.renF _ _ _ (LR_len _)]
  have : (LR r.m).map (cout Ls t) = Ls := by rw [← hl]; exact cout_all Ls t
  rw [this]
 unfold Lp.rc at h0
 simp only [YSpec.toSpec, h0, e1, e2, e3, e4, hreach, hcl, hsh, hnR, fresh, List.all_nil, Bool.and_self, Bool.not_false, hr.args, decide_true, hr.psz Ls hl, hpre, putN, hp, and_self]
 rfl
def Lp.e (r : Lp) : Nat := match (List.range r.n).find? (fun s => (r.st s).isSome) with | some s => s + 1 | none => r.n
def Lp.pd (r : Lp) : Option Code := match (List.range r.n).find? (fun s => (r.st s).isSome) with | some s => r.st s | none => none
def Lp.fin (r : Lp) (Ls : List Name) : O := r.rc Ls (if r.pd.isNone then .ready else .done) r.pd
def Lp.it (r : Lp) (caps : List V) : CSpec where
 pre := fun os ds => os = r.rc (LI r.m) .ready none :: r.fam (LI r.m) 0 ∧ ds = .yld [0, 1] :: caps.map .v
 out := fun _ _ => ⟨(0, r.fin (LI r.m)) :: upds 1 (r.fam (LI r.m) r.e), [], .tup []⟩
theorem Lp.it_app {r : Lp} (hr : r.Ok) {caps : List V} {obj : Name → Option O} {t R : Name} {Ls : List Name} (hl : Ls.length = r.m) (hn : Ls.Nodup) (hR : R ∉ Ls)
  (h0 : obj R = some (r.rc Ls .ready none)) (hF : objAll obj Ls (r.fam Ls 0)) :
  (r.it caps).toSpec.app obj t (.yld R :: caps.map .v) = ⟨True, .tup [], setLs Ls (r.fam Ls r.e) (upd obj R (some (r.fin Ls)))⟩ := by
 have hnn : (R :: Ls).Nodup := List.nodup_cons.2 ⟨hR, hn⟩
 have hreach : reach obj (.yld R :: caps.map .v) = R :: Ls := by
  have h1 : namesL (.yld R :: caps.map .v) = [R] := by
   have := names_vals [.yld R] caps
   simpa [namesL, namesD] using this
  unfold reach
  rw [h1]
  show reachL obj (2999 + 1) [R] [] = R :: Ls
  unfold Lp.rc at h0
  simp only [reachL, inL, List.any_nil, Bool.false_eq_true, if_false, h0, namesO, List.append_nil, List.nil_append]
  have := hr.reach Ls 0 obj [R] (2999 - r.fu) hl hn (fun x hx => by simp only [List.mem_singleton]; rintro rfl; exact hR hx) hF
  rw [show 2999 - r.fu + r.fu = 2999 by have := hr.fuel; omega] at this
  simpa using this
 have hcanon : ∀ s, objAll obj Ls (r.fam Ls s) → Ls.map (canonO (R :: Ls) obj) = (r.fam Ls s).map (O.ren (cin (R :: Ls))) := by
  intro s hF
  rw [objAll_iff] at hF
  refine List.ext_getElem (by simp [hr.len _ _ hl, hl]) fun i h1 h2 => ?_
  have h3 : i < Ls.length := by simpa using h1
  have h4 : i < (r.fam Ls s).length := by rw [hr.len _ _ hl, ← hl]; exact h3
  have h5 := congrArg (fun l => l[i]?) hF
  have h6 : obj Ls[i] = some (r.fam Ls s)[i] := by simpa [h3, h4] using h5
  simp only [List.getElem_map, canonO, h6]
 have e1 : cOs obj (.yld R :: caps.map .v) = r.rc (LI r.m) .ready none :: r.fam (LI r.m) 0 := by
  unfold cOs
  rw [hreach, List.map_cons, hcanon 0 hF, hr.renF _ _ _ hl, cin_next hn hR, hl]
  congr 1
  unfold Lp.rc at h0 ⊢
  simp only [canonO, h0, O.ren]
  rw [hr.renE _ _ hl, cin_next hn hR, hl]
 have e2 : cDs obj (.yld R :: caps.map .v) = .yld [0, 1] :: caps.map .v := by
  unfold cDs
  rw [hreach]
  simp only [D.renL, D.ren, renL_vals, cin, idx, if_true]
 have hpre : (r.it caps).pre (r.rc (LI r.m) .ready none :: r.fam (LI r.m) 0) (.yld [0, 1] :: caps.map .v) := ⟨rfl, rfl⟩
 have hout : ∀ os ds, (r.it caps).out os ds = ⟨(0, r.fin (LI r.m)) :: upds 1 (r.fam (LI r.m) r.e), [], .tup []⟩ := fun _ _ => rfl
 have hinL : ∀ x ∈ Ls, inL (R :: Ls) x = true := fun x hx => inL_iff.2 (List.mem_cons_of_mem _ hx)
 have hsh : shut obj (R :: Ls) = true := by
  unfold shut
  rw [List.all_eq_true]
  intro x hx
  rcases List.mem_cons.1 hx with rfl | hx
  ·rw [h0]
   unfold Lp.rc
   exact hr.closE _ _ hl hinL
  obtain ⟨i, hi, rfl⟩ := List.getElem_of_mem hx
  rw [objAll_iff] at hF
  have h4 : i < (r.fam Ls 0).length := by rw [hr.len _ _ hl, ← hl]; exact hi
  have h5 := congrArg (fun l => l[i]?) hF
  have h6 : obj Ls[i] = some (r.fam Ls 0)[i] := by simpa [hi, h4] using h5
  rw [h6]
  exact hr.closF _ _ _ hl hinL _ (List.getElem_mem h4)
 have hcl : D.closL (inL (R :: Ls)) (.yld R :: caps.map .v) = true := by
  have := closL_vals (inL (R :: Ls)) caps [.yld R]
  simp only [List.singleton_append] at this
  rw [this]
  simp [D.closL, D.clos, inL]
 have hp : ∀ obj', putU (R :: Ls) t (upds 1 (r.fam (LI r.m) r.e)) obj' = setLs Ls (r.fam Ls r.e) obj' := by
  intro obj'
  rw [putU_upds (Ls := Ls) (by rw [hr.len _ _ (LI_len _), hl]) fun i hi => by
   rw [Nat.add_comm, List.getD_cons_succ]; exact getD_mem hi, hr.renF _ _ _ (LI_len _)]
  have : (LI r.m).map (cout (R :: Ls) t) = Ls := by rw [← hl]; exact cout_next R Ls t
  rw [this]
 have hf : O.ren (cout (R :: Ls) t) (r.fin (LI r.m)) = r.fin Ls := by
  unfold Lp.fin Lp.rc
  simp only [O.ren]
  rw [hr.renE _ _ (LI_len _)]
  have : (LI r.m).map (cout (R :: Ls) t) = Ls := by rw [← hl]; exact cout_next R Ls t
  rw [this]
 simp only [CSpec.toSpec, e1, e2, hreach, hout, hsh, hcl, fresh, List.all_nil, Bool.and_self, hpre, and_self, putN, putU, List.getD_cons_zero, hf, hp, D.ren, D.renL]
theorem Lp.it_end {P : Program} {r : Lp} (hr : r.Ok) {σ : S} (h0 : σ.obj [0, 1] = some (r.fin (LI r.m))) (h1 : objAll σ.obj (LI r.m) (r.fam (LI r.m) r.e)) :
  (resAll P σ []).ok ∧ (resAll P σ []).d = .tup [] ∧ endC (r.rc (LI r.m) .ready none :: r.fam (LI r.m) 0) ⟨(0, r.fin (LI r.m)) :: upds 1 (r.fam (LI r.m) r.e), [], .tup []⟩ σ := by
 have hl0 := hr.len (LI r.m) 0 (LI_len _)
 have hle := hr.len (LI r.m) r.e (LI_len _)
 have hget : ∀ i (hi : i < (r.fam (LI r.m) r.e).length), σ.obj [1 + i, 1] = some (r.fam (LI r.m) r.e)[i] := by
  intro i hi
  have h3 := objAll_get h1 i (by rw [LI_len]; omega) hi
  rw [Nat.add_comm]
  simpa only [LI, List.getElem_map, List.getElem_range] using h3
 have hdom : ∀ x ∈ LI r.m, domC (r.m + 1) [] x = true := by
  intro x hx
  obtain ⟨i, hi, rfl⟩ := List.mem_map.1 hx
  have := List.mem_range.1 hi
  simp [domC]
  omega
 refine ⟨fun x hx => by simp at hx, rfl, ⟨⟨?_, objsOk_upds (F := r.fam (LI r.m) r.e) (by omega) (fun i hi o => by simp only [lastU]; rw [if_neg (by omega)]) hget⟩, trivial, ?_⟩⟩
 ·simp only [lastU, if_true]
  rw [h0, lastU_other (by omega)]
 have hall : ∀ (F' : List O) (k : Nat), (∀ o ∈ F', O.clos (domC (r.m + 1) []) o = true) → k + F'.length ≤ r.m + 1 → ((upds k F').all fun x => O.clos (domC (r.m + 1) []) x.2 && decide (x.1 < r.m + 1)) = true := by
  intro F'
  induction F' with
  | nil => intros; rfl
  | cons f fs ih =>
   intro k hf hk
   simp only [List.length_cons] at hk
   simp only [upds, List.all_cons, Bool.and_eq_true, decide_eq_true_eq]
   exact ⟨⟨hf f (by simp), by omega⟩, by have := ih (k + 1) (fun o ho => hf o (by simp [ho])) (by omega); simpa using this⟩
 have h5 := hall (r.fam (LI r.m) r.e) 1 (hr.closF _ _ _ (LI_len _) hdom) (by omega)
 have h6 : O.clos (domC (r.m + 1) []) (r.fin (LI r.m)) = true := hr.closE _ _ (LI_len _) hdom
 have hlen : (r.rc (LI r.m) .ready none :: r.fam (LI r.m) 0).length = r.m + 1 := by rw [List.length_cons, hl0]
 have h7 : D.clos (domC (r.m + 1) []) (.tup []) = true := rfl
 simp only [hlen, h7, List.all_cons, h6, h5, List.all_nil, List.map_nil, distinct, Bool.and_self, Bool.true_and, Bool.and_true]
 simp
theorem cl_iter {P : Program} {Γ : FuncId → Option Spec} (hΓ : ∀ f s, Γ f = some s → SSound P f s) {r : Lp} (hr : r.Ok) {caps : List V} {g : Operand} {ps : Array Tmp} {asg body : Code} {σ : S} {rest : List Code} {K : Exit → S → Prop} (k k' : Nat) {f : FuncId} {Ls : List Name}
  (hc : opC σ g = true) (hg : opD σ g = .v (.clo (.func f) [] caps)) (hne : f ≠ yid) (hs : Γ f = some (r.it caps).toSpec) (hnew : σ.obj (k :: σ.pre) = none)
  (he : (List.range σ.nt).map σ.env = r.env Ls) (hps : ps.toList = r.ps) (ha : asg = r.asg) (hb : body = r.body) (hl : Ls.length = r.m) (hn : Ls.Nodup) (hR : (k :: σ.pre) ∉ Ls) (hF : objAll σ.obj Ls (r.fam Ls 0))
  (hK : ∀ o : O, pdK (thenK (fun σ' => CL P rest σ' K) K) { σ with obj := upd (setLs Ls (r.fam Ls r.e) σ.obj) (k :: σ.pre) (some o) } r.pd) : CL P (.rangeFunc g ps asg body :: rest) σ K := by
 subst ha
 subst hb
 generalize hRn : k :: σ.pre = R at *
 have hagr : ∀ x ∈ Ls, (upd σ.obj R (some (r.rc Ls .ready none))) x = σ.obj x := fun x hx => upd_ne _ _ _ (by rintro rfl; exact hR hx)
 have happ := Lp.it_app hr (caps := caps) (t := k' :: σ.pre) hl hn hR (upd_same σ.obj R (some (r.rc Ls .ready none))) (objAll_agr hF hagr)
 have hrec : O.loop ((List.range σ.nt).map σ.env) ps.toList r.asg r.body .ready none = r.rc Ls .ready none := by unfold Lp.rc; rw [he, hps]
 have hargs : clArgs (opD σ g) [.yld R] = .yld R :: caps.map .v := by rw [hg]; rfl
 have hfn : clFn (opD σ g) = some f := by rw [hg]; simp [clFn, hne]
 have hswap : ∀ (F : List O) (obj : Name → Option O) (a b : Option O), upd (setLs Ls F (upd obj R a)) R b = upd (setLs Ls F obj) R b := by
  intro F obj a b
  funext x
  by_cases h : x = R
  ·subst h; rw [upd_same, upd_same]
  ·rw [upd_ne _ _ _ h, upd_ne _ _ _ h]
   have : ∀ (Ls : List Name) (F : List O) (o1 o2 : Name → Option O), o1 x = o2 x → setLs Ls F o1 x = setLs Ls F o2 x := by
    intro Ls
    induction Ls with
    | nil => intro F o1 o2 h; simpa [setLs] using h
    | cons y ys ih =>
     intro F o1 o2 h
     cases F with
     | nil => simpa [setLs] using h
     | cons f fs =>
      simp only [setLs]
      refine ih fs _ _ ?_
      by_cases e : x = y
      ·subst e; rw [upd_same, upd_same]
      ·rw [upd_ne _ _ _ e, upd_ne _ _ _ e, h]
   exact this Ls F _ _ (upd_ne _ _ _ h)
 refine cl_rangeFunc hΓ k k' hc hfn hne hs (by rw [hRn]; exact hnew) ?_ ?_
 ·rw [hRn, hargs, hrec, happ]; trivial
 ·rw [hRn, hargs, hrec, happ]
  have hfin : setLs Ls (r.fam Ls r.e) (upd (upd σ.obj R (some (r.rc Ls .ready none))) R (some (r.fin Ls))) R = some (r.fin Ls) := by rw [setLs_ne hR, upd_same]
  have hsp : spent (setLs Ls (r.fam Ls r.e) (upd (upd σ.obj R (some (r.rc Ls .ready none))) R (some (r.fin Ls)))) R =
    upd (setLs Ls (r.fam Ls r.e) σ.obj) R (some (r.rc Ls .exhausted r.pd)) := by
   unfold spent
   rw [hfin]
   unfold Lp.fin Lp.rc
   simp only [hswap]
  refine leftK_of r.pd hfin ?_
  rw [hsp]
  exact hK (r.rc Ls .exhausted r.pd)
end Go.Eng
