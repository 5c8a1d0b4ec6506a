import Derived.Test.YtofamdkaipongaaGreatK16
import GoSem.ClaimChange
import Derived.DataReads
import Derived.ChangeReads
import Derived.ProofKit
import Derived.Carry
import Derived.Test.YtofamdkaipongaaGreatRows
import Derived.Test.YtofamdkaipongaaGreatChecked
/- Texts EngN to KW54. -/
set_option linter.all false
namespace Go.Eng
open Go
theorem outH_nil : outH [] = fun _ => none := by
 funext nm
 unfold outH
 split <;> simp
theorem ran_pure {P : Program} {f : FuncId} {b : V} {fl : Bool} (h : Ran P ⟨f, [], [], ⟨[], [], .v b⟩⟩) (hn : ∀ fn, P.funcs[f]? = some fn → (fn.name == "runtime.NumGoroutine") = false) (hy : f < 1000000000) (hfl : b.flat = true) :
  PSound P f ⟨fun xs => xs = [], fun _ => b, fl⟩ := by
 obtain ⟨fn, c, h1, h2, h3, h4⟩ := h
 have h1' : P.funcs[f]? = some fn := h1
 refine psound h1' h2 rfl rfl (enter_of h1' h2 (hn fn h1')) (Nat.ne_of_lt (show f < yid from hy)) (fun _ _ _ => hfl) ?_
 rintro xs rfl _
 refine ⟨Nat.zero_le _, ?_⟩
 have h4' : CW P c (mkS fn.ntmps [0] (fun _ => none) (argsL 0 []) []) (retC P fn.results.toList [] ⟨[], [], .v b⟩) := by
  have := h4
  simp only [outH_nil] at this
  exact this
 refine CW.mono h4' ?_
 intro e σ hK
 have key : ((resAll P σ fn.results.toList).ok ∧ (resAll P σ fn.results.toList).d = .v b ∧ endC [] ⟨[], [], .v b⟩ σ) → (resAll P σ fn.results.toList).ok ∧ (frz 6 σ.obj (resAll P σ fn.results.toList).d).ok ∧ (frz 6 σ.obj (resAll P σ fn.results.toList).d).x = b := by
  rintro ⟨k1, k2, _⟩
  rw [k2]
  exact ⟨k1, trivial, rfl⟩
 cases e with
 | normal => exact key hK
 | ret => exact key hK
 | _ => exact hK.elim
open Go Go.Proofs
theorem s17 : PSound Tryz.prog 17 ⟨fun xs => xs = [], fun _ => .bool true, true⟩ :=
 ran_pure (b := .bool true) keR78 (by
  intro fn h
  have e : Tryz.prog.funcs[17]? = some Tryz.f17 := Tryz.func17
  rw [e] at h
  obtain rfl := Option.some.inj h
  exact (by kernel_rfl : (Tryz.f17.name == "runtime.NumGoroutine") = false)) (by decide) rfl
def aggT (P : Program) (t : TypeId) : Bool := match P.underlying t with | some (.struct _) => true | some (.array _ _) => true | _ => false
def packV (ag : Bool) (xs : List V) : V := if ag then .agg xs else xs.getD 0 default
def tiles (P : Program) : List Field → Nat → Nat → Bool
 | [], off, tot => off == tot
 | f :: r, off, tot => f.offset == off && tiles P r (off + P.cellsOf f.type) tot
def plainT (P : Program) : Nat → TypeId → Bool
 | 0, _ => false
 | n + 1, t => match P.underlying t with
  | some .bool => P.cellsOf t == 1
  | some (.int _) => P.cellsOf t == 1
  | some .string => P.cellsOf t == 1
  | some (.slice e) => P.cellsOf t == 1 && plainT P n e && decide (0 < P.cellsOf e) && (aggT P e || P.cellsOf e == 1)
  | some (.struct fs) => tiles P fs.toList 0 (P.cellsOf t) && fs.toList.all fun f => plainT P n f.type
  | some (.array m e) => P.cellsOf t == m * P.cellsOf e && plainT P n e
  | _ => false
def ShpL (S : TypeId → List V → Prop) : List TypeId → List V → Prop
 | [], xs => xs = []
 | t :: r, xs => ∃ a b, xs = a ++ b ∧ S t a ∧ ShpL S r b
def Shp (P : Program) : Nat → TypeId → List V → Prop
 | 0, _, _ => False
 | n + 1, t, xs => match P.underlying t with
  | some .bool => ∃ b, xs = [.bool b]
  | some (.int k) => ∃ z, xs = [.int k z] ∧ (Lit.int k z).wf = true
  | some .string => ∃ s, xs = [.str s] ∧ s.size ≤ maxLen
  | some (.slice e) => ∃ ls : List (List V), xs = [.sl (ls.map (packV (aggT P e)))] ∧ ls.length ≤ maxLen ∧ ∀ y ∈ ls, Shp P n e y
  | some (.struct fs) => ShpL (Shp P n) (fs.toList.map (·.type)) xs
  | some (.array m e) => ShpL (Shp P n) (List.replicate m e) xs
  | _ => False
structure RepCs (m : Mem) (xs : List V) (cs : List Value) : Prop where
 len : xs.length = cs.length
 rep : ∀ i (h : i < xs.length) (h' : i < cs.length), RepV m xs[i] cs[i]
 one : ∀ x ∈ xs, x.one = true
theorem RepCs.nil (m : Mem) : RepCs m [] [] := ⟨rfl, fun i h => by simp at h, fun x h => by simp at h⟩
theorem RepCs.append {m : Mem} {xs ys : List V} {cs ds : List Value} (h : RepCs m xs cs) (k : RepCs m ys ds) : RepCs m (xs ++ ys) (cs ++ ds) := by
 refine ⟨by simp [h.len, k.len], fun i h1 h2 => ?_, fun x hx => ?_⟩
 ·by_cases hi : i < xs.length
  ·rw [List.getElem_append_left hi, List.getElem_append_left (by rw [← h.len]; exact hi)]
   exact h.rep i hi _
  ·have hl := h.len
   have e : i - xs.length = i - cs.length := by rw [hl]
   rw [List.getElem_append_right (by omega), List.getElem_append_right (by omega)]
   simp only [List.length_append] at h1 h2
   have := k.rep (i - xs.length) (by omega) (by rw [← k.len]; omega)
   simp only [e] at this ⊢
   exact this
 ·rcases List.mem_append.1 hx with hx | hx
  ·exact h.one x hx
  ·exact k.one x hx
theorem RepCs.single {m : Mem} {x : V} {u : Value} (h : RepV m x u) (ho : x.one = true) : RepCs m [x] [u] :=
 ⟨rfl, fun i h1 h2 => by simp at h1; subst h1; exact h, fun y hy => by simp at hy; subst hy; exact ho⟩
theorem mapM_some {α β : Type} {f : α → Option β} : ∀ {l : List α} {r : List β}, l.mapM f = some r → r.length = l.length ∧ ∀ i (h : i < l.length) (h' : i < r.length), f l[i] = some r[i]
 | [], r, h => by
  simp only [List.mapM_nil] at h
  cases h
  exact ⟨rfl, fun i h => by simp at h⟩
 | a :: l, r, h => by
  simp only [List.mapM_cons, Option.bind_eq_bind, Option.bind_eq_some_iff] at h
  obtain ⟨b, hb, bs, hbs, hr⟩ := h
  cases hr
  obtain ⟨h1, h2⟩ := mapM_some hbs
  refine ⟨by simp [h1], fun i hi hi' => ?_⟩
  cases i with
  | zero => exact hb
  | succ i => exact h2 i (by simpa using hi) (by simpa using hi')
theorem tiles_le {P : Program} : ∀ {fs : List Field} {off tot : Nat}, tiles P fs off tot = true → off ≤ tot
 | [], off, tot, h => by simp [tiles] at h; omega
 | f :: r, off, tot, h => by
  simp only [tiles, Bool.and_eq_true] at h
  have := tiles_le h.2
  omega
theorem fields_rep {P : Program} {m : Mem} {S : TypeId → List V → Prop} {cs : List Value} : ∀ {fs : List Field} {off : Nat}, tiles P fs off cs.length = true →
  (∀ f ∈ fs, ∃ xs, S f.type xs ∧ RepCs m xs ((cs.drop f.offset).take (P.cellsOf f.type))) → ∃ xs, ShpL S (fs.map (·.type)) xs ∧ RepCs m xs (cs.drop off)
 | [], off, h, _ => by
  simp [tiles] at h
  subst h
  exact ⟨[], rfl, by simpa using RepCs.nil m⟩
 | f :: r, off, h, hf => by
  simp only [tiles, Bool.and_eq_true, beq_iff_eq] at h
  obtain ⟨h1, h2⟩ := h
  obtain ⟨a, ha, hra⟩ := hf f (by simp)
  obtain ⟨b, hb, hrb⟩ := fields_rep h2 fun g hg => hf g (by simp [hg])
  refine ⟨a ++ b, ⟨a, b, rfl, ha, hb⟩, ?_⟩
  have e : cs.drop off = (cs.drop f.offset).take (P.cellsOf f.type) ++ cs.drop (off + P.cellsOf f.type) := by
   rw [h1, ← List.drop_drop, List.take_append_drop]
  rw [e]
  exact hra.append hrb
theorem array_rep {m : Mem} {S : TypeId → List V → Prop} {e : TypeId} {k : Nat} {cs : List Value} : ∀ (n off : Nat), cs.length = (off + n) * k →
  (∀ i, i < off + n → ∃ xs, S e xs ∧ RepCs m xs ((cs.drop (i * k)).take k)) → ∃ xs, ShpL S (List.replicate n e) xs ∧ RepCs m xs (cs.drop (off * k))
 | 0, off, h, _ => by
  have : cs.drop (off * k) = [] := List.drop_eq_nil_of_le (by rw [h]; simp)
  rw [this]
  exact ⟨[], rfl, RepCs.nil m⟩
 | n + 1, off, h, hf => by
  obtain ⟨a, ha, hra⟩ := hf off (by omega)
  obtain ⟨b, hb, hrb⟩ := array_rep n (off + 1) (by rw [h]; congr 1; omega) fun i hi => hf i (by omega)
  refine ⟨a ++ b, ⟨a, b, rfl, ha, hb⟩, ?_⟩
  have e : cs.drop (off * k) = (cs.drop (off * k)).take k ++ cs.drop ((off + 1) * k) := by
   rw [Nat.succ_mul, ← List.drop_drop, List.take_append_drop]
  rw [e]
  exact hra.append hrb
theorem packV_cells {ag : Bool} {xs : List V} (h : ag = true ∨ xs.length = 1) (ho : ∀ x ∈ xs, x.one = true) : (packV ag xs).cells = xs := by
 cases ag with
 | true => rfl
 | false =>
  rcases h with h | h
  ·cases h
  match xs, h with
  | [x], _ =>
   have := ho x (by simp)
   show x.cells = [x]
   cases x <;> first | rfl | (simp [V.one] at this)
def memOf (w : World) : Mem := fun b off => w.cell? ⟨b, off, none⟩
theorem add_at {a : Addr} (h : a.spot = none) (n : Nat) : a.add n = ⟨a.block, a.off + n, none⟩ := by
 obtain ⟨b, o, s⟩ := a
 simp only at h
 subst h
 unfold Addr.add
 split
 ·rename_i e; subst e; rfl
 ·rfl
theorem rep_trod {H : Type} {enc : TypeId × Value → H} {P : Program} {w : World} {base : Nat} {spare : Nat → Bool} {held : Bool} :
  ∀ (n fuel : Nat) (t : TypeId) (cs : List Value) (r : DataW H × List MemPlace), plainT P n t = true → cs.length = P.cellsOf t → DataW.trod enc P w base spare held fuel t cs = some r → ∃ xs, Shp P n t xs ∧ RepCs (memOf w) xs cs
 | 0, _, _, _, _, h, _, _ => by simp [plainT] at h
 | n + 1, 0, _, _, _, _, _, h => by simp [DataW.trod] at h
 | n + 1, fuel + 1, t, cs, r, hp, hlen, h => by
  rw [DataW.trod_step] at h
  unfold DataW.trodStep at h
  unfold plainT at hp
  unfold Shp
  rcases hu : P.underlying t with _ | u
  ·rw [hu] at hp; simp at hp
  rw [hu] at hp h
  cases u with
  | bool =>
   have hb : ∃ b, cs = [.bool b] := by
    simp only at h
    split at h <;> simp_all
   obtain ⟨b, rfl⟩ := hb
   exact ⟨_, ⟨b, rfl⟩, .single (.bool _) rfl⟩
  | int k =>
   simp only at hp h ⊢
   split at h <;> simp_all
   obtain ⟨⟨rfl, h1⟩, _⟩ := h
   exact ⟨_, ⟨_, rfl, h1⟩, .single (.int _ _) rfl⟩
  | string =>
   simp only at hp h ⊢
   split at h <;> simp_all
   obtain ⟨h1, _⟩ := h
   exact ⟨_, ⟨_, rfl, h1⟩, .single (.str _ h1) rfl⟩
  | slice e =>
   simp only [Bool.and_eq_true, decide_eq_true_eq, Bool.or_eq_true, beq_iff_eq] at hp ⊢
   obtain ⟨⟨⟨_, hpe⟩, hpos⟩, hag⟩ := hp
   split at h <;> simp_all
   ·exact ⟨_, ⟨[], rfl, Nat.zero_le _, by simp⟩, .single (.slnil _ _) rfl⟩
   ·rename_i e' a len cap _ _
    obtain ⟨⟨hb, hlc, hcm⟩, h⟩ := h
    simp only [Option.bind_eq_some_iff] at h
    obtain ⟨elems, hel, _⟩ := h
    obtain ⟨l1, l2⟩ := mapM_some hel
    simp only [List.length_range] at l1
    have hx : ∀ i, i < len → ∃ xs cells, w.cells? base (a.add (i * P.cellsOf e')) (P.cellsOf e') = some cells ∧ Shp P n e' xs ∧ RepCs (memOf w) xs cells := by
     intro i hi
     have h3 := l2 i (by simpa using hi) (by omega)
     simp only [List.getElem_range, Option.bind_eq_some_iff] at h3
     obtain ⟨cells, h4, h5⟩ := h3
     obtain ⟨xs, h6, h7⟩ := rep_trod n fuel _ _ _ hpe (World.cells?_some h4).2.1 h5
     exact ⟨xs, cells, h4, h6, h7⟩
    rcases Nat.eq_zero_or_pos len with hz | hpos'
    ·subst hz
     exact ⟨[.sl []], ⟨[], rfl, Nat.zero_le _, by simp⟩, .single (.slnil _ _) rfl⟩
    have hspot : a.spot = none := by
     obtain ⟨xs, cells, h4, _⟩ := hx 0 hpos'
     have h8 := (World.cells?_some h4).2.2 0 hpos
     have h9 := (World.cells?_some h4).2.1
     have h10 : w.cell? ((a.add (0 * P.cellsOf e')).add 0) = some (cells[0]'(by omega)) := by rw [h8]; exact List.getElem?_eq_getElem (by omega)
     simpa [Addr.add] using World.cell?_spot h10
    let X : Nat → List V := fun i => if h : i < len then Classical.choose (hx i h) else []
    let C : Nat → List Value := fun i => (w.cells? base (a.add (i * P.cellsOf e')) (P.cellsOf e')).getD []
    have hX : ∀ i, i < len → Shp P n e' (X i) ∧ RepCs (memOf w) (X i) (C i) ∧ (C i).length = P.cellsOf e' ∧ ∀ j, j < P.cellsOf e' → w.cell? ⟨a.block, a.off + i * P.cellsOf e' + j, none⟩ = (C i)[j]? := by
     intro i hi
     obtain ⟨cells, h4, h6, h7⟩ := Classical.choose_spec (hx i hi)
     have e1 : X i = Classical.choose (hx i hi) := dif_pos hi
     have e2 : C i = cells := by show (w.cells? _ _ _).getD [] = cells; rw [h4]; rfl
     rw [e1, e2]
     refine ⟨h6, h7, (World.cells?_some h4).2.1, fun j hj => ?_⟩
     have h8 := (World.cells?_some h4).2.2 j hj
     rw [add_at hspot, add_at rfl] at h8
     exact h8
    have hcells : ∀ i, i < len → (packV (aggT P e') (X i)).cells = X i := fun i hi => by
     obtain ⟨h1, h2, h3, _⟩ := hX i hi
     refine packV_cells ?_ h2.one
     rcases hag with h | h
     ·exact .inl h
     ·exact .inr (by rw [h2.len, h3, h])
    refine ⟨[.sl (((List.range len).map X).map (packV (aggT P e')))], ⟨(List.range len).map X, rfl, by simp; omega, fun y hy => ?_⟩, .single ?_ rfl⟩
    ·simp only [List.mem_map, List.mem_range] at hy
     obtain ⟨i, hi, rfl⟩ := hy
     exact (hX i hi).1
    ·obtain ⟨b, o, s⟩ := a
     simp only at hspot hX
     subst hspot
     have key := RepV.sl (m := memOf w) (((List.range len).map X).map (packV (aggT P e'))) b o cap (P.cellsOf e') (fun i j => ((C i)[j]?).getD undef) (by
       intro h; have := congrArg List.length h; simp at this; omega) (by simp; omega) (by simpa using hlc)
      (fun i hi => by
       have hi' : i < len := by simpa using hi
       obtain ⟨h1, h2, h3, _⟩ := hX i hi'
       simp only [List.getElem_map, List.getElem_range]
       rw [hcells i hi', h2.len, h3])
      (fun i j hi hj => by
       have hi' : i < len := by simpa using hi
       obtain ⟨h1, h2, h3, h4⟩ := hX i hi'
       show w.cell? _ = _
       rw [h4 j hj, List.getElem?_eq_getElem (by omega)]
       rfl)
      (fun i j hi hj => by
       have hi' : i < len := by simpa using hi
       obtain ⟨h1, h2, h3, h4⟩ := hX i hi'
       simp only [List.getElem_map, List.getElem_range, hcells i hi'] at hj ⊢
       have hj' : j < (C i).length := by rw [← h2.len]; exact hj
       rw [List.getElem?_eq_getElem hj']
       exact h2.rep j hj hj')
      (fun i hi x hx => by
       have hi' : i < len := by simpa using hi
       simp only [List.getElem_map, List.getElem_range, hcells i hi'] at hx
       exact (hX i hi').2.1.one x hx)
     simpa using key
  | struct fs =>
   simp only [Bool.and_eq_true, List.all_eq_true] at hp h ⊢
   obtain ⟨ht, hall⟩ := hp
   rw [if_pos hlen] at h
   simp only [Option.map_eq_some_iff] at h
   obtain ⟨ys, hys, _⟩ := h
   obtain ⟨l1, l2⟩ := mapM_some hys
   have := fields_rep (m := memOf w) (S := Shp P n) (cs := cs) (fs := fs.toList) (off := 0) (by rw [hlen]; exact ht) fun f hf => by
    obtain ⟨i, hi, rfl⟩ := List.mem_iff_getElem.1 hf
    have h3 := l2 i hi (by omega)
    have hle : P.cellsOf fs.toList[i].type ≤ (cs.drop fs.toList[i].offset).length := by
     have key : ∀ (l : List Field) (off tot : Nat), tiles P l off tot = true → ∀ f ∈ l, f.offset + P.cellsOf f.type ≤ tot := by
      intro l
      induction l with
      | nil => intro _ _ _ f hf; simp at hf
      | cons g r ih =>
       intro off tot h f hf
       simp only [tiles, Bool.and_eq_true, beq_iff_eq] at h
       rcases List.mem_cons.1 hf with rfl | hf
       ·have := tiles_le h.2; omega
       ·exact ih _ _ h.2 f hf
     have := key _ _ _ ht _ hf
     simp only [List.length_drop]
     omega
    exact rep_trod n fuel _ _ _ (hall _ hf) (by rw [List.length_take]; omega) h3
   simpa using this
  | array m e =>
   simp only [Bool.and_eq_true, beq_iff_eq] at hp h ⊢
   obtain ⟨ht, hpe⟩ := hp
   rw [if_pos hlen] at h
   simp only [Option.map_eq_some_iff] at h
   obtain ⟨ys, hys, _⟩ := h
   obtain ⟨l1, l2⟩ := mapM_some hys
   have := array_rep (m := memOf w) (S := Shp P n) (e := e) (k := P.cellsOf e) (cs := cs) m 0 (by rw [hlen, ht]; simp) fun i hi => by
    have hi' : i < m := by omega
    have h3 := l2 i (by simpa using hi') (by rw [l1]; simpa using hi')
    simp only [List.getElem_range] at h3
    have hle : i * P.cellsOf e + P.cellsOf e ≤ cs.length := by
     rw [hlen, ht, ← Nat.succ_mul]; exact Nat.mul_le_mul_right _ hi'
    exact rep_trod n fuel _ _ _ hpe (by rw [List.length_take, List.length_drop]; omega) h3
   simpa using this
  | _ => simp at hp
open Go Go.RowKit Go.ChangeShapes Go.WideShapes Go.ChangeAt
theorem okWide_plain {P : Program} {n : Nat} {t : TypeId} {W : World} {r : Reach} {base : Nat} {v : Value} (hp : plainT P n t = true) (h : Value.okWide P W r base t v) :
  v.cells.size = P.cellsOf t ∧ (aggT P t = true → ∃ cs, v = .agg cs) ∧ (aggT P t = false → v.cells = #[v] ∧ P.cellsOf t = 1) := by
 cases n with
 | zero => simp [plainT] at hp
 | succ n =>
  unfold plainT at hp
  unfold aggT
  rcases hu : P.underlying t with _ | u
  ·rw [hu] at hp; simp at hp
  rw [hu] at hp
  cases u with
  | bool =>
   obtain ⟨b, rfl⟩ := okWide_bool hu h
   simp only [beq_iff_eq] at hp
   exact ⟨by simp [Value.cells, hp], by simp, fun _ => ⟨rfl, hp⟩⟩
  | int k =>
   obtain ⟨b, rfl⟩ := okWide_int hu h
   simp only [beq_iff_eq] at hp
   exact ⟨by simp [Value.cells, hp], by simp, fun _ => ⟨rfl, hp⟩⟩
  | string =>
   obtain ⟨b, rfl⟩ := okWide_string hu h
   simp only [beq_iff_eq] at hp
   exact ⟨by simp [Value.cells, hp], by simp, fun _ => ⟨rfl, hp⟩⟩
  | slice e =>
   obtain ⟨a, len, cap, rfl⟩ := okWide_slice hu h
   simp only [Bool.and_eq_true, beq_iff_eq] at hp
   exact ⟨by simp [Value.cells, hp.1.1.1], by simp, fun _ => ⟨rfl, hp.1.1.1⟩⟩
  | struct fs =>
   simp only [Value.okWide, hu] at h
   obtain ⟨cs, rfl, h2, _⟩ := h
   exact ⟨h2, fun _ => ⟨cs, rfl⟩, fun h => by simp at h⟩
  | array m e =>
   simp only [Value.okWide, hu] at h
   obtain ⟨cs, rfl, h2, _⟩ := h
   exact ⟨h2, fun _ => ⟨cs, rfl⟩, fun h => by simp at h⟩
  | _ => simp at hp
def ArgS (P : Program) (n : Nat) (t : TypeId) (x : V) : Prop := ∃ xs, Shp P n t xs ∧ x = packV (aggT P t) xs
def ArgsS (P : Program) (n : Nat) : List TypeId → List V → Prop
 | [], xs => xs = []
 | t :: r, xs => ∃ x ys, xs = x :: ys ∧ ArgS P n t x ∧ ArgsS P n r ys
theorem arg_rep {H : Type} {enc : TypeId × Value → H} {P : Program} {w : World} {b0 : Nat} {spare : Nat → Bool} {held : Bool} {n : Nat} {t : TypeId} {r : Reach} {base : Nat} {v : Value} {d : DataW H} {ps : List MemPlace}
  (hp : plainT P n t = true) (h : Value.okWide P w r base t v) (ht : DataW.Trod enc P w b0 spare held t v d ps) : ∃ x, ArgS P n t x ∧ RepV (memOf w) x v := by
 obtain ⟨h1, h2, h3⟩ := okWide_plain hp h
 obtain ⟨fuel, hf⟩ := ht
 obtain ⟨xs, k1, k2⟩ := rep_trod n fuel t v.cells.toList _ hp (by simpa using h1) hf
 refine ⟨packV (aggT P t) xs, ⟨xs, k1, rfl⟩, ?_⟩
 cases ha : aggT P t with
 | true =>
  obtain ⟨cs, rfl⟩ := h2 ha
  simp only [packV, if_true]
  refine .agg xs cs (by simpa [Value.cells] using k2.len) k2.one fun i h h' => ?_
  have := k2.rep i h (by simpa [Value.cells] using h')
  simpa [Value.cells] using this
 | false =>
  obtain ⟨h4, h5⟩ := h3 ha
  have hl : xs.length = 1 := by rw [k2.len]; simp [h4]
  match xs, hl with
  | [x], _ =>
   have := k2.rep 0 (by simp) (by simp [h4])
   simp only [packV, Bool.false_eq_true, if_false, List.getD_cons_zero]
   simpa [h4] using this
theorem args_rep {H : Type} {enc : TypeId × Value → H} {P : Program} {w : World} {b0 : Nat} {spare : Nat → Bool} {held : Bool} {n : Nat} {r : Reach} {base : Nat} : ∀ {ts : List TypeId} {vs : List Value} {ds : List (DataW H)} {ps : List MemPlace},
  (∀ t ∈ ts, plainT P n t = true) → (∀ (j : Nat) t v, ts[j]? = some t → vs[j]? = some v → Value.okWide P w r base t v) → DataW.TrodAll enc P w b0 spare held ts vs ds ps → ∃ xs, ArgsS P n ts xs ∧ RepVs (memOf w) xs vs
 | [], vs, ds, ps, _, _, h => by
  cases vs with
  | nil => exact ⟨[], rfl, rfl, fun i h => by simp at h⟩
  | cons => cases ds <;> simp [DataW.TrodAll] at h
 | t :: ts, [], ds, ps, _, _, h => by cases ds <;> simp [DataW.TrodAll] at h
 | t :: ts, v :: vs, [], ps, _, _, h => by simp [DataW.TrodAll] at h
 | t :: ts, v :: vs, d :: ds, ps, hp, hv, h => by
  obtain ⟨p, q, h1, h2, _⟩ := h
  obtain ⟨x, k1, k2⟩ := arg_rep (hp t (by simp)) (hv 0 t v rfl rfl) h1
  obtain ⟨ys, k3, k4, k5⟩ := args_rep (fun t ht => hp t (by simp [ht])) (fun j t v h h' => hv (j + 1) t v (by simpa using h) (by simpa using h')) h2
  refine ⟨x :: ys, ⟨x, ys, rfl, k1, k3⟩, by simp [k4], fun i hi hi' => ?_⟩
  cases i with
  | zero => exact k2
  | succ i => exact k5 i (by simpa using hi) (by simpa using hi')
theorem args_trod {H : Type} {enc : TypeId × Value → H} {P : Program} (hl : laidOutB P = true) {W W' : World} (hb : Below W.heap.size W W') : ∀ {ts : List TypeId} {vs : List Value} {ds : List (DataW H)} {ps : List MemPlace},
  (∀ t ∈ ts, P.readableRec t = true ∧ t < P.types.size) → DataW.TrodAll enc P W 0 (fun _ => true) true ts vs ds ps → (∀ x ∈ ps, x.block < W.heap.size) → DataW.TrodAll enc P W' 0 (fun b => decide (b < W.heap.size)) true ts vs ds ps
 | [], vs, ds, ps, _, h, _ => by
  cases vs <;> cases ds <;> simp_all [DataW.TrodAll]
 | t :: ts, [], ds, ps, _, h, _ => by cases ds <;> simp [DataW.TrodAll] at h
 | t :: ts, v :: vs, [], ps, _, h, _ => by simp [DataW.TrodAll] at h
 | t :: ts, v :: vs, d :: ds, ps, hr, h, hlt => by
  obtain ⟨p, q, h1, h2, rfl⟩ := h
  exact ⟨p, q, Below.trod hl (hr t (by simp)).1 (hr t (by simp)).2 h1 hb (fun x hx => hlt x (by simp [hx])),
   args_trod hl hb (fun t ht => hr t (by simp [ht])) h2 (fun x hx => hlt x (by simp [hx])), rfl⟩
theorem trodAll_len {H : Type} {enc : TypeId × Value → H} {P : Program} {w : World} {b0 : Nat} {spare : Nat → Bool} {held : Bool} : ∀ {ts : List TypeId} {vs : List Value} {ds : List (DataW H)} {ps : List MemPlace}, DataW.TrodAll enc P w b0 spare held ts vs ds ps → ds.length = ts.length
 | [], vs, ds, ps, h => by cases vs <;> cases ds <;> simp_all [DataW.TrodAll]
 | t :: ts, [], ds, ps, h => by cases ds <;> simp [DataW.TrodAll] at h
 | t :: ts, v :: vs, [], ps, h => by simp [DataW.TrodAll] at h
 | t :: ts, v :: vs, d :: ds, ps, h => by
  obtain ⟨p, q, _, h2, _⟩ := h
  simp [trodAll_len h2]
open Go Go.Proofs Go.Proofs.YtofamdkaipongaaGreat Go.RowKit Go.ChangeShapes
theorem kOwn : ownKnob Tryz.prog.godebug = none := by kernel_rfl
theorem kLaid : laidOutB Tryz.prog = true := by kernel_rfl
end Go.Eng
set_option linter.constructorNameAsVariable false
set_option maxRecDepth 100000
namespace Go.Eng
open Go Go.Proofs
theorem shp3 {n : Nat} {xs : List V} (h : Shp Tryz.prog (n + 1) 3 xs) : ∃ k, xs = [vInt k] ∧ (Lit.int .i64 k).wf = true := by
 unfold Shp at h
 simp only [Tryz.underlying3] at h
 exact h
theorem shp31 {n : Nat} {xs : List V} (h : Shp Tryz.prog (n + 2) 31 xs) : ∃ a b, xs = [vInt a, vInt b] := by
 unfold Shp at h
 simp only [Tryz.underlying31] at h
 obtain ⟨x, y, rfl, h1, x2, y2, rfl, h2, rfl⟩ := h
 obtain ⟨a, rfl, _⟩ := shp3 h1
 obtain ⟨b, rfl, _⟩ := shp3 h2
 exact ⟨a, b, rfl⟩
theorem shp33 {n : Nat} {xs : List V} (h : Shp Tryz.prog (n + 2) 33 xs) : ∃ a b, xs = [vInt a, vInt b] := by
 unfold Shp at h
 simp only [Tryz.underlying33] at h
 obtain ⟨x, y, rfl, h1, x2, y2, rfl, h2, rfl⟩ := h
 obtain ⟨a, rfl, _⟩ := shp3 h1
 obtain ⟨b, rfl, _⟩ := shp3 h2
 exact ⟨a, b, rfl⟩
theorem shp35 {n : Nat} {xs : List V} (h : Shp Tryz.prog (n + 3) 35 xs) : ∃ d, V.agg xs = encD d := by
 unfold Shp at h
 simp only [Tryz.underlying35] at h
 obtain ⟨x1, y, rfl, h1, x2, y2, rfl, h2, x3, y3, rfl, h3, x4, y4, rfl, h4, x5, y5, rfl, h5, x6, y6, rfl, h6, x7, y7, rfl, h7, rfl⟩ := h
 obtain ⟨a, b, rfl⟩ := shp31 h1
 obtain ⟨c, rfl, _⟩ := shp3 h2
 obtain ⟨d, rfl, _⟩ := shp3 h3
 obtain ⟨e, rfl, _⟩ := shp3 h4
 obtain ⟨f, g, rfl⟩ := shp33 h5
 obtain ⟨i, rfl, _⟩ := shp3 h6
 obtain ⟨j, rfl, _⟩ := shp3 h7
 exact ⟨⟨a, b, c, d, e, f, g, i, j⟩, rfl⟩
theorem aggT35 : aggT Tryz.prog 35 = true := by kernel_rfl
theorem aggT22 : aggT Tryz.prog 22 = false := by kernel_rfl
theorem aggT39 : aggT Tryz.prog 39 = false := by kernel_rfl
theorem aggT3 : aggT Tryz.prog 3 = false := by kernel_rfl
theorem map_ex {α β : Type} {f : α → β} {P : β → Prop} (h : ∀ y, P y → ∃ x, y = f x) : ∀ {l : List β}, (∀ y ∈ l, P y) → ∃ m : List α, l = m.map f
 | [], _ => ⟨[], rfl⟩
 | y :: r, hl => by
  obtain ⟨x, rfl⟩ := h y (hl y (by simp))
  obtain ⟨m, rfl⟩ := map_ex h (l := r) fun z hz => hl z (by simp [hz])
  exact ⟨x :: m, rfl⟩
theorem arg22 {x : V} (h : ArgS Tryz.prog 6 22 x) : ∃ l : List Deed, x = .sl (l.map encD) := by
 obtain ⟨xs, h1, rfl⟩ := h
 rw [aggT22]
 unfold Shp at h1
 simp only [Tryz.underlying22] at h1
 obtain ⟨ls, rfl, _, h3⟩ := h1
 rw [aggT35]
 obtain ⟨m, hm⟩ := map_ex (f := encD) (P := fun y => ∃ d, y = encD d) (fun y h => h) (l := ls.map (packV true)) fun y hy => by
  obtain ⟨z, hz, rfl⟩ := List.mem_map.1 hy
  exact shp35 (h3 z hz)
 exact ⟨m, by rw [hm]; rfl⟩
theorem arg39 {x : V} (h : ArgS Tryz.prog 6 39 x) : ∃ l : List Int, x = .sl (l.map vInt) ∧ ∀ n ∈ l, (Lit.int .i64 n).wf = true := by
 obtain ⟨xs, h1, rfl⟩ := h
 rw [aggT39]
 unfold Shp at h1
 simp only [Tryz.underlying39] at h1
 obtain ⟨ls, rfl, _, h3⟩ := h1
 rw [aggT3]
 obtain ⟨m, hm⟩ := map_ex (f := fun n : { n : Int // (Lit.int .i64 n).wf = true } => vInt n.1) (P := fun y => ∃ d : { n : Int // (Lit.int .i64 n).wf = true }, y = vInt d.1) (fun y h => h) (l := ls.map (packV false)) fun y hy => by
  obtain ⟨z, hz, rfl⟩ := List.mem_map.1 hy
  obtain ⟨k, rfl, hk⟩ := shp3 (h3 z hz)
  exact ⟨⟨k, hk⟩, rfl⟩
 refine ⟨m.map (·.1), by rw [hm, List.map_map]; rfl, fun n hn => ?_⟩
 obtain ⟨y, _, rfl⟩ := List.mem_map.1 hn
 exact y.2
theorem calls_true {f : FuncId} {s : PSpec} (h : PSound Tryz.prog f s) {W : World} {args : Array Value} {xs : List V} (hr : RepVs (memOf W) xs args.toList) (hp : s.pre xs) (ht : s.fn xs = .bool true) :
  Calls Tryz.prog f args W fun e W' => e = .returned (.bool true) ∧ RowKit.Below W.heap.size W W' := by
 refine (h.calls (memOf W) W xs args (fun b off v hv => hv) hr hp).mono ?_
 rintro e W' ⟨v, m', rfl, hb, _, _, hv⟩
 rw [ht] at hv
 cases hv
 exact ⟨rfl, hb⟩
set_option maxRecDepth 10000
def sIII (g : Int → Int → Int → V) : Spec := (pIII g).toSpec
theorem sIII_app {g : Int → Int → Int → V} {obj : Name → Option O} {t : Name} {a b c : Int} : (sIII g).app obj t [.v (vInt a), .v (vInt b), .v (vInt c)] = ⟨True, .v (g a b c), obj⟩ := by
 simp only [sIII, PSpec.toSpec, pIII, frzL, frz, if_true]
 congr 1
 simp only [eq_iff_iff, iff_true]
 exact ⟨⟨trivial, trivial, trivial, trivial⟩, a, b, c, rfl⟩
noncomputable def K32 : FuncId → Option Spec := fun f => match f with
 | 85 => some (sIII fun a b c => .bool (countsB a b c))
 | 16 => some sRChk
 | 25 => some (pInt isDayB)
 | 155 => some (pInt offB)
 | _ => none
theorem K32_sound : ∀ f s, K32 f = some s → SSound Tryz.prog f s := by
 intro f s h
 unfold K32 at h
 split at h
 ·cases h; exact s85.sound
 ·cases h; exact s16'
 ·cases h; exact s25.sound
 ·cases h; exact s155.sound
 ·cases h
@[go_sem] theorem K32_85 : K32 85 = some (sIII fun a b c => .bool (countsB a b c)) := rfl
@[go_sem] theorem K32_16 : K32 16 = some sRChk := rfl
@[go_sem] theorem K32_25 : K32 25 = some (pInt isDayB) := rfl
@[go_sem] theorem K32_155 : K32 155 = some (pInt offB) := rfl
theorem s117 : PSound Tryz.prog 117 (pDD fun a b => .bool (sameThB a b)) := by
 refine psoundB (rs := [.tmp 4]) Tryz.func117 Tryz.ntmps117 (by rfl) (by kernel_rfl) (by decide) (pDD_flat fun _ _ => rfl) ⟨_, rfl, ?_⟩
 rintro xs ⟨⟨pa, no, ki, lo, pe, dl, dh, kn, un⟩, ⟨pa', no', ki', lo', pe', dl', dh', kn', un'⟩, rfl⟩ hw
 refine ⟨lb rfl, ?_⟩
 have hΓ := K32_sound
 have hP := mixedK
 have ha := fun (g : Int → Bool) (obj : Name → Option O) (t : Name) (n : Int) => pInt_app (g := g) (obj := obj) (t := t) (n := n)
 repeat refine sq ?_
 refine rs hΓ [2,3] [[2, 0], [3, 0]] ?_
 repeat refine sq ?_
 refine rx hΓ [2,3,7] [[2, 0], [3, 0]] (fun K' hK => by simp only [go_sem, ha]; exact fin) ?_
 repeat refine sq ?_
 refine cl_cond rfl rfl (fun hb => ?_) fun hb => ?_
 ·repeat refine sq ?_
  refine rx hΓ [4] [] (fun K' hK => by simp only [go_sem, ha]; exact fin) ?_
  refine cl_ret ?_
  simp only [go_sem, sameThB, hb]
  all_goals first | rfl | (simp; done) | grind
 ·repeat refine sq ?_
  refine cl_skip ?_
  repeat refine sq ?_
  refine rs hΓ [4] [] ?_
  refine cl_ret ?_
  simp only [go_sem, sameThB, hb]
  all_goals first | rfl | (simp; done) | grind
theorem countL_next {l : List Deed} {k : Int} {i : Nat} (h : i < l.length) : countL (l.take (i + 1)) k = if countsB l[i].kn l[i].un k then countL (l.take i) k ++ [l[i]] else countL (l.take i) k := by
 unfold countL
 rw [List.take_add_one, List.getElem?_eq_getElem h, List.filter_append]
 simp only [Option.toList_some, List.filter_cons, List.filter_nil]
 split <;> simp
theorem countL_len (l : List Deed) (k : Int) : (countL l k).length ≤ l.length := List.length_filter_le _ _
set_option maxHeartbeats 4000000 in
theorem s29 : PSound Tryz.prog 29 (pLI okL (fun l k => .sl ((countL l k).map encD)) false) := by
 refine psoundB (rs := [.tmp 4]) Tryz.func29 Tryz.ntmps29 (by rfl) (by kernel_rfl) (by decide) (fun h => by cases h) ⟨_, rfl, ?_⟩
 rintro xs ⟨l, k, rfl, hok⟩ hw
 have hl60 := hok.2.2
 have hl : l.length ≤ maxLen := by unfold maxLen; omega
 refine ⟨lb rfl, ?_⟩
 rw [pLI_fn]
 have hΓ := K32_sound
 repeat refine sq ?_
 refine rs hΓ [0,1] [] ?_
 repeat refine sq ?_
 refine rs hΓ [0,1,5] [] ?_
 refine cl_weakM (σ' := mkS 26 [0] (fun _ => none) [(0, ⟨true, .v (.sl (l.map encD))⟩), (1, ⟨true, .v (vInt k)⟩), (5, ⟨true, .msl [23, 0] 0⟩)] [([23, 0], .arr 9 [])]) (weakM_ghostk 5 [23, 0] 9 (by simp only [go_sem]) (by simp only [go_sem]) [0, 1, 5] [[23, 0]] ?_ ?_) ?_
 ·simp only [go_sem]
 ·simp only [go_sem]
 repeat refine sq ?_
 refine rs hΓ [1,5,8,9,10] [[23, 0]] ?_
 repeat refine sq ?_
 refine cl_block ?_
 repeat refine sq ?_
 refine cl_loop' (fun s : Nat => [(5, ⟨true, .msl [23, 0] (countL (l.take s) k).length⟩), (10, ⟨true, .v (vInt s)⟩)]) (fun s => [([23, 0], .arr 9 ((countL (l.take s) k).map encD))]) (fun s => s ≤ l.length) (fun s => l.length - s) 0 ?_ ?_ ?_ ?_
 ·exact Nat.zero_le _
 ·rfl
 ·rfl
 rintro i hi
 simp only [go_sem]
 repeat refine sq ?_
 refine rs hΓ [1,5,8,9,10,11] [[23, 0]] ?_
 repeat refine sq ?_
 refine cl_cond rfl rfl (fun hb => ?_) fun hb => ?_
 ·have hlt : i < l.length := by simpa using hb
  have hlt' : (i : Int) < l.length := by omega
  clear hb
  repeat refine sq ?_
  refine cl_skip ?_
  repeat refine sq ?_
  refine cl_block ?_
  repeat refine sq ?_
  have hcl : (countL (l.take i) k).length ≤ 60 := by
   have := countL_len (l.take i) k
   simp at this
   omega
  have hn := countL_next (k := k) hlt
  repeat refine sq ?_
  refine rx hΓ [1,5,7,8,9,10] [[7, 0], [23, 0]] (fun K' hK => by simp only [go_sem, map_getD hlt, Int.toNat_natCast, Int.natCast_nonneg, hlt']; exact fin) ?_
  repeat refine sq ?_
  refine rx hΓ [1,5,7,8,9,10,19] [[7, 0], [23, 0]] (fun K' hK => by simp only [go_sem, sIII_app]; exact fin) ?_
  repeat refine sq ?_
  refine cl_cond rfl rfl (fun hb => ?_) fun hb => ?_
  ·repeat refine sq ?_
   refine cl_r hΓ fun K' hK => ?_
   simp only [go_sem, te22, tz35]
   repeat' apply And.intro
   all_goals first | rfl | omega | exact Int.le_refl _ | exact Bool.or_not_self _ | exact Bool.not_or_self _ | exact enc_okI _ | exact enc_ok _ | exact fun x hx => (enc_okI _ x hx).1 | exact fun x hx => (enc_ok _ x hx).1 | (simp only [List.length_take, List.length_append, List.length_map, List.length_drop, List.length_cons, List.length_nil]; done) | (simp only [List.length_take, List.length_append, List.length_map, List.length_drop, List.length_cons, List.length_nil]; omega) | (simp only [List.length_take, List.length_append, List.length_map, List.length_drop, List.length_cons, List.length_nil, maxLen]; omega) | (exact fun _ => by decide) | (exact fun h => ⟨h, by decide⟩) | (simp only [decide_eq_true_eq]; omega) | skip
   refine hK _ ?_
   clear K' hK
   simp only [go_sem]
   refine cl_keep [1,5,8,9,10] [[23, 0]] ?_ ?_ <;> simp only [go_sem]
   repeat refine sq ?_
   refine cl_r hΓ fun K' hK => ?_
   simp only [go_sem]
   repeat refine ⟨ob, ?_⟩
   refine hK _ ?_
   clear K' hK
   simp only [go_sem]
   refine ⟨i + 1, hlt, (show l.length - (i + 1) < l.length - i by omega), ?_⟩
   rw [hn, if_pos hb]
   refine weak_eq [1,5,8,9,10] [[23, 0]] ?_ ?_
   ·simp only [go_sem]
   ·simp only [go_sem, wrap_succ hlt hl, Int.natCast_add, Int.natCast_one]
    all_goals simp [encD]
  ·repeat refine sq ?_
   refine cl_skip ?_
   refine cl_nil ?_
   simp only [go_sem]
   refine cl_keep [1,5,8,9,10] [[23, 0]] ?_ ?_ <;> simp only [go_sem]
   repeat refine sq ?_
   refine cl_r hΓ fun K' hK => ?_
   simp only [go_sem]
   repeat refine ⟨ob, ?_⟩
   refine hK _ ?_
   clear K' hK
   simp only [go_sem]
   refine ⟨i + 1, hlt, (show l.length - (i + 1) < l.length - i by omega), ?_⟩
   rw [hn, if_neg (by simp [hb])]
   refine weak_eq [1,5,8,9,10] [[23, 0]] ?_ ?_ <;> simp only [go_sem, wrap_succ hlt hl, Int.natCast_add, Int.natCast_one]
 ·have hge : i = l.length := by
   have : ¬ (i : Int) < l.length := by simpa using hb
   omega
  subst hge
  clear hb
  repeat refine sq ?_
  refine cl_exit ?_
  simp only [go_sem]
  refine cl_keep [5] [[23, 0]] ?_ ?_ <;> simp only [go_sem]
  rw [List.take_length]
  repeat refine sq ?_
  refine rs hΓ [4] [[23, 0]] ?_
  exact rt
@[go_sem] theorem ta23 : tAgg Tryz.prog 23 = some (true, 2) := by kernel_rfl
@[go_sem] theorem tr23 : tArr Tryz.prog 23 = some (2, 1, false) := by kernel_rfl
@[go_sem] theorem tp23 : tPlaces Tryz.prog 23 = some [(0, 1), (1, 1)] := by kernel_rfl
@[go_sem] theorem tz23 : tZero Tryz.prog 23 = some (.agg #[(.int .i64 0), (.int .i64 0)]) := by kernel_rfl
@[go_sem] theorem ta143 : tAgg Tryz.prog 143 = some (false, 1) := by kernel_rfl
@[go_sem] theorem ta146 : tAgg Tryz.prog 146 = some (false, 1) := by kernel_rfl
@[go_sem] theorem te146 : tElem Tryz.prog 146 = some (33, 2, 16) := by kernel_rfl
@[go_sem] theorem tl146 : tLen Tryz.prog 146 = some 0 := by kernel_rfl
@[go_sem] theorem tz146 : tZero Tryz.prog 146 = some (.slice none 0 0) := by kernel_rfl
@[go_sem] theorem ta100 : tAgg Tryz.prog 100 = some (false, 1) := by kernel_rfl
@[go_sem] theorem ta61 : tAgg Tryz.prog 61 = some (false, 1) := by kernel_rfl
@[go_sem] theorem ta69 : tAgg Tryz.prog 69 = some (false, 1) := by kernel_rfl
@[go_sem] theorem ta56 : tAgg Tryz.prog 56 = some (false, 1) := by kernel_rfl
def clashB (a b : Deed) : Bool := sameThB a b && decide (b.dh < a.dl)
theorem sDDb_v {g : Deed → Deed → V} {obj : Name → Option O} {t : Name} {a b : Deed} : (sDDb g).app obj t [.v (encD a), .v (encD b)] = ⟨True, .v (g a b), obj⟩ := by
 simp only [sDDb, PSpec.toSpec, frzL, frz, pDD, encD, if_true]
 congr 1
 simp only [eq_iff_iff, iff_true]
 exact ⟨⟨trivial, trivial, trivial⟩, a, b, rfl⟩
theorem valid_kind {d : Deed} (h : isDeedB d = true) : (offB d.ki = true ∧ d.lo = 0 ∧ 1 ≤ d.pe ∧ d.pe ≤ 99) ∨ (offB d.ki = false ∧ 1 ≤ d.lo ∧ d.lo ≤ 3) := by
 unfold isDeedB at h
 simp only [Bool.and_eq_true] at h
 have h7 := h.2
 unfold offB
 by_cases h1 : d.ki = 1 ∨ d.ki = 2
 ·rw [if_pos h1] at h7
  simp only [Bool.and_eq_true, beq_iff_eq, inI_iff] at h7
  refine .inl ⟨by simp; exact h1, h7.1, h7.2.1, h7.2.2⟩
 ·rw [if_neg h1] at h7
  refine .inr ⟨by simp; omega, ?_⟩
  by_cases h2 : d.ki = 3 ∨ d.ki = 4
  ·rw [if_pos h2] at h7
   simp only [Bool.and_eq_true, inI_iff] at h7
   exact h7.1
  ·rw [if_neg h2] at h7
   by_cases h3 : d.ki = 5 ∨ d.ki = 6
   ·rw [if_pos h3] at h7
    simp only [Bool.and_eq_true, inI_iff] at h7
    exact h7.1
   ·rw [if_neg h3] at h7; cases h7
theorem same_is {a b : Deed} (ha : isDeedB a = true) (hb : isDeedB b = true) : sameThB a b = isOfB b a.lo a.pe := by
 have h1 := valid_kind ha
 have h2 := valid_kind hb
 unfold sameThB isOfB
 rcases h1 with ⟨h1, h3, _⟩ | ⟨h1, h3⟩ <;> rcases h2 with ⟨h2, h4, _⟩ | ⟨h2, h4⟩ <;> simp only [h1, h2, Bool.true_and, Bool.false_and, if_true, Bool.false_eq_true, if_false]
 ·rw [if_neg (by omega), h4]; simp; exact Bool.beq_comm ..
 ·rw [if_neg (by omega)]
  have : (b.lo == 0) = false := by simp; omega
  rw [this]; rfl
 ·rw [if_pos (by omega), h4]
  have : (a.lo == 0) = false := by simp; omega
  have h5 : ((0 : Int) == a.lo) = false := by simp; omega
  rw [this, h5]
 ·rw [if_pos (by omega)]
  exact Bool.beq_comm ..
theorem clash_contra {a b : Deed} (ha : isDeedB a = true) (hb : isDeedB b = true) : clashB a b = contraB a b := by
 unfold clashB contraB
 rw [same_is ha hb]
theorem pairI_congr {p q : Deed → Deed → Bool} {l : List Deed} (h : ∀ a ∈ l, ∀ b ∈ l, p a b = q a b) : pairI p l = pairI q l := by
 cases hp : pairI p l with
 | none =>
  refine (pairI_none fun i k hi hk hik => ?_).symm
  rw [← h _ (List.getElem_mem hi) _ (List.getElem_mem hk)]
  exact pairI_not hp i k hi hk hik
 | some x =>
  obtain ⟨hi, hk, hik, hc, hm⟩ := pairI_is hp
  refine (pairI_some (i := x.1) (k := x.2) ⟨hi, hk, hik, ?_, fun i' k' hi' hk' hik' hcc => ?_⟩).symm
  ·rw [← h _ (List.getElem_mem hi) _ (List.getElem_mem hk)]; exact hc
  ·rw [← h _ (List.getElem_mem hi') _ (List.getElem_mem hk')]; exact hm i' k' hi' hk' hik' hcc
theorem countL_valid {l : List Deed} (h : okL l) (k : Int) : ∀ d ∈ countL l k, isDeedB d = true := fun d hd => h.2.1 d (List.mem_filter.1 hd).1
theorem pairI_clash {l : List Deed} (h : okL l) (k : Int) : pairI clashB (countL l k) = pairI contraB (countL l k) :=
 pairI_congr fun a ha b hb => clash_contra (countL_valid h k a ha) (countL_valid h k b hb)
theorem reach2 {obj : Name → Option O} {nm b b' : Name} {n sz g : Nat} {L : List V} {cs cs' : List V} (hb : b ≠ nm) (hb' : b' ≠ nm) (hbb : b' ≠ b) (ho : obj nm = some (.arr sz L)) (h : obj b = some (.box (cs.map .v))) (h' : obj b' = some (.box (cs'.map .v))) :
  reach obj [.msl nm n, .clo (.func g) [] [.ref b 0, .ref b' 0]] = [nm, b, b'] := by
 have h0 : namesL [.msl nm n, .clo (.func g) [] [.ref b 0, .ref b' 0]] = [nm, b, b'] := rfl
 have hn : ∀ cs : List V, namesL (cs.map D.v) = [] := by
  intro cs
  induction cs with
  | nil => rfl
  | cons x r ih => simp only [List.map_cons, namesL, namesD, List.nil_append, ih]
 have e1 : (nm == b) = false := by simpa using fun e => hb e.symm
 have e2 : (nm == b') = false := by simpa using fun e => hb' e.symm
 have e3 : (b == b') = false := by simpa using fun e => hbb e.symm
 unfold reach
 rw [h0]
 show reachL obj (2996 + 1 + 1 + 1 + 1) [nm, b, b'] [] = [nm, b, b']
 simp only [reachL, inL, List.any_nil, Bool.false_eq_true, if_false, ho, h, h', namesO, List.nil_append, hn, List.any_cons, e1, e2, e3, Bool.or_self, List.cons_append]
theorem del_app2 {obj : Name → Option O} {t nm b b' : Name} {n : Nat} {l : List Deed} {k j : Int} (hl : l.length < 1000000) (hb : b ≠ nm) (hb' : b' ≠ nm) (hbb : b' ≠ b) (ho : obj nm = some (.arr 9 (l.map encD))) (hn : n = l.length) (h : obj b = some (.box [.v (vInt k)])) (h' : obj b' = some (.box [.v (vInt j)])) :
  ((∀ d ∈ l, pO 143 [.box [.v (vInt k)], .box [.v (vInt j)]] d = false) → sDel.app obj t [.msl nm n, .clo (.func 143) [] [.ref b 0, .ref b' 0]] = ⟨True, .msl nm l.length, obj⟩) ∧
  (¬ (∀ d ∈ l, pO 143 [.box [.v (vInt k)], .box [.v (vInt j)]] d = false) → sDel.app obj t [.msl nm n, .clo (.func 143) [] [.ref b 0, .ref b' 0]] = ⟨True, .v (.sl ((keepD (pO 143 [.box [.v (vInt k)], .box [.v (vInt j)]]) l).map encD)), upd obj nm (some (.farr 9 (delZ (pO 143 [.box [.v (vInt k)], .box [.v (vInt j)]]) l)))⟩) := by
 subst hn
 have hr := reach2 (n := l.length) (g := 143) (cs := [vInt k]) (cs' := [vInt j]) hb hb' hbb ho h h'
 have h1 : cOs obj [.msl nm l.length, .clo (.func 143) [] [.ref b 0, .ref b' 0]] = .arr 9 (l.map encD) :: [.box [.v (vInt k)], .box [.v (vInt j)]] := by
  unfold cOs
  rw [hr]
  simp only [List.map_cons, List.map_nil, canonO, ho, h, h', O.ren, D.renL, D.ren]
 have i1 : idx [nm, b, b'] b = 1 := by simp [idx, hb.symm]
 have i0 : idx [nm, b, b'] nm = 0 := by simp [idx]
 have i2 : idx [nm, b, b'] b' = 2 := by simp [idx, hb'.symm, hbb.symm]
 have h2 : cDs obj [.msl nm l.length, .clo (.func 143) [] [.ref b 0, .ref b' 0]] = [.msl [0, 1] l.length, .clo (.func 143) [] [.ref [1, 1] 0, .ref [2, 1] 0]] := by
  unfold cDs
  rw [hr]
  simp only [D.renL, D.ren, cin, i0, i1, i2]
 have hf : famO 143 [.box [.v (vInt k)], .box [.v (vInt j)]] [.ref [1, 1] 0, .ref [2, 1] 0] := .inr (.inl ⟨rfl, rfl, k, j, rfl⟩)
 have hpre : delC.pre (.arr 9 (l.map encD) :: [.box [.v (vInt k)], .box [.v (vInt j)]]) [.msl [0, 1] l.length, .clo (.func 143) [] [.ref [1, 1] 0, .ref [2, 1] 0]] := .inl ⟨l, 143, _, _, rfl, rfl, hf, hl⟩
 have e1 : ∀ o : Out, o.new = [] → (shut obj [nm, b, b'] && D.closL (inL [nm, b, b']) [.msl nm l.length, .clo (.func 143) [] [.ref b 0, .ref b' 0]] && fresh obj t o.new) = true := by
  intro o h0
  rw [h0]
  simp [shut, ho, h, h', O.clos, D.closL, D.clos, inL, fresh]
 constructor
 ·intro ha
  have hout : delC.out (.arr 9 (l.map encD) :: [.box [.v (vInt k)], .box [.v (vInt j)]]) [.msl [0, 1] l.length, .clo (.func 143) [] [.ref [1, 1] 0, .ref [2, 1] 0]] = ⟨[], [], .msl [0, 1] l.length⟩ := by
   rw [delC_out]; unfold delOut; rw [if_pos ha]
  unfold sDel
  simp only [CSpec.toSpec, h1, h2, hr, hout, e1 ⟨[], [], .msl [0, 1] l.length⟩ rfl, putU, putN, D.ren, cout, List.getD_cons_zero]
  congr 1
  simp only [eq_iff_iff, iff_true]
  exact ⟨trivial, hpre⟩
 ·intro ha
  have hout : delC.out (.arr 9 (l.map encD) :: [.box [.v (vInt k)], .box [.v (vInt j)]]) [.msl [0, 1] l.length, .clo (.func 143) [] [.ref [1, 1] 0, .ref [2, 1] 0]] = ⟨[(0, .farr 9 (delZ (pO 143 [.box [.v (vInt k)], .box [.v (vInt j)]]) l))], [], .v (.sl ((keepD (pO 143 [.box [.v (vInt k)], .box [.v (vInt j)]]) l).map encD))⟩ := by
   rw [delC_out]; unfold delOut; rw [if_neg ha]
  unfold sDel
  simp only [CSpec.toSpec, h1, h2, hr, hout, e1 ⟨[(0, .farr 9 (delZ (pO 143 [.box [.v (vInt k)], .box [.v (vInt j)]]) l))], [], .v (.sl ((keepD (pO 143 [.box [.v (vInt k)], .box [.v (vInt j)]]) l).map encD))⟩ rfl, putU, putN, D.ren, O.ren, List.getD_cons_zero]
  congr 1
  simp only [eq_iff_iff, iff_true]
  exact ⟨trivial, hpre⟩
theorem del_appN2 {obj : Name → Option O} {t b b' : Name} {k j : Int} (hbb : b' ≠ b) (h : obj b = some (.box [.v (vInt k)])) (h' : obj b' = some (.box [.v (vInt j)])) :
  sDel.app obj t [.nilsl, .clo (.func 143) [] [.ref b 0, .ref b' 0]] = ⟨True, .nilsl, obj⟩ := by
 have hr : reach obj [.nilsl, .clo (.func 143) [] [.ref b 0, .ref b' 0]] = [b, b'] := by
  have h0 : namesL [.nilsl, .clo (.func 143) [] [.ref b 0, .ref b' 0]] = [b, b'] := rfl
  have e3 : (b == b') = false := by simpa using fun e => hbb e.symm
  unfold reach
  rw [h0]
  show reachL obj (2997 + 1 + 1 + 1) [b, b'] [] = [b, b']
  simp only [reachL, inL, List.any_nil, Bool.false_eq_true, if_false, h, h', namesO, namesL, namesD, List.nil_append, List.any_cons, e3, Bool.or_self, List.cons_append]
 have h1 : cOs obj [.nilsl, .clo (.func 143) [] [.ref b 0, .ref b' 0]] = [.box [.v (vInt k)], .box [.v (vInt j)]] := by
  unfold cOs
  rw [hr]
  simp only [List.map_cons, List.map_nil, canonO, h, h', O.ren, D.renL, D.ren]
 have i0 : idx [b, b'] b = 0 := by simp [idx]
 have i1 : idx [b, b'] b' = 1 := by simp [idx, hbb.symm]
 have h2 : cDs obj [.nilsl, .clo (.func 143) [] [.ref b 0, .ref b' 0]] = [.nilsl, .clo (.func 143) [] [.ref [0, 1] 0, .ref [1, 1] 0]] := by
  unfold cDs
  rw [hr]
  simp only [D.renL, D.ren, cin, i0, i1]
 have hpre : delC.pre [.box [.v (vInt k)], .box [.v (vInt j)]] [.nilsl, .clo (.func 143) [] [.ref [0, 1] 0, .ref [1, 1] 0]] := .inr ⟨143, _, rfl, .inr (.inl ⟨rfl, rfl, k, j, rfl⟩)⟩
 have hout : delC.out [.box [.v (vInt k)], .box [.v (vInt j)]] [.nilsl, .clo (.func 143) [] [.ref [0, 1] 0, .ref [1, 1] 0]] = ⟨[], [], .nilsl⟩ := by
  simp only [delC]
 have e1 : (shut obj [b, b'] && D.closL (inL [b, b']) [.nilsl, .clo (.func 143) [] [.ref b 0, .ref b' 0]] && fresh obj t []) = true := by
  simp [shut, h, h', O.clos, D.closL, D.clos, inL, fresh]
 unfold sDel
 simp only [CSpec.toSpec, h1, h2, hr, hout, e1, putU, putN, D.ren]
 congr 1
 simp only [eq_iff_iff, iff_true]
 exact ⟨trivial, hpre⟩
def pLII (P : List Deed → Prop) (f : List Deed → Int → Int → V) (fl : Bool) : PSpec := ⟨fun xs => ∃ (l : List Deed) (k j : Int), xs = [.sl (l.map encD), vInt k, vInt j] ∧ P l, fun xs => match xs with | [.sl l, .int _ k, .int _ j] => f (l.map decD) k j | _ => .bool false, fl⟩
theorem pLII_fn (P : List Deed → Prop) (f : List Deed → Int → Int → V) (fl : Bool) (l : List Deed) (k j : Int) : (pLII P f fl).fn [.sl (l.map encD), vInt k, vInt j] = f l k j := by
 simp only [pLII, decD_map]
set_option maxHeartbeats 2000000 in
theorem s86 : PSound Tryz.prog 86 (pLII (fun l => l.length ≤ 60) (fun l lo pe => .sl ((thrL l lo pe).map encD)) false) := by
 refine psoundB (rs := [.tmp 6]) Tryz.func86 Tryz.ntmps86 (by rfl) (by kernel_rfl) (by decide) (fun h => by cases h) ⟨_, rfl, ?_⟩
 rintro xs ⟨l, k, j, rfl, hl⟩ hw
 refine ⟨lb rfl, ?_⟩
 rw [pLII_fn]
 have hk : keepD (pO 143 [.box [.v (vInt k)], .box [.v (vInt j)]]) l = thrL l k j := by unfold keepD thrL pO; simp
 have hΓ := K25_sound
 have hP := mixedK
 repeat refine sq ?_
 refine rs hΓ [0,4,5] [[4, 0], [5, 0]] ?_
 have hd := fun (obj : Name → Option O) (t : Name) (ho : obj [8, 0] = _) (h : obj [4, 0] = _) (h' : obj [5, 0] = _) => del_app2 (obj := obj) (t := t) (nm := [8, 0]) (b := [4, 0]) (b' := [5, 0]) (n := l.length) (l := l) (k := k) (j := j) (by omega) (by decide) (by decide) (by decide) ho rfl h h'
 have hn := fun (obj : Name → Option O) (t : Name) (h : obj [4, 0] = _) (h' : obj [5, 0] = _) => del_appN2 (obj := obj) (t := t) (b := [4, 0]) (b' := [5, 0]) (k := k) (j := j) (by decide) h h'
 rw [hk] at hd
 rcases l with _ | ⟨d0, l0⟩
 ·repeat refine sq ?_
  refine rx hΓ [6] [[8, 0]] (fun K' hK => by simp only [go_sem, cloneSpec, aClone, hn]; exact fin) ?_
  refine cl_ret ?_
  simp only [go_sem]
  rfl
 simp only [List.length_cons] at hd hl
 by_cases hall : ∀ d ∈ d0 :: l0, pO 143 [.box [.v (vInt k)], .box [.v (vInt j)]] d = false
 ·rw [← hk, keep_none hall]
  have hd1 := fun (obj : Name → Option O) (t : Name) ho h h' => (hd obj t ho h h').1 hall
  simp only [List.map_cons, encD] at hd1
  clear hd
  repeat refine sq ?_
  refine cl_rs hΓ [6] [[8, 0]] fun K' hK => ?_
  simp only [go_sem, cloneSpec, aClone, te22, tz35, hd1]
  repeat' apply And.intro
  all_goals first | rfl | omega | exact Int.le_refl _ | exact Bool.or_not_self _ | exact Bool.not_or_self _ | exact enc_okI _ | exact enc_ok _ | exact fun x hx => (enc_okI _ x hx).1 | exact fun x hx => (enc_ok _ x hx).1 | (simp only [List.length_take, List.length_append, List.length_map, List.length_drop, List.length_cons, List.length_nil]; done) | (simp only [List.length_take, List.length_append, List.length_map, List.length_drop, List.length_cons, List.length_nil]; omega) | (simp only [List.length_take, List.length_append, List.length_map, List.length_drop, List.length_cons, List.length_nil, maxLen]; omega) | (exact fun _ => by decide) | (exact fun h => ⟨h, by decide⟩) | (simp only [decide_eq_true_eq]; omega) | skip
  refine hK _ ?_ ?_ <;> clear K' hK <;> simp only [go_sem]
  exact rt
 ·have hd1 := fun (obj : Name → Option O) (t : Name) ho h h' => (hd obj t ho h h').2 hall
  simp only [List.map_cons, encD] at hd1
  clear hd
  repeat refine sq ?_
  refine cl_rs hΓ [6] [] fun K' hK => ?_
  simp only [go_sem, cloneSpec, aClone, te22, tz35, hd1]
  repeat' apply And.intro
  all_goals first | rfl | omega | exact Int.le_refl _ | exact Bool.or_not_self _ | exact Bool.not_or_self _ | exact enc_okI _ | exact enc_ok _ | exact fun x hx => (enc_okI _ x hx).1 | exact fun x hx => (enc_ok _ x hx).1 | (simp only [List.length_take, List.length_append, List.length_map, List.length_drop, List.length_cons, List.length_nil]; done) | (simp only [List.length_take, List.length_append, List.length_map, List.length_drop, List.length_cons, List.length_nil]; omega) | (simp only [List.length_take, List.length_append, List.length_map, List.length_drop, List.length_cons, List.length_nil, maxLen]; omega) | (exact fun _ => by decide) | (exact fun h => ⟨h, by decide⟩) | (simp only [decide_eq_true_eq]; omega) | skip
  refine hK _ ?_ ?_ <;> clear K' hK <;> simp only [go_sem]
  refine cl_ret ?_
  simp only [go_sem]
  all_goals rfl
def loM (l : List Deed) : Int := l.foldl (fun m d => if d.dl > m then d.dl else m) 0
def hiM (l : List Deed) : Int := l.foldl (fun m d => if d.dh < m then d.dh else m) 100000
theorem loM_next {l : List Deed} {i : Nat} (h : i < l.length) : loM (l.take (i + 1)) = if l[i].dl > loM (l.take i) then l[i].dl else loM (l.take i) := by
 unfold loM
 rw [List.take_add_one, List.getElem?_eq_getElem h, List.foldl_append]
 rfl
theorem hiM_next {l : List Deed} {i : Nat} (h : i < l.length) : hiM (l.take (i + 1)) = if l[i].dh < hiM (l.take i) then l[i].dh else hiM (l.take i) := by
 unfold hiM
 rw [List.take_add_one, List.getElem?_eq_getElem h, List.foldl_append]
 rfl
def pLN (f : List Deed → Nat → V) : PSpec := ⟨fun xs => ∃ (l : List Deed) (n : Nat), xs = [.sl (l.map encD), vInt n] ∧ n < l.length, fun xs => match xs with | [.sl l, .int _ n] => f (l.map decD) n.toNat | _ => .bool false, true⟩
theorem pLN_fn (f : List Deed → Nat → V) (l : List Deed) (n : Nat) : (pLN f).fn [.sl (l.map encD), vInt n] = f l n := by
 simp only [pLN, decD_map, Int.toNat_natCast]
set_option maxHeartbeats 2000000 in
theorem s88 : PSound Tryz.prog 88 (pLN fun l n => vInt (loM (l.take (n + 1)))) := by
 refine psoundB (rs := [.tmp 4]) Tryz.func88 Tryz.ntmps88 (by rfl) (by kernel_rfl) (by decide) (by rintro _ xs ⟨l, n, rfl, _⟩; rfl) ⟨_, rfl, ?_⟩
 rintro xs ⟨l, n, rfl, hn⟩ hw
 have hl : l.length ≤ maxLen := by have := hw.1.1; simpa using this
 refine ⟨lb rfl, ?_⟩
 rw [pLN_fn]
 have hΓ := @no_sound Tryz.prog
 have hn1 : ((n + 1 : Nat) : Int) ≤ l.length := by omega
 have e2 : (List.map encD l).take (n + 1) = (l.take (n + 1)).map encD := List.map_take.symm
 obtain ⟨r, hr, hrm⟩ : ∃ r, r = l.take (n + 1) ∧ r.length ≤ maxLen := ⟨_, rfl, by simp; omega⟩
 rw [← hr] at e2 ⊢
 repeat refine sq ?_
 refine rs hΓ [0,1] [] ?_
 repeat refine sq ?_
 refine rs hΓ [0,1,5] [] ?_
 repeat refine sq ?_
 refine cl_rs hΓ [5,11,12,13] [] fun K' hK => ?_
 simp only [go_sem, wrap_succ hn hl, Int.toNat_natCast, Int.natCast_nonneg, hn1, e2, te116]
 repeat' apply And.intro
 all_goals first | rfl | omega | exact Int.le_refl _ | exact Bool.or_not_self _ | exact Bool.not_or_self _ | exact enc_okI _ | exact enc_ok _ | exact fun x hx => (enc_okI _ x hx).1 | exact fun x hx => (enc_ok _ x hx).1 | (simp only [List.length_take, List.length_append, List.length_map, List.length_drop, List.length_cons, List.length_nil]; done) | (simp only [List.length_take, List.length_append, List.length_map, List.length_drop, List.length_cons, List.length_nil]; omega) | (simp only [List.length_take, List.length_append, List.length_map, List.length_drop, List.length_cons, List.length_nil, maxLen]; omega) | (exact fun _ => by decide) | (exact fun h => ⟨h, by decide⟩) | (simp only [decide_eq_true_eq]; omega) | skip
 refine hK _ ?_ ?_ <;> clear K' hK <;> simp only [go_sem]
 repeat refine sq ?_
 refine cl_block ?_
 repeat refine sq ?_
 refine cl_loop' (fun s : Nat => [(5, ⟨true, .v (vInt (loM (r.take s)))⟩), (13, ⟨true, .v (vInt s)⟩)]) (fun s => []) (fun s => s ≤ r.length) (fun s => r.length - s) 0 ?_ ?_ ?_ ?_
 ·exact Nat.zero_le _
 ·rfl
 ·rfl
 rintro i hi
 simp only [go_sem]
 repeat refine sq ?_
 refine rs hΓ [5,11,12,13,14] [] ?_
 repeat refine sq ?_
 refine cl_cond rfl rfl (fun hb => ?_) fun hb => ?_
 ·have hlt : i < r.length := by simpa using hb
  have hlt' : (i : Int) < r.length := by omega
  clear hb
  repeat refine sq ?_
  refine cl_skip ?_
  repeat refine sq ?_
  refine cl_block ?_
  repeat refine sq ?_
  refine rx hΓ [5,7,11,12,13] [[7, 0]] (fun K' hK => by simp only [go_sem, map_getD hlt, Int.toNat_natCast, Int.natCast_nonneg, hlt']; exact fin) ?_
  repeat refine sq ?_
  refine re hΓ [5,11,12,13] [] (fun _ h => h) ?_
  repeat refine sq ?_
  refine cl_r hΓ fun K' hK => ?_
  simp only [go_sem]
  repeat refine ⟨ob, ?_⟩
  refine hK _ ?_
  clear K' hK
  simp only [go_sem]
  refine ⟨i + 1, hlt, (show r.length - (i + 1) < r.length - i by omega), ?_⟩
  rw [loM_next hlt]
  refine weak_eq [5,11,12,13] [] ?_ ?_ <;> simp only [go_sem, wrap_succ hlt hrm, Int.natCast_add, Int.natCast_one]
 ·have hge : i = r.length := by
   have : ¬ (i : Int) < r.length := by simpa using hb
   omega
  subst hge
  clear hb
  repeat refine sq ?_
  refine cl_exit ?_
  simp only [go_sem]
  refine cl_keep [5] [] ?_ ?_ <;> simp only [go_sem]
  rw [List.take_length]
  repeat refine sq ?_
  refine rs hΓ [4] [] ?_
  exact rt
set_option maxHeartbeats 2000000 in
theorem s89 : PSound Tryz.prog 89 (pLN fun l n => vInt (hiM (l.drop n))) := by
 refine psoundB (rs := [.tmp 4]) Tryz.func89 Tryz.ntmps89 (by rfl) (by kernel_rfl) (by decide) (by rintro _ xs ⟨l, n, rfl, _⟩; rfl) ⟨_, rfl, ?_⟩
 rintro xs ⟨l, n, rfl, hn⟩ hw
 have hl : l.length ≤ maxLen := by have := hw.1.1; simpa using this
 refine ⟨lb rfl, ?_⟩
 rw [pLN_fn]
 have hΓ := @no_sound Tryz.prog
 have hn1 : (n : Int) ≤ l.length := by omega
 have e2 : (List.map encD l).drop n = (l.drop n).map encD := List.map_drop.symm
 have e3 : List.take (l.length - n) ((l.drop n).map encD) = (l.drop n).map encD := List.take_of_length_le (by simp)
 obtain ⟨r, hr, hrm⟩ : ∃ r, r = l.drop n ∧ r.length ≤ maxLen := ⟨_, rfl, by simp; omega⟩
 rw [← hr] at e2 e3 ⊢
 repeat refine sq ?_
 refine rs hΓ [0,1] [] ?_
 repeat refine sq ?_
 refine rs hΓ [0,1,5] [] ?_
 repeat refine sq ?_
 refine cl_rs hΓ [5,10,11,12] [] fun K' hK => ?_
 simp only [go_sem, Int.toNat_natCast, Int.natCast_nonneg, hn1, e2, e3, te116]
 repeat' apply And.intro
 all_goals first | rfl | omega | exact Int.le_refl _ | exact Bool.or_not_self _ | exact Bool.not_or_self _ | exact enc_okI _ | exact enc_ok _ | exact fun x hx => (enc_okI _ x hx).1 | exact fun x hx => (enc_ok _ x hx).1 | (simp only [List.length_take, List.length_append, List.length_map, List.length_drop, List.length_cons, List.length_nil]; done) | (simp only [List.length_take, List.length_append, List.length_map, List.length_drop, List.length_cons, List.length_nil]; omega) | (simp only [List.length_take, List.length_append, List.length_map, List.length_drop, List.length_cons, List.length_nil, maxLen]; omega) | (exact fun _ => by decide) | (exact fun h => ⟨h, by decide⟩) | (simp only [decide_eq_true_eq]; omega) | skip
 refine hK _ ?_ ?_ <;> clear K' hK <;> simp only [go_sem]
 repeat refine sq ?_
 refine cl_block ?_
 repeat refine sq ?_
 refine cl_loop' (fun s : Nat => [(5, ⟨true, .v (vInt (hiM (r.take s)))⟩), (12, ⟨true, .v (vInt s)⟩)]) (fun s => []) (fun s => s ≤ r.length) (fun s => r.length - s) 0 ?_ ?_ ?_ ?_
 ·exact Nat.zero_le _
 ·rfl
 ·rfl
 rintro i hi
 simp only [go_sem]
 repeat refine sq ?_
 refine rs hΓ [5,10,11,12,13] [] ?_
 repeat refine sq ?_
 refine cl_cond rfl rfl (fun hb => ?_) fun hb => ?_
 ·have hlt : i < r.length := by simpa using hb
  have hlt' : (i : Int) < r.length := by omega
  clear hb
  repeat refine sq ?_
  refine cl_skip ?_
  repeat refine sq ?_
  refine cl_block ?_
  repeat refine sq ?_
  refine rx hΓ [5,7,10,11,12] [[7, 0]] (fun K' hK => by simp only [go_sem, map_getD hlt, Int.toNat_natCast, Int.natCast_nonneg, hlt']; exact fin) ?_
  repeat refine sq ?_
  refine re hΓ [5,10,11,12] [] (fun _ h => h) ?_
  repeat refine sq ?_
  refine cl_r hΓ fun K' hK => ?_
  simp only [go_sem]
  repeat refine ⟨ob, ?_⟩
  refine hK _ ?_
  clear K' hK
  simp only [go_sem]
  refine ⟨i + 1, hlt, (show r.length - (i + 1) < r.length - i by omega), ?_⟩
  rw [hiM_next hlt]
  refine weak_eq [5,10,11,12] [] ?_ ?_ <;> simp only [go_sem, wrap_succ hlt hrm, Int.natCast_add, Int.natCast_one]
 ·have hge : i = r.length := by
   have : ¬ (i : Int) < r.length := by simpa using hb
   omega
  subst hge
  clear hb
  repeat refine sq ?_
  refine cl_exit ?_
  simp only [go_sem]
  refine cl_keep [5] [] ?_ ?_ <;> simp only [go_sem]
  rw [List.take_length]
  repeat refine sq ?_
  refine rs hΓ [4] [] ?_
  exact rt
noncomputable def contV (l : List Deed) (k : Int) : V := if (confP (countL l k)).isSome then .tup [.sl [], vInt 13] else .tup [.sl ((countL l k).map encD), vInt 0]
theorem s83 : PSound Tryz.prog 83 (pLI okL contV false) := by
 refine psoundB (rs := [.tmp 4, .tmp 5]) Tryz.func83 Tryz.ntmps83 (by rfl) (by kernel_rfl) (by decide) (fun h => by cases h) ⟨_, rfl, ?_⟩
 rintro xs ⟨l, k, rfl, hok⟩ hw
 refine ⟨lb rfl, ?_⟩
 rw [pLI_fn]
 have hΓ := K30_sound
 have hc := fun (obj : Name → Option O) (t : Name) (f : List Deed → Int → V) (fl : Bool) => sLI_app (P := okL) (f := f) (fl := fl) (obj := obj) (t := t) (k := k) hok
 have hf := fun (obj : Name → Option O) (t : Name) (f : List Deed → V) (c : List Deed) => sL_app (P := fun _ => True) (f := f) (obj := obj) (t := t) (l := c) trivial
 repeat refine sq ?_
 refine rs hΓ [0,1] [] ?_
 repeat refine sq ?_
 refine rx hΓ [6] [] (fun K' hK => by simp only [go_sem, hc]; exact fin) ?_
 repeat refine sq ?_
 refine rx hΓ [6,8] [] (fun K' hK => by simp only [go_sem, hf, confV_eq]; exact fin) ?_
 repeat refine sq ?_
 refine rs hΓ [6,17] [] ?_
 repeat refine sq ?_
 refine cl_cond rfl rfl (fun hb => ?_) fun hb => ?_
 ·repeat refine sq ?_
  refine rs hΓ [4,5] [] ?_
  refine cl_ret ?_
  simp only [go_sem]
  unfold contV; rw [if_pos hb]
 ·repeat refine sq ?_
  refine cl_skip ?_
  repeat refine sq ?_
  refine rs hΓ [4,5] [] ?_
  refine cl_ret ?_
  simp only [go_sem]
  unfold contV; rw [if_neg (by simp [hb])]
noncomputable def sLII (P : List Deed → Prop) (f : List Deed → Int → Int → V) (fl : Bool) : Spec := (pLII P f fl).toSpec
theorem sLII_app {P : List Deed → Prop} {f : List Deed → Int → Int → V} {fl : Bool} {obj : Name → Option O} {t : Name} {l : List Deed} {k j : Int} (h : P l) : (sLII P f fl).app obj t [.v (.sl (l.map encD)), .v (vInt k), .v (vInt j)] = ⟨True, .v (f l k j), obj⟩ := by
 simp only [sLII, PSpec.toSpec, frzL, frz, pLII_fn, ite_self]
 congr 1
 simp only [eq_iff_iff, iff_true]
 exact ⟨⟨trivial, trivial, trivial, trivial⟩, l, k, j, rfl, h⟩
noncomputable def sLN (f : List Deed → Nat → V) : Spec := (pLN f).toSpec
theorem sLN_app {f : List Deed → Nat → V} {obj : Name → Option O} {t : Name} {l : List Deed} {n : Nat} (h : n < l.length) : (sLN f).app obj t [.v (.sl (l.map encD)), .v (vInt n)] = ⟨True, .v (f l n), obj⟩ := by
 simp only [sLN, PSpec.toSpec, frzL, frz, pLN_fn]
 simp only [pLN, if_true]
 congr 1
 simp only [eq_iff_iff, iff_true]
 exact ⟨⟨trivial, trivial, trivial⟩, l, n, rfl, h⟩
def trueP (q : Deed → Deed → Bool) (c : List Deed) (ds : List Int) : Prop :=
 ds.length = c.length ∧ ∀ i (h : i < c.length) (h' : i < ds.length), inI ds[i] c[i].dl c[i].dh = true ∧ ∀ k (hk : k < i), (q c[k] c[i] && decide (ds[k] > ds[i])) = false
open Classical in
noncomputable def trueB (q : Deed → Deed → Bool) (c : List Deed) (ds : List Int) : Bool := decide (trueP q c ds)
def q1 (a b : Deed) : Bool := isOfB b a.lo a.pe
theorem trueP_congr {p q : Deed → Deed → Bool} {c : List Deed} {ds : List Int} (h : ∀ a ∈ c, ∀ b ∈ c, p a b = q a b) : trueP p c ds ↔ trueP q c ds := by
 unfold trueP
 refine and_congr Iff.rfl (forall_congr' fun i => forall_congr' fun hi => forall_congr' fun hi' => and_congr Iff.rfl (forall_congr' fun k => forall_congr' fun hk => ?_))
 rw [h _ (List.getElem_mem _) _ (List.getElem_mem _)]
def sIn : Spec := sIII fun a b c => .bool (inI a b c)
theorem pIn_is : pIn = pIII fun a b c => .bool (inI a b c) := rfl
theorem s151' : SSound Tryz.prog 151 sIn := by have := s151; rw [pIn_is] at this; exact this.sound
theorem s79' : SSound Tryz.prog 79 sIn := by have := s79; rw [pIn_is] at this; exact this.sound
theorem sIn_app {obj : Name → Option O} {t : Name} {a b c : Int} : sIn.app obj t [.v (vInt a), .v (vInt b), .v (vInt c)] = ⟨True, .v (.bool (inI a b c)), obj⟩ := sIII_app
noncomputable def K40 : FuncId → Option Spec := fun f => match f with
 | 151 => some sIn
 | 79 => some sIn
 | 144 => some (sDII fun d k j => .bool (isOfB d k j))
 | 117 => some (sDDb fun a b => .bool (sameThB a b))
 | _ => none
theorem K40_sound : ∀ f s, K40 f = some s → SSound Tryz.prog f s := by
 intro f s h
 unfold K40 at h
 split at h
 ·cases h; exact s151'
 ·cases h; exact s79'
 ·cases h; exact s144.sound
 ·cases h; exact s117.sound
 ·cases h
@[go_sem] theorem K40_151 : K40 151 = some sIn := rfl
@[go_sem] theorem K40_79 : K40 79 = some sIn := rfl
@[go_sem] theorem K40_144 : K40 144 = some (sDII fun d k j => .bool (isOfB d k j)) := rfl
@[go_sem] theorem K40_117 : K40 117 = some (sDDb fun a b => .bool (sameThB a b)) := rfl
theorem trueB_not {q : Deed → Deed → Bool} {c : List Deed} {ds : List Int} (h : ¬ trueP q c ds) : trueB q c ds = false := by unfold trueB; simp [h]
theorem trueB_yes {q : Deed → Deed → Bool} {c : List Deed} {ds : List Int} (h : trueP q c ds) : trueB q c ds = true := by unfold trueB; simp [h]
set_option maxHeartbeats 8000000 in
theorem s118 : PSound Tryz.prog 118 (pDays fun c ds => .bool (trueB q1 c ds)) := by
 refine psoundB (rs := [.tmp 4]) Tryz.func118 Tryz.ntmps118 (by rfl) (by kernel_rfl) (by decide) (by rintro _ xs ⟨l, g, rfl⟩; rfl) ⟨_, rfl, ?_⟩
 rintro xs ⟨c, ds, rfl⟩ hw
 have hl : c.length ≤ maxLen := by have := hw.1.1; simpa using this
 refine ⟨lb rfl, ?_⟩
 rw [pDays_fn]
 have hΓ := K40_sound
 have hP := mixedK
 have hin := fun (obj : Name → Option O) (t : Name) (a b c : Int) => sIn_app (obj := obj) (t := t) (a := a) (b := b) (c := c)
 repeat refine sq ?_
 refine rs hΓ [0,1] [] ?_
 repeat refine sq ?_
 refine rs hΓ [0,1,12] [] ?_
 repeat refine sq ?_
 refine cl_cond rfl rfl (fun hb => ?_) fun hb => ?_
 ·repeat refine sq ?_
  refine rs hΓ [4] [] ?_
  refine cl_ret ?_
  simp only [go_sem]
  have hne : ds.length ≠ c.length := by
   have : ((ds.length : Int) != (c.length : Int)) = true := hb
   simp at this; omega
  rw [trueB_not fun h => hne h.1]
 have hlen : ds.length = c.length := by
  have : ((ds.length : Int) != (c.length : Int)) = false := hb
  simp at this; omega
 clear hb
 repeat refine sq ?_
 refine cl_skip ?_
 repeat refine sq ?_
 refine rs hΓ [0,1,13,14,15] [] ?_
 repeat refine sq ?_
 refine cl_block ?_
 repeat refine sq ?_
 refine cl_loop' (fun s : Nat => [(15, ⟨true, .v (vInt s)⟩)]) (fun s => []) (fun s => s ≤ c.length ∧ ∀ i (h : i < c.length) (h' : i < ds.length), i < s → inI ds[i] c[i].dl c[i].dh = true ∧ ∀ k (hk : k < i), (q1 c[k] c[i] && decide (ds[k] > ds[i])) = false) (fun s => c.length - s) 0 ?_ ?_ ?_ ?_
 ·exact ⟨Nat.zero_le _, fun i h h' hj => by omega⟩
 ·rfl
 ·rfl
 rintro i ⟨hi, hz⟩
 simp only [go_sem]
 repeat refine sq ?_
 refine rs hΓ [0,1,13,14,15,16] [] ?_
 repeat refine sq ?_
 refine cl_cond rfl rfl (fun hb => ?_) fun hb => ?_
 ·have hlt : i < c.length := by simpa using hb
  have hlt' : (i : Int) < c.length := by omega
  clear hb
  repeat refine sq ?_
  refine cl_skip ?_
  repeat refine sq ?_
  refine cl_block ?_
  repeat refine sq ?_
  have hds : i < ds.length := by omega
  have hds' : (i : Int) < ds.length := by omega
  repeat refine sq ?_
  refine rx hΓ [0,1,5,6,13,14,15] [[6, 0]] (fun K' hK => by simp only [go_sem, map_getD hlt, Int.toNat_natCast, Int.natCast_nonneg, hlt']; exact fin) ?_
  repeat refine sq ?_
  refine cl_ds hΓ hP [[], [], [0, 1], [0, 1, 2], [], [4], [4, 5], [], [7], [7, 8], [0, 1, 2, 3, 4, 5, 6, 7, 8, 9], [0, 1, 2, 3, 4, 5, 6, 7, 8, 9, 10]] [0,1,5,6,13,14,15,31] [[6, 0]] (by kernel_rfl) fun K' hK => ?_
  simp only [go_sem, map_getD hds, Int.toNat_natCast, Int.natCast_nonneg, hds', hin]
  repeat refine ⟨ob, ?_⟩
  first | refine ⟨by rfl, ?_⟩ | skip
  refine hK _ ?_ ?_ <;> clear K' hK <;> simp only [go_sem, map_getD hds, Int.toNat_natCast, Int.natCast_nonneg, hds', hin]
  repeat refine sq ?_
  refine cl_cond rfl rfl (fun hb => ?_) fun hb => ?_
  ·repeat refine sq ?_
   refine rs hΓ [4] [] ?_
   refine cl_ret ?_
   simp only [go_sem]
   rw [trueB_not fun h => by
    have h1 := (h.2 i hlt hds).1
    rw [h1] at hb; cases hb]
  have hin1 : inI ds[i] c[i].dl c[i].dh = true := by simpa using hb
  clear hb
  repeat refine sq ?_
  refine cl_skip ?_
  repeat refine sq ?_
  refine rs hΓ [0,1,5,6,13,14,15,32,33] [[6, 0]] ?_
  repeat refine sq ?_
  refine cl_block ?_
  repeat refine sq ?_
  refine cl_loop' (fun s : Nat => [(33, ⟨true, .v (vInt s)⟩)]) (fun s => []) (fun s => s ≤ i ∧ ∀ k (hk : k < i), k < s → (q1 c[k] c[i] && decide (ds[k] > ds[i])) = false) (fun s => i - s) 0 ?_ ?_ ?_ ?_
  ·exact ⟨Nat.zero_le _, fun k hk h => by omega⟩
  ·rfl
  ·rfl
  rintro j ⟨hj, hzj⟩
  simp only [go_sem]
  repeat refine sq ?_
  refine rs hΓ [0,1,5,6,13,14,15,32,33,34] [[6, 0]] ?_
  repeat refine sq ?_
  refine cl_cond rfl rfl (fun hb => ?_) fun hb => ?_
  ·have hlt : j < i := by simpa using hb
   have hlt' : (j : Int) < i := by omega
   clear hb
   repeat refine sq ?_
   refine cl_skip ?_
   repeat refine sq ?_
   refine cl_block ?_
   repeat refine sq ?_
   have hjc : j < c.length := by omega
   have hjc' : (j : Int) < c.length := by omega
   have hjd : j < ds.length := by omega
   have hjd' : (j : Int) < ds.length := by omega
   have hic : i < c.length := by omega
   have hcc := fun (g : Deed → Int → Int → V) (obj : Name → Option O) (t : Name) (n m : Int) => sDII_app (g := g) (obj := obj) (t := t) (k := n) (j := m) (d := c[i]) (dx := rdD c[i]) rfl
   unfold rdD at hcc
   repeat refine sq ?_
   refine rs hΓ [0,1,5,6,7,13,14,15,32,33] [[6, 0]] ?_
   repeat refine sq ?_
   refine cl_ds hΓ hP [[], [], [], [1, 2], [1, 2, 3], [1, 2, 3, 4], [], [], [6, 7], [6, 7, 8], [6, 7, 8, 9], [0, 1, 2, 3, 4, 5, 6, 7, 8, 9, 10], [0, 1, 2, 3, 4, 5, 6, 7, 8, 9, 10, 11], [0, 1, 2, 3, 4, 5, 6, 7, 8, 9, 10, 11, 12], [0, 1, 2, 3, 4, 5, 6, 7, 8, 9, 10, 11, 12], [0, 1, 2, 3, 4, 5, 6, 7, 8, 9, 10, 11, 12, 13, 14], [0, 1, 2, 3, 4, 5, 6, 7, 8, 9, 10, 11, 12, 13, 14, 15], [0, 1, 2, 3, 4, 5, 6, 7, 8, 9, 10, 11, 12], [0, 1, 2, 3, 4, 5, 6, 7, 8, 9, 10, 11, 12], [0, 1, 2, 3, 4, 5, 6, 7, 8, 9, 10, 11, 12, 17, 18], [0, 1, 2, 3, 4, 5, 6, 7, 8, 9, 10, 11, 12, 17, 18, 19], [0, 1, 2, 3, 4, 5, 6, 7, 8, 9, 10, 11, 12, 13, 14, 15, 16, 17, 18, 19, 20], [0, 1, 2, 3, 4, 5, 6, 7, 8, 9, 10, 11, 12, 13, 14, 15, 16, 17, 18, 19, 20, 21]] [0,1,5,6,13,14,15,32,33,58] [[6, 0]] (by kernel_rfl) fun K' hK => ?_
   simp only [go_sem, map_getD hjc, map_getD hjd, map_getD hds, Int.toNat_natCast, Int.natCast_nonneg, hjc', hjd', hds', hcc]
   repeat refine ⟨ob, ?_⟩
   first | refine ⟨by rfl, ?_⟩ | skip
   refine hK _ ?_ ?_ <;> clear K' hK <;> simp only [go_sem, map_getD hjc, map_getD hjd, map_getD hds, Int.toNat_natCast, Int.natCast_nonneg, hjc', hjd', hds', hcc]
   repeat refine sq ?_
   refine cl_cond rfl rfl (fun hb => ?_) fun hb => ?_
   ·repeat refine sq ?_
    refine rs hΓ [4] [] ?_
    refine cl_ret ?_
    simp only [go_sem]
    rw [trueB_not fun h => by
     have h1 := (h.2 i hic hds).2 j hlt
     have h2 : (q1 c[j] c[i] && decide (ds[j] > ds[i])) = true := hb
     rw [h1] at h2; cases h2]
   ·have hn : (q1 c[j] c[i] && decide (ds[j] > ds[i])) = false := hb
    clear hb
    repeat refine sq ?_
    refine cl_skip ?_
    refine cl_nil ?_
    simp only [go_sem]
    refine cl_keep [0,1,5,6,13,14,15,32,33] [[6, 0]] ?_ ?_ <;> simp only [go_sem]
    repeat refine sq ?_
    refine cl_r hΓ fun K' hK => ?_
    simp only [go_sem]
    repeat refine ⟨ob, ?_⟩
    refine hK _ ?_
    clear K' hK
    simp only [go_sem]
    refine ⟨j + 1, ⟨hlt, fun k hk h => ?_⟩, (show i - (j + 1) < i - j by omega), ?_⟩
    ·by_cases e : k = j
     ·subst e; exact hn
     ·exact hzj k hk (by omega)
    refine weak_eq [0,1,5,6,13,14,15,32,33] [[6, 0]] ?_ ?_ <;> simp only [go_sem, wrap_succ hlt (show i ≤ maxLen by omega), Int.natCast_add, Int.natCast_one]
  ·have hge : j = i := by
    have : ¬ (j : Int) < i := by simpa using hb
    omega
   subst hge
   clear hb
   repeat refine sq ?_
   refine cl_exit ?_
   simp only [go_sem]
   refine cl_keep [0,1,13,14,15] [] ?_ ?_ <;> simp only [go_sem]
   repeat refine sq ?_
   refine cl_r hΓ fun K' hK => ?_
   simp only [go_sem]
   repeat refine ⟨ob, ?_⟩
   refine hK _ ?_
   clear K' hK
   simp only [go_sem]
   refine ⟨j + 1, ⟨by omega, fun i' h h' hi' => ?_⟩, (show c.length - (j + 1) < c.length - j by omega), ?_⟩
   ·by_cases e : i' = j
    ·subst e; exact ⟨hin1, fun k hk => hzj k hk hk⟩
    ·exact hz i' h h' (by omega)
   refine weak_eq [0,1,13,14,15] [] ?_ ?_ <;> simp only [go_sem, wrap_succ (show j < c.length by omega) hl, Int.natCast_add, Int.natCast_one]
 ·have hge : i = c.length := by
   have : ¬ (i : Int) < c.length := by simpa using hb
   omega
  subst hge
  clear hb
  repeat refine sq ?_
  refine cl_exit ?_
  simp only [go_sem]
  refine cl_keep [] [] ?_ ?_ <;> simp only [go_sem]
  repeat refine sq ?_
  refine rs hΓ [4] [] ?_
  refine cl_ret ?_
  simp only [go_sem]
  rw [trueB_yes ⟨hlen, fun i h h' => hz i h h' h⟩]
noncomputable def sDays2 (f : List Deed → List Int → V) : Spec := (pDays f).toSpec
theorem sDays2_app {f : List Deed → List Int → V} {obj : Name → Option O} {t : Name} {l : List Deed} {ds : List Int} : (sDays2 f).app obj t [.v (.sl (l.map encD)), .v (.sl (ds.map vInt))] = ⟨True, .v (f l ds), obj⟩ := by
 simp only [sDays2, PSpec.toSpec, frzL, frz, pDays_fn]
 simp only [pDays, if_true]
 congr 1
 simp only [eq_iff_iff, iff_true]
 exact ⟨⟨trivial, trivial, trivial⟩, l, ds, rfl⟩
noncomputable def K41 : FuncId → Option Spec := fun f => match f with
 | 70 => some sDaysI
 | 81 => some (sLI okL (fun l k => .sl ((countL l k).map encD)) false)
 | 29 => some (sLI okL (fun l k => .sl ((countL l k).map encD)) false)
 | 118 => some (sDays2 fun c ds => .bool (trueB q1 c ds))
 | 117 => some (sDDb fun a b => .bool (sameThB a b))
 | _ => none
theorem K41_sound : ∀ f s, K41 f = some s → SSound Tryz.prog f s := by
 intro f s h
 unfold K41 at h
 split at h
 ·cases h; exact s70.sound
 ·cases h; exact s81.sound
 ·cases h; exact s29.sound
 ·cases h; exact s118.sound
 ·cases h; exact s117.sound
 ·cases h
@[go_sem] theorem K41_70 : K41 70 = some sDaysI := rfl
@[go_sem] theorem K41_81 : K41 81 = some (sLI okL (fun l k => .sl ((countL l k).map encD)) false) := rfl
@[go_sem] theorem K41_29 : K41 29 = some (sLI okL (fun l k => .sl ((countL l k).map encD)) false) := rfl
@[go_sem] theorem K41_118 : K41 118 = some (sDays2 fun c ds => .bool (trueB q1 c ds)) := rfl
@[go_sem] theorem K41_117 : K41 117 = some (sDDb fun a b => .bool (sameThB a b)) := rfl
noncomputable def ctI (q : Deed → Deed → Bool) (l : List Deed) (k : Int) (ds : List Int) : Int := if daysI l [k] = 0 then (if trueB q (countL l k) ds then 0 else 17) else daysI l [k]
def pLKD (f : List Deed → Int → List Int → V) : PSpec := ⟨fun xs => ∃ (l : List Deed) (k : Int) (b : List Int), xs = [.sl (l.map encD), vInt k, .sl (b.map vInt)], fun xs => match xs with | [.sl l, .int _ k, .sl b] => f (l.map decD) k (b.map decI) | _ => .bool false, true⟩
theorem pLKD_fn (f : List Deed → Int → List Int → V) (l : List Deed) (k : Int) (b : List Int) : (pLKD f).fn [.sl (l.map encD), vInt k, .sl (b.map vInt)] = f l k b := by
 simp only [pLKD, decD_map, decI_map]
theorem s57 : PSound Tryz.prog 57 (pLKD fun l k ds => vInt (ctI q1 l k ds)) := by
 refine psoundB (rs := [.tmp 6]) Tryz.func57 Tryz.ntmps57 (by rfl) (by kernel_rfl) (by decide) (by rintro _ xs ⟨l, k, b, rfl⟩; rfl) ⟨_, rfl, ?_⟩
 rintro xs ⟨l, k, ds, rfl⟩ hw
 refine ⟨lb rfl, ?_⟩
 rw [pLKD_fn]
 have hΓ := K41_sound
 have h2 := fun (f : List Deed → List Int → V) (obj : Name → Option O) (t : Name) => sDays2_app (f := f) (obj := obj) (t := t) (l := countL l k) (ds := ds)
 repeat refine sq ?_
 refine rs hΓ [0,1,2] [] ?_
 repeat refine sq ?_
 refine rx hΓ [0,1,2,7] [] (fun K' hK => by simp only [go_sem, sDaysI_one]; exact fin) ?_
 repeat refine sq ?_
 refine rs hΓ [0,1,2,7,13] [] ?_
 repeat refine sq ?_
 refine cl_cond rfl rfl (fun hb => ?_) fun hb => ?_
 ·repeat refine sq ?_
  refine rs hΓ [6] [] ?_
  refine cl_ret ?_
  simp only [go_sem]
  have hn : ¬ daysI l [k] = 0 := by simpa using hb
  unfold ctI; rw [if_neg hn]
 have hz : daysI l [k] = 0 := by simpa using hb
 have hok := days_ok hz
 clear hb
 repeat refine sq ?_
 refine cl_skip ?_
 have hc := fun (obj : Name → Option O) (t : Name) (f : List Deed → Int → V) (fl : Bool) => sLI_app (P := okL) (f := f) (fl := fl) (obj := obj) (t := t) (k := k) hok
 repeat refine sq ?_
 refine rx hΓ [20] [] (fun K' hK => by simp only [go_sem, hc, h2]; exact fin) ?_
 repeat refine sq ?_
 refine cl_cond rfl rfl (fun hb => ?_) fun hb => ?_
 ·repeat refine sq ?_
  refine rs hΓ [6] [] ?_
  refine cl_ret ?_
  simp only [go_sem]
  unfold ctI; rw [if_pos hz, if_neg (by simpa using hb)]
 ·repeat refine sq ?_
  refine cl_skip ?_
  repeat refine sq ?_
  refine rs hΓ [6] [] ?_
  refine cl_ret ?_
  simp only [go_sem]
  unfold ctI; rw [if_pos hz, if_pos (by simpa using hb)]
def rLo (d : Deed) (X : List Deed) : Int := X.foldl (fun m o => if sameThB d o then (if o.dl > m then o.dl else m) else m) d.dl
def rHi (d : Deed) (X : List Deed) : Int := X.foldl (fun m o => if sameThB d o then (if o.dh < m then o.dh else m) else m) d.dh
def dayR (c : List Deed) (i : Nat) : Int × Int := (rLo (c.getD i zeroD) (c.take i), rHi (c.getD i zeroD) (c.drop (i + 1)))
def daysRL (c : List Deed) : List (Int × Int) := (List.range c.length).map (dayR c)
theorem rLo_next {c : List Deed} {d : Deed} {i k : Nat} (hk : k < c.length) : rLo d (c.take (min (k + 1) i)) = if k < i then (if sameThB d c[k] then (if c[k].dl > rLo d (c.take (min k i)) then c[k].dl else rLo d (c.take (min k i))) else rLo d (c.take (min k i))) else rLo d (c.take (min k i)) := by
 by_cases h : k < i
 ·rw [if_pos h, show min (k + 1) i = k + 1 by omega, show min k i = k by omega]
  unfold rLo
  rw [List.take_add_one, List.getElem?_eq_getElem hk, List.foldl_append]
  rfl
 ·rw [if_neg h, show min (k + 1) i = i by omega, show min k i = i by omega]
theorem rHi_next {c : List Deed} {d : Deed} {i k : Nat} (hk : k < c.length) : rHi d ((c.take (k + 1)).drop (i + 1)) = if i < k then (if sameThB d c[k] then (if c[k].dh < rHi d ((c.take k).drop (i + 1)) then c[k].dh else rHi d ((c.take k).drop (i + 1))) else rHi d ((c.take k).drop (i + 1))) else rHi d ((c.take k).drop (i + 1)) := by
 by_cases h : i < k
 ·rw [if_pos h]
  unfold rHi
  rw [List.take_add_one, List.getElem?_eq_getElem hk, List.drop_append_of_le_length (by simp; omega), List.foldl_append]
  rfl
 ·rw [if_neg h, List.drop_eq_nil_of_le (by simp; omega), List.drop_eq_nil_of_le (by simp; omega)]
set_option maxHeartbeats 8000000 in
theorem s116 : PSound Tryz.prog 116 (pLen (fun c => c.length ≤ 60) fun c => .sl ((daysRL c).map vIt)) := by
 refine psoundB (rs := [.tmp 2]) Tryz.func116 Tryz.ntmps116 (by rfl) (by kernel_rfl) (by decide) (fun h => by cases h) ⟨_, rfl, ?_⟩
 rintro xs ⟨c, rfl, hc60⟩ hw
 have hl : c.length ≤ maxLen := by unfold maxLen; omega
 refine ⟨lb rfl, ?_⟩
 rw [pLen_fn]
 have hΓ := K41_sound
 have hP := mixedK
 repeat refine sq ?_
 refine rs hΓ [0] [] ?_
 repeat refine sq ?_
 refine rs hΓ [0,3] [] ?_
 refine cl_weakM (σ' := mkS 62 [0] (fun _ => none) [(0, ⟨true, .v (.sl (c.map encD))⟩), (3, ⟨true, .msl [59, 0] 0⟩)] [([59, 0], .arr 2 [])]) (weakM_ghostk 3 [59, 0] 2 (by simp only [go_sem]) (by simp only [go_sem]) [0, 3] [[59, 0]] ?_ ?_) ?_
 ·simp only [go_sem]
 ·simp only [go_sem]
 repeat refine sq ?_
 refine rs hΓ [0,3,9,10,11] [[59, 0]] ?_
 repeat refine sq ?_
 refine cl_block ?_
 repeat refine sq ?_
 refine cl_loop' (fun s : Nat => [(3, ⟨true, .msl [59, 0] s⟩), (11, ⟨true, .v (vInt s)⟩)]) (fun s => [([59, 0], .arr 2 (((List.range s).map (dayR c)).map vIt))]) (fun s => s ≤ c.length) (fun s => c.length - s) 0 ?_ ?_ ?_ ?_
 ·exact Nat.zero_le _
 ·rfl
 ·rfl
 rintro i hi
 simp only [go_sem]
 repeat refine sq ?_
 refine rs hΓ [0,3,9,10,11,12] [[59, 0]] ?_
 repeat refine sq ?_
 refine cl_cond rfl rfl (fun hb => ?_) fun hb => ?_
 ·have hlt : i < c.length := by simpa using hb
  have hlt' : (i : Int) < c.length := by omega
  clear hb
  repeat refine sq ?_
  refine cl_skip ?_
  repeat refine sq ?_
  refine cl_block ?_
  repeat refine sq ?_
  refine rx hΓ [0,3,4,5,9,10,11] [[5, 0],[59, 0]] (fun K' hK => by simp only [go_sem, map_getD hlt, Int.toNat_natCast, Int.natCast_nonneg, hlt']; exact fin) ?_
  repeat refine sq ?_
  refine rs hΓ [0,3,4,5,6,9,10,11] [[5, 0],[6, 0],[59, 0]] ?_
  repeat refine sq ?_
  refine rs hΓ [0,3,4,5,6,9,10,11,18,19,20] [[5, 0],[6, 0],[59, 0]] ?_
  repeat refine sq ?_
  refine cl_block ?_
  repeat refine sq ?_
  refine cl_loop' (fun s : Nat => [(20, ⟨true, .v (vInt s)⟩)]) (fun s => [([6, 0], .box [.v (vInt (rLo c[i] (c.take (min s i)))), .v (vInt (rHi c[i] ((c.take s).drop (i + 1))))])]) (fun s => s ≤ c.length) (fun s => c.length - s) 0 ?_ ?_ ?_ ?_
  ·exact Nat.zero_le _
  ·rfl
  ·rfl
  rintro k hk
  simp only [go_sem]
  repeat refine sq ?_
  refine rs hΓ [0,3,4,5,6,9,10,11,18,19,20,21] [[5, 0],[6, 0],[59, 0]] ?_
  repeat refine sq ?_
  refine cl_cond rfl rfl (fun hb => ?_) fun hb => ?_
  ·have hlt : k < c.length := by simpa using hb
   have hlt' : (k : Int) < c.length := by omega
   clear hb
   repeat refine sq ?_
   refine cl_skip ?_
   repeat refine sq ?_
   refine cl_block ?_
   repeat refine sq ?_
   have hic : i < c.length := by omega
   have hcc := fun (g : Deed → Deed → V) (obj : Name → Option O) (t : Name) => sDDb_app (g := g) (obj := obj) (t := t) (a := c[i]) (b := c[k]) (da := rdD c[i]) (db := rdD c[k]) rfl rfl
   unfold rdD at hcc
   have nLo := rLo_next (d := c[i]) (i := i) hlt
   have nHi := rHi_next (d := c[i]) (i := i) hlt
   repeat refine sq ?_
   refine rx hΓ [0,3,4,5,6,7,8,9,10,11,18,19,20] [[5, 0],[6, 0],[8, 0],[59, 0]] (fun K' hK => by simp only [go_sem, map_getD hlt, Int.toNat_natCast, Int.natCast_nonneg, hlt']; exact fin) ?_
   repeat refine sq ?_
   refine rx hΓ [0,3,4,5,6,7,8,9,10,11,18,19,20,32] [[5, 0],[6, 0],[8, 0],[59, 0]] (fun K' hK => by simp only [go_sem, hcc]; exact fin) ?_
   repeat refine sq ?_
   refine cl_cond rfl rfl (fun hb => ?_) fun hb => ?_
   ·have hb' : sameThB c[i] c[k] = true ∧ k < i := by simpa using hb
    obtain ⟨hs, hki⟩ := hb'
    clear hb
    have hL : rLo c[i] (c.take (min (k + 1) i)) = (if c[k].dl > rLo c[i] (c.take (min k i)) then c[k].dl else rLo c[i] (c.take (min k i))) := by rw [nLo, if_pos hki, if_pos hs]
    have hH : rHi c[i] ((c.take (k + 1)).drop (i + 1)) = rHi c[i] ((c.take k).drop (i + 1)) := by rw [nHi, if_neg (by omega)]
    repeat refine sq ?_
    refine rs hΓ [0,3,4,5,6,7,8,9,10,11,18,19,20] [[5, 0],[6, 0],[8, 0],[59, 0]] ?_
    repeat refine sq ?_
    refine rx hΓ [0,3,4,5,6,8,9,10,11,18,19,20,47] [[5, 0],[6, 0],[8, 0],[59, 0]] (fun K' hK => by simp only [go_sem, hcc]; exact fin) ?_
    repeat refine sq ?_
    refine cl_cond rfl rfl (fun hb => ?_) fun hb => ?_
    ·have : i < k := by
      have : sameThB c[i] c[k] = true ∧ i < k := by simpa using hb
      exact this.2
     omega
    ·clear hb
     repeat refine sq ?_
     refine cl_skip ?_
     refine cl_nil ?_
     simp only [go_sem]
     refine cl_keep [0,3,4,5,6,9,10,11,18,19,20] [[5, 0],[6, 0],[59, 0]] ?_ ?_ <;> simp only [go_sem]
     repeat refine sq ?_
     refine cl_r hΓ fun K' hK => ?_
     simp only [go_sem]
     repeat refine ⟨ob, ?_⟩
     refine hK _ ?_
     clear K' hK
     simp only [go_sem]
     refine ⟨k + 1, hlt, (show c.length - (k + 1) < c.length - k by omega), ?_⟩
     rw [hL, hH]
     refine weak_eq [0,3,4,5,6,9,10,11,18,19,20] [[5, 0],[6, 0],[59, 0]] ?_ ?_ <;> simp only [go_sem, wrap_succ hlt hl, Int.natCast_add, Int.natCast_one]
   ·have hb' : sameThB c[i] c[k] = true → ¬ k < i := by
     intro h1 h2
     have : (sameThB c[i] c[k] && decide ((k : Int) < i)) = false := hb
     rw [h1] at this
     simp at this
     omega
    clear hb
    have hL : rLo c[i] (c.take (min (k + 1) i)) = rLo c[i] (c.take (min k i)) := by
     rw [nLo]
     split
     ·rename_i h1
      rw [if_neg (fun h => hb' h h1)]
     ·rfl
    repeat refine sq ?_
    refine cl_skip ?_
    repeat refine sq ?_
    refine rx hΓ [0,3,4,5,6,8,9,10,11,18,19,20,47] [[5, 0],[6, 0],[8, 0],[59, 0]] (fun K' hK => by simp only [go_sem, hcc]; exact fin) ?_
    repeat refine sq ?_
    refine cl_cond rfl rfl (fun hb => ?_) fun hb => ?_
    ·have hb2 : sameThB c[i] c[k] = true ∧ i < k := by simpa using hb
     obtain ⟨hs, hki⟩ := hb2
     clear hb
     have hH : rHi c[i] ((c.take (k + 1)).drop (i + 1)) = (if c[k].dh < rHi c[i] ((c.take k).drop (i + 1)) then c[k].dh else rHi c[i] ((c.take k).drop (i + 1))) := by rw [nHi, if_pos hki, if_pos hs]
     repeat refine sq ?_
     refine re hΓ [0,3,4,5,6,9,10,11,18,19,20] [[5, 0],[6, 0],[59, 0]] (fun _ h => h) ?_
     repeat refine sq ?_
     refine cl_r hΓ fun K' hK => ?_
     simp only [go_sem]
     repeat refine ⟨ob, ?_⟩
     refine hK _ ?_
     clear K' hK
     simp only [go_sem]
     refine ⟨k + 1, hlt, (show c.length - (k + 1) < c.length - k by omega), ?_⟩
     rw [hL, hH]
     refine weak_eq [0,3,4,5,6,9,10,11,18,19,20] [[5, 0],[6, 0],[59, 0]] ?_ ?_ <;> simp only [go_sem, wrap_succ hlt hl, Int.natCast_add, Int.natCast_one]
    ·have hb2 : sameThB c[i] c[k] = true → ¬ i < k := by
      intro h1 h2
      have : (sameThB c[i] c[k] && decide ((k : Int) > i)) = false := hb
      rw [h1] at this
      simp at this
      omega
     clear hb
     have hH : rHi c[i] ((c.take (k + 1)).drop (i + 1)) = rHi c[i] ((c.take k).drop (i + 1)) := by
      rw [nHi]
      split
      ·rename_i h1
       rw [if_neg (fun h => hb2 h h1)]
      ·rfl
     repeat refine sq ?_
     refine cl_skip ?_
     refine cl_nil ?_
     simp only [go_sem]
     refine cl_keep [0,3,4,5,6,9,10,11,18,19,20] [[5, 0],[6, 0],[59, 0]] ?_ ?_ <;> simp only [go_sem]
     repeat refine sq ?_
     refine cl_r hΓ fun K' hK => ?_
     simp only [go_sem]
     repeat refine ⟨ob, ?_⟩
     refine hK _ ?_
     clear K' hK
     simp only [go_sem]
     refine ⟨k + 1, hlt, (show c.length - (k + 1) < c.length - k by omega), ?_⟩
     rw [hL, hH]
     refine weak_eq [0,3,4,5,6,9,10,11,18,19,20] [[5, 0],[6, 0],[59, 0]] ?_ ?_ <;> simp only [go_sem, wrap_succ hlt hl, Int.natCast_add, Int.natCast_one]
  ·have hge : k = c.length := by
    have : ¬ (k : Int) < c.length := by simpa using hb
    omega
   subst hge
   clear hb
   repeat refine sq ?_
   refine cl_exit ?_
   simp only [go_sem]
   refine cl_keep [0,3,6,9,10,11] [[6, 0],[59, 0]] ?_ ?_ <;> simp only [go_sem]
   have hic : i < c.length := by omega
   have eL : rLo c[i] (c.take (min c.length i)) = (dayR c i).1 := by
    unfold dayR
    rw [show min c.length i = i by omega]
    simp [List.getD_eq_getElem?_getD, hic]
   have eH : rHi c[i] ((c.take c.length).drop (i + 1)) = (dayR c i).2 := by
    unfold dayR
    rw [List.take_length]
    simp [List.getD_eq_getElem?_getD, hic]
   rw [eL, eH]
   repeat refine sq ?_
   refine cl_r hΓ fun K' hK => ?_
   simp only [go_sem, te146, tz33]
   repeat' apply And.intro
   all_goals first | rfl | omega | exact Int.le_refl _ | exact Bool.or_not_self _ | exact Bool.not_or_self _ | exact enc_okI _ | exact enc_ok _ | exact fun x hx => (enc_okI _ x hx).1 | exact fun x hx => (enc_ok _ x hx).1 | (simp only [List.length_take, List.length_append, List.length_map, List.length_drop, List.length_cons, List.length_nil]; done) | (simp only [List.length_take, List.length_append, List.length_map, List.length_drop, List.length_cons, List.length_nil]; omega) | (simp only [List.length_take, List.length_append, List.length_map, List.length_drop, List.length_cons, List.length_nil, maxLen]; omega) | (exact fun _ => by decide) | (exact fun h => ⟨h, by decide⟩) | (simp only [decide_eq_true_eq]; omega) | (simp only [List.length_range, List.length_map, List.length_cons, List.length_nil]; done) | (simp only [List.length_range, List.length_map, List.length_cons, List.length_nil]; omega) | (simp only [List.length_range, List.length_map, List.length_cons, List.length_nil, maxLen]; omega) | skip
   refine hK _ ?_
   clear K' hK
   simp only [go_sem]
   refine cl_keep [0,3,9,10,11] [[59, 0]] ?_ ?_ <;> simp only [go_sem]
   repeat refine sq ?_
   refine cl_r hΓ fun K' hK => ?_
   simp only [go_sem]
   repeat refine ⟨ob, ?_⟩
   refine hK _ ?_
   clear K' hK
   simp only [go_sem]
   refine ⟨i + 1, hic, (show c.length - (i + 1) < c.length - i by omega), ?_⟩
   refine weak_eq [0,3,9,10,11] [[59, 0]] ?_ ?_
   ·simp only [go_sem]
   ·simp only [go_sem, wrap_succ hic hl, Int.natCast_add, Int.natCast_one, List.range_succ, List.map_append, List.length_range]
    all_goals simp [vIt]
 ·have hge : i = c.length := by
   have : ¬ (i : Int) < c.length := by simpa using hb
   omega
  subst hge
  clear hb
  repeat refine sq ?_
  refine cl_exit ?_
  simp only [go_sem]
  refine cl_keep [3] [[59, 0]] ?_ ?_ <;> simp only [go_sem]
  repeat refine sq ?_
  refine rs hΓ [2] [[59, 0]] ?_
  refine cl_ret ?_
  simp only [go_sem]
  simp [daysRL]
theorem day_of {d : Deed} (h : isDeedB d = true) : 0 ≤ d.dl ∧ d.dl ≤ d.dh ∧ d.dh ≤ 100000 := by
 have : inI d.dl 0 d.dh = true ∧ inI d.dh 0 100000 = true := by
  unfold isDeedB at h
  grind
 simp only [inI_iff] at this
 omega
def mxF (m : Int) (o : Deed) : Int := if o.dl > m then o.dl else m
theorem mxF_eq (m : Int) (o : Deed) : mxF m o = max m o.dl := by unfold mxF; split <;> omega
theorem fold_max' : ∀ (X : List Deed) (a b : Int), b ≤ a → X.foldl mxF a = max a (X.foldl mxF b)
 | [], a, b, h => by simp only [List.foldl_nil]; omega
 | o :: r, a, b, h => by
  simp only [List.foldl_cons, mxF_eq]
  have h1 := fold_max' r (max a o.dl) (max b o.dl) (by omega)
  have h2 := fold_max' r (max b o.dl) (max b o.dl) (Int.le_refl _)
  rw [h1]
  omega
theorem fold_max (X : List Deed) (a b : Int) (h : b ≤ a) : X.foldl (fun m o => if o.dl > m then o.dl else m) a = (if a > X.foldl (fun m o => if o.dl > m then o.dl else m) b then a else X.foldl (fun m o => if o.dl > m then o.dl else m) b) := by
 have h1 : X.foldl (fun m o => if o.dl > m then o.dl else m) a = max a (X.foldl (fun m o => if o.dl > m then o.dl else m) b) := fold_max' X a b h
 rw [h1]
 generalize X.foldl (fun m o => if o.dl > m then o.dl else m) b = F
 split <;> omega
theorem daysRL_len (c : List Deed) : (daysRL c).length = c.length := by simp [daysRL]
theorem daysRL_get {c : List Deed} {i : Nat} (h : i < (daysRL c).length) : (daysRL c)[i] = dayR c i := by simp [daysRL]
@[go_sem] theorem ta137 : tAgg Tryz.prog 137 = some (true, 3) := by kernel_rfl
@[go_sem] theorem tp137 : tPlaces Tryz.prog 137 = some [(0, 1), (1, 1), (2, 1)] := by kernel_rfl
@[go_sem] theorem tz137 : tZero Tryz.prog 137 = some (.agg #[(.int .i64 0), (.int .i64 0), (.bool false)]) := by kernel_rfl
@[go_sem] theorem tf137_0 : tField Tryz.prog 137 0 = some (0, 1, false) := by kernel_rfl
@[go_sem] theorem tf137_1 : tField Tryz.prog 137 1 = some (1, 1, false) := by kernel_rfl
@[go_sem] theorem tf137_2 : tField Tryz.prog 137 2 = some (2, 1, false) := by kernel_rfl
@[go_sem] theorem ta183 : tAgg Tryz.prog 183 = some (false, 1) := by kernel_rfl
@[go_sem] theorem tl183 : tLen Tryz.prog 183 = some 2 := by kernel_rfl
@[go_sem] theorem tz183 : tZero Tryz.prog 183 = some (.map none) := by kernel_rfl
@[go_sem] theorem tm183 : tMap Tryz.prog 183 = some (0, 185) := by kernel_rfl
@[go_sem] theorem ta185 : tAgg Tryz.prog 185 = some (false, 1) := by kernel_rfl
@[go_sem] theorem tz185 : tZero Tryz.prog 185 = some .nilFunc := by kernel_rfl
structure Sta where
 h : Int
 n : Int
 o : Bool
 deriving DecidableEq
def encS (s : Sta) : V := .agg [vInt s.h, vInt s.n, .bool s.o]
def zeroS : Sta := ⟨0, 0, false⟩
def doS (k : Int) (s : Sta) (p : Int) : Sta :=
 if k = 1 then ⟨0, 0, true⟩ else if k = 3 then ⟨p, p, false⟩ else if k = 4 then (if s.h = 0 then s else ⟨s.h, p, false⟩) else if k = 5 then ⟨s.h, s.h, false⟩ else ⟨0, 0, false⟩
def pSt (f : Sta → Int → Sta) : PSpec := ⟨fun xs => ∃ s p, xs = [encS s, vInt p], fun xs => match xs with | [.agg [.int _ h, .int _ n, .bool o], .int _ p] => encS (f ⟨h, n, o⟩ p) | _ => .bool false, true⟩
theorem pSt_fn (f : Sta → Int → Sta) (s : Sta) (p : Int) : (pSt f).fn [encS s, vInt p] = encS (f s p) := rfl
noncomputable def K0n : FuncId → Option Spec := fun _ => none
theorem K0n_sound : ∀ f s, K0n f = some s → SSound Tryz.prog f s := fun _ _ h => by cases h
theorem s170 : PSound Tryz.prog 170 (pSt (doS 1)) := by
 refine psoundB (rs := [.cell 4 137]) Tryz.func170 Tryz.ntmps170 (by rfl) (by kernel_rfl) (by decide) (by rintro _ xs ⟨s, p, rfl⟩; rfl) ⟨_, rfl, ?_⟩
 rintro xs ⟨⟨h, n, o⟩, p, rfl⟩ _
 refine ⟨lb rfl, ?_⟩
 rw [pSt_fn]
 have hΓ := K0n_sound
 simp only [encS]
 repeat refine sq ?_
 refine rx hΓ [4] [[4, 0]] (fun K' hK => by simp only [go_sem, tz137]; exact fin) ?_
 repeat refine sq ?_
 refine rx hΓ [4] [[4, 0]] (fun K' hK => by simp only [go_sem, tz137, tp137, Nat.reduceLeDiff, Nat.le_refl]; exact fin) ?_
 refine cl_ret ?_
 simp only [go_sem]
 all_goals first | done | rfl | exact ⟨by decide, rfl⟩ | exact ⟨by decide, trivial⟩ | decide
theorem s171 : PSound Tryz.prog 171 (pSt (doS 2)) := by
 refine psoundB (rs := [.cell 4 137]) Tryz.func171 Tryz.ntmps171 (by rfl) (by kernel_rfl) (by decide) (by rintro _ xs ⟨s, p, rfl⟩; rfl) ⟨_, rfl, ?_⟩
 rintro xs ⟨⟨h, n, o⟩, p, rfl⟩ _
 refine ⟨lb rfl, ?_⟩
 rw [pSt_fn]
 have hΓ := K0n_sound
 simp only [encS]
 repeat refine sq ?_
 refine rx hΓ [4] [[4, 0]] (fun K' hK => by simp only [go_sem, tz137]; exact fin) ?_
 repeat refine sq ?_
 refine rx hΓ [4] [[4, 0]] (fun K' hK => by simp only [go_sem, tz137, tp137, Nat.reduceLeDiff, Nat.le_refl]; exact fin) ?_
 refine cl_ret ?_
 simp only [go_sem]
 all_goals first | done | rfl | exact ⟨by decide, rfl⟩ | exact ⟨by decide, trivial⟩ | decide
theorem s172 : PSound Tryz.prog 172 (pSt (doS 3)) := by
 refine psoundB (rs := [.cell 4 137]) Tryz.func172 Tryz.ntmps172 (by rfl) (by kernel_rfl) (by decide) (by rintro _ xs ⟨s, p, rfl⟩; rfl) ⟨_, rfl, ?_⟩
 rintro xs ⟨⟨h, n, o⟩, p, rfl⟩ _
 refine ⟨lb rfl, ?_⟩
 rw [pSt_fn]
 have hΓ := K0n_sound
 simp only [encS]
 repeat refine sq ?_
 refine rx hΓ [1,4] [[4, 0]] (fun K' hK => by simp only [go_sem, tz137]; exact fin) ?_
 repeat refine sq ?_
 refine rx hΓ [4] [[4, 0]] (fun K' hK => by simp only [go_sem, tz137, tp137, Nat.reduceLeDiff, Nat.le_refl]; exact fin) ?_
 refine cl_ret ?_
 simp only [go_sem]
 all_goals first | done | rfl | exact ⟨by decide, rfl⟩ | exact ⟨by decide, trivial⟩ | decide
theorem s173 : PSound Tryz.prog 173 (pSt (doS 4)) := by
 refine psoundB (rs := [.cell 4 137]) Tryz.func173 Tryz.ntmps173 (by rfl) (by kernel_rfl) (by decide) (by rintro _ xs ⟨s, p, rfl⟩; rfl) ⟨_, rfl, ?_⟩
 rintro xs ⟨⟨h, n, o⟩, p, rfl⟩ _
 refine ⟨lb rfl, ?_⟩
 rw [pSt_fn]
 have hΓ := K0n_sound
 simp only [encS]
 repeat refine sq ?_
 refine rx hΓ [1,2,4] [[2, 0],[4, 0]] (fun K' hK => by simp only [go_sem, tz137]; exact fin) ?_
 repeat refine sq ?_
 refine rs hΓ [1,2,4,7] [[2, 0],[4, 0]] ?_
 repeat refine sq ?_
 refine cl_cond rfl rfl (fun hb => ?_) fun hb => ?_
 ·have hh : h = 0 := by simpa using hb
  repeat refine sq ?_
  refine rx hΓ [4] [[4, 0]] (fun K' hK => by simp only [go_sem, tz137, tp137, Nat.reduceLeDiff, Nat.le_refl]; exact fin) ?_
  refine cl_ret ?_
  simp only [go_sem]
  subst hh
  all_goals first | done | rfl | exact ⟨by decide, rfl⟩ | exact ⟨by decide, trivial⟩ | decide
 ·have hh : ¬ h = 0 := by simpa using hb
  have e : doS 4 ⟨h, n, o⟩ p = ⟨h, p, false⟩ := by simp [doS, hh]
  rw [e]
  repeat refine sq ?_
  refine cl_skip ?_
  repeat refine sq ?_
  refine rx hΓ [4] [[4, 0]] (fun K' hK => by simp only [go_sem, tz137, tp137, Nat.reduceLeDiff, Nat.le_refl]; exact fin) ?_
  refine cl_ret ?_
  simp only [go_sem]
  all_goals first | done | rfl | exact ⟨by decide, rfl⟩ | exact ⟨by decide, trivial⟩ | decide
theorem s174 : PSound Tryz.prog 174 (pSt (doS 5)) := by
 refine psoundB (rs := [.cell 4 137]) Tryz.func174 Tryz.ntmps174 (by rfl) (by kernel_rfl) (by decide) (by rintro _ xs ⟨s, p, rfl⟩; rfl) ⟨_, rfl, ?_⟩
 rintro xs ⟨⟨h, n, o⟩, p, rfl⟩ _
 refine ⟨lb rfl, ?_⟩
 rw [pSt_fn]
 have hΓ := K0n_sound
 simp only [encS]
 repeat refine sq ?_
 refine rx hΓ [2,4] [[2, 0],[4, 0]] (fun K' hK => by simp only [go_sem, tz137]; exact fin) ?_
 repeat refine sq ?_
 refine rx hΓ [4] [[4, 0]] (fun K' hK => by simp only [go_sem, tz137, tp137, Nat.reduceLeDiff, Nat.le_refl]; exact fin) ?_
 refine cl_ret ?_
 simp only [go_sem]
 all_goals first | done | rfl | exact ⟨by decide, rfl⟩ | exact ⟨by decide, trivial⟩ | decide
theorem s175 : PSound Tryz.prog 175 (pSt (doS 6)) := by
 refine psoundB (rs := [.cell 4 137]) Tryz.func175 Tryz.ntmps175 (by rfl) (by kernel_rfl) (by decide) (by rintro _ xs ⟨s, p, rfl⟩; rfl) ⟨_, rfl, ?_⟩
 rintro xs ⟨⟨h, n, o⟩, p, rfl⟩ _
 refine ⟨lb rfl, ?_⟩
 rw [pSt_fn]
 have hΓ := K0n_sound
 simp only [encS]
 repeat refine sq ?_
 refine rx hΓ [4] [[4, 0]] (fun K' hK => by simp only [go_sem, tz137]; exact fin) ?_
 repeat refine sq ?_
 refine rx hΓ [4] [[4, 0]] (fun K' hK => by simp only [go_sem, tz137, tp137, Nat.reduceLeDiff, Nat.le_refl]; exact fin) ?_
 refine cl_ret ?_
 simp only [go_sem]
 all_goals first | done | rfl | exact ⟨by decide, rfl⟩ | exact ⟨by decide, trivial⟩ | decide
def doesM : List (V × V) := [(vInt 1, .clo (.func 170) [] []), (vInt 2, .clo (.func 171) [] []), (vInt 3, .clo (.func 172) [] []), (vInt 4, .clo (.func 173) [] []), (vInt 5, .clo (.func 174) [] []), (vInt 6, .clo (.func 175) [] [])]
theorem mset6 : mset (mset (mset (mset (mset (mset [] (vInt 1) (.clo (.func 170) [] [])) (vInt 2) (.clo (.func 171) [] [])) (vInt 3) (.clo (.func 172) [] [])) (vInt 4) (.clo (.func 173) [] [])) (vInt 5) (.clo (.func 174) [] [])) (vInt 6) (.clo (.func 175) [] []) = doesM := rfl
def doesC : CSpec := ⟨fun os ds => os = [] ∧ ds = [], fun _ _ => ⟨[], [([1, 0], .map 0 doesM)], .map [1, 0]⟩⟩
def sDoes : Spec := doesC.toSpec
theorem s156 : SSound Tryz.prog 156 sDoes := by
 refine csound (nt := 3) (rs := [.tmp 0]) Tryz.func156 rfl (by rfl) (by kernel_rfl) (enter_of Tryz.func156 rfl (by kernel_rfl)) (notYid _ (by decide)) ?_
 rintro os ds ⟨rfl, rfl⟩
 refine ⟨Nat.zero_le _, cl_of ?_⟩
 have hΓ := K0n_sound
 have hO1 : ∀ hs, OutC [0] (domOf [0] hs) (outH []) = True := fun hs => eq_true (outC_outs (by simp) hs)
 have hH : outH [] = fun _ => none := by funext nm; unfold outH; split <;> rfl
 rw [hH]
 repeat refine sq ?_
 refine rs hΓ [] [] ?_
 repeat refine sq ?_
 refine rx hΓ [0] [[1, 0]] (fun K' hK => by simp only [go_sem, keyIs, mset6]; exact fin) ?_
 refine cl_ret ?_
 simp only [go_sem, doesC, newsOk]
 all_goals first | done | rfl | exact ⟨by decide, rfl⟩ | exact ⟨by decide, trivial⟩
theorem sDoes_app {obj : Name → Option O} {t : Name} (h : obj (1 :: 0 :: t) = none) : sDoes.app obj t [] = ⟨True, .map (1 :: 0 :: t), upd obj (1 :: 0 :: t) (some (.map 0 doesM))⟩ := by
 have hr : reach obj [] = [] := rfl
 have h1 : cOs obj [] = [] := rfl
 have h2 : cDs obj [] = [] := rfl
 simp only [sDoes, CSpec.toSpec, h1, h2, hr, doesC, putN, putU, D.ren, O.ren, cout]
 have e1 : (shut obj [] && D.closL (inL []) [] && fresh obj t [([1, 0], .map 0 doesM)]) = true := by
  simp [shut, D.closL, fresh, h]
 rw [e1]
 simp only [and_self, List.cons_append, List.nil_append]
noncomputable def sSt (f : Sta → Int → Sta) : Spec := (pSt f).toSpec
theorem sSt_app {f : Sta → Int → Sta} {obj : Name → Option O} {t : Name} {h n p : Int} {o : Bool} : (sSt f).app obj t [.agg [.v (vInt h), .v (vInt n), .v (.bool o)], .v (vInt p)] = ⟨True, .v (encS (f ⟨h, n, o⟩ p)), obj⟩ := by
 have e : frzL (frz 6) obj [.agg [.v (vInt h), .v (vInt n), .v (.bool o)], .v (vInt p)] = ⟨True, [encS ⟨h, n, o⟩, vInt p], obj⟩ := by
  simp [frzL, frz, D.one, V.one, encS]
 simp only [sSt, PSpec.toSpec, e, pSt_fn]
 simp only [pSt, if_true]
 congr 1
 simp only [eq_iff_iff, iff_true]
 exact ⟨trivial, _, _, rfl⟩
def stA (l : List Deed) (n : Nat) : Sta := (l.take n).foldl (fun s d => doS d.ki s d.pe) zeroS
theorem stA_succ {l : List Deed} {n : Nat} (h : n < l.length) : stA l (n + 1) = doS l[n].ki (stA l n) l[n].pe := by
 unfold stA
 rw [List.take_add_one, List.getElem?_eq_getElem h, List.foldl_append]
 rfl
def kindOk (d : Deed) : Prop := 1 ≤ d.ki ∧ d.ki ≤ 6
noncomputable def K45 : FuncId → Option Spec := fun f => match f with
 | 156 => some sDoes
 | 170 => some (sSt (doS 1))
 | 171 => some (sSt (doS 2))
 | 172 => some (sSt (doS 3))
 | 173 => some (sSt (doS 4))
 | 174 => some (sSt (doS 5))
 | 175 => some (sSt (doS 6))
 | _ => none
theorem K45_sound : ∀ f s, K45 f = some s → SSound Tryz.prog f s := by
 intro f s h
 unfold K45 at h
 split at h
 ·cases h; exact s156
 ·cases h; exact s170.sound
 ·cases h; exact s171.sound
 ·cases h; exact s172.sound
 ·cases h; exact s173.sound
 ·cases h; exact s174.sound
 ·cases h; exact s175.sound
 ·cases h
@[go_sem] theorem K45_156 : K45 156 = some sDoes := rfl
theorem does_at {k : Int} (h : 1 ≤ k ∧ k ≤ 6) : ∃ g, mget doesM (vInt k) = some (.clo (.func g) [] []) ∧ K45 g = some (sSt (doS k)) ∧ ¬ g = 1000000000 := by
 obtain ⟨h1, h2⟩ := h
 have : k = 1 ∨ k = 2 ∨ k = 3 ∨ k = 4 ∨ k = 5 ∨ k = 6 := by omega
 rcases this with rfl | rfl | rfl | rfl | rfl | rfl
 ·exact ⟨170, rfl, rfl, by decide⟩
 ·exact ⟨171, rfl, rfl, by decide⟩
 ·exact ⟨172, rfl, rfl, by decide⟩
 ·exact ⟨173, rfl, rfl, by decide⟩
 ·exact ⟨174, rfl, rfl, by decide⟩
 ·exact ⟨175, rfl, rfl, by decide⟩
set_option maxHeartbeats 8000000 in
theorem s167 : PSound Tryz.prog 167 ⟨fun xs => ∃ (l : List Deed) (n : Nat), xs = [.sl (l.map encD), vInt n] ∧ n ≤ l.length ∧ ∀ d ∈ l, kindOk d, fun xs => match xs with | [.sl l, .int _ n] => encS (stA (l.map decD) n.toNat) | _ => .bool false, true⟩ := by
 refine psoundB (rs := [.cell 4 137]) Tryz.func167 Tryz.ntmps167 (by rfl) (by kernel_rfl) (by decide) (by rintro _ xs ⟨l, n, rfl, _⟩; rfl) ⟨_, rfl, ?_⟩
 rintro xs ⟨l, n, rfl, hn, hk⟩ hw
 have hl : l.length ≤ maxLen := by have := hw.1.1; simpa using this
 refine ⟨lb rfl, ?_⟩
 simp only [decD_map, Int.toNat_natCast]
 have hΓ := K45_sound
 have hP := mixedK
 have hn' : (n : Int) ≤ l.length := by omega
 have e2 : (List.map encD l).take n = (l.take n).map encD := List.map_take.symm
 obtain ⟨r, hr, hrm, hrk, hrs⟩ : ∃ r, r = l.take n ∧ r.length ≤ maxLen ∧ (∀ d ∈ r, kindOk d) ∧ stA l n = stA r r.length := ⟨_, rfl, by simp; omega, fun d hd => hk d (List.mem_of_mem_take hd), by unfold stA; rw [List.take_length]⟩
 rw [← hr] at e2
 rw [hrs]
 repeat refine sq ?_
 refine rx hΓ [0,1,4] [[4, 0]] (fun K' hK => by simp only [go_sem, tz137]; exact fin) ?_
 repeat refine sq ?_
 refine rx hΓ [0,1,4,5] [[4, 0],[5, 0]] (fun K' hK => by simp only [go_sem, tz137]; exact fin) ?_
 repeat refine sq ?_
 refine rx hΓ [0,1,4,5,6] [[4, 0],[5, 0],[1, 0, 9, 0]] (fun K' hK => by simp only [go_sem, sDoes_app]; exact fin) ?_
 repeat refine sq ?_
 refine cl_rs hΓ [4,5,6,12,13,14] [[4, 0],[5, 0],[1, 0, 9, 0]] fun K' hK => ?_
 simp only [go_sem, Int.toNat_natCast, Int.natCast_nonneg, hn', e2, te116]
 repeat' apply And.intro
 all_goals first | rfl | omega | exact Int.le_refl _ | exact Bool.or_not_self _ | exact Bool.not_or_self _ | exact enc_okI _ | exact enc_ok _ | exact fun x hx => (enc_okI _ x hx).1 | exact fun x hx => (enc_ok _ x hx).1 | (simp only [List.length_take, List.length_append, List.length_map, List.length_drop, List.length_cons, List.length_nil]; done) | (simp only [List.length_take, List.length_append, List.length_map, List.length_drop, List.length_cons, List.length_nil]; omega) | (simp only [List.length_take, List.length_append, List.length_map, List.length_drop, List.length_cons, List.length_nil, maxLen]; omega) | (exact fun _ => by decide) | (exact fun h => ⟨h, by decide⟩) | (simp only [decide_eq_true_eq]; omega) | skip
 refine hK _ ?_ ?_ <;> clear K' hK <;> simp only [go_sem]
 repeat refine sq ?_
 refine cl_block ?_
 repeat refine sq ?_
 refine cl_loop' (fun s : Nat => [(14, ⟨true, .v (vInt s)⟩)]) (fun s => [([5, 0], .box [.v (vInt (stA r s).h), .v (vInt (stA r s).n), .v (.bool (stA r s).o)])]) (fun s => s ≤ r.length) (fun s => r.length - s) 0 ?_ ?_ ?_ ?_
 ·exact Nat.zero_le _
 ·rfl
 ·rfl
 rintro i hi
 simp only [go_sem]
 repeat refine sq ?_
 refine rs hΓ [4,5,6,12,13,14,15] [[4, 0],[5, 0],[1, 0, 9, 0]] ?_
 repeat refine sq ?_
 refine cl_cond rfl rfl (fun hb => ?_) fun hb => ?_
 ·have hlt : i < r.length := by simpa using hb
  have hlt' : (i : Int) < r.length := by omega
  clear hb
  repeat refine sq ?_
  refine cl_skip ?_
  repeat refine sq ?_
  refine cl_block ?_
  repeat refine sq ?_
  refine rx hΓ [4,5,6,8,12,13,14] [[4, 0],[5, 0],[8, 0],[1, 0, 9, 0]] (fun K' hK => by simp only [go_sem, map_getD hlt, Int.toNat_natCast, Int.natCast_nonneg, hlt']; exact fin) ?_
  obtain ⟨g, hg1, hg2, hg3⟩ := does_at (hrk _ (List.getElem_mem hlt))
  repeat refine sq ?_
  refine cl_r hΓ fun K' hK => ?_
  simp only [go_sem, tz185, hg1, hg2, hg3, keyIs, Option.getD_some, sSt_app, encS]
  repeat refine ⟨ob, ?_⟩
  refine hK _ ?_
  clear K' hK
  simp only [go_sem]
  refine cl_keep [4,5,6,12,13,14] [[4, 0],[5, 0],[1, 0, 9, 0]] ?_ ?_ <;> simp only [go_sem]
  repeat refine sq ?_
  refine cl_r hΓ fun K' hK => ?_
  simp only [go_sem]
  repeat refine ⟨ob, ?_⟩
  refine hK _ ?_
  clear K' hK
  simp only [go_sem]
  refine ⟨i + 1, hlt, (show r.length - (i + 1) < r.length - i by omega), ?_⟩
  rw [stA_succ hlt]
  refine weak_eq [4,5,6,12,13,14] [[4, 0],[5, 0],[1, 0, 9, 0]] ?_ ?_ <;> simp only [go_sem, wrap_succ hlt hrm, Int.natCast_add, Int.natCast_one]
 ·have hge : i = r.length := by
   have : ¬ (i : Int) < r.length := by simpa using hb
   omega
  subst hge
  clear hb
  repeat refine sq ?_
  refine cl_exit ?_
  simp only [go_sem]
  refine cl_keep [4,5] [[4, 0],[5, 0]] ?_ ?_ <;> simp only [go_sem]
  repeat refine sq ?_
  refine rx hΓ [4] [[4, 0]] (fun K' hK => by simp only [go_sem, tp137, Nat.reduceLeDiff, Nat.le_refl]; exact fin) ?_
  refine cl_ret ?_
  simp only [go_sem]
  all_goals first | done | rfl | exact ⟨by decide, rfl⟩ | exact ⟨by decide, trivial⟩ | decide
def mayB (l : List Deed) (n : Nat) (day : Int) : Bool := (n == 0 || decide (loM (l.take n) ≤ day)) && (n == l.length || decide (hiM (l.drop n) > day))
def pLNI (f : List Deed → Nat → Int → V) : PSpec := ⟨fun xs => ∃ (l : List Deed) (n : Nat) (k : Int), xs = [.sl (l.map encD), vInt n, vInt k] ∧ n ≤ l.length, fun xs => match xs with | [.sl l, .int _ n, .int _ k] => f (l.map decD) n.toNat k | _ => .bool false, true⟩
theorem pLNI_fn (f : List Deed → Nat → Int → V) (l : List Deed) (n : Nat) (k : Int) : (pLNI f).fn [.sl (l.map encD), vInt n, vInt k] = f l n k := by
 simp only [pLNI, decD_map, Int.toNat_natCast]
noncomputable def K46 : FuncId → Option Spec := fun f => match f with
 | 88 => some (sLN fun l n => vInt (loM (l.take (n + 1))))
 | 89 => some (sLN fun l n => vInt (hiM (l.drop n)))
 | _ => none
theorem K46_sound : ∀ f s, K46 f = some s → SSound Tryz.prog f s := by
 intro f s h
 unfold K46 at h
 split at h
 ·cases h; exact s88.sound
 ·cases h; exact s89.sound
 ·cases h
@[go_sem] theorem K46_88 : K46 88 = some (sLN fun l n => vInt (loM (l.take (n + 1)))) := rfl
@[go_sem] theorem K46_89 : K46 89 = some (sLN fun l n => vInt (hiM (l.drop n))) := rfl
theorem wrap_pred {n : Nat} (h : ¬ n = 0) (hn : n ≤ maxLen) : IntKind.i64.wrap ((n : Int) - 1) = ((n - 1 : Nat) : Int) := by
 unfold maxLen at hn
 rw [wrap_i64 (by omega) (by omega)]
 omega
set_option maxHeartbeats 8000000 in
theorem s166 : PSound Tryz.prog 166 (pLNI fun l n k => .bool (mayB l n k)) := by
 refine psoundB (rs := [.tmp 6]) Tryz.func166 Tryz.ntmps166 (by rfl) (by kernel_rfl) (by decide) (by rintro _ xs ⟨l, n, k, rfl, _⟩; rfl) ⟨_, rfl, ?_⟩
 rintro xs ⟨l, n, k, rfl, hn⟩ hw
 have hl : l.length ≤ maxLen := by have := hw.1.1; simpa using this
 refine ⟨lb rfl, ?_⟩
 rw [pLNI_fn]
 have hΓ := K46_sound
 have hf := fun (f : List Deed → Nat → V) (obj : Name → Option O) (t : Name) (n : Nat) (h : n < l.length) => sLN_app (f := f) (obj := obj) (t := t) (l := l) (n := n) h
 repeat refine sq ?_
 refine rs hΓ [0,1,2] [] ?_
 have hend : ∀ b : Bool, (n = 0 ∨ ¬ n = 0 ∧ loM (l.take n) ≤ k) → mayB l n k = (n == l.length || decide (hiM (l.drop n) > k)) := by
  intro _ h
  unfold mayB
  rcases h with h | ⟨_, h⟩
  ·simp [h]
  ·simp [h]
 by_cases h0 : n = 0
 ·have e1 : mayB l n k = (n == l.length || decide (hiM (l.drop n) > k)) := hend true (.inl h0)
  have e0 : ((n : Int) == 0) = true := by simp [h0]
  by_cases h1 : n = l.length
  ·have e2 : ((n : Int) == (l.length : Int)) = true := by simp [h1]
   have e3 : mayB l n k = true := by rw [e1]; simp [h1]
   rw [e3]
   repeat refine sq ?_
   refine rx hΓ [6] [] (fun K' hK => by simp only [go_sem, e0, e2]; exact fin) ?_
   exact rt
  ·have e2 : ((n : Int) == (l.length : Int)) = false := by simpa using fun h => h1 (by omega)
   have e3 : mayB l n k = decide (hiM (l.drop n) > k) := by rw [e1]; simp [h1]
   have hlt : n < l.length := by omega
   rw [e3]
   repeat refine sq ?_
   refine rx hΓ [6] [] (fun K' hK => by simp only [go_sem, e0, e2, hf _ _ _ _ hlt]; exact fin) ?_
   exact rt
 ·have e0 : ((n : Int) == 0) = false := by simp [h0]
  have hlt0 : n - 1 < l.length := by omega
  have e4 : n - 1 + 1 = n := by omega
  by_cases h2 : loM (l.take n) ≤ k
  ·have e1 : mayB l n k = (n == l.length || decide (hiM (l.drop n) > k)) := hend true (.inr ⟨h0, h2⟩)
   by_cases h1 : n = l.length
   ·have e2 : ((n : Int) == (l.length : Int)) = true := by simp [h1]
    have e3 : mayB l n k = true := by rw [e1]; simp [h1]
    rw [e3]
    repeat refine sq ?_
    refine rx hΓ [6] [] (fun K' hK => by simp only [go_sem, e0, e2, wrap_pred h0 (Nat.le_trans hn hl), hf _ _ _ _ hlt0, e4, h2, decide_true]; exact fin) ?_
    exact rt
   ·have e2 : ((n : Int) == (l.length : Int)) = false := by simpa using fun h => h1 (by omega)
    have e3 : mayB l n k = decide (hiM (l.drop n) > k) := by rw [e1]; simp [h1]
    have hlt : n < l.length := by omega
    rw [e3]
    repeat refine sq ?_
    refine rx hΓ [6] [] (fun K' hK => by simp only [go_sem, e0, e2, wrap_pred h0 (Nat.le_trans hn hl), hf _ _ _ _ hlt0, hf _ _ _ _ hlt, e4, h2, decide_true]; exact fin) ?_
    exact rt
  ·have e3 : mayB l n k = false := by unfold mayB; simp [h0, h2]
   rw [e3]
   repeat refine sq ?_
   refine rx hΓ [6] [] (fun K' hK => by simp only [go_sem, e0, wrap_pred h0 (Nat.le_trans hn hl), hf _ _ _ _ hlt0, e4, h2, decide_false]; exact fin) ?_
   exact rt
def pS1 (f : Sta → V) : PSpec := ⟨fun xs => ∃ s, xs = [encS s], fun xs => match xs with | [.agg [.int _ h, .int _ n, .bool o]] => f ⟨h, n, o⟩ | _ => .bool false, true⟩
def pSp (f : Sta → Int → V) : PSpec := ⟨fun xs => ∃ s k, xs = [encS s, .ptr [vInt k]], fun xs => match xs with | [.agg [.int _ h, .int _ n, .bool o], .ptr [.int _ k]] => f ⟨h, n, o⟩ k | _ => .bool false, true⟩
theorem s92 : PSound Tryz.prog 92 (pS1 fun s => vInt s.h) := by
 refine psoundB (rs := [.tmp 2]) Tryz.func92 Tryz.ntmps92 (by rfl) (by kernel_rfl) (by decide) (by rintro _ xs ⟨s, rfl⟩; rfl) ⟨_, rfl, ?_⟩
 rintro xs ⟨⟨h, n, o⟩, rfl⟩ _
 refine ⟨lb rfl, ?_⟩
 simp only [encS]
 have hΓ := K0n_sound
 repeat refine sq ?_
 refine rs hΓ [1] [[1, 0]] ?_
 repeat refine sq ?_
 refine rs hΓ [2] [] ?_
 refine cl_ret ?_
 simp only [go_sem]
 rfl
theorem s93 : PSound Tryz.prog 93 (pS1 fun s => vInt s.n) := by
 refine psoundB (rs := [.tmp 2]) Tryz.func93 Tryz.ntmps93 (by rfl) (by kernel_rfl) (by decide) (by rintro _ xs ⟨s, rfl⟩; rfl) ⟨_, rfl, ?_⟩
 rintro xs ⟨⟨h, n, o⟩, rfl⟩ _
 refine ⟨lb rfl, ?_⟩
 simp only [encS]
 have hΓ := K0n_sound
 repeat refine sq ?_
 refine rs hΓ [1] [[1, 0]] ?_
 repeat refine sq ?_
 refine rs hΓ [2] [] ?_
 refine cl_ret ?_
 simp only [go_sem]
 rfl
theorem s111 : PSound Tryz.prog 111 (pS1 fun s => .bool s.o) := by
 refine psoundB (rs := [.tmp 2]) Tryz.func111 Tryz.ntmps111 (by rfl) (by kernel_rfl) (by decide) (by rintro _ xs ⟨s, rfl⟩; rfl) ⟨_, rfl, ?_⟩
 rintro xs ⟨⟨h, n, o⟩, rfl⟩ _
 refine ⟨lb rfl, ?_⟩
 simp only [encS]
 have hΓ := K0n_sound
 repeat refine sq ?_
 refine rs hΓ [1] [[1, 0]] ?_
 repeat refine sq ?_
 refine rs hΓ [2] [] ?_
 refine cl_ret ?_
 simp only [go_sem]
 rfl
theorem s106 : PSound Tryz.prog 106 (pSp fun s k => .bool (s.h == k)) := by
 refine psoundB (rs := [.tmp 3]) Tryz.func106 Tryz.ntmps106 (by rfl) (by kernel_rfl) (by decide) (by rintro _ xs ⟨s, k, rfl⟩; rfl) ⟨_, rfl, ?_⟩
 rintro xs ⟨⟨h, n, o⟩, k, rfl⟩ _
 refine ⟨lb rfl, ?_⟩
 simp only [encS]
 have hΓ := K0n_sound
 repeat refine sq ?_
 refine rs hΓ [1,2] [[2, 0]] ?_
 repeat refine sq ?_
 refine rs hΓ [3] [] ?_
 refine cl_ret ?_
 simp only [go_sem]
 rfl
theorem s108 : PSound Tryz.prog 108 (pSp fun s k => .bool (s.n == k)) := by
 refine psoundB (rs := [.tmp 3]) Tryz.func108 Tryz.ntmps108 (by rfl) (by kernel_rfl) (by decide) (by rintro _ xs ⟨s, k, rfl⟩; rfl) ⟨_, rfl, ?_⟩
 rintro xs ⟨⟨h, n, o⟩, k, rfl⟩ _
 refine ⟨lb rfl, ?_⟩
 simp only [encS]
 have hΓ := K0n_sound
 repeat refine sq ?_
 refine rs hΓ [1,2] [[2, 0]] ?_
 repeat refine sq ?_
 refine rs hΓ [3] [] ?_
 refine cl_ret ?_
 simp only [go_sem]
 rfl
def ansI (yes no : Bool) : Int := if yes then (if no then 2 else 1) else 0
noncomputable def askV (l : List Deed) (day k : Int) : V := if daysI l [day, k] = 0 then contV l k else .tup [.sl [], vInt (daysI l [day, k])]
theorem sDaysI_two {obj : Name → Option O} {t : Name} {l : List Deed} {a b : Int} : sDaysI.app obj t [.v (.sl (l.map encD)), .v (.sl [vInt a, vInt b])] = ⟨True, .v (vInt (daysI l [a, b])), obj⟩ := sDaysI_app (ds := [a, b])
theorem contV_ex (l : List Deed) (k : Int) : ∃ (x : List Deed) (e : Int), contV l k = .tup [.sl (x.map encD), vInt e] := by
 unfold contV
 split
 ·exact ⟨[], _, rfl⟩
 ·exact ⟨_, _, rfl⟩
def isLockB (n : Int) : Bool := inI n 1 3
noncomputable def K48 : FuncId → Option Spec := fun f => match f with
 | 39 => some sChk
 | 145 => some (pInt isLockB)
 | 132 => some (sIdxI fun p l => .bool (l.any p))
 | 70 => some sDaysI
 | 83 => some (sLI okL contV false)
 | 86 => some (sLII (fun l => l.length ≤ 60) (fun l lo pe => .sl ((thrL l lo pe).map encD)) false)
 | _ => none
theorem K48_sound : ∀ f s, K48 f = some s → SSound Tryz.prog f s := by
 intro f s h
 unfold K48 at h
 split at h
 ·cases h; exact s39'
 ·cases h; exact s145.sound
 ·cases h; exact s132.sound
 ·cases h; exact s70.sound
 ·cases h; exact s83.sound
 ·cases h; exact s86.sound
 ·cases h
@[go_sem] theorem K48_39 : K48 39 = some sChk := rfl
@[go_sem] theorem K48_145 : K48 145 = some (pInt isLockB) := rfl
@[go_sem] theorem K48_132 : K48 132 = some (sIdxI fun p l => .bool (l.any p)) := rfl
@[go_sem] theorem K48_70 : K48 70 = some sDaysI := rfl
@[go_sem] theorem K48_83 : K48 83 = some (sLI okL contV false) := rfl
@[go_sem] theorem K48_86 : K48 86 = some (sLII (fun l => l.length ≤ 60) (fun l lo pe => .sl ((thrL l lo pe).map encD)) false) := rfl
set_option maxHeartbeats 4000000 in
theorem s110 : PSound Tryz.prog 110 (pLII (fun _ => True) askV false) := by
 refine psoundB (rs := [.tmp 6, .tmp 7]) Tryz.func110 Tryz.ntmps110 (by rfl) (by kernel_rfl) (by decide) (fun h => by cases h) ⟨_, rfl, ?_⟩
 rintro xs ⟨l, day, k, rfl, _⟩ hw
 refine ⟨lb rfl, ?_⟩
 rw [pLII_fn]
 have hΓ := K48_sound
 repeat refine sq ?_
 refine rs hΓ [0,1,2] [] ?_
 repeat refine sq ?_
 refine rx hΓ [0,2,8] [] (fun K' hK => by simp only [go_sem, sDaysI_two]; exact fin) ?_
 repeat refine sq ?_
 refine rs hΓ [0,2,8,15] [] ?_
 repeat refine sq ?_
 refine cl_cond rfl rfl (fun hb => ?_) fun hb => ?_
 ·repeat refine sq ?_
  have hn : ¬ daysI l [day, k] = 0 := by simpa using hb
  repeat refine sq ?_
  refine rs hΓ [6,7] [] ?_
  refine cl_ret ?_
  simp only [go_sem]
  unfold askV; rw [if_neg hn]
 ·have hz : daysI l [day, k] = 0 := by simpa using hb
  have hok := days_ok hz
  obtain ⟨x, e, he⟩ := contV_ex l k
  have hc := fun (obj : Name → Option O) (t : Name) (f : List Deed → Int → V) (fl : Bool) => sLI_app (P := okL) (f := f) (fl := fl) (obj := obj) (t := t) (k := k) hok
  have hv : askV l day k = .tup [.sl (x.map encD), vInt e] := by unfold askV; rw [if_pos hz, he]
  rw [hv]
  repeat refine sq ?_
  refine cl_skip ?_
  repeat refine sq ?_
  refine rx hΓ [6,7] [] (fun K' hK => by simp only [go_sem, hc, he]; exact fin) ?_
  exact rt
noncomputable def lockV (l : List Deed) (lock day k : Int) (ps : List Int) : V :=
 if checkI l = 0 then (if isLockB lock then (if ps.any (fun n => !isPersB n) then .tup [.sl [], vInt 16] else (if daysI l [day, k] = 0 then (if (confP (countL l k)).isSome then .tup [.sl [], vInt 13] else .tup [.sl ((thrL (countL l k) lock 0).map encD), vInt 0]) else .tup [.sl [], vInt (daysI l [day, k])])) else .tup [.sl [], vInt 15]) else .tup [.sl [], vInt (checkI l)]
def pLock (f : List Deed → Int → Int → Int → List Int → V) : PSpec := ⟨fun xs => ∃ (l : List Deed) (a b c : Int) (ps : List Int), xs = [.sl (l.map encD), vInt a, vInt b, vInt c, .sl (ps.map vInt)], fun xs => match xs with | [.sl l, .int _ a, .int _ b, .int _ c, .sl ps] => f (l.map decD) a b c (ps.map decI) | _ => .bool false, false⟩
theorem pLock_fn (f : List Deed → Int → Int → Int → List Int → V) (l : List Deed) (a b c : Int) (ps : List Int) : (pLock f).fn [.sl (l.map encD), vInt a, vInt b, vInt c, .sl (ps.map vInt)] = f l a b c ps := by
 simp only [pLock, decD_map, decI_map]
set_option maxHeartbeats 8000000 in
theorem s90 : PSound Tryz.prog 90 (pLock lockV) := by
 refine psoundB (rs := [.tmp 10, .tmp 11]) Tryz.func90 Tryz.ntmps90 (by rfl) (by kernel_rfl) (by decide) (fun h => by cases h) ⟨_, rfl, ?_⟩
 rintro xs ⟨l, lock, day, k, ps, rfl⟩ hw
 refine ⟨lb rfl, ?_⟩
 rw [pLock_fn]
 have hΓ := K48_sound
 have hin := fun (g : Int → Bool) (obj : Name → Option O) (t : Name) => pInt_app (g := g) (obj := obj) (t := t) (n := lock)
 have ha := fun (f : (Int → Bool) → List Int → V) (obj : Name → Option O) (t : Name) => sIdxI_app (f := f) (obj := obj) (t := t) (l := ps) (g := 146) (.inr rfl)
 have hp : pNot 146 = fun n => !isPersB n := rfl
 rw [hp] at ha
 repeat refine sq ?_
 refine rs hΓ [0,1,2,3,4] [] ?_
 repeat refine sq ?_
 refine rx hΓ [0,1,2,3,4,12] [] (fun K' hK => by simp only [go_sem, sChk_app]; exact fin) ?_
 repeat refine sq ?_
 refine rs hΓ [0,1,2,3,4,12,19] [] ?_
 repeat refine sq ?_
 refine cl_cond rfl rfl (fun hb => ?_) fun hb => ?_
 ·repeat refine sq ?_
  have hn : ¬ checkI l = 0 := by simpa using hb
  repeat refine sq ?_
  refine rs hΓ [10,11] [] ?_
  refine cl_ret ?_
  simp only [go_sem]
  unfold lockV; rw [if_neg hn]
 have hz : checkI l = 0 := by simpa using hb
 repeat refine sq ?_
 refine cl_skip ?_
 repeat refine sq ?_
 refine rx hΓ [0,1,2,3,4,23] [] (fun K' hK => by simp only [go_sem, hin]; exact fin) ?_
 repeat refine sq ?_
 refine cl_cond rfl rfl (fun hb => ?_) fun hb => ?_
 ·repeat refine sq ?_
  have hn : ¬ isLockB lock = true := by simpa using hb
  repeat refine sq ?_
  refine rs hΓ [10,11] [] ?_
  refine cl_ret ?_
  simp only [go_sem]
  unfold lockV; rw [if_pos hz, if_neg hn]
 have hlk : isLockB lock = true := by simpa using hb
 repeat refine sq ?_
 refine cl_skip ?_
 repeat refine sq ?_
 refine rx hΓ [0,1,2,3,25] [] (fun K' hK => by simp only [go_sem, ha]; exact fin) ?_
 repeat refine sq ?_
 refine cl_cond rfl rfl (fun hb => ?_) fun hb => ?_
 ·repeat refine sq ?_
  refine rs hΓ [10,11] [] ?_
  refine cl_ret ?_
  simp only [go_sem]
  unfold lockV; rw [if_pos hz, if_pos hlk, if_pos hb]
 have hps : ¬ (ps.any fun n => !isPersB n) = true := by rw [hb]; decide
 repeat refine sq ?_
 refine cl_skip ?_
 repeat refine sq ?_
 refine rx hΓ [0,1,3,13] [] (fun K' hK => by simp only [go_sem, sDaysI_two]; exact fin) ?_
 repeat refine sq ?_
 refine rs hΓ [0,1,3,13,32] [] ?_
 repeat refine sq ?_
 refine cl_cond rfl rfl (fun hb => ?_) fun hb => ?_
 ·repeat refine sq ?_
  have hn : ¬ daysI l [day, k] = 0 := by simpa using hb
  repeat refine sq ?_
  refine rs hΓ [10,11] [] ?_
  refine cl_ret ?_
  simp only [go_sem]
  unfold lockV; rw [if_pos hz, if_pos hlk, if_neg hps, if_neg hn]
 have hdz : daysI l [day, k] = 0 := by simpa using hb
 have hok := days_ok hdz
 have hlen : (countL l k).length ≤ 60 := by have := countL_len l k; have := hok.2.2; omega
 have hc := fun (obj : Name → Option O) (t : Name) (f : List Deed → Int → V) (fl : Bool) => sLI_app (P := okL) (f := f) (fl := fl) (obj := obj) (t := t) (k := k) hok
 repeat refine sq ?_
 refine cl_skip ?_
 by_cases hcf : (confP (countL l k)).isSome = true
 ·have he : contV l k = .tup [.sl [], vInt 13] := by unfold contV; rw [if_pos hcf]
  repeat refine sq ?_
  refine rx hΓ [1,14,15] [] (fun K' hK => by simp only [go_sem, hc, he]; exact fin) ?_
  repeat refine sq ?_
  refine rs hΓ [1,14,15,41] [] ?_
  repeat refine sq ?_
  refine cl_cond rfl rfl (fun hb => ?_) fun hb => ?_
  ·repeat refine sq ?_
   refine rs hΓ [10,11] [] ?_
   refine cl_ret ?_
   simp only [go_sem]
   unfold lockV; rw [if_pos hz, if_pos hlk, if_neg hps, if_pos hdz, if_pos hcf]
  ·simp at hb
 ·have he : contV l k = .tup [.sl ((countL l k).map encD), vInt 0] := by unfold contV; rw [if_neg hcf]
  have hth := fun (obj : Name → Option O) (t : Name) (f : List Deed → Int → Int → V) (fl : Bool) (a b : Int) => sLII_app (P := fun l => l.length ≤ 60) (f := f) (fl := fl) (obj := obj) (t := t) (l := countL l k) (k := a) (j := b) hlen
  repeat refine sq ?_
  refine rx hΓ [1,14,15] [] (fun K' hK => by simp only [go_sem, hc, he]; exact fin) ?_
  repeat refine sq ?_
  refine rs hΓ [1,14,15,41] [] ?_
  repeat refine sq ?_
  refine cl_cond rfl rfl (fun hb => ?_) fun hb => ?_
  ·simp at hb
  ·repeat refine sq ?_
   refine cl_skip ?_
   repeat refine sq ?_
   refine rx hΓ [10,11] [] (fun K' hK => by simp only [go_sem, hth]; exact fin) ?_
   refine cl_ret ?_
   simp only [go_sem]
   unfold lockV; rw [if_pos hz, if_pos hlk, if_neg hps, if_pos hdz, if_neg hcf]
@[go_sem] theorem ta85 : tAgg Tryz.prog 85 = some (true, 2) := by kernel_rfl
@[go_sem] theorem tp85 : tPlaces Tryz.prog 85 = some [(0, 1), (1, 1)] := by kernel_rfl
@[go_sem] theorem tz85 : tZero Tryz.prog 85 = some (.agg #[(.int .i64 0), (.int .i64 0)]) := by kernel_rfl
@[go_sem] theorem tf85_0 : tField Tryz.prog 85 0 = some (0, 1, false) := by kernel_rfl
@[go_sem] theorem tf85_1 : tField Tryz.prog 85 1 = some (1, 1, false) := by kernel_rfl
@[go_sem] theorem ta132 : tAgg Tryz.prog 132 = some (false, 1) := by kernel_rfl
@[go_sem] theorem te132 : tElem Tryz.prog 132 = some (85, 2, 16) := by kernel_rfl
@[go_sem] theorem tl132 : tLen Tryz.prog 132 = some 0 := by kernel_rfl
@[go_sem] theorem tz132 : tZero Tryz.prog 132 = some (.slice none 0 0) := by kernel_rfl
noncomputable def evenV (l : List Deed) (k day : Int) : V := if daysI l [k, day] = 0 then contV l k else .tup [.sl [], vInt (daysI l [k, day])]
def pL2 (f : List Deed → Int → Int → V) : PSpec := ⟨fun xs => ∃ (l : List Deed) (a b : Int), xs = [.sl (l.map encD), .sl [vInt a, vInt b]], fun xs => match xs with | [.sl l, .sl [.int _ a, .int _ b]] => f (l.map decD) a b | _ => .bool false, false⟩
def encK (k : Int × Int) : V := .agg [vInt k.1, vInt k.2]
def keyA (k : Int × Int) (d : Deed) : Int × Int := if d.ki = 3 then (d.pe, d.pe) else if d.ki = 4 then (if k.1 = 0 then k else (k.1, d.pe)) else if d.ki = 5 then (k.1, k.1) else if d.ki = 6 then (0, 0) else k
def pKD (f : Int × Int → Deed → V) : PSpec := ⟨fun xs => ∃ k d, xs = [encK k, encD d], fun xs => match xs with | [.agg [.int _ a, .int _ b], x] => f (a, b) (decD x) | _ => .bool false, true⟩
theorem pKD_fn (f : Int × Int → Deed → V) (k : Int × Int) (d : Deed) : (pKD f).fn [encK k, encD d] = f k d := by
 simp only [pKD, encK, decD_enc]
set_option maxHeartbeats 4000000 in
theorem s124 : PSound Tryz.prog 124 (pKD fun k d => encK (keyA k d)) := by
 refine psoundB (rs := [.cell 4 85]) Tryz.func124 Tryz.ntmps124 (by rfl) (by kernel_rfl) (by decide) (by rintro _ xs ⟨k, d, rfl⟩; rfl) ⟨_, rfl, ?_⟩
 rintro xs ⟨⟨h, n⟩, d, rfl⟩ hw
 refine ⟨lb rfl, ?_⟩
 rw [pKD_fn]
 have hΓ := K0n_sound
 have kdef : keyA (h, n) d = if d.ki = 3 then (d.pe, d.pe) else if d.ki = 4 then (if h = 0 then (h, n) else (h, d.pe)) else if d.ki = 5 then (h, h) else if d.ki = 6 then (0, 0) else (h, n) := rfl
 generalize keyA (h, n) d = kk at kdef
 obtain ⟨pa, no, ki, lo, pe, dl, dh, kn, un⟩ := d
 simp only [encK, encD] at kdef ⊢
 repeat refine sq ?_
 refine rx hΓ [2,3,4] [[2, 0],[3, 0],[4, 0]] (fun K' hK => by simp only [go_sem, tz85]; exact fin) ?_
 repeat refine sq ?_
 refine rs hΓ [2,3,4,6] [[2, 0],[3, 0],[4, 0]] ?_
 repeat refine sq ?_
 refine cl_block ?_
 repeat refine sq ?_
 refine rs hΓ [2,3,4,6,7] [[2, 0],[3, 0],[4, 0]] ?_
 repeat refine sq ?_
 refine cl_cond rfl rfl (fun hb => ?_) fun hb => ?_
 ·have h1 : ki = 3 := by simpa using hb
  rw [if_pos h1] at kdef
  repeat refine sq ?_
  refine rx hΓ [4] [[4, 0]] (fun K' hK => by simp only [go_sem, tz85, tp85, Nat.reduceLeDiff, Nat.le_refl]; exact fin) ?_
  refine cl_ret ?_
  simp only [go_sem]
  subst kdef
  all_goals first | done | rfl | exact ⟨by decide, rfl⟩ | exact ⟨by decide, trivial⟩ | decide
 have h1 : ¬ ki = 3 := by simpa using hb
 rw [if_neg h1] at kdef
 repeat refine sq ?_
 refine rs hΓ [2,3,4,6,14] [[2, 0],[3, 0],[4, 0]] ?_
 repeat refine sq ?_
 refine cl_cond rfl rfl (fun hb => ?_) fun hb => ?_
 ·have h2 : ki = 4 := by simpa using hb
  rw [if_pos h2] at kdef
  repeat refine sq ?_
  refine rs hΓ [2,3,4,18] [[2, 0],[3, 0],[4, 0]] ?_
  repeat refine sq ?_
  refine cl_cond rfl rfl (fun hb => ?_) fun hb => ?_
  ·have h3 : ¬ h = 0 := by simpa using hb
   rw [if_neg h3] at kdef
   repeat refine sq ?_
   refine re hΓ [2,4] [[2, 0],[4, 0]] (fun _ h => h) ?_
   repeat refine sq ?_
   refine rx hΓ [4] [[4, 0]] (fun K' hK => by simp only [go_sem, tz85, tp85, Nat.reduceLeDiff, Nat.le_refl]; exact fin) ?_
   refine cl_ret ?_
   simp only [go_sem]
   subst kdef
   all_goals first | done | rfl | exact ⟨by decide, rfl⟩ | exact ⟨by decide, trivial⟩ | decide
  ·have h3 : h = 0 := by simpa using hb
   rw [if_pos h3] at kdef
   repeat refine sq ?_
   refine cl_skip ?_
   refine cl_nil ?_
   simp only [go_sem]
   refine cl_keep [2,4] [[2, 0],[4, 0]] ?_ ?_ <;> simp only [go_sem]
   repeat refine sq ?_
   refine rx hΓ [4] [[4, 0]] (fun K' hK => by simp only [go_sem, tz85, tp85, Nat.reduceLeDiff, Nat.le_refl]; exact fin) ?_
   refine cl_ret ?_
   simp only [go_sem]
   subst kdef
   all_goals first | done | rfl | exact ⟨by decide, rfl⟩ | exact ⟨by decide, trivial⟩ | decide
 have h2 : ¬ ki = 4 := by simpa using hb
 rw [if_neg h2] at kdef
 repeat refine sq ?_
 refine rs hΓ [2,4,6,22] [[2, 0],[4, 0]] ?_
 repeat refine sq ?_
 refine cl_cond rfl rfl (fun hb => ?_) fun hb => ?_
 ·have h3 : ki = 5 := by simpa using hb
  rw [if_pos h3] at kdef
  repeat refine sq ?_
  refine re hΓ [2,4] [[2, 0],[4, 0]] (fun _ h => h) ?_
  repeat refine sq ?_
  refine rx hΓ [4] [[4, 0]] (fun K' hK => by simp only [go_sem, tz85, tp85, Nat.reduceLeDiff, Nat.le_refl]; exact fin) ?_
  refine cl_ret ?_
  simp only [go_sem]
  subst kdef
  all_goals first | done | rfl | exact ⟨by decide, rfl⟩ | exact ⟨by decide, trivial⟩ | decide
 have h3 : ¬ ki = 5 := by simpa using hb
 rw [if_neg h3] at kdef
 repeat refine sq ?_
 refine rs hΓ [2,4,27] [[2, 0],[4, 0]] ?_
 repeat refine sq ?_
 refine cl_cond rfl rfl (fun hb => ?_) fun hb => ?_
 ·have h4 : ki = 6 := by simpa using hb
  rw [if_pos h4] at kdef
  repeat refine sq ?_
  refine rx hΓ [4] [[4, 0]] (fun K' hK => by simp only [go_sem, tz85, tp85, Nat.reduceLeDiff, Nat.le_refl]; exact fin) ?_
  refine cl_ret ?_
  simp only [go_sem]
  subst kdef
  all_goals first | done | rfl | exact ⟨by decide, rfl⟩ | exact ⟨by decide, trivial⟩ | decide
 ·have h4 : ¬ ki = 6 := by simpa using hb
  rw [if_neg h4] at kdef
  repeat refine sq ?_
  refine cl_skip ?_
  refine cl_nil ?_
  simp only [go_sem]
  refine cl_keep [2,4] [[2, 0],[4, 0]] ?_ ?_ <;> simp only [go_sem]
  repeat refine sq ?_
  refine rx hΓ [4] [[4, 0]] (fun K' hK => by simp only [go_sem, tz85, tp85, Nat.reduceLeDiff, Nat.le_refl]; exact fin) ?_
  refine cl_ret ?_
  simp only [go_sem]
  subst kdef
  all_goals first | done | rfl | exact ⟨by decide, rfl⟩ | exact ⟨by decide, trivial⟩ | decide
def idxF (p : Deed → Bool) : Nat → List Deed → List Nat
 | _, [] => []
 | n, d :: r => if p d then n :: idxF p (n + 1) r else idxF p (n + 1) r
theorem idxF_append (p : Deed → Bool) : ∀ (a b : List Deed) (n : Nat), idxF p n (a ++ b) = idxF p n a ++ idxF p (n + a.length) b
 | [], b, n => rfl
 | d :: r, b, n => by
  have ih := idxF_append p r b (n + 1)
  have e : n + 1 + r.length = n + (r.length + 1) := by omega
  rw [e] at ih
  simp only [List.cons_append, idxF, List.length_cons]
  split
  ·rw [ih]; rfl
  ·exact ih
theorem idxF_next {p : Deed → Bool} {c : List Deed} {i : Nat} (h : i < c.length) : idxF p 0 (c.take (i + 1)) = if p c[i] then idxF p 0 (c.take i) ++ [i] else idxF p 0 (c.take i) := by
 rw [List.take_add_one, List.getElem?_eq_getElem h, idxF_append]
 simp only [Option.toList_some, idxF, List.length_take, Nat.zero_add, Nat.min_eq_left (Nat.le_of_lt h)]
 split <;> simp
theorem idxF_len (p : Deed → Bool) : ∀ (c : List Deed) (n : Nat), (idxF p n c).length ≤ c.length
 | [], n => Nat.le_refl _
 | d :: r, n => by
  have := idxF_len p r (n + 1)
  simp only [idxF, List.length_cons]
  split
  ·simp only [List.length_cons]; omega
  ·omega
theorem idxF_lt (p : Deed → Bool) : ∀ (c : List Deed) (n : Nat), ∀ i ∈ idxF p n c, n ≤ i ∧ i < n + c.length
 | [], n, i, h => by simp [idxF] at h
 | d :: r, n, i, h => by
  have ih := idxF_lt p r (n + 1) i
  simp only [idxF] at h
  simp only [List.length_cons]
  split at h
  ·rcases List.mem_cons.1 h with rfl | h
   ·omega
   ·have := ih h; omega
  ·have := ih h; omega
def thrB (lock : Int) (d : Deed) : Bool := !offB d.ki && d.lo == lock
def offpB (pe : Int) (d : Deed) : Bool := offB d.ki && d.pe == pe
def vNat (n : Nat) : V := vInt n
def thrV (c : List Deed) (lock : Int) : V := .sl ((idxF (thrB lock) 0 c).map vNat)
def offpV (c : List Deed) (pe : Int) : V := .sl ((idxF (offpB pe) 0 c).map vNat)
set_option maxHeartbeats 4000000 in
theorem s123 : PSound Tryz.prog 123 (pLI (fun c => c.length ≤ 60) thrV false) := by
 refine psoundB (rs := [.tmp 4]) Tryz.func123 Tryz.ntmps123 (by rfl) (by kernel_rfl) (by decide) (fun h => by cases h) ⟨_, rfl, ?_⟩
 rintro xs ⟨l, k, rfl, hl60⟩ hw
 have hl : l.length ≤ maxLen := by unfold maxLen; omega
 refine ⟨lb rfl, ?_⟩
 rw [pLI_fn]
 unfold thrV
 have hΓ := K32_sound
 have hin := fun (obj : Name → Option O) (t : Name) (n : Int) => pInt_app (g := offB) (obj := obj) (t := t) (n := n)
 repeat refine sq ?_
 refine rs hΓ [0,1] [] ?_
 repeat refine sq ?_
 refine rs hΓ [0,1,5] [] ?_
 refine cl_weakM (σ' := mkS 31 [0] (fun _ => none) [(0, ⟨true, .v (.sl (l.map encD))⟩), (1, ⟨true, .v (vInt k)⟩), (5, ⟨true, .msl [28, 0] 0⟩)] [([28, 0], .arr 1 [])]) (weakM_ghostk 5 [28, 0] 1 (by simp only [go_sem]) (by simp only [go_sem]) [0, 1, 5] [[28, 0]] ?_ ?_) ?_
 ·simp only [go_sem]
 ·simp only [go_sem]
 repeat refine sq ?_
 refine rs hΓ [1,5,8,9,10] [[28, 0]] ?_
 repeat refine sq ?_
 refine cl_block ?_
 repeat refine sq ?_
 refine cl_loop' (fun s : Nat => [(5, ⟨true, .msl [28, 0] (idxF (thrB k) 0 (l.take s)).length⟩), (10, ⟨true, .v (vInt s)⟩)]) (fun s => [([28, 0], .arr 1 ((idxF (thrB k) 0 (l.take s)).map vNat))]) (fun s => s ≤ l.length) (fun s => l.length - s) 0 ?_ ?_ ?_ ?_
 ·exact Nat.zero_le _
 ·rfl
 ·rfl
 rintro i hi
 simp only [go_sem]
 repeat refine sq ?_
 refine rs hΓ [1,5,8,9,10,11] [[28, 0]] ?_
 repeat refine sq ?_
 refine cl_cond rfl rfl (fun hb => ?_) fun hb => ?_
 ·have hlt : i < l.length := by simpa using hb
  have hlt' : (i : Int) < l.length := by omega
  clear hb
  repeat refine sq ?_
  refine cl_skip ?_
  repeat refine sq ?_
  refine cl_block ?_
  repeat refine sq ?_
  have hcl : (idxF (thrB k) 0 (l.take i)).length ≤ 60 := by
   have := idxF_len (thrB k) (l.take i) 0
   simp at this
   omega
  have hn := idxF_next (p := thrB k) hlt
  repeat refine sq ?_
  refine rx hΓ [1,5,6,7,8,9,10] [[7, 0], [28, 0]] (fun K' hK => by simp only [go_sem, map_getD hlt, Int.toNat_natCast, Int.natCast_nonneg, hlt']; exact fin) ?_
  have hbr : (if (!offB l[i].ki) = true then (l[i].lo == k) else false) = thrB k l[i] := by unfold thrB; cases offB l[i].ki <;> rfl
  repeat refine sq ?_
  refine rx hΓ [1,5,6,8,9,10,24] [[28, 0]] (fun K' hK => by simp only [go_sem, hin, hbr]; exact fin) ?_
  repeat refine sq ?_
  refine cl_cond rfl rfl (fun hb => ?_) fun hb => ?_
  ·repeat refine sq ?_
   refine cl_r hΓ fun K' hK => ?_
   simp only [go_sem, te39, tz3]
   repeat' apply And.intro
   all_goals first | rfl | omega | exact Int.le_refl _ | exact Bool.or_not_self _ | exact Bool.not_or_self _ | exact enc_okI _ | exact enc_ok _ | exact fun x hx => (enc_okI _ x hx).1 | exact fun x hx => (enc_ok _ x hx).1 | (simp only [List.length_take, List.length_append, List.length_map, List.length_drop, List.length_cons, List.length_nil]; done) | (simp only [List.length_take, List.length_append, List.length_map, List.length_drop, List.length_cons, List.length_nil]; omega) | (simp only [List.length_take, List.length_append, List.length_map, List.length_drop, List.length_cons, List.length_nil, maxLen]; omega) | (exact fun _ => by decide) | (exact fun h => ⟨h, by decide⟩) | (simp only [decide_eq_true_eq]; omega) | skip
   refine hK _ ?_
   clear K' hK
   simp only [go_sem]
   refine cl_keep [1,5,8,9,10] [[28, 0]] ?_ ?_ <;> simp only [go_sem]
   repeat refine sq ?_
   refine cl_r hΓ fun K' hK => ?_
   simp only [go_sem]
   repeat refine ⟨ob, ?_⟩
   refine hK _ ?_
   clear K' hK
   simp only [go_sem]
   refine ⟨i + 1, hlt, (show l.length - (i + 1) < l.length - i by omega), ?_⟩
   rw [hn, if_pos hb]
   refine weak_eq [1,5,8,9,10] [[28, 0]] ?_ ?_
   ·simp only [go_sem]
   ·simp only [go_sem, wrap_succ hlt hl, Int.natCast_add, Int.natCast_one]
    all_goals simp [vNat]
  ·repeat refine sq ?_
   refine cl_skip ?_
   refine cl_nil ?_
   simp only [go_sem]
   refine cl_keep [1,5,8,9,10] [[28, 0]] ?_ ?_ <;> simp only [go_sem]
   repeat refine sq ?_
   refine cl_r hΓ fun K' hK => ?_
   simp only [go_sem]
   repeat refine ⟨ob, ?_⟩
   refine hK _ ?_
   clear K' hK
   simp only [go_sem]
   refine ⟨i + 1, hlt, (show l.length - (i + 1) < l.length - i by omega), ?_⟩
   rw [hn, if_neg (by simp [hb])]
   refine weak_eq [1,5,8,9,10] [[28, 0]] ?_ ?_ <;> simp only [go_sem, wrap_succ hlt hl, Int.natCast_add, Int.natCast_one]
 ·have hge : i = l.length := by
   have : ¬ (i : Int) < l.length := by simpa using hb
   omega
  subst hge
  clear hb
  repeat refine sq ?_
  refine cl_exit ?_
  simp only [go_sem]
  refine cl_keep [5] [[28, 0]] ?_ ?_ <;> simp only [go_sem]
  rw [List.take_length]
  repeat refine sq ?_
  refine rs hΓ [4] [[28, 0]] ?_
  exact rt
set_option maxHeartbeats 4000000 in
theorem s125 : PSound Tryz.prog 125 (pLI (fun c => c.length ≤ 60) offpV false) := by
 refine psoundB (rs := [.tmp 4]) Tryz.func125 Tryz.ntmps125 (by rfl) (by kernel_rfl) (by decide) (fun h => by cases h) ⟨_, rfl, ?_⟩
 rintro xs ⟨l, k, rfl, hl60⟩ hw
 have hl : l.length ≤ maxLen := by unfold maxLen; omega
 refine ⟨lb rfl, ?_⟩
 rw [pLI_fn]
 unfold offpV
 have hΓ := K32_sound
 have hin := fun (obj : Name → Option O) (t : Name) (n : Int) => pInt_app (g := offB) (obj := obj) (t := t) (n := n)
 repeat refine sq ?_
 refine rs hΓ [0,1] [] ?_
 repeat refine sq ?_
 refine rs hΓ [0,1,5] [] ?_
 refine cl_weakM (σ' := mkS 30 [0] (fun _ => none) [(0, ⟨true, .v (.sl (l.map encD))⟩), (1, ⟨true, .v (vInt k)⟩), (5, ⟨true, .msl [27, 0] 0⟩)] [([27, 0], .arr 1 [])]) (weakM_ghostk 5 [27, 0] 1 (by simp only [go_sem]) (by simp only [go_sem]) [0, 1, 5] [[27, 0]] ?_ ?_) ?_
 ·simp only [go_sem]
 ·simp only [go_sem]
 repeat refine sq ?_
 refine rs hΓ [1,5,8,9,10] [[27, 0]] ?_
 repeat refine sq ?_
 refine cl_block ?_
 repeat refine sq ?_
 refine cl_loop' (fun s : Nat => [(5, ⟨true, .msl [27, 0] (idxF (offpB k) 0 (l.take s)).length⟩), (10, ⟨true, .v (vInt s)⟩)]) (fun s => [([27, 0], .arr 1 ((idxF (offpB k) 0 (l.take s)).map vNat))]) (fun s => s ≤ l.length) (fun s => l.length - s) 0 ?_ ?_ ?_ ?_
 ·exact Nat.zero_le _
 ·rfl
 ·rfl
 rintro i hi
 simp only [go_sem]
 repeat refine sq ?_
 refine rs hΓ [1,5,8,9,10,11] [[27, 0]] ?_
 repeat refine sq ?_
 refine cl_cond rfl rfl (fun hb => ?_) fun hb => ?_
 ·have hlt : i < l.length := by simpa using hb
  have hlt' : (i : Int) < l.length := by omega
  clear hb
  repeat refine sq ?_
  refine cl_skip ?_
  repeat refine sq ?_
  refine cl_block ?_
  repeat refine sq ?_
  have hcl : (idxF (offpB k) 0 (l.take i)).length ≤ 60 := by
   have := idxF_len (offpB k) (l.take i) 0
   simp at this
   omega
  have hn := idxF_next (p := offpB k) hlt
  repeat refine sq ?_
  refine rx hΓ [1,5,6,7,8,9,10] [[7, 0], [27, 0]] (fun K' hK => by simp only [go_sem, map_getD hlt, Int.toNat_natCast, Int.natCast_nonneg, hlt']; exact fin) ?_
  have hbr : (if offB l[i].ki = true then (l[i].pe == k) else false) = offpB k l[i] := by unfold offpB; cases offB l[i].ki <;> rfl
  repeat refine sq ?_
  refine rx hΓ [1,5,6,8,9,10,23] [[27, 0]] (fun K' hK => by simp only [go_sem, hin, hbr]; exact fin) ?_
  repeat refine sq ?_
  refine cl_cond rfl rfl (fun hb => ?_) fun hb => ?_
  ·repeat refine sq ?_
   refine cl_r hΓ fun K' hK => ?_
   simp only [go_sem, te39, tz3]
   repeat' apply And.intro
   all_goals first | rfl | omega | exact Int.le_refl _ | exact Bool.or_not_self _ | exact Bool.not_or_self _ | exact enc_okI _ | exact enc_ok _ | exact fun x hx => (enc_okI _ x hx).1 | exact fun x hx => (enc_ok _ x hx).1 | (simp only [List.length_take, List.length_append, List.length_map, List.length_drop, List.length_cons, List.length_nil]; done) | (simp only [List.length_take, List.length_append, List.length_map, List.length_drop, List.length_cons, List.length_nil]; omega) | (simp only [List.length_take, List.length_append, List.length_map, List.length_drop, List.length_cons, List.length_nil, maxLen]; omega) | (exact fun _ => by decide) | (exact fun h => ⟨h, by decide⟩) | (simp only [decide_eq_true_eq]; omega) | skip
   refine hK _ ?_
   clear K' hK
   simp only [go_sem]
   refine cl_keep [1,5,8,9,10] [[27, 0]] ?_ ?_ <;> simp only [go_sem]
   repeat refine sq ?_
   refine cl_r hΓ fun K' hK => ?_
   simp only [go_sem]
   repeat refine ⟨ob, ?_⟩
   refine hK _ ?_
   clear K' hK
   simp only [go_sem]
   refine ⟨i + 1, hlt, (show l.length - (i + 1) < l.length - i by omega), ?_⟩
   rw [hn, if_pos hb]
   refine weak_eq [1,5,8,9,10] [[27, 0]] ?_ ?_
   ·simp only [go_sem]
   ·simp only [go_sem, wrap_succ hlt hl, Int.natCast_add, Int.natCast_one]
    all_goals simp [vNat]
  ·repeat refine sq ?_
   refine cl_skip ?_
   refine cl_nil ?_
   simp only [go_sem]
   refine cl_keep [1,5,8,9,10] [[27, 0]] ?_ ?_ <;> simp only [go_sem]
   repeat refine sq ?_
   refine cl_r hΓ fun K' hK => ?_
   simp only [go_sem]
   repeat refine ⟨ob, ?_⟩
   refine hK _ ?_
   clear K' hK
   simp only [go_sem]
   refine ⟨i + 1, hlt, (show l.length - (i + 1) < l.length - i by omega), ?_⟩
   rw [hn, if_neg (by simp [hb])]
   refine weak_eq [1,5,8,9,10] [[27, 0]] ?_ ?_ <;> simp only [go_sem, wrap_succ hlt hl, Int.natCast_add, Int.natCast_one]
 ·have hge : i = l.length := by
   have : ¬ (i : Int) < l.length := by simpa using hb
   omega
  subst hge
  clear hb
  repeat refine sq ?_
  refine cl_exit ?_
  simp only [go_sem]
  refine cl_keep [5] [[27, 0]] ?_ ?_ <;> simp only [go_sem]
  rw [List.take_length]
  repeat refine sq ?_
  refine rs hΓ [4] [[27, 0]] ?_
  exact rt
def canB (days : List (Int × Int)) (th : List Nat) (n : Nat) (day : Int) : Bool :=
 (n == 0 || decide ((days.getD (th.getD (n - 1) 0) (0, 0)).1 ≤ day)) && (n == th.length || decide ((days.getD (th.getD n 0) (0, 0)).2 > day))
noncomputable def sKD (f : Int × Int → Deed → V) : Spec := (pKD f).toSpec
theorem sKD_app {f : Int × Int → Deed → V} {obj : Name → Option O} {t : Name} {a b : Int} {d : Deed} : (sKD f).app obj t [.agg [.v (vInt a), .v (vInt b)], .v (encD d)] = ⟨True, .v (f (a, b) d), obj⟩ := by
 have e : frzL (frz 6) obj [.agg [.v (vInt a), .v (vInt b)], .v (encD d)] = ⟨True, [encK (a, b), encD d], obj⟩ := by
  simp [frzL, frz, D.one, V.one, encK]
 simp only [sKD, PSpec.toSpec, e, pKD_fn]
 simp only [pKD, if_true]
 congr 1
 simp only [eq_iff_iff, iff_true]
 exact ⟨trivial, _, d, rfl⟩
def inK (c : List Deed) (th : List Nat) (n : Nat) : Bool := n != 0 && (c.getD (th.getD (n - 1) 0) zeroD).ki == 1
def yesN (c : List Deed) (th : List Nat) (day : Int) (s : Nat) : Bool := (List.range s).any fun n => canB (daysRL c) th n day && inK c th n
def noN (c : List Deed) (th : List Nat) (day : Int) (s : Nat) : Bool := (List.range s).any fun n => canB (daysRL c) th n day && !inK c th n
def offI (c : List Deed) (pe day : Int) : Int := ansI (yesN c (idxF (offpB pe) 0 c) day ((idxF (offpB pe) 0 c).length + 1)) (noN c (idxF (offpB pe) 0 c) day ((idxF (offpB pe) 0 c).length + 1))
@[go_sem] theorem ta48 : tAgg Tryz.prog 48 = some (true, 4) := by kernel_rfl
@[go_sem] theorem tf48_0 : tField Tryz.prog 48 0 = some (0, 1, false) := by kernel_rfl
@[go_sem] theorem tf48_1 : tField Tryz.prog 48 1 = some (1, 1, false) := by kernel_rfl
@[go_sem] theorem tf48_2 : tField Tryz.prog 48 2 = some (2, 1, false) := by kernel_rfl
@[go_sem] theorem tf48_3 : tField Tryz.prog 48 3 = some (3, 1, false) := by kernel_rfl
structure Aska where
 lo : Int
 pe : Int
 da : Int
 kn : Int
def encA (a : Aska) : V := .agg [vInt a.lo, vInt a.pe, vInt a.da, vInt a.kn]
noncomputable def sL2 (f : List Deed → Int → Int → V) : Spec := (pL2 f).toSpec
end Go.Eng
