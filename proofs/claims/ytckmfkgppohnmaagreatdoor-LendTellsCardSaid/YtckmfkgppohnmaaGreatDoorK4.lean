import Derived.Test.YtckmfkgppohnmaaGreatDoorK3
/- Texts EngF to EngK. -/
set_option linter.all false
/- The engine's text of frames: from a caller's state to a callee's, which speaks of what the call reaches alone; and back. -/
namespace Go.Eng
open Go

section
variable {G : Ghost} {φ : Name → Loc} {m : Mem} {σ : S} {a : Act} {w : World}

def canonO (L : List Name) (obj : Name → Option O) (nm : Name) : O := match obj nm with
  | some o => o.ren (cin L)
  | none => .fbox []
/-- What is reached is all there, and speaks of nothing else. -/
def shut (obj : Name → Option O) (L : List Name) : Bool := L.all fun nm => match obj nm with
  | some o => O.clos (inL L) o
  | none => false
def objIn (L : List Name) (obj : Name → Option O) : Name → Option O
  | [i, 1] => if i < L.length then some (canonO L obj (L.getD i [])) else none
  | _ => none
def φIn (L : List Name) (φ : Name → Loc) : Name → Loc
  | [i, 1] => φ (L.getD i [])
  | _ => ⟨0, 0, 0, true, none⟩
def Held (L : List Name) (φ : Name → Loc) (obj : Name → Option O) (b : Nat) : Prop := ∃ nm ∈ L, holds φ obj nm ∧ (φ nm).blk = b

theorem shut_at {obj : Name → Option O} {L : List Name} (h : shut obj L = true) {nm : Name} (hn : nm ∈ L) : ∃ o, obj nm = some o ∧ O.clos (inL L) o = true := by
  have := List.all_eq_true.1 h nm hn
  cases ho : obj nm with
  | none => simp [ho] at this
  | some o => simp only [ho] at this; exact ⟨o, rfl, this⟩

theorem getD_mem {L : List Name} {i : Nat} (h : i < L.length) : L.getD i [] = L[i] := by rw [List.getD_eq_getElem?_getD, List.getElem?_eq_getElem h]; rfl

theorem objIn_cin {L : List Name} {obj : Name → Option O} {nm : Name} (hn : nm ∈ L) : objIn L obj (cin L nm) = some (canonO L obj nm) := by
  obtain ⟨h1, h2⟩ := idx_get hn
  show (if idx L nm < L.length then some (canonO L obj (L.getD (idx L nm) [])) else none) = _
  rw [if_pos h1, getD_mem h1, h2]
theorem φIn_cin {L : List Name} {φ : Name → Loc} {nm : Name} (hn : nm ∈ L) : φIn L φ (cin L nm) = φ nm := by
  obtain ⟨h1, h2⟩ := idx_get hn
  show φ (L.getD (idx L nm) []) = _
  rw [getD_mem h1, h2]

theorem renx_in {L : List Name} {obj : Name → Option O} : RenX (cin L) φ (φIn L φ) obj (objIn L obj) (inL L) := by
  intro nm o hd ho
  have hn := inL_iff.1 hd
  refine ⟨canonO L obj nm, objIn_cin hn, .inl ⟨?_, φIn_cin hn, ?_⟩⟩
  · simp only [canonO, ho]; exact O.len_ren _ _
  · simp only [canonO, ho]; exact O.sz_ren _ _

theorem objIn_some {L : List Name} {obj : Name → Option O} {x : Name} {o : O} (h : objIn L obj x = some o) : ∃ (i : Nat) (hi : i < L.length), x = [i, 1] ∧ o = canonO L obj L[i] := by
  unfold objIn at h
  split at h
  · rename_i i
    split at h
    · rename_i hi
      cases h
      exact ⟨i, hi, rfl, by rw [getD_mem hi]⟩
    · cases h
  · cases h

/-- The ghost of a call: what stood there, what may be changed. -/
def TabI (w : World) (L : List Name) (φ : Name → Loc) (obj : Name → Option O) : Prop := Tabs w ∧ ∀ q ∈ tabL, ¬ Held L φ obj q.1
def ghIn (w : World) (m : Mem) (L : List Name) (φ : Name → Loc) (obj : Name → Option O) (rd : Option Nat) (h : ∀ l, rd = some l → ¬ Held L φ obj l ∧ ∃ r, w.heap[l]? = some (.loop r)) (ht : TabI w L φ obj) : Ghost :=
  ⟨w, m, Held L φ obj, rd, φIn L φ, objIn L obj, h, ht⟩
theorem tab_in (hC : Conc G φ m σ a w) (L : List Name) : TabI w L φ σ.obj := by
  refine ⟨hC.fr.tab, fun q hq => ?_⟩
  rintro ⟨nm, _, hh, e⟩
  obtain ⟨T, f, h1⟩ := G.tab.1 q hq
  have h2 := (Array.getElem?_eq_some_iff.1 h1).1
  rcases hC.own nm hh with h3 | h3
  · omega
  · rw [e] at h3; exact G.tab.2 q hq h3

theorem holds_in {L : List Name} {obj : Name → Option O} (hL : shut obj L = true) {x : Name} (h : holds (φIn L φ) (objIn L obj) x) : ∃ (i : Nat) (hi : i < L.length), x = [i, 1] ∧ holds φ obj L[i] := by
  obtain ⟨o, h1, h2, h3⟩ := h
  obtain ⟨i, hi, rfl, rfl⟩ := objIn_some h1
  obtain ⟨o', h4, _⟩ := shut_at hL (List.getElem_mem hi)
  refine ⟨i, hi, rfl, o', h4, ?_, ?_⟩
  · simp only [canonO, h4, O.mut_ren] at h2; exact h2
  · have : φIn L φ [i, 1] = φ L[i] := by show φ (L.getD i []) = _; rw [getD_mem hi]
    rw [this] at h3; exact h3

theorem frame_in (hC : Conc G φ m σ a w) {L : List Name} (hn : L.Nodup) (hL : shut σ.obj L = true) {rd : Option Nat} (hrd : ∀ l, rd = some l → ¬ Held L φ σ.obj l ∧ ∃ r, w.heap[l]? = some (.loop r))
    {nt b0 : Nat} {env : Nat → E} {tmps : Array Value} (hs : tmps.size = nt) (he : ∀ t, RepE (φIn L φ) (objIn L σ.obj) m (env t) (tmps.getD t undef)) :
    Conc (ghIn w m L φ σ.obj rd hrd (tab_in hC L)) (φIn L φ) m ⟨nt, env, objIn L σ.obj, [0], b0⟩ { tmps := tmps, defers := [] } w := by
  have hφ : ∀ (i : Nat) (hi : i < L.length), φIn L φ [i, 1] = φ L[i] := fun i hi => by show φ (L.getD i []) = _; rw [getD_mem hi]
  constructor
  · exact he
  · exact hs
  · exact ⟨[], rfl, by simp, by simp⟩
  · intro x o hx
    obtain ⟨i, hi, rfl, rfl⟩ := objIn_some hx
    obtain ⟨o', h4, h5⟩ := shut_at hL (List.getElem_mem hi)
    rw [hφ i hi]
    simp only [canonO, h4]
    exact (hC.objs _ _ h4).ren (Mem.le_refl m) renx_in h5 fun _ _ => rfl
  · exact hC.mem
  · intro x hx off
    obtain ⟨i, hi, rfl, h⟩ := holds_in hL hx
    rw [hφ i hi]
    exact hC.apart _ h off
  · intro x y hx hy e
    obtain ⟨i, hi, rfl, h⟩ := holds_in hL hx
    obtain ⟨j, hj, rfl, h'⟩ := holds_in hL hy
    rw [hφ i hi, hφ j hj] at e
    have := (List.getElem_inj hn).1 (hC.inj _ _ h h' e)
    rw [this]
  · intro x hx
    obtain ⟨i, hi, rfl, h⟩ := holds_in hL hx
    rw [hφ i hi]
    exact .inr ⟨_, List.getElem_mem hi, h, rfl⟩
  · exact ⟨rfl, rfl, rfl, Nat.le_refl _, fun _ _ _ => rfl⟩
  · intro b off v h; exact .inl h
  · refine ⟨fun x o hx => ?_, Ext.refl _ _⟩
    obtain ⟨i, hi, rfl, _⟩ := objIn_some hx
    exact own_out i

/-- What lies within a call's frame at its end: what it reached, as it was changed; what it made; and these speak of nothing else. -/
structure EndIn (σ : S) (os : List O) (o : Out) : Prop where
  objs : ∀ i (h : i < os.length), σ.obj [i, 1] = some (lastU o.upd i os[i])
  news : ∀ x ∈ o.new, σ.obj x.1 = some x.2
  cd : D.clos (domC os.length o.new) o.d = true
  cu : (o.upd.all fun x => O.clos (domC os.length o.new) x.2 && decide (x.1 < os.length)) = true
  cn : (o.new.all fun x => O.clos (domC os.length o.new) x.2 && !isOut x.1) = true
  nd : (o.new.map (·.1)).Nodup

def fresh (obj : Name → Option O) (t : Name) (new : List (Name × O)) : Bool := new.all fun x => (obj (x.1 ++ t)).isNone

theorem domC_new {n : Nat} {new : List (Name × O)} {x : Name × O} (h : isOut x.1 = false) (hx : x ∈ new) : domC n new x.1 = true := by
  have key : ∀ nm : Name, isOut nm = false → domC n new nm = new.any fun y => y.1 == nm := by
    intro nm h
    unfold domC
    split
    · simp [isOut] at h
    · rfl
  rw [key _ h]
  exact List.any_eq_true.2 ⟨x, hx, by simp⟩
theorem lastU_clos {dom : Name → Bool} : ∀ (l : List (Nat × O)) (i : Nat) (o : O), O.clos dom o = true → (∀ x ∈ l, O.clos dom x.2 = true) → O.clos dom (lastU l i o) = true
  | [], _, _, h, _ => h
  | (j, o') :: r, i, o, h, hl => by
    simp only [lastU]
    refine lastU_clos r i _ ?_ fun x hx => hl x (by simp [hx])
    split
    · exact hl (j, o') (by simp)
    · exact h

mutual
theorem clos_ren {f : Name → Name} {dom dom' : Name → Bool} (hf : ∀ nm, dom nm = true → dom' (f nm) = true) : ∀ d : D, D.clos dom d = true → D.clos dom' (d.ren f) = true
  | .v _, _ => by simp only [D.ren, D.clos]
  | .nilsl, _ => by simp only [D.ren, D.clos]
  | .nilmap, _ => by simp only [D.ren, D.clos]
  | .any, _ => by simp only [D.ren, D.clos]
  | .ref nm _, h => hf nm h
  | .msl nm _, h => hf nm h
  | .aref nm _ _ _, h => hf nm h
  | .map nm, h => hf nm h
  | .yld nm, h => hf nm h
  | .clo _ a b, h => by
    simp only [D.clos, Bool.and_eq_true] at h
    simp only [D.ren, D.clos, Bool.and_eq_true]
    exact ⟨closL_ren hf a h.1, closL_ren hf b h.2⟩
  | .agg l, h => by simp only [D.clos] at h; simp only [D.ren, D.clos]; exact closL_ren hf l h
  | .tup l, h => by simp only [D.clos] at h; simp only [D.ren, D.clos]; exact closL_ren hf l h
theorem closL_ren {f : Name → Name} {dom dom' : Name → Bool} (hf : ∀ nm, dom nm = true → dom' (f nm) = true) : ∀ l : List D, D.closL dom l = true → D.closL dom' (D.renL f l) = true
  | [], _ => by simp only [D.renL, D.closL]
  | d :: r, h => by
    simp only [D.closL, Bool.and_eq_true] at h
    simp only [D.renL, D.closL, Bool.and_eq_true]
    exact ⟨clos_ren hf d h.1, closL_ren hf r h.2⟩
end
theorem O.clos_ren {f : Name → Name} {dom dom' : Name → Bool} (hf : ∀ nm, dom nm = true → dom' (f nm) = true) (o : O) (h : O.clos dom o = true) : O.clos dom' (o.ren f) = true := by
  cases o with
  | box cs => simp only [O.clos] at h; simp only [O.ren, O.clos]; exact closL_ren hf cs h
  | loop env ps asg body st pend =>
    simp only [O.clos] at h
    simp only [O.ren, O.clos]
    have := closL_ren hf _ h
    rw [renL_map, List.map_map] at this
    rw [List.map_map]
    exact this
  | _ => rfl

/-- Back to the caller. -/
theorem frame_out (hC : Conc G φ m σ a w) {L : List Name} (hn : L.Nodup) (hL : shut σ.obj L = true) {rd : Option Nat} {hrd : ∀ l, rd = some l → ¬ Held L φ σ.obj l ∧ ∃ r, w.heap[l]? = some (.loop r)}
    {ht : TabI w L φ σ.obj} {φ2 : Name → Loc} {m2 : Mem} {σ2 : S} {a2 : Act} {w2 : World} (hC2 : Conc (ghIn w m L φ σ.obj rd hrd ht) φ2 m2 σ2 a2 w2) {o : Out} (hE : EndIn σ2 (L.map (canonO L σ.obj)) o) {t : Name} (hf : fresh σ.obj t o.new = true) :
    ∃ φ' m', Mem.le m m' ∧ Conc G φ' m' { σ with obj := putN L t o.new (putU L t o.upd σ.obj) } a w2 ∧
      Ext φ φ' σ.obj (putN L t o.new (putU L t o.upd σ.obj)) ∧
      (∀ d u, RepD φ2 σ2.obj m2 d u → D.clos (domC L.length o.new) d = true → RepD φ' (putN L t o.new (putU L t o.upd σ.obj)) m' (d.ren (cout L t)) u) := by
  have hlen : (L.map (canonO L σ.obj)).length = L.length := by simp
  obtain ⟨h1, h2, h3, h4, h5, h6⟩ := hE
  rw [hlen] at h3 h4 h5
  have hu : (o.upd.all fun x => decide (x.1 < L.length)) = true := List.all_eq_true.2 fun x hx => by
    have := List.all_eq_true.1 h4 x hx
    simp only [Bool.and_eq_true] at this; exact this.2
  have huc : ∀ x ∈ o.upd, O.clos (domC L.length o.new) x.2 = true := fun x hx => by
    have := List.all_eq_true.1 h4 x hx
    simp only [Bool.and_eq_true] at this; exact this.1
  have hnc : ∀ x ∈ o.new, O.clos (domC L.length o.new) x.2 = true := fun x hx => by
    have := List.all_eq_true.1 h5 x hx
    simp only [Bool.and_eq_true] at this; exact this.1
  have hni : ∀ x ∈ o.new, isOut x.1 = false := fun x hx => by
    have := List.all_eq_true.1 h5 x hx
    simp only [Bool.and_eq_true, Bool.not_eq_true'] at this; exact this.2
  have hfr : ∀ x ∈ o.new, σ.obj (x.1 ++ t) = none := fun x hx => by
    have := List.all_eq_true.1 hf x hx
    simpa using this
  have hLs : ∀ nm ∈ L, ∃ o, σ.obj nm = some o := fun nm h => let ⟨o, h, _⟩ := shut_at hL h; ⟨o, h⟩
  have hLn : ∀ nm ∈ L, ∀ x ∈ o.new, nm ≠ x.1 ++ t := fun nm h x hx e => by
    obtain ⟨o', ho⟩ := hLs nm h
    rw [e, hfr x hx] at ho; cases ho
  have hci : ∀ nm, inL L nm = true → cout L t (cin L nm) = nm := fun nm h => cout_cin (inL_iff.1 h)
  generalize hob : putN L t o.new (putU L t o.upd σ.obj) = obj'
  have hobL : ∀ (i : Nat) (hi : i < L.length), obj' L[i] = some ((lastU o.upd i (canonO L σ.obj L[i])).ren (cout L t)) := fun i hi => by
    rw [← hob, putN_ne _ _ (hLn _ (List.getElem_mem hi))]
    refine putU_at hn _ _ hi _ hu ?_
    obtain ⟨o', ho, hc⟩ := shut_at hL (List.getElem_mem hi)
    simp only [canonO, ho]
    rw [O.ren_id hci o' hc]
  have hobN : ∀ x ∈ o.new, obj' (x.1 ++ t) = some (x.2.ren (cout L t)) := fun x hx => by rw [← hob]; exact putN_at _ _ h6 hx
  have hobO : ∀ nm, nm ∉ L → (∀ x ∈ o.new, nm ≠ x.1 ++ t) → obj' nm = σ.obj nm := fun nm h h' => by rw [← hob, putN_ne _ _ h', putU_ne _ _ hu h]
  let φ' : Name → Loc := fun nm => if nm ∈ L then φ2 (cin L nm) else match o.new.find? (fun x => x.1 ++ t == nm) with
    | some x => φ2 x.1
    | none => φ nm
  have hφL : ∀ (i : Nat) (hi : i < L.length), φ' L[i] = φ2 [i, 1] := fun i hi => by
    show (if L[i] ∈ L then φ2 (cin L L[i]) else _) = _
    rw [if_pos (List.getElem_mem hi)]
    show φ2 [idx L L[i], 1] = _
    rw [idx_at hn hi]
  have hφN : ∀ x ∈ o.new, φ' (x.1 ++ t) = φ2 x.1 := fun x hx => by
    show (if x.1 ++ t ∈ L then _ else _) = _
    rw [if_neg fun h => hLn _ h x hx rfl]
    cases hfi : o.new.find? (fun y => y.1 ++ t == x.1 ++ t) with
    | none => have := List.find?_eq_none.1 hfi x hx; simp at this
    | some y =>
      have := List.find?_some hfi
      simp only [beq_iff_eq] at this
      simp only [List.append_cancel_right this]
  have hφO : ∀ nm, nm ∉ L → (∀ x ∈ o.new, nm ≠ x.1 ++ t) → φ' nm = φ nm := fun nm h h' => by
    show (if nm ∈ L then _ else _) = _
    rw [if_neg h]
    cases hfi : o.new.find? (fun y => y.1 ++ t == nm) with
    | none => rfl
    | some y =>
      have := List.find?_some hfi
      simp only [beq_iff_eq] at this
      exact (h' y (List.mem_of_find?_eq_some hfi) this.symm).elim
  let m' : Mem := fun b off => match m2 b off with | some c => some c | none => m b off
  have hown2 := hC2.own
  have hheld : ∀ b, Held L φ σ.obj b → b < w.heap.size := fun b ⟨nm, h, ⟨o', k1, k2, k3⟩, e⟩ => by rw [← e]; exact (hC.objs nm o' k1).lt k2 k3
  have hmm : Mem.le m m' := by
    intro b off v h
    show (match m2 b off with | some c => some c | none => m b off) = some v
    cases hq : m2 b off with
    | none => exact h
    | some c =>
      have k1 := hC2.mem b off c hq
      have k2 := hC.mem b off v h
      rw [cell?_block (hC2.fr.block b (cell?_lt k2) fun ⟨nm, _, k3, e⟩ => by
        have := hC.apart nm k3 off; rw [e, h] at this; cases this)] at k1
      have k3 : World.cell? w ⟨b, off, none⟩ = some c := k1
      rw [k2] at k3; exact k3.symm
  have hmm2 : Mem.le m2 m' := by
    intro b off v h
    show (match m2 b off with | some c => some c | none => m b off) = some v
    rw [h]
  have hm'c : ∀ b off v, m' b off = some v → m2 b off = some v ∨ (m2 b off = none ∧ m b off = some v) := by
    intro b off v h
    have h' : (match m2 b off with | some c => some c | none => m b off) = some v := h
    cases hq : m2 b off with
    | none => rw [hq] at h'; exact .inr ⟨rfl, h'⟩
    | some c => rw [hq] at h'; exact .inl h'
  have hdomC : ∀ x, domC L.length o.new x = true → (∃ (i : Nat) (hi : i < L.length), x = [i, 1]) ∨ (isOut x = false ∧ ∃ y ∈ o.new, y.1 = x) := by
    intro x hx
    unfold domC at hx
    split at hx
    · rename_i i
      exact .inl ⟨i, by simpa using hx, rfl⟩
    · obtain ⟨y, hy, e⟩ := List.any_eq_true.1 hx
      simp only [beq_iff_eq] at e
      subst e
      exact .inr ⟨hni y hy, y, hy, rfl⟩
  have hcoL : ∀ (i : Nat) (hi : i < L.length), cout L t [i, 1] = L[i] := fun i hi => getD_mem hi
  have hfin : ∀ (i : Nat) (hi : i < L.length), σ2.obj [i, 1] = some (lastU o.upd i (canonO L σ.obj L[i])) := fun i hi => by
    have := h1 i (by simpa using hi)
    simpa using this
  have hren : RenX (cout L t) φ2 φ' σ2.obj obj' (domC L.length o.new) := by
    intro x q hd hq
    rcases hdomC x hd with ⟨i, hi, rfl⟩ | ⟨hi, y, hy, rfl⟩
    · rw [hcoL i hi, hobL i hi, hφL i hi]
      rw [hfin i hi] at hq; cases hq
      exact ⟨_, rfl, .inl ⟨O.len_ren _ _, rfl, O.sz_ren _ _⟩⟩
    · rw [cout_new hi, hobN y hy, hφN y hy]
      rw [h2 y hy] at hq; cases hq
      exact ⟨_, rfl, .inl ⟨O.len_ren _ _, rfl, O.sz_ren _ _⟩⟩
  have hfinc : ∀ (i : Nat) (hi : i < L.length), O.clos (domC L.length o.new) (lastU o.upd i (canonO L σ.obj L[i])) = true := by
    intro i hi
    refine lastU_clos _ _ _ ?_ huc
    obtain ⟨o', ho, hc⟩ := shut_at hL (List.getElem_mem hi)
    simp only [canonO, ho]
    refine O.clos_ren (fun nm hd => ?_) o' hc
    obtain ⟨k1, _⟩ := idx_get (inL_iff.1 hd)
    show decide (idx L nm < L.length) = true
    simpa using k1
  have hext : Ext φ φ' σ.obj obj' := by
    intro nm q hq
    by_cases hnL : nm ∈ L
    · obtain ⟨i, hi, rfl⟩ := List.getElem_of_mem hnL
      obtain ⟨o'', k1, k2⟩ := hC2.kept.2 [i, 1] (canonO L σ.obj L[i]) (by
        show objIn L σ.obj [i, 1] = _
        show (if i < L.length then _ else _) = _
        rw [if_pos hi, getD_mem hi])
      have k1' : o'' = lastU o.upd i (canonO L σ.obj L[i]) := by rw [hfin i hi] at k1; exact (Option.some.inj k1).symm
      subst k1'
      have hφi : φIn L φ [i, 1] = φ L[i] := by show φ (L.getD i []) = _; rw [getD_mem hi]
      have hcl : (canonO L σ.obj L[i]).len? = q.len? ∧ (canonO L σ.obj L[i]).sz = q.sz := by
        simp only [canonO, hq]; exact ⟨O.len_ren _ _, O.sz_ren _ _⟩
      refine ⟨_, hobL i hi, ?_⟩
      rw [O.len_ren, O.sz_ren, hφL i hi]
      rcases k2 with ⟨a1, a2, a3⟩ | ⟨n, n', a1, a2, a3⟩
      · exact .inl ⟨a1.trans hcl.1, (a2 : φ2 [i, 1] = φIn L φ [i, 1]).trans hφi, a3.trans hcl.2⟩
      · exact .inr ⟨n, n', hcl.1 ▸ a1, a2, a3⟩
    · have hnN : ∀ x ∈ o.new, nm ≠ x.1 ++ t := fun x hx e => by rw [e, hfr x hx] at hq; cases hq
      exact ⟨q, by rw [hobO nm hnL hnN]; exact hq, .inl ⟨rfl, hφO nm hnL hnN, rfl⟩⟩
  have hcase : ∀ nm, holds φ' obj' nm → (∃ x, holds φ2 σ2.obj x ∧ φ' nm = φ2 x ∧ nm = cout L t x ∧ domC L.length o.new x = true) ∨ (nm ∉ L ∧ (∀ x ∈ o.new, nm ≠ x.1 ++ t) ∧ holds φ σ.obj nm ∧ φ' nm = φ nm) := by
    rintro nm ⟨q, k1, k2, k3⟩
    by_cases hnL : nm ∈ L
    · obtain ⟨i, hi, rfl⟩ := List.getElem_of_mem hnL
      left
      rw [hobL i hi] at k1; cases k1
      rw [O.mut_ren] at k2
      rw [hφL i hi] at k3
      exact ⟨[i, 1], ⟨_, hfin i hi, k2, k3⟩, hφL i hi, (hcoL i hi).symm, by show decide (i < L.length) = true; simpa using hi⟩
    · by_cases hnN : ∃ x ∈ o.new, nm = x.1 ++ t
      · obtain ⟨x, hx, rfl⟩ := hnN
        left
        rw [hobN x hx] at k1; cases k1
        rw [O.mut_ren] at k2
        rw [hφN x hx] at k3
        refine ⟨x.1, ⟨_, h2 x hx, k2, k3⟩, hφN x hx, (cout_new (hni x hx)).symm, ?_⟩
        exact domC_new (hni x hx) hx
      · have hnN' : ∀ x ∈ o.new, nm ≠ x.1 ++ t := fun x hx e => hnN ⟨x, hx, e⟩
        right
        rw [hobO nm hnL hnN'] at k1
        rw [hφO nm hnL hnN'] at k3
        exact ⟨hnL, hnN', ⟨q, k1, k2, k3⟩, hφO nm hnL hnN'⟩
  have hout : ∀ nm, nm ∉ L → holds φ σ.obj nm → (φ nm).blk < w.heap.size ∧ ¬ Held L φ σ.obj (φ nm).blk := by
    intro nm hnL hh
    obtain ⟨q, k1, k2, k3⟩ := hh
    refine ⟨(hC.objs nm q k1).lt k2 k3, fun ⟨x, k4, k5, k6⟩ => ?_⟩
    exact hnL (hC.inj _ _ k5 ⟨q, k1, k2, k3⟩ k6 ▸ k4)
  have hinj : ∀ x y, domC L.length o.new x = true → domC L.length o.new y = true → cout L t x = cout L t y → x = y := by
    intro x y hx hy e
    rcases hdomC x hx with ⟨i, hi, rfl⟩ | ⟨k1, x', hx', rfl⟩ <;> rcases hdomC y hy with ⟨j, hj, rfl⟩ | ⟨k2, y', hy', rfl⟩
    · rw [hcoL i hi, hcoL j hj] at e
      rw [(List.getElem_inj hn).1 e]
    · rw [hcoL i hi, cout_new k2] at e
      exact (hLn _ (List.getElem_mem hi) y' hy' e).elim
    · rw [hcoL j hj, cout_new k1] at e
      exact (hLn _ (List.getElem_mem hj) x' hx' e.symm).elim
    · rw [cout_new k1, cout_new k2] at e
      exact List.append_cancel_right e
  refine ⟨φ', m', hmm, ?_, hext, fun d u hd hc => hd.renx hmm2 hren hc⟩
  constructor
  · exact fun x => (hC.tmps x).ext hmm hext
  · exact hC.size
  · obtain ⟨ds, k1, k2, k3⟩ := hC.defers
    refine ⟨ds, k1, k2, fun D hD => ⟨(k3 D hD).1, ?_⟩⟩
    have k4 := (k3 D hD).2
    rw [hC2.fr.block D (Array.getElem?_eq_some_iff.1 k4).1 fun ⟨x, _, ⟨q, k5, k6, k7⟩, k8⟩ => (hC.objs x q k5).notDef k6 k7 _ (by rw [k8]; exact k4)]
    exact k4
  · intro nm q hq
    by_cases hnL : nm ∈ L
    · obtain ⟨i, hi, rfl⟩ := List.getElem_of_mem hnL
      have hq' : obj' L[i] = some q := hq
      rw [hobL i hi] at hq'; cases hq'
      rw [hφL i hi]
      exact (hC2.objs _ _ (hfin i hi)).ren hmm2 hren (hfinc i hi) fun _ _ => rfl
    · by_cases hnN : ∃ x ∈ o.new, nm = x.1 ++ t
      · obtain ⟨x, hx, rfl⟩ := hnN
        have hq' : obj' (x.1 ++ t) = some q := hq
        rw [hobN x hx] at hq'; cases hq'
        rw [hφN x hx]
        exact (hC2.objs _ _ (h2 x hx)).ren hmm2 hren (hnc x hx) fun _ _ => rfl
      · have hnN' : ∀ x ∈ o.new, nm ≠ x.1 ++ t := fun x hx e => hnN ⟨x, hx, e⟩
        have hq' : obj' nm = some q := hq
        rw [hobO nm hnL hnN'] at hq'
        rw [hφO nm hnL hnN']
        refine (hC.objs nm q hq').ext hmm hext fun k2 k3 => ?_
        obtain ⟨k4, k5⟩ := hout nm hnL ⟨q, hq', k2, k3⟩
        exact hC2.fr.block _ k4 k5
  · intro b off v h
    rcases hm'c b off v h with h | ⟨hn2, h⟩
    · exact hC2.mem b off v h
    · have k2 := hC.mem b off v h
      rw [cell?_block (hC2.fr.block b (cell?_lt k2) fun ⟨nm, _, k3, e⟩ => by
        have := hC.apart nm k3 off; rw [e, h] at this; cases this)]
      exact k2
  · intro nm hh off
    rcases hcase nm hh with ⟨x, k1, k2, _, _⟩ | ⟨k1, k2, k3, k4⟩
    · rw [k2]
      cases hq : m' (φ2 x).blk off with
      | none => rfl
      | some v =>
        rcases hm'c _ _ _ hq with h | ⟨_, h⟩
        · have := hC2.apart x k1 off; rw [h] at this; cases this
        · rcases hown2 x k1 with h' | ⟨nm', k5, k6, k7⟩
          · have := cell?_lt (hC.mem _ _ _ h)
            have h'' : w.heap.size ≤ (φ2 x).blk := h'
            omega
          · have := hC.apart nm' k6 off
            rw [k7, h] at this; cases this
    · rw [k4]
      obtain ⟨k5, k6⟩ := hout nm k1 k3
      cases hq : m' (φ nm).blk off with
      | none => rfl
      | some v =>
        rcases hm'c _ _ _ hq with h | ⟨_, h⟩
        · rcases hC2.fresh _ _ _ h with h' | h' | h'
          · have := hC.apart nm k3 off
            have h'' : m (φ nm).blk off = some v := h'
            rw [h''] at this; cases this
          · have h'' : w.heap.size ≤ (φ nm).blk := h'
            omega
          · exact (k6 h').elim
        · have := hC.apart nm k3 off; rw [h] at this; cases this
  · intro nm nm' hh hh' e
    rcases hcase nm hh with ⟨x, k1, k2, k3, k4⟩ | ⟨k1, k2, k3, k4⟩ <;> rcases hcase nm' hh' with ⟨x', j1, j2, j3, j4⟩ | ⟨j1, j2, j3, j4⟩
    · rw [k2, j2] at e
      rw [k3, j3, hC2.inj _ _ k1 j1 e]
    · exfalso
      rw [k2, j4] at e
      obtain ⟨k5, k6⟩ := hout nm' j1 j3
      rcases hown2 x k1 with h' | h'
      · have h'' : w.heap.size ≤ (φ2 x).blk := h'
        omega
      · rw [e] at h'; exact k6 h'
    · exfalso
      rw [k4, j2] at e
      obtain ⟨k5, k6⟩ := hout nm k1 k3
      rcases hown2 x' j1 with h' | h'
      · have h'' : w.heap.size ≤ (φ2 x').blk := h'
        omega
      · rw [← e] at h'; exact k6 h'
    · rw [k4, j4] at e
      exact hC.inj _ _ k3 j3 e
  · intro nm hh
    rcases hcase nm hh with ⟨x, k1, k2, _, _⟩ | ⟨k1, k2, k3, k4⟩
    · rw [k2]
      rcases hown2 x k1 with h' | ⟨nm', k5, k6, k7⟩
      · exact .inl (Nat.le_trans hC.fr.size h')
      · rw [← k7]; exact hC.own nm' k6
    · rw [k4]; exact hC.own nm k3
  · refine ⟨hC2.fr.os.trans hC.fr.os, hC2.fr.tape.trans hC.fr.tape, hC2.fr.output.trans hC.fr.output, Nat.le_trans hC.fr.size hC2.fr.size, fun b hb ho => ?_⟩
    rw [hC2.fr.block b (Nat.lt_of_lt_of_le hb hC.fr.size) fun ⟨nm, _, k3, e⟩ => ?_]
    · exact hC.fr.block b hb ho
    · rcases hC.own nm k3 with h | h <;> rw [e] at h
      · omega
      · exact ho h
  · intro b off v h
    rcases hm'c b off v h with h | ⟨_, h⟩
    · rcases hC2.fresh _ _ _ h with h' | h' | ⟨nm, _, k3, e⟩
      · exact hC.fresh _ _ _ h'
      · exact .inr (.inl (Nat.le_trans hC.fr.size h'))
      · rw [← e]; exact .inr (hC.own nm k3)
    · exact hC.fresh _ _ _ h
  · exact ⟨hC.kept.1, hC.kept.2.trans hext⟩

end
end Go.Eng
/- The engine's text of contracts that change what they reach; of rounds of loops over functions. -/
namespace Go.Eng
open Go

def argsD : Nat → List D → List (Nat × E)
  | _, [] => []
  | k, x :: r => (k, ⟨true, x⟩) :: argsD (k + 1) r
theorem argsD_mem : ∀ {k : Nat} {xs : List D} {t : Nat} {e : E}, (t, e) ∈ argsD k xs → ∃ (i : Nat) (h : i < xs.length), t = k + i ∧ e = ⟨true, xs[i]⟩
  | k, [], t, e, h => by simp [argsD] at h
  | k, x :: r, t, e, h => by
    simp only [argsD, List.mem_cons, Prod.mk.injEq] at h
    rcases h with ⟨rfl, rfl⟩ | h
    · exact ⟨0, by simp, rfl, rfl⟩
    · obtain ⟨i, hi, h1, h2⟩ := argsD_mem h
      exact ⟨i + 1, by simpa using hi, by omega, by simpa using h2⟩

/-- A contract by what the call reaches, under names of its own. -/
structure CSpec where
  pre : List O → List D → Prop
  out : List O → List D → Out

def cOs (obj : Name → Option O) (ds : List D) : List O := (reach obj ds).map (canonO (reach obj ds) obj)
def cDs (obj : Name → Option O) (ds : List D) : List D := D.renL (cin (reach obj ds)) ds

def CSpec.toSpec (s : CSpec) : Spec where
  app obj t ds := ⟨(shut obj (reach obj ds) && D.closL (inL (reach obj ds)) ds && fresh obj t (s.out (cOs obj ds) (cDs obj ds)).new) = true ∧ s.pre (cOs obj ds) (cDs obj ds),
    (s.out (cOs obj ds) (cDs obj ds)).d.ren (cout (reach obj ds) t), putN (reach obj ds) t (s.out (cOs obj ds) (cDs obj ds)).new (putU (reach obj ds) t (s.out (cOs obj ds) (cDs obj ds)).upd obj)⟩
  foot obj t ds := reach obj ds ++ ((s.out (cOs obj ds) (cDs obj ds)).upd.map fun x => (reach obj ds).getD x.1 []) ++ (s.out (cOs obj ds) (cDs obj ds)).new.map fun x => x.1 ++ t
  wrt obj t ds := ((s.out (cOs obj ds) (cDs obj ds)).upd.map fun x => (reach obj ds).getD x.1 []) ++ (s.out (cOs obj ds) (cDs obj ds)).new.map fun x => x.1 ++ t

theorem putU_eff {L : List Name} {t : Name} : ∀ (l : List (Nat × O)) (obj obj2 : Name → Option O) (nm : Name), putU L t l obj2 nm = if nm ∈ l.map (fun x => L.getD x.1 []) then putU L t l obj nm else obj2 nm
  | [], obj, obj2, nm => by simp [putU]
  | (i, o) :: r, obj, obj2, nm => by
    simp only [putU, List.map_cons, List.mem_cons]
    rw [putU_eff r (upd obj (L.getD i []) (some (o.ren (cout L t)))) (upd obj2 (L.getD i []) (some (o.ren (cout L t)))) nm]
    by_cases h : nm ∈ r.map (fun x => L.getD x.1 [])
    · rw [if_pos h, if_pos (.inr h)]
    · rw [if_neg h]
      by_cases e : nm = L.getD i []
      · rw [if_pos (.inl e)]
        have hu : putU L t r (upd obj (L.getD i []) (some (o.ren (cout L t)))) nm = (upd obj (L.getD i []) (some (o.ren (cout L t)))) nm := by
          rw [putU_eff r obj _ nm, if_neg h]
        rw [hu, e, upd_same, upd_same]
      · rw [if_neg (by simp only [not_or]; exact ⟨e, h⟩)]
        exact upd_ne _ _ _ e
theorem putN_eff {L : List Name} {t : Name} : ∀ (l : List (Name × O)) (obj obj2 : Name → Option O) (nm : Name), putN L t l obj2 nm = if nm ∈ l.map (fun x => x.1 ++ t) then putN L t l obj nm else obj2 nm
  | [], obj, obj2, nm => by simp [putN]
  | (i, o) :: r, obj, obj2, nm => by
    simp only [putN, List.map_cons, List.mem_cons]
    rw [putN_eff r (upd obj (i ++ t) (some (o.ren (cout L t)))) (upd obj2 (i ++ t) (some (o.ren (cout L t)))) nm]
    by_cases h : nm ∈ r.map (fun x => x.1 ++ t)
    · rw [if_pos h, if_pos (.inr h)]
    · rw [if_neg h]
      by_cases e : nm = i ++ t
      · rw [if_pos (.inl e)]
        have hu : putN L t r (upd obj (i ++ t) (some (o.ren (cout L t)))) nm = (upd obj (i ++ t) (some (o.ren (cout L t)))) nm := by
          rw [putN_eff r obj _ nm, if_neg h]
        rw [hu, e, upd_same, upd_same]
      · rw [if_neg (by simp only [not_or]; exact ⟨e, h⟩)]
        exact upd_ne _ _ _ e

theorem reach_agr {obj obj2 : Name → Option O} {ds : List D} (h : Agr (reach obj ds) obj obj2) : reach obj2 ds = reach obj ds := reachL_agr _ _ _ h
theorem cOs_agr {obj obj2 : Name → Option O} {ds : List D} (h : Agr (reach obj ds) obj obj2) : cOs obj2 ds = cOs obj ds := by
  unfold cOs
  rw [reach_agr h]
  exact List.map_congr_left fun nm hn => by simp only [canonO]; rw [h nm hn]
theorem cDs_agr {obj obj2 : Name → Option O} {ds : List D} (h : Agr (reach obj ds) obj obj2) : cDs obj2 ds = cDs obj ds := by
  unfold cDs
  rw [reach_agr h]
theorem shut_agr {obj obj2 : Name → Option O} {L : List Name} (h : Agr L obj obj2) : shut obj2 L = shut obj L := by
  unfold shut
  refine Bool.eq_iff_iff.2 ?_
  simp only [List.all_eq_true]
  exact ⟨fun k x hx => by rw [← h x hx]; exact k x hx, fun k x hx => by rw [h x hx]; exact k x hx⟩
theorem fresh_agr {obj obj2 : Name → Option O} {t : Name} {new : List (Name × O)} (h : Agr (new.map fun x => x.1 ++ t) obj obj2) : fresh obj2 t new = fresh obj t new := by
  unfold fresh
  refine Bool.eq_iff_iff.2 ?_
  simp only [List.all_eq_true]
  exact ⟨fun k x hx => by rw [← h _ (List.mem_map_of_mem hx)]; exact k x hx, fun k x hx => by rw [h _ (List.mem_map_of_mem hx)]; exact k x hx⟩

theorem like_put {ok ok2 : Prop} {d : D} {obj obj2 : Name → Option O} {L : List Name} {t : Name} {o : Out} (hok : ok2 = ok)
    (ha : Agr ((o.upd.map fun x => L.getD x.1 []) ++ o.new.map fun x => x.1 ++ t) obj obj2) :
    Like ⟨ok, d, putN L t o.new (putU L t o.upd obj)⟩ ⟨ok2, d, putN L t o.new (putU L t o.upd obj2)⟩ obj obj2 ((o.upd.map fun x => L.getD x.1 []) ++ o.new.map fun x => x.1 ++ t) := by
  refine ⟨hok, rfl, fun nm => ?_, fun nm hn => ?_⟩
  · show putN L t o.new (putU L t o.upd obj2) nm = if nm ∈ _ then putN L t o.new (putU L t o.upd obj) nm else obj2 nm
    rw [putN_eff o.new (putU L t o.upd obj) (putU L t o.upd obj2) nm]
    by_cases h1 : nm ∈ o.new.map (fun x => x.1 ++ t)
    · rw [if_pos h1, if_pos (List.mem_append_right _ h1)]
    · rw [if_neg h1, putU_eff o.upd obj obj2 nm]
      by_cases h2 : nm ∈ o.upd.map (fun x => L.getD x.1 [])
      · rw [if_pos h2, if_pos (List.mem_append_left _ h2)]
        rw [putN_eff o.new obj (putU L t o.upd obj) nm, if_neg h1]
      · rw [if_neg h2, if_neg (by simp only [List.mem_append, not_or]; exact ⟨h2, h1⟩)]
  · show putN L t o.new (putU L t o.upd obj) nm = obj nm
    simp only [List.mem_append, not_or] at hn
    rw [putN_eff o.new obj (putU L t o.upd obj) nm, if_neg hn.2, putU_eff o.upd obj obj nm, if_neg hn.1]

theorem CSpec.near (s : CSpec) : s.toSpec.Near := by
  have key : ∀ {obj obj2 : Name → Option O} {t : Name} {ds : List D}, Agr (s.toSpec.foot obj t ds) obj obj2 → Agr (reach obj ds) obj obj2 ∧
      Agr (((s.out (cOs obj ds) (cDs obj ds)).upd.map fun x => (reach obj ds).getD x.1 []) ++ (s.out (cOs obj ds) (cDs obj ds)).new.map fun x => x.1 ++ t) obj obj2 := by
    intro obj obj2 t ds h
    refine ⟨fun nm hn => h nm ?_, fun nm hn => h nm ?_⟩
    · exact List.mem_append_left _ (List.mem_append_left _ hn)
    · rcases List.mem_append.1 hn with hn | hn
      · exact List.mem_append_left _ (List.mem_append_right _ hn)
      · exact List.mem_append_right _ hn
  refine ⟨fun obj obj2 t ds h => ?_, fun obj obj2 t ds h => ?_, fun obj t ds nm hn => ?_, fun obj obj2 t ds h => ?_⟩
  · obtain ⟨h1, h2⟩ := key h
    simp only [CSpec.toSpec]
    rw [cOs_agr h1, cDs_agr h1, reach_agr h1]
    refine like_put ?_ h2
    rw [shut_agr h1, fresh_agr fun nm hn => h2 nm (List.mem_append_right _ hn)]
  · obtain ⟨h1, h2⟩ := key h
    simp only [CSpec.toSpec]
    rw [cOs_agr h1, cDs_agr h1, reach_agr h1]
  · simp only [CSpec.toSpec] at hn ⊢
    rcases List.mem_append.1 hn with hn | hn
    · exact List.mem_append_left _ (List.mem_append_right _ hn)
    · exact List.mem_append_right _ hn
  · obtain ⟨h1, h2⟩ := key h
    simp only [CSpec.toSpec]
    rw [cOs_agr h1, cDs_agr h1, reach_agr h1]

def objsOk (σ : S) (u : List (Nat × O)) : Nat → List O → Prop
  | _, [] => True
  | i, o :: r => σ.obj [i, 1] = some (lastU u i o) ∧ objsOk σ u (i + 1) r
theorem objsOk_at {σ : S} {u : List (Nat × O)} : ∀ {l : List O} {k : Nat}, objsOk σ u k l → ∀ i (h : i < l.length), σ.obj [k + i, 1] = some (lastU u (k + i) l[i])
  | o :: r, k, h, 0, _ => h.1
  | o :: r, k, h, i + 1, hi => by
    have := objsOk_at h.2 i (by simpa using hi)
    rw [show k + (i + 1) = k + 1 + i by omega]
    simpa using this

def newsOk (σ : S) : List (Name × O) → Prop
  | [] => True
  | x :: r => σ.obj x.1 = some x.2 ∧ newsOk σ r
theorem newsOk_mem {σ : S} : ∀ {l : List (Name × O)}, newsOk σ l → ∀ x ∈ l, σ.obj x.1 = some x.2
  | y :: r, h, x, hx => by
    rcases List.mem_cons.1 hx with rfl | hx
    · exact h.1
    · exact newsOk_mem h.2 x hx

def distinct : List Name → Bool
  | [] => true
  | x :: r => (r.all fun y => !(x == y)) && distinct r
theorem distinct_nodup : ∀ {l : List Name}, distinct l = true → l.Nodup
  | [], _ => by simp
  | x :: r, h => by
    simp only [distinct, Bool.and_eq_true] at h
    refine List.nodup_cons.2 ⟨fun hx => ?_, distinct_nodup h.2⟩
    have := List.all_eq_true.1 h.1 x hx
    simp at this

/-- What a body must come to. -/
def endC (os : List O) (o : Out) (σ : S) : Prop :=
  objsOk σ o.upd 0 os ∧ newsOk σ o.new ∧
    (D.clos (domC os.length o.new) o.d && (o.upd.all fun x => O.clos (domC os.length o.new) x.2 && decide (x.1 < os.length)) && (o.new.all fun x => O.clos (domC os.length o.new) x.2 && !isOut x.1) && distinct (o.new.map (·.1))) = true
theorem endC_in {os : List O} {o : Out} {σ : S} (h : endC os o σ) : EndIn σ os o := by
  obtain ⟨h1, h2, h3⟩ := h
  simp only [Bool.and_eq_true] at h3
  exact ⟨fun i hi => by simpa using objsOk_at h1 i hi, newsOk_mem h2, h3.1.1.1, h3.1.1.2, by simpa using h3.1.2, distinct_nodup h3.2⟩

def retC (P : Program) (rs : List ResultVar) (os : List O) (o : Out) : Exit → S → Prop
  | .normal, σ => (resAll P σ rs).ok ∧ (resAll P σ rs).d = o.d ∧ endC os o σ
  | .ret, σ => (resAll P σ rs).ok ∧ (resAll P σ rs).d = o.d ∧ endC os o σ
  | _, _ => False

def outH (os : List O) : Name → Option O
  | [i, 1] => os[i]?
  | _ => none

theorem objIn_not {L : List Name} {obj : Name → Option O} {x : Name} (h : isOut x = false) : objIn L obj x = none := by
  unfold objIn
  split
  · simp [isOut] at h
  · rfl
theorem outH_not {os : List O} {x : Name} (h : isOut x = false) : outH os x = none := by
  unfold outH
  split
  · simp [isOut] at h
  · rfl
theorem objIn_outH {L : List Name} {obj : Name → Option O} : objIn L obj = outH (L.map (canonO L obj)) := by
  funext x
  cases hx : isOut x with
  | false => rw [objIn_not hx, outH_not hx]
  | true =>
    obtain ⟨i, rfl⟩ := isOut_iff.1 hx
    show (if i < L.length then some (canonO L obj (L.getD i [])) else none) = (L.map (canonO L obj))[i]?
    by_cases hi : i < L.length
    · rw [if_pos hi, List.getElem?_eq_getElem (by simpa using hi)]
      rw [getD_mem hi, List.getElem_map]
    · rw [if_neg hi, List.getElem?_eq_none (by simpa using hi)]

theorem mkS_in {nt : Nat} {l : List (Nat × E)} {os : List O} : mkS nt [0] (outH os) l [] = ⟨nt, ofL eAny l, outH os, [0], 0⟩ := by
  unfold mkS
  congr 1
  funext nm
  split
  · rename_i h
    have : isOut nm = false := by
      cases hc : isOut nm with
      | false => rfl
      | true =>
        obtain ⟨i, rfl⟩ := isOut_iff.1 hc
        rw [own_out] at h; cases h
    unfold outH
    split
    · simp [isOut] at this
    · rfl
  · rfl

/-- A contract from a body. -/
theorem csound {P : Program} {f : FuncId} {fn : Func} {c : Code} {s : CSpec} {nt : Nat} {rs : List ResultVar} (hf : P.funcs[f]? = some fn) (hb : fn.body = some c) (hnt : fn.ntmps = nt) (hrs : fn.results.toList = rs)
    (hen : ∀ args w, (callFunc f args).run P w = .ok (.enter f args) w) (hne : f ≠ yid)
    (h : ∀ os ds, s.pre os ds → ds.length ≤ nt ∧ CW P c (mkS nt [0] (outH os) (argsD 0 ds) []) (retC P rs os (s.out os ds))) : SSound P f s.toSpec := by
  subst hnt
  subst hrs
  refine ⟨s.near, fun _ => hen, fun _ G φ m σ a w hC t ds us _ hl hr hok => ?_, fun e => (hne e).elim⟩
  obtain ⟨hok, hpre⟩ := hok
  simp only [Bool.and_eq_true] at hok
  obtain ⟨⟨hsh, hcl⟩, hfr⟩ := hok
  obtain ⟨hlen, hcw⟩ := h _ _ hpre
  have hnd : (reach σ.obj ds).Nodup := reachL_nodup _ _ _ (by simp)
  simp only [cDs, renL_map, List.length_map] at hlen
  refine (callsIn_wide (n := 0)).1 (callsIn_of_wp_marks hf hb trivial ?_)
  have hin := frame_in hC (L := reach σ.obj ds) hnd hsh (rd := none) (fun l h => by cases h) (b0 := 0) (nt := fn.ntmps) (env := ofL eAny (argsD 0 (cDs σ.obj ds)))
    (tmps := us ++ Array.replicate (fn.ntmps - us.size) undef) (by simp; omega) (fun t => by
      rcases ofL_cases (z := eAny) (argsD 0 (cDs σ.obj ds)) t with h1 | h1
      · rw [h1]; unfold RepE eAny; simp; exact .any _
      · obtain ⟨i, hi, h2, h3⟩ := argsD_mem h1
        rw [h3]
        unfold RepE
        simp only [if_true]
        simp only [cDs, renL_map, List.length_map] at hi
        have hi' : i < us.size := by omega
        have e : ((us ++ Array.replicate (fn.ntmps - us.size) undef).getD t undef) = us[i] := by
          have hlt' : 0 + i < (us ++ Array.replicate (fn.ntmps - us.size) undef).size := by simp; omega
          rw [h2]
          simp only [Array.getD, hlt', dite_true]
          show (us ++ Array.replicate (fn.ntmps - us.size) undef)[0 + i] = us[i]
          simp only [Nat.zero_add]
          exact Array.getElem_append_left hi'
        rw [e]
        simp only [cDs, renL_map, List.getElem_map]
        exact (hr i hi hi').renx (Mem.le_refl m) renx_in (closL_mem hi hcl))
  rw [mkS_in] at hcw
  rw [objIn_outH] at hin
  refine wpIn_mono (hcw _ _ m _ w hin) ?_
  rintro e a1 w1 ⟨φ2, m2, σ2, hC1, hK⟩
  have fin : (resAll P σ2 fn.results.toList).ok ∧ (resAll P σ2 fn.results.toList).d = (s.out (cOs σ.obj ds) (cDs σ.obj ds)).d ∧ endC (cOs σ.obj ds) (s.out (cOs σ.obj ds) (cDs σ.obj ds)) σ2 →
      LeavesInM Fence.wide 0 P fn a1.tmps (fun e w' => ∃ v φ' m', e = .returned v ∧ Conc G φ' m' { σ with obj := (s.toSpec.app σ.obj t ds).obj } a w' ∧ RepD φ' (s.toSpec.app σ.obj t ds).obj m' (s.toSpec.app σ.obj t ds).d v ∧ Ext φ φ' σ.obj (s.toSpec.app σ.obj t ds).obj) a1.defers .returning w1 := by
    rintro ⟨h1, h2, h3⟩
    refine leaves_conc a1.defers rfl hC1 fun a' w' _ hC' => ?_
    obtain ⟨v, h4, h5⟩ := results_run hC' fn h1
    rw [h2] at h5
    have hE := endC_in h3
    obtain ⟨φ', m', k1, k2, k3, k4⟩ := frame_out hC hnd hsh hC' hE hfr
    have hcd := hE.cd
    simp only [cOs, List.length_map] at hcd
    exact ⟨v, h4, v, φ', m', rfl, k2, k4 _ _ h5 hcd, k3⟩
  cases e with
  | normal => exact fin hK
  | ret => exact fin hK
  | _ => exact hK.elim

end Go.Eng
/- The engine's text of loops over functions: a round is a call of the loop's record; the statement. -/
namespace Go.Eng
open Go

theorem Like.more {ok ok2 : Prop} {d d2 : D} {o1 o2 obj obj2 : Name → Option O} {wr : List Name} (nm : Name) (x : Option O) (h : Like ⟨ok, d, o1⟩ ⟨ok2, d2, o2⟩ obj obj2 wr) :
    Like ⟨ok, d, upd o1 nm x⟩ ⟨ok2, d2, upd o2 nm x⟩ obj obj2 (nm :: wr) := by
  refine ⟨h.ok, h.d, fun y => ?_, fun y hy => ?_⟩
  · show upd o2 nm x y = if y ∈ nm :: wr then upd o1 nm x y else obj2 y
    by_cases e : y = nm
    · subst e; rw [upd_same, if_pos (by simp), upd_same]
    · rw [upd_ne _ _ _ e, upd_ne _ _ _ e]
      have := h.eff y
      simp only at this
      rw [this]
      by_cases hy : y ∈ wr
      · rw [if_pos hy, if_pos (List.mem_cons_of_mem _ hy)]
      · rw [if_neg hy, if_neg (by simp [e, hy])]
  · simp only [List.mem_cons, not_or] at hy
    show upd o1 nm x y = obj y
    rw [upd_ne _ _ _ hy.1]
    exact h.frame y hy.2

/-- What a round of a loop does. -/
structure YSpec where
  pre : List E → List Nat → Code → Code → List O → List D → Prop
  out : List E → List Nat → Code → Code → List O → List D → Out × Option Code

def roots (env : List E) (ds : List D) : List D := env.map (·.d) ++ ds
def yEnv (obj : Name → Option O) (env : List E) (ds : List D) : List E := env.map (E.ren (cin (reach obj (roots env ds))))
def yDs (obj : Name → Option O) (env : List E) (ds : List D) : List D := D.renL (cin (reach obj (roots env ds))) ds
def YSpec.o (y : YSpec) (obj : Name → Option O) (env : List E) (ps : List Nat) (asg body : Code) (ds : List D) : Out × Option Code :=
  y.out (yEnv obj env ds) ps asg body (cOs obj (roots env ds)) (yDs obj env ds)

def YSpec.toSpec (y : YSpec) : Spec where
  app obj t args := match args with
    | .yld nm :: ds => match obj nm with
      | some (.loop env ps asg body .ready none) =>
        ⟨(shut obj (reach obj (roots env ds)) && D.closL (inL (reach obj (roots env ds))) (roots env ds) && fresh obj t (y.o obj env ps asg body ds).1.new && !inL (reach obj (roots env ds)) nm &&
            decide (ds.length = ps.length) && (ps.all fun p => decide (p < env.length))) = true ∧ y.pre (yEnv obj env ds) ps asg body (cOs obj (roots env ds)) (yDs obj env ds),
          .v (.bool (y.o obj env ps asg body ds).2.isNone),
          upd (putN (reach obj (roots env ds)) t (y.o obj env ps asg body ds).1.new (putU (reach obj (roots env ds)) t (y.o obj env ps asg body ds).1.upd obj)) nm
            (some (.loop env ps asg body (if (y.o obj env ps asg body ds).2.isNone then .ready else .done) (y.o obj env ps asg body ds).2))⟩
      | _ => .bad obj
    | _ => .bad obj
  foot obj t args := match args with
    | .yld nm :: ds => nm :: (match obj nm with
      | some (.loop env ps asg body .ready none) => reach obj (roots env ds) ++ ((y.o obj env ps asg body ds).1.upd.map fun x => (reach obj (roots env ds)).getD x.1 []) ++ (y.o obj env ps asg body ds).1.new.map fun x => x.1 ++ t
      | _ => [])
    | _ => []
  wrt obj t args := match args with
    | .yld nm :: ds => nm :: (match obj nm with
      | some (.loop env ps asg body .ready none) => ((y.o obj env ps asg body ds).1.upd.map fun x => (reach obj (roots env ds)).getD x.1 []) ++ (y.o obj env ps asg body ds).1.new.map fun x => x.1 ++ t
      | _ => [])
    | _ => []

theorem YSpec.near (y : YSpec) : y.toSpec.Near := by
  have oagr : ∀ {obj obj2 : Name → Option O} {env : List E} {ps : List Nat} {asg body : Code} {ds : List D}, Agr (reach obj (roots env ds)) obj obj2 →
      y.o obj2 env ps asg body ds = y.o obj env ps asg body ds ∧ yEnv obj2 env ds = yEnv obj env ds ∧ yDs obj2 env ds = yDs obj env ds := by
    intro obj obj2 env ps asg body ds h
    unfold YSpec.o yEnv yDs
    rw [cOs_agr h, reach_agr h]
    exact ⟨rfl, rfl, rfl⟩
  have split : ∀ {A B C : List Name} {obj obj2 : Name → Option O} {nm : Name}, Agr (nm :: (A ++ B ++ C)) obj obj2 → Agr A obj obj2 ∧ Agr (B ++ C) obj obj2 := by
    intro A B C obj obj2 nm h
    refine ⟨fun x hx => h x ?_, fun x hx => h x ?_⟩
    · exact List.mem_cons_of_mem _ (List.mem_append_left _ (List.mem_append_left _ hx))
    · rcases List.mem_append.1 hx with hx | hx
      · exact List.mem_cons_of_mem _ (List.mem_append_left _ (List.mem_append_right _ hx))
      · exact List.mem_cons_of_mem _ (List.mem_append_right _ hx)
  have cases_ : ∀ (args : List D), (∃ nm ds, args = .yld nm :: ds) ∨ (∀ obj t, y.toSpec.app obj t args = .bad obj ∧ y.toSpec.foot obj t args = [] ∧ y.toSpec.wrt obj t args = []) := by
    intro args
    rcases args with _ | ⟨d, ds⟩
    · exact .inr fun _ _ => ⟨rfl, rfl, rfl⟩
    · cases d with
      | yld nm => exact .inl ⟨nm, ds, rfl⟩
      | _ => exact .inr fun _ _ => ⟨rfl, rfl, rfl⟩
  refine ⟨fun obj obj2 t args h => ?_, fun obj obj2 t args h => ?_, fun obj t args nm' hn => ?_, fun obj obj2 t args h => ?_⟩
  · rcases cases_ args with ⟨nm, ds, rfl⟩ | hb
    · simp only [YSpec.toSpec] at h ⊢
      have h0 : obj2 nm = obj nm := h nm (by simp)
      rw [h0]
      split
      · rename_i env ps asg body ho
        simp only [ho] at h
        obtain ⟨h1, h2⟩ := split h
        obtain ⟨e1, e2, e3⟩ := oagr (ps := ps) (asg := asg) (body := body) h1
        rw [e1, e2, e3, cOs_agr h1, reach_agr h1]
        refine Like.more nm _ (like_put ?_ h2)
        rw [shut_agr h1, fresh_agr fun nm hn => h2 nm (List.mem_append_right _ hn)]
      · exact .none _ fun x hx => by simp only [List.mem_singleton] at hx; subst hx; exact h0
    · rw [(hb obj t).1, (hb obj2 t).1, (hb obj t).2.2]
      exact .same rfl rfl rfl rfl
  · rcases cases_ args with ⟨nm, ds, rfl⟩ | hb
    · simp only [YSpec.toSpec] at h ⊢
      have h0 : obj2 nm = obj nm := h nm (by simp)
      rw [h0]
      split
      · rename_i env ps asg body ho
        simp only [ho] at h
        obtain ⟨h1, h2⟩ := split h
        obtain ⟨e1, e2, e3⟩ := oagr (ps := ps) (asg := asg) (body := body) h1
        rw [e1, reach_agr h1]
      · rfl
    · rw [(hb obj t).2.1, (hb obj2 t).2.1]
  · rcases cases_ args with ⟨nm, ds, rfl⟩ | hb
    · simp only [YSpec.toSpec] at hn ⊢
      rcases List.mem_cons.1 hn with rfl | hn
      · simp
      · refine List.mem_cons_of_mem _ ?_
        split at hn
        · rename_i env ps asg body ho
          try simp only [ho]
          rcases List.mem_append.1 hn with hn | hn
          · exact List.mem_append_left _ (List.mem_append_right _ hn)
          · exact List.mem_append_right _ hn
        · cases hn
    · rw [(hb obj t).2.2] at hn; cases hn
  · rcases cases_ args with ⟨nm, ds, rfl⟩ | hb
    · simp only [YSpec.toSpec] at h ⊢
      have h0 : obj2 nm = obj nm := h nm (by simp)
      rw [h0]
      split
      · rename_i env ps asg body ho
        simp only [ho] at h
        obtain ⟨h1, h2⟩ := split h
        obtain ⟨e1, e2, e3⟩ := oagr (ps := ps) (asg := asg) (body := body) h1
        rw [e1, reach_agr h1]
      · rfl
    · rw [(hb obj t).2.2, (hb obj2 t).2.2]

/-! a round -/
def envF (env : List E) : Nat → E := fun t => env.getD t eAny
def setP : (Nat → E) → List Nat → List D → (Nat → E)
  | f, p :: ps, d :: ds => setP (upd f p ⟨true, d⟩) ps ds
  | f, _, _ => f

def onlyK (k : S → Prop) : Exit → S → Prop
  | .normal, σ => k σ
  | _, _ => False
def retY (os : List O) (o : Out × Option Code) : Exit → S → Prop
  | .normal, σ => o.2 = none ∧ endC os o.1 σ
  | .ret, σ => o.2 = some .ret ∧ endC os o.1 σ
  | .exit id, σ => o.2 = some (.exit id) ∧ endC os o.1 σ
  | _, _ => False

theorem setP_rep {φ : Name → Loc} {obj : Name → Option O} {m : Mem} {n : Nat} : ∀ (ps : List Nat) (ds : List D) (us : List Value) (f : Nat → E) (tmps : Array Value), tmps.size = n → ps.length = ds.length → ds.length = us.length →
    (∀ p ∈ ps, p < n) → (∀ t, RepE φ obj m (f t) (tmps.getD t undef)) → (∀ i (h : i < ds.length) (h' : i < us.length), RepD φ obj m ds[i] us[i]) →
    (∀ t, RepE φ obj m (setP f ps ds t) (((ps.zip us).foldl (fun tmps (p : Nat × Value) => tmps.setIfInBounds p.1 p.2) tmps).getD t undef)) ∧ ((ps.zip us).foldl (fun tmps (p : Nat × Value) => tmps.setIfInBounds p.1 p.2) tmps).size = n
  | [], ds, us, f, tmps, hs, h1, h2, hp, hf, hr => by
    have : ds = [] := List.eq_nil_of_length_eq_zero (by simpa using h1.symm)
    subst this
    exact ⟨hf, hs⟩
  | p :: ps, [], us, f, tmps, hs, h1, h2, hp, hf, hr => by simp at h1
  | p :: ps, d :: ds, [], f, tmps, hs, h1, h2, hp, hf, hr => by simp at h2
  | p :: ps, d :: ds, u :: us, f, tmps, hs, h1, h2, hp, hf, hr => by
    simp only [List.zip_cons_cons, List.foldl_cons, setP]
    refine setP_rep ps ds us _ _ (by simpa using hs) (by simpa using h1) (by simpa using h2) (fun q hq => hp q (by simp [hq])) (fun t => ?_) fun i a b => by
      have := hr (i + 1) (by simpa using a) (by simpa using b)
      simpa using this
    have hlt : p < tmps.size := by rw [hs]; exact hp p (by simp)
    by_cases ht : t = p
    · subst ht
      rw [upd_same]
      have e : (tmps.setIfInBounds t u).getD t undef = u := by simp [Array.getD, hlt]
      rw [e]
      unfold RepE
      simp only [if_true]
      exact hr 0 (by simp) (by simp)
    · rw [upd_ne _ _ _ ht]
      have e : (tmps.setIfInBounds p u).getD t undef = tmps.getD t undef := by
        simp only [Array.getD_eq_getD_getElem?]
        rw [Array.getElem?_setIfInBounds_ne (fun h => ht h.symm)]
      rw [e]; exact hf t

theorem tab_rec {wa wb : World} {L : List Name} {φ : Name → Loc} {obj : Name → Option O} {l : Nat} (ht : TabI wa L φ obj) (h : ∃ r, wa.heap[l]? = some (.loop r)) (hb : ∀ b, b ≠ l → wb.heap[b]? = wa.heap[b]?) : TabI wb L φ obj := by
  refine ⟨fun q hq => ?_, ht.2⟩
  obtain ⟨T, f, e⟩ := ht.1 q hq
  obtain ⟨r, hr⟩ := h
  rw [hb q.1 (fun e' => by rw [e', hr] at e; cases e)]
  exact ⟨T, f, e⟩
theorem conc_rec {wa wb : World} {m : Mem} {L : List Name} {φ : Name → Loc} {obj : Name → Option O} {l : Nat} {h h' ht ht'} {φ1 : Name → Loc} {m1 : Mem} {σ1 : S} {a1 : Act} {w1 w2 : World}
    (hC : Conc (ghIn wa m L φ obj (some l) h ht) φ1 m1 σ1 a1 w1) (hsz : wb.heap.size = wa.heap.size ∧ w2.heap.size = w1.heap.size) (ho : wb.os = w2.os ∧ wb.tape = w2.tape ∧ wb.output = w2.output)
    (hb : ∀ b, b ≠ l → wb.heap[b]? = wa.heap[b]?) (h2 : ∀ b, b ≠ l → w2.heap[b]? = w1.heap[b]?) (hl : wb.heap[l]? = w2.heap[l]?) : Conc (ghIn wb m L φ obj (some l) h' ht') φ1 m1 σ1 a1 w2 := by
  obtain ⟨hnh, r, hr⟩ := h l rfl
  have hlt : l < wa.heap.size := (Array.getElem?_eq_some_iff.1 hr).1
  have hr1 : w1.heap[l]? = some (.loop r) := (hC.fr.block l hlt hnh).trans hr
  constructor
  · exact hC.tmps
  · exact hC.size
  · obtain ⟨ds, k1, k2, k3⟩ := hC.defers
    refine ⟨ds, k1, k2, fun D hD => ?_⟩
    obtain ⟨k4, k5⟩ := k3 D hD
    have hne : D ≠ l := fun e => by subst e; rw [hr1] at k5; cases k5
    exact ⟨by show wb.heap.size ≤ D; rw [hsz.1]; exact k4, (h2 D hne).trans k5⟩
  · intro nm o hno
    refine (hC.objs nm o hno).ext (Mem.le_refl _) (Ext.refl _ _) fun k1 k2 => h2 _ fun e => ?_
    rcases hC.own nm ⟨o, hno, k1, k2⟩ with h3 | h3
    · have h4 : wa.heap.size ≤ (φ1 nm).blk := h3
      omega
    · rw [e] at h3; exact hnh h3
  · intro b off v hv
    have h3 := hC.mem b off v hv
    rw [cell?_block (h2 b (fun e => by subst e; unfold World.cell? at h3; simp [hr1] at h3))]
    exact h3
  · exact hC.apart
  · exact hC.inj
  · intro nm hh
    rcases hC.own nm hh with h3 | h3
    · exact .inl (by show wb.heap.size ≤ _; rw [hsz.1]; exact h3)
    · exact .inr h3
  · refine ⟨ho.1.symm, ho.2.1.symm, ho.2.2.symm, by show wb.heap.size ≤ _; rw [hsz.1, hsz.2]; exact hC.fr.size, fun b h3 h4 => ?_⟩
    show w2.heap[b]? = wb.heap[b]?
    by_cases e : b = l
    · subst e; exact hl.symm
    · rw [h2 b e, hb b e]
      exact hC.fr.block b (by have : b < wb.heap.size := h3; show b < wa.heap.size; omega) h4
  · intro b off v hv
    rcases hC.fresh b off v hv with h3 | h3 | h3
    · exact .inl h3
    · exact .inr (.inl (by show wb.heap.size ≤ _; rw [hsz.1]; exact h3))
    · exact .inr (.inr h3)
  · exact hC.kept


theorem canonO_upd {L : List Name} {obj : Name → Option O} {nm : Name} {x : Option O} (h : nm ∉ L) {y : Name} (hy : y ∈ L) : canonO L (upd obj nm x) y = canonO L obj y := by
  unfold canonO
  rw [upd_ne _ _ _ (by rintro rfl; exact h hy)]
theorem objIn_upd {L : List Name} {obj : Name → Option O} {nm : Name} {x : Option O} (h : nm ∉ L) : objIn L (upd obj nm x) = objIn L obj := by
  rw [objIn_outH, objIn_outH]
  congr 1
  exact List.map_congr_left fun y hy => canonO_upd h hy
theorem held_upd {L : List Name} {φ : Name → Loc} {obj : Name → Option O} {nm : Name} {x : Option O} (h : nm ∉ L) : Held L φ (upd obj nm x) = Held L φ obj := by
  funext b
  refine propext ⟨fun ⟨y, h1, ⟨o, h2, h3⟩, h4⟩ => ?_, fun ⟨y, h1, ⟨o, h2, h3⟩, h4⟩ => ?_⟩
  · rw [upd_ne _ _ _ (by rintro rfl; exact h h1)] at h2
    exact ⟨y, h1, ⟨o, h2, h3⟩, h4⟩
  · exact ⟨y, h1, ⟨o, by rw [upd_ne _ _ _ (by rintro rfl; exact h h1)]; exact h2, h3⟩, h4⟩
theorem ghIn_upd {w : World} {m : Mem} {L : List Name} {φ : Name → Loc} {obj : Name → Option O} {nm : Name} {x : Option O} {rd : Option Nat} (h : nm ∉ L) {h1} {h2} {t1} {t2} : ghIn w m L φ (upd obj nm x) rd h1 t1 = ghIn w m L φ obj rd h2 t2 := by
  unfold ghIn
  simp only [objIn_upd h, held_upd h]

theorem yield_run {P : Program} {y : YSpec} (h : ∀ env ps asg body os ds, y.pre env ps asg body os ds → ds.length = ps.length →
      CW P asg ⟨env.length, setP (envF env) ps ds, outH os, [0], 0⟩ (onlyK fun σ1 => CW P body σ1 (retY os (y.out env ps asg body os ds)))) : SSound P yid y.toSpec := by
  refine ⟨y.near, fun e => (e rfl).elim, fun e => (e rfl).elim, fun _ G φ m σ a w hC t nm ds us _ hl hr _ hok o hexec => ?_⟩
  simp only [YSpec.toSpec] at hok ⊢
  split at hok
  case h_2 => exact hok.elim
  rename_i env ps asg body hnm
  try simp only [hnm]
  obtain ⟨hok, hpre⟩ := hok
  simp only [Bool.and_eq_true, Bool.not_eq_true', decide_eq_true_eq] at hok
  obtain ⟨⟨⟨⟨⟨hsh, hcl⟩, hfr⟩, hnL'⟩, hlen⟩, hps⟩ := hok
  have hnL : nm ∉ reach σ.obj (roots env ds) := fun h => by rw [inL_iff.2 h] at hnL'; cases hnL'
  have hnd : (reach σ.obj (roots env ds)).Nodup := reachL_nodup _ _ _ (by simp)
  obtain ⟨_, hnul, r, hr1, hr2, hr3, hr4, hr5, hr6, hr7, hr8⟩ := hC.objs nm _ hnm
  have hlt : (φ nm).blk < w.heap.size := (Array.getElem?_eq_some_iff.1 hr1).1
  have hheld : ¬ Held (reach σ.obj (roots env ds)) φ σ.obj (φ nm).blk := fun ⟨x, k1, k2, k3⟩ => hnL (hC.inj _ _ k2 ⟨_, hnm, rfl, hnul⟩ k3 ▸ k1)
  have hpl : r.params.size = ps.length := by rw [← hr4]; simp
  intro next Q hnext
  rw [hexec, run_yield hr1 (by omega), Oper.uponIn_round]
  refine ⟨fun h => (by simp [fen, Fence.wide] at h), ?_⟩
  rw [hr5, hr6]
  refine roundIn_of_wpIn trivial ?_
  have hclx := hcl
  have hcl1 : ∀ i (h : i < env.length), D.clos (inL (reach σ.obj (roots env ds))) env[i].d = true := fun i hi => by
    have := closL_mem (l := roots env ds) (i := i) (by simp [roots]; omega) hcl
    simp only [roots] at this ⊢
    rw [List.getElem_append_left (by simpa using hi)] at this
    simpa using this
  have hcl2 : ∀ i (h : i < ds.length), D.clos (inL (reach σ.obj (roots env ds))) ds[i] = true := fun i hi => by
    have := closL_mem (l := roots env ds) (i := env.length + i) (by simp [roots]; omega) hcl
    simp only [roots] at this ⊢
    rw [List.getElem_append_right (by simp)] at this
    simpa using this
  obtain ⟨q1, q2⟩ := setP_rep (φ := φIn (reach σ.obj (roots env ds)) φ) (obj := objIn (reach σ.obj (roots env ds)) σ.obj) (m := m) (n := env.length) ps (yDs σ.obj env ds) us.toList (envF (yEnv σ.obj env ds)) r.tmps hr7
    (by simp [yDs, renL_map]; omega) (by simp [yDs, renL_map]; omega) (fun p hp => by have := List.all_eq_true.1 hps p hp; simpa using this)
    (fun t => by
      unfold envF
      by_cases ht : t < env.length
      · have := (hr8 t ht).renx (Mem.le_refl m) renx_in (hcl1 t ht)
        have e : (yEnv σ.obj env ds).getD t eAny = E.ren (cin (reach σ.obj (roots env ds))) env[t] := by
          rw [List.getD_eq_getElem?_getD, List.getElem?_eq_getElem (by simpa [yEnv] using ht)]; simp [yEnv]
        rw [e]; exact this
      · have e : (yEnv σ.obj env ds).getD t eAny = eAny := by
          rw [List.getD_eq_getElem?_getD, List.getElem?_eq_none (by simp [yEnv]; omega)]; rfl
        rw [e]; unfold RepE eAny; simp; exact .any _)
    (fun i a b => by
      simp only [yDs, renL_map, List.length_map] at a
      have := (hr i a (by simpa using b)).renx (Mem.le_refl m) renx_in (hcl2 i a)
      simpa [yDs, renL_map] using this)
  have hin := frame_in hC (L := reach σ.obj (roots env ds)) hnd hsh (rd := some (φ nm).blk) (fun l e => by cases e; exact ⟨hheld, r, hr1⟩) (b0 := 0) (nt := env.length) q2 q1
  have hcw := h _ _ _ _ _ _ hpre (by simp [yDs, renL_map]; omega)
  have hfold : (r.params.zip us).foldl (fun tmps (p : Nat × Value) => tmps.setIfInBounds p.1 p.2) r.tmps = (ps.zip us.toList).foldl (fun tmps (p : Nat × Value) => tmps.setIfInBounds p.1 p.2) r.tmps := by
    rw [← hr4, ← Array.toList_zip, Array.foldl_toList]
  have hel : (yEnv σ.obj env ds).length = env.length := by simp [yEnv]
  rw [hel] at hcw
  rw [objIn_outH] at hin
  have hfold' : (r.params.zip us).foldl (fun tmps (x : Tmp × Value) => match x with | (t, a) => tmps.setIfInBounds t a) r.tmps = (ps.zip us.toList).foldl (fun tmps (p : Nat × Value) => tmps.setIfInBounds p.1 p.2) r.tmps := hfold
  rw [hfold']
  refine wpIn_mono (hcw _ _ m _ w hin) ?_
  rintro e a1 w1 ⟨φ1, m1, σ1, hC1, hK⟩
  cases e with
  | normal =>
    have hr1' : w1.heap[(φ nm).blk]? = some (.loop r) := (hC1.fr.block _ hlt hheld).trans hr1
    have hlt1 := (Array.getElem?_eq_some_iff.1 hr1').1
    refine ⟨_, run_beginRound hr1' hr2, ?_⟩
    have hob : w1.os = w.os ∧ w1.tape = w.tape ∧ w1.output = w.output := ⟨hC1.fr.os, hC1.fr.tape, hC1.fr.output⟩
    have hC2 := conc_rec (wb := w.putObj (φ nm).blk (.loop { r with state := .busy })) (w2 := w1.putObj (φ nm).blk (.loop { r with state := .busy }))
      (h' := fun l e => by cases e; exact ⟨hheld, _, World.putObj_heap_same hlt⟩) (ht' := tab_rec (tab_in hC _) ⟨r, hr1⟩ fun b hb => World.putObj_heap_other hb) hC1 ⟨by simp, by simp⟩ ⟨hob.1.symm, hob.2.1.symm, hob.2.2.symm⟩
      (fun b hb => World.putObj_heap_other hb) (fun b hb => World.putObj_heap_other hb) (by rw [World.putObj_heap_same hlt, World.putObj_heap_same hlt1])
    refine wpIn_mono (hK _ _ m1 _ _ hC2) ?_
    rintro e a3 w3 ⟨φ3, m3, σ3, hC3, hK3⟩
    have hr3' : w3.heap[(φ nm).blk]? = some (.loop { r with state := .busy }) := (hC3.fr.block _ (by show _ < (w.putObj _ _).heap.size; simpa using hlt) hheld).trans (World.putObj_heap_same hlt)
    have hlt3 := (Array.getElem?_eq_some_iff.1 hr3').1
    have fin : ∀ pend : Option Code, (y.o σ.obj env ps asg body ds).2 = pend → endC (cOs σ.obj (roots env ds)) (y.o σ.obj env ps asg body ds).1 σ3 →
        ∃ v w', (Instr.endRound (φ nm).blk pend).run P w3 = .ok v w' ∧ next (a.put o.dst v) w' := by
      intro pend he hE
      refine ⟨_, _, run_endRound pend hr3', ?_⟩
      generalize hrf : ({ r with state := .busy } : Loop) = rb at hr3' ⊢
      let rf : Loop := { r with state := if pend.isNone then .ready else .done, pending := pend }
      have hrf' : ({ rb with state := if pend.isNone then .ready else .done, pending := pend } : Loop) = rf := by rw [← hrf]
      rw [hrf']
      have hC4 := conc_rec (wb := w.putObj (φ nm).blk (.loop rf)) (w2 := w3.putObj (φ nm).blk (.loop rf))
        (h' := fun l e => by cases e; exact ⟨hheld, _, World.putObj_heap_same hlt⟩) (ht' := tab_rec (tab_in hC _) ⟨r, hr1⟩ fun b hb => World.putObj_heap_other hb) hC3 ⟨by simp, by simp⟩
        ⟨(show (w.putObj (φ nm).blk (.loop rf)).os = (w3.putObj (φ nm).blk (.loop rf)).os from hC3.fr.os.symm), (show (w.putObj (φ nm).blk (.loop rf)).tape = (w3.putObj (φ nm).blk (.loop rf)).tape from hC3.fr.tape.symm), (show (w.putObj (φ nm).blk (.loop rf)).output = (w3.putObj (φ nm).blk (.loop rf)).output from hC3.fr.output.symm)⟩
        (fun b hb => by rw [World.putObj_heap_other hb, World.putObj_heap_other hb]) (fun b hb => World.putObj_heap_other hb) (by rw [World.putObj_heap_same hlt, World.putObj_heap_same hlt3])
      have hC' : Conc G φ m { σ with obj := upd σ.obj nm (some (.loop env ps asg body (if pend.isNone then .ready else .done) pend)) } a (w.putObj (φ nm).blk (.loop rf)) := by
        have := hC.chg (w' := w.putObj (φ nm).blk (.loop rf)) nm (.loop env ps asg body (if pend.isNone then .ready else .done) pend) (φ nm) (Ext.same hnm rfl rfl) ⟨rfl, rfl, rfl, by simp⟩
          (fun b _ hb => World.putObj_heap_other (by rcases hb with h | h; · rw [hnul] at h; cases h
                                                     · exact h))
          (fun _ => .inr ⟨⟨_, hnm, rfl, hnul⟩, rfl⟩) (by
            rw [upd_id]
            refine ⟨by assumption, hnul, rf, World.putObj_heap_same hlt, rfl, rfl, hr4, hr5, hr6, hr7, fun i hi => (hr8 i hi).ext (Mem.le_refl m) ?_⟩
            have := Ext.same (φ := φ) (o' := .loop env ps asg body (if pend.isNone then .ready else .done) pend) hnm rfl rfl
            rwa [upd_id] at this)
        rwa [upd_id] at this
      have hL' : shut (upd σ.obj nm (some (.loop env ps asg body (if pend.isNone then .ready else .done) pend))) (reach σ.obj (roots env ds)) = true := by
        rw [shut_agr (obj := σ.obj) fun x hx => upd_ne _ _ _ (by rintro rfl; exact hnL hx)]; exact hsh
      have hcan : (reach σ.obj (roots env ds)).map (canonO (reach σ.obj (roots env ds)) (upd σ.obj nm (some (.loop env ps asg body (if pend.isNone then .ready else .done) pend)))) = cOs σ.obj (roots env ds) :=
        List.map_congr_left fun x hx => canonO_upd hnL hx
      have hE' := endC_in hE
      rw [← hcan] at hE'
      have hnn : ∀ x ∈ (y.o σ.obj env ps asg body ds).1.new, nm ≠ x.1 ++ t := fun x hx e => by
        have := List.all_eq_true.1 hfr x hx
        rw [← e, hnm] at this; cases this
      have hfr' : fresh (upd σ.obj nm (some (.loop env ps asg body (if pend.isNone then .ready else .done) pend))) t (y.o σ.obj env ps asg body ds).1.new = true := by
        rw [fresh_agr (obj := σ.obj) fun x hx => by
          obtain ⟨z, hz, rfl⟩ := List.mem_map.1 hx
          exact upd_ne _ _ _ (hnn z hz).symm]
        exact hfr
      rw [← ghIn_upd (x := some (.loop env ps asg body (if pend.isNone then .ready else .done) pend)) hnL (h1 := fun l e => by
        cases e; rw [held_upd hnL]; exact ⟨hheld, _, World.putObj_heap_same hlt⟩) (t1 := by unfold TabI; rw [held_upd hnL]; exact tab_rec (tab_in hC _) ⟨r, hr1⟩ fun b hb => World.putObj_heap_other hb)] at hC4
      obtain ⟨φ', m', k1, k2, k3, k4⟩ := frame_out hC' hnd hL' hC4 hE' hfr'
      refine hnext _ φ' m' _ ?_ (.v _ _ ?_)
      · have : (putN (reach σ.obj (roots env ds)) t (y.o σ.obj env ps asg body ds).1.new (putU (reach σ.obj (roots env ds)) t (y.o σ.obj env ps asg body ds).1.upd (upd σ.obj nm (some (.loop env ps asg body (if pend.isNone then .ready else .done) pend))))) =
          upd (putN (reach σ.obj (roots env ds)) t (y.o σ.obj env ps asg body ds).1.new (putU (reach σ.obj (roots env ds)) t (y.o σ.obj env ps asg body ds).1.upd σ.obj)) nm (some (.loop env ps asg body (if pend.isNone then .ready else .done) pend)) := by
          funext x
          have hu : ((y.o σ.obj env ps asg body ds).1.upd.all fun x => decide (x.1 < (reach σ.obj (roots env ds)).length)) = true := List.all_eq_true.2 fun z hz => by
            have := List.all_eq_true.1 hE'.cu z hz
            simp only [Bool.and_eq_true, List.length_map] at this; exact this.2
          by_cases e : x = nm
          · subst e
            rw [upd_same, putN_ne _ _ hnn, putU_ne _ _ hu hnL, upd_same]
          · rw [upd_ne _ _ _ e]
            rw [putN_eff (y.o σ.obj env ps asg body ds).1.new σ.obj (putU _ _ _ (upd _ _ _)) x, putN_eff (y.o σ.obj env ps asg body ds).1.new σ.obj (putU _ _ _ σ.obj) x]
            by_cases h1 : x ∈ (y.o σ.obj env ps asg body ds).1.new.map (fun x => x.1 ++ t)
            · rw [if_pos h1, if_pos h1]
            · rw [if_neg h1, if_neg h1]
              rw [putU_eff (y.o σ.obj env ps asg body ds).1.upd σ.obj (upd _ _ _) x, putU_eff (y.o σ.obj env ps asg body ds).1.upd σ.obj σ.obj x]
              by_cases h2 : x ∈ (y.o σ.obj env ps asg body ds).1.upd.map (fun x => (reach σ.obj (roots env ds)).getD x.1 [])
              · rw [if_pos h2, if_pos h2]
              · rw [if_neg h2, if_neg h2]; exact upd_ne _ _ _ e
        rw [this] at k2
        rw [he]
        exact k2
      · rw [he]; exact .bool _
    cases e with
    | normal => exact fin none hK3.1 hK3.2
    | ret => exact fin (some .ret) hK3.1 hK3.2
    | exit id => exact fin (some (.exit id)) hK3.1 hK3.2
    | goto l => exact hK3.elim
    | panic ch => exact hK3.elim
    | outgrown => exact hK3.elim
  | ret => exact hK.elim
  | exit id => exact hK.elim
  | goto l => exact hK.elim
  | panic ch => exact hK.elim
  | outgrown => exact hK.elim

end Go.Eng
/- The engine's text of the statement 'for .. := range f'. -/
namespace Go.Eng
open Go

theorem conc_def {G : Ghost} {φ : Name → Loc} {m : Mem} {σ : S} {a : Act} {w : World} (hC : Conc G φ m σ a w) :
    Conc G φ m σ { a with defers := [{ target := .collected w.heap.size, args := #[] }] ++ a.defers } (w.alloc (.deferred (some []))) := by
  have hb : ∀ b, b < w.heap.size → (w.alloc (.deferred (some []))).heap[b]? = w.heap[b]? := fun b h => RowKit.Below.heap_alloc w _ b h
  have h := hC.imm (w' := w.alloc (.deferred (some []))) (Mem.le_refl m) ⟨rfl, rfl, rfl, by simp⟩ hb (fun _ _ _ h => .inl h)
  refine ⟨h.tmps, h.size, ?_, h.objs, h.mem, h.apart, h.inj, h.own, h.fr, h.fresh, h.kept⟩
  obtain ⟨ds, h1, h2, h3⟩ := h.defers
  have hlt : ∀ D ∈ ds, D < w.heap.size := fun D hD => by
    obtain ⟨ds', k1, k2, k3⟩ := hC.defers
    have e : ds' = ds := by
      have := k1.symm.trans h1
      have hi : Function.Injective (fun D : Nat => ({ target := .collected D, args := #[] } : Deferred)) := fun x y h => by simpa using h
      exact (List.map_inj_right hi).1 this
    exact (Array.getElem?_eq_some_iff.1 (k3 D (e ▸ hD)).2).1
  refine ⟨w.heap.size :: ds, by rw [h1]; rfl, List.nodup_cons.2 ⟨fun hm => Nat.lt_irrefl _ (hlt _ hm), h2⟩, fun D hD => ?_⟩
  rcases List.mem_cons.1 hD with rfl | hD
  · exact ⟨hC.fr.size, World.alloc_heap_new w _⟩
  · exact h3 D hD

def spent (obj : Name → Option O) (nm : Name) : Name → Option O := upd obj nm (match obj nm with
  | some (.loop env ps asg body _ pend) => some (.loop env ps asg body .exhausted pend)
  | o => o)
def leftK (K : Exit → S → Prop) (obj : Name → Option O) (nm : Name) (σ : S) : Prop := match obj nm with
  | some (.loop _ _ _ _ .busy _) => False
  | some (.loop _ _ _ _ _ none) => K .normal σ
  | some (.loop _ _ _ _ _ (some .ret)) => K .ret σ
  | some (.loop _ _ _ _ _ (some (.exit id))) => K (.exit id) σ
  | _ => False

theorem cw_rangeFunc {P : Program} {Γ : FuncId → Option Spec} (hΓ : ∀ f s, Γ f = some s → SSound P f s) {g : Operand} {ps : Array Tmp} {asg body : Code} {σ : S} {K : Exit → S → Prop} (k k' : Nat) {f : FuncId} {s : Spec}
    (hc : opC σ g = true) (hfn : clFn (opD σ g) = some f) (hne : f ≠ yid) (hs : Γ f = some s) (hnew : σ.obj (k :: σ.pre) = none)
    (hok : (s.app (upd σ.obj (k :: σ.pre) (some (.loop ((List.range σ.nt).map σ.env) ps.toList asg body .ready none))) (k' :: σ.pre) (clArgs (opD σ g) [.yld (k :: σ.pre)])).ok)
    (hK : leftK K (s.app (upd σ.obj (k :: σ.pre) (some (.loop ((List.range σ.nt).map σ.env) ps.toList asg body .ready none))) (k' :: σ.pre) (clArgs (opD σ g) [.yld (k :: σ.pre)])).obj (k :: σ.pre)
      { σ with obj := spent (s.app (upd σ.obj (k :: σ.pre) (some (.loop ((List.range σ.nt).map σ.env) ps.toList asg body .ready none))) (k' :: σ.pre) (clArgs (opD σ g) [.yld (k :: σ.pre)])).obj (k :: σ.pre) }) :
    CW P (.rangeFunc g ps asg body) σ K := by
  intro G φ m a w hC
  generalize hnm : k :: σ.pre = nm at *
  generalize hobj1 : upd σ.obj nm (some (.loop ((List.range σ.nt).map σ.env) ps.toList asg body .ready none)) = obj1 at *
  generalize hR : s.app obj1 (k' :: σ.pre) (clArgs (opD σ g) [.yld nm]) = R at *
  have hgr := opD_rep hC hc
  obtain ⟨us, vs, fs, cs, hu, hargs, e1, e2, hr1, hr2⟩ : ∃ (us vs : Array Value) (fs cs : List D), a.eval g = .func (.func f) us vs ∧ (∀ args, clArgs (opD σ g) args = fs ++ args ++ cs) ∧ fs.length = us.size ∧ cs.length = vs.size ∧
      (∀ i (h : i < fs.length) (h' : i < us.size), RepD φ σ.obj m fs[i] us[i]) ∧ (∀ i (h : i < cs.length) (h' : i < vs.size), RepD φ σ.obj m cs[i] vs[i]) := by
    generalize a.eval g = u at *
    generalize opD σ g = d at *
    unfold clFn at hfn
    split at hfn
    · rename_i f' fs cs
      split at hfn
      · cases hfn
      cases hfn
      cases hgr with
      | v _ _ hgr =>
      cases hgr with
      | clo _ _ _ us vs e1 e2 h1 h2 =>
      exact ⟨us, vs, fs.map .v, cs.map .v, rfl, fun _ => rfl, by simpa using e1, by simpa using e2, fun i a b => by simpa using .v _ _ (h1 i (by simpa using a) b), fun i a b => by simpa using .v _ _ (h2 i (by simpa using a) b)⟩
    · rename_i f' fs cs
      split at hfn
      · cases hfn
      cases hfn
      cases hgr with
      | clo _ _ _ us vs e1 e2 h1 h2 => exact ⟨us, vs, fs, cs, rfl, fun _ => rfl, e1, e2, h1, h2⟩
    · cases hfn; exact (hne rfl).elim
    · cases hfn
  refine wpIn_rangeFunc fun fn _ => ?_
  have main : ∀ (W : World) (a' : Act) (D : Nat), Conc G φ m σ a' W → a'.tmps = a.tmps →
      ∃ (d : Deferred) (w₁' : World) (f' : FuncId) (args : Array Value) (w₂ : World),
      (resolve a.eval (rangeCall g W.heap.size) 0).run P (W.alloc (.loop { state := .ready, pending := none, fn, tmps := a.tmps, params := ps, assign := asg, body, defers := D })) = .ok d w₁' ∧
      (invoke d.target d.args).run P w₁' = .ok (.enter f' args) w₂ ∧
      CallsIn (fen G.rd) (0 - 1) P f' args w₂ (rangePost (fen G.rd) 0 P W.heap.size (fun e a' w' => ∃ φ' m' σ', Conc G φ' m' σ' a' w' ∧ K e σ') a') := by
    intro W a' D hC1 hat
    obtain ⟨r, hrr⟩ : ∃ r : Loop, r = { state := .ready, pending := none, fn, tmps := a.tmps, params := ps, assign := asg, body, defers := D } := ⟨_, rfl⟩
    rw [← hrr]
    have hx := Ext.new (φ := φ) hnew ⟨W.heap.size, 0, 0, false, none⟩ (.loop ((List.range σ.nt).map σ.env) ps.toList asg body .ready none)
    have hC2 := hC1.chg (w' := W.alloc (.loop r)) nm (.loop ((List.range σ.nt).map σ.env) ps.toList asg body .ready none) ⟨W.heap.size, 0, 0, false, none⟩ hx ⟨rfl, rfl, rfl, by simp⟩
      (fun b hb _ => RowKit.Below.heap_alloc W _ b hb) (fun _ => .inl (Nat.le_refl _)) ⟨rfl, rfl, r, World.alloc_heap_new W _, by rw [hrr], by rw [hrr], by rw [hrr], by rw [hrr], by rw [hrr], by
        rw [hrr]
        show a.tmps.size = _
        rw [← hat, hC1.size]; simp, fun i hi => by
        simp only [List.getElem_map, List.getElem_range]
        rw [hrr]
        show RepE _ _ m _ (a.tmps.getD i undef)
        rw [← hat]
        exact (hC1.tmps i).ext (Mem.le_refl m) hx⟩
    rw [hobj1] at hC2 hx
    refine ⟨{ target := .fn (.func f) vs, args := us ++ #[.func (.yield W.heap.size) #[] #[]] }, W.alloc (.loop r), f, us ++ #[.func (.yield W.heap.size) #[] #[]] ++ vs, W.alloc (.loop r), ?_, ?_, ?_⟩
    · have hy : a.eval (.const (.func (.yield W.heap.size) #[] #[])) = .func (.yield W.heap.size) #[] #[] := rfl
      simp [resolve, Deferred.ofValue, hu, hy]
    · simp [invoke, (hΓ f s hs).enter hne]
    · refine fen_calls ?_
      have hcall := (hΓ f s hs).calls hne G (upd φ nm ⟨W.heap.size, 0, 0, false, none⟩) m { σ with obj := obj1 } a' (W.alloc (.loop r)) hC2 (k' :: σ.pre) (clArgs (opD σ g) [.yld nm]) (us ++ #[.func (.yield W.heap.size) #[] #[]] ++ vs) ⟨k', rfl⟩
      refine (hcall ?_ ?_ ?_).mono ?_
      · rw [hargs]; simp only [List.length_append, List.length_singleton, Array.size_append, e1, e2]; rfl
      · intro i h1 h2
        simp only [hargs]
        have hyr : RepD (upd φ nm ⟨W.heap.size, 0, 0, false, none⟩) obj1 m (.yld nm) (.func (.yield W.heap.size) #[] #[]) := by
          have := RepD.yld (φ := upd φ nm ⟨W.heap.size, 0, 0, false, none⟩) (obj := obj1) (m := m) nm ⟨_, by rw [← hobj1, upd_same], rfl⟩
          rwa [upd_same] at this
        simp only [hargs, List.length_append, List.length_singleton] at h1
        by_cases k1 : i < fs.length
        · have q1 : i < us.size := by omega
          simp only [List.append_assoc, Array.append_assoc]
          rw [List.getElem_append_left k1, Array.getElem_append_left q1]
          exact (hr1 i k1 q1).ext (Mem.le_refl m) hx
        · by_cases k2 : i = fs.length
          · subst k2
            simp only [List.append_assoc, Array.append_assoc]
            rw [List.getElem_append_right (by omega), Array.getElem_append_right (by omega)]
            simp only [Nat.sub_self, e1, List.cons_append, List.getElem_cons_zero]
            rw [Array.getElem_append_left (by simp)]
            simpa using hyr
          · rw [List.getElem_append_right (by simp; omega), Array.getElem_append_right (by simp; omega)]
            have := (hr2 (i - (fs.length + 1)) (by omega) (by omega)).ext (Mem.le_refl m) hx
            simp only [List.length_append, List.length_singleton, Array.size_append, ← e1]
            exact this
      · show (s.app obj1 _ _).ok
        rw [hR]; exact hok
      · rintro e w3 ⟨v, φ', m', rfl, hC3, _, hx3⟩
        have h9 : s.app obj1 (k' :: σ.pre) (clArgs (opD σ g) [.yld nm]) = R := hR
        have hC3' : Conc G φ' m' { σ with obj := R.obj } a' w3 := by rw [← h9]; exact hC3
        have hx3' : Ext (upd φ nm ⟨W.heap.size, 0, 0, false, none⟩) φ' obj1 R.obj := by rw [← h9]; exact hx3
        have hnm1 : obj1 nm = some (.loop ((List.range σ.nt).map σ.env) ps.toList asg body .ready none) := by rw [← hobj1, upd_same]
        have hloc : φ' nm = ⟨W.heap.size, 0, 0, false, none⟩ := by
          obtain ⟨o', k1, k2⟩ := hx3' nm _ hnm1
          rcases k2 with ⟨_, k2, _⟩ | ⟨n, n', k2, _⟩
          · rw [k2, upd_same]
          · cases k2
        unfold leftK at hK
        have step : ∀ {env' : List E} {ps' : List Nat} {a1 b1 : Code} {st : LoopState} {pend : Option Code}, R.obj nm = some (.loop env' ps' a1 b1 st pend) → st ≠ .busy →
            ∃ w4, (Instr.endLoop W.heap.size).run P w3 = .ok pend w4 ∧ Conc G φ' m' { σ with obj := spent R.obj nm } a' w4 := by
          intro env' ps' a1 b1 st pend ho hst
          obtain ⟨q0, q1, r', q2, q3, q4, q5, q6, q7, q8, q9⟩ := hC3'.objs nm _ ho
          rw [hloc] at q2
          have hend : (Instr.endLoop W.heap.size).run P w3 = .ok pend (w3.putObj W.heap.size (.loop { r' with state := .exhausted })) := by
            rw [run_endLoop (P := P) q2 (by rw [q3]; exact hst), q4]
          refine ⟨_, hend, ?_⟩
          have hlt := (Array.getElem?_eq_some_iff.1 q2).1
          have hsp : spent R.obj nm = upd R.obj nm (some (.loop env' ps' a1 b1 .exhausted pend)) := by unfold spent; rw [ho]
          rw [hsp]
          have := hC3'.chg (w' := w3.putObj W.heap.size (.loop { r' with state := .exhausted })) nm (.loop env' ps' a1 b1 .exhausted pend) (φ' nm) (Ext.same ho rfl rfl) ⟨rfl, rfl, rfl, by simp⟩
            (fun b _ hb => World.putObj_heap_other (by
              rcases hb with h | h
              · rw [q1] at h; cases h
              · rw [hloc] at h; exact h))
            (fun _ => .inr ⟨⟨_, ho, rfl, q1⟩, rfl⟩) (by
              rw [upd_id]
              refine ⟨q0, q1, { r' with state := .exhausted }, by rw [hloc]; exact World.putObj_heap_same hlt, rfl, q4, q5, q6, q7, q8, fun i hi => (q9 i hi).ext (Mem.le_refl _) ?_⟩
              have := Ext.same (φ := φ') (o' := .loop env' ps' a1 b1 .exhausted pend) ho rfl rfl
              rwa [upd_id] at this)
          rw [upd_id] at this
          exact this
        rcases ho : R.obj nm with _ | o
        · rw [ho] at hK; exact hK.elim
        rw [ho] at hK
        cases o with
        | loop env' ps' a1 b1 st pend =>
          have hst : st ≠ .busy := by rintro rfl; exact hK.elim
          obtain ⟨w4, h1, h2⟩ := step ho hst
          refine ⟨pend, w4, h1, ?_⟩
          cases pend with
          | none =>
            refine ⟨φ', m', _, h2, ?_⟩
            cases st <;> first | exact hK | exact (hst rfl).elim
          | some c =>
            cases c with
            | ret => exact wpIn_ret ⟨φ', m', _, h2, by cases st <;> first | exact hK | exact (hst rfl).elim⟩
            | exit id => exact wpIn_exit ⟨φ', m', _, h2, by cases st <;> first | exact hK | exact (hst rfl).elim⟩
            | _ => exfalso; cases st <;> first | exact hK | exact (hst rfl).elim
        | _ => exact hK.elim
  cases hrd : G.rd with
  | none =>
    obtain ⟨d, w₁', f', args, w₂, h1, h2, h3⟩ := main (w.alloc (.deferred (some []))) _ w.heap.size (conc_def hC) rfl
    rw [hrd] at h3
    have hsz : (w.alloc (.deferred (some []))).heap.size = w.heap.size + 1 := by simp
    rw [hsz] at h1 h3
    exact ⟨w.heap.size + 1, [{ target := .collected w.heap.size, args := #[] }], _, d, w₁', f', args, w₂, run_enterLoop_outer _ _ _ _ _, h1, fun _ _ => trivial, h2, fun h => (by simp [fen, Fence.wide] at h), h3⟩
  | some l =>
    obtain ⟨hno, r0, hr0⟩ := G.rdok l hrd
    have hr0' : w.heap[l]? = some (.loop r0) := (hC.fr.block l (Array.getElem?_eq_some_iff.1 hr0).1 hno).trans hr0
    obtain ⟨d, w₁', f', args, w₂, h1, h2, h3⟩ := main w a r0.defers hC rfl
    rw [hrd] at h3
    exact ⟨w.heap.size, [], _, d, w₁', f', args, w₂, run_enterLoop_inner hr0' _ _ _ _ _, h1, fun _ _ => trivial, h2, fun h => (by simp [fen, Fence.wide] at h), h3⟩

theorem cl_rangeFunc {P : Program} {Γ : FuncId → Option Spec} (hΓ : ∀ f s, Γ f = some s → SSound P f s) {g : Operand} {ps : Array Tmp} {asg body : Code} {σ : S} {r : List Code} {K : Exit → S → Prop} (k k' : Nat) {f : FuncId} {s : Spec}
    (hc : opC σ g = true) (hfn : clFn (opD σ g) = some f) (hne : f ≠ yid) (hs : Γ f = some s) (hnew : σ.obj (k :: σ.pre) = none)
    (hok : (s.app (upd σ.obj (k :: σ.pre) (some (.loop ((List.range σ.nt).map σ.env) ps.toList asg body .ready none))) (k' :: σ.pre) (clArgs (opD σ g) [.yld (k :: σ.pre)])).ok)
    (hK : leftK (thenK (fun σ' => CL P r σ' K) K) (s.app (upd σ.obj (k :: σ.pre) (some (.loop ((List.range σ.nt).map σ.env) ps.toList asg body .ready none))) (k' :: σ.pre) (clArgs (opD σ g) [.yld (k :: σ.pre)])).obj (k :: σ.pre)
      { σ with obj := spent (s.app (upd σ.obj (k :: σ.pre) (some (.loop ((List.range σ.nt).map σ.env) ps.toList asg body .ready none))) (k' :: σ.pre) (clArgs (opD σ g) [.yld (k :: σ.pre)])).obj (k :: σ.pre) }) :
    CL P (.rangeFunc g ps asg body :: r) σ K := cw_rangeFunc hΓ k k' hc hfn hne hs hnew hok hK

end Go.Eng
/- The engine's text of walks: rules in the form in which walks are printed. -/
namespace Go.Eng
open Go

theorem Weak.refl (σ : S) : Weak σ σ := fun _ φ _ _ _ hC => ⟨φ, hC⟩
theorem Weak.trans {a b c : S} (h : Weak a b) (k : Weak b c) : Weak a c := fun G φ m x w hC => by
  obtain ⟨φ', h'⟩ := h G φ m x w hC
  exact k G φ' m x w h'

theorem weak_eq {σ τ : S} (ks : List Nat) (ns : List Name) (h : clS ks ns σ) (he : keepS ks ns σ = τ) : Weak σ τ := he ▸ weak_keep ks ns h

def setE (l c : List (Nat × E)) : List (Nat × E) := l.map fun q => (q.1, (c.lookup q.1).getD q.2)
def setO (l c : List (Name × O)) : List (Name × O) := l.map fun q => (q.1, (c.lookup q.1).getD q.2)

theorem cl_keep {P : Program} {c : Code} {r : List Code} {σ : S} {K : Exit → S → Prop} (ks : List Nat) (ns : List Name) (h : clS ks ns σ) (hc : CL P (c :: r) (keepS ks ns σ) K) : CL P (c :: r) σ K :=
  cw_weak (weak_keep ks ns h) hc

/-- A loop in a state that is written out: what changes from round to round, what holds, what falls. -/
theorem cl_loop' {P : Program} {c : Code} {r : List Code} {K : Exit → S → Prop} {nt : Nat} {p : Name} {H : Name → Option O} {l : List (Nat × E)} {h : List (Name × O)} {ι : Type}
    (chg : ι → List (Nat × E)) (ochg : ι → List (Name × O)) (R : ι → Prop) (μ : ι → Nat) (i0 : ι) (hR : R i0) (he : setE l (chg i0) = l) (ho : setO h (ochg i0) = h)
    (round : ∀ i, R i → CL P [c] (mkS nt p H (setE l (chg i)) (setO h (ochg i))) (thenK (fun σ' => ∃ i', R i' ∧ μ i' < μ i ∧ Weak σ' (mkS nt p H (setE l (chg i')) (setO h (ochg i')))) K)) :
    CL P (.loop c :: r) (mkS nt p H l h) K := by
  refine cl_loop (fun i => mkS nt p H (setE l (chg i)) (setO h (ochg i))) R μ i0 hR ?_ round
  rw [he, ho]
  exact .refl _

/-- The same with a table around that changes, too. -/
theorem cl_loopH {P : Program} {c : Code} {r : List Code} {K : Exit → S → Prop} {nt : Nat} {p : Name} {H : Name → Option O} {l : List (Nat × E)} {h : List (Name × O)} {ι : Type}
    (Hc : ι → Name → Option O) (chg : ι → List (Nat × E)) (ochg : ι → List (Name × O)) (R : ι → Prop) (μ : ι → Nat) (i0 : ι) (hR : R i0) (hH : mkS nt p (Hc i0) l h = mkS nt p H l h) (he : setE l (chg i0) = l) (ho : setO h (ochg i0) = h)
    (round : ∀ i, R i → CL P [c] (mkS nt p (Hc i) (setE l (chg i)) (setO h (ochg i))) (thenK (fun σ' => ∃ i', R i' ∧ μ i' < μ i ∧ Weak σ' (mkS nt p (Hc i') (setE l (chg i')) (setO h (ochg i')))) K)) :
    CL P (.loop c :: r) (mkS nt p H l h) K := by
  refine cl_loop (fun i => mkS nt p (Hc i) (setE l (chg i)) (setO h (ochg i))) R μ i0 hR ?_ round
  rw [he, ho, hH]
  exact .refl _

attribute [go_sem] setE setO List.lookup_cons List.lookup_nil List.getElem?_toArray List.getElem?_cons_succ List.getElem?_cons_zero beq_true beq_false ite_self Bool.and_self Bool.or_self imp_self Bool.if_true_right Bool.if_false_right Bool.if_true_left Bool.if_false_left Bool.decide_eq_true
attribute [go_sem] retC endC objsOk newsOk distinct lastU domC isOut argsD outH Bool.and_eq_true
end Go.Eng
/- The engine's text of evaluation: which of its steps' conditions are decided. -/
namespace Go.Eng
open Go

def nLe (a b : Nat) : Bool := Nat.ble a b
def nLt (a b : Nat) : Bool := Nat.ble (a + 1) b
def nEq (a b : Nat) : Bool := Nat.beq a b
def iLe (a b : Int) : Bool := match b - a with
  | .ofNat _ => true
  | .negSucc _ => false
def iLt (a b : Int) : Bool := match b - a - 1 with
  | .ofNat _ => true
  | .negSucc _ => false
def oNone {α : Type} : Option α → Bool
  | none => true
  | some _ => false
def oIs : Option Nat → Nat → Bool
  | some a, b => Nat.beq a b
  | none, _ => false
def allSz (sz : Nat) : List V → Bool
  | [] => true
  | x :: r => Nat.beq x.cells.length sz && allSz sz r
def allOk (sz : Nat) : List V → Bool
  | [] => true
  | x :: r => Nat.beq x.cells.length sz && x.okc && allOk sz r
def kEq (a b : IntKind) : Bool := match a, b with
  | .i64, .i64 => true
  | .u8, .u8 => true
  | .u64, .u64 => true
  | .i32, .i32 => true
  | .u32, .u32 => true
  | _, _ => false
def isBoolT (P : Program) (T : TypeId) : Bool := match P.underlying T with
  | some .bool => true
  | _ => false
def isEq : BinOp → Bool
  | .eql => true
  | .neq => true
  | _ => false
def isZeroI : Int → Bool
  | .ofNat 0 => true
  | _ => false

theorem nLe_ok {a b : Nat} (h : nLe a b = true) : a ≤ b := Nat.le_of_ble_eq_true h
theorem nLt_ok {a b : Nat} (h : nLt a b = true) : a < b := Nat.le_of_ble_eq_true h
theorem nEq_ok {a b : Nat} (h : nEq a b = true) : a = b := Nat.eq_of_beq_eq_true h
theorem iLe_ok {a b : Int} (h : iLe a b = true) : a ≤ b := by
  unfold iLe at h
  split at h
  · rename_i n hn
    have : (0 : Int) ≤ b - a := by rw [hn]; exact Int.natCast_nonneg n
    omega
  · cases h
theorem iLt_ok {a b : Int} (h : iLt a b = true) : a < b := by
  unfold iLt at h
  split at h
  · rename_i n hn
    have : (0 : Int) ≤ b - a - 1 := by rw [hn]; exact Int.natCast_nonneg n
    omega
  · cases h
theorem oNone_ok {α : Type} {o : Option α} (h : oNone o = true) : o = none := by cases o <;> simp_all [oNone]
theorem oIs_ok {o : Option Nat} {b : Nat} (h : oIs o b = true) : o = some b := by
  cases o with
  | none => cases h
  | some a => rw [Nat.eq_of_beq_eq_true h]
theorem allSz_ok {sz : Nat} : ∀ {l : List V}, allSz sz l = true → ∀ x ∈ l, x.cells.length = sz
  | y :: r, h, x, hx => by
    simp only [allSz, Bool.and_eq_true] at h
    rcases List.mem_cons.1 hx with rfl | hx
    · exact Nat.eq_of_beq_eq_true h.1
    · exact allSz_ok h.2 x hx
theorem allOk_ok {sz : Nat} : ∀ {l : List V}, allOk sz l = true → ∀ x ∈ l, x.cells.length = sz ∧ x.okc = true
  | y :: r, h, x, hx => by
    simp only [allOk, Bool.and_eq_true] at h
    rcases List.mem_cons.1 hx with rfl | hx
    · exact ⟨Nat.eq_of_beq_eq_true h.1.1, h.1.2⟩
    · exact allOk_ok h.2 x hx
theorem kEq_ok {a b : IntKind} (h : kEq a b = true) : a = b := by unfold kEq at h; split at h <;> first | rfl | cases h
theorem isBoolT_ok {P : Program} {T : TypeId} (h : isBoolT P T = true) : P.underlying T = some .bool := by unfold isBoolT at h; split at h <;> first | assumption | cases h
theorem isEq_ok {op : BinOp} (h : isEq op = true) : op = .eql ∨ op = .neq := by cases op <;> first | exact .inl rfl | exact .inr rfl | cases h
theorem isZeroI_ok {n : Int} (h : isZeroI n = false) : n ≠ 0 := by rintro rfl; cases h

section
variable (P : Program) (obj : Name → Option O)
def bLoad (T : TypeId) (x : D) : Bool :=
  match tAgg P T with
  | none => false
  | some (ag, n) => match x with
    | .v (.ptr cs) => match ag with
      | true => nLe n cs.length
      | false => nEq n 1 && nLt 0 cs.length
    | .ref nm off => match obj nm with
      | some (.box cs) => match ag with
        | true => nLe (off + n) cs.length
        | false => nEq n 1 && nLt off cs.length
      | some (.fbox cs) => match ag with
        | true => nLe (off + n) cs.length
        | false => nEq n 1 && nLt off cs.length
      | _ => false
    | .aref nm k i off => match obj nm with
      | some (.arr _ l) => nEq k l.length && nLt i l.length && (match ag with
        | true => nLe (off + n) (l.getD i default).cells.length
        | false => nEq n 1 && nLt off (l.getD i default).cells.length)
      | some (.farr _ l) => nEq k l.length && nLt i l.length && (match ag with
        | true => nLe (off + n) (l.getD i default).cells.length
        | false => nEq n 1 && nLt off (l.getD i default).cells.length)
      | _ => false
    | _ => false
def bFieldAddr (T : TypeId) (f : Nat) (x : D) : Bool :=
  match tField P T f with
  | none => false
  | some (off, n, _) => !nEq n 0 && match x with
    | .v (.ptr cs) => nLe (off + n) cs.length
    | .ref _ _ => true
    | .aref nm k _ _ => match obj nm with
      | some o => oIs o.len? k
      | none => false
    | _ => false
def bIndexAddr (T : TypeId) (x i : D) : Bool :=
  match i with
  | .v (.int _ n) => match x with
    | .v (.sl l) => match tElem P T with
      | some (_, sz, _) => iLe 0 n && iLt n l.length && nEq (l.getD n.toNat default).cells.length sz
      | none => false
    | .msl nm k => match tElem P T with
      | some (_, sz, _) => match obj nm with
        | some (.arr s l) => iLe 0 n && iLt n l.length && nEq k l.length && nEq s sz
        | some (.farr s l) => iLe 0 n && iLt n l.length && nEq k l.length && nEq s sz
        | _ => false
      | none => false
    | .ref _ _ => match tArr P T with
      | some (len, _, _) => iLe 0 n && iLt n len
      | none => false
    | .v (.ptr cs) => match tArr P T with
      | some (len, sz, _) => iLe 0 n && iLt n len && nLe (n.toNat * sz + sz) cs.length
      | none => false
    | _ => false
  | _ => false
def bIntB (op : BinOp) (k k' : IntKind) (b : Int) : Bool :=
  match op with
  | .quo => kEq k k' && !isZeroI b
  | .rem => kEq k k' && !isZeroI b
  | .shl => iLe 0 b
  | .shr => iLe 0 b
  | _ => kEq k k'
def bStrB (op : BinOp) (a b : ByteArray) : Bool :=
  match op with
  | .add => nLe (a.size + b.size) maxLen
  | .eql | .neq | .lss | .leq | .gtr | .geq => true
  | _ => false
def bBin (op : BinOp) (T : TypeId) (x y : D) : Bool :=
  match x, y with
  | .v (.int k _), .v (.int k' b) => bIntB op k k' b
  | .v (.str a), .v (.str b) => bStrB op a b
  | .v (.bool _), .v (.bool _) => isBoolT P T && isEq op
  | _, _ => false
def bEqS (op : BinOp) (T : TypeId) (x y : V) : Bool :=
  match eqV P Op.maxDepth T x y with
  | some _ => !(P.eqGuardType P.depth T) && isEq op
  | none => false
def bNilCmp (op : BinOp) (T : TypeId) (x : D) : Bool :=
  match x with
  | .v (.sl (_ :: _)) => oIs (tLen P T) 0 && isEq op
  | .msl nm (k + 1) => (match obj nm with | some o => oIs o.len? (k + 1) | none => false) && oIs (tLen P T) 0 && isEq op
  | _ => false
def bBin' (op : BinOp) (T : TypeId) (x y : D) (nilc : Bool) : Bool :=
  match nilc with
  | true => bNilCmp P obj op T x
  | false => match asV x, asV y with
    | some (.agg a), some (.agg b) => bEqS P op T (.agg a) (.agg b)
    | _, _ => bBin P op T x y
def bUn (op : UnOp) (x : D) : Bool :=
  match op, x with
  | .not, .v (.bool _) => true
  | .neg, .v (.int _ _) => true
  | _, _ => false
def bConv (src dst : TypeId) (x : D) : Bool :=
  match tConv P src dst with
  | 0 => match tInt P dst, x with
    | some _, .v (.int _ _) => (P.underlying src).isSome
    | _, _ => false
  | _ => false
def bExtract (x : D) (i : Nat) : Bool :=
  match x with
  | .tup l => nLt i l.length
  | .v (.tup l) => nLt i l.length
  | _ => false
def bNilCheck (x : D) : Bool :=
  match x with
  | .ref _ _ => true
  | .v (.ptr _) => true
  | .aref nm k _ _ => match obj nm with
    | some o => oIs o.len? k
    | none => false
  | _ => false
def bBox (t : Name) (x : D) : Bool := oNone (obj (nmO t)) && x.boxable
def bAlloc (t : Name) (T : TypeId) : Bool := match tZero P T with
  | some z => bBox obj t (ofVal z)
  | none => false
def bBuild (T : TypeId) (parts : List (Nat × D)) : Bool :=
  match tPlaces P T, tZero P T with
  | some ps, some z => match ofVal z with
    | .agg cs => match fillD (fun i => ps[i]?) cs parts with
      | some _ => true
      | none => false
    | _ => false
  | _, _ => false
def bStore (T : TypeId) (x d : D) : Bool :=
  match tAgg P T with
  | none => false
  | some (_, n) => match x with
    | .ref nm off => match obj nm with
      | some (.box cs) => d.boxable && nEq d.cells.length n && nLe (off + n) cs.length
      | _ => false
    | .aref nm k i off => match obj nm with
      | some (.arr sz l) => match asV d with
        | some y => nEq k l.length && nLt i l.length && nEq y.cells.length n && y.okc && nLe (off + n) sz && !nEq sz 0
        | none => false
      | _ => false
    | _ => false
def bMakeMap (t : Name) (T : TypeId) (r : Option D) : Bool :=
  match tMap P T, r with
  | some _, none => oNone (obj (nmO t))
  | _, _ => false
def bMakeSlice (t : Name) (T : TypeId) (l c : D) : Bool :=
  match tElem P T, l, c with
  | some (e, sz, by_), .v (.int _ n), .v (.int _ n') => match (tZero P e).bind fun z => asV (ofVal z) with
    | some zv => iLe n n' && iLe n' n && iLe 0 n && iLe ((by_ : Int) * n) 281474976710656 && iLe n 9223372036854775807 && nEq zv.cells.length sz && zv.okc && !nEq sz 0 && oNone (obj (nmO t))
    | none => false
  | _, _, _ => false
def bLen (T : TypeId) (x : D) : Bool :=
  match tLen P T, x with
  | some 0, .v (.sl _) => true
  | some 0, .nilsl => true
  | some 0, .msl nm k => match obj nm with
    | some o => oIs o.len? k
    | none => false
  | some 1, .v (.str _) => true
  | some 2, .nilmap => true
  | some 2, .map nm => match obj nm with
    | some (.map _ _) => true
    | _ => false
  | _, _ => false
def bSlice (T : TypeId) (x : D) (lo hi mx : Option D) : Bool :=
  match mx with
  | none => match x with
    | .v (.sl l) => match tElem P T, loOf lo, hiOf l.length hi with
      | some (_, sz, _), some i, some j => iLe 0 i && iLe i j && iLe j l.length && allSz sz l
      | _, _, _ => false
    | .nilsl => match tElem P T, loOf lo, hiOf 0 hi with
      | some (_, _, _), some i, some j => isZeroI i && isZeroI j
      | _, _, _ => false
    | .msl nm k => match obj nm, tElem P T, loOf lo, hiOf k hi with
      | some (.arr _ l), some (_, sz, _), some i, some j => nEq k l.length && iLe 0 i && iLe i j && iLe j l.length && allSz sz l
      | some (.farr _ l), some (_, sz, _), some i, some j => nEq k l.length && iLe 0 i && iLe i j && iLe j l.length && allSz sz l
      | _, _, _, _ => false
    | .v (.str s) => match tLen P T, loOf lo, hiOf s.size hi with
      | some 1, some i, some j => iLe 0 i && iLe i j && iLe j s.size
      | _, _, _ => false
    | _ => false
  | some (.v (.int _ 0)) => match tElem P T, loOf lo, hi with
    | some _, some 0, some (.v (.int _ 0)) => match x with
      | .v (.sl _) => true
      | .nilsl => true
      | .msl nm k => match obj nm with
        | some o => oIs o.len? k
        | none => false
      | _ => false
    | _, _, _ => false
  | some _ => false
def bField (T : TypeId) (x : D) (f : Nat) : Bool :=
  match tField P T f with
  | none => false
  | some (off, n, ag) => match x with
    | .agg l => match ag with
      | true => nLe (off + n) l.length
      | false => nLt off l.length
    | .v (.agg l) => match ag with
      | true => nLe (off + n) l.length
      | false => nLt off l.length
    | _ => false
def bIndex (T : TypeId) (x i : D) : Bool :=
  match i with
  | .v (.int _ n) => match x with
    | .v (.str s) => oIs (tLen P T) 1 && iLe 0 n && iLt n s.size
    | .agg l => match tArr P T with
      | some (len, sz, true) => iLe 0 n && iLt n len && nLe (n.toNat * sz + sz) l.length
      | some (len, sz, false) => iLe 0 n && iLt n len && nLt (n.toNat * sz) l.length
      | none => false
    | .v (.agg l) => match tArr P T with
      | some (len, sz, true) => iLe 0 n && iLt n len && nLe (n.toNat * sz + sz) l.length
      | some (len, sz, false) => iLe 0 n && iLt n len && nLt (n.toNat * sz) l.length
      | none => false
    | _ => false
  | _ => false
def bLookup (T : TypeId) (x k : D) : Bool :=
  match tMap P T with
  | some (kd, e) => match (tZero P e).bind fun z => asV (ofVal z), asV k with
    | some _, some kv => match x with
      | .nilmap => nLe kd 2 && keyIs kd kv
      | .map nm => match obj nm with
        | some (.map kd' _) => nLe kd 2 && keyIs kd kv && nEq kd' kd
        | _ => false
      | _ => false
    | _, _ => false
  | none => false
def bMapUpdate (T : TypeId) (x k d : D) : Bool :=
  match tMap P T, x, asV k, asV d with
  | some (kd, _), .map nm, some kv, some _ => match obj nm with
    | some (.map kd' _) => nLe kd 2 && keyIs kd kv && nEq kd' kd
    | _ => false
  | _, _, _, _ => false
def bPick (c : D) : Bool := match c with
  | .v (.bool _) => true
  | _ => false
def bSrc (x : D) : Bool := match x with
  | .v (.sl _) => true
  | .nilsl => true
  | .msl nm k => match obj nm with
    | some (.arr _ l) => nEq k l.length
    | some (.farr _ l) => nEq k l.length
    | _ => false
  | _ => false
def bAppend (t : Name) (T1 T2 : TypeId) (s x : D) : Bool :=
  match tElem P T1, tElem P T2 with
  | some (e, sz, by_), some _ => match tZero P e with
    | some z => match s with
      | .nilsl => bSrc obj x && allOk sz (srcL obj x).2 && nEq z.cells.size sz && nLe ((srcL obj x).2.length * by_) 140737488355328 && nLe (srcL obj x).2.length maxLen && oNone (obj (nmO t))
      | .msl nm k => match obj nm with
        | some (.arr s' l) => bSrc obj x && allOk sz (srcL obj x).2 && nEq z.cells.size sz && nLe ((l.length + (srcL obj x).2.length) * by_) 140737488355328 &&
            nLe (l.length + (srcL obj x).2.length) maxLen && nEq k l.length && nEq s' sz
        | _ => false
      | _ => false
    | none => false
  | _, _ => false

variable {P obj}
theorem nLe_iff {a b : Nat} : nLe a b = true ↔ a ≤ b := ⟨nLe_ok, Nat.ble_eq_true_of_le⟩
theorem nLt_iff {a b : Nat} : nLt a b = true ↔ a < b := ⟨nLt_ok, Nat.ble_eq_true_of_le⟩
theorem nEq_iff {a b : Nat} : nEq a b = true ↔ a = b := ⟨nEq_ok, fun h => by subst h; simp [nEq]⟩
theorem nEq_not {a b : Nat} : nEq a b = false ↔ a ≠ b := by
  rw [← Bool.not_eq_true, nEq_iff]
theorem iLe_iff {a b : Int} : iLe a b = true ↔ a ≤ b := ⟨iLe_ok, fun h => by
  unfold iLe
  split
  · rfl
  · rename_i n hn; have := Int.negSucc_lt_zero n; omega⟩
theorem iLt_iff {a b : Int} : iLt a b = true ↔ a < b := ⟨iLt_ok, fun h => by
  unfold iLt
  split
  · rfl
  · rename_i n hn; have := Int.negSucc_lt_zero n; omega⟩
theorem isZeroI_iff {n : Int} : isZeroI n = true ↔ n = 0 := ⟨fun h => (by unfold isZeroI at h; split at h <;> first | rfl | cases h), fun h => (by subst h; rfl)⟩

theorem bLoad_ok {T : TypeId} {x : D} (h : bLoad P obj T x = true) : (aLoad P obj T x).ok := by
  unfold bLoad at h
  unfold aLoad
  (repeat' split at h) <;> simp_all [nLe_iff, nLt_iff, nEq_iff, -List.getD_eq_getElem?_getD]
theorem bFieldAddr_ok {T : TypeId} {f : Nat} {x : D} (h : bFieldAddr P obj T f x = true) : (aFieldAddr P obj T f x).ok := by
  unfold bFieldAddr at h
  unfold aFieldAddr
  split at h
  · cases h
  · simp only [Bool.and_eq_true, Bool.not_eq_true', nEq_not] at h
    obtain ⟨h1, h⟩ := h
    (repeat' split at h) <;> simp_all [nLe_iff]
    exact oIs_ok h
theorem bIndexAddr_ok {T : TypeId} {x i : D} (h : bIndexAddr P obj T x i = true) : (aIndexAddr P obj T x i).ok := by
  unfold bIndexAddr at h
  unfold aIndexAddr
  (repeat' split at h) <;> simp_all [nLe_iff, nEq_iff, iLe_iff, iLt_iff, -List.getD_eq_getElem?_getD]
theorem bBin_ok {op : BinOp} {T : TypeId} {x y : D} (h : bBin P op T x y = true) : (aBin P obj op T x y).ok := by
  unfold bBin at h
  unfold aBin
  split at h
  · simp only
    unfold bIntB at h
    unfold bIntOk
    cases op <;> simp only [Bool.and_eq_true, Bool.not_eq_true'] at h ⊢ <;> first
      | exact ⟨kEq_ok h.1, isZeroI_ok h.2⟩
      | exact kEq_ok h
      | exact iLe_ok h
  · simp only
    unfold bStrB at h
    unfold bStrOk
    cases op <;> simp only at h ⊢ <;> first | exact nLe_ok h | trivial | (cases h; done)
  · simp only [Bool.and_eq_true] at h
    exact ⟨isBoolT_ok h.1, isEq_ok h.2⟩
  · cases h
theorem bEqS_ok {op : BinOp} {T : TypeId} {x y : V} (h : bEqS P op T x y = true) : (aEqS P obj op T x y).ok := by
  unfold bEqS at h
  unfold aEqS
  split at h
  · rename_i b hb
    simp only [Bool.and_eq_true, Bool.not_eq_true'] at h
    rw [hb]
    exact ⟨h.1, isEq_ok h.2⟩
  · cases h
theorem bNilCmp_ok {op : BinOp} {T : TypeId} {x : D} (h : bNilCmp P obj op T x = true) : (aNilCmp P obj op T x).ok := by
  unfold bNilCmp at h
  unfold aNilCmp
  split at h
  · simp only [Bool.and_eq_true] at h
    exact ⟨oIs_ok h.1, isEq_ok h.2⟩
  · rename_i nm k
    simp only [Bool.and_eq_true] at h
    refine ⟨?_, oIs_ok h.1.2, isEq_ok h.2⟩
    have h1 := h.1.1
    split at h1
    · rename_i o ho; rw [ho]; exact oIs_ok h1
    · cases h1
  · cases h
theorem bBin'_ok {op : BinOp} {T : TypeId} {x y : D} {n : Bool} (h : bBin' P obj op T x y n = true) : (aBin' P obj op T x y n).ok := by
  unfold bBin' at h
  unfold aBin'
  cases n with
  | true => exact bNilCmp_ok h
  | false =>
    simp only at h ⊢
    split at h
    · rename_i h1 h2
      simp only [h1, h2]
      exact bEqS_ok h
    · rename_i hne
      split
      · rename_i h1 h2; exact (hne _ _ h1 h2).elim
      · exact bBin_ok h
theorem bUn_ok {op : UnOp} {x : D} (h : bUn op x = true) : (aUn obj op x).ok := by
  unfold bUn at h
  unfold aUn
  split at h <;> first | trivial | cases h
theorem bConv_ok {s d : TypeId} {x : D} (h : bConv P s d x = true) : (aConv P obj s d x).ok := by
  unfold bConv at h
  unfold aConv
  split at h
  · rename_i h0
    rw [h0]
    show (aConvN P obj s d x).ok
    unfold aConvN
    (repeat' split at h) <;> simp_all
  · cases h
theorem bExtract_ok {x : D} {i : Nat} (h : bExtract x i = true) : (aExtract obj x i).ok := by
  unfold bExtract at h
  unfold aExtract
  split at h <;> simp_all [nLt_iff]
theorem bNilCheck_ok {x : D} (h : bNilCheck obj x = true) : (aNilCheck obj x).ok := by
  unfold bNilCheck at h
  unfold aNilCheck
  (repeat' split at h) <;> simp_all
  exact oIs_ok h
theorem bBox_ok {t : Name} {x : D} (h : bBox obj t x = true) : (aBox obj t x).ok := by
  simp only [bBox, Bool.and_eq_true] at h
  exact ⟨oNone_ok h.1, h.2⟩
theorem bAlloc_ok {t : Name} {T : TypeId} (h : bAlloc P obj t T = true) : (aAlloc P obj t T).ok := by
  unfold bAlloc at h
  unfold aAlloc
  split at h
  · rename_i z hz; rw [hz]; exact bBox_ok h
  · cases h
theorem bBuild_ok {T : TypeId} {ps : List (Nat × D)} (h : bBuild P T ps = true) : (aBuild P obj T ps).ok := by
  unfold bBuild at h
  unfold aBuild
  (repeat' split at h) <;> simp_all
theorem bStore_ok {T : TypeId} {x d : D} (h : bStore P obj T x d = true) : (aStore P obj T x d).ok := by
  unfold bStore at h
  unfold aStore
  (repeat' split at h) <;> simp_all [nLe_iff, nLt_iff, nEq_iff, nEq_not]
theorem bMakeMap_ok {t : Name} {T : TypeId} {r : Option D} (h : bMakeMap P obj t T r = true) : (aMakeMap P obj t T r).ok := by
  unfold bMakeMap at h
  unfold aMakeMap
  (repeat' split at h) <;> simp_all
  exact oNone_ok h
theorem bMakeSlice_ok {t : Name} {T : TypeId} {l c : D} (h : bMakeSlice P obj t T l c = true) : (aMakeSlice P obj t T l c).ok := by
  unfold bMakeSlice at h
  unfold aMakeSlice
  split at h
  · rename_i e sz by_ k n k' n' hT
    rw [hT]
    simp only
    split at h
    · rename_i zv hz
      simp only [Bool.and_eq_true, Bool.not_eq_true', nEq_not] at h
      obtain ⟨⟨⟨⟨⟨⟨⟨⟨h1, h2⟩, h3⟩, h4⟩, h5⟩, h6⟩, h7⟩, h8⟩, h9⟩ := h
      rw [hz]
      exact ⟨Int.le_antisymm (iLe_ok h2) (iLe_ok h1), iLe_ok h3, iLe_ok h4, iLe_ok h5, nEq_ok h6, h7, h8, oNone_ok h9⟩
    · cases h
  · cases h
theorem bLen_ok {T : TypeId} {x : D} (h : bLen P obj T x = true) : (aLen P obj T x).ok := by
  unfold bLen at h
  unfold aLen
  (repeat' split at h) <;> simp_all
  exact oIs_ok h
theorem bSlice_ok {T : TypeId} {x : D} {lo hi mx : Option D} (h : bSlice P obj T x lo hi mx = true) : (aSlice P obj T x lo hi mx).ok := by
  unfold bSlice at h
  unfold aSlice
  split at h
  · split at h
    · split at h
      · rename_i h1 h2 h3
        simp only [Bool.and_eq_true] at h
        simp only [h1, h2, h3]
        exact ⟨iLe_ok h.1.1.1, iLe_ok h.1.1.2, iLe_ok h.1.2, allSz_ok h.2⟩
      · cases h
    · split at h
      · rename_i h1 h2 h3
        simp only [Bool.and_eq_true] at h
        simp only [h1, h2, h3]
        exact ⟨isZeroI_iff.1 h.1, isZeroI_iff.1 h.2⟩
      · cases h
    · split at h
      · rename_i h1 h2 h3 h4
        simp only [Bool.and_eq_true] at h
        simp only [h1, h2, h3, h4]
        exact ⟨nEq_ok h.1.1.1.1, iLe_ok h.1.1.1.2, iLe_ok h.1.1.2, iLe_ok h.1.2, allSz_ok h.2⟩
      · rename_i h1 h2 h3 h4
        simp only [Bool.and_eq_true] at h
        simp only [h1, h2, h3, h4]
        exact ⟨nEq_ok h.1.1.1.1, iLe_ok h.1.1.1.2, iLe_ok h.1.1.2, iLe_ok h.1.2, allSz_ok h.2⟩
      · cases h
    · split at h
      · rename_i h1 h2 h3
        simp only [Bool.and_eq_true] at h
        simp only [h1, h2, h3]
        exact ⟨iLe_ok h.1.1, iLe_ok h.1.2, iLe_ok h.2⟩
      · cases h
    · cases h
  · split at h
    · rename_i h1 h2 h3
      split at h
      · simp only [h2, h3]
      · simp only [h2, h3]
      · split at h
        · rename_i o ho
          simp only [h2, h3, ho]
          exact oIs_ok h
        · cases h
      · cases h
    · cases h
  · cases h
theorem bField_ok {T : TypeId} {x : D} {f : Nat} (h : bField P T x f = true) : (aField P obj T x f).ok := by
  unfold bField at h
  unfold aField
  (repeat' split at h) <;> simp_all [nLe_iff, nLt_iff]
theorem bIndex_ok {T : TypeId} {x i : D} (h : bIndex P T x i = true) : (aIndex P obj T x i).ok := by
  unfold bIndex at h
  unfold aIndex
  (repeat' split at h) <;> simp_all [nLe_iff, nLt_iff, iLe_iff, iLt_iff]
  exact oIs_ok h.1.1
theorem bLookup_ok {T : TypeId} {x k : D} {c : Bool} (h : bLookup P obj T x k = true) : (aLookup P obj T x k c).ok := by
  unfold bLookup at h
  unfold aLookup
  (repeat' split at h) <;> simp_all [nLe_iff, nEq_iff]
theorem bMapUpdate_ok {T : TypeId} {x k d : D} (h : bMapUpdate P obj T x k d = true) : (aMapUpdate P obj T x k d).ok := by
  unfold bMapUpdate at h
  unfold aMapUpdate
  (repeat' split at h) <;> simp_all [nLe_iff, nEq_iff]
theorem bPick_ok {c x y : D} (h : bPick c = true) : (aPick obj c x y).ok := by
  unfold bPick at h
  unfold aPick
  split at h <;> first | trivial | cases h
theorem bSrc_ok {x : D} (h : bSrc obj x = true) : (srcL obj x).1 := by
  unfold bSrc at h
  unfold srcL
  (repeat' split at h) <;> simp_all [nEq_iff]
theorem bAppend_ok {t : Name} {T1 T2 : TypeId} {s x : D} (h : bAppend P obj t T1 T2 s x = true) : (aAppend P obj t T1 T2 s x).ok := by
  unfold bAppend at h
  unfold aAppend
  split at h
  · rename_i e sz by_ p h1 h2
    split at h
    · rename_i z hz
      split at h
      · simp only [Bool.and_eq_true] at h
        simp only [h1, h2, hz]
        exact ⟨bSrc_ok h.1.1.1.1.1, allOk_ok h.1.1.1.1.2, nEq_ok h.1.1.1.2, nLe_ok h.1.1.2, nLe_ok h.1.2, oNone_ok h.2⟩
      · split at h
        · rename_i ho
          simp only [Bool.and_eq_true] at h
          simp only [h1, h2, hz, ho]
          exact ⟨bSrc_ok h.1.1.1.1.1.1, allOk_ok h.1.1.1.1.1.2, nEq_ok h.1.1.1.1.2, nLe_ok h.1.1.1.2, nLe_ok h.1.1.2, nEq_ok h.1.2, nEq_ok h.2⟩
        · cases h
      · cases h
    · cases h
  · cases h
end

/-! freezing that is surely fine -/
def frzLB (f : (Name → Option O) → D → Bool) (g : (Name → Option O) → D → FR) (obj : Name → Option O) : List D → Bool
  | [] => true
  | d :: r => f obj d && frzLB f g (g obj d).obj r
def frzB : Nat → (Name → Option O) → D → Bool
  | 0, obj, d => match d with
    | .v _ => true
    | .nilsl => true
    | _ => false
  | n + 1, obj, d => match d with
    | .v _ => true
    | .nilsl => true
    | .msl nm k => match obj nm with
      | some (.arr _ l) => decide (k = l.length)
      | some (.farr _ l) => decide (k = l.length)
      | _ => false
    | .ref nm _ => match obj nm with
      | some (.box cs) => frzLB (frzB n) (frz n) obj cs && !inL (fpL (fp n obj) cs) nm
      | some (.fbox _) => true
      | _ => false
    | .agg l => frzLB (frzB n) (frz n) obj l
    | .tup l => frzLB (frzB n) (frz n) obj l
    | .clo _ f c => frzLB (frzB n) (frz n) obj f && frzLB (frzB n) (frz n) (frzL (frz n) obj f).obj c
    | _ => false

theorem frzLB_ok {n : Nat} (ih : ∀ obj d, frzB n obj d = true → (frz n obj d).ok) : ∀ (l : List D) (obj : Name → Option O), frzLB (frzB n) (frz n) obj l = true → (frzL (frz n) obj l).ok
  | [], _, _ => trivial
  | d :: r, obj, h => by
    simp only [frzLB, Bool.and_eq_true] at h
    exact ⟨ih obj d h.1, frzLB_ok ih r _ h.2⟩
theorem frzB_ok : ∀ (n : Nat) (obj : Name → Option O) (d : D), frzB n obj d = true → (frz n obj d).ok
  | 0, obj, d, h => by cases d <;> first | trivial | (simp [frzB] at h)
  | n + 1, obj, d, h => by
    have ih := frzLB_ok (frzB_ok n)
    cases d with
    | v x => trivial
    | nilsl => trivial
    | msl nm k =>
      simp only [frzB] at h
      unfold frz
      rcases ho : obj nm with _ | o
      · simp [ho] at h
      · cases o <;> simp [ho] at h ⊢ <;> exact h
    | ref nm off =>
      simp only [frzB] at h
      rcases ho : obj nm with _ | o
      · simp [ho] at h
      · cases o with
        | box cs =>
          simp only [ho, Bool.and_eq_true, Bool.not_eq_true'] at h
          simp only [frz, ho]
          refine ⟨ih cs obj h.1, ?_⟩
          have := (frzL_like (frz_like n) cs obj obj (fpL (fp n obj) cs) (fun _ hn => hn) (fun _ _ => rfl)).2.frame nm (fun hn => by rw [inL_iff.2 hn] at h; cases h.2)
          rw [this, ho]
        | fbox cs => simp only [frz, ho]
        | _ => simp [ho] at h
    | agg l => exact ih l obj h
    | tup l => exact ih l obj h
    | clo fn f c =>
      simp only [frzB, Bool.and_eq_true] at h
      exact ⟨ih f obj h.1, ih c _ h.2⟩
    | _ => simp [frzB] at h

def isNil {α : Type} : List α → Bool
  | [] => true
  | _ => false
theorem isNil_iff {α : Type} {l : List α} : isNil l = true ↔ l = [] := by cases l <;> simp [isNil]
def isRange : Nat → List Nat → Bool
  | _, [] => true
  | k, x :: r => nEq x k && isRange (k + 1) r
theorem isRange_ok : ∀ {k : Nat} {l : List Nat}, isRange k l = true → l = List.range' k l.length
  | k, [], _ => rfl
  | k, x :: r, h => by
    simp only [isRange, Bool.and_eq_true] at h
    rw [nEq_ok h.1, List.length_cons, List.range'_succ]
    congr 1
    exact isRange_ok h.2
def buildSliceB (P : Program) (obj : Name → Option O) (T : TypeId) (n : Nat) (parts : List (Nat × D)) : Bool :=
  match tElem P T with
  | some (e, sz, _) => match nEq n 0 && isNil parts with
    | true => (tZero P e).isSome
    | false => frzLB (frzB 4) (frz 4) obj (parts.map fun p => p.2) && isRange 0 (parts.map fun p => p.1) && nEq parts.length n && allOk sz (frzL (frz 4) obj (parts.map fun p => p.2)).xs &&
        nLe (n * sz) 16777216 && !nEq sz 0 && (tZero P e).isSome && nLt 0 n
  | none => false
theorem buildSliceB_ok {P : Program} {obj : Name → Option O} {T : TypeId} {n : Nat} {parts : List (Nat × D)} (h : buildSliceB P obj T n parts = true) : (aBuildSlice P obj T n parts).ok := by
  unfold buildSliceB at h
  unfold aBuildSlice
  split at h
  · rename_i e sz by_ hT
    rw [hT]
    simp only
    split at h
    · rename_i hc
      simp only [Bool.and_eq_true, nEq_iff, isNil_iff] at hc
      rw [if_pos hc]; exact h
    · rename_i hc
      have hc' : ¬ (n = 0 ∧ parts = []) := by
        intro ⟨a, b⟩
        subst a; subst b
        cases hc
      rw [if_neg hc']
      simp only [Bool.and_eq_true, Bool.not_eq_true', nEq_not] at h
      obtain ⟨⟨⟨⟨⟨⟨⟨h1, h2⟩, h2'⟩, h3⟩, h4⟩, h5⟩, h6⟩, h7⟩ := h
      refine ⟨?_, frzLB_ok (frzB_ok 4) _ _ h1, allOk_ok h3, nLe_ok h4, h5, h6, nLt_ok h7⟩
      have := isRange_ok h2
      rw [List.length_map, nEq_ok h2', ← List.range_eq_range'] at this
      exact this
  · cases h

def builtinB (P : Program) (σ : S) (t : Name) (b : Builtin) (ts : List TypeId) (args : List D) : Bool :=
  match b, ts, args with
  | .len, [T], [x] => bLen P σ.obj T x
  | .append, [T1, T2], [s, x] => bAppend P σ.obj t T1 T2 s x
  | .min, _, [.v (.int _ _), .v (.int _ _)] => true
  | .max, _, [.v (.int _ _), .v (.int _ _)] => true
  | _, _, _ => false

def opB (P : Program) (σ : S) (t : Name) : Op → Bool
  | .move _ => true
  | .assign _ => true
  | .pick c _ _ => bPick (opD σ c)
  | .alloc T => bAlloc P σ.obj t T
  | .box _ x => bBox σ.obj t (opD σ x)
  | .build T ps => bBuild P T (ps.toList.map fun p => (p.1, opD σ p.2))
  | .buildSlice T n ps => buildSliceB P σ.obj T n (ps.toList.map fun p => (p.1, opD σ p.2))
  | .load T x => bLoad P σ.obj T (opD σ x)
  | .store T x d => bStore P σ.obj T (opD σ x) (opD σ d)
  | .nilCheck x => bNilCheck σ.obj (opD σ x)
  | .binOp op T x y _ => bBin' P σ.obj op T (opD σ x) (opD σ y) (isNilC y)
  | .unOp op _ x => bUn op (opD σ x)
  | .convert s d x => bConv P s d (opD σ x)
  | .makeFunc _ _ _ => true
  | .makeMap T r => bMakeMap P σ.obj t T (r.map (opD σ))
  | .makeSlice T l c => bMakeSlice P σ.obj t T (opD σ l) (opD σ c)
  | .slice T x lo hi mx => bSlice P σ.obj T (opD σ x) (lo.map (opD σ)) (hi.map (opD σ)) (mx.map (opD σ))
  | .fieldAddr T x f => bFieldAddr P σ.obj T f (opD σ x)
  | .field T x f => bField P T (opD σ x) f
  | .indexAddr T x i => bIndexAddr P σ.obj T (opD σ x) (opD σ i)
  | .index T x i => bIndex P T (opD σ x) (opD σ i)
  | .lookup T x i _ => bLookup P σ.obj T (opD σ x) (opD σ i)
  | .mapUpdate T x k d => bMapUpdate P σ.obj T (opD σ x) (opD σ k) (opD σ d)
  | .insert T x k d => bMapUpdate P σ.obj T (opD σ x) (opD σ k) (opD σ d)
  | .extract x i => bExtract (opD σ x) i
  | .call ⟨.builtin b, args, ts⟩ => builtinB P σ t b ts.toList (args.toList.map (opD σ))
  | _ => false

theorem builtinB_ok {P : Program} {σ : S} {t : Name} {b : Builtin} {ts : List TypeId} {args : List D} (h : builtinB P σ t b ts args = true) : (aBuiltin P σ t b ts args).ok := by
  unfold builtinB at h
  split at h
  · exact bLen_ok h
  · exact bAppend_ok h
  · trivial
  · trivial
  · cases h
theorem opB_ok {P : Program} {Γ : FuncId → Option Spec} {σ : S} {t : Name} {op : Op} (h : opB P σ t op = true) : (aop P Γ σ t op).ok := by
  cases op with
  | call c =>
    obtain ⟨callee, args, ts⟩ := c
    cases callee with
    | value f => cases h
    | builtin b => exact builtinB_ok h
    | invoke => cases h
  | move => trivial
  | assign => trivial
  | makeFunc => trivial
  | pick => exact bPick_ok h
  | alloc => exact bAlloc_ok h
  | box => exact bBox_ok h
  | build => exact bBuild_ok h
  | buildSlice => exact buildSliceB_ok h
  | load => exact bLoad_ok h
  | store => exact bStore_ok h
  | nilCheck => exact bNilCheck_ok h
  | binOp => exact bBin'_ok h
  | unOp => exact bUn_ok h
  | convert => exact bConv_ok h
  | makeMap => exact bMakeMap_ok h
  | makeSlice => exact bMakeSlice_ok h
  | slice => exact bSlice_ok h
  | fieldAddr => exact bFieldAddr_ok h
  | field => exact bField_ok h
  | indexAddr => exact bIndexAddr_ok h
  | index => exact bIndex_ok h
  | lookup => exact bLookup_ok h
  | mapUpdate => exact bMapUpdate_ok h
  | insert => exact bMapUpdate_ok h
  | extract => exact bExtract_ok h
  | _ => cases h
end Go.Eng
/- The engine's text of a row that is cut and cleared: 'clear(s[i:])', in text order. -/
namespace Go.Eng
open Go

def isCutA (o : Oper) : Option (TypeId × Operand × Operand × Nat) :=
  match o.op with
  | .slice T x (some lo) none none => match o.guard, o.dst with
    | none, some c => some (T, x, lo, c)
    | _, _ => none
  | _ => none
def isCutB (c : Nat) (o : Oper) : Bool :=
  match o.op with
  | .call ⟨.builtin .clear, args, ts⟩ => match args.toList, ts.toList, o.guard, o.dst with
    | [.tmp c'], [_], none, none => Nat.beq c' c
    | _, _, _, _ => false
  | _ => false
def clearT (o : Oper) : TypeId := match o.op with
  | .call ⟨.builtin .clear, _, ts⟩ => ts.getD 0 0
  | _ => 0

def aCut (P : Program) (obj : Name → Option O) (T T2 : TypeId) (x lo : D) : R :=
  match x, lo, tElem P T, tElem P T2 with
  | .msl nm k, .v (.int _ i), some (e, sz, _), some (e2, _, _) => match obj nm, (tZero P e).bind fun z => asV (ofVal z) with
    | some (.arr s l), some zv => ⟨k = l.length ∧ 0 ≤ i ∧ i.toNat < l.length ∧ s = sz ∧ zv.cells.length = sz ∧ zv.okc = true ∧ e2 = e ∧ 0 < sz, .any, upd obj nm (some (.arr sz (l.take i.toNat ++ List.replicate (l.length - i.toNat) zv)))⟩
    | _, _ => .bad obj
  | _, _, _, _ => .bad obj

def cutS (P : Program) (σ : S) (T : TypeId) (x lo : Operand) (c : Nat) (o2 : Oper) : S :=
  { σ with env := upd σ.env c ⟨true, .any⟩, obj := (aCut P σ.obj T (clearT o2) (opD σ x) (opD σ lo)).obj }

inductive RegX (P : Program) (Γ : FuncId → Option Spec) (ops : Array Oper) : List Oper → S → (S → Prop) → Prop
  | nil {σ : S} {K : S → Prop} : K σ → RegX P Γ ops [] σ K
  | step {o : Oper} {r : List Oper} {σ : S} {K : S → Prop} : oblS P Γ ops σ o → RegX P Γ ops r (stepS P Γ ops σ o) K → RegX P Γ ops (o :: r) σ K
  | cut {o o2 : Oper} {r : List Oper} {σ : S} {K : S → Prop} {T : TypeId} {x lo : Operand} {c : Nat} : isCutA o = some (T, x, lo, c) → isCutB c o2 = true → c < σ.nt → opC σ x = true → opC σ lo = true →
      (aCut P σ.obj T (clearT o2) (opD σ x) (opD σ lo)).ok → RegX P Γ ops r (cutS P σ T x lo c o2) K → RegX P Γ ops (o :: o2 :: r) σ K

theorem rep_zeros {m : Mem} {zv : V} {z : Value} {sz : Nat} (h : RepV m zv z) (hs : zv.cells.length = sz) (hpos : 0 < sz) (n k : Nat) (hk : k < n * sz) :
    (Builtin.zeroCells z.cells n)[k]? = z.cells[k % sz]? := by
  have hz : z.cells.size = sz := by rw [← h.cells]; exact hs
  have hm := Nat.mod_lt k hpos
  unfold Builtin.zeroCells
  rw [hz]
  simp only [Array.getElem?_map, Array.getElem?_range, hk, if_true, Option.map_some]
  rw [Array.getElem?_eq_getElem (by omega), getElem!_pos z.cells (k % sz) (by omega)]

theorem cut_get {l : List V} {zv : V} {i q : Nat} (hi : i ≤ l.length) (hq : q < (l.take i ++ List.replicate (l.length - i) zv).length) :
    (q < i ∧ ∃ h : q < l.length, (l.take i ++ List.replicate (l.length - i) zv)[q] = l[q]) ∨ (i ≤ q ∧ q < l.length ∧ (l.take i ++ List.replicate (l.length - i) zv)[q] = zv) := by
  have hlen : (l.take i).length = i := by simp; omega
  have hq' := hq
  simp only [List.length_append, List.length_replicate, hlen] at hq'
  by_cases h1 : q < i
  · refine .inl ⟨h1, by omega, ?_⟩
    rw [List.getElem_append_left (by omega), List.getElem_take]
  · refine .inr ⟨by omega, by omega, ?_⟩
    rw [List.getElem_append_right (by omega), List.getElem_replicate]

theorem mul_le_of' {K a b : Nat} (h : a < b) : a * K + K ≤ b * K := by
  have := Nat.mul_le_mul_right K (show a + 1 ≤ b by omega)
  rwa [Nat.add_mul, Nat.one_mul] at this

set_option maxHeartbeats 1000000 in
theorem cut_sound {P : Program} {G : Ghost} {φ : Name → Loc} {m : Mem} {σ : S} {a : Act} {w : World} (hC : Conc G φ m σ a w)
    {ops : Array Oper} {i : Nat} {o o2 : Oper} (hi : ops[i]? = some o) (hi2 : ops[i + 1]? = some o2) {T : TypeId} {x lo : Operand} {c : Nat} (hA : isCutA o = some (T, x, lo, c)) (hB : isCutB c o2 = true) (hc : c < σ.nt)
    (hx : opC σ x = true) (hlo : opC σ lo = true) (hok : (aCut P σ.obj T (clearT o2) (opD σ x) (opD σ lo)).ok) {K : Act → World → Prop} {Q : Exit → Act → World → Prop}
    (hK : ∀ a' w' φ' m', Conc G φ' m' (cutS P σ T x lo c o2) a' w' → K a' w') :
    wpOpIn (fen G.rd) 0 P ops Q i (fun a1 w1 => wpOpIn (fen G.rd) 0 P ops Q (i + 1) K a1 w1) a w := by
  unfold isCutA at hA
  split at hA
  case h_2 => cases hA
  rename_i T0 x0 lo0 hop
  split at hA
  case h_2 => cases hA
  rename_i hg hd
  simp only [Option.some.injEq, Prod.mk.injEq] at hA
  obtain ⟨rfl, rfl, rfl, rfl⟩ := hA
  unfold isCutB at hB
  split at hB
  case h_2 => cases hB
  rename_i args ts hop2
  split at hB
  case h_2 => cases hB
  rename_i c' T2 hargs hts hg2 hd2
  have hcc := Nat.eq_of_beq_eq_true hB
  subst hcc
  have hT2 : clearT o2 = T2 := by
    unfold clearT
    rw [hop2]
    simp only
    have : ts = #[T2] := by rw [← Array.toArray_toList (xs := ts), hts]
    rw [this]; rfl
  have hargs' : args = #[.tmp c'] := by rw [← Array.toArray_toList (xs := args), hargs]
  have hts' : ts = #[T2] := by rw [← Array.toArray_toList (xs := ts), hts]
  rw [hT2] at hok
  have hcutS : cutS P σ T0 x0 lo0 c' o2 = { σ with env := upd σ.env c' ⟨true, .any⟩, obj := (aCut P σ.obj T0 T2 (opD σ x0) (opD σ lo0)).obj } := by unfold cutS; rw [hT2]
  rw [hcutS] at hK
  clear hcutS hB hargs hts hT2
  have rx := opD_rep hC hx
  have rl := opD_rep hC hlo
  unfold aCut at hok hK
  split at hok
  case h_2 => exact hok.elim
  rename_i nm k kd ii e sz by_ e2 sz2 by2 hdx hdl hTE hTE2
  split at hok
  case h_2 => exact hok.elim
  rename_i s l zv hnm hzv
  obtain ⟨h1, h2, h3, h4, h5, h6, h7, hpos⟩ := hok
  subst h7
  subst h4
  obtain ⟨n, rfl⟩ : ∃ n : Nat, ii = (n : Int) := ⟨ii.toNat, by omega⟩
  simp only [hdx, hdl, hTE, hTE2, hnm, hzv, Int.toNat_natCast] at hK h3
  obtain ⟨hu, it, hit, his, _⟩ := tElem_spec hTE
  obtain ⟨hu2, _⟩ := tElem_spec hTE2
  obtain ⟨z, hz, hzz⟩ := Option.bind_eq_some_iff.1 hzv
  have hzr : RepV m zv z := asV_rep (ofVal_rep (φ := φ) (obj := σ.obj) (m := m) z) hzz
  rw [hdx] at rx
  rw [hdl] at rl
  cases rl with
  | v _ _ rl =>
  cases hlv : a.eval lo0 with
  | int kd2 n2 =>
    rw [hlv] at rl
    cases rl
    cases rx with
    | msl _ _ _ hh _ =>
    obtain ⟨oo, nn, hnm', hlen, hk, hval⟩ := hh
    rw [hnm] at hnm'; cases hnm'
    simp only [O.len?, Option.some.injEq] at hlen
    subst hlen
    subst h1
    have hv := hval rfl
    rcases hC.objs nm _ hnm with ⟨_, hlnil⟩ | ⟨g0, g1, g2, g3, g4, us, T', f, g5, g6, g7, g8⟩
    · subst hlnil; simp at h3
    have hv' : a.eval x0 = .slice (some ⟨(φ nm).blk, (φ nm).off, none⟩) l.length (φ nm).cap := by rw [hv]; simp only [Loc.slice, g0]; rfl
    have hblk : (φ nm).blk < w.heap.size := (Array.getElem?_eq_some_iff.1 g5).1
    have hsl : (Instr.sliceAt T0 (.slice (some ⟨(φ nm).blk, (φ nm).off, none⟩) l.length (φ nm).cap) (some (.int kd n)) none none).run P w =
        .ok (.slice (some ⟨(φ nm).blk, (φ nm).off + n * s, none⟩) (l.length - n) ((φ nm).cap - n)) w := by
      have hb := run_bounds (P := P) (φ := φ) (obj := σ.obj) (m := m) (lo := some (.v (.int kd n))) (hi := none) (ulo := some (.int kd n)) (uhi := none) (len := l.length) (cap := (φ nm).cap) (n := 0) (i := n) (j := l.length) true (.v _ _ (.int _ _)) trivial rfl rfl (by omega) (by omega) (by omega) g1 w
      rw [sliceAt_slice hu]
      have hne : ¬ ((φ nm).cap = n) := by omega
      simp [Instr.slice, run_underlying hu, hb, sizeOf, typeInfo, hit, his, hne, addr_add]
    have hnd : ∀ cc, o.op ≠ .defer cc := fun cc h => by rw [hop] at h; cases h
    have hnd2 : ∀ cc, o2.op ≠ .defer cc := fun cc h => by rw [hop2] at h; cases h
    have hw1 : Region.wanted o (yielded ops a.tmps) = true := by unfold Region.wanted; rw [hg]
    have hrun : (execOp a.eval o).run P w = .ok (.value (.slice (some ⟨(φ nm).blk, (φ nm).off + n * s, none⟩) (l.length - n) ((φ nm).cap - n))) w := by
      unfold execOp
      rw [hop]
      simp only [hv', Option.map_some, Option.map_none, hlv, Sem.run_bind, hsl, Result.andThen_ok, Sem.run_pure]
    have key : ∀ KK : Act → World → Prop, KK (a.put (some c') (.slice (some ⟨(φ nm).blk, (φ nm).off + n * s, none⟩) (l.length - n) ((φ nm).cap - n))) w → wpOpIn (fen G.rd) 0 P ops Q i KK a w := by
      intro KK hKK
      unfold wpOpIn
      simp only [hi, hw1, if_true]
      refine ⟨fun _ _ => trivial, ?_⟩
      rw [Oper.semAt_eq _ _ _ hnd, hrun]
      rw [← hd] at hKK
      exact hKK
    refine key _ ?_
    have hC1 := hC.put (t := c') (e := ⟨true, .any⟩) (v := .slice (some ⟨(φ nm).blk, (φ nm).off + n * s, none⟩) (l.length - n) ((φ nm).cap - n)) hc (by unfold RepE; simp; exact .any _)
    have hev : (a.put (some c') (.slice (some ⟨(φ nm).blk, (φ nm).off + n * s, none⟩) (l.length - n) ((φ nm).cap - n))).eval (.tmp c') = .slice (some ⟨(φ nm).blk, (φ nm).off + n * s, none⟩) (l.length - n) ((φ nm).cap - n) := by
      have hs : c' < a.tmps.size := by rw [hC.size]; exact hc
      simp [Act.put, Act.eval, Array.getD, hs]
    generalize hga : a.put (some c') (.slice (some ⟨(φ nm).blk, (φ nm).off + n * s, none⟩) (l.length - n) ((φ nm).cap - n)) = a1 at hC1 hev ⊢
    have hcs : n * s ≤ l.length * s := Nat.mul_le_mul_right _ (by omega)
    have hcap : l.length * s ≤ (φ nm).cap * s := Nat.mul_le_mul_right _ g1
    have hzc : (Builtin.zeroCells z.cells (l.length - n)).toList.length = l.length * s - n * s := by
      have hzs : z.cells.size = s := by rw [← hzr.cells]; exact h5
      simp [Builtin.zeroCells, hzs, Nat.sub_mul]
    obtain ⟨us2, k1, k2, k3⟩ := run_storeCells_run P (φ nm).blk ((φ nm).off + n * s) T' f g6 (Builtin.zeroCells z.cells (l.length - n)).toList 0 us w g5 (by rw [hzc]; omega)
      (fun v hv => by
        obtain ⟨k, hk, rfl⟩ := List.getElem_of_mem hv
        rw [hzc, ← Nat.sub_mul] at hk
        have h0 := rep_zeros hzr h5 hpos (l.length - n) k hk
        have hkz : k % s < z.cells.size := by rw [← hzr.cells, h5]; exact Nat.mod_lt _ hpos
        rw [Array.getElem?_eq_getElem hkz] at h0
        have h1 : (Builtin.zeroCells z.cells (l.length - n)).toList[k] = z.cells[k % s] := by
          have := h0
          rw [← Array.getElem?_toList] at this
          exact (List.getElem?_eq_some_iff.1 this).2
        rw [h1]
        have hkv : k % s < zv.cells.length := by rw [h5]; exact Nat.mod_lt _ hpos
        exact oneC_oneCell' ((hzr.cell (k % s) hkv hkz).one (hzr.ones h6 _ (List.getElem_mem _))))
    simp only [Nat.add_zero] at k2
    have hw2 : Region.wanted o2 (yielded ops a1.tmps) = true := by unfold Region.wanted; rw [hg2]
    show wpOpIn (fen G.rd) 0 P ops Q (i + 1) K a1 w
    unfold wpOpIn
    simp only [hi2, hw2, if_true]
    refine ⟨fun _ _ => trivial, ?_⟩
    rw [Oper.semAt_eq _ _ _ hnd2]
    have hrun2 : (execOp a1.eval o2).run P w = .ok (.value (.tuple #[])) (wset w (φ nm).blk (.cells us2 T' f)) := by
      have hne : l.length - n ≠ 0 := by omega
      unfold execOp
      rw [hop2, hargs', hts']
      simp only [resolve, invoke, builtin, Sem.run_bind, Sem.run_pure, Result.andThen_ok, List.map_toArray, List.map_cons, List.map_nil, hev]
      have hu2' : Sem.run P (underlying T2) w = .ok (TypeDesc.slice e2) w := run_underlying hu2 w
      have hcl : (Builtin.clear_ #[T2] o2.type #[.slice (some ⟨(φ nm).blk, (φ nm).off + n * s, none⟩) (l.length - n) ((φ nm).cap - n)]).run P w = .ok (.tuple #[]) (wset w (φ nm).blk (.cells us2 T' f)) := by
        obtain ⟨q, hq⟩ : ∃ q, l.length - n = q + 1 := ⟨l.length - n - 1, by omega⟩
        rw [hq] at k3 ⊢
        simp [Builtin.clear_, hu2', run_zero hz, k3]
      simp only [hcl, Result.andThen_ok]
    rw [hrun2]
    have hlen' : (l.take n ++ List.replicate (l.length - n) zv).length = l.length := by simp; omega
    have hx' := Ext.same (φ := φ) (o' := .arr s (l.take n ++ List.replicate (l.length - n) zv)) hnm (by simp only [O.len?, hlen']) rfl
    have hfinal := hC1.chg (w' := wset w (φ nm).blk (.cells us2 T' f)) nm (.arr s (l.take n ++ List.replicate (l.length - n) zv)) (φ nm) hx' ⟨rfl, rfl, rfl, by simp [wset]⟩
      (fun b hb hn => wset_ne (by rcases hn with h | h; · rw [g0] at h; cases h
                                  · exact h))
      (fun _ => .inr ⟨⟨_, hnm, rfl, g0⟩, rfl⟩) (by
        refine .inr ⟨g0, by rw [hlen']; exact g1, g2, fun q hq => ?_, fun q hq => ?_, us2, T', f, wset_same hblk, g6, by rw [k1]; exact g7, fun q j hq hj => ?_⟩
        · rcases cut_get (by omega) hq with ⟨_, hq', e3⟩ | ⟨_, _, e3⟩ <;> rw [e3]
          · exact g3 q hq'
          · exact h5
        · rcases cut_get (by omega) hq with ⟨_, hq', e3⟩ | ⟨_, _, e3⟩ <;> rw [e3]
          · exact g4 q hq'
          · exact hzr.ones h6
        · rw [k2, hzc]
          rcases cut_get (by omega) hq with ⟨hqn, hq', e3⟩ | ⟨hqn, hq', e3⟩
          · simp only [e3] at hj ⊢
            have hjs : j < s := by rw [← g3 q hq']; exact hj
            have hm := mul_le_of' (K := s) hqn
            rw [if_neg (by omega)]
            exact g8 q j hq' hj
          · simp only [e3] at hj ⊢
            have hjs : j < s := by rw [← h5]; exact hj
            have hm := mul_le_of' (K := s) hq'
            have hm2 : n * s ≤ q * s := Nat.mul_le_mul_right _ hqn
            rw [if_pos (by omega)]
            refine ⟨z.cells[j]'(by rw [← hzr.cells, h5]; exact hjs), ?_, hzr.cell j hj _⟩
            rw [show (φ nm).off + q * s + j - ((φ nm).off + n * s) = (q - n) * s + j by rw [Nat.sub_mul]; omega, Array.getElem?_toList]
            have hlt : (q - n) * s + j < (l.length - n) * s := by rw [Nat.sub_mul, Nat.sub_mul]; omega
            rw [rep_zeros hzr h5 hpos _ _ hlt]
            have : ((q - n) * s + j) % s = j := by rw [Nat.mul_comm, Nat.mul_add_mod, Nat.mod_eq_of_lt hjs]
            rw [this, Array.getElem?_eq_getElem])
    have hfin := hK _ _ _ m hfinal
    show K (a1.put o2.dst (.tuple #[])) _
    rw [hd2]
    exact hfin
  | _ => rw [hlv] at rl; cases rl

theorem regX_sound {P : Program} {Γ : FuncId → Option Spec} (hΓ : ∀ f s, Γ f = some s → SSound P f s) {G : Ghost} {ops : Array Oper} {Q : Exit → Act → World → Prop} {K : S → Prop} {l : List Oper} {σ : S} (hr : RegX P Γ ops l σ K) :
    ∀ (k : Nat) {φ : Name → Loc} {m : Mem} {a : Act} {w : World}, k + l.length = ops.size → ops.toList.drop k = l → Conc G φ m σ a w →
      (∀ a' w' φ' m' σ', Conc G φ' m' σ' a' w' → K σ' → Q .normal a' w') → wpOpsIn (fen G.rd) 0 P ops Q (List.range' k l.length) a w := by
  have hget : ∀ (k : Nat) (o : Oper) (r : List Oper), ops.toList.drop k = o :: r → ops[k]? = some o ∧ ops.toList.drop (k + 1) = r := by
    intro k o r h
    have h0 : (ops.toList.drop k)[0]? = some o := by rw [h]; rfl
    rw [List.getElem?_drop, Nat.add_zero, Array.getElem?_toList] at h0
    refine ⟨h0, ?_⟩
    have h1 : (ops.toList.drop k).drop 1 = r := by rw [h]; rfl
    rw [List.drop_drop] at h1
    exact h1
  induction hr with
  | nil hk => exact fun k φ m a w _ _ hC hQ => hQ _ _ φ m _ hC hk
  | step h1 _ ih =>
    intro k φ m a w hs hd hC hQ
    obtain ⟨hi, hd'⟩ := hget k _ _ hd
    rw [List.length_cons] at hs ⊢
    rw [List.range'_succ, wpOpsIn_cons]
    exact step_sound hΓ hC hi h1 fun a' w' φ' m' hC' => ih (k + 1) (by omega) hd' hC' hQ
  | cut hA hB hc hx hlo hok _ ih =>
    intro k φ m a w hs hd hC hQ
    obtain ⟨hi, hd'⟩ := hget k _ _ hd
    obtain ⟨hi2, hd2⟩ := hget (k + 1) _ _ hd'
    rw [List.length_cons, List.length_cons] at hs ⊢
    rw [List.range'_succ, wpOpsIn_cons, List.range'_succ]
    rename_i o1 o2 r' _ _ _ _ _ _ _
    have := cut_sound (ops := ops) (Q := Q) hC hi hi2 hA hB hc hx hlo hok (K := fun a' w' => wpOpsIn (fen G.rd) 0 P ops Q (List.range' (k + 1 + 1) r'.length) a' w') fun a' w' φ' m' hC' => ih (k + 2) (by omega) hd2 hC' hQ
    have e : wpOpsIn (fen G.rd) 0 P ops Q ((k + 1) :: List.range' (k + 1 + 1) r'.length) = fun a1 w1 => wpOpIn (fen G.rd) 0 P ops Q (k + 1) (fun a' w' => wpOpsIn (fen G.rd) 0 P ops Q (List.range' (k + 1 + 1) r'.length) a' w') a1 w1 := by
      funext a1 w1
      rw [wpOpsIn_cons]
    rw [e]
    exact this

theorem cw_regionX {P : Program} {Γ : FuncId → Option Spec} (hΓ : ∀ f s, Γ f = some s → SSound P f s) {id : Nat} {ops : Array Oper} {σ : S} {K : Exit → S → Prop}
    (h : RegX P Γ ops ops.toList σ (K .normal)) : CW P (.region id ops false) σ K := by
  intro G φ m a w hC
  refine wpIn_region ?_
  rw [List.range_eq_range']
  have := regX_sound hΓ h 0 (Q := fun e a' w' => ∃ φ' m' σ', Conc G φ' m' σ' a' w' ∧ K e σ') (by simp) (by simp) hC fun a' w' φ' m' σ' hC' hK => ⟨φ', m', σ', hC', hK⟩
  simpa using this

def bCut (P : Program) (obj : Name → Option O) (T T2 : TypeId) (x lo : D) : Bool :=
  match x, lo, tElem P T, tElem P T2 with
  | .msl nm k, .v (.int _ i), some (e, sz, _), some (e2, _, _) => match obj nm, (tZero P e).bind fun z => asV (ofVal z) with
    | some (.arr s l), some zv => nEq k l.length && iLe 0 i && nLt i.toNat l.length && nEq s sz && nEq zv.cells.length sz && zv.okc && nEq e2 e && nLt 0 sz
    | _, _ => false
  | _, _, _, _ => false
theorem bCut_ok {P : Program} {obj : Name → Option O} {T T2 : TypeId} {x lo : D} (h : bCut P obj T T2 x lo = true) : (aCut P obj T T2 x lo).ok := by
  unfold bCut at h
  unfold aCut
  split at h
  · split at h
    · simp only [Bool.and_eq_true] at h
      obtain ⟨⟨⟨⟨⟨⟨⟨h1, h2⟩, h3⟩, h4⟩, h5⟩, h6⟩, h7⟩, h8⟩ := h
      exact ⟨nEq_ok h1, iLe_ok h2, nLt_ok h3, nEq_ok h4, nEq_ok h5, h6, nEq_ok h7, nLt_ok h8⟩
    · cases h
  · cases h
theorem aCut_frame {P : Program} {obj : Name → Option O} {T T2 : TypeId} {x lo : D} {nm : Name} (h : nm ∉ tops x) : (aCut P obj T T2 x lo).obj nm = obj nm := by
  unfold aCut
  split
  · split
    · simp only [tops, List.mem_singleton] at h
      exact upd_ne _ _ _ h
    · rfl
  · rfl
end Go.Eng
