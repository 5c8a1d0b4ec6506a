import Derived.Test.YtepaolcgegdpoaaGreatK5
import Derived.Laws.Bits64
import Derived.KernelRfl
import Derived.Test.YtepaolcgegdpoaaGreatProg
/- Texts InsD to LW4. -/
set_option linter.all false
/- The engine's contract of slices.Clone; both contracts, to be run. -/
namespace Go.Eng
open Go Go.RowKit

structure CloneLaw (P : Program) (F T E K BY : Nat) (Z : Value) : Prop where
  tE : tElem P T = some (E, K, BY)
  tZ : tZero P E = some Z
  ne : F ≠ yid
  enter : ∀ args w, (callFunc F args).run P w = .ok (.enter F args) w
  nil : ∀ (n c : Nat) (w : World), Calls P F #[.slice none n c] w fun e w' => e = .returned (.slice none 0 0) ∧ w' = w
  some : ∀ (a : Addr) (n c : Nat) (w : World) (v' : Value) (w' : World),
    (∀ ty, (Builtin.append_ #[T, T] ty #[.slice (some ⟨w.heap.size, 0, none⟩) 0 0, .slice (some a) n c]).run P (w.alloc (.cells #[] E)) = .ok v' w') →
    Calls P F #[.slice (some a) n c] w fun e w1 => e = .returned v' ∧ w1 = w'

def aClone (P : Program) (obj : Name → Option O) (t : Name) (T : TypeId) (x : D) : R :=
  match (srcL obj x).2 with
  | [] => ⟨(srcL obj x).1, .nilsl, obj⟩
  | _ :: _ => aAppend P obj t T T .nilsl x
def cloneSpec (P : Program) (T : TypeId) : Spec where
  app obj t ds := match ds with | [x] => aClone P obj t T x | _ => .bad obj
  foot obj t ds := match ds with | [x] => tops .nilsl ++ tops x ++ [nmO t] | _ => []
  wrt obj t ds := match ds with | [x] => tops .nilsl ++ tops x ++ [nmO t] | _ => []

theorem like_clone {P : Program} {obj obj2 : Name → Option O} {t : Name} {T : TypeId} {x : D} (h : Agr (tops .nilsl ++ tops x ++ [nmO t]) obj obj2) :
    Like (aClone P obj t T x) (aClone P obj2 t T x) obj obj2 (tops .nilsl ++ tops x ++ [nmO t]) := by
  have h2 : srcL obj2 x = srcL obj x := srcL_like fun nm hn => h nm (by simp [hn])
  have l := like_append (P := P) (obj := obj) (obj2 := obj2) (t := t) (T1 := T) (T2 := T) (s := .nilsl) (x := x) h
  unfold aClone
  rw [h2]
  split
  · have l0 : Like ⟨True, D.nilsl, obj⟩ ⟨True, D.nilsl, obj2⟩ obj obj2 (tops .nilsl ++ tops x ++ [nmO t]) := ⟨rfl, rfl, fun nm => by
      show obj2 nm = if _ then obj nm else obj2 nm
      split
      · exact h nm (by assumption)
      · rfl, fun _ _ => rfl⟩
    exact ⟨rfl, l0.d, l0.eff, l0.frame⟩
  · exact l
theorem cloneSpec_near (P : Program) (T : TypeId) : (cloneSpec P T).Near := by
  refine ⟨fun obj obj2 t ds h => ?_, fun obj obj2 t ds h => rfl, fun obj t ds nm hn => hn, fun obj obj2 t ds h => rfl⟩
  simp only [cloneSpec] at h ⊢
  split
  · exact like_clone h
  · exact .same rfl rfl rfl rfl

theorem clone_sound {P : Program} {F T E K BY : Nat} {Z : Value} (L : CloneLaw P F T E K BY Z) : SSound P F (cloneSpec P T) := by
  refine ⟨cloneSpec_near P T, fun _ => L.enter, fun _ G φ m σ a w hC t ds us _ hl hr hok => ?_, fun e => (L.ne e).elim⟩
  simp only [cloneSpec] at hok ⊢
  split at hok
  case h_2 => exact hok.elim
  rename_i x
  simp only [List.length_cons, List.length_nil] at hl
  have r0 := hr 0 (by simp) (by omega)
  simp only [List.getElem_cons_zero] at r0
  have hus : us = #[us[0]] := by
    apply Array.ext
    · simp; omega
    · intro j h1 h2
      have : j = 0 := by omega
      subst this; rfl
  rw [hus]
  generalize us[0] = u0 at r0
  clear hus hr hl us
  obtain ⟨hu, i, hi, his, _⟩ := tElem_spec L.tE
  have hsrc1 : (srcL σ.obj x).1 := by
    unfold aClone at hok
    split at hok
    · exact hok
    · simp only [aAppend, L.tE, L.tZ] at hok
      exact hok.1
  have hval : ∃ base n c, u0 = .slice base n c ∧ ((srcL σ.obj x).2 = [] → n = 0) ∧ (base = none → (srcL σ.obj x).2 = []) := by
    unfold srcL at hsrc1 ⊢
    split at hsrc1
    · rename_i l
      cases r0 with
      | v _ _ r0 =>
      cases r0 with
      | slnil a cap => exact ⟨a, 0, cap, rfl, fun _ => rfl, fun _ => rfl⟩
      | sl _ b o cap sz c hn _ _ _ _ _ _ => exact ⟨_, _, _, rfl, fun h => (hn h).elim, fun h => by cases h⟩
    · cases r0 with
      | nilsl a => exact ⟨a, 0, 0, rfl, fun _ => rfl, fun _ => rfl⟩
    · rename_i nm k
      have lenk : ∀ (l : List V) (o : O), σ.obj nm = some o → o.len? = some l.length → k = l.length → (∀ (h : (φ nm).nul = true), l = []) →
          ∃ base n c, u0 = .slice base n c ∧ (l = [] → n = 0) ∧ (base = none → l = []) := by
        intro l o ho hlen hk hnul
        cases r0 with
        | msl _ _ _ hh _ =>
        obtain ⟨o', n, ho', hlen', _, hv⟩ := hh
        rw [ho] at ho'; cases ho'
        rw [hlen] at hlen'; cases hlen'
        rw [hv hk]
        unfold Loc.slice
        cases hn : (φ nm).nul with
        | true => exact ⟨_, _, _, rfl, fun _ => rfl, fun _ => hnul hn⟩
        | false => exact ⟨_, _, _, rfl, fun h => by rw [hk, h]; rfl, fun h => by cases h⟩
      split at hsrc1
      · rename_i s l ho
        refine lenk l _ ho rfl hsrc1 fun hn => ?_
        rcases hC.objs nm _ ho with ⟨_, h⟩ | ⟨h, _⟩
        · exact h
        · rw [hn] at h; cases h
      · rename_i s l ho
        refine lenk l _ ho rfl hsrc1 fun hn => ?_
        rcases hC.objs nm _ ho with ⟨_, h⟩ | ⟨h, _⟩
        · exact h
        · rw [hn] at h; cases h
      · exact hsrc1.elim
    · exact hsrc1.elim
  obtain ⟨base, n, c, rfl, hn0, hbn⟩ := hval
  cases base with
  | none =>
    have he := hbn rfl
    refine (L.nil n c w).mono ?_
    rintro e w' ⟨rfl, rfl⟩
    unfold aClone
    rw [he]
    exact ⟨_, φ, m, rfl, hC, .nilsl _, .refl _ _⟩
  | some ad =>
    obtain ⟨m1, hm1, hC1, _⟩ := hC.immNew #[] E
    have hx1 : RepD φ σ.obj m1 x (.slice (some ad) n c) := r0.ext hm1 (Ext.refl _ _)
    cases hl : (srcL σ.obj x).2 with
    | nil =>
      have hn := hn0 hl
      subst hn
      refine (L.some ad 0 c w (.slice (some ⟨w.heap.size, 0, none⟩) 0 0) (w.alloc (.cells #[] E)) fun ty => ?_).mono ?_
      · simp [Builtin.append_, run_underlying hu, sizeOf, typeInfo, hi, Builtin.lenOf, Builtin.firstCells, loadCells, loadCellsFrom, storeCells]
      · rintro e w' ⟨rfl, rfl⟩
        unfold aClone
        rw [hl]
        exact ⟨_, φ, m1, rfl, hC1, .nilsl _, .refl _ _⟩
    | cons y r =>
      have hap : (aAppend P σ.obj t T T .nilsl x).ok := by
        unfold aClone at hok
        rw [hl] at hok
        exact hok
      obtain ⟨v, w', h1, φ', m', h2, h3, h4⟩ := s_appendX (ty := 0) hC1 (.nilsl (some ⟨w.heap.size, 0, none⟩)) hx1 hap
      refine (L.some ad n c w v w' fun ty => ?_).mono ?_
      · rw [← h1]; rfl
      · rintro e w1 ⟨rfl, rfl⟩
        unfold aClone
        rw [hl]
        exact ⟨v, φ', m', rfl, h2, h3, h4⟩

/-! to be run -/
def bClone (P : Program) (obj : Name → Option O) (t : Name) (T : TypeId) (x : D) : Bool :=
  match (srcL obj x).2 with
  | [] => bSrc obj x
  | _ :: _ => bAppend P obj t T T .nilsl x
theorem bClone_ok {P : Program} {obj : Name → Option O} {t : Name} {T : TypeId} {x : D} (h : bClone P obj t T x = true) : (aClone P obj t T x).ok := by
  unfold bClone at h
  unfold aClone
  split at h
  · exact bSrc_ok h
  · exact bAppend_ok h
theorem run_rW {s : Spec} {obj : Name → Option O} {t : Name} {ds : List D} {b : Bool} {r : R} {W : List Name} {x : RunR} (h : rW b r W W = some x) (hs : s.app obj t ds = r) (hF : s.foot obj t ds = W) (hW : s.wrt obj t ds = W)
    (hb : b = true → r.ok) (hfr : ∀ nm, nm ∉ W → r.obj nm = obj nm) :
    (s.app obj t ds).ok ∧ (s.app obj t ds).d = x.d ∧ s.foot obj t ds = x.foot ∧ s.wrt obj t ds = x.wrt ∧ ∀ tbl, lookT tbl = obj → lookT (x.tf tbl) = (s.app obj t ds).obj := by
  cases b with
  | false => cases h
  | true =>
    simp only [rW, cond_true, Option.some.injEq] at h
    subst h
    rw [hs, hF, hW]
    refine ⟨hb rfl, rfl, rfl, rfl, fun tbl htbl => ?_⟩
    funext nm
    show lookT (applyW tbl W r.obj) nm = _
    rw [lookT_applyW]
    split
    · rfl
    · rename_i hn
      rw [htbl, hfr nm hn]

noncomputable def cloneB (P : Program) (T : TypeId) : SpecB where
  spec := cloneSpec P T
  run obj t ds := match ds with
    | [x] => rW (bClone P obj t T x) (aClone P obj t T x) (tops .nilsl ++ tops x ++ [nmO t]) (tops .nilsl ++ tops x ++ [nmO t])
    | _ => none
  ok := by
    intro obj t ds r hr
    split at hr
    · exact run_rW (s := cloneSpec P T) hr rfl rfl rfl bClone_ok (like_clone fun _ _ => rfl).frame
    · cases hr
end Go.Eng
/- The engine's text of weakenings that may freeze what is kept; loops with these. -/
namespace Go.Eng
open Go

/-- Something is forgotten, or will not change any more. -/
def WeakM (σ σ' : S) : Prop :=
  ∀ (G : Ghost) (φ : Name → Loc) (m : Mem) (a : Act) (w : World), Conc G φ m σ a w → ∃ φ' m', Conc G φ' m' σ' a w
theorem Weak.toM {σ σ' : S} (h : Weak σ σ') : WeakM σ σ' := fun G φ m a w hC => by
  obtain ⟨φ', h'⟩ := h G φ m a w hC
  exact ⟨φ', m, h'⟩
theorem WeakM.refl (σ : S) : WeakM σ σ := (Weak.refl σ).toM
theorem WeakM.trans {a b c : S} (h : WeakM a b) (k : WeakM b c) : WeakM a c := fun G φ m x w hC => by
  obtain ⟨φ', m', h'⟩ := h G φ m x w hC
  exact k G φ' m' x w h'
theorem cw_weakM {P : Program} {c : Code} {σ σ' : S} {K : Exit → S → Prop} (hw : WeakM σ σ') (h : CW P c σ' K) : CW P c σ K := by
  intro G φ m a w hC
  obtain ⟨φ', m', hC'⟩ := hw G φ m a w hC
  exact h G φ' m' a w hC'
theorem cl_weakM {P : Program} {c : Code} {r : List Code} {σ σ' : S} {K : Exit → S → Prop} (hw : WeakM σ σ') (h : CL P (c :: r) σ' K) : CL P (c :: r) σ K := cw_weakM hw h

theorem weakM_keep {σ τ : S} (ks : List Nat) (ns : List Name) (h : clS ks ns σ) (he : keepS ks ns σ = τ) : WeakM σ τ := (weak_eq ks ns h he).toM
theorem weakM_ghostk {σ τ : S} (t : Nat) (nm : Name) (sz : Nat) (he : σ.env t = ⟨true, .nilsl⟩) (hn : σ.obj nm = none) (ks : List Nat) (ns : List Name)
    (h : clS ks ns ⟨σ.nt, upd σ.env t ⟨true, .msl nm 0⟩, upd σ.obj nm (some (.arr sz [])), σ.pre, σ.base⟩) (hk : keepS ks ns ⟨σ.nt, upd σ.env t ⟨true, .msl nm 0⟩, upd σ.obj nm (some (.arr sz [])), σ.pre, σ.base⟩ = τ) : WeakM σ τ :=
  (weak_ghost t nm sz he hn).toM.trans (weakM_keep ks ns h hk)

/-! what is outside of a frame -/
theorem own_out01 (i : Nat) : own [0] [i, 1] = false := by simp [own]
theorem mkS_ifu (n : Nat) (p : Name) (F H : Name → Option O) (x : Name) (o : Option O) (l : List (Nat × E)) (h : List (Name × O)) :
    mkS n p (upd (fun nm => if own p nm = true then F nm else H nm) x o) l h = mkS n p (upd H x o) l h :=
  mkS_same fun nm hn => by
    by_cases e : nm = x
    · subst e; rw [upd_same, upd_same]
    · rw [upd_ne _ _ _ e, upd_ne _ _ _ e]; simp [hn]
theorem OutC_ifu (p : Name) (dom : Name → Bool) (F H : Name → Option O) (x : Name) (o : Option O) :
    OutC p dom (upd (fun nm => if own p nm = true then F nm else H nm) x o) = OutC p dom (upd H x o) := by
  have e : ∀ nm, own p nm = false → upd (fun nm => if own p nm = true then F nm else H nm) x o nm = upd H x o nm := fun nm hn => by
    by_cases e : nm = x
    · subst e; rw [upd_same, upd_same]
    · rw [upd_ne _ _ _ e, upd_ne _ _ _ e]; simp [hn]
  exact propext ⟨fun k nm q hn h => k nm q hn (by rw [e nm hn]; exact h), fun k nm q hn h => k nm q hn (by rw [← e nm hn]; exact h)⟩
theorem upd_upd {α β : Type} [DecidableEq α] (f : α → β) (a : α) (b c : β) : upd (upd f a b) a c = upd f a c := by
  funext x
  by_cases e : x = a
  · subst e; rw [upd_same, upd_same]
  · rw [upd_ne _ _ _ e, upd_ne _ _ _ e, upd_ne _ _ _ e]
theorem beq10 : (([1] : List Nat) == [0]) = false := rfl
theorem beqn0 : (([] : List Nat) == [0]) = false := rfl
theorem toArr_none {α : Type} : (none : Option α).toArray.toList = [] := rfl
theorem toArr_some {α : Type} (a : α) : (some a).toArray.toList = [a] := rfl
theorem toNat0 : Int.toNat 0 = 0 := rfl
theorem take_drop_all {α : Type} (L : List α) (i : Nat) : List.take (L.length - i) (L.drop i) = L.drop i := List.take_of_length_le (by simp)
theorem take_drop_map {α β : Type} (f : α → β) (L : List α) (i : Nat) : List.take (L.length - i) ((L.map f).drop i) = (L.map f).drop i := List.take_of_length_le (by simp)
attribute [go_sem] toArr_none toArr_some toNat0 take_drop_all take_drop_map Nat.sub_zero beq10 beqn0 own_out01 mkS_ifu OutC_ifu upd_upd

end Go.Eng
/- The engine's text of rows built in place that are the frame's own (and may grow). -/
namespace Go.Eng
open Go

def aBuildM (P : Program) (obj : Name → Option O) (t : Name) (T : TypeId) (n : Nat) (parts : List (Nat × D)) : R :=
  match tElem P T with
  | some (e, sz, _) =>
    ⟨parts.map (·.1) = List.range n ∧ (frzL (frz 4) obj (parts.map (·.2))).ok ∧ (∀ x ∈ (frzL (frz 4) obj (parts.map (·.2))).xs, x.cells.length = sz ∧ x.okc = true) ∧
        n * sz ≤ 16777216 ∧ sz ≠ 0 ∧ (tZero P e).isSome = true ∧ 0 < n ∧ (frzL (frz 4) obj (parts.map (·.2))).obj (nmO t) = none,
      .msl (nmO t) n, upd (frzL (frz 4) obj (parts.map (·.2))).obj (nmO t) (some (.arr sz (frzL (frz 4) obj (parts.map (·.2))).xs))⟩
  | none => .bad obj

/-- The operations, with rows of the frame's own. -/
def aopM (P : Program) (Γ : FuncId → Option Spec) (σ : S) (t : Name) : Op → R
  | .buildSlice T n ps => aBuildM P σ.obj t T n (ps.toList.map fun p => (p.1, opD σ p.2))
  | o => aop P Γ σ t o
def stepM (P : Program) (Γ : FuncId → Option Spec) (ops : Array Oper) (σ : S) (o : Oper) : S :=
  ⟨σ.nt, match o.dst with
    | some t => upd σ.env t ⟨gOf ops σ o, (aopM P Γ σ ((σ.base + t) :: σ.pre) o.op).d⟩
    | none => σ.env, if gOf ops σ o = true then (aopM P Γ σ ((σ.base + o.dst.getD 0) :: σ.pre) o.op).obj else σ.obj, σ.pre, σ.base⟩
def oblM (P : Program) (Γ : FuncId → Option Spec) (ops : Array Oper) (σ : S) (o : Oper) : Prop :=
  gOk ops σ o ∧ (match o.dst with | some t => t < σ.nt | none => True) ∧ (gOf ops σ o = true → opConds σ o.op = true ∧ (aopM P Γ σ ((σ.base + o.dst.getD 0) :: σ.pre) o.op).ok)
def RegM (P : Program) (Γ : FuncId → Option Spec) (ops : Array Oper) : List Oper → S → (S → Prop) → Prop
  | [], σ, K => K σ
  | o :: r, σ, K => oblM P Γ ops σ o ∧ RegM P Γ ops r (stepM P Γ ops σ o) K

attribute [go_sem] RegM oblM stepM aopM aBuildM List.cons_beq_cons

end Go.Eng
/- The engine's text of Clone over numbers, as a function of data. -/
namespace Go.Eng
open Go Go.RowKit

theorem psound_of {P : Program} {f : FuncId} {s : Spec} {p : PSpec} (hs : SSound P f s) (hne : f ≠ yid) (hfl : p.flat = true → ∀ xs, p.pre xs → (p.fn xs).flat = true)
    (h : ∀ xs, p.pre xs → (s.app (fun _ => none) [0, 0] (xs.map .v)).ok ∧ (frz 6 (s.app (fun _ => none) [0, 0] (xs.map .v)).obj (s.app (fun _ => none) [0, 0] (xs.map .v)).d).ok ∧
      (frz 6 (s.app (fun _ => none) [0, 0] (xs.map .v)).obj (s.app (fun _ => none) [0, 0] (xs.map .v)).d).x = p.fn xs) : PSound P f p := by
  refine ⟨hne, hs.enter hne, hfl, fun m w xs args hm hx hp => ?_⟩
  obtain ⟨h1, h2, h3⟩ := h xs hp
  have hsz : xs.length = args.size := by simpa using hx.1
  have hobj : (mkS args.size [0] (fun _ => none) (argsL 0 xs) []).obj = fun _ => none := by
    funext nm
    simp [mkS, ofL]
  have hC : Conc ⟨w, m, fun _ => False, none, fun _ => ⟨0, 0, 0, true, none⟩, fun _ => none, fun _ h => by cases h⟩ (fun _ => ⟨0, 0, 0, true, none⟩) m (mkS args.size [0] (fun _ => none) (argsL 0 xs) []) { tmps := args, defers := [] } w := by
    constructor
    · intro t
      show RepE _ _ m (ofL eAny (argsL 0 xs) t) _
      rcases ofL_cases (z := eAny) (argsL 0 xs) t with h1 | h1
      · rw [h1]; unfold RepE eAny; simp; exact .any _
      · obtain ⟨i, hi, h2, h3⟩ := argsL_mem h1
        rw [h3]
        unfold RepE
        simp only [if_true]
        have hi' : i < args.size := by omega
        have e : (args.getD t undef) = args[i] := by
          rw [h2]
          simp [Array.getD, hi']
        rw [e]
        exact .v _ _ (by have := hx.2 i hi (by simpa using hi'); rw [Array.getElem_toList] at this; exact this)
    · rfl
    · exact ⟨[], rfl, by simp, by simp⟩
    · intro nm o h; simp [mkS, ofL] at h
    · exact hm
    · rintro nm ⟨o, h, _⟩; simp [mkS, ofL] at h
    · rintro nm nm' ⟨o, h, _⟩; simp [mkS, ofL] at h
    · rintro nm ⟨o, h, _⟩; simp [mkS, ofL] at h
    · exact ⟨rfl, rfl, rfl, Nat.le_refl _, fun _ _ _ => rfl⟩
    · intro b off v h; exact .inl h
    · exact ⟨fun _ _ h => (by cases h), fun _ _ h => (by cases h)⟩
  refine (hs.calls hne _ _ m _ _ w hC [0, 0] (xs.map .v) args ⟨0, rfl⟩ (by simpa using hsz) (fun i a b => ?_) (by rw [hobj]; exact h1)).mono ?_
  · simp only [List.getElem_map]
    have := hx.2 i (by simpa using a) (by simpa using b)
    rw [Array.getElem_toList] at this
    exact .v _ _ this
  · rintro e w' ⟨v, φ', m', rfl, h4, h5, _⟩
    rw [hobj] at h4 h5
    obtain ⟨m2, h6, h7, _, h8, _⟩ := frz_ok 6 _ _ _ _ _ _ h4 _ _ h5 h2
    refine ⟨v, fun b off => match m2 b off with | some c => some c | none => m b off, rfl, ?_, ?_, ?_, ?_⟩
    · exact ⟨h4.fr.os, h4.fr.tape, h4.fr.output, h4.fr.size, fun k hk => h4.fr.block k hk (fun h => h)⟩
    · intro b off c hc
      show (match m2 b off with | some c => some c | none => m b off) = some c
      cases hm2 : m2 b off with
      | none => exact hc
      | some c' =>
        have k1 := h7.mem b off c' hm2
        have k2 := hm b off c hc
        have hlt := cell?_lt k2
        rw [cell?_block (h4.fr.block b hlt (fun h => h))] at k1
        rw [k2] at k1
        exact k1.symm
    · intro b off c hc
      have hc' : (match m2 b off with | some c => some c | none => m b off) = some c := hc
      cases hm2 : m2 b off with
      | none => rw [hm2] at hc'; exact .inl hc'
      | some c' =>
        rw [hm2] at hc'
        simp only [Option.some.injEq] at hc'
        subst hc'
        rcases h7.fresh b off c' hm2 with h | h | h
        · exact .inl h
        · exact .inr ⟨h, h7.mem b off c' hm2⟩
        · exact h.elim
    · rw [← h3]
      refine h8.mono fun b off c hc => ?_
      show (match m2 b off with | some c => some c | none => m b off) = some c
      rw [hc]

def isI64 : V → Bool
  | .int .i64 _ => true
  | _ => false
theorem isI64_ok {y : V} (h : isI64 y = true) : y.cells.length = 1 ∧ y.okc = true := by
  cases y with
  | int k n => exact ⟨rfl, rfl⟩
  | _ => cases h
/-- Clone over numbers: the same numbers. -/
def pCloneI : PSpec := ⟨fun xs => ∃ l, xs = [.sl l] ∧ l.all isI64 = true ∧ l.length ≤ 1000, fun xs => xs.headD default, false⟩
theorem cloneI_sound {P : Program} {f T E : Nat} {Z : Value} (L : CloneLaw P f T E 1 8 Z) (hz : Z.cells.size = 1) : PSound P f pCloneI := by
  refine psound_of (clone_sound L) L.ne (fun h => by cases h) ?_
  rintro xs ⟨l, rfl, hl, hn⟩
  simp only [cloneSpec, List.map_cons, List.map_nil, pCloneI, List.headD_cons]
  cases l with
  | nil => exact ⟨trivial, trivial, rfl⟩
  | cons y r =>
    have hall : ∀ z ∈ y :: r, z.cells.length = 1 ∧ z.okc = true := fun z hz => isI64_ok (List.all_eq_true.1 hl z hz)
    have e : aClone P (fun _ => none) [0, 0] T (.v (.sl (y :: r))) = aAppend P (fun _ => none) [0, 0] T T .nilsl (.v (.sl (y :: r))) := rfl
    rw [e]
    have hn' : (y :: r).length * 8 ≤ 140737488355328 := by omega
    have hm' : (y :: r).length ≤ maxLen := by unfold maxLen; omega
    simp only [aAppend, L.tE, L.tZ, srcL, frz, upd_same, nmO]
    exact ⟨⟨trivial, hall, hz, hn', hm', trivial⟩, trivial, trivial⟩
noncomputable def cloneI : SpecB where
  spec := pCloneI.toSpec
  run _ _ ds := match ds with
    | [.v (.sl l)] => cond (l.all isI64 && Nat.ble l.length 1000) (some ⟨.v (.sl l), [], [], fun t => t⟩) none
    | [.nilsl] => some ⟨.v (.sl []), [], [], fun t => t⟩
    | _ => none
  ok := by
    intro obj t ds r hr
    split at hr
    · rename_i l
      cases hb : (l.all isI64 && Nat.ble l.length 1000) with
      | false => rw [hb] at hr; cases hr
      | true =>
        rw [hb] at hr
        cases hr
        simp only [Bool.and_eq_true] at hb
        refine ⟨?_, rfl, rfl, rfl, fun tbl h => h⟩
        exact ⟨⟨trivial, trivial⟩, l, rfl, hb.1, Nat.le_of_ble_eq_true hb.2⟩
    · cases hr
      refine ⟨?_, rfl, rfl, rfl, fun tbl h => h⟩
      exact ⟨⟨trivial, trivial⟩, [], rfl, rfl, Nat.zero_le _⟩
    · cases hr
end Go.Eng
/- The engine's text of a box that holds no slice yet. -/
namespace Go.Eng
open Go

end Go.Eng
/- Clone whose row has a name, be it empty or not. -/
namespace Go.Eng
open Go Go.RowKit

def aCloneG (P : Program) (obj : Name → Option O) (t : Name) (T : TypeId) (x : D) : R := aAppend P obj t T T .nilsl x
def cloneG (P : Program) (T : TypeId) : Spec where
  app obj t ds := match ds with | [x] => aCloneG P obj t T x | _ => .bad obj
  foot obj t ds := match ds with | [x] => tops .nilsl ++ tops x ++ [nmO t] | _ => []
  wrt obj t ds := match ds with | [x] => tops .nilsl ++ tops x ++ [nmO t] | _ => []
theorem like_cloneG {P : Program} {obj obj2 : Name → Option O} {t : Name} {T : TypeId} {x : D} (h : Agr (tops .nilsl ++ tops x ++ [nmO t]) obj obj2) :
    Like (aCloneG P obj t T x) (aCloneG P obj2 t T x) obj obj2 (tops .nilsl ++ tops x ++ [nmO t]) := like_append (P := P) (obj := obj) (obj2 := obj2) (t := t) (T1 := T) (T2 := T) (s := .nilsl) (x := x) h
theorem cloneG_near (P : Program) (T : TypeId) : (cloneG P T).Near := by
  refine ⟨fun obj obj2 t ds h => ?_, fun obj obj2 t ds h => rfl, fun obj t ds nm hn => hn, fun obj obj2 t ds h => rfl⟩
  simp only [cloneG] at h ⊢
  split at h
  · exact like_cloneG h
  · rename_i hds
    exact .none _ (fun _ h => by cases h)
theorem ghostC {G : Ghost} {φ : Name → Loc} {m : Mem} {σ : S} {a : Act} {w : World} (hC : Conc G φ m σ a w) {v : Value} (hv : RepD φ σ.obj m .nilsl v) {nm : Name} (hn : σ.obj nm = none) (sz : Nat) :
    ∃ φ', Conc G φ' m { σ with obj := upd σ.obj nm (some (.arr sz [])) } a w ∧ RepD φ' (upd σ.obj nm (some (.arr sz []))) m (.msl nm 0) v ∧ Ext φ φ' σ.obj (upd σ.obj nm (some (.arr sz []))) := by
  cases hv with
  | nilsl b' =>
  have hx := Ext.new (φ := φ) hn ⟨0, 0, 0, true, b'⟩ (.arr sz [])
  refine ⟨_, hC.chg (w' := w) nm (.arr sz []) ⟨0, 0, 0, true, b'⟩ hx ⟨rfl, rfl, rfl, Nat.le_refl _⟩ (fun _ _ _ => rfl) (fun h => by cases h) (.inl ⟨rfl, rfl⟩), ?_, hx⟩
  refine .msl _ _ _ ⟨_, _, upd_same _ _ _, rfl, by simp, fun _ => ?_⟩ rfl
  rw [upd_same]; rfl
theorem cloneG_sound {P : Program} {f T E K BY : Nat} {Z : Value} (L : CloneLaw P f T E K BY Z) : SSound P f (cloneG P T) := by
  have hs := clone_sound L
  refine ⟨cloneG_near P T, hs.enter, fun hne G φ m σ a w hC t ds us ht hl hr hok => ?_, fun e => (L.ne e).elim⟩
  match ds, hl, hr, hok with
  | [], _, _, hok => exact hok.elim
  | _ :: _ :: _, _, _, hok => exact hok.elim
  | [x], hl, hr, hok =>
    have hok' : (aAppend P σ.obj t T T .nilsl x).ok := hok
    have hcl : (cloneSpec P T).app σ.obj t [x] = aClone P σ.obj t T x := rfl
    have hg : (cloneG P T).app σ.obj t [x] = aAppend P σ.obj t T T .nilsl x := rfl
    rw [hg]
    cases hl2 : (srcL σ.obj x).2 with
    | cons y r =>
      have e : aClone P σ.obj t T x = aAppend P σ.obj t T T .nilsl x := by unfold aClone; rw [hl2]
      have := hs.calls hne G φ m σ a w hC t [x] us ht hl hr (by rw [hcl, e]; exact hok')
      rw [hcl, e] at this
      exact this
    | nil =>
      have e : aClone P σ.obj t T x = ⟨(srcL σ.obj x).1, .nilsl, σ.obj⟩ := by unfold aClone; rw [hl2]
      have hT := L.tE
      have hZ := L.tZ
      have ha : aAppend P σ.obj t T T .nilsl x = ⟨(srcL σ.obj x).1 ∧ (∀ y ∈ (srcL σ.obj x).2, y.cells.length = K ∧ y.okc = true) ∧ Z.cells.size = K ∧ (srcL σ.obj x).2.length * BY ≤ 140737488355328 ∧ (srcL σ.obj x).2.length ≤ maxLen ∧ σ.obj (nmO t) = none,
          .msl (nmO t) (srcL σ.obj x).2.length, upd σ.obj (nmO t) (some (.arr K (srcL σ.obj x).2))⟩ := by
        simp only [aAppend, hT, hZ]
      rw [ha, hl2] at hok'
      rw [ha, hl2]
      have := hs.calls hne G φ m σ a w hC t [x] us ht hl hr (by rw [hcl, e]; exact hok'.1)
      rw [hcl, e] at this
      refine this.mono ?_
      rintro e' w' ⟨v, φ', m', rfl, h1, h2, h3⟩
      obtain ⟨φ2, k1, k2, k3⟩ := ghostC h1 h2 hok'.2.2.2.2.2 K
      exact ⟨v, φ2, m', rfl, k1, k2, h3.trans k3⟩
attribute [go_sem] cloneG aCloneG srcL

end Go.Eng
/- A box's empty slice gets a name. -/
namespace Go.Eng
open Go
theorem weak_ghostI {σ : S} (b nm : Name) (i sz : Nat) (cs : List D) (hb : σ.obj b = some (.box cs)) (hi : cs[i]? = some .nilsl) (hn : σ.obj nm = none) :
    Weak σ ⟨σ.nt, σ.env, upd (upd σ.obj nm (some (.arr sz []))) b (some (.box (cs.set i (.msl nm 0)))), σ.pre, σ.base⟩ := by
  intro G φ m a w hC
  have hne : b ≠ nm := fun e => by subst e; rw [hb] at hn; cases hn
  obtain ⟨h1, h2, h3, us, T, f, h4, h5, h6, h7⟩ := hC.objs b _ hb
  obtain ⟨hil, hie⟩ := List.getElem?_eq_some_iff.1 hi
  have h0 : i < us.size := by omega
  have h8 := h7 i hil h0
  rw [hie] at h8
  generalize hu : us[i] = u at h8
  cases h8 with
  | nilsl b' =>
  have hx := Ext.new (φ := φ) hn ⟨0, 0, 0, true, b'⟩ (.arr sz [])
  have hC' := hC.chg (w' := w) nm (.arr sz []) ⟨0, 0, 0, true, b'⟩ hx ⟨rfl, rfl, rfl, Nat.le_refl _⟩ (fun _ _ _ => rfl) (fun h => by cases h) (.inl ⟨rfl, rfl⟩)
  have hb' : (upd σ.obj nm (some (.arr sz []))) b = some (.box cs) := by rw [upd_ne _ _ _ hne]; exact hb
  have hφ : (upd φ nm ⟨0, 0, 0, true, b'⟩) b = φ b := upd_ne _ _ _ hne
  have hx2 := Ext.same (φ := upd φ nm ⟨0, 0, 0, true, b'⟩) (o' := .box (cs.set i (.msl nm 0))) hb' rfl rfl
  refine ⟨_, hC'.chg (w' := w) b (.box (cs.set i (.msl nm 0))) _ hx2 ⟨rfl, rfl, rfl, Nat.le_refl _⟩ (fun _ _ _ => rfl) (fun _ => .inr ⟨⟨_, hb', rfl, by rw [hφ]; exact h2⟩, rfl⟩) ?_⟩
  rw [upd_id, hφ]
  have hnm : (upd (upd σ.obj nm (some (.arr sz []))) b (some (.box (cs.set i (.msl nm 0))))) nm = some (.arr sz []) := by rw [upd_ne _ _ _ hne.symm, upd_same]
  refine ⟨h1, h2, fun d hd => ?_, us, T, f, h4, h5, by simpa using h6, fun j hj hj' => ?_⟩
  · rcases List.mem_or_eq_of_mem_set hd with h | h
    · exact h3 d h
    · subst h; rfl
  · simp only [List.length_set] at hj
    rw [List.getElem_set]
    by_cases hij : i = j
    · subst hij
      rw [if_pos rfl, hu]
      refine .msl _ _ _ ⟨_, _, hnm, rfl, by simp, fun _ => ?_⟩ rfl
      rw [upd_same]; rfl
    · rw [if_neg hij]
      have := h7 j hj hj'
      exact (this.ext (Mem.le_refl m) hx).ext (Mem.le_refl m) (by rw [upd_id] at hx2; exact hx2)
theorem weakM_ghostI {σ τ : S} (b nm : Name) (i sz : Nat) (cs : List D) (hb : σ.obj b = some (.box cs)) (hi : cs[i]? = some .nilsl) (hn : σ.obj nm = none) (ks : List Nat) (ns : List Name)
    (h : clS ks ns ⟨σ.nt, σ.env, upd (upd σ.obj nm (some (.arr sz []))) b (some (.box (cs.set i (.msl nm 0)))), σ.pre, σ.base⟩)
    (hk : keepS ks ns ⟨σ.nt, σ.env, upd (upd σ.obj nm (some (.arr sz []))) b (some (.box (cs.set i (.msl nm 0)))), σ.pre, σ.base⟩ = τ) : WeakM σ τ :=
  (weak_ghostI b nm i sz cs hb hi hn).toM.trans (weakM_keep ks ns h hk)
/-- Plain data, one by one. -/
def asVs : List D → Option (List V)
  | [] => some []
  | d :: r => match asV d, asVs r with
    | some x, some xs => some (x :: xs)
    | _, _ => none
theorem asVs_len : ∀ {ds : List D} {xs : List V}, asVs ds = some xs → xs.length = ds.length
  | [], xs, h => by cases h; rfl
  | d :: r, xs, h => by
    unfold asVs at h
    split at h
    · rename_i h2
      cases h
      simp [asVs_len h2]
    · cases h
theorem asVs_rep {φ : Name → Loc} {obj : Name → Option O} {m : Mem} : ∀ {ds : List D} {xs : List V}, asVs ds = some xs → ∀ (i : Nat) (h : i < ds.length) (h' : i < xs.length) (u : Value), RepD φ obj m ds[i] u → RepV m xs[i] u
  | [], xs, h, i, hi, _, _, _ => by simp at hi
  | d :: r, xs, h, i, hi, hi', u, hr => by
    unfold asVs at h
    split at h
    · rename_i x ys h1 h2
      cases h
      cases i with
      | zero => exact asV_rep hr h1
      | succ i => exact asVs_rep h2 i (by simpa using hi) (by simpa using hi') u hr
    · cases h
theorem near_fw {app : (Name → Option O) → Name → List D → R} {foot : (Name → Option O) → Name → List D → List Name}
    (h : ∀ obj obj2 t ds, Agr (foot obj t ds) obj obj2 → foot obj2 t ds = foot obj t ds ∧ Like (app obj t ds) (app obj2 t ds) obj obj2 (foot obj t ds)) : Spec.Near ⟨app, foot, foot⟩ :=
  ⟨fun obj obj2 t ds ha => (h obj obj2 t ds ha).2, fun obj obj2 t ds ha => (h obj obj2 t ds ha).1, fun _ _ _ _ hn => hn, fun obj obj2 t ds ha => (h obj obj2 t ds ha).1⟩
/-- The same contract in other words. -/
theorem ssound_eq {P : Program} {f : FuncId} {s s' : Spec} (h : SSound P f s) (hn : s'.Near) (hne : f ≠ yid)
    (heq : ∀ obj t ds, (s'.app obj t ds).ok → ∃ ds', ds'.length = ds.length ∧ (∀ (φ : Name → Loc) (m : Mem) (us : Array Value), ds.length = us.size → (∀ i (h : i < ds.length) (h' : i < us.size), RepD φ obj m ds[i] us[i]) → ∀ i (h : i < ds'.length) (h' : i < us.size), RepD φ obj m ds'[i] us[i]) ∧
      (s.app obj t ds').ok ∧ (s.app obj t ds').d = (s'.app obj t ds).d ∧ (s.app obj t ds').obj = (s'.app obj t ds).obj) : SSound P f s' := by
  refine ⟨hn, h.enter, fun hne G φ m σ a w hC t ds us ht hl hr hok => ?_, fun e => (hne e).elim⟩
  obtain ⟨ds', h0, hr', h1, h2, h3⟩ := heq _ _ _ hok
  have := h.calls hne G φ m σ a w hC t ds' us ht (h0.trans hl) (hr' φ m us hl hr) h1
  rw [h2, h3] at this
  exact this

/-! contracts that make new objects out of plain data -/
structure NSpec where
  pre : List V → Prop
  new : List V → List (Name × O)
  d : List V → D
def NSpec.app (s : NSpec) (obj : Name → Option O) (t : Name) (ds : List D) : R := match asVs ds with
  | some xs => ⟨fresh obj t (s.new xs) = true ∧ s.pre xs, (s.d xs).ren (cout [] t), putN [] t (s.new xs) obj⟩
  | none => .bad obj
def NSpec.foot (s : NSpec) (_ : Name → Option O) (t : Name) (ds : List D) : List Name := match asVs ds with
  | some xs => (s.new xs).map fun x => x.1 ++ t
  | none => []
def NSpec.toSpec (s : NSpec) : Spec := ⟨s.app, s.foot, s.foot⟩
def NSpec.c (s : NSpec) : CSpec where
  pre := fun os ds => os = [] ∧ ∃ xs, ds = xs.map .v ∧ s.pre xs
  out := fun _ ds => match asVs ds with
    | some xs => ⟨[], s.new xs, s.d xs⟩
    | none => ⟨[], [], .any⟩
theorem asVs_map : ∀ xs : List V, asVs (xs.map .v) = some xs
  | [] => rfl
  | x :: r => by simp [asVs, asV, asVs_map r]
theorem NSpec.near (s : NSpec) : s.toSpec.Near := by
  refine near_fw fun obj obj2 t ds ha => ⟨rfl, ?_⟩
  unfold NSpec.foot at ha ⊢
  unfold NSpec.app
  split
  · rename_i xs h
    simp only [h] at ha
    have hfr : fresh obj2 t (s.new xs) = fresh obj t (s.new xs) := fresh_agr ha
    have := like_put (ok := fresh obj t (s.new xs) = true ∧ s.pre xs) (ok2 := fresh obj2 t (s.new xs) = true ∧ s.pre xs) (d := (s.d xs).ren (cout [] t)) (obj := obj) (obj2 := obj2) (L := []) (t := t) (o := ⟨[], s.new xs, s.d xs⟩) (by rw [hfr]) (by simpa using ha)
    simpa [putU] using this
  · exact .none _ (fun _ h => by cases h)
theorem namesL_v : ∀ xs : List V, namesL (xs.map .v) = []
  | [] => rfl
  | x :: r => by simp only [List.map_cons, namesL, namesD, List.nil_append]; exact namesL_v r
theorem reach_v (obj : Name → Option O) (xs : List V) : reach obj (xs.map .v) = [] := by
  unfold reach
  rw [namesL_v]
  rfl
theorem renL_v (f : Name → Name) : ∀ xs : List V, D.renL f (xs.map .v) = xs.map .v
  | [] => rfl
  | x :: r => by simp only [List.map_cons, D.renL, D.ren]; rw [renL_v f r]
theorem closL_v (p : Name → Bool) : ∀ xs : List V, D.closL p (xs.map .v) = true
  | [] => rfl
  | x :: r => by simp only [List.map_cons, D.closL, D.clos, Bool.true_and]; exact closL_v p r
theorem NSpec.sound {P : Program} {f : FuncId} {s : NSpec} (h : SSound P f s.c.toSpec) (hne : f ≠ yid) : SSound P f s.toSpec := by
  refine ssound_eq h s.near hne fun obj t ds hok => ?_
  have hok' : (s.app obj t ds).ok := hok
  show ∃ ds', _ ∧ _ ∧ _ ∧ _ = (s.app obj t ds).d ∧ _ = (s.app obj t ds).obj
  unfold NSpec.app at hok' ⊢
  split at hok'
  · rename_i xs hx
    have hlen := asVs_len hx
    refine ⟨xs.map .v, by simpa using hlen, fun φ m us hl hr i h1 h2 => ?_, ?_⟩
    · simp only [List.length_map] at h1
      simp only [List.getElem_map]
      exact .v _ _ (asVs_rep hx i (by omega) h1 _ (hr i (by omega) h2))
    · have e1 : cOs obj (xs.map .v) = [] := by unfold cOs; rw [reach_v]; rfl
      have e2 : cDs obj (xs.map .v) = xs.map .v := by unfold cDs; rw [renL_v]
      have e3 : s.c.out [] (xs.map .v) = ⟨[], s.new xs, s.d xs⟩ := by simp only [NSpec.c, asVs_map]
      have e4 : s.c.pre [] (xs.map .v) := ⟨rfl, xs, rfl, hok'.2⟩
      have e5 : (shut obj [] && D.closL (inL []) (xs.map .v) && fresh obj t (s.new xs)) = true := by
        rw [closL_v, hok'.1]; rfl
      simp only [CSpec.toSpec, e1, e2, reach_v, e3, e4, e5, and_self, putU]
  · exact hok'.elim
/-- A walk proves it. -/
theorem nsound {P : Program} {f : FuncId} {fn : Func} {c : Code} {s : NSpec} {nt : Nat} {rs : List ResultVar} (hf : P.funcs[f]? = some fn) (hb : fn.body = some c) (hnt : fn.ntmps = nt) (hrs : fn.results.toList = rs)
    (hn : (fn.name == "runtime.NumGoroutine") = false) (hy : f < 1000000000)
    (h : ∀ xs, s.pre xs → xs.length ≤ nt ∧ CL P [c] (mkS nt [0] (fun _ => none) (argsD 0 (xs.map .v)) []) (retC P rs [] ⟨[], s.new xs, s.d xs⟩)) : SSound P f s.toSpec := by
  have hne : f ≠ yid := Nat.ne_of_lt (show f < yid from hy)
  refine NSpec.sound (csound hf hb hnt hrs (enter_of hf hb hn) hne ?_) hne
  rintro os ds ⟨rfl, xs, rfl, hp⟩
  obtain ⟨h1, h2⟩ := h xs hp
  have hH : outH [] = fun _ => none := by funext nm; unfold outH; split <;> rfl
  have e3 : s.c.out [] (xs.map .v) = ⟨[], s.new xs, s.d xs⟩ := by simp only [NSpec.c, asVs_map]
  rw [hH, e3]
  exact ⟨by simpa using h1, cl_of h2⟩
end Go.Eng
/- The engine's text of what walks say again and again: contracts over data that are encoded, closings, tables. -/
namespace Go.Eng
open Go
attribute [go_sem] Nat.reduceLeDiff Nat.le_refl Nat.reduceLT Nat.reduceAdd Nat.reduceEqDiff Nat.reduceSub Nat.reduceMul Nat.reduceBEq reduceIte reduceCtorEq

abbrev vInt (n : Int) : V := .int .i64 n
theorem lb {a b : Nat} (h : Nat.ble a b = true) : a ≤ b := Nat.le_of_ble_eq_true h
theorem sq {P : Program} {x y : Code} {r : List Code} {σ : S} {K : Exit → S → Prop} (h : CL P (x :: y :: r) σ K) : CL P (.seq x y :: r) σ K := cl_seq h
theorem ob {p : Prop} (h : p := by first | exact Bool.or_not_self _ | trivial | (unfold maxLen; omega) | exact Bool.not_or_self _ | exact fun _ => by decide | exact fun h => ⟨h, by decide⟩ | omega | ((repeat' apply And.intro) <;> first | rfl | omega | (unfold maxLen; omega) | trivial) | (simp only [decide_eq_true_eq]; omega) | exact ⟨_, rfl⟩ | exact fun h => ⟨h, _, rfl⟩ | exact ⟨_, _, rfl⟩ | exact fun h => ⟨h, _, _, rfl⟩ | exact fun h => ⟨h, _, _, _, rfl⟩ | exact ⟨_, _, _, _, rfl⟩ | exact fun h => ⟨h, _, _, _, _, rfl⟩ | exact ⟨[_, _], rfl⟩ | (simp only [Bool.decide_and, Bool.decide_eq_true]; exact Bool.not_or_self _) | (simp; done) | (simp_all; done) | (simp_all; omega) | (grind)) : p := h
theorem rs {P : Program} {Γ : FuncId → Option Spec} (hΓ : ∀ f s, Γ f = some s → SSound P f s) {id : Nat} {l : List Oper} {c : Code} {r : List Code} {σ τ : S} {K : Exit → S → Prop} (ks : List Nat) (ns : List Name) (h : CL P (c :: r) τ K)
    (h' : ∀ K' : S → Prop, (∀ σ', clS ks ns σ' → keepS ks ns σ' = τ → K' σ') → Reg P Γ l.toArray l σ K' := by intro K' hK; simp only [go_sem]; (repeat (refine ⟨ob, ?_⟩)); exact hK _ (by simp only [go_sem]) (by simp only [go_sem] <;> rfl)) : CL P (.region id l.toArray false :: c :: r) σ K :=
  cl_rs hΓ ks ns fun K' hK => h' K' fun σ' hc he => hK σ' hc (he ▸ h)
theorem rx {P : Program} {Γ : FuncId → Option Spec} (hΓ : ∀ f s, Γ f = some s → SSound P f s) {id : Nat} {l : List Oper} {c : Code} {r : List Code} {σ τ : S} {K : Exit → S → Prop} (ks : List Nat) (ns : List Name)
    (h' : ∀ K' : S → Prop, (∀ σ', clS ks ns σ' → keepS ks ns σ' = τ → K' σ') → Reg P Γ l.toArray l σ K') (h : CL P (c :: r) τ K) : CL P (.region id l.toArray false :: c :: r) σ K :=
  cl_rs hΓ ks ns fun K' hK => h' K' fun σ' hc he => hK σ' hc (he ▸ h)
theorem dx {P : Program} {Γ : FuncId → Option Spec} (hΓ : ∀ f s, Γ f = some s → SSound P f s) (hP : P.follows .mixedOrders = true) (az : List (List Nat)) {id : Nat} {l : List Oper} {c : Code} {r : List Code} {σ τ : S} {K : Exit → S → Prop} (ks : List Nat) (ns : List Name)
    (hs : statOk l.toArray az = true) (h' : ∀ K' : S → Prop, (∀ σ', clS ks ns σ' → keepS ks ns σ' = τ → K' σ') → RegE P Γ l.toArray 0 az l [] σ K') (h : CL P (c :: r) τ K) : CL P (.region id l.toArray true :: c :: r) σ K :=
  cl_ds hΓ hP az ks ns hs fun K' hK => h' K' fun σ' hc he => hK σ' hc (he ▸ h)
theorem kp {P : Program} {c : Code} {r : List Code} {σ τ : S} {K : Exit → S → Prop} (ks : List Nat) (ns : List Name) (hc : CL P (c :: r) τ K) (h : clS ks ns σ := by simp only [go_sem]) (he : keepS ks ns σ = τ := by simp only [go_sem] <;> rfl) : CL P (c :: r) σ K :=
  cl_keep ks ns h (he ▸ hc)
/-! tables of contracts -/
def tbl : List (Nat × Spec) → FuncId → Option Spec
  | [], _ => none
  | (g, s) :: r, f => if f = g then some s else tbl r f
theorem tn {P : Program} : ∀ f s, tbl [] f = some s → SSound P f s := fun _ _ h => by cases h
theorem tc {P : Program} {g : Nat} {s0 : Spec} {r : List (Nat × Spec)} (h : SSound P g s0) (hr : ∀ f s, tbl r f = some s → SSound P f s) : ∀ f s, tbl ((g, s0) :: r) f = some s → SSound P f s := by
  intro f s hf
  unfold tbl at hf
  split at hf
  · rename_i e
    cases hf
    subst e
    exact h
  · exact hr f s hf
attribute [go_sem] tbl

theorem psoundB {P : Program} {f : FuncId} {fn : Func} {s : PSpec} {nt : Nat} {rs : List ResultVar} (hf : P.funcs[f]? = some fn) (hnt : fn.ntmps = nt) (hrs : fn.results.toList = rs) (hn : (fn.name == "runtime.NumGoroutine") = false) (hy : f < 1000000000)
    (hfl : s.flat = true → ∀ xs, s.pre xs → (s.fn xs).flat = true)
    (hb : ∃ c, fn.body = some c ∧ ∀ xs, s.pre xs → V.wfL xs → xs.length ≤ nt ∧ CL P [c] (mkS nt [0] (fun _ => none) (argsL 0 xs) []) (retK P rs (s.fn xs))) : PSound P f s := by
  obtain ⟨c, hc, h⟩ := hb
  exact psound hf hc hnt hrs (enter_of hf hc hn) (Nat.ne_of_lt (show f < yid from hy)) hfl fun xs hp hw => ⟨(h xs hp hw).1, cl_of (h xs hp hw).2⟩

/-! contracts over data that are encoded -/
structure En (α : Type) where
  enc : α → V
  dec : V → α
def decSl {α : Type} (d : V → α) : V → List α
  | .sl l => l.map d
  | _ => []
def iSl {α : Type} (e : En α) : En (List α) := ⟨fun l => .sl (l.map e.enc), decSl e.dec⟩
/-- A constant (a function, say). -/
def iC (v : V) : En Unit := ⟨fun _ => v, fun _ => ()⟩
def iF (n : Nat) : En Unit := iC (.clo (.func n) [] [])

def p1 {α : Type} (A : En α) (p : α → Prop) (g : α → V) (fl : Bool) : PSpec :=
  ⟨fun xs => match xs with | [x] => A.enc (A.dec x) = x ∧ p (A.dec x) | _ => False, fun xs => match xs with | [x] => g (A.dec x) | _ => .bool false, fl⟩
def p2 {α β : Type} (A : En α) (B : En β) (p : α → β → Prop) (g : α → β → V) (fl : Bool) : PSpec :=
  ⟨fun xs => match xs with | [x, y] => A.enc (A.dec x) = x ∧ B.enc (B.dec y) = y ∧ p (A.dec x) (B.dec y) | _ => False, fun xs => match xs with | [x, y] => g (A.dec x) (B.dec y) | _ => .bool false, fl⟩
def p3 {α β γ : Type} (A : En α) (B : En β) (C : En γ) (p : α → β → γ → Prop) (g : α → β → γ → V) (fl : Bool) : PSpec :=
  ⟨fun xs => match xs with | [x, y, z] => A.enc (A.dec x) = x ∧ B.enc (B.dec y) = y ∧ C.enc (C.dec z) = z ∧ p (A.dec x) (B.dec y) (C.dec z) | _ => False,
   fun xs => match xs with | [x, y, z] => g (A.dec x) (B.dec y) (C.dec z) | _ => .bool false, fl⟩
def p4 {α β γ δ : Type} (A : En α) (B : En β) (C : En γ) (D : En δ) (p : α → β → γ → δ → Prop) (g : α → β → γ → δ → V) (fl : Bool) : PSpec :=
  ⟨fun xs => match xs with | [x, y, z, u] => A.enc (A.dec x) = x ∧ B.enc (B.dec y) = y ∧ C.enc (C.dec z) = z ∧ D.enc (D.dec u) = u ∧ p (A.dec x) (B.dec y) (C.dec z) (D.dec u) | _ => False,
   fun xs => match xs with | [x, y, z, u] => g (A.dec x) (B.dec y) (C.dec z) (D.dec u) | _ => .bool false, fl⟩
theorem p1_elim {α : Type} {A : En α} {p : α → Prop} {g : α → V} {fl : Bool} {xs : List V} (h : (p1 A p g fl).pre xs) : ∃ a, xs = [A.enc a] ∧ p a ∧ (p1 A p g fl).fn xs = g a := by
  unfold p1 at h
  simp only at h
  split at h
  · exact ⟨_, by rw [h.1], h.2, rfl⟩
  · exact h.elim
theorem p2_elim {α β : Type} {A : En α} {B : En β} {p : α → β → Prop} {g : α → β → V} {fl : Bool} {xs : List V} (h : (p2 A B p g fl).pre xs) : ∃ a b, xs = [A.enc a, B.enc b] ∧ p a b ∧ (p2 A B p g fl).fn xs = g a b := by
  unfold p2 at h
  simp only at h
  split at h
  · exact ⟨_, _, by rw [h.1, h.2.1], h.2.2, rfl⟩
  · exact h.elim
theorem p3_elim {α β γ : Type} {A : En α} {B : En β} {C : En γ} {p : α → β → γ → Prop} {g : α → β → γ → V} {fl : Bool} {xs : List V} (h : (p3 A B C p g fl).pre xs) :
    ∃ a b c, xs = [A.enc a, B.enc b, C.enc c] ∧ p a b c ∧ (p3 A B C p g fl).fn xs = g a b c := by
  unfold p3 at h
  simp only at h
  split at h
  · exact ⟨_, _, _, by rw [h.1, h.2.1, h.2.2.1], h.2.2.2, rfl⟩
  · exact h.elim
theorem p4_elim {α β γ δ : Type} {A : En α} {B : En β} {C : En γ} {D : En δ} {p : α → β → γ → δ → Prop} {g : α → β → γ → δ → V} {fl : Bool} {xs : List V} (h : (p4 A B C D p g fl).pre xs) :
    ∃ a b c d, xs = [A.enc a, B.enc b, C.enc c, D.enc d] ∧ p a b c d ∧ (p4 A B C D p g fl).fn xs = g a b c d := by
  unfold p4 at h
  simp only at h
  split at h
  · exact ⟨_, _, _, _, by rw [h.1, h.2.1, h.2.2.1, h.2.2.2.1], h.2.2.2.2, rfl⟩
  · exact h.elim
theorem p1_flat {α : Type} {A : En α} {p : α → Prop} {g : α → V} {fl : Bool} (hg : ∀ a, (g a).flat = true) : (p1 A p g fl).flat = true → ∀ xs, (p1 A p g fl).pre xs → ((p1 A p g fl).fn xs).flat = true := by
  intro _ xs h
  obtain ⟨a, _, _, e⟩ := p1_elim h
  rw [e]; exact hg _
theorem p2_flat {α β : Type} {A : En α} {B : En β} {p : α → β → Prop} {g : α → β → V} {fl : Bool} (hg : ∀ a b, (g a b).flat = true) : (p2 A B p g fl).flat = true → ∀ xs, (p2 A B p g fl).pre xs → ((p2 A B p g fl).fn xs).flat = true := by
  intro _ xs h
  obtain ⟨a, b, _, _, e⟩ := p2_elim h
  rw [e]; exact hg _ _
theorem p3_flat {α β γ : Type} {A : En α} {B : En β} {C : En γ} {p : α → β → γ → Prop} {g : α → β → γ → V} {fl : Bool} (hg : ∀ a b c, (g a b c).flat = true) :
    (p3 A B C p g fl).flat = true → ∀ xs, (p3 A B C p g fl).pre xs → ((p3 A B C p g fl).fn xs).flat = true := by
  intro _ xs h
  obtain ⟨a, b, c, _, _, e⟩ := p3_elim h
  rw [e]; exact hg _ _ _
theorem p4_flat {α β γ δ : Type} {A : En α} {B : En β} {C : En γ} {D : En δ} {p : α → β → γ → δ → Prop} {g : α → β → γ → δ → V} {fl : Bool} (hg : ∀ a b c d, (g a b c d).flat = true) :
    (p4 A B C D p g fl).flat = true → ∀ xs, (p4 A B C D p g fl).pre xs → ((p4 A B C D p g fl).fn xs).flat = true := by
  intro _ xs h
  obtain ⟨a, b, c, d, _, _, e⟩ := p4_elim h
  rw [e]; exact hg _ _ _ _
attribute [go_sem] p1 p2 p3 p4 decSl iSl iC iF PSpec.toSpec yid Option.bind_some Option.bind_none

theorem no_sound {P : Program} : ∀ f s, (fun _ => none : FuncId → Option Spec) f = some s → SSound P f s := fun f s h => by cases h
theorem wrap_pred {n : Nat} (h : ¬ n = 0) (hn : n ≤ maxLen) : IntKind.i64.wrap ((n : Int) - 1) = ((n - 1 : Nat) : Int) := by
  unfold maxLen at hn
  rw [wrap_i64 (by omega) (by omega)]
  omega
theorem getD_at {α : Type} {l : List α} {i : Nat} {z : α} (h : i < l.length) : l.getD i z = l[i] := by
  simp [List.getD, h]
theorem outC_outs {os : List O} (hc : ∀ o ∈ os, ∀ dom : Name → Bool, (∀ i, dom [i, 1] = true) → O.clos dom o = true) (hs : List (Name × O)) : OutC [0] (domOf [0] hs) (outH os) := by
  intro nm o hn h
  unfold outH at h
  split at h
  · rename_i i
    refine hc o (List.mem_of_getElem? h) _ fun i => ?_
    simp only [domOf, own_out01, Bool.not_false, Bool.true_or]
  · cases h
def n1 {α : Type} (A : En α) (p : α → Prop) (new : α → List (Name × O)) (d : α → D) : NSpec :=
  ⟨fun xs => match xs with | [x] => A.enc (A.dec x) = x ∧ p (A.dec x) | _ => False, fun xs => match xs with | [x] => new (A.dec x) | _ => [], fun xs => match xs with | [x] => d (A.dec x) | _ => .any⟩
def n2 {α β : Type} (A : En α) (B : En β) (p : α → β → Prop) (new : α → β → List (Name × O)) (d : α → β → D) : NSpec :=
  ⟨fun xs => match xs with | [x, y] => A.enc (A.dec x) = x ∧ B.enc (B.dec y) = y ∧ p (A.dec x) (B.dec y) | _ => False, fun xs => match xs with | [x, y] => new (A.dec x) (B.dec y) | _ => [], fun xs => match xs with | [x, y] => d (A.dec x) (B.dec y) | _ => .any⟩
theorem n1_elim {α : Type} {A : En α} {p : α → Prop} {new : α → List (Name × O)} {d : α → D} {xs : List V} (h : (n1 A p new d).pre xs) : ∃ a, xs = [A.enc a] ∧ p a ∧ (n1 A p new d).new xs = new a ∧ (n1 A p new d).d xs = d a := by
  unfold n1 at h
  simp only at h
  split at h
  · exact ⟨_, by rw [h.1], h.2, rfl, rfl⟩
  · exact h.elim
attribute [go_sem] n1 n2 NSpec.toSpec NSpec.app asVs putN cout D.ren D.renL O.ren fresh

/-! walks begin -/
section
variable {P : Program} {f : FuncId} {fn : Func} {nt : Nat} {rs : List ResultVar}
theorem w1 {α : Type} {A : En α} {p : α → Prop} {g : α → V} {fl : Bool} (hf : P.funcs[f]? = some fn) (hnt : fn.ntmps = nt) (hrs : fn.results.toList = rs) (hn : (fn.name == "runtime.NumGoroutine") = false) (hy : f < 1000000000)
    (hfl : fl = true → ∀ a, (g a).flat = true) (hb : ∃ c, fn.body = some c ∧ 1 ≤ nt ∧ ∀ a, p a → V.wfL [A.enc a] → CL P [c] (mkS nt [0] (fun _ => none) (argsL 0 [A.enc a]) []) (retK P rs (g a))) : PSound P f (p1 A p g fl) := by
  obtain ⟨c, hc, h1, h⟩ := hb
  refine psoundB hf hnt hrs hn hy (fun e => p1_flat (hfl e) e) ⟨c, hc, fun xs hp hw => ?_⟩
  obtain ⟨a, rfl, hp, hg⟩ := p1_elim hp
  rw [hg]
  exact ⟨h1, h a hp hw⟩
theorem w2 {α β : Type} {A : En α} {B : En β} {p : α → β → Prop} {g : α → β → V} {fl : Bool} (hf : P.funcs[f]? = some fn) (hnt : fn.ntmps = nt) (hrs : fn.results.toList = rs) (hn : (fn.name == "runtime.NumGoroutine") = false) (hy : f < 1000000000)
    (hfl : fl = true → ∀ a b, (g a b).flat = true) (hb : ∃ c, fn.body = some c ∧ 2 ≤ nt ∧ ∀ a b, p a b → V.wfL [A.enc a, B.enc b] → CL P [c] (mkS nt [0] (fun _ => none) (argsL 0 [A.enc a, B.enc b]) []) (retK P rs (g a b))) : PSound P f (p2 A B p g fl) := by
  obtain ⟨c, hc, h1, h⟩ := hb
  refine psoundB hf hnt hrs hn hy (fun e => p2_flat (hfl e) e) ⟨c, hc, fun xs hp hw => ?_⟩
  obtain ⟨a, b, rfl, hp, hg⟩ := p2_elim hp
  rw [hg]
  exact ⟨h1, h a b hp hw⟩
theorem w3 {α β γ : Type} {A : En α} {B : En β} {C : En γ} {p : α → β → γ → Prop} {g : α → β → γ → V} {fl : Bool} (hf : P.funcs[f]? = some fn) (hnt : fn.ntmps = nt) (hrs : fn.results.toList = rs) (hn : (fn.name == "runtime.NumGoroutine") = false) (hy : f < 1000000000)
    (hfl : fl = true → ∀ a b c, (g a b c).flat = true) (hb : ∃ c, fn.body = some c ∧ 3 ≤ nt ∧ ∀ a b d, p a b d → V.wfL [A.enc a, B.enc b, C.enc d] → CL P [c] (mkS nt [0] (fun _ => none) (argsL 0 [A.enc a, B.enc b, C.enc d]) []) (retK P rs (g a b d))) : PSound P f (p3 A B C p g fl) := by
  obtain ⟨c, hc, h1, h⟩ := hb
  refine psoundB hf hnt hrs hn hy (fun e => p3_flat (hfl e) e) ⟨c, hc, fun xs hp hw => ?_⟩
  obtain ⟨a, b, d, rfl, hp, hg⟩ := p3_elim hp
  rw [hg]
  exact ⟨h1, h a b d hp hw⟩
theorem w4 {α β γ δ : Type} {A : En α} {B : En β} {C : En γ} {E : En δ} {p : α → β → γ → δ → Prop} {g : α → β → γ → δ → V} {fl : Bool} (hf : P.funcs[f]? = some fn) (hnt : fn.ntmps = nt) (hrs : fn.results.toList = rs) (hn : (fn.name == "runtime.NumGoroutine") = false) (hy : f < 1000000000)
    (hfl : fl = true → ∀ a b c d, (g a b c d).flat = true) (hb : ∃ c, fn.body = some c ∧ 4 ≤ nt ∧ ∀ a b d e, p a b d e → V.wfL [A.enc a, B.enc b, C.enc d, E.enc e] → CL P [c] (mkS nt [0] (fun _ => none) (argsL 0 [A.enc a, B.enc b, C.enc d, E.enc e]) []) (retK P rs (g a b d e))) : PSound P f (p4 A B C E p g fl) := by
  obtain ⟨c, hc, h1, h⟩ := hb
  refine psoundB hf hnt hrs hn hy (fun e => p4_flat (hfl e) e) ⟨c, hc, fun xs hp hw => ?_⟩
  obtain ⟨a, b, d, e, rfl, hp, hg⟩ := p4_elim hp
  rw [hg]
  exact ⟨h1, h a b d e hp hw⟩
end
open Go Go.Proofs

@[go_sem] theorem ta0 : tAgg Tryz.prog 0 = some (false, 1) := by kernel_rfl
@[go_sem] theorem ta1 : tAgg Tryz.prog 1 = some (false, 1) := by kernel_rfl
@[go_sem] theorem tz1 : tZero Tryz.prog 1 = some .nilFunc := by kernel_rfl
@[go_sem] theorem ta2 : tAgg Tryz.prog 2 = some (false, 1) := by kernel_rfl
@[go_sem] theorem ti2 : tInt Tryz.prog 2 = some .i64 := by kernel_rfl
@[go_sem] theorem tz2 : tZero Tryz.prog 2 = some (.int .i64 0) := by kernel_rfl
@[go_sem] theorem ta3 : tAgg Tryz.prog 3 = some (false, 1) := by kernel_rfl
@[go_sem] theorem ti3 : tInt Tryz.prog 3 = some .i64 := by kernel_rfl
@[go_sem] theorem tz3 : tZero Tryz.prog 3 = some (.int .i64 0) := by kernel_rfl
@[go_sem] theorem ta4 : tAgg Tryz.prog 4 = some (false, 1) := by kernel_rfl
@[go_sem] theorem tz4 : tZero Tryz.prog 4 = some (.bool false) := by kernel_rfl
@[go_sem] theorem ta5 : tAgg Tryz.prog 5 = some (false, 1) := by kernel_rfl
@[go_sem] theorem ti5 : tInt Tryz.prog 5 = some .u8 := by kernel_rfl
@[go_sem] theorem tz5 : tZero Tryz.prog 5 = some (.int .u8 0) := by kernel_rfl
@[go_sem] theorem ta6 : tAgg Tryz.prog 6 = some (false, 1) := by kernel_rfl
@[go_sem] theorem ti6 : tInt Tryz.prog 6 = some .u8 := by kernel_rfl
@[go_sem] theorem tz6 : tZero Tryz.prog 6 = some (.int .u8 0) := by kernel_rfl
@[go_sem] theorem ta7 : tAgg Tryz.prog 7 = some (true, 4) := by kernel_rfl
@[go_sem] theorem tp7 : tPlaces Tryz.prog 7 = some [(0, 1), (1, 1), (2, 1), (3, 1)] := by kernel_rfl
@[go_sem] theorem tz7 : tZero Tryz.prog 7 = some (.agg #[(.int .i64 0), (.int .i64 0), (.bool false), (.int .u8 0)]) := by kernel_rfl
@[go_sem] theorem tf7_0 : tField Tryz.prog 7 0 = some (0, 1, false) := by kernel_rfl
@[go_sem] theorem tf7_1 : tField Tryz.prog 7 1 = some (1, 1, false) := by kernel_rfl
@[go_sem] theorem tf7_2 : tField Tryz.prog 7 2 = some (2, 1, false) := by kernel_rfl
@[go_sem] theorem tf7_3 : tField Tryz.prog 7 3 = some (3, 1, false) := by kernel_rfl
@[go_sem] theorem ta8 : tAgg Tryz.prog 8 = some (true, 4) := by kernel_rfl
@[go_sem] theorem tp8 : tPlaces Tryz.prog 8 = some [(0, 1), (1, 1), (2, 1), (3, 1)] := by kernel_rfl
@[go_sem] theorem tz8 : tZero Tryz.prog 8 = some (.agg #[(.int .i64 0), (.int .i64 0), (.bool false), (.int .u8 0)]) := by kernel_rfl
@[go_sem] theorem tf8_0 : tField Tryz.prog 8 0 = some (0, 1, false) := by kernel_rfl
@[go_sem] theorem tf8_1 : tField Tryz.prog 8 1 = some (1, 1, false) := by kernel_rfl
@[go_sem] theorem tf8_2 : tField Tryz.prog 8 2 = some (2, 1, false) := by kernel_rfl
@[go_sem] theorem tf8_3 : tField Tryz.prog 8 3 = some (3, 1, false) := by kernel_rfl
@[go_sem] theorem ta9 : tAgg Tryz.prog 9 = some (false, 1) := by kernel_rfl
@[go_sem] theorem tl9 : tLen Tryz.prog 9 = some 1 := by kernel_rfl
@[go_sem] theorem tz9 : tZero Tryz.prog 9 = some (.string ⟨#[]⟩) := by kernel_rfl
@[go_sem] theorem ta10 : tAgg Tryz.prog 10 = some (false, 1) := by kernel_rfl
@[go_sem] theorem tl10 : tLen Tryz.prog 10 = some 1 := by kernel_rfl
@[go_sem] theorem tz10 : tZero Tryz.prog 10 = some (.string ⟨#[]⟩) := by kernel_rfl
@[go_sem] theorem ta11 : tAgg Tryz.prog 11 = some (false, 1) := by kernel_rfl
@[go_sem] theorem tl11 : tLen Tryz.prog 11 = some 1 := by kernel_rfl
@[go_sem] theorem tz11 : tZero Tryz.prog 11 = some (.string ⟨#[]⟩) := by kernel_rfl
@[go_sem] theorem ta12 : tAgg Tryz.prog 12 = some (false, 1) := by kernel_rfl
@[go_sem] theorem ti12 : tInt Tryz.prog 12 = some .u64 := by kernel_rfl
@[go_sem] theorem tz12 : tZero Tryz.prog 12 = some (.int .u64 0) := by kernel_rfl
@[go_sem] theorem ta13 : tAgg Tryz.prog 13 = some (true, 2) := by kernel_rfl
@[go_sem] theorem tp13 : tPlaces Tryz.prog 13 = some [(0, 1), (1, 1)] := by kernel_rfl
@[go_sem] theorem tz13 : tZero Tryz.prog 13 = some (.agg #[(.string ⟨#[]⟩), (.int .u64 0)]) := by kernel_rfl
@[go_sem] theorem tf13_0 : tField Tryz.prog 13 0 = some (0, 1, false) := by kernel_rfl
@[go_sem] theorem tf13_1 : tField Tryz.prog 13 1 = some (1, 1, false) := by kernel_rfl
@[go_sem] theorem ta14 : tAgg Tryz.prog 14 = some (true, 2) := by kernel_rfl
@[go_sem] theorem tp14 : tPlaces Tryz.prog 14 = some [(0, 1), (1, 1)] := by kernel_rfl
@[go_sem] theorem tz14 : tZero Tryz.prog 14 = some (.agg #[(.string ⟨#[]⟩), (.int .u64 0)]) := by kernel_rfl
@[go_sem] theorem tf14_0 : tField Tryz.prog 14 0 = some (0, 1, false) := by kernel_rfl
@[go_sem] theorem tf14_1 : tField Tryz.prog 14 1 = some (1, 1, false) := by kernel_rfl
@[go_sem] theorem ta15 : tAgg Tryz.prog 15 = some (false, 1) := by kernel_rfl
@[go_sem] theorem tz15 : tZero Tryz.prog 15 = some (.pointer none) := by kernel_rfl
@[go_sem] theorem ta16 : tAgg Tryz.prog 16 = some (false, 1) := by kernel_rfl
@[go_sem] theorem tz16 : tZero Tryz.prog 16 = some (.pointer none) := by kernel_rfl
@[go_sem] theorem ta17 : tAgg Tryz.prog 17 = some (false, 1) := by kernel_rfl
@[go_sem] theorem tz17 : tZero Tryz.prog 17 = some (.pointer none) := by kernel_rfl
@[go_sem] theorem ta18 : tAgg Tryz.prog 18 = some (true, 1) := by kernel_rfl
@[go_sem] theorem tp18 : tPlaces Tryz.prog 18 = some [(0, 1)] := by kernel_rfl
@[go_sem] theorem tz18 : tZero Tryz.prog 18 = some (.agg #[(.pointer none)]) := by kernel_rfl
@[go_sem] theorem tf18_0 : tField Tryz.prog 18 0 = some (0, 1, false) := by kernel_rfl
@[go_sem] theorem ta19 : tAgg Tryz.prog 19 = some (true, 1) := by kernel_rfl
@[go_sem] theorem tp19 : tPlaces Tryz.prog 19 = some [(0, 1)] := by kernel_rfl
@[go_sem] theorem tz19 : tZero Tryz.prog 19 = some (.agg #[(.pointer none)]) := by kernel_rfl
@[go_sem] theorem tf19_0 : tField Tryz.prog 19 0 = some (0, 1, false) := by kernel_rfl
@[go_sem] theorem ta20 : tAgg Tryz.prog 20 = some (false, 1) := by kernel_rfl
@[go_sem] theorem ta21 : tAgg Tryz.prog 21 = some (false, 1) := by kernel_rfl
@[go_sem] theorem ti21 : tInt Tryz.prog 21 = some .i32 := by kernel_rfl
@[go_sem] theorem tz21 : tZero Tryz.prog 21 = some (.int .i32 0) := by kernel_rfl
@[go_sem] theorem ta22 : tAgg Tryz.prog 22 = some (false, 1) := by kernel_rfl
@[go_sem] theorem te22 : tElem Tryz.prog 22 = some (100, 5, 40) := by kernel_rfl
@[go_sem] theorem tl22 : tLen Tryz.prog 22 = some 0 := by kernel_rfl
@[go_sem] theorem tz22 : tZero Tryz.prog 22 = some (.slice none 0 0) := by kernel_rfl
@[go_sem] theorem ta23 : tAgg Tryz.prog 23 = some (false, 1) := by kernel_rfl
@[go_sem] theorem te23 : tElem Tryz.prog 23 = some (131, 7, 56) := by kernel_rfl
@[go_sem] theorem tl23 : tLen Tryz.prog 23 = some 0 := by kernel_rfl
@[go_sem] theorem tz23 : tZero Tryz.prog 23 = some (.slice none 0 0) := by kernel_rfl
@[go_sem] theorem ta24 : tAgg Tryz.prog 24 = some (true, 3) := by kernel_rfl
@[go_sem] theorem tp24 : tPlaces Tryz.prog 24 = some [(0, 1), (1, 1), (2, 1)] := by kernel_rfl
@[go_sem] theorem tz24 : tZero Tryz.prog 24 = some (.agg #[(.slice none 0 0), (.slice none 0 0), (.slice none 0 0)]) := by kernel_rfl
@[go_sem] theorem tf24_0 : tField Tryz.prog 24 0 = some (0, 1, false) := by kernel_rfl
@[go_sem] theorem tf24_1 : tField Tryz.prog 24 1 = some (1, 1, false) := by kernel_rfl
@[go_sem] theorem tf24_2 : tField Tryz.prog 24 2 = some (2, 1, false) := by kernel_rfl
@[go_sem] theorem ta25 : tAgg Tryz.prog 25 = some (true, 3) := by kernel_rfl
@[go_sem] theorem tp25 : tPlaces Tryz.prog 25 = some [(0, 1), (1, 1), (2, 1)] := by kernel_rfl
@[go_sem] theorem tz25 : tZero Tryz.prog 25 = some (.agg #[(.slice none 0 0), (.slice none 0 0), (.slice none 0 0)]) := by kernel_rfl
@[go_sem] theorem tf25_0 : tField Tryz.prog 25 0 = some (0, 1, false) := by kernel_rfl
@[go_sem] theorem tf25_1 : tField Tryz.prog 25 1 = some (1, 1, false) := by kernel_rfl
@[go_sem] theorem tf25_2 : tField Tryz.prog 25 2 = some (2, 1, false) := by kernel_rfl
@[go_sem] theorem ta26 : tAgg Tryz.prog 26 = some (false, 1) := by kernel_rfl
@[go_sem] theorem te26 : tElem Tryz.prog 26 = some (46, 2, 16) := by kernel_rfl
@[go_sem] theorem tl26 : tLen Tryz.prog 26 = some 0 := by kernel_rfl
@[go_sem] theorem tz26 : tZero Tryz.prog 26 = some (.slice none 0 0) := by kernel_rfl
@[go_sem] theorem ta27 : tAgg Tryz.prog 27 = some (false, 1) := by kernel_rfl
@[go_sem] theorem te27 : tElem Tryz.prog 27 = some (36, 7, 72) := by kernel_rfl
@[go_sem] theorem tl27 : tLen Tryz.prog 27 = some 0 := by kernel_rfl
@[go_sem] theorem tz27 : tZero Tryz.prog 27 = some (.slice none 0 0) := by kernel_rfl
@[go_sem] theorem ta28 : tAgg Tryz.prog 28 = some (false, 1) := by kernel_rfl
@[go_sem] theorem te28 : tElem Tryz.prog 28 = some (40, 8, 80) := by kernel_rfl
@[go_sem] theorem tl28 : tLen Tryz.prog 28 = some 0 := by kernel_rfl
@[go_sem] theorem tz28 : tZero Tryz.prog 28 = some (.slice none 0 0) := by kernel_rfl
@[go_sem] theorem ta29 : tAgg Tryz.prog 29 = some (false, 1) := by kernel_rfl
@[go_sem] theorem te29 : tElem Tryz.prog 29 = some (81, 7, 56) := by kernel_rfl
@[go_sem] theorem tl29 : tLen Tryz.prog 29 = some 0 := by kernel_rfl
@[go_sem] theorem tz29 : tZero Tryz.prog 29 = some (.slice none 0 0) := by kernel_rfl
@[go_sem] theorem ta30 : tAgg Tryz.prog 30 = some (true, 4) := by kernel_rfl
@[go_sem] theorem tp30 : tPlaces Tryz.prog 30 = some [(0, 1), (1, 1), (2, 1), (3, 1)] := by kernel_rfl
@[go_sem] theorem tz30 : tZero Tryz.prog 30 = some (.agg #[(.slice none 0 0), (.slice none 0 0), (.slice none 0 0), (.slice none 0 0)]) := by kernel_rfl
@[go_sem] theorem tf30_0 : tField Tryz.prog 30 0 = some (0, 1, false) := by kernel_rfl
@[go_sem] theorem tf30_1 : tField Tryz.prog 30 1 = some (1, 1, false) := by kernel_rfl
@[go_sem] theorem tf30_2 : tField Tryz.prog 30 2 = some (2, 1, false) := by kernel_rfl
@[go_sem] theorem tf30_3 : tField Tryz.prog 30 3 = some (3, 1, false) := by kernel_rfl
@[go_sem] theorem ta31 : tAgg Tryz.prog 31 = some (true, 4) := by kernel_rfl
@[go_sem] theorem tp31 : tPlaces Tryz.prog 31 = some [(0, 1), (1, 1), (2, 1), (3, 1)] := by kernel_rfl
@[go_sem] theorem tz31 : tZero Tryz.prog 31 = some (.agg #[(.slice none 0 0), (.slice none 0 0), (.slice none 0 0), (.slice none 0 0)]) := by kernel_rfl
@[go_sem] theorem tf31_0 : tField Tryz.prog 31 0 = some (0, 1, false) := by kernel_rfl
@[go_sem] theorem tf31_1 : tField Tryz.prog 31 1 = some (1, 1, false) := by kernel_rfl
@[go_sem] theorem tf31_2 : tField Tryz.prog 31 2 = some (2, 1, false) := by kernel_rfl
@[go_sem] theorem tf31_3 : tField Tryz.prog 31 3 = some (3, 1, false) := by kernel_rfl
@[go_sem] theorem ta32 : tAgg Tryz.prog 32 = some (false, 1) := by kernel_rfl
@[go_sem] theorem te32 : tElem Tryz.prog 32 = some (3, 1, 8) := by kernel_rfl
@[go_sem] theorem tl32 : tLen Tryz.prog 32 = some 0 := by kernel_rfl
@[go_sem] theorem tz32 : tZero Tryz.prog 32 = some (.slice none 0 0) := by kernel_rfl
@[go_sem] theorem ta33 : tAgg Tryz.prog 33 = some (false, 1) := by kernel_rfl
@[go_sem] theorem ta34 : tAgg Tryz.prog 34 = some (false, 1) := by kernel_rfl
@[go_sem] theorem tz34 : tZero Tryz.prog 34 = some .nilFunc := by kernel_rfl
@[go_sem] theorem ta35 : tAgg Tryz.prog 35 = some (true, 7) := by kernel_rfl
@[go_sem] theorem tp35 : tPlaces Tryz.prog 35 = some [(0, 1), (1, 1), (2, 1), (3, 1), (4, 1), (5, 1), (6, 1)] := by kernel_rfl
@[go_sem] theorem tz35 : tZero Tryz.prog 35 = some (.agg #[(.int .i64 0), (.int .i64 0), (.int .i64 0), (.slice none 0 0), (.int .i64 0), (.int .i64 0), (.int .i64 0)]) := by kernel_rfl
@[go_sem] theorem tf35_0 : tField Tryz.prog 35 0 = some (0, 1, false) := by kernel_rfl
@[go_sem] theorem tf35_1 : tField Tryz.prog 35 1 = some (1, 1, false) := by kernel_rfl
@[go_sem] theorem tf35_2 : tField Tryz.prog 35 2 = some (2, 1, false) := by kernel_rfl
@[go_sem] theorem tf35_3 : tField Tryz.prog 35 3 = some (3, 1, false) := by kernel_rfl
@[go_sem] theorem tf35_4 : tField Tryz.prog 35 4 = some (4, 1, false) := by kernel_rfl
@[go_sem] theorem tf35_5 : tField Tryz.prog 35 5 = some (5, 1, false) := by kernel_rfl
@[go_sem] theorem tf35_6 : tField Tryz.prog 35 6 = some (6, 1, false) := by kernel_rfl
@[go_sem] theorem ta36 : tAgg Tryz.prog 36 = some (true, 7) := by kernel_rfl
@[go_sem] theorem tp36 : tPlaces Tryz.prog 36 = some [(0, 1), (1, 1), (2, 1), (3, 1), (4, 1), (5, 1), (6, 1)] := by kernel_rfl
@[go_sem] theorem tz36 : tZero Tryz.prog 36 = some (.agg #[(.int .i64 0), (.int .i64 0), (.int .i64 0), (.slice none 0 0), (.int .i64 0), (.int .i64 0), (.int .i64 0)]) := by kernel_rfl
@[go_sem] theorem tf36_0 : tField Tryz.prog 36 0 = some (0, 1, false) := by kernel_rfl
@[go_sem] theorem tf36_1 : tField Tryz.prog 36 1 = some (1, 1, false) := by kernel_rfl
@[go_sem] theorem tf36_2 : tField Tryz.prog 36 2 = some (2, 1, false) := by kernel_rfl
@[go_sem] theorem tf36_3 : tField Tryz.prog 36 3 = some (3, 1, false) := by kernel_rfl
@[go_sem] theorem tf36_4 : tField Tryz.prog 36 4 = some (4, 1, false) := by kernel_rfl
@[go_sem] theorem tf36_5 : tField Tryz.prog 36 5 = some (5, 1, false) := by kernel_rfl
@[go_sem] theorem tf36_6 : tField Tryz.prog 36 6 = some (6, 1, false) := by kernel_rfl
@[go_sem] theorem ta37 : tAgg Tryz.prog 37 = some (true, 2) := by kernel_rfl
@[go_sem] theorem tp37 : tPlaces Tryz.prog 37 = some [(0, 1), (1, 1)] := by kernel_rfl
@[go_sem] theorem tz37 : tZero Tryz.prog 37 = some (.agg #[(.int .i64 0), (.int .i64 0)]) := by kernel_rfl
@[go_sem] theorem tf37_0 : tField Tryz.prog 37 0 = some (0, 1, false) := by kernel_rfl
@[go_sem] theorem tf37_1 : tField Tryz.prog 37 1 = some (1, 1, false) := by kernel_rfl
@[go_sem] theorem ta38 : tAgg Tryz.prog 38 = some (true, 2) := by kernel_rfl
@[go_sem] theorem tp38 : tPlaces Tryz.prog 38 = some [(0, 1), (1, 1)] := by kernel_rfl
@[go_sem] theorem tz38 : tZero Tryz.prog 38 = some (.agg #[(.int .i64 0), (.int .i64 0)]) := by kernel_rfl
@[go_sem] theorem tf38_0 : tField Tryz.prog 38 0 = some (0, 1, false) := by kernel_rfl
@[go_sem] theorem tf38_1 : tField Tryz.prog 38 1 = some (1, 1, false) := by kernel_rfl
@[go_sem] theorem ta39 : tAgg Tryz.prog 39 = some (true, 8) := by kernel_rfl
@[go_sem] theorem tp39 : tPlaces Tryz.prog 39 = some [(0, 1), (1, 1), (2, 1), (3, 1), (4, 2), (6, 1), (7, 1)] := by kernel_rfl
@[go_sem] theorem tz39 : tZero Tryz.prog 39 = some (.agg #[(.int .i64 0), (.int .i64 0), (.int .i64 0), (.slice none 0 0), (.int .i64 0), (.int .i64 0), (.int .i64 0), (.int .i64 0)]) := by kernel_rfl
@[go_sem] theorem tf39_0 : tField Tryz.prog 39 0 = some (0, 1, false) := by kernel_rfl
@[go_sem] theorem tf39_1 : tField Tryz.prog 39 1 = some (1, 1, false) := by kernel_rfl
@[go_sem] theorem tf39_2 : tField Tryz.prog 39 2 = some (2, 1, false) := by kernel_rfl
@[go_sem] theorem tf39_3 : tField Tryz.prog 39 3 = some (3, 1, false) := by kernel_rfl
@[go_sem] theorem tf39_4 : tField Tryz.prog 39 4 = some (4, 2, true) := by kernel_rfl
@[go_sem] theorem tf39_5 : tField Tryz.prog 39 5 = some (6, 1, false) := by kernel_rfl
@[go_sem] theorem tf39_6 : tField Tryz.prog 39 6 = some (7, 1, false) := by kernel_rfl
@[go_sem] theorem ta40 : tAgg Tryz.prog 40 = some (true, 8) := by kernel_rfl
@[go_sem] theorem tp40 : tPlaces Tryz.prog 40 = some [(0, 1), (1, 1), (2, 1), (3, 1), (4, 2), (6, 1), (7, 1)] := by kernel_rfl
@[go_sem] theorem tz40 : tZero Tryz.prog 40 = some (.agg #[(.int .i64 0), (.int .i64 0), (.int .i64 0), (.slice none 0 0), (.int .i64 0), (.int .i64 0), (.int .i64 0), (.int .i64 0)]) := by kernel_rfl
@[go_sem] theorem tf40_0 : tField Tryz.prog 40 0 = some (0, 1, false) := by kernel_rfl
@[go_sem] theorem tf40_1 : tField Tryz.prog 40 1 = some (1, 1, false) := by kernel_rfl
@[go_sem] theorem tf40_2 : tField Tryz.prog 40 2 = some (2, 1, false) := by kernel_rfl
@[go_sem] theorem tf40_3 : tField Tryz.prog 40 3 = some (3, 1, false) := by kernel_rfl
@[go_sem] theorem tf40_4 : tField Tryz.prog 40 4 = some (4, 2, true) := by kernel_rfl
@[go_sem] theorem tf40_5 : tField Tryz.prog 40 5 = some (6, 1, false) := by kernel_rfl
@[go_sem] theorem tf40_6 : tField Tryz.prog 40 6 = some (7, 1, false) := by kernel_rfl
@[go_sem] theorem ta41 : tAgg Tryz.prog 41 = some (false, 1) := by kernel_rfl
@[go_sem] theorem tz41 : tZero Tryz.prog 41 = some .nilFunc := by kernel_rfl
@[go_sem] theorem ta42 : tAgg Tryz.prog 42 = some (false, 1) := by kernel_rfl
@[go_sem] theorem ti42 : tInt Tryz.prog 42 = some .i64 := by kernel_rfl
@[go_sem] theorem tz42 : tZero Tryz.prog 42 = some (.int .i64 0) := by kernel_rfl
@[go_sem] theorem ta43 : tAgg Tryz.prog 43 = some (false, 1) := by kernel_rfl
@[go_sem] theorem ta44 : tAgg Tryz.prog 44 = some (false, 1) := by kernel_rfl
@[go_sem] theorem tz44 : tZero Tryz.prog 44 = some .nilFunc := by kernel_rfl
@[go_sem] theorem ta45 : tAgg Tryz.prog 45 = some (true, 2) := by kernel_rfl
@[go_sem] theorem tp45 : tPlaces Tryz.prog 45 = some [(0, 1), (1, 1)] := by kernel_rfl
@[go_sem] theorem tz45 : tZero Tryz.prog 45 = some (.agg #[(.int .i64 0), (.int .i64 0)]) := by kernel_rfl
@[go_sem] theorem tf45_0 : tField Tryz.prog 45 0 = some (0, 1, false) := by kernel_rfl
@[go_sem] theorem tf45_1 : tField Tryz.prog 45 1 = some (1, 1, false) := by kernel_rfl
@[go_sem] theorem ta46 : tAgg Tryz.prog 46 = some (true, 2) := by kernel_rfl
@[go_sem] theorem tp46 : tPlaces Tryz.prog 46 = some [(0, 1), (1, 1)] := by kernel_rfl
@[go_sem] theorem tz46 : tZero Tryz.prog 46 = some (.agg #[(.int .i64 0), (.int .i64 0)]) := by kernel_rfl
@[go_sem] theorem tf46_0 : tField Tryz.prog 46 0 = some (0, 1, false) := by kernel_rfl
@[go_sem] theorem tf46_1 : tField Tryz.prog 46 1 = some (1, 1, false) := by kernel_rfl
@[go_sem] theorem ta49 : tAgg Tryz.prog 49 = some (true, 3) := by kernel_rfl
@[go_sem] theorem tr49 : tArr Tryz.prog 49 = some (3, 1, false) := by kernel_rfl
@[go_sem] theorem tp49 : tPlaces Tryz.prog 49 = some [(0, 1), (1, 1), (2, 1)] := by kernel_rfl
@[go_sem] theorem tz49 : tZero Tryz.prog 49 = some (.agg #[(.int .i64 0), (.int .i64 0), (.int .i64 0)]) := by kernel_rfl
@[go_sem] theorem ta51 : tAgg Tryz.prog 51 = some (false, 1) := by kernel_rfl
@[go_sem] theorem te51 : tElem Tryz.prog 51 = some (56, 2, 16) := by kernel_rfl
@[go_sem] theorem tl51 : tLen Tryz.prog 51 = some 0 := by kernel_rfl
@[go_sem] theorem tz51 : tZero Tryz.prog 51 = some (.slice none 0 0) := by kernel_rfl
@[go_sem] theorem ta52 : tAgg Tryz.prog 52 = some (false, 1) := by kernel_rfl
@[go_sem] theorem ta56 : tAgg Tryz.prog 56 = some (true, 2) := by kernel_rfl
@[go_sem] theorem tp56 : tPlaces Tryz.prog 56 = some [(0, 1), (1, 1)] := by kernel_rfl
@[go_sem] theorem tz56 : tZero Tryz.prog 56 = some (.agg #[(.int .i64 0), (.int .i64 0)]) := by kernel_rfl
@[go_sem] theorem tf56_0 : tField Tryz.prog 56 0 = some (0, 1, false) := by kernel_rfl
@[go_sem] theorem tf56_1 : tField Tryz.prog 56 1 = some (1, 1, false) := by kernel_rfl
@[go_sem] theorem ta57 : tAgg Tryz.prog 57 = some (false, 1) := by kernel_rfl
@[go_sem] theorem ta64 : tAgg Tryz.prog 64 = some (true, 6) := by kernel_rfl
@[go_sem] theorem tp64 : tPlaces Tryz.prog 64 = some [(0, 1), (1, 1), (2, 2), (4, 1), (5, 1)] := by kernel_rfl
@[go_sem] theorem tz64 : tZero Tryz.prog 64 = some (.agg #[(.int .i64 0), (.int .i64 0), (.int .i64 0), (.int .i64 0), (.int .i64 0), (.int .i64 0)]) := by kernel_rfl
@[go_sem] theorem tf64_0 : tField Tryz.prog 64 0 = some (0, 1, false) := by kernel_rfl
@[go_sem] theorem tf64_1 : tField Tryz.prog 64 1 = some (1, 1, false) := by kernel_rfl
@[go_sem] theorem tf64_2 : tField Tryz.prog 64 2 = some (2, 2, true) := by kernel_rfl
@[go_sem] theorem tf64_3 : tField Tryz.prog 64 3 = some (4, 1, false) := by kernel_rfl
@[go_sem] theorem tf64_4 : tField Tryz.prog 64 4 = some (5, 1, false) := by kernel_rfl
@[go_sem] theorem ta65 : tAgg Tryz.prog 65 = some (false, 1) := by kernel_rfl
@[go_sem] theorem ta77 : tAgg Tryz.prog 77 = some (true, 2) := by kernel_rfl
@[go_sem] theorem tr77 : tArr Tryz.prog 77 = some (2, 1, false) := by kernel_rfl
@[go_sem] theorem tp77 : tPlaces Tryz.prog 77 = some [(0, 1), (1, 1)] := by kernel_rfl
@[go_sem] theorem tz77 : tZero Tryz.prog 77 = some (.agg #[(.int .i64 0), (.int .i64 0)]) := by kernel_rfl
@[go_sem] theorem ta78 : tAgg Tryz.prog 78 = some (true, 4) := by kernel_rfl
@[go_sem] theorem tr78 : tArr Tryz.prog 78 = some (4, 1, false) := by kernel_rfl
@[go_sem] theorem tp78 : tPlaces Tryz.prog 78 = some [(0, 1), (1, 1), (2, 1), (3, 1)] := by kernel_rfl
@[go_sem] theorem tz78 : tZero Tryz.prog 78 = some (.agg #[(.int .i64 0), (.int .i64 0), (.int .i64 0), (.int .i64 0)]) := by kernel_rfl
@[go_sem] theorem ta81 : tAgg Tryz.prog 81 = some (true, 7) := by kernel_rfl
@[go_sem] theorem tp81 : tPlaces Tryz.prog 81 = some [(0, 1), (1, 1), (2, 1), (3, 1), (4, 1), (5, 1), (6, 1)] := by kernel_rfl
@[go_sem] theorem tz81 : tZero Tryz.prog 81 = some (.agg #[(.int .i64 0), (.int .i64 0), (.int .i64 0), (.int .i64 0), (.int .i64 0), (.int .i64 0), (.int .i64 0)]) := by kernel_rfl
@[go_sem] theorem tf81_0 : tField Tryz.prog 81 0 = some (0, 1, false) := by kernel_rfl
@[go_sem] theorem tf81_1 : tField Tryz.prog 81 1 = some (1, 1, false) := by kernel_rfl
@[go_sem] theorem tf81_2 : tField Tryz.prog 81 2 = some (2, 1, false) := by kernel_rfl
@[go_sem] theorem tf81_3 : tField Tryz.prog 81 3 = some (3, 1, false) := by kernel_rfl
@[go_sem] theorem tf81_4 : tField Tryz.prog 81 4 = some (4, 1, false) := by kernel_rfl
@[go_sem] theorem tf81_5 : tField Tryz.prog 81 5 = some (5, 1, false) := by kernel_rfl
@[go_sem] theorem tf81_6 : tField Tryz.prog 81 6 = some (6, 1, false) := by kernel_rfl
@[go_sem] theorem ta86 : tAgg Tryz.prog 86 = some (false, 1) := by kernel_rfl
@[go_sem] theorem ta91 : tAgg Tryz.prog 91 = some (true, 24) := by kernel_rfl
@[go_sem] theorem tp91 : tPlaces Tryz.prog 91 = some [(0, 2), (2, 7), (9, 8), (17, 7)] := by kernel_rfl
@[go_sem] theorem tz91 : tZero Tryz.prog 91 = some (.agg #[(.int .i64 0), (.int .i64 0), (.int .i64 0), (.int .i64 0), (.int .i64 0), (.slice none 0 0), (.int .i64 0), (.int .i64 0), (.int .i64 0), (.int .i64 0), (.int .i64 0), (.int .i64 0), (.slice none 0 0), (.int .i64 0), (.int .i64 0), (.int .i64 0), (.int .i64 0), (.int .i64 0), (.int .i64 0), (.int .i64 0), (.int .i64 0), (.int .i64 0), (.int .i64 0), (.int .i64 0)]) := by kernel_rfl
@[go_sem] theorem tf91_0 : tField Tryz.prog 91 0 = some (0, 2, true) := by kernel_rfl
@[go_sem] theorem tf91_1 : tField Tryz.prog 91 1 = some (2, 7, true) := by kernel_rfl
@[go_sem] theorem tf91_2 : tField Tryz.prog 91 2 = some (9, 8, true) := by kernel_rfl
@[go_sem] theorem tf91_3 : tField Tryz.prog 91 3 = some (17, 7, true) := by kernel_rfl
@[go_sem] theorem ta92 : tAgg Tryz.prog 92 = some (false, 1) := by kernel_rfl
@[go_sem] theorem ta95 : tAgg Tryz.prog 95 = some (false, 1) := by kernel_rfl
@[go_sem] theorem tz95 : tZero Tryz.prog 95 = some .nilFunc := by kernel_rfl
@[go_sem] theorem ta96 : tAgg Tryz.prog 96 = some (false, 1) := by kernel_rfl
@[go_sem] theorem tz96 : tZero Tryz.prog 96 = some .nilFunc := by kernel_rfl
@[go_sem] theorem ta97 : tAgg Tryz.prog 97 = some (false, 1) := by kernel_rfl
@[go_sem] theorem tz97 : tZero Tryz.prog 97 = some .nilFunc := by kernel_rfl
@[go_sem] theorem ta98 : tAgg Tryz.prog 98 = some (false, 1) := by kernel_rfl
@[go_sem] theorem tz98 : tZero Tryz.prog 98 = some .nilFunc := by kernel_rfl
@[go_sem] theorem ta100 : tAgg Tryz.prog 100 = some (true, 5) := by kernel_rfl
@[go_sem] theorem tr100 : tArr Tryz.prog 100 = some (5, 1, false) := by kernel_rfl
@[go_sem] theorem tp100 : tPlaces Tryz.prog 100 = some [(0, 1), (1, 1), (2, 1), (3, 1), (4, 1)] := by kernel_rfl
@[go_sem] theorem tz100 : tZero Tryz.prog 100 = some (.agg #[(.int .i64 0), (.int .i64 0), (.int .i64 0), (.int .i64 0), (.int .i64 0)]) := by kernel_rfl
@[go_sem] theorem ta103 : tAgg Tryz.prog 103 = some (false, 1) := by kernel_rfl
@[go_sem] theorem te103 : tElem Tryz.prog 103 = some (4, 1, 1) := by kernel_rfl
@[go_sem] theorem tl103 : tLen Tryz.prog 103 = some 0 := by kernel_rfl
@[go_sem] theorem tz103 : tZero Tryz.prog 103 = some (.slice none 0 0) := by kernel_rfl
@[go_sem] theorem ta106 : tAgg Tryz.prog 106 = some (false, 1) := by kernel_rfl
@[go_sem] theorem te106 : tElem Tryz.prog 106 = some (38, 2, 16) := by kernel_rfl
@[go_sem] theorem tl106 : tLen Tryz.prog 106 = some 0 := by kernel_rfl
@[go_sem] theorem tz106 : tZero Tryz.prog 106 = some (.slice none 0 0) := by kernel_rfl
@[go_sem] theorem ta108 : tAgg Tryz.prog 108 = some (true, 7) := by kernel_rfl
@[go_sem] theorem tp108 : tPlaces Tryz.prog 108 = some [(0, 4), (4, 1), (5, 1), (6, 1)] := by kernel_rfl
@[go_sem] theorem tz108 : tZero Tryz.prog 108 = some (.agg #[(.slice none 0 0), (.slice none 0 0), (.slice none 0 0), (.slice none 0 0), (.int .i64 0), (.slice none 0 0), (.slice none 0 0)]) := by kernel_rfl
@[go_sem] theorem tf108_0 : tField Tryz.prog 108 0 = some (0, 4, true) := by kernel_rfl
@[go_sem] theorem tf108_1 : tField Tryz.prog 108 1 = some (4, 1, false) := by kernel_rfl
@[go_sem] theorem tf108_2 : tField Tryz.prog 108 2 = some (5, 1, false) := by kernel_rfl
@[go_sem] theorem tf108_3 : tField Tryz.prog 108 3 = some (6, 1, false) := by kernel_rfl
@[go_sem] theorem ta112 : tAgg Tryz.prog 112 = some (false, 1) := by kernel_rfl
@[go_sem] theorem ta113 : tAgg Tryz.prog 113 = some (false, 1) := by kernel_rfl
@[go_sem] theorem tz113 : tZero Tryz.prog 113 = some (.pointer none) := by kernel_rfl
@[go_sem] theorem ta115 : tAgg Tryz.prog 115 = some (false, 1) := by kernel_rfl
@[go_sem] theorem tz115 : tZero Tryz.prog 115 = some (.pointer none) := by kernel_rfl
@[go_sem] theorem ta117 : tAgg Tryz.prog 117 = some (false, 1) := by kernel_rfl
@[go_sem] theorem ta119 : tAgg Tryz.prog 119 = some (false, 1) := by kernel_rfl
@[go_sem] theorem ta120 : tAgg Tryz.prog 120 = some (false, 1) := by kernel_rfl
@[go_sem] theorem tl120 : tLen Tryz.prog 120 = some 2 := by kernel_rfl
@[go_sem] theorem tm120 : tMap Tryz.prog 120 = some (2, 3) := by kernel_rfl
@[go_sem] theorem tz120 : tZero Tryz.prog 120 = some (.map none) := by kernel_rfl
@[go_sem] theorem ta121 : tAgg Tryz.prog 121 = some (false, 1) := by kernel_rfl
@[go_sem] theorem tl121 : tLen Tryz.prog 121 = some 2 := by kernel_rfl
@[go_sem] theorem tm121 : tMap Tryz.prog 121 = some (0, 38) := by kernel_rfl
@[go_sem] theorem tz121 : tZero Tryz.prog 121 = some (.map none) := by kernel_rfl
@[go_sem] theorem ta123 : tAgg Tryz.prog 123 = some (true, 5) := by kernel_rfl
@[go_sem] theorem tp123 : tPlaces Tryz.prog 123 = some [(0, 1), (1, 1), (2, 1), (3, 1), (4, 1)] := by kernel_rfl
@[go_sem] theorem tz123 : tZero Tryz.prog 123 = some (.agg #[(.pointer none), (.slice none 0 0), (.slice none 0 0), (.map none), (.map none)]) := by kernel_rfl
@[go_sem] theorem tf123_0 : tField Tryz.prog 123 0 = some (0, 1, false) := by kernel_rfl
@[go_sem] theorem tf123_1 : tField Tryz.prog 123 1 = some (1, 1, false) := by kernel_rfl
@[go_sem] theorem tf123_2 : tField Tryz.prog 123 2 = some (2, 1, false) := by kernel_rfl
@[go_sem] theorem tf123_3 : tField Tryz.prog 123 3 = some (3, 1, false) := by kernel_rfl
@[go_sem] theorem tf123_4 : tField Tryz.prog 123 4 = some (4, 1, false) := by kernel_rfl
@[go_sem] theorem ta125 : tAgg Tryz.prog 125 = some (true, 2) := by kernel_rfl
@[go_sem] theorem tp125 : tPlaces Tryz.prog 125 = some [(0, 1), (1, 1)] := by kernel_rfl
@[go_sem] theorem tz125 : tZero Tryz.prog 125 = some (.agg #[(.int .i64 0), (.int .i64 0)]) := by kernel_rfl
@[go_sem] theorem tf125_0 : tField Tryz.prog 125 0 = some (0, 1, false) := by kernel_rfl
@[go_sem] theorem tf125_1 : tField Tryz.prog 125 1 = some (1, 1, false) := by kernel_rfl
@[go_sem] theorem ta131 : tAgg Tryz.prog 131 = some (true, 7) := by kernel_rfl
@[go_sem] theorem tr131 : tArr Tryz.prog 131 = some (7, 1, false) := by kernel_rfl
@[go_sem] theorem tp131 : tPlaces Tryz.prog 131 = some [(0, 1), (1, 1), (2, 1), (3, 1), (4, 1), (5, 1), (6, 1)] := by kernel_rfl
@[go_sem] theorem tz131 : tZero Tryz.prog 131 = some (.agg #[(.int .i64 0), (.int .i64 0), (.int .i64 0), (.int .i64 0), (.int .i64 0), (.int .i64 0), (.int .i64 0)]) := by kernel_rfl
@[go_sem] theorem ta135 : tAgg Tryz.prog 135 = some (false, 1) := by kernel_rfl
@[go_sem] theorem tz135 : tZero Tryz.prog 135 = some .nilFunc := by kernel_rfl
@[go_sem] theorem ta137 : tAgg Tryz.prog 137 = some (false, 1) := by kernel_rfl
@[go_sem] theorem tz137 : tZero Tryz.prog 137 = some .nilFunc := by kernel_rfl
@[go_sem] theorem ta139 : tAgg Tryz.prog 139 = some (false, 1) := by kernel_rfl
@[go_sem] theorem tz139 : tZero Tryz.prog 139 = some .nilFunc := by kernel_rfl
@[go_sem] theorem ta140 : tAgg Tryz.prog 140 = some (false, 1) := by kernel_rfl
@[go_sem] theorem tz140 : tZero Tryz.prog 140 = some .nilFunc := by kernel_rfl
@[go_sem] theorem ta145 : tAgg Tryz.prog 145 = some (false, 1) := by kernel_rfl
@[go_sem] theorem ta150 : tAgg Tryz.prog 150 = some (false, 1) := by kernel_rfl
@[go_sem] theorem tz150 : tZero Tryz.prog 150 = some .nilFunc := by kernel_rfl
@[go_sem] theorem ta153 : tAgg Tryz.prog 153 = some (false, 1) := by kernel_rfl
@[go_sem] theorem tz153 : tZero Tryz.prog 153 = some .nilFunc := by kernel_rfl
@[go_sem] theorem ta155 : tAgg Tryz.prog 155 = some (false, 1) := by kernel_rfl
@[go_sem] theorem tz155 : tZero Tryz.prog 155 = some .nilFunc := by kernel_rfl
@[go_sem] theorem ta157 : tAgg Tryz.prog 157 = some (false, 1) := by kernel_rfl
@[go_sem] theorem tz157 : tZero Tryz.prog 157 = some .nilFunc := by kernel_rfl
@[go_sem] theorem ta159 : tAgg Tryz.prog 159 = some (false, 1) := by kernel_rfl
@[go_sem] theorem tz159 : tZero Tryz.prog 159 = some .nilFunc := by kernel_rfl
@[go_sem] theorem ta160 : tAgg Tryz.prog 160 = some (false, 1) := by kernel_rfl
@[go_sem] theorem tl160 : tLen Tryz.prog 160 = some 2 := by kernel_rfl
@[go_sem] theorem tm160 : tMap Tryz.prog 160 = some (0, 4) := by kernel_rfl
@[go_sem] theorem tz160 : tZero Tryz.prog 160 = some (.map none) := by kernel_rfl
@[go_sem] theorem ta161 : tAgg Tryz.prog 161 = some (false, 1) := by kernel_rfl
@[go_sem] theorem tz161 : tZero Tryz.prog 161 = some .nilFunc := by kernel_rfl
@[go_sem] theorem ta164 : tAgg Tryz.prog 164 = some (false, 1) := by kernel_rfl
@[go_sem] theorem ta169 : tAgg Tryz.prog 169 = some (false, 1) := by kernel_rfl
@[go_sem] theorem te169 : tElem Tryz.prog 169 = some (32, 1, 24) := by kernel_rfl
@[go_sem] theorem tl169 : tLen Tryz.prog 169 = some 0 := by kernel_rfl
@[go_sem] theorem tz169 : tZero Tryz.prog 169 = some (.slice none 0 0) := by kernel_rfl
@[go_sem] theorem ta170 : tAgg Tryz.prog 170 = some (false, 1) := by kernel_rfl
@[go_sem] theorem ta180 : tAgg Tryz.prog 180 = some (false, 1) := by kernel_rfl
@[go_sem] theorem tz180 : tZero Tryz.prog 180 = some .nilFunc := by kernel_rfl
@[go_sem] theorem ta186 : tAgg Tryz.prog 186 = some (false, 1) := by kernel_rfl
@[go_sem] theorem tz186 : tZero Tryz.prog 186 = some .nilFunc := by kernel_rfl
@[go_sem] theorem ta188 : tAgg Tryz.prog 188 = some (false, 1) := by kernel_rfl
@[go_sem] theorem tz188 : tZero Tryz.prog 188 = some .nilFunc := by kernel_rfl
@[go_sem] theorem ta191 : tAgg Tryz.prog 191 = some (false, 1) := by kernel_rfl
@[go_sem] theorem tz191 : tZero Tryz.prog 191 = some .nilFunc := by kernel_rfl
@[go_sem] theorem ta201 : tAgg Tryz.prog 201 = some (false, 1) := by kernel_rfl
@[go_sem] theorem tz201 : tZero Tryz.prog 201 = some .nilFunc := by kernel_rfl
@[go_sem] theorem ta202 : tAgg Tryz.prog 202 = some (false, 1) := by kernel_rfl
@[go_sem] theorem ta205 : tAgg Tryz.prog 205 = some (false, 1) := by kernel_rfl
@[go_sem] theorem ta208 : tAgg Tryz.prog 208 = some (false, 1) := by kernel_rfl
@[go_sem] theorem ti208 : tInt Tryz.prog 208 = some .u64 := by kernel_rfl
@[go_sem] theorem tz208 : tZero Tryz.prog 208 = some (.int .u64 0) := by kernel_rfl
@[go_sem] theorem ta224 : tAgg Tryz.prog 224 = some (false, 1) := by kernel_rfl
@[go_sem] theorem ti224 : tInt Tryz.prog 224 = some .u8 := by kernel_rfl
@[go_sem] theorem tz224 : tZero Tryz.prog 224 = some (.int .u8 0) := by kernel_rfl
theorem mixedK : Tryz.prog.follows .mixedOrders = true := by kernel_rfl
/-! loan's data, and contracts over data that are encoded -/
structure Pap where
  (id lv : Int)
  deriving Inhabited, DecidableEq
structure Rec where
  (so bo pa : Int)
  lv : List Int
  (da kn un : Int)
  deriving Inhabited, DecidableEq
structure Ret where
  (so re pe : Int)
  lv : List Int
  (lo hi kn un : Int)
  deriving Inhabited, DecidableEq
structure Sig where
  (so pe pa le da kn un : Int)
  deriving Inhabited, DecidableEq
structure Led where
  ps : List Pap
  rs : List Rec
  ts : List Ret
  ss : List Sig
  deriving Inhabited, DecidableEq
def decI : V → Int
  | .int _ n => n
  | _ => 0
def decB : V → Bool
  | .bool b => b
  | _ => false
def decIs : V → List Int
  | .sl l => l.map decI
  | _ => []
def encP (p : Pap) : V := .agg [vInt p.id, vInt p.lv]
def decP : V → Pap
  | .agg [.int _ a, .int _ b] => ⟨a, b⟩
  | _ => default
def encR (r : Rec) : V := .agg [vInt r.so, vInt r.bo, vInt r.pa, .sl (r.lv.map vInt), vInt r.da, vInt r.kn, vInt r.un]
def decR : V → Rec
  | .agg [.int _ a, .int _ b, .int _ c, .sl l, .int _ d, .int _ e, .int _ f] => ⟨a, b, c, l.map decI, d, e, f⟩
  | _ => default
def encT (r : Ret) : V := .agg [vInt r.so, vInt r.re, vInt r.pe, .sl (r.lv.map vInt), vInt r.lo, vInt r.hi, vInt r.kn, vInt r.un]
def decT : V → Ret
  | .agg [.int _ a, .int _ b, .int _ c, .sl l, .int _ d, .int _ g, .int _ e, .int _ f] => ⟨a, b, c, l.map decI, d, g, e, f⟩
  | _ => default
def encS (s : Sig) : V := .agg [vInt s.so, vInt s.pe, vInt s.pa, vInt s.le, vInt s.da, vInt s.kn, vInt s.un]
def decS : V → Sig
  | .agg [.int _ a, .int _ b, .int _ c, .int _ d, .int _ e, .int _ f, .int _ g] => ⟨a, b, c, d, e, f, g⟩
  | _ => default
def encL (l : Led) : V := .agg [.sl (l.ps.map encP), .sl (l.rs.map encR), .sl (l.ts.map encT), .sl (l.ss.map encS)]
def decL : V → Led
  | .agg [.sl a, .sl b, .sl c, .sl d] => ⟨a.map decP, b.map decR, c.map decT, d.map decS⟩
  | _ => default
/-- A ledger by its address. -/
def encLp (l : Led) : V := .ptr [.sl (l.ps.map encP), .sl (l.rs.map encR), .sl (l.ts.map encT), .sl (l.ss.map encS)]
def decLp : V → Led
  | .ptr [.sl a, .sl b, .sl c, .sl d] => ⟨a.map decP, b.map decR, c.map decT, d.map decS⟩
  | _ => default
@[go_sem] theorem decI_map (l : List Int) : (l.map vInt).map decI = l := by rw [List.map_map]; exact List.map_id _
@[go_sem] theorem decB_map (l : List Bool) : (l.map V.bool).map decB = l := by rw [List.map_map]; exact List.map_id _
theorem decP_enc (p : Pap) : decP (encP p) = p := rfl
theorem decR_enc (r : Rec) : decR (encR r) = r := by
  cases r; simp only [encR, decR, decI_map]
theorem decT_enc (r : Ret) : decT (encT r) = r := by
  cases r; simp only [encT, decT, decI_map]
theorem decS_enc (r : Sig) : decS (encS r) = r := rfl
theorem map_dec {α : Type} {e : α → V} {d : V → α} (h : ∀ a, d (e a) = a) (l : List α) : (l.map e).map d = l := by
  rw [List.map_map]
  have : d ∘ e = id := funext h
  rw [this, List.map_id]
@[go_sem] theorem decP_map (l : List Pap) : (l.map encP).map decP = l := map_dec decP_enc l
@[go_sem] theorem decR_map (l : List Rec) : (l.map encR).map decR = l := map_dec decR_enc l
@[go_sem] theorem decT_map (l : List Ret) : (l.map encT).map decT = l := map_dec decT_enc l
@[go_sem] theorem decS_map (l : List Sig) : (l.map encS).map decS = l := map_dec decS_enc l
theorem decL_enc (l : Led) : decL (encL l) = l := by
  cases l; simp only [encL, decL, decP_map, decR_map, decT_map, decS_map]
@[go_sem] theorem etaP (p : Pap) : (⟨p.id, p.lv⟩ : Pap) = p := rfl
@[go_sem] theorem etaR (r : Rec) : (⟨r.so, r.bo, r.pa, r.lv, r.da, r.kn, r.un⟩ : Rec) = r := rfl
@[go_sem] theorem etaT (r : Ret) : (⟨r.so, r.re, r.pe, r.lv, r.lo, r.hi, r.kn, r.un⟩ : Ret) = r := rfl
@[go_sem] theorem etaS (r : Sig) : (⟨r.so, r.pe, r.pa, r.le, r.da, r.kn, r.un⟩ : Sig) = r := rfl
@[go_sem] theorem etaL (l : Led) : (⟨l.ps, l.rs, l.ts, l.ss⟩ : Led) = l := rfl

def iI : En Int := ⟨vInt, decI⟩
def iB : En Bool := ⟨.bool, decB⟩
def iIs : En (List Int) := ⟨fun l => .sl (l.map vInt), decIs⟩
def iP : En Pap := ⟨encP, decP⟩
def iR : En Rec := ⟨encR, decR⟩
def iT : En Ret := ⟨encT, decT⟩
def iS : En Sig := ⟨encS, decS⟩
def iL : En Led := ⟨encL, decL⟩
def iLp : En Led := ⟨encLp, decLp⟩
attribute [go_sem] iI iB iIs iP iR iT iS iL iLp decI decB decIs encP decP encR decR encT decT encS decS encL decL encLp decLp

/-- lo ≤ n ≤ hi. -/
def inI (n lo hi : Int) : Bool := decide (lo ≤ n) && decide (n ≤ hi)
def dayB (n : Int) : Bool := inI n 0 100000
/-! bounds -/
noncomputable def P96 : PSpec := p3 iI iI iI (fun _ _ _ => True) (fun n lo hi => .bool (inI n lo hi)) true
noncomputable def S96 : Spec := P96.toSpec
attribute [go_sem] P96 S96

theorem s96 : PSound Tryz.prog 96 P96 := by
  refine w3 (rs := [.tmp 6]) Tryz.func96 Tryz.ntmps96 (by rfl) (by kernel_rfl) (by decide) (fun _ _ _ _ => rfl) ⟨_, rfl, lb rfl, fun n lo hi hp hw => ?_⟩
  have hP := mixedK
  simp only [iI] at hw ⊢
  have hΓ := @no_sound Tryz.prog
  repeat refine sq ?_
  refine rs hΓ [0,1,2] [] ?_
  repeat refine sq ?_
  refine rs hΓ [6] [] ?_
  refine cl_ret ?_
  simp only [go_sem]
  all_goals first | rfl | (simp; done) | (simp_all; done)
theorem k96 : SSound Tryz.prog 96 S96 := s96.sound
noncomputable def P146 : PSpec := p3 iI iI iI (fun _ _ _ => True) (fun n lo hi => .bool (inI n lo hi)) true
noncomputable def S146 : Spec := P146.toSpec
attribute [go_sem] P146 S146

theorem s146 : PSound Tryz.prog 146 P146 := by
  refine w3 (rs := [.tmp 6]) Tryz.func146 Tryz.ntmps146 (by rfl) (by kernel_rfl) (by decide) (fun _ _ _ _ => rfl) ⟨_, rfl, lb rfl, fun n lo hi hp hw => ?_⟩
  have hP := mixedK
  simp only [iI] at hw ⊢
  have hΓ := @no_sound Tryz.prog
  repeat refine sq ?_
  refine rs hΓ [0,1,2] [] ?_
  repeat refine sq ?_
  refine rs hΓ [6] [] ?_
  refine cl_ret ?_
  simp only [go_sem]
  all_goals first | rfl | (simp; done) | (simp_all; done)
theorem k146 : SSound Tryz.prog 146 S146 := s146.sound
noncomputable def P189 : PSpec := p1 iI (fun _ => True) (fun _ => .bool false) true
noncomputable def S189 : Spec := P189.toSpec
attribute [go_sem] P189 S189

theorem s189 : PSound Tryz.prog 189 P189 := by
  refine w1 (rs := [.tmp 2]) Tryz.func189 Tryz.ntmps189 (by rfl) (by kernel_rfl) (by decide) (fun _ _ => rfl) ⟨_, rfl, lb rfl, fun n hp hw => ?_⟩
  have hP := mixedK
  simp only [iI] at hw ⊢
  have hΓ := @no_sound Tryz.prog
  repeat refine sq ?_
  refine rs hΓ [0] [] ?_
  repeat refine sq ?_
  refine rs hΓ [2] [] ?_
  refine cl_ret ?_
  simp only [go_sem]
  all_goals first | rfl | (simp; done) | (simp_all; done)
theorem k189 : SSound Tryz.prog 189 S189 := s189.sound
noncomputable def K1 : List (Nat × Spec) := [(96, S96), (146, S146), (189, S189)]
theorem K1_sound : ∀ f s, tbl K1 f = some s → SSound Tryz.prog f s := tc k96 <| tc k146 <| tc k189 <| tn
attribute [go_sem] K1

noncomputable def P144 : PSpec := p1 iI (fun _ => True) (fun n => .bool (inI n 1 999)) true
noncomputable def S144 : Spec := P144.toSpec
attribute [go_sem] P144 S144

theorem s144 : PSound Tryz.prog 144 P144 := by
  refine w1 (rs := [.tmp 2]) Tryz.func144 Tryz.ntmps144 (by rfl) (by kernel_rfl) (by decide) (fun _ _ => rfl) ⟨_, rfl, lb rfl, fun n hp hw => ?_⟩
  have hP := mixedK
  simp only [iI] at hw ⊢
  have hΓ := K1_sound
  repeat refine sq ?_
  refine rs hΓ [0] [] ?_
  repeat refine sq ?_
  refine rs hΓ [2] [] ?_
  refine cl_ret ?_
  simp only [go_sem]
  all_goals first | rfl | (simp; done) | (simp_all; done)
theorem k144 : SSound Tryz.prog 144 S144 := s144.sound
noncomputable def P145 : PSpec := p1 iI (fun _ => True) (fun n => .bool (inI n 1 30)) true
noncomputable def S145 : Spec := P145.toSpec
attribute [go_sem] P145 S145

theorem s145 : PSound Tryz.prog 145 P145 := by
  refine w1 (rs := [.tmp 2]) Tryz.func145 Tryz.ntmps145 (by rfl) (by kernel_rfl) (by decide) (fun _ _ => rfl) ⟨_, rfl, lb rfl, fun n hp hw => ?_⟩
  have hP := mixedK
  simp only [iI] at hw ⊢
  have hΓ := K1_sound
  repeat refine sq ?_
  refine rs hΓ [0] [] ?_
  repeat refine sq ?_
  refine rs hΓ [2] [] ?_
  refine cl_ret ?_
  simp only [go_sem]
  all_goals first | rfl | (simp; done) | (simp_all; done)
theorem k145 : SSound Tryz.prog 145 S145 := s145.sound
noncomputable def P147 : PSpec := p1 iI (fun _ => True) (fun n => .bool (inI n 1 99999)) true
noncomputable def S147 : Spec := P147.toSpec
attribute [go_sem] P147 S147

theorem s147 : PSound Tryz.prog 147 P147 := by
  refine w1 (rs := [.tmp 2]) Tryz.func147 Tryz.ntmps147 (by rfl) (by kernel_rfl) (by decide) (fun _ _ => rfl) ⟨_, rfl, lb rfl, fun n hp hw => ?_⟩
  have hP := mixedK
  simp only [iI] at hw ⊢
  have hΓ := K1_sound
  repeat refine sq ?_
  refine rs hΓ [0] [] ?_
  repeat refine sq ?_
  refine rs hΓ [2] [] ?_
  refine cl_ret ?_
  simp only [go_sem]
  all_goals first | rfl | (simp; done) | (simp_all; done)
theorem k147 : SSound Tryz.prog 147 S147 := s147.sound
noncomputable def P148 : PSpec := p1 iI (fun _ => True) (fun n => .bool (inI n 1 99)) true
noncomputable def S148 : Spec := P148.toSpec
attribute [go_sem] P148 S148

theorem s148 : PSound Tryz.prog 148 P148 := by
  refine w1 (rs := [.tmp 2]) Tryz.func148 Tryz.ntmps148 (by rfl) (by kernel_rfl) (by decide) (fun _ _ => rfl) ⟨_, rfl, lb rfl, fun n hp hw => ?_⟩
  have hP := mixedK
  simp only [iI] at hw ⊢
  have hΓ := K1_sound
  repeat refine sq ?_
  refine rs hΓ [0] [] ?_
  repeat refine sq ?_
  refine rs hΓ [2] [] ?_
  refine cl_ret ?_
  simp only [go_sem]
  all_goals first | rfl | (simp; done) | (simp_all; done)
theorem k148 : SSound Tryz.prog 148 S148 := s148.sound
noncomputable def P150 : PSpec := p1 iI (fun _ => True) (fun n => .bool (dayB n)) true
noncomputable def S150 : Spec := P150.toSpec
attribute [go_sem] P150 S150

theorem s150 : PSound Tryz.prog 150 P150 := by
  refine w1 (rs := [.tmp 2]) Tryz.func150 Tryz.ntmps150 (by rfl) (by kernel_rfl) (by decide) (fun _ _ => rfl) ⟨_, rfl, lb rfl, fun n hp hw => ?_⟩
  have hP := mixedK
  simp only [iI] at hw ⊢
  have hΓ := K1_sound
  repeat refine sq ?_
  refine rs hΓ [0] [] ?_
  repeat refine sq ?_
  refine rs hΓ [2] [] ?_
  refine cl_ret ?_
  simp only [go_sem]
  all_goals first | rfl | (simp; done) | (simp_all; done)
theorem k150 : SSound Tryz.prog 150 S150 := s150.sound
noncomputable def P152 : PSpec := p1 iI (fun _ => True) (fun n => .bool (inI n 1 99999)) true
noncomputable def S152 : Spec := P152.toSpec
attribute [go_sem] P152 S152

theorem s152 : PSound Tryz.prog 152 P152 := by
  refine w1 (rs := [.tmp 2]) Tryz.func152 Tryz.ntmps152 (by rfl) (by kernel_rfl) (by decide) (fun _ _ => rfl) ⟨_, rfl, lb rfl, fun n hp hw => ?_⟩
  have hP := mixedK
  simp only [iI] at hw ⊢
  have hΓ := K1_sound
  repeat refine sq ?_
  refine rs hΓ [0] [] ?_
  repeat refine sq ?_
  refine rs hΓ [2] [] ?_
  refine cl_ret ?_
  simp only [go_sem]
  all_goals first | rfl | (simp; done) | (simp_all; done)
theorem k152 : SSound Tryz.prog 152 S152 := s152.sound
noncomputable def P154 : PSpec := p1 iI (fun _ => True) (fun n => .bool (dayB n)) true
noncomputable def S154 : Spec := P154.toSpec
attribute [go_sem] P154 S154

theorem s154 : PSound Tryz.prog 154 P154 := by
  refine w1 (rs := [.tmp 2]) Tryz.func154 Tryz.ntmps154 (by rfl) (by kernel_rfl) (by decide) (fun _ _ => rfl) ⟨_, rfl, lb rfl, fun n hp hw => ?_⟩
  have hP := mixedK
  simp only [iI] at hw ⊢
  have hΓ := K1_sound
  repeat refine sq ?_
  refine rs hΓ [0] [] ?_
  repeat refine sq ?_
  refine rs hΓ [2] [] ?_
  refine cl_ret ?_
  simp only [go_sem]
  all_goals first | rfl | (simp; done) | (simp_all; done)
theorem k154 : SSound Tryz.prog 154 S154 := s154.sound
def cmpI (a b : Int) : Int := if a < b then -1 else if b < a then 1 else 0
noncomputable def P140 : PSpec := p2 iI iI (fun _ _ => True) (fun a b => vInt (cmpI a b)) true
noncomputable def S140 : Spec := P140.toSpec
attribute [go_sem] P140 S140

theorem s140 : PSound Tryz.prog 140 P140 := by
  refine w2 (rs := [.tmp 4]) Tryz.func140 Tryz.ntmps140 (by rfl) (by kernel_rfl) (by decide) (fun _ _ _ => rfl) ⟨_, rfl, lb rfl, fun a b hp hw => ?_⟩
  have hP := mixedK
  simp only [iI] at hw ⊢
  have hΓ := K1_sound
  repeat refine sq ?_
  refine rs hΓ [0,1] [] ?_
  repeat refine sq ?_
  refine rs hΓ [0,1,5] [] ?_
  repeat refine sq ?_
  refine rs hΓ [0,1,5,6] [] ?_
  repeat refine sq ?_
  refine rs hΓ [0,1,6,11] [] ?_
  repeat refine cl_seq ?_
  refine cl_cond rfl rfl (fun hb => ?_) fun hb => ?_
  · skip
    repeat refine cl_seq ?_
    repeat refine sq ?_
    refine rs hΓ [12] [] ?_
    repeat refine cl_seq ?_
    refine cl_cond rfl rfl (fun hb => ?_) fun hb => ?_
    · skip
      repeat refine cl_seq ?_
      repeat refine sq ?_
      refine rs hΓ [4] [] ?_
      refine cl_ret ?_
      simp only [go_sem]
      all_goals first | rfl | (simp; done) | (grind [cmpI]; done)
    · skip
      repeat refine cl_seq ?_
      refine cl_skip ?_
      repeat refine sq ?_
      refine rs hΓ [4] [] ?_
      refine cl_ret ?_
      simp only [go_sem]
      all_goals first | rfl | (simp; done) | (grind [cmpI]; done)
  · skip
    repeat refine cl_seq ?_
    refine cl_skip ?_
    repeat refine sq ?_
    refine rs hΓ [0,1,13] [] ?_
    repeat refine cl_seq ?_
    refine cl_cond rfl rfl (fun hb => ?_) fun hb => ?_
    · skip
      repeat refine cl_seq ?_
      repeat refine sq ?_
      refine rs hΓ [4] [] ?_
      refine cl_ret ?_
      simp only [go_sem]
      all_goals first | rfl | (simp; done) | (grind [cmpI]; done)
    · skip
      repeat refine cl_seq ?_
      refine cl_skip ?_
      repeat refine sq ?_
      refine rs hΓ [0,1,16] [] ?_
      repeat refine cl_seq ?_
      refine cl_cond rfl rfl (fun hb => ?_) fun hb => ?_
      · skip
        repeat refine cl_seq ?_
        repeat refine sq ?_
        refine rs hΓ [4] [] ?_
        refine cl_ret ?_
        simp only [go_sem]
        all_goals first | rfl | (simp; done) | (grind [cmpI]; done)
      · skip
        repeat refine cl_seq ?_
        refine cl_skip ?_
        repeat refine sq ?_
        refine rs hΓ [19] [] ?_
        repeat refine cl_seq ?_
        refine cl_cond rfl rfl (fun hb => ?_) fun hb => ?_
        · skip
          repeat refine cl_seq ?_
          repeat refine sq ?_
          refine rs hΓ [4] [] ?_
          refine cl_ret ?_
          simp only [go_sem]
          all_goals first | rfl | (simp; done) | (grind [cmpI]; done)
        · skip
          repeat refine cl_seq ?_
          refine cl_skip ?_
          repeat refine sq ?_
          refine rs hΓ [4] [] ?_
          refine cl_ret ?_
          simp only [go_sem]
          all_goals first | rfl | (simp; done) | (grind [cmpI]; done)
theorem k140 : SSound Tryz.prog 140 S140 := s140.sound
/-! lists of leaves -/
def timesB (k u : Int) : Bool := dayB k && (u == 0 || (decide (k < u) && decide (u ≤ 100000)))
noncomputable def K2 : List (Nat × Spec) := [(96, S96), (146, S146), (145, S145), (150, S150), (154, S154), (144, S144), (147, S147), (148, S148), (152, S152)]
theorem K2_sound : ∀ f s, tbl K2 f = some s → SSound Tryz.prog f s := tc k96 <| tc k146 <| tc k145 <| tc k150 <| tc k154 <| tc k144 <| tc k147 <| tc k148 <| tc k152 <| tn
attribute [go_sem] K2

theorem timesB_wrap (k u : Int) : (dayB k && (u == 0 || inI u (IntKind.i64.wrap (k + 1)) 100000)) = timesB k u := by
  unfold timesB
  cases h : dayB k with
  | false => rfl
  | true =>
    unfold dayB inI at h
    simp only [Bool.and_eq_true, decide_eq_true_eq] at h
    rw [wrap_i64 (by omega) (by omega)]
    unfold inI
    simp only [Bool.true_and]
    congr 2
noncomputable def P151 : PSpec := p2 iI iI (fun _ _ => True) (fun a b => .bool (timesB a b)) true
noncomputable def S151 : Spec := P151.toSpec
attribute [go_sem] P151 S151

theorem s151 : PSound Tryz.prog 151 P151 := by
  refine w2 (rs := [.tmp 4]) Tryz.func151 Tryz.ntmps151 (by rfl) (by kernel_rfl) (by decide) (fun _ _ _ => rfl) ⟨_, rfl, lb rfl, fun k u hp hw => ?_⟩
  have hP := mixedK
  simp only [iI] at hw ⊢
  have hΓ := K2_sound
  repeat refine sq ?_
  refine rs hΓ [0,1] [] ?_
  repeat refine sq ?_
  refine rs hΓ [4] [] ?_
  refine cl_ret ?_
  simp only [go_sem]
  all_goals first | rfl | (simp; done) | (exact congrArg V.bool (timesB_wrap _ _); done)
theorem k151 : SSound Tryz.prog 151 S151 := s151.sound
noncomputable def P155 : PSpec := p2 iI iI (fun _ _ => True) (fun a b => .bool (timesB a b)) true
noncomputable def S155 : Spec := P155.toSpec
attribute [go_sem] P155 S155

theorem s155 : PSound Tryz.prog 155 P155 := by
  refine w2 (rs := [.tmp 4]) Tryz.func155 Tryz.ntmps155 (by rfl) (by kernel_rfl) (by decide) (fun _ _ _ => rfl) ⟨_, rfl, lb rfl, fun k u hp hw => ?_⟩
  have hP := mixedK
  simp only [iI] at hw ⊢
  have hΓ := K2_sound
  repeat refine sq ?_
  refine rs hΓ [0,1] [] ?_
  repeat refine sq ?_
  refine rs hΓ [4] [] ?_
  refine cl_ret ?_
  simp only [go_sem]
  all_goals first | rfl | (simp; done) | (grind [timesB]; done)
theorem k155 : SSound Tryz.prog 155 S155 := s155.sound
open Classical in
noncomputable def risB (l : List Int) : Bool := decide (∀ j (h : j < l.length), 0 < j → l[j - 1] < l[j])
theorem risB_iff {l : List Int} : risB l = true ↔ ∀ j (h : j < l.length), 0 < j → l[j - 1] < l[j] := by unfold risB; exact decide_eq_true_iff
theorem risB_bad {l : List Int} {j : Nat} (h : j < l.length) (h0 : 0 < j) (hb : l[j - 1] ≥ l[j]) : risB l = false := by
  rw [Bool.eq_false_iff]
  intro k
  have := risB_iff.1 k j h h0
  omega
theorem wrap_pred' {i n : Nat} (h0 : 0 < i) (h : i ≤ n) (hn : n ≤ maxLen) : IntKind.i64.wrap ((i : Int) - 1) = ((i - 1 : Nat) : Int) := wrap_pred (by omega) (Nat.le_trans h hn)
noncomputable def P130 : PSpec := p1 iIs (fun _ => True) (fun l => .bool (risB l)) true
noncomputable def S130 : Spec := P130.toSpec
attribute [go_sem] P130 S130

set_option maxHeartbeats 4000000 in
theorem s130 : PSound Tryz.prog 130 P130 := by
  refine w1 (rs := [.tmp 2]) Tryz.func130 Tryz.ntmps130 (by rfl) (by kernel_rfl) (by decide) (fun _ _ => rfl) ⟨_, rfl, lb rfl, fun l hp hw => ?_⟩
  have hP := mixedK
  simp only [iIs] at hw ⊢
  have hΓ := @no_sound Tryz.prog
  have hl : l.length ≤ maxLen := by have := hw.1.1; simpa using this
  repeat refine sq ?_
  refine rs hΓ [0] [] ?_
  repeat refine sq ?_
  refine rs hΓ [0,3] [] ?_
  repeat refine sq ?_
  refine cl_block ?_
  repeat refine sq ?_
  refine cl_loop' (fun i : Nat => [(3, ⟨true, .v (vInt i)⟩)]) (fun i => []) (fun i => 0 < i ∧ ∀ j (h : j < l.length), j < i → 0 < j → l[j - 1] < l[j]) (fun i => l.length - i) 1 ?_ ?_ ?_ ?_
  · exact ⟨Nat.one_pos, fun j h h1 h2 => by omega⟩
  · rfl
  · rfl
  rintro i ⟨h0, hz⟩
  simp only [go_sem]
  repeat refine sq ?_
  refine rs hΓ [0,3,7] [] ?_
  repeat refine sq ?_
  refine cl_cond rfl rfl (fun hb => ?_) fun hb => ?_
  · have hlt : i < l.length := by simpa using hb
    have hlt' : (i : Int) < l.length := by omega
    have hwp := wrap_pred' h0 (Nat.le_of_lt hlt) hl
    have hq1 : (0 : Int) ≤ ((i - 1 : Nat) : Int) := by omega
    have hq2 : ((i - 1 : Nat) : Int) < l.length := by omega
    have hq3 : i - 1 < l.length := by omega
    repeat refine sq ?_
    refine cl_skip ?_
    repeat refine sq ?_
    refine cl_block ?_
    repeat refine sq ?_
    refine dx hΓ hP [[], [], [1], [0, 1, 2], [0, 1, 2, 3], [], [], [5, 6], [5, 6, 7], [0, 1, 2, 3, 4, 5, 6, 7, 8]] [0,3,19] [] (by kernel_rfl) (fun K' hK => by simp only [go_sem, hwp, map_getD hlt, map_getD hq3, Int.toNat_natCast, Int.natCast_nonneg, hlt', hq2]; (repeat (refine ⟨ob, ?_⟩)); (first | refine ⟨by rfl, ?_⟩ | skip); exact hK _ (by simp only [go_sem]) (by simp only [go_sem] <;> rfl)) ?_
    repeat refine sq ?_
    refine cl_cond rfl rfl (fun hb => ?_) fun hb => ?_
    · repeat refine sq ?_
      repeat refine sq ?_
      refine rs hΓ [2] [] ?_
      refine cl_ret ?_
      simp only [go_sem]
      rw [risB_bad hlt h0 (by simpa using hb)]
    · replace hb : l[i - 1] < l[i] := by simpa using hb
      repeat refine sq ?_
      refine cl_skip ?_
      refine cl_nil ?_
      simp only [go_sem]
      refine kp [0,3] [] ?_
      repeat refine sq ?_
      refine cl_r hΓ fun K' hK => ?_
      simp only [go_sem]
      repeat refine ⟨ob, ?_⟩
      refine hK _ ?_
      clear K' hK
      simp only [go_sem]
      refine ⟨i + 1, ⟨by omega, fun j h h1 h2 => ?_⟩, by omega, ?_⟩
      · rcases Nat.lt_succ_iff_lt_or_eq.1 h1 with h3 | rfl
        · exact hz j h h3 h2
        · exact hb
      refine weak_eq [0,3] [] ?_ ?_
      · simp only [go_sem, wrap_succ hlt hl, Int.natCast_add, Int.natCast_one]
      · simp only [go_sem, wrap_succ hlt hl, Int.natCast_add, Int.natCast_one]
  · have hge : l.length ≤ i := by
      have : ¬ (i : Int) < l.length := by simpa using hb
      omega
    repeat refine sq ?_
    refine cl_exit ?_
    simp only [go_sem]
    refine kp [] [] ?_
    repeat refine sq ?_
    refine rs hΓ [2] [] ?_
    refine cl_ret ?_
    simp only [go_sem]
    rw [risB_iff.2 fun j h h0 => hz j h (by omega) h0]
theorem k130 : SSound Tryz.prog 130 S130 := s130.sound
/-! leaves, papers, receipts, returns, sights -/
noncomputable def K3 : List (Nat × Spec) := [(130, S130), (145, S145), (146, S146), (96, S96)]
theorem K3_sound : ∀ f s, tbl K3 f = some s → SSound Tryz.prog f s := tc k130 <| tc k145 <| tc k146 <| tc k96 <| tn
attribute [go_sem] K3

noncomputable def leavesB (l : List Int) : Bool := decide (0 < l.length) && risB l && inI (l.getD 0 0) 1 30 && inI (l.getD (l.length - 1) 0) 1 30
noncomputable def P149 : PSpec := p1 iIs (fun _ => True) (fun l => .bool (leavesB l)) true
noncomputable def S149 : Spec := P149.toSpec
attribute [go_sem] P149 S149

set_option maxHeartbeats 4000000 in
theorem s149 : PSound Tryz.prog 149 P149 := by
  refine w1 (rs := [.tmp 2]) Tryz.func149 Tryz.ntmps149 (by rfl) (by kernel_rfl) (by decide) (fun _ _ => rfl) ⟨_, rfl, lb rfl, fun l hp hw => ?_⟩
  have hP := mixedK
  simp only [iIs] at hw ⊢
  have hΓ := K3_sound
  have hl : l.length ≤ maxLen := by have := hw.1.1; simpa using this
  by_cases h0 : l.length = 0
  · have e0 : l = [] := List.length_eq_zero_iff.1 h0
    subst e0
    repeat refine sq ?_
    refine rs hΓ [0] [] ?_
    repeat refine sq ?_
    refine rs hΓ [2] [] ?_
    refine cl_ret ?_
    simp only [go_sem]
    rfl
  · have hq : 0 < l.length := by omega
    have hq' : (0 : Int) < l.length := by omega
    have hp0 := wrap_pred h0 hl
    have hp1 : ((l.length - 1 : Nat) : Int) < l.length := by omega
    have hp2 : l.length - 1 < l.length := by omega
    have hp3 : (0 : Int) ≤ ((l.length - 1 : Nat) : Int) := by omega
    have hg0 : (l.map vInt).getD 0 default = vInt (l.getD 0 0) := by rw [map_getD hq, getD_at hq]
    have hg1 : (l.map vInt).getD (l.length - 1) default = vInt (l.getD (l.length - 1) 0) := by rw [map_getD hp2, getD_at hp2]
    have hd : decide ((l.length : Int) > 0) = true := by simpa using hq
    repeat refine sq ?_
    refine rs hΓ [0] [] ?_
    repeat refine sq ?_
    refine rx hΓ [2] [] (fun K' hK => by simp only [go_sem, hp0, hg0, hg1, Int.toNat_natCast, Int.toNat_zero, Int.natCast_nonneg, hq', hp1, hd, decide_true]; (repeat (refine ⟨ob, ?_⟩)); exact hK _ (by simp only [go_sem]) (by simp only [go_sem] <;> rfl)) ?_
    refine cl_ret ?_
    simp only [go_sem]
    have hq3 : decide (0 < l.length) = true := by simpa using hq
    simp only [leavesB, hq3, Bool.true_and, Bool.decide_and, Bool.decide_eq_true]
theorem k149 : SSound Tryz.prog 149 S149 := s149.sound
theorem prev_at {i n : Nat} (h : i < n) (hn : n ≤ maxLen) : ∃ p : Nat, (IntKind.i64.wrap ((i : Int) - 1)).toNat = p ∧ p < n ∧ (0 < i → p = i - 1 ∧ 0 ≤ IntKind.i64.wrap ((i : Int) - 1) ∧ IntKind.i64.wrap ((i : Int) - 1) < n) := by
  unfold maxLen at hn
  rcases Nat.eq_zero_or_pos i with rfl | hp
  · exact ⟨0, by decide, h, fun h => by omega⟩
  · have : IntKind.i64.wrap ((i : Int) - 1) = ((i - 1 : Nat) : Int) := by rw [wrap_i64 (by omega) (by omega)]; omega
    exact ⟨i - 1, by rw [this]; rfl, by omega, fun _ => ⟨rfl, by omega, by omega⟩⟩
theorem ris_ge {l : List Int} (hr : risB l = true) : ∀ (k j : Nat) (h : j + k < l.length), l[j] + k ≤ l[j + k]
  | 0, j, h => by simp
  | k + 1, j, h => by
    have h1 := ris_ge hr k j (by omega)
    have h2 := risB_iff.1 hr (j + k + 1) (by omega) (by omega)
    have e : j + k + 1 - 1 = j + k := by omega
    simp only [e] at h2
    show l[j] + ((k + 1 : Nat) : Int) ≤ l[j + k + 1]
    omega
theorem leavesB_iff {l : List Int} : leavesB l = true ↔ 0 < l.length ∧ l.length ≤ 30 ∧ risB l = true ∧ ∀ j (h : j < l.length), inI l[j] 1 30 = true := by
  unfold leavesB
  simp only [Bool.and_eq_true, decide_eq_true_eq]
  constructor
  · rintro ⟨⟨⟨h1, h2⟩, h3⟩, h4⟩
    have hp2 : l.length - 1 < l.length := by omega
    rw [getD_at h1] at h3
    rw [getD_at hp2] at h4
    unfold inI at h3 h4 ⊢
    simp only [Bool.and_eq_true, decide_eq_true_eq] at h3 h4 ⊢
    have hlo : ∀ j (h : j < l.length), l[0] + j ≤ l[j] := fun j h => by
      have := ris_ge h2 j 0 (by omega)
      simpa using this
    have hhi : ∀ j (h : j < l.length), l[j] ≤ l[l.length - 1] := fun j h => by
      have := ris_ge h2 (l.length - 1 - j) j (by omega)
      have e : j + (l.length - 1 - j) = l.length - 1 := by omega
      simp only [e] at this
      omega
    refine ⟨h1, ?_, h2, fun j h => ?_⟩
    · have := hlo _ hp2; omega
    · have a := hlo j h; have b := hhi j h; omega
  · rintro ⟨h1, h2, h3, h4⟩
    have hp2 : l.length - 1 < l.length := by omega
    refine ⟨⟨⟨h1, h3⟩, ?_⟩, ?_⟩
    · rw [getD_at h1]; exact h4 0 h1
    · rw [getD_at hp2]; exact h4 _ hp2
theorem bool_of {b : Bool} {p : Prop} (h : b = true ↔ p) (hn : ¬ p) : b = false := by
  cases b with
  | false => rfl
  | true => exact (hn (h.1 rfl)).elim
noncomputable def P153 : PSpec := p1 iIs (fun _ => True) (fun l => .bool (leavesB l)) true
noncomputable def S153 : Spec := P153.toSpec
attribute [go_sem] P153 S153

set_option maxHeartbeats 4000000 in
theorem s153 : PSound Tryz.prog 153 P153 := by
  refine w1 (rs := [.tmp 2]) Tryz.func153 Tryz.ntmps153 (by rfl) (by kernel_rfl) (by decide) (fun _ _ => rfl) ⟨_, rfl, lb rfl, fun l hp hw => ?_⟩
  have hP := mixedK
  simp only [iIs] at hw ⊢
  have hΓ := K3_sound
  have hl : l.length ≤ maxLen := by have := hw.1.1; simpa using this
  repeat refine sq ?_
  refine rs hΓ [0] [] ?_
  repeat refine sq ?_
  refine rs hΓ [0,3] [] ?_
  repeat refine sq ?_
  refine cl_block ?_
  repeat refine sq ?_
  refine cl_loop' (fun i : Nat => [(3, ⟨true, .v (vInt i)⟩)]) (fun i => []) (fun i => i ≤ l.length ∧ ∀ j (h : j < l.length), j < i → inI l[j] 1 30 = true ∧ (0 < j → l[j - 1] < l[j])) (fun i => l.length - i) 0 ?_ ?_ ?_ ?_
  · exact ⟨Nat.zero_le _, fun j h h1 => by omega⟩
  · rfl
  · rfl
  rintro i ⟨h0, hz⟩
  simp only [go_sem]
  repeat refine sq ?_
  refine rs hΓ [0,3,7] [] ?_
  repeat refine sq ?_
  refine cl_cond rfl rfl (fun hb => ?_) fun hb => ?_
  · have hlt : i < l.length := by simpa using hb
    have hlt' : (i : Int) < l.length := by omega
    obtain ⟨p, hp, hpl, hpos⟩ := prev_at hlt hl
    repeat refine sq ?_
    refine cl_skip ?_
    repeat refine sq ?_
    refine cl_block ?_
    repeat refine sq ?_
    refine dx hΓ hP [[], [], [0, 1], [0, 1, 2], [0, 1, 2, 3], [0, 1, 2, 3, 4], [0, 1, 2, 3, 4, 5], [0, 1, 2, 3, 4, 5, 6], [0, 1, 2, 3, 4, 5, 6, 7], [0, 1, 2, 3, 4, 5, 6, 7, 8], [0, 1, 2, 3, 4, 5, 6, 7, 8, 9], [0, 1, 2, 3, 4, 5, 6, 7, 8, 9], [0, 1, 2, 3, 4, 5, 6, 7, 8, 9, 11], [0, 1, 2, 3, 4, 5, 6, 7, 8, 9, 10, 11, 12], [0, 1, 2, 3, 4, 5, 6, 7, 8, 9, 10, 11, 12, 13], [0, 1, 2, 3, 4, 5, 6, 7, 8, 9], [0, 1, 2, 3, 4, 5, 6, 7, 8, 9], [0, 1, 2, 3, 4, 5, 6, 7, 8, 9, 15, 16], [0, 1, 2, 3, 4, 5, 6, 7, 8, 9, 15, 16, 17], [0, 1, 2, 3, 4, 5, 6, 7, 8, 9, 10, 11, 12, 13, 14, 15, 16, 17, 18], [0, 1, 2, 3, 4, 5, 6, 7, 8, 9, 10, 11, 12, 13, 14, 15, 16, 17, 18, 19], [0, 1, 2, 3, 4, 5, 6, 7, 8, 9, 10, 11, 12, 13, 14, 15, 16, 17, 18, 19, 20]] [0,3,31] [] (by kernel_rfl) (fun K' hK => by simp only [go_sem, hp, map_getD hlt, map_getD hpl, Int.toNat_natCast, Int.natCast_nonneg, hlt']; (repeat (refine ⟨by first | exact ob | (intro h; have := hpos (by simp_all); simp_all; done), ?_⟩)); (first | refine ⟨by rfl, ?_⟩ | skip); exact hK _ (by simp only [go_sem]) (by simp only [go_sem] <;> rfl)) ?_
    repeat refine sq ?_
    refine cl_cond rfl rfl (fun hb => ?_) fun hb => ?_
    · repeat refine sq ?_
      repeat refine sq ?_
      refine rs hΓ [2] [] ?_
      refine cl_ret ?_
      simp only [go_sem]
      rw [bool_of leavesB_iff]
      rintro ⟨_, _, h3, h4⟩
      have h5 := h4 i hlt
      have h6 := risB_iff.1 h3 i hlt
      simp only [h5, Bool.not_true, Bool.false_or, Bool.and_eq_true, decide_eq_true_eq] at hb
      obtain ⟨e, _⟩ := hpos (by omega)
      subst e
      have := h6 (by omega)
      omega
    · have hn : inI l[i] 1 30 = true ∧ (0 < i → l[i - 1] < l[i]) := by
        simp only [Bool.or_eq_false_iff, Bool.not_eq_false', Bool.and_eq_false_iff, decide_eq_false_iff_not] at hb
        refine ⟨hb.1, fun h => ?_⟩
        obtain ⟨e, _⟩ := hpos h
        subst e
        omega
      repeat refine sq ?_
      refine cl_skip ?_
      refine cl_nil ?_
      simp only [go_sem]
      refine kp [0,3] [] ?_
      repeat refine sq ?_
      refine cl_r hΓ fun K' hK => ?_
      simp only [go_sem]
      repeat refine ⟨ob, ?_⟩
      refine hK _ ?_
      clear K' hK
      simp only [go_sem]
      refine ⟨i + 1, ⟨by omega, fun j h h1 => ?_⟩, by omega, ?_⟩
      · rcases Nat.lt_succ_iff_lt_or_eq.1 h1 with h3 | rfl
        · exact hz j h h3
        · exact hn
      refine weak_eq [0,3] [] ?_ ?_
      · simp only [go_sem, wrap_succ hlt hl, Int.natCast_add, Int.natCast_one]
      · simp only [go_sem, wrap_succ hlt hl, Int.natCast_add, Int.natCast_one]
  · have hge : l.length = i := by
      have : ¬ (i : Int) < l.length := by simpa using hb
      omega
    repeat refine sq ?_
    refine cl_exit ?_
    simp only [go_sem]
    refine kp [0] [] ?_
    repeat refine sq ?_
    refine rs hΓ [2] [] ?_
    refine cl_ret ?_
    simp only [go_sem]
    congr 1
    rw [Bool.eq_iff_iff, leavesB_iff]
    unfold inI
    simp only [Bool.and_eq_true, decide_eq_true_eq]
    constructor
    · rintro ⟨h1, h2⟩
      exact ⟨by omega, by omega, risB_iff.2 fun j h h0 => (hz j h (by omega)).2 h0, fun j h => by have := (hz j h (by omega)).1; unfold inI at this; simpa using this⟩
    · rintro ⟨h1, h2, _⟩
      omega
theorem k153 : SSound Tryz.prog 153 S153 := s153.sound
/-! valid papers, receipts, returns, sights -/
noncomputable def K4 : List (Nat × Spec) := [(96, S96), (144, S144), (145, S145), (146, S146), (147, S147), (148, S148), (149, S149), (150, S150), (151, S151), (152, S152), (153, S153), (154, S154), (155, S155)]
theorem K4_sound : ∀ f s, tbl K4 f = some s → SSound Tryz.prog f s := tc k96 <| tc k144 <| tc k145 <| tc k146 <| tc k147 <| tc k148 <| tc k149 <| tc k150 <| tc k151 <| tc k152 <| tc k153 <| tc k154 <| tc k155 <| tn
attribute [go_sem] K4

/-- No error, or this one. -/
def errI (b : Bool) (n : Int) : Int := if b then 0 else n
theorem errI_ne (b : Bool) (n : Int) (hn : n ≠ 0) : (errI b n != 0) = !b := by cases b <;> simp [errI, hn]
def papB (p : Pap) : Bool := inI p.id 1 999 && inI p.lv 1 30
noncomputable def recB (r : Rec) : Bool := inI r.so 1 99999 && inI r.bo 1 99 && inI r.pa 1 999 && leavesB r.lv && dayB r.da && timesB r.kn r.un
noncomputable def retB (r : Ret) : Bool := inI r.so 1 99999 && inI r.re 1 99999 && inI r.pe 1 99 && leavesB r.lv && inI r.lo 0 r.hi && dayB r.hi && timesB r.kn r.un
def sigB (s : Sig) : Bool := inI s.so 1 99999 && inI s.pe 0 99 && inI s.pa 1 999 && inI s.le 1 30 && dayB s.da && timesB s.kn s.un
noncomputable def P61 : PSpec := p1 iP (fun _ => True) (fun x => vInt (errI (papB x) 20)) true
noncomputable def S61 : Spec := P61.toSpec
attribute [go_sem] P61 S61

set_option maxHeartbeats 4000000 in
theorem s61 : PSound Tryz.prog 61 P61 := by
  refine w1 (rs := [.tmp 2]) Tryz.func61 Tryz.ntmps61 (by rfl) (by kernel_rfl) (by decide) (fun _ _ => rfl) ⟨_, rfl, lb rfl, fun x hp hw => ?_⟩
  have hP := mixedK
  simp only [iP, encP] at hw ⊢
  have hΓ := K4_sound
  repeat refine sq ?_
  refine rs hΓ [1] [[1, 0]] ?_
  repeat refine sq ?_
  refine rs hΓ [12] [] ?_
  repeat refine cl_seq ?_
  refine cl_cond rfl rfl (fun hb => ?_) fun hb => ?_
  · skip
    repeat refine cl_seq ?_
    repeat refine sq ?_
    refine rs hΓ [2] [] ?_
    refine cl_ret ?_
    simp only [go_sem]
    all_goals first | rfl | (simp; done) | (grind [papB, errI]; done)
  · skip
    repeat refine cl_seq ?_
    refine cl_skip ?_
    repeat refine sq ?_
    refine rs hΓ [2] [] ?_
    refine cl_ret ?_
    simp only [go_sem]
    all_goals first | rfl | (simp; done) | (grind [papB, errI]; done)
theorem k61 : SSound Tryz.prog 61 S61 := s61.sound

noncomputable def P62 : PSpec := p1 iP (fun _ => True) (fun x => vInt (errI (papB x) 20)) true
noncomputable def S62 : Spec := P62.toSpec
attribute [go_sem] P62 S62

set_option maxHeartbeats 4000000 in
theorem s62 : PSound Tryz.prog 62 P62 := by
  refine w1 (rs := [.tmp 2]) Tryz.func62 Tryz.ntmps62 (by rfl) (by kernel_rfl) (by decide) (fun _ _ => rfl) ⟨_, rfl, lb rfl, fun x hp hw => ?_⟩
  have hP := mixedK
  simp only [iP, encP] at hw ⊢
  have hΓ := K4_sound
  repeat refine sq ?_
  refine rs hΓ [1] [[1, 0]] ?_
  repeat refine sq ?_
  refine rs hΓ [12] [] ?_
  repeat refine cl_seq ?_
  refine cl_cond rfl rfl (fun hb => ?_) fun hb => ?_
  · skip
    repeat refine cl_seq ?_
    repeat refine sq ?_
    refine rs hΓ [2] [] ?_
    refine cl_ret ?_
    simp only [go_sem]
    all_goals first | rfl | (simp; done) | (grind [papB, errI]; done)
  · skip
    repeat refine cl_seq ?_
    refine cl_skip ?_
    repeat refine sq ?_
    refine rs hΓ [2] [] ?_
    refine cl_ret ?_
    simp only [go_sem]
    all_goals first | rfl | (simp; done) | (grind [papB, errI]; done)
theorem k62 : SSound Tryz.prog 62 S62 := s62.sound

noncomputable def P63 : PSpec := p1 iR (fun _ => True) (fun x => vInt (errI (recB x) 21)) true
noncomputable def S63 : Spec := P63.toSpec
attribute [go_sem] P63 S63

set_option maxHeartbeats 4000000 in
theorem s63 : PSound Tryz.prog 63 P63 := by
  refine w1 (rs := [.tmp 2]) Tryz.func63 Tryz.ntmps63 (by rfl) (by kernel_rfl) (by decide) (fun _ _ => rfl) ⟨_, rfl, lb rfl, fun x hp hw => ?_⟩
  have hP := mixedK
  simp only [iR, encR] at hw ⊢
  have hΓ := K4_sound
  repeat refine sq ?_
  refine rs hΓ [1] [[1, 0]] ?_
  repeat refine sq ?_
  refine rs hΓ [38] [] ?_
  repeat refine cl_seq ?_
  refine cl_cond rfl rfl (fun hb => ?_) fun hb => ?_
  · skip
    repeat refine cl_seq ?_
    repeat refine sq ?_
    refine rs hΓ [2] [] ?_
    refine cl_ret ?_
    simp only [go_sem]
    all_goals first | rfl | (simp; done) | (grind [recB, errI]; done)
  · skip
    repeat refine cl_seq ?_
    refine cl_skip ?_
    repeat refine sq ?_
    refine rs hΓ [2] [] ?_
    refine cl_ret ?_
    simp only [go_sem]
    all_goals first | rfl | (simp; done) | (grind [recB, errI]; done)
theorem k63 : SSound Tryz.prog 63 S63 := s63.sound

noncomputable def P64 : PSpec := p1 iR (fun _ => True) (fun x => vInt (errI (recB x) 21)) true
noncomputable def S64 : Spec := P64.toSpec
attribute [go_sem] P64 S64

set_option maxHeartbeats 4000000 in
theorem s64 : PSound Tryz.prog 64 P64 := by
  refine w1 (rs := [.tmp 2]) Tryz.func64 Tryz.ntmps64 (by rfl) (by kernel_rfl) (by decide) (fun _ _ => rfl) ⟨_, rfl, lb rfl, fun x hp hw => ?_⟩
  have hP := mixedK
  simp only [iR, encR] at hw ⊢
  have hΓ := K4_sound
  repeat refine sq ?_
  refine rs hΓ [1] [[1, 0]] ?_
  repeat refine sq ?_
  refine rs hΓ [38] [] ?_
  repeat refine cl_seq ?_
  refine cl_cond rfl rfl (fun hb => ?_) fun hb => ?_
  · skip
    repeat refine cl_seq ?_
    repeat refine sq ?_
    refine rs hΓ [2] [] ?_
    refine cl_ret ?_
    simp only [go_sem]
    all_goals first | rfl | (simp; done) | (grind [recB, errI]; done)
  · skip
    repeat refine cl_seq ?_
    refine cl_skip ?_
    repeat refine sq ?_
    refine rs hΓ [2] [] ?_
    refine cl_ret ?_
    simp only [go_sem]
    all_goals first | rfl | (simp; done) | (grind [recB, errI]; done)
theorem k64 : SSound Tryz.prog 64 S64 := s64.sound

noncomputable def P65 : PSpec := p1 iT (fun _ => True) (fun x => vInt (errI (retB x) 22)) true
noncomputable def S65 : Spec := P65.toSpec
attribute [go_sem] P65 S65

set_option maxHeartbeats 4000000 in
theorem s65 : PSound Tryz.prog 65 P65 := by
  refine w1 (rs := [.tmp 2]) Tryz.func65 Tryz.ntmps65 (by rfl) (by kernel_rfl) (by decide) (fun _ _ => rfl) ⟨_, rfl, lb rfl, fun x hp hw => ?_⟩
  have hP := mixedK
  simp only [iT, encT] at hw ⊢
  have hΓ := K4_sound
  repeat refine sq ?_
  refine rs hΓ [1] [[1, 0]] ?_
  repeat refine sq ?_
  refine rs hΓ [49] [] ?_
  repeat refine cl_seq ?_
  refine cl_cond rfl rfl (fun hb => ?_) fun hb => ?_
  · skip
    repeat refine cl_seq ?_
    repeat refine sq ?_
    refine rs hΓ [2] [] ?_
    refine cl_ret ?_
    simp only [go_sem]
    all_goals first | rfl | (simp; done) | (grind [retB, errI]; done)
  · skip
    repeat refine cl_seq ?_
    refine cl_skip ?_
    repeat refine sq ?_
    refine rs hΓ [2] [] ?_
    refine cl_ret ?_
    simp only [go_sem]
    all_goals first | rfl | (simp; done) | (grind [retB, errI]; done)
theorem k65 : SSound Tryz.prog 65 S65 := s65.sound

noncomputable def P67 : PSpec := p1 iS (fun _ => True) (fun x => vInt (errI (sigB x) 23)) true
noncomputable def S67 : Spec := P67.toSpec
attribute [go_sem] P67 S67

set_option maxHeartbeats 4000000 in
theorem s67 : PSound Tryz.prog 67 P67 := by
  refine w1 (rs := [.tmp 2]) Tryz.func67 Tryz.ntmps67 (by rfl) (by kernel_rfl) (by decide) (fun _ _ => rfl) ⟨_, rfl, lb rfl, fun x hp hw => ?_⟩
  have hP := mixedK
  simp only [iS, encS] at hw ⊢
  have hΓ := K4_sound
  repeat refine sq ?_
  refine rs hΓ [1] [[1, 0]] ?_
  repeat refine sq ?_
  refine rs hΓ [38] [] ?_
  repeat refine cl_seq ?_
  refine cl_cond rfl rfl (fun hb => ?_) fun hb => ?_
  · skip
    repeat refine cl_seq ?_
    repeat refine sq ?_
    refine rs hΓ [2] [] ?_
    refine cl_ret ?_
    simp only [go_sem]
    all_goals first | rfl | (simp; done) | (grind [sigB, errI]; done)
  · skip
    repeat refine cl_seq ?_
    refine cl_skip ?_
    repeat refine sq ?_
    refine rs hΓ [2] [] ?_
    refine cl_ret ?_
    simp only [go_sem]
    all_goals first | rfl | (simp; done) | (grind [sigB, errI]; done)
theorem k67 : SSound Tryz.prog 67 S67 := s67.sound

noncomputable def P68 : PSpec := p1 iS (fun _ => True) (fun x => vInt (errI (sigB x) 23)) true
noncomputable def S68 : Spec := P68.toSpec
attribute [go_sem] P68 S68

set_option maxHeartbeats 4000000 in
theorem s68 : PSound Tryz.prog 68 P68 := by
  refine w1 (rs := [.tmp 2]) Tryz.func68 Tryz.ntmps68 (by rfl) (by kernel_rfl) (by decide) (fun _ _ => rfl) ⟨_, rfl, lb rfl, fun x hp hw => ?_⟩
  have hP := mixedK
  simp only [iS, encS] at hw ⊢
  have hΓ := K4_sound
  repeat refine sq ?_
  refine rs hΓ [1] [[1, 0]] ?_
  repeat refine sq ?_
  refine rs hΓ [38] [] ?_
  repeat refine cl_seq ?_
  refine cl_cond rfl rfl (fun hb => ?_) fun hb => ?_
  · skip
    repeat refine cl_seq ?_
    repeat refine sq ?_
    refine rs hΓ [2] [] ?_
    refine cl_ret ?_
    simp only [go_sem]
    all_goals first | rfl | (simp; done) | (grind [sigB, errI]; done)
  · skip
    repeat refine cl_seq ?_
    refine cl_skip ?_
    repeat refine sq ?_
    refine rs hΓ [2] [] ?_
    refine cl_ret ?_
    simp only [go_sem]
    all_goals first | rfl | (simp; done) | (grind [sigB, errI]; done)
theorem k68 : SSound Tryz.prog 68 S68 := s68.sound

noncomputable def P66 : PSpec := p1 iT (fun _ => True) (fun x => vInt (errI (retB x) 22)) true
noncomputable def S66 : Spec := P66.toSpec
attribute [go_sem] P66 S66

set_option maxHeartbeats 4000000 in
theorem s66 : PSound Tryz.prog 66 P66 := by
  refine w1 (rs := [.tmp 2]) Tryz.func66 Tryz.ntmps66 (by rfl) (by kernel_rfl) (by decide) (fun _ _ => rfl) ⟨_, rfl, lb rfl, fun x hp hw => ?_⟩
  have hP := mixedK
  simp only [iT, encT] at hw ⊢
  have hΓ := K4_sound
  repeat refine sq ?_
  refine rs hΓ [1] [[1, 0]] ?_
  repeat refine sq ?_
  refine rs hΓ [1,32] [[1, 0]] ?_
  repeat refine cl_seq ?_
  refine cl_cond rfl rfl (fun hb => ?_) fun hb => ?_
  · skip
    repeat refine cl_seq ?_
    repeat refine sq ?_
    refine rs hΓ [2] [] ?_
    refine cl_ret ?_
    simp only [go_sem]
    all_goals first | rfl | (simp; done) | (grind [errI, retB, inI, dayB]; done)
  · skip
    repeat refine cl_seq ?_
    refine cl_skip ?_
    repeat refine sq ?_
    refine rs hΓ [51] [] ?_
    repeat refine cl_seq ?_
    refine cl_cond rfl rfl (fun hb => ?_) fun hb => ?_
    · skip
      repeat refine cl_seq ?_
      repeat refine sq ?_
      refine rs hΓ [2] [] ?_
      refine cl_ret ?_
      simp only [go_sem]
      all_goals first | rfl | (simp; done) | (grind [errI, retB, inI, dayB]; done)
    · skip
      repeat refine cl_seq ?_
      refine cl_skip ?_
      repeat refine sq ?_
      refine rs hΓ [2] [] ?_
      refine cl_ret ?_
      simp only [go_sem]
      all_goals first | rfl | (simp; done) | (grind [errI, retB, inI, dayB]; done)
theorem k66 : SSound Tryz.prog 66 S66 := s66.sound
noncomputable def P110 : PSpec := p1 iP (fun _ => True) (fun x => vInt x.id) true
noncomputable def S110 : Spec := P110.toSpec
attribute [go_sem] P110 S110

theorem s110 : PSound Tryz.prog 110 P110 := by
  refine w1 (rs := [.tmp 2]) Tryz.func110 Tryz.ntmps110 (by rfl) (by kernel_rfl) (by decide) (fun _ _ => rfl) ⟨_, rfl, lb rfl, fun x hp hw => ?_⟩
  have hP := mixedK
  simp only [iP, encP] at hw ⊢
  have hΓ := @no_sound Tryz.prog
  repeat refine sq ?_
  refine rs hΓ [1] [[1, 0]] ?_
  repeat refine sq ?_
  refine rs hΓ [2] [] ?_
  refine cl_ret ?_
  simp only [go_sem]
  all_goals first | rfl | (simp; done) | (simp_all; done)
theorem k110 : SSound Tryz.prog 110 S110 := s110.sound

noncomputable def P112 : PSpec := p1 iR (fun _ => True) (fun x => vInt x.so) true
noncomputable def S112 : Spec := P112.toSpec
attribute [go_sem] P112 S112

theorem s112 : PSound Tryz.prog 112 P112 := by
  refine w1 (rs := [.tmp 2]) Tryz.func112 Tryz.ntmps112 (by rfl) (by kernel_rfl) (by decide) (fun _ _ => rfl) ⟨_, rfl, lb rfl, fun x hp hw => ?_⟩
  have hP := mixedK
  simp only [iR, encR] at hw ⊢
  have hΓ := @no_sound Tryz.prog
  repeat refine sq ?_
  refine rs hΓ [1] [[1, 0]] ?_
  repeat refine sq ?_
  refine rs hΓ [2] [] ?_
  refine cl_ret ?_
  simp only [go_sem]
  all_goals first | rfl | (simp; done) | (simp_all; done)
theorem k112 : SSound Tryz.prog 112 S112 := s112.sound

noncomputable def P114 : PSpec := p1 iT (fun _ => True) (fun x => vInt x.so) true
noncomputable def S114 : Spec := P114.toSpec
attribute [go_sem] P114 S114

theorem s114 : PSound Tryz.prog 114 P114 := by
  refine w1 (rs := [.tmp 2]) Tryz.func114 Tryz.ntmps114 (by rfl) (by kernel_rfl) (by decide) (fun _ _ => rfl) ⟨_, rfl, lb rfl, fun x hp hw => ?_⟩
  have hP := mixedK
  simp only [iT, encT] at hw ⊢
  have hΓ := @no_sound Tryz.prog
  repeat refine sq ?_
  refine rs hΓ [1] [[1, 0]] ?_
  repeat refine sq ?_
  refine rs hΓ [2] [] ?_
  refine cl_ret ?_
  simp only [go_sem]
  all_goals first | rfl | (simp; done) | (simp_all; done)
theorem k114 : SSound Tryz.prog 114 S114 := s114.sound

noncomputable def P116 : PSpec := p1 iS (fun _ => True) (fun x => vInt x.so) true
noncomputable def S116 : Spec := P116.toSpec
attribute [go_sem] P116 S116

theorem s116 : PSound Tryz.prog 116 P116 := by
  refine w1 (rs := [.tmp 2]) Tryz.func116 Tryz.ntmps116 (by rfl) (by kernel_rfl) (by decide) (fun _ _ => rfl) ⟨_, rfl, lb rfl, fun x hp hw => ?_⟩
  have hP := mixedK
  simp only [iS, encS] at hw ⊢
  have hΓ := @no_sound Tryz.prog
  repeat refine sq ?_
  refine rs hΓ [1] [[1, 0]] ?_
  repeat refine sq ?_
  refine rs hΓ [2] [] ?_
  refine cl_ret ?_
  simp only [go_sem]
  all_goals first | rfl | (simp; done) | (simp_all; done)
theorem k116 : SSound Tryz.prog 116 S116 := s116.sound

end Go.Eng
