import Derived.Test.YtckmfkgppohnmaaGreatDoorK5
import Derived.Laws.Bits64
import Derived.KernelRfl
import Derived.Test.YtckmfkgppohnmaaGreatDoorProg
/- Texts InsD to N1. -/
set_option linter.all false
/- The engine's contract of slices.Clone; both contracts, to be run. -/
namespace Go.Eng
open Go Go.RowKit

structure CloneLaw (P : Program) (F T E K BY : Nat) (Z : Value) : Prop where
  tE : tElem P T = some (E, K, BY)
  tZ : tZero P E = some Z
  ne : F ≠ yid
  enter : ∀ args w, (callFunc F args).run P w = .ok (.enter F args) w
  nil : ∀ (n c : Nat) (w : World), Calls P F #[.slice none n c] w fun e w' => e = .returned (.slice none 0 0) ∧ w' = w
  some : ∀ (a : Addr) (n c : Nat) (w : World) (v' : Value) (w' : World),
    (∀ ty, (Builtin.append_ #[T, T] ty #[.slice (some ⟨w.heap.size, 0, none⟩) 0 0, .slice (some a) n c]).run P (w.alloc (.cells #[] E)) = .ok v' w') →
    Calls P F #[.slice (some a) n c] w fun e w1 => e = .returned v' ∧ w1 = w'

def aClone (P : Program) (obj : Name → Option O) (t : Name) (T : TypeId) (x : D) : R :=
  match (srcL obj x).2 with
  | [] => ⟨(srcL obj x).1, .nilsl, obj⟩
  | _ :: _ => aAppend P obj t T T .nilsl x
def cloneSpec (P : Program) (T : TypeId) : Spec where
  app obj t ds := match ds with | [x] => aClone P obj t T x | _ => .bad obj
  foot obj t ds := match ds with | [x] => tops .nilsl ++ tops x ++ [nmO t] | _ => []
  wrt obj t ds := match ds with | [x] => tops .nilsl ++ tops x ++ [nmO t] | _ => []

theorem like_clone {P : Program} {obj obj2 : Name → Option O} {t : Name} {T : TypeId} {x : D} (h : Agr (tops .nilsl ++ tops x ++ [nmO t]) obj obj2) :
    Like (aClone P obj t T x) (aClone P obj2 t T x) obj obj2 (tops .nilsl ++ tops x ++ [nmO t]) := by
  have h2 : srcL obj2 x = srcL obj x := srcL_like fun nm hn => h nm (by simp [hn])
  have l := like_append (P := P) (obj := obj) (obj2 := obj2) (t := t) (T1 := T) (T2 := T) (s := .nilsl) (x := x) h
  unfold aClone
  rw [h2]
  split
  · have l0 : Like ⟨True, D.nilsl, obj⟩ ⟨True, D.nilsl, obj2⟩ obj obj2 (tops .nilsl ++ tops x ++ [nmO t]) := ⟨rfl, rfl, fun nm => by
      show obj2 nm = if _ then obj nm else obj2 nm
      split
      · exact h nm (by assumption)
      · rfl, fun _ _ => rfl⟩
    exact ⟨rfl, l0.d, l0.eff, l0.frame⟩
  · exact l
theorem cloneSpec_near (P : Program) (T : TypeId) : (cloneSpec P T).Near := by
  refine ⟨fun obj obj2 t ds h => ?_, fun obj obj2 t ds h => rfl, fun obj t ds nm hn => hn, fun obj obj2 t ds h => rfl⟩
  simp only [cloneSpec] at h ⊢
  split
  · exact like_clone h
  · exact .same rfl rfl rfl rfl

theorem clone_sound {P : Program} {F T E K BY : Nat} {Z : Value} (L : CloneLaw P F T E K BY Z) : SSound P F (cloneSpec P T) := by
  refine ⟨cloneSpec_near P T, fun _ => L.enter, fun _ G φ m σ a w hC t ds us _ hl hr hok => ?_, fun e => (L.ne e).elim⟩
  simp only [cloneSpec] at hok ⊢
  split at hok
  case h_2 => exact hok.elim
  rename_i x
  simp only [List.length_cons, List.length_nil] at hl
  have r0 := hr 0 (by simp) (by omega)
  simp only [List.getElem_cons_zero] at r0
  have hus : us = #[us[0]] := by
    apply Array.ext
    · simp; omega
    · intro j h1 h2
      have : j = 0 := by omega
      subst this; rfl
  rw [hus]
  generalize us[0] = u0 at r0
  clear hus hr hl us
  obtain ⟨hu, i, hi, his, _⟩ := tElem_spec L.tE
  have hsrc1 : (srcL σ.obj x).1 := by
    unfold aClone at hok
    split at hok
    · exact hok
    · simp only [aAppend, L.tE, L.tZ] at hok
      exact hok.1
  have hval : ∃ base n c, u0 = .slice base n c ∧ ((srcL σ.obj x).2 = [] → n = 0) ∧ (base = none → (srcL σ.obj x).2 = []) := by
    unfold srcL at hsrc1 ⊢
    split at hsrc1
    · rename_i l
      cases r0 with
      | v _ _ r0 =>
      cases r0 with
      | slnil a cap => exact ⟨a, 0, cap, rfl, fun _ => rfl, fun _ => rfl⟩
      | sl _ b o cap sz c hn _ _ _ _ _ _ => exact ⟨_, _, _, rfl, fun h => (hn h).elim, fun h => by cases h⟩
    · cases r0 with
      | nilsl a => exact ⟨a, 0, 0, rfl, fun _ => rfl, fun _ => rfl⟩
    · rename_i nm k
      have lenk : ∀ (l : List V) (o : O), σ.obj nm = some o → o.len? = some l.length → k = l.length → (∀ (h : (φ nm).nul = true), l = []) →
          ∃ base n c, u0 = .slice base n c ∧ (l = [] → n = 0) ∧ (base = none → l = []) := by
        intro l o ho hlen hk hnul
        cases r0 with
        | msl _ _ _ hh _ =>
        obtain ⟨o', n, ho', hlen', _, hv⟩ := hh
        rw [ho] at ho'; cases ho'
        rw [hlen] at hlen'; cases hlen'
        rw [hv hk]
        unfold Loc.slice
        cases hn : (φ nm).nul with
        | true => exact ⟨_, _, _, rfl, fun _ => rfl, fun _ => hnul hn⟩
        | false => exact ⟨_, _, _, rfl, fun h => by rw [hk, h]; rfl, fun h => by cases h⟩
      split at hsrc1
      · rename_i s l ho
        refine lenk l _ ho rfl hsrc1 fun hn => ?_
        rcases hC.objs nm _ ho with ⟨_, h⟩ | ⟨h, _⟩
        · exact h
        · rw [hn] at h; cases h
      · rename_i s l ho
        refine lenk l _ ho rfl hsrc1 fun hn => ?_
        rcases hC.objs nm _ ho with ⟨_, h⟩ | ⟨h, _⟩
        · exact h
        · rw [hn] at h; cases h
      · exact hsrc1.elim
    · exact hsrc1.elim
  obtain ⟨base, n, c, rfl, hn0, hbn⟩ := hval
  cases base with
  | none =>
    have he := hbn rfl
    refine (L.nil n c w).mono ?_
    rintro e w' ⟨rfl, rfl⟩
    unfold aClone
    rw [he]
    exact ⟨_, φ, m, rfl, hC, .nilsl _, .refl _ _⟩
  | some ad =>
    obtain ⟨m1, hm1, hC1, _⟩ := hC.immNew #[] E
    have hx1 : RepD φ σ.obj m1 x (.slice (some ad) n c) := r0.ext hm1 (Ext.refl _ _)
    cases hl : (srcL σ.obj x).2 with
    | nil =>
      have hn := hn0 hl
      subst hn
      refine (L.some ad 0 c w (.slice (some ⟨w.heap.size, 0, none⟩) 0 0) (w.alloc (.cells #[] E)) fun ty => ?_).mono ?_
      · simp [Builtin.append_, run_underlying hu, sizeOf, typeInfo, hi, Builtin.lenOf, Builtin.firstCells, loadCells, loadCellsFrom, storeCells]
      · rintro e w' ⟨rfl, rfl⟩
        unfold aClone
        rw [hl]
        exact ⟨_, φ, m1, rfl, hC1, .nilsl _, .refl _ _⟩
    | cons y r =>
      have hap : (aAppend P σ.obj t T T .nilsl x).ok := by
        unfold aClone at hok
        rw [hl] at hok
        exact hok
      obtain ⟨v, w', h1, φ', m', h2, h3, h4⟩ := s_appendX (ty := 0) hC1 (.nilsl (some ⟨w.heap.size, 0, none⟩)) hx1 hap
      refine (L.some ad n c w v w' fun ty => ?_).mono ?_
      · rw [← h1]; rfl
      · rintro e w1 ⟨rfl, rfl⟩
        unfold aClone
        rw [hl]
        exact ⟨v, φ', m', rfl, h2, h3, h4⟩

/-! to be run -/
def bClone (P : Program) (obj : Name → Option O) (t : Name) (T : TypeId) (x : D) : Bool :=
  match (srcL obj x).2 with
  | [] => bSrc obj x
  | _ :: _ => bAppend P obj t T T .nilsl x
theorem bClone_ok {P : Program} {obj : Name → Option O} {t : Name} {T : TypeId} {x : D} (h : bClone P obj t T x = true) : (aClone P obj t T x).ok := by
  unfold bClone at h
  unfold aClone
  split at h
  · exact bSrc_ok h
  · exact bAppend_ok h
def bInsert (P : Program) (obj : Name → Option O) (t : Name) (T : TypeId) (s i x : D) : Bool :=
  match i with
  | .v (.int .i64 n) => match x with
    | .v (.sl vs) => match s with
      | .nilsl => bAppend P obj t T T .nilsl (.v (.sl vs)) && iLe n 0 && iLe 0 n && !vs.isEmpty
      | .msl nm k => match obj nm with
        | some (.arr sz l) => match Nat.beq n.toNat l.length with
          | true => bAppend P obj t T T (.msl nm k) (.v (.sl vs)) && iLe 0 n && !vs.isEmpty
          | false => bAppend P obj t T T (.msl nm k) (.v (.sl vs)) && iLe 0 n && nLt n.toNat l.length && !vs.isEmpty
        | _ => false
      | _ => false
    | _ => false
  | _ => false
theorem bInsert_ok {P : Program} {obj : Name → Option O} {t : Name} {T : TypeId} {s i x : D} (h : bInsert P obj t T s i x = true) : (aInsert P obj t T s i x).ok := by
  have hne : ∀ {vs : List V}, (!vs.isEmpty) = true → vs ≠ [] := by intro vs h e; subst e; simp at h
  unfold bInsert at h
  unfold aInsert
  split at h
  · split at h
    · split at h
      · simp only [Bool.and_eq_true] at h
        exact ⟨bAppend_ok h.1.1.1, by have := iLe_ok h.1.1.2; have := iLe_ok h.1.2; omega, hne h.2⟩
      · split at h
        · split at h
          · rename_i hb
            simp only [Bool.and_eq_true] at h
            simp only [*]
            exact ⟨bAppend_ok h.1.1, iLe_ok h.1.2, hne h.2⟩
          · simp only [Bool.and_eq_true] at h
            simp only [*]
            exact ⟨bAppend_ok h.1.1.1, iLe_ok h.1.1.2, nLt_ok h.1.2, hne h.2⟩
        · cases h
      · cases h
    · cases h
  · cases h

theorem run_rW {s : Spec} {obj : Name → Option O} {t : Name} {ds : List D} {b : Bool} {r : R} {W : List Name} {x : RunR} (h : rW b r W W = some x) (hs : s.app obj t ds = r) (hF : s.foot obj t ds = W) (hW : s.wrt obj t ds = W)
    (hb : b = true → r.ok) (hfr : ∀ nm, nm ∉ W → r.obj nm = obj nm) :
    (s.app obj t ds).ok ∧ (s.app obj t ds).d = x.d ∧ s.foot obj t ds = x.foot ∧ s.wrt obj t ds = x.wrt ∧ ∀ tbl, lookT tbl = obj → lookT (x.tf tbl) = (s.app obj t ds).obj := by
  cases b with
  | false => cases h
  | true =>
    simp only [rW, cond_true, Option.some.injEq] at h
    subst h
    rw [hs, hF, hW]
    refine ⟨hb rfl, rfl, rfl, rfl, fun tbl htbl => ?_⟩
    funext nm
    show lookT (applyW tbl W r.obj) nm = _
    rw [lookT_applyW]
    split
    · rfl
    · rename_i hn
      rw [htbl, hfr nm hn]

noncomputable def insB (P : Program) (T : TypeId) : SpecB where
  spec := insSpec P T
  run obj t ds := match ds with
    | [s, i, x] => rW (bInsert P obj t T s i x) (aInsert P obj t T s i x) (tops s ++ tops x ++ [nmO t]) (tops s ++ tops x ++ [nmO t])
    | _ => none
  ok := by
    intro obj t ds r hr
    split at hr
    · exact run_rW (s := insSpec P T) hr rfl rfl rfl bInsert_ok (like_insert fun _ _ => rfl).frame
    · cases hr
noncomputable def cloneB (P : Program) (T : TypeId) : SpecB where
  spec := cloneSpec P T
  run obj t ds := match ds with
    | [x] => rW (bClone P obj t T x) (aClone P obj t T x) (tops .nilsl ++ tops x ++ [nmO t]) (tops .nilsl ++ tops x ++ [nmO t])
    | _ => none
  ok := by
    intro obj t ds r hr
    split at hr
    · exact run_rW (s := cloneSpec P T) hr rfl rfl rfl bClone_ok (like_clone fun _ _ => rfl).frame
    · cases hr
end Go.Eng
/- The engine's text of weakenings that may freeze what is kept; loops with these. -/
namespace Go.Eng
open Go

/-- Something is forgotten, or will not change any more. -/
def WeakM (σ σ' : S) : Prop :=
  ∀ (G : Ghost) (φ : Name → Loc) (m : Mem) (a : Act) (w : World), Conc G φ m σ a w → ∃ φ' m', Conc G φ' m' σ' a w
theorem Weak.toM {σ σ' : S} (h : Weak σ σ') : WeakM σ σ' := fun G φ m a w hC => by
  obtain ⟨φ', h'⟩ := h G φ m a w hC
  exact ⟨φ', m, h'⟩
theorem WeakM.refl (σ : S) : WeakM σ σ := (Weak.refl σ).toM
theorem WeakM.trans {a b c : S} (h : WeakM a b) (k : WeakM b c) : WeakM a c := fun G φ m x w hC => by
  obtain ⟨φ', m', h'⟩ := h G φ m x w hC
  exact k G φ' m' x w h'
theorem weakM_frz {σ : S} (t : Nat) (d : D) (he : σ.env t = ⟨true, d⟩) (hok : (frz 6 σ.obj d).ok) :
    WeakM σ ⟨σ.nt, upd σ.env t ⟨true, .v (frz 6 σ.obj d).x⟩, (frz 6 σ.obj d).obj, σ.pre, σ.base⟩ := by
  intro G φ m a w hC
  have ht := hC.tmps t
  rw [he] at ht
  unfold RepE at ht
  simp only [if_true] at ht
  obtain ⟨m2, h6, h7, _, h8, _⟩ := frz_ok 6 _ _ _ _ _ _ hC _ _ ht hok
  refine ⟨φ, m2, { h7 with tmps := fun x => ?_ }⟩
  by_cases hxt : x = t
  · subst hxt
    simp only [upd_same]
    unfold RepE
    simp only [if_true]
    exact .v _ _ h8
  · have := h7.tmps x
    simp only [upd_ne _ _ _ hxt]
    exact this
theorem cw_weakM {P : Program} {c : Code} {σ σ' : S} {K : Exit → S → Prop} (hw : WeakM σ σ') (h : CW P c σ' K) : CW P c σ K := by
  intro G φ m a w hC
  obtain ⟨φ', m', hC'⟩ := hw G φ m a w hC
  exact h G φ' m' a w hC'
theorem cl_weakM {P : Program} {c : Code} {r : List Code} {σ σ' : S} {K : Exit → S → Prop} (hw : WeakM σ σ') (h : CL P (c :: r) σ' K) : CL P (c :: r) σ K := cw_weakM hw h

theorem cw_loopM {P : Program} {c : Code} {σ : S} {K : Exit → S → Prop} {ι : Type} (I : ι → S) (R : ι → Prop) (μ : ι → Nat) (i0 : ι) (hR : R i0) (h0 : WeakM σ (I i0))
    (round : ∀ i, R i → CW P c (I i) (thenK (fun σ' => ∃ i', R i' ∧ μ i' < μ i ∧ WeakM σ' (I i')) K)) : CW P (.loop c) σ K := by
  intro G φ m a w hC
  obtain ⟨φ0, m0, hC0⟩ := h0 G φ m a w hC
  intro b k cs hro hb hr
  have key : ∀ n i, μ i = n → R i → ∀ φ m a w, Conc G φ m (I i) a w →
      ∃ e a' w', (∃ φ' m' σ', Conc G φ' m' σ' a' w' ∧ K e σ') ∧ ArrivesIn (Machine.fenced P (fen G.rd)) P (lone (b.atR a (.code c :: .inLoop c :: k)) cs w) b k cs e a' w' := by
    intro n
    induction n using Nat.strongRecOn with
    | _ n ih =>
      intro i hn hi φ m a w hC
      obtain ⟨e, a₁, w₁, hq, harr⟩ := round i hi G φ m a w hC b (.inLoop c :: k) cs hro hb hr
      obtain ⟨φ', m', σ', h1, h2⟩ := hq
      cases e with
      | normal =>
        obtain ⟨i', hi', hlt, hw⟩ := h2
        obtain ⟨φ'', m'', hC''⟩ := hw G φ' m' a₁ w₁ h1
        obtain ⟨e₂, a₂, w₂, hq₂, harr₂⟩ := ih (μ i') (hn ▸ hlt) i' rfl hi' φ'' m'' a₁ w₁ hC''
        exact ⟨e₂, a₂, w₂, hq₂, .of_steps (StepsIn.trans harr (.one (fenced_calm hb hr rfl) stepR_inLoop)) harr₂⟩
      | exit id => exact ⟨_, a₁, w₁, ⟨φ', m', σ', h1, h2⟩, .pass (x := .inLoop c) rfl (fun _ _ => .inl (by simp)) harr⟩
      | goto l => exact ⟨_, a₁, w₁, ⟨φ', m', σ', h1, h2⟩, .pass (x := .inLoop c) rfl (fun _ _ => .inl (by simp)) harr⟩
      | ret => exact ⟨_, a₁, w₁, ⟨φ', m', σ', h1, h2⟩, .pass (x := .inLoop c) rfl (fun _ _ => .inl (by simp)) harr⟩
      | panic ch => exact ⟨_, a₁, w₁, ⟨φ', m', σ', h1, h2⟩, .pass (x := .inLoop c) rfl (fun _ _ => .inl (by simp)) harr⟩
      | outgrown => exact ⟨_, a₁, w₁, ⟨φ', m', σ', h1, h2⟩, .pass (x := .inLoop c) rfl (fun _ _ => .inl (by simp)) harr⟩
  obtain ⟨e, a', w', hq, harr⟩ := key _ i0 rfl hR φ0 m0 a w hC0
  exact ⟨e, a', w', hq, .of_steps (.one (fenced_calm hb hr rfl) stepR_loop) harr⟩
/-- A loop in a state that is written out: what changes from round to round, what holds, what falls; what changes may be frozen. -/
theorem cl_loopM {P : Program} {c : Code} {r : List Code} {K : Exit → S → Prop} {nt : Nat} {p : Name} {H : Name → Option O} {l : List (Nat × E)} {h : List (Name × O)} {ι : Type}
    (chg : ι → List (Nat × E)) (ochg : ι → List (Name × O)) (R : ι → Prop) (μ : ι → Nat) (i0 : ι) (hR : R i0) (he : WeakM (mkS nt p H l h) (mkS nt p H (setE l (chg i0)) (setO h (ochg i0))))
    (round : ∀ i, R i → CL P [c] (mkS nt p H (setE l (chg i)) (setO h (ochg i))) (thenK (fun σ' => ∃ i', R i' ∧ μ i' < μ i ∧ WeakM σ' (mkS nt p H (setE l (chg i')) (setO h (ochg i')))) K)) :
    CL P (.loop c :: r) (mkS nt p H l h) K := by
  refine cw_loopM (fun i => mkS nt p H (setE l (chg i)) (setO h (ochg i))) R μ i0 hR he fun i hi => ?_
  exact CW.mono (cl_of (round i hi)) fun e σ' hk => by cases e <;> exact hk

/-- A region, and what follows from a state that is weaker than what it comes to. -/
theorem cl_rw {P : Program} {Γ : FuncId → Option Spec} (hΓ : ∀ f s, Γ f = some s → SSound P f s) {id : Nat} {l : List Oper} {c : Code} {r : List Code} {σ : S} {K : Exit → S → Prop} (τ : S)
    (h : CL P (c :: r) τ K) (h' : ∀ K' : S → Prop, (∀ σ', WeakM σ' τ → K' σ') → Reg P Γ l.toArray l σ K') : CL P (.region id l.toArray false :: c :: r) σ K :=
  cw_region hΓ fun K' hK => h' K' fun σ' hw => hK σ' (cl_weakM hw h)
theorem cl_dw {P : Program} {Γ : FuncId → Option Spec} (hΓ : ∀ f s, Γ f = some s → SSound P f s) (hP : P.follows .mixedOrders = true) {id : Nat} {l : List Oper} {c : Code} {r : List Code} {σ : S} {K : Exit → S → Prop} (az : List (List Nat)) (τ : S)
    (hs : statOk l.toArray az = true) (h : CL P (c :: r) τ K) (h' : ∀ K' : S → Prop, (∀ σ', WeakM σ' τ → K' σ') → RegE P Γ l.toArray 0 az l [] σ K') : CL P (.region id l.toArray true :: c :: r) σ K :=
  cw_drawn hΓ hP az hs fun K' hK => h' K' fun σ' hw => hK σ' (cl_weakM hw h)
theorem weakM_keep {σ τ : S} (ks : List Nat) (ns : List Name) (h : clS ks ns σ) (he : keepS ks ns σ = τ) : WeakM σ τ := (weak_eq ks ns h he).toM
/-- A slot's rows are frozen, and the rest is kept so. -/
theorem weakM_frzk {σ τ : S} (t : Nat) (d : D) (he : σ.env t = ⟨true, d⟩) (hok : (frz 6 σ.obj d).ok) (ks : List Nat) (ns : List Name)
    (h : clS ks ns ⟨σ.nt, upd σ.env t ⟨true, .v (frz 6 σ.obj d).x⟩, (frz 6 σ.obj d).obj, σ.pre, σ.base⟩) (hk : keepS ks ns ⟨σ.nt, upd σ.env t ⟨true, .v (frz 6 σ.obj d).x⟩, (frz 6 σ.obj d).obj, σ.pre, σ.base⟩ = τ) : WeakM σ τ :=
  (weakM_frz t d he hok).trans (weakM_keep ks ns h hk)
theorem weakM_ghostk {σ τ : S} (t : Nat) (nm : Name) (sz : Nat) (he : σ.env t = ⟨true, .nilsl⟩) (hn : σ.obj nm = none) (ks : List Nat) (ns : List Name)
    (h : clS ks ns ⟨σ.nt, upd σ.env t ⟨true, .msl nm 0⟩, upd σ.obj nm (some (.arr sz [])), σ.pre, σ.base⟩) (hk : keepS ks ns ⟨σ.nt, upd σ.env t ⟨true, .msl nm 0⟩, upd σ.obj nm (some (.arr sz [])), σ.pre, σ.base⟩ = τ) : WeakM σ τ :=
  (weak_ghost t nm sz he hn).toM.trans (weakM_keep ks ns h hk)

/-! what is outside of a frame -/
theorem own_out01 (i : Nat) : own [0] [i, 1] = false := by simp [own]
theorem mkS_ifu (n : Nat) (p : Name) (F H : Name → Option O) (x : Name) (o : Option O) (l : List (Nat × E)) (h : List (Name × O)) :
    mkS n p (upd (fun nm => if own p nm = true then F nm else H nm) x o) l h = mkS n p (upd H x o) l h :=
  mkS_same fun nm hn => by
    by_cases e : nm = x
    · subst e; rw [upd_same, upd_same]
    · rw [upd_ne _ _ _ e, upd_ne _ _ _ e]; simp [hn]
theorem OutC_ifu (p : Name) (dom : Name → Bool) (F H : Name → Option O) (x : Name) (o : Option O) :
    OutC p dom (upd (fun nm => if own p nm = true then F nm else H nm) x o) = OutC p dom (upd H x o) := by
  have e : ∀ nm, own p nm = false → upd (fun nm => if own p nm = true then F nm else H nm) x o nm = upd H x o nm := fun nm hn => by
    by_cases e : nm = x
    · subst e; rw [upd_same, upd_same]
    · rw [upd_ne _ _ _ e, upd_ne _ _ _ e]; simp [hn]
  exact propext ⟨fun k nm q hn h => k nm q hn (by rw [e nm hn]; exact h), fun k nm q hn h => k nm q hn (by rw [← e nm hn]; exact h)⟩
theorem upd_upd {α β : Type} [DecidableEq α] (f : α → β) (a : α) (b c : β) : upd (upd f a b) a c = upd f a c := by
  funext x
  by_cases e : x = a
  · subst e; rw [upd_same, upd_same]
  · rw [upd_ne _ _ _ e, upd_ne _ _ _ e, upd_ne _ _ _ e]
/-- One row is outside. -/
theorem outH_one (sz : Nat) (L : List V) : ∃ H, H = outH [.arr sz L] ∧ H [0, 1] = some (.arr sz L) ∧ (∀ hs, OutC [0] (domOf [0] hs) H = True) ∧ ∀ hs sz' L', OutC [0] (domOf [0] hs) (upd H [0, 1] (some (.arr sz' L'))) = True := by
  have h1 : ∀ hs, OutC [0] (domOf [0] hs) (outH [.arr sz L]) := by
    intro hs nm o hn h
    unfold outH at h
    split at h
    · rename_i i
      cases i with
      | zero => simp at h; subst h; rfl
      | succ i => simp at h
    · cases h
  exact ⟨_, rfl, rfl, fun hs => eq_true (h1 hs), fun hs sz' L' => eq_true (OutC_set rfl (h1 hs))⟩
theorem beq10 : (([1] : List Nat) == [0]) = false := rfl
theorem beqn0 : (([] : List Nat) == [0]) = false := rfl
theorem toArr_none {α : Type} : (none : Option α).toArray.toList = [] := rfl
theorem toArr_some {α : Type} (a : α) : (some a).toArray.toList = [a] := rfl
theorem toNat0 : Int.toNat 0 = 0 := rfl
theorem take_drop_all {α : Type} (L : List α) (i : Nat) : List.take (L.length - i) (L.drop i) = L.drop i := List.take_of_length_le (by simp)
theorem take_drop_map {α β : Type} (f : α → β) (L : List α) (i : Nat) : List.take (L.length - i) ((L.map f).drop i) = (L.map f).drop i := List.take_of_length_le (by simp)
attribute [go_sem] toArr_none toArr_some toNat0 take_drop_all take_drop_map Nat.sub_zero beq10 beqn0 own_out01 mkS_ifu OutC_ifu upd_upd
end Go.Eng
/- The engine's text of rows built in place that are the frame's own (and may grow). -/
namespace Go.Eng
open Go

def aBuildM (P : Program) (obj : Name → Option O) (t : Name) (T : TypeId) (n : Nat) (parts : List (Nat × D)) : R :=
  match tElem P T with
  | some (e, sz, _) =>
    ⟨parts.map (·.1) = List.range n ∧ (frzL (frz 4) obj (parts.map (·.2))).ok ∧ (∀ x ∈ (frzL (frz 4) obj (parts.map (·.2))).xs, x.cells.length = sz ∧ x.okc = true) ∧
        n * sz ≤ 16777216 ∧ sz ≠ 0 ∧ (tZero P e).isSome = true ∧ 0 < n ∧ (frzL (frz 4) obj (parts.map (·.2))).obj (nmO t) = none,
      .msl (nmO t) n, upd (frzL (frz 4) obj (parts.map (·.2))).obj (nmO t) (some (.arr sz (frzL (frz 4) obj (parts.map (·.2))).xs))⟩
  | none => .bad obj

theorem s_buildM {P : Program} {G : Ghost} {φ : Name → Loc} {m : Mem} {σ : S} {a : Act} {w : World} (hC : Conc G φ m σ a w) {t : Name} {T : TypeId} {n : Nat} {parts : List (Nat × D)} {vals : Array (Nat × Value)}
    (he : parts.map (·.1) = vals.toList.map (·.1)) (hr : ∀ (k : Nat) (p : Nat × D) (q : Nat × Value), parts[k]? = some p → vals.toList[k]? = some q → RepD φ σ.obj m p.2 q.2)
    (hok : (aBuildM P σ.obj t T n parts).ok) :
    ∃ v w', (Instr.buildSlice T n vals).run P w = .ok v w' ∧ Done G σ a (aBuildM P σ.obj t T n parts) v w' := by
  unfold aBuildM at hok ⊢
  split at hok
  · rename_i e sz by_ hT
    obtain ⟨hu, i, hi, hs, _⟩ := tElem_spec hT
    have hsize : (sizeOf e).run P w = .ok sz w := by simp [sizeOf, typeInfo, hi, hs]
    obtain ⟨h1, h2, h3, h4, h5, h6, h7, h8⟩ := hok
    obtain ⟨z, hz⟩ := Option.isSome_iff_exists.1 h6
    have hlen : vals.toList.length = n := by
      have := congrArg List.length (he.symm.trans h1)
      simpa using this
    have hplen : parts.length = n := by
      have := congrArg List.length h1
      simpa using this
    obtain ⟨m1, a1, a2, a3, a4, a5, _⟩ := frzL_ok (frz_ok 4) (parts.map (·.2)) hC (vals.toList.map (·.2)) (by simp [hplen]; simpa using hlen.symm)
      (fun k h h' => by
        simp only [List.length_map] at h h'
        simp only [List.getElem_map]
        exact hr k _ _ (List.getElem?_eq_getElem h) (List.getElem?_eq_getElem h')) h2
    have a4' : (frzL (frz 4) σ.obj (parts.map (·.2))).xs.length = n := by rw [a4]; simpa using hplen
    obtain ⟨us', b1, b2, b3, b4⟩ := fill_consec sz vals.toList 0 ((Array.range (n * sz)).map (z.cells[· % z.cells.size]!))
      (by rw [← he, h1, hlen]; simp)
      (fun q hq => by
        obtain ⟨k, hk, rfl⟩ := List.mem_iff_getElem.1 hq
        have h8 := a5 k (by rw [a4']; omega) (by simpa using hk)
        have h9 := (h3 _ (List.getElem_mem (show k < _ by rw [a4']; omega))).1
        rw [← h9]
        simpa using h8.cells.symm) (by simp [hlen])
    have hx' := Ext.new (φ := φ) h8 ⟨w.heap.size, 0, n, false, none⟩ (.arr sz (frzL (frz 4) σ.obj (parts.map (·.2))).xs)
    refine ⟨.slice (some ⟨w.heap.size, 0, none⟩) n n, { w with heap := w.heap.push (.cells us' e) }, ?_, ?_⟩
    · simp only [Instr.buildSlice, Sem.run_bind, run_underlying hu, Result.andThen_ok, hsize]
      have hne : ¬ n * sz = 0 := by have := Nat.mul_pos h7 (Nat.pos_of_ne_zero h5); omega
      simp only [Sem.run_ite, Sem.run_bind, if_neg hne, run_zero hz, Result.andThen_ok, Sem.run_pure, b1, if_neg (show ¬ n * sz > 2 ^ 24 by omega)]
      rfl
    · refine ⟨upd φ (nmO t) ⟨w.heap.size, 0, n, false, none⟩, m1, a2.chg (nmO t) _ ⟨w.heap.size, 0, n, false, none⟩ hx' ⟨rfl, rfl, rfl, by show w.heap.size ≤ (w.heap.push _).size; simp⟩
        (fun b hb _ => heap_push_lt hb) (fun _ => .inl (Nat.le_refl _)) ?_, ?_⟩
      · refine .inr ⟨rfl, by rw [a4']; exact Nat.le_refl _, by show n ≤ maxLen; unfold maxLen; have := Nat.le_mul_of_pos_right n (Nat.pos_of_ne_zero h5); omega,
          fun i hi => (h3 _ (List.getElem_mem hi)).1, fun i hi x hx => ?_, us', e, (0, 0), heap_push_new, rfl, ?_, fun i j hi hj => ?_⟩
        · have hi' : i < vals.toList.length := by omega
          exact (a5 i hi (by simpa using hi')).ones (h3 _ (List.getElem_mem hi)).2 x hx
        · rw [b2]; simp
        · have hi' : i < vals.toList.length := by omega
          have h9 := (h3 _ (List.getElem_mem hi)).1
          have := b4 i j hi' (by omega)
          simp only [Nat.zero_add] at this
          have h8 := a5 i hi (by simpa using hi')
          have hcs : j < vals.toList[i].2.cells.size := by
            have := h8.cells
            simp only [List.getElem_map] at this
            omega
          rw [Array.getElem?_eq_getElem hcs] at this
          rw [Nat.zero_add]
          refine ⟨_, this, ?_⟩
          have h10 := h8.cell j hj (by simpa using hcs)
          simpa using h10
      · refine .msl _ _ _ ⟨_, _, upd_same _ _ _, rfl, by rw [a4']; exact Nat.le_refl _, fun _ => ?_⟩ rfl
        rw [upd_same]
        unfold Loc.slice
        simp
  · exact hok.elim

/-- The operations, with rows of the frame's own. -/
def aopM (P : Program) (Γ : FuncId → Option Spec) (σ : S) (t : Name) : Op → R
  | .buildSlice T n ps => aBuildM P σ.obj t T n (ps.toList.map fun p => (p.1, opD σ p.2))
  | o => aop P Γ σ t o
theorem aopM_sound {P : Program} {Γ : FuncId → Option Spec} (hΓ : ∀ f s, Γ f = some s → SSound P f s) {G : Ghost} {φ : Name → Loc} {m : Mem} {σ : S} {a : Act} {w : World} (hC : Conc G φ m σ a w)
    (o : Oper) (t : Name) (ht : ∃ k, t = k :: σ.pre) (hc : opConds σ o.op = true) (hok : (aopM P Γ σ t o.op).ok) : OpGoal P G σ a w o (aopM P Γ σ t o.op) := by
  cases ho : o.op with
  | buildSlice T n ps =>
    rw [ho] at hc hok
    obtain ⟨h1, h2⟩ := parts_rep hC (ps := ps) (fun p hp => mem_conds hc (by simp only [Op.operands, List.mem_map]; exact ⟨p, hp, rfl⟩))
    exact goal_done (s := Instr.buildSlice T n (ps.map fun (i, x) => (i, a.eval x))) (by simp [execOp, ho]) (s_buildM hC h1 h2 hok)
  | _ =>
    rw [ho] at hok
    have h := aop_sound hΓ hC o t ht hc (by rw [ho]; exact hok)
    rw [ho] at h
    exact h
theorem aopM_noDefer {P : Program} {Γ : FuncId → Option Spec} {σ : S} {t : Name} {op : Op} (h : (aopM P Γ σ t op).ok) : ∀ c, op ≠ .defer c := by
  intro c e
  subst e
  exact aop_noDefer (P := P) (Γ := Γ) (σ := σ) (t := t) h c rfl
def stepM (P : Program) (Γ : FuncId → Option Spec) (ops : Array Oper) (σ : S) (o : Oper) : S :=
  ⟨σ.nt, match o.dst with
    | some t => upd σ.env t ⟨gOf ops σ o, (aopM P Γ σ ((σ.base + t) :: σ.pre) o.op).d⟩
    | none => σ.env, if gOf ops σ o = true then (aopM P Γ σ ((σ.base + o.dst.getD 0) :: σ.pre) o.op).obj else σ.obj, σ.pre, σ.base⟩
def oblM (P : Program) (Γ : FuncId → Option Spec) (ops : Array Oper) (σ : S) (o : Oper) : Prop :=
  gOk ops σ o ∧ (match o.dst with | some t => t < σ.nt | none => True) ∧ (gOf ops σ o = true → opConds σ o.op = true ∧ (aopM P Γ σ ((σ.base + o.dst.getD 0) :: σ.pre) o.op).ok)
def RegM (P : Program) (Γ : FuncId → Option Spec) (ops : Array Oper) : List Oper → S → (S → Prop) → Prop
  | [], σ, K => K σ
  | o :: r, σ, K => oblM P Γ ops σ o ∧ RegM P Γ ops r (stepM P Γ ops σ o) K

theorem stepM_sound {P : Program} {Γ : FuncId → Option Spec} (hΓ : ∀ f s, Γ f = some s → SSound P f s) {G : Ghost} {φ : Name → Loc} {m : Mem} {σ : S} {a : Act} {w : World} (hC : Conc G φ m σ a w)
    {ops : Array Oper} {i : Nat} {o : Oper} (hi : ops[i]? = some o) (h : oblM P Γ ops σ o) {K : Act → World → Prop} {Q : Exit → Act → World → Prop}
    (hK : ∀ a' w' φ' m', Conc G φ' m' (stepM P Γ ops σ o) a' w' → K a' w') : wpOpIn (fen G.rd) 0 P ops Q i K a w := by
  obtain ⟨h1, h2, h3⟩ := h
  unfold wpOpIn
  simp only [hi, wanted_of hC h1]
  cases hg : gOf ops σ o with
  | true =>
    simp only [if_true]
    obtain ⟨h4, h5⟩ := h3 hg
    refine ⟨fun _ _ => trivial, ?_⟩
    rw [Oper.semAt_eq _ _ _ (aopM_noDefer h5)]
    refine (aopM_sound hΓ hC o ((σ.base + o.dst.getD 0) :: σ.pre) ⟨_, rfl⟩ h4 h5 _ _ fun v φ' m' w' hC' hr => hK _ _ φ' m' ?_)
    unfold stepM
    rw [hg]
    cases hd : o.dst with
    | none => simpa [hd, Act.put] using hC'
    | some t =>
      simp only [hd] at h2
      simp only [hd, Option.getD_some, if_true] at hC' hr ⊢
      refine hC'.put (e := ⟨true, _⟩) h2 ?_
      unfold RepE
      simpa using hr
  | false =>
    simp only [Bool.false_eq_true, if_false]
    refine ⟨fun _ _ => trivial, hK _ _ φ m ?_⟩
    unfold stepM
    rw [hg]
    cases hd : o.dst with
    | none => simpa [hd, Act.put] using hC
    | some t =>
      simp only [hd] at h2
      simp only [Bool.false_eq_true, if_false]
      refine hC.put (e := ⟨false, _⟩) h2 ?_
      unfold RepE
      simp
theorem regM_sound {P : Program} {Γ : FuncId → Option Spec} (hΓ : ∀ f s, Γ f = some s → SSound P f s) {G : Ghost} {ops : Array Oper} {Q : Exit → Act → World → Prop} {K : S → Prop} :
    ∀ (n k : Nat) {φ : Name → Loc} {m : Mem} {σ : S} {a : Act} {w : World}, k + n = ops.size → Conc G φ m σ a w → RegM P Γ ops (ops.toList.drop k) σ K →
      (∀ a' w' φ' m' σ', Conc G φ' m' σ' a' w' → K σ' → Q .normal a' w') → wpOpsIn (fen G.rd) 0 P ops Q (List.range' k n) a w
  | 0, k, φ, m, σ, a, w, hk, hC, hr, hQ => by
    have : ops.toList.drop k = [] := List.drop_eq_nil_of_le (by simp; omega)
    rw [this] at hr
    exact hQ _ _ φ m σ hC hr
  | n + 1, k, φ, m, σ, a, w, hk, hC, hr, hQ => by
    have hlt : k < ops.size := by omega
    have hd : ops.toList.drop k = ops[k] :: ops.toList.drop (k + 1) := by
      rw [List.drop_eq_getElem_cons (by simpa using hlt)]; simp
    rw [hd] at hr
    obtain ⟨h1, h2⟩ := hr
    rw [List.range'_succ, wpOpsIn_cons]
    exact stepM_sound hΓ hC (Array.getElem?_eq_getElem hlt) h1 fun a' w' φ' m' hC' => regM_sound hΓ n (k + 1) (by omega) hC' h2 hQ
theorem cw_regionM {P : Program} {Γ : FuncId → Option Spec} (hΓ : ∀ f s, Γ f = some s → SSound P f s) {id : Nat} {l : List Oper} {σ : S} {K : Exit → S → Prop}
    (h : ∀ K' : S → Prop, (∀ σ', K .normal σ' → K' σ') → RegM P Γ l.toArray l σ K') : CW P (.region id l.toArray false) σ K := by
  intro G φ m a w hC
  refine wpIn_region ?_
  rw [List.range_eq_range']
  refine regM_sound hΓ (ops := l.toArray) l.toArray.size 0 (by simp) hC (K := K .normal) (by simpa using h (K .normal) fun _ h => h) fun a' w' φ' m' σ' hC' hK => ⟨φ', m', σ', hC', hK⟩
theorem cl_rsM {P : Program} {Γ : FuncId → Option Spec} (hΓ : ∀ f s, Γ f = some s → SSound P f s) {id : Nat} {l : List Oper} {c : Code} {r : List Code} {σ : S} {K : Exit → S → Prop} (ks : List Nat) (ns : List Name)
    (h : ∀ K' : S → Prop, (∀ σ', clS ks ns σ' → CL P (c :: r) (keepS ks ns σ') K → K' σ') → RegM P Γ l.toArray l σ K') : CL P (.region id l.toArray false :: c :: r) σ K :=
  cw_regionM hΓ fun K' hK => h K' fun σ' hc hy => hK σ' (cw_keep ks ns hc hy)
theorem cl_rM {P : Program} {Γ : FuncId → Option Spec} (hΓ : ∀ f s, Γ f = some s → SSound P f s) {id : Nat} {l : List Oper} {σ : S} {K : Exit → S → Prop}
    (h : ∀ K' : S → Prop, (∀ σ', K .normal σ' → K' σ') → RegM P Γ l.toArray l σ K') : CL P [.region id l.toArray false] σ K :=
  cw_regionM hΓ fun K' hK => h K' fun σ' hc => hK σ' hc
attribute [go_sem] RegM oblM stepM aopM aBuildM List.cons_beq_cons
end Go.Eng
/- The engine's text of Clone over numbers, as a function of data. -/
namespace Go.Eng
open Go Go.RowKit

theorem psound_of {P : Program} {f : FuncId} {s : Spec} {p : PSpec} (hs : SSound P f s) (hne : f ≠ yid) (hfl : p.flat = true → ∀ xs, p.pre xs → (p.fn xs).flat = true)
    (h : ∀ xs, p.pre xs → (s.app (fun _ => none) [0, 0] (xs.map .v)).ok ∧ (frz 6 (s.app (fun _ => none) [0, 0] (xs.map .v)).obj (s.app (fun _ => none) [0, 0] (xs.map .v)).d).ok ∧
      (frz 6 (s.app (fun _ => none) [0, 0] (xs.map .v)).obj (s.app (fun _ => none) [0, 0] (xs.map .v)).d).x = p.fn xs) : PSound P f p := by
  refine ⟨hne, hs.enter hne, hfl, fun m w xs args htb hm hx hp => ?_⟩
  obtain ⟨h1, h2, h3⟩ := h xs hp
  have hsz : xs.length = args.size := by simpa using hx.1
  have hobj : (mkS args.size [0] (fun _ => none) (argsL 0 xs) []).obj = fun _ => none := by
    funext nm
    simp [mkS, ofL]
  have hC : Conc ⟨w, m, fun _ => False, none, fun _ => ⟨0, 0, 0, true, none⟩, fun _ => none, fun _ h => (by cases h), ⟨htb, fun _ _ h => h⟩⟩ (fun _ => ⟨0, 0, 0, true, none⟩) m (mkS args.size [0] (fun _ => none) (argsL 0 xs) []) { tmps := args, defers := [] } w := by
    constructor
    · intro t
      show RepE _ _ m (ofL eAny (argsL 0 xs) t) _
      rcases ofL_cases (z := eAny) (argsL 0 xs) t with h1 | h1
      · rw [h1]; unfold RepE eAny; simp; exact .any _
      · obtain ⟨i, hi, h2, h3⟩ := argsL_mem h1
        rw [h3]
        unfold RepE
        simp only [if_true]
        have hi' : i < args.size := by omega
        have e : (args.getD t undef) = args[i] := by
          rw [h2]
          simp [Array.getD, hi']
        rw [e]
        exact .v _ _ (by have := hx.2 i hi (by simpa using hi'); rw [Array.getElem_toList] at this; exact this)
    · rfl
    · exact ⟨[], rfl, by simp, by simp⟩
    · intro nm o h; simp [mkS, ofL] at h
    · exact hm
    · rintro nm ⟨o, h, _⟩; simp [mkS, ofL] at h
    · rintro nm nm' ⟨o, h, _⟩; simp [mkS, ofL] at h
    · rintro nm ⟨o, h, _⟩; simp [mkS, ofL] at h
    · exact ⟨rfl, rfl, rfl, Nat.le_refl _, fun _ _ _ => rfl⟩
    · intro b off v h; exact .inl h
    · exact ⟨fun _ _ h => (by cases h), fun _ _ h => (by cases h)⟩
  refine (hs.calls hne _ _ m _ _ w hC [0, 0] (xs.map .v) args ⟨0, rfl⟩ (by simpa using hsz) (fun i a b => ?_) (by rw [hobj]; exact h1)).mono ?_
  · simp only [List.getElem_map]
    have := hx.2 i (by simpa using a) (by simpa using b)
    rw [Array.getElem_toList] at this
    exact .v _ _ this
  · rintro e w' ⟨v, φ', m', rfl, h4, h5, _⟩
    rw [hobj] at h4 h5
    obtain ⟨m2, h6, h7, _, h8, _⟩ := frz_ok 6 _ _ _ _ _ _ h4 _ _ h5 h2
    refine ⟨v, fun b off => match m2 b off with | some c => some c | none => m b off, rfl, ?_, ?_, ?_, ?_⟩
    · exact ⟨h4.fr.os, h4.fr.tape, h4.fr.output, h4.fr.size, fun k hk => h4.fr.block k hk (fun h => h)⟩
    · intro b off c hc
      show (match m2 b off with | some c => some c | none => m b off) = some c
      cases hm2 : m2 b off with
      | none => exact hc
      | some c' =>
        have k1 := h7.mem b off c' hm2
        have k2 := hm b off c hc
        have hlt := cell?_lt k2
        rw [cell?_block (h4.fr.block b hlt (fun h => h))] at k1
        rw [k2] at k1
        exact k1.symm
    · intro b off c hc
      have hc' : (match m2 b off with | some c => some c | none => m b off) = some c := hc
      cases hm2 : m2 b off with
      | none => rw [hm2] at hc'; exact .inl hc'
      | some c' =>
        rw [hm2] at hc'
        simp only [Option.some.injEq] at hc'
        subst hc'
        rcases h7.fresh b off c' hm2 with h | h | h
        · exact .inl h
        · exact .inr ⟨h, h7.mem b off c' hm2⟩
        · exact h.elim
    · rw [← h3]
      refine h8.mono fun b off c hc => ?_
      show (match m2 b off with | some c => some c | none => m b off) = some c
      rw [hc]

def isI64 : V → Bool
  | .int .i64 _ => true
  | _ => false
theorem isI64_ok {y : V} (h : isI64 y = true) : y.cells.length = 1 ∧ y.okc = true := by
  cases y with
  | int k n => exact ⟨rfl, rfl⟩
  | _ => cases h
/-- Clone over numbers: the same numbers. -/
def pCloneI : PSpec := ⟨fun xs => ∃ l, xs = [.sl l] ∧ l.all isI64 = true ∧ l.length ≤ 1000, fun xs => xs.headD default, false⟩
theorem cloneI_sound {P : Program} {f T E : Nat} {Z : Value} (L : CloneLaw P f T E 1 8 Z) (hz : Z.cells.size = 1) : PSound P f pCloneI := by
  refine psound_of (clone_sound L) L.ne (fun h => by cases h) ?_
  rintro xs ⟨l, rfl, hl, hn⟩
  simp only [cloneSpec, List.map_cons, List.map_nil, pCloneI, List.headD_cons]
  cases l with
  | nil => exact ⟨trivial, trivial, rfl⟩
  | cons y r =>
    have hall : ∀ z ∈ y :: r, z.cells.length = 1 ∧ z.okc = true := fun z hz => isI64_ok (List.all_eq_true.1 hl z hz)
    have e : aClone P (fun _ => none) [0, 0] T (.v (.sl (y :: r))) = aAppend P (fun _ => none) [0, 0] T T .nilsl (.v (.sl (y :: r))) := rfl
    rw [e]
    have hn' : (y :: r).length * 8 ≤ 140737488355328 := by omega
    have hm' : (y :: r).length ≤ maxLen := by unfold maxLen; omega
    simp only [aAppend, L.tE, L.tZ, srcL, frz, upd_same, nmO]
    exact ⟨⟨trivial, hall, hz, hn', hm', trivial⟩, trivial, trivial⟩
noncomputable def cloneI : SpecB where
  spec := pCloneI.toSpec
  run _ _ ds := match ds with
    | [.v (.sl l)] => cond (l.all isI64 && Nat.ble l.length 1000) (some ⟨.v (.sl l), [], [], fun t => t⟩) none
    | [.nilsl] => some ⟨.v (.sl []), [], [], fun t => t⟩
    | _ => none
  ok := by
    intro obj t ds r hr
    split at hr
    · rename_i l
      cases hb : (l.all isI64 && Nat.ble l.length 1000) with
      | false => rw [hb] at hr; cases hr
      | true =>
        rw [hb] at hr
        cases hr
        simp only [Bool.and_eq_true] at hb
        refine ⟨?_, rfl, rfl, rfl, fun tbl h => h⟩
        exact ⟨⟨trivial, trivial⟩, l, rfl, hb.1, Nat.le_of_ble_eq_true hb.2⟩
    · cases hr
      refine ⟨?_, rfl, rfl, rfl, fun tbl h => h⟩
      exact ⟨⟨trivial, trivial⟩, [], rfl, rfl, Nat.zero_le _⟩
    · cases hr
end Go.Eng
/- The engine's text of a box that holds no slice yet. -/
namespace Go.Eng
open Go

theorem weak_ghostB {σ : S} (b nm : Name) (sz : Nat) (hb : σ.obj b = some (.box [.nilsl])) (hn : σ.obj nm = none) :
    Weak σ ⟨σ.nt, σ.env, upd (upd σ.obj nm (some (.arr sz []))) b (some (.box [.msl nm 0])), σ.pre, σ.base⟩ := by
  intro G φ m a w hC
  have hne : b ≠ nm := fun e => by subst e; rw [hb] at hn; cases hn
  obtain ⟨h1, h2, h3, us, T, f, h4, h5, h6, h7⟩ := hC.objs b _ hb
  have h0 : 0 < us.size := by rw [h6]; simp
  have h8 := h7 0 (by simp) h0
  simp only [List.getElem_cons_zero] at h8
  generalize hu : us[0] = u at h8
  cases h8 with
  | nilsl b' =>
  have hx := Ext.new (φ := φ) hn ⟨0, 0, 0, true, b'⟩ (.arr sz [])
  have hC' := hC.chg (w' := w) nm (.arr sz []) ⟨0, 0, 0, true, b'⟩ hx ⟨rfl, rfl, rfl, Nat.le_refl _⟩ (fun _ _ _ => rfl) (fun h => by cases h) (.inl ⟨rfl, rfl⟩)
  have hb' : (upd σ.obj nm (some (.arr sz []))) b = some (.box [.nilsl]) := by rw [upd_ne _ _ _ hne]; exact hb
  have hφ : (upd φ nm ⟨0, 0, 0, true, b'⟩) b = φ b := upd_ne _ _ _ hne
  have hx2 := Ext.same (φ := upd φ nm ⟨0, 0, 0, true, b'⟩) (o' := .box [.msl nm 0]) hb' rfl rfl
  refine ⟨_, hC'.chg (w' := w) b (.box [.msl nm 0]) _ hx2 ⟨rfl, rfl, rfl, Nat.le_refl _⟩ (fun _ _ _ => rfl) (fun _ => .inr ⟨⟨_, hb', rfl, by rw [hφ]; exact h2⟩, rfl⟩) ?_⟩
  rw [upd_id, hφ]
  refine ⟨h1, h2, by simp [D.one], us, T, f, h4, h5, by simpa using h6, fun i hi hi' => ?_⟩
  have hi0 : i = 0 := by simp at hi; exact hi
  subst hi0
  simp only [List.getElem_cons_zero]
  rw [hu]
  have hnm : (upd (upd σ.obj nm (some (.arr sz []))) b (some (.box [.msl nm 0]))) nm = some (.arr sz []) := by rw [upd_ne _ _ _ hne.symm, upd_same]
  refine .msl _ _ _ ⟨_, _, hnm, rfl, by simp, fun _ => ?_⟩ rfl
  rw [upd_same]; rfl
theorem weakM_ghostB {σ τ : S} (b nm : Name) (sz : Nat) (hb : σ.obj b = some (.box [.nilsl])) (hn : σ.obj nm = none) (ks : List Nat) (ns : List Name)
    (h : clS ks ns ⟨σ.nt, σ.env, upd (upd σ.obj nm (some (.arr sz []))) b (some (.box [.msl nm 0])), σ.pre, σ.base⟩) (hk : keepS ks ns ⟨σ.nt, σ.env, upd (upd σ.obj nm (some (.arr sz []))) b (some (.box [.msl nm 0])), σ.pre, σ.base⟩ = τ) : WeakM σ τ :=
  (weak_ghostB b nm sz hb hn).toM.trans (weakM_keep ks ns h hk)
theorem leftK_go {K : Exit → S → Prop} {obj : Name → Option O} {nm : Name} {σ : S} {env : List E} {ps : List Nat} {a b : Code} (h : obj nm = some (.loop env ps a b .ready none)) (hK : K .normal σ) : leftK K obj nm σ := by
  unfold leftK
  rw [h]
  exact hK
theorem cl_rangeFuncR {P : Program} {Γ : FuncId → Option Spec} (hΓ : ∀ f s, Γ f = some s → SSound P f s) {g : Operand} {ps : Array Tmp} {asg body : Code} {σ : S} {r : List Code} {K : Exit → S → Prop} (k k' : Nat) {f : FuncId} {s : Spec} {d : D} {obj' : Name → Option O}
    {env' : List E} {ps' : List Nat} {a' b' : Code} (hc : opC σ g = true) (hfn : clFn (opD σ g) = some f) (hne : f ≠ yid) (hs : Γ f = some s) (hnew : σ.obj (k :: σ.pre) = none)
    (hR : s.app (upd σ.obj (k :: σ.pre) (some (.loop ((List.range σ.nt).map σ.env) ps.toList asg body .ready none))) (k' :: σ.pre) (clArgs (opD σ g) [.yld (k :: σ.pre)]) = ⟨True, d, obj'⟩)
    (hL : obj' (k :: σ.pre) = some (.loop env' ps' a' b' .ready none))
    (hK : CL P r { σ with obj := upd obj' (k :: σ.pre) (some (.loop env' ps' a' b' .exhausted none)) } K) : CL P (.rangeFunc g ps asg body :: r) σ K := by
  refine cl_rangeFunc hΓ k k' hc hfn hne hs hnew (by rw [hR]; trivial) ?_
  rw [hR]
  refine leftK_go hL ?_
  show CL P r _ K
  have e : spent obj' (k :: σ.pre) = upd obj' (k :: σ.pre) (some (.loop env' ps' a' b' .exhausted none)) := by unfold spent; rw [hL]
  rw [e]
  exact hK
end Go.Eng
/- Clone whose row has a name, be it empty or not. -/
namespace Go.Eng
open Go Go.RowKit

def aCloneG (P : Program) (obj : Name → Option O) (t : Name) (T : TypeId) (x : D) : R := aAppend P obj t T T .nilsl x
def cloneG (P : Program) (T : TypeId) : Spec where
  app obj t ds := match ds with | [x] => aCloneG P obj t T x | _ => .bad obj
  foot obj t ds := match ds with | [x] => tops .nilsl ++ tops x ++ [nmO t] | _ => []
  wrt obj t ds := match ds with | [x] => tops .nilsl ++ tops x ++ [nmO t] | _ => []
theorem like_cloneG {P : Program} {obj obj2 : Name → Option O} {t : Name} {T : TypeId} {x : D} (h : Agr (tops .nilsl ++ tops x ++ [nmO t]) obj obj2) :
    Like (aCloneG P obj t T x) (aCloneG P obj2 t T x) obj obj2 (tops .nilsl ++ tops x ++ [nmO t]) := like_append (P := P) (obj := obj) (obj2 := obj2) (t := t) (T1 := T) (T2 := T) (s := .nilsl) (x := x) h
theorem cloneG_near (P : Program) (T : TypeId) : (cloneG P T).Near := by
  refine ⟨fun obj obj2 t ds h => ?_, fun obj obj2 t ds h => rfl, fun obj t ds nm hn => hn, fun obj obj2 t ds h => rfl⟩
  simp only [cloneG] at h ⊢
  split at h
  · exact like_cloneG h
  · rename_i hds
    exact .none _ (fun _ h => by cases h)
theorem ghostC {G : Ghost} {φ : Name → Loc} {m : Mem} {σ : S} {a : Act} {w : World} (hC : Conc G φ m σ a w) {v : Value} (hv : RepD φ σ.obj m .nilsl v) {nm : Name} (hn : σ.obj nm = none) (sz : Nat) :
    ∃ φ', Conc G φ' m { σ with obj := upd σ.obj nm (some (.arr sz [])) } a w ∧ RepD φ' (upd σ.obj nm (some (.arr sz []))) m (.msl nm 0) v ∧ Ext φ φ' σ.obj (upd σ.obj nm (some (.arr sz []))) := by
  cases hv with
  | nilsl b' =>
  have hx := Ext.new (φ := φ) hn ⟨0, 0, 0, true, b'⟩ (.arr sz [])
  refine ⟨_, hC.chg (w' := w) nm (.arr sz []) ⟨0, 0, 0, true, b'⟩ hx ⟨rfl, rfl, rfl, Nat.le_refl _⟩ (fun _ _ _ => rfl) (fun h => by cases h) (.inl ⟨rfl, rfl⟩), ?_, hx⟩
  refine .msl _ _ _ ⟨_, _, upd_same _ _ _, rfl, by simp, fun _ => ?_⟩ rfl
  rw [upd_same]; rfl
theorem cloneG_sound {P : Program} {f T E K BY : Nat} {Z : Value} (L : CloneLaw P f T E K BY Z) : SSound P f (cloneG P T) := by
  have hs := clone_sound L
  refine ⟨cloneG_near P T, hs.enter, fun hne G φ m σ a w hC t ds us ht hl hr hok => ?_, fun e => (L.ne e).elim⟩
  match ds, hl, hr, hok with
  | [], _, _, hok => exact hok.elim
  | _ :: _ :: _, _, _, hok => exact hok.elim
  | [x], hl, hr, hok =>
    have hok' : (aAppend P σ.obj t T T .nilsl x).ok := hok
    have hcl : (cloneSpec P T).app σ.obj t [x] = aClone P σ.obj t T x := rfl
    have hg : (cloneG P T).app σ.obj t [x] = aAppend P σ.obj t T T .nilsl x := rfl
    rw [hg]
    cases hl2 : (srcL σ.obj x).2 with
    | cons y r =>
      have e : aClone P σ.obj t T x = aAppend P σ.obj t T T .nilsl x := by unfold aClone; rw [hl2]
      have := hs.calls hne G φ m σ a w hC t [x] us ht hl hr (by rw [hcl, e]; exact hok')
      rw [hcl, e] at this
      exact this
    | nil =>
      have e : aClone P σ.obj t T x = ⟨(srcL σ.obj x).1, .nilsl, σ.obj⟩ := by unfold aClone; rw [hl2]
      have hT := L.tE
      have hZ := L.tZ
      have ha : aAppend P σ.obj t T T .nilsl x = ⟨(srcL σ.obj x).1 ∧ (∀ y ∈ (srcL σ.obj x).2, y.cells.length = K ∧ y.okc = true) ∧ Z.cells.size = K ∧ (srcL σ.obj x).2.length * BY ≤ 140737488355328 ∧ (srcL σ.obj x).2.length ≤ maxLen ∧ σ.obj (nmO t) = none,
          .msl (nmO t) (srcL σ.obj x).2.length, upd σ.obj (nmO t) (some (.arr K (srcL σ.obj x).2))⟩ := by
        simp only [aAppend, hT, hZ]
      rw [ha, hl2] at hok'
      rw [ha, hl2]
      have := hs.calls hne G φ m σ a w hC t [x] us ht hl hr (by rw [hcl, e]; exact hok'.1)
      rw [hcl, e] at this
      refine this.mono ?_
      rintro e' w' ⟨v, φ', m', rfl, h1, h2, h3⟩
      obtain ⟨φ2, k1, k2, k3⟩ := ghostC h1 h2 hok'.2.2.2.2.2 K
      exact ⟨v, φ2, m', rfl, k1, k2, h3.trans k3⟩
attribute [go_sem] cloneG aCloneG srcL
end Go.Eng
/- A box's empty slice gets a name. -/
namespace Go.Eng
open Go
theorem weak_ghostI {σ : S} (b nm : Name) (i sz : Nat) (cs : List D) (hb : σ.obj b = some (.box cs)) (hi : cs[i]? = some .nilsl) (hn : σ.obj nm = none) :
    Weak σ ⟨σ.nt, σ.env, upd (upd σ.obj nm (some (.arr sz []))) b (some (.box (cs.set i (.msl nm 0)))), σ.pre, σ.base⟩ := by
  intro G φ m a w hC
  have hne : b ≠ nm := fun e => by subst e; rw [hb] at hn; cases hn
  obtain ⟨h1, h2, h3, us, T, f, h4, h5, h6, h7⟩ := hC.objs b _ hb
  obtain ⟨hil, hie⟩ := List.getElem?_eq_some_iff.1 hi
  have h0 : i < us.size := by omega
  have h8 := h7 i hil h0
  rw [hie] at h8
  generalize hu : us[i] = u at h8
  cases h8 with
  | nilsl b' =>
  have hx := Ext.new (φ := φ) hn ⟨0, 0, 0, true, b'⟩ (.arr sz [])
  have hC' := hC.chg (w' := w) nm (.arr sz []) ⟨0, 0, 0, true, b'⟩ hx ⟨rfl, rfl, rfl, Nat.le_refl _⟩ (fun _ _ _ => rfl) (fun h => by cases h) (.inl ⟨rfl, rfl⟩)
  have hb' : (upd σ.obj nm (some (.arr sz []))) b = some (.box cs) := by rw [upd_ne _ _ _ hne]; exact hb
  have hφ : (upd φ nm ⟨0, 0, 0, true, b'⟩) b = φ b := upd_ne _ _ _ hne
  have hx2 := Ext.same (φ := upd φ nm ⟨0, 0, 0, true, b'⟩) (o' := .box (cs.set i (.msl nm 0))) hb' rfl rfl
  refine ⟨_, hC'.chg (w' := w) b (.box (cs.set i (.msl nm 0))) _ hx2 ⟨rfl, rfl, rfl, Nat.le_refl _⟩ (fun _ _ _ => rfl) (fun _ => .inr ⟨⟨_, hb', rfl, by rw [hφ]; exact h2⟩, rfl⟩) ?_⟩
  rw [upd_id, hφ]
  have hnm : (upd (upd σ.obj nm (some (.arr sz []))) b (some (.box (cs.set i (.msl nm 0))))) nm = some (.arr sz []) := by rw [upd_ne _ _ _ hne.symm, upd_same]
  refine ⟨h1, h2, fun d hd => ?_, us, T, f, h4, h5, by simpa using h6, fun j hj hj' => ?_⟩
  · rcases List.mem_or_eq_of_mem_set hd with h | h
    · exact h3 d h
    · subst h; rfl
  · simp only [List.length_set] at hj
    rw [List.getElem_set]
    by_cases hij : i = j
    · subst hij
      rw [if_pos rfl, hu]
      refine .msl _ _ _ ⟨_, _, hnm, rfl, by simp, fun _ => ?_⟩ rfl
      rw [upd_same]; rfl
    · rw [if_neg hij]
      have := h7 j hj hj'
      exact (this.ext (Mem.le_refl m) hx).ext (Mem.le_refl m) (by rw [upd_id] at hx2; exact hx2)
theorem weakM_ghostI {σ τ : S} (b nm : Name) (i sz : Nat) (cs : List D) (hb : σ.obj b = some (.box cs)) (hi : cs[i]? = some .nilsl) (hn : σ.obj nm = none) (ks : List Nat) (ns : List Name)
    (h : clS ks ns ⟨σ.nt, σ.env, upd (upd σ.obj nm (some (.arr sz []))) b (some (.box (cs.set i (.msl nm 0)))), σ.pre, σ.base⟩)
    (hk : keepS ks ns ⟨σ.nt, σ.env, upd (upd σ.obj nm (some (.arr sz []))) b (some (.box (cs.set i (.msl nm 0)))), σ.pre, σ.base⟩ = τ) : WeakM σ τ :=
  (weak_ghostI b nm i sz cs hb hi hn).toM.trans (weakM_keep ks ns h hk)
/-- Plain data, one by one. -/
def asVs : List D → Option (List V)
  | [] => some []
  | d :: r => match asV d, asVs r with
    | some x, some xs => some (x :: xs)
    | _, _ => none
theorem asVs_len : ∀ {ds : List D} {xs : List V}, asVs ds = some xs → xs.length = ds.length
  | [], xs, h => by cases h; rfl
  | d :: r, xs, h => by
    unfold asVs at h
    split at h
    · rename_i h2
      cases h
      simp [asVs_len h2]
    · cases h
theorem asVs_rep {φ : Name → Loc} {obj : Name → Option O} {m : Mem} : ∀ {ds : List D} {xs : List V}, asVs ds = some xs → ∀ (i : Nat) (h : i < ds.length) (h' : i < xs.length) (u : Value), RepD φ obj m ds[i] u → RepV m xs[i] u
  | [], xs, h, i, hi, _, _, _ => by simp at hi
  | d :: r, xs, h, i, hi, hi', u, hr => by
    unfold asVs at h
    split at h
    · rename_i x ys h1 h2
      cases h
      cases i with
      | zero => exact asV_rep hr h1
      | succ i => exact asVs_rep h2 i (by simpa using hi) (by simpa using hi') u hr
    · cases h
theorem near_fw {app : (Name → Option O) → Name → List D → R} {foot : (Name → Option O) → Name → List D → List Name}
    (h : ∀ obj obj2 t ds, Agr (foot obj t ds) obj obj2 → foot obj2 t ds = foot obj t ds ∧ Like (app obj t ds) (app obj2 t ds) obj obj2 (foot obj t ds)) : Spec.Near ⟨app, foot, foot⟩ :=
  ⟨fun obj obj2 t ds ha => (h obj obj2 t ds ha).2, fun obj obj2 t ds ha => (h obj obj2 t ds ha).1, fun _ _ _ _ hn => hn, fun obj obj2 t ds ha => (h obj obj2 t ds ha).1⟩
/-- The same contract in other words. -/
theorem ssound_eq {P : Program} {f : FuncId} {s s' : Spec} (h : SSound P f s) (hn : s'.Near) (hne : f ≠ yid)
    (heq : ∀ obj t ds, (s'.app obj t ds).ok → ∃ ds', ds'.length = ds.length ∧ (∀ (φ : Name → Loc) (m : Mem) (us : Array Value), ds.length = us.size → (∀ i (h : i < ds.length) (h' : i < us.size), RepD φ obj m ds[i] us[i]) → ∀ i (h : i < ds'.length) (h' : i < us.size), RepD φ obj m ds'[i] us[i]) ∧
      (s.app obj t ds').ok ∧ (s.app obj t ds').d = (s'.app obj t ds).d ∧ (s.app obj t ds').obj = (s'.app obj t ds).obj) : SSound P f s' := by
  refine ⟨hn, h.enter, fun hne G φ m σ a w hC t ds us ht hl hr hok => ?_, fun e => (hne e).elim⟩
  obtain ⟨ds', h0, hr', h1, h2, h3⟩ := heq _ _ _ hok
  have := h.calls hne G φ m σ a w hC t ds' us ht (h0.trans hl) (hr' φ m us hl hr) h1
  rw [h2, h3] at this
  exact this

/-! contracts that make new objects out of plain data -/
structure NSpec where
  pre : List V → Prop
  new : List V → List (Name × O)
  d : List V → D
def NSpec.app (s : NSpec) (obj : Name → Option O) (t : Name) (ds : List D) : R := match asVs ds with
  | some xs => ⟨fresh obj t (s.new xs) = true ∧ s.pre xs, (s.d xs).ren (cout [] t), putN [] t (s.new xs) obj⟩
  | none => .bad obj
def NSpec.foot (s : NSpec) (_ : Name → Option O) (t : Name) (ds : List D) : List Name := match asVs ds with
  | some xs => (s.new xs).map fun x => x.1 ++ t
  | none => []
def NSpec.toSpec (s : NSpec) : Spec := ⟨s.app, s.foot, s.foot⟩
def NSpec.c (s : NSpec) : CSpec where
  pre := fun os ds => os = [] ∧ ∃ xs, ds = xs.map .v ∧ s.pre xs
  out := fun _ ds => match asVs ds with
    | some xs => ⟨[], s.new xs, s.d xs⟩
    | none => ⟨[], [], .any⟩
theorem asVs_map : ∀ xs : List V, asVs (xs.map .v) = some xs
  | [] => rfl
  | x :: r => by simp [asVs, asV, asVs_map r]
theorem NSpec.near (s : NSpec) : s.toSpec.Near := by
  refine near_fw fun obj obj2 t ds ha => ⟨rfl, ?_⟩
  unfold NSpec.foot at ha ⊢
  unfold NSpec.app
  split
  · rename_i xs h
    simp only [h] at ha
    have hfr : fresh obj2 t (s.new xs) = fresh obj t (s.new xs) := fresh_agr ha
    have := like_put (ok := fresh obj t (s.new xs) = true ∧ s.pre xs) (ok2 := fresh obj2 t (s.new xs) = true ∧ s.pre xs) (d := (s.d xs).ren (cout [] t)) (obj := obj) (obj2 := obj2) (L := []) (t := t) (o := ⟨[], s.new xs, s.d xs⟩) (by rw [hfr]) (by simpa using ha)
    simpa [putU] using this
  · exact .none _ (fun _ h => by cases h)
theorem namesL_v : ∀ xs : List V, namesL (xs.map .v) = []
  | [] => rfl
  | x :: r => by simp only [List.map_cons, namesL, namesD, List.nil_append]; exact namesL_v r
theorem reach_v (obj : Name → Option O) (xs : List V) : reach obj (xs.map .v) = [] := by
  unfold reach
  rw [namesL_v]
  rfl
theorem renL_v (f : Name → Name) : ∀ xs : List V, D.renL f (xs.map .v) = xs.map .v
  | [] => rfl
  | x :: r => by simp only [List.map_cons, D.renL, D.ren]; rw [renL_v f r]
theorem closL_v (p : Name → Bool) : ∀ xs : List V, D.closL p (xs.map .v) = true
  | [] => rfl
  | x :: r => by simp only [List.map_cons, D.closL, D.clos, Bool.true_and]; exact closL_v p r
theorem NSpec.sound {P : Program} {f : FuncId} {s : NSpec} (h : SSound P f s.c.toSpec) (hne : f ≠ yid) : SSound P f s.toSpec := by
  refine ssound_eq h s.near hne fun obj t ds hok => ?_
  have hok' : (s.app obj t ds).ok := hok
  show ∃ ds', _ ∧ _ ∧ _ ∧ _ = (s.app obj t ds).d ∧ _ = (s.app obj t ds).obj
  unfold NSpec.app at hok' ⊢
  split at hok'
  · rename_i xs hx
    have hlen := asVs_len hx
    refine ⟨xs.map .v, by simpa using hlen, fun φ m us hl hr i h1 h2 => ?_, ?_⟩
    · simp only [List.length_map] at h1
      simp only [List.getElem_map]
      exact .v _ _ (asVs_rep hx i (by omega) h1 _ (hr i (by omega) h2))
    · have e1 : cOs obj (xs.map .v) = [] := by unfold cOs; rw [reach_v]; rfl
      have e2 : cDs obj (xs.map .v) = xs.map .v := by unfold cDs; rw [renL_v]
      have e3 : s.c.out [] (xs.map .v) = ⟨[], s.new xs, s.d xs⟩ := by simp only [NSpec.c, asVs_map]
      have e4 : s.c.pre [] (xs.map .v) := ⟨rfl, xs, rfl, hok'.2⟩
      have e5 : (shut obj [] && D.closL (inL []) (xs.map .v) && fresh obj t (s.new xs)) = true := by
        rw [closL_v, hok'.1]; rfl
      simp only [CSpec.toSpec, e1, e2, reach_v, e3, e4, e5, and_self, putU]
  · exact hok'.elim
/-- A walk proves it. -/
theorem nsound {P : Program} {f : FuncId} {fn : Func} {c : Code} {s : NSpec} {nt : Nat} {rs : List ResultVar} (hf : P.funcs[f]? = some fn) (hb : fn.body = some c) (hnt : fn.ntmps = nt) (hrs : fn.results.toList = rs)
    (hn : (fn.name == "runtime.NumGoroutine") = false) (hy : f < 1000000000)
    (h : ∀ xs, s.pre xs → xs.length ≤ nt ∧ CL P [c] (mkS nt [0] (fun _ => none) (argsD 0 (xs.map .v)) []) (retC P rs [] ⟨[], s.new xs, s.d xs⟩)) : SSound P f s.toSpec := by
  have hne : f ≠ yid := Nat.ne_of_lt (show f < yid from hy)
  refine NSpec.sound (csound hf hb hnt hrs (enter_of hf hb hn) hne ?_) hne
  rintro os ds ⟨rfl, xs, rfl, hp⟩
  obtain ⟨h1, h2⟩ := h xs hp
  have hH : outH [] = fun _ => none := by funext nm; unfold outH; split <;> rfl
  have e3 : s.c.out [] (xs.map .v) = ⟨[], s.new xs, s.d xs⟩ := by simp only [NSpec.c, asVs_map]
  rw [hH, e3]
  exact ⟨by simpa using h1, cl_of h2⟩
end Go.Eng
/- The engine's text of what walks say again and again: contracts over data that are encoded, closings, tables. -/
namespace Go.Eng
open Go
attribute [go_sem] Nat.reduceLeDiff Nat.le_refl Nat.reduceLT Nat.reduceAdd Nat.reduceEqDiff Nat.reduceSub Nat.reduceMul Nat.reduceBEq reduceIte reduceCtorEq
abbrev vInt (n : Int) : V := .int .i64 n
theorem lb {a b : Nat} (h : Nat.ble a b = true) : a ≤ b := Nat.le_of_ble_eq_true h
theorem sq {P : Program} {x y : Code} {r : List Code} {σ : S} {K : Exit → S → Prop} (h : CL P (x :: y :: r) σ K) : CL P (.seq x y :: r) σ K := cl_seq h
theorem ob {p : Prop} (h : p := by first | exact Bool.or_not_self _ | trivial | (unfold maxLen; omega) | exact Bool.not_or_self _ | exact fun _ => by decide | exact fun h => ⟨h, by decide⟩ | omega | ((repeat' apply And.intro) <;> first | rfl | omega | (unfold maxLen; omega) | trivial) | (simp only [decide_eq_true_eq]; omega) | exact ⟨_, rfl⟩ | exact fun h => ⟨h, _, rfl⟩ | exact ⟨_, _, rfl⟩ | exact fun h => ⟨h, _, _, rfl⟩ | exact fun h => ⟨h, _, _, _, rfl⟩ | exact ⟨_, _, _, _, rfl⟩ | exact fun h => ⟨h, _, _, _, _, rfl⟩ | exact ⟨[_, _], rfl⟩ | (simp only [Bool.decide_and, Bool.decide_eq_true]; exact Bool.not_or_self _) | (simp; done) | (simp_all; done) | (simp_all; omega) | (grind)) : p := h
theorem rs {P : Program} {Γ : FuncId → Option Spec} (hΓ : ∀ f s, Γ f = some s → SSound P f s) {id : Nat} {l : List Oper} {c : Code} {r : List Code} {σ τ : S} {K : Exit → S → Prop} (ks : List Nat) (ns : List Name) (h : CL P (c :: r) τ K)
    (h' : ∀ K' : S → Prop, (∀ σ', clS ks ns σ' → keepS ks ns σ' = τ → K' σ') → Reg P Γ l.toArray l σ K' := by intro K' hK; simp only [go_sem]; (repeat (refine ⟨ob, ?_⟩)); exact hK _ (by simp only [go_sem]) (by simp only [go_sem] <;> rfl)) : CL P (.region id l.toArray false :: c :: r) σ K :=
  cl_rs hΓ ks ns fun K' hK => h' K' fun σ' hc he => hK σ' hc (he ▸ h)
theorem rx {P : Program} {Γ : FuncId → Option Spec} (hΓ : ∀ f s, Γ f = some s → SSound P f s) {id : Nat} {l : List Oper} {c : Code} {r : List Code} {σ τ : S} {K : Exit → S → Prop} (ks : List Nat) (ns : List Name)
    (h' : ∀ K' : S → Prop, (∀ σ', clS ks ns σ' → keepS ks ns σ' = τ → K' σ') → Reg P Γ l.toArray l σ K') (h : CL P (c :: r) τ K) : CL P (.region id l.toArray false :: c :: r) σ K :=
  cl_rs hΓ ks ns fun K' hK => h' K' fun σ' hc he => hK σ' hc (he ▸ h)
theorem dx {P : Program} {Γ : FuncId → Option Spec} (hΓ : ∀ f s, Γ f = some s → SSound P f s) (hP : P.follows .mixedOrders = true) (az : List (List Nat)) {id : Nat} {l : List Oper} {c : Code} {r : List Code} {σ τ : S} {K : Exit → S → Prop} (ks : List Nat) (ns : List Name)
    (hs : statOk l.toArray az = true) (h' : ∀ K' : S → Prop, (∀ σ', clS ks ns σ' → keepS ks ns σ' = τ → K' σ') → RegE P Γ l.toArray 0 az l [] σ K') (h : CL P (c :: r) τ K) : CL P (.region id l.toArray true :: c :: r) σ K :=
  cl_ds hΓ hP az ks ns hs fun K' hK => h' K' fun σ' hc he => hK σ' hc (he ▸ h)
theorem kp {P : Program} {c : Code} {r : List Code} {σ τ : S} {K : Exit → S → Prop} (ks : List Nat) (ns : List Name) (hc : CL P (c :: r) τ K) (h : clS ks ns σ := by simp only [go_sem]) (he : keepS ks ns σ = τ := by simp only [go_sem] <;> rfl) : CL P (c :: r) σ K :=
  cl_keep ks ns h (he ▸ hc)
theorem rt {P : Program} {r : List Code} {σ : S} {K : Exit → S → Prop} (h : K .ret σ := by simp only [go_sem]) : CL P (.ret :: r) σ K := cl_ret h

/-! tables of contracts -/
def tbl : List (Nat × Spec) → FuncId → Option Spec
  | [], _ => none
  | (g, s) :: r, f => if f = g then some s else tbl r f
theorem tn {P : Program} : ∀ f s, tbl [] f = some s → SSound P f s := fun _ _ h => by cases h
theorem tc {P : Program} {g : Nat} {s0 : Spec} {r : List (Nat × Spec)} (h : SSound P g s0) (hr : ∀ f s, tbl r f = some s → SSound P f s) : ∀ f s, tbl ((g, s0) :: r) f = some s → SSound P f s := by
  intro f s hf
  unfold tbl at hf
  split at hf
  · rename_i e
    cases hf
    subst e
    exact h
  · exact hr f s hf
attribute [go_sem] tbl
theorem psoundB {P : Program} {f : FuncId} {fn : Func} {s : PSpec} {nt : Nat} {rs : List ResultVar} (hf : P.funcs[f]? = some fn) (hnt : fn.ntmps = nt) (hrs : fn.results.toList = rs) (hn : (fn.name == "runtime.NumGoroutine") = false) (hy : f < 1000000000)
    (hfl : s.flat = true → ∀ xs, s.pre xs → (s.fn xs).flat = true)
    (hb : ∃ c, fn.body = some c ∧ ∀ xs, s.pre xs → V.wfL xs → xs.length ≤ nt ∧ CL P [c] (mkS nt [0] (fun _ => none) (argsL 0 xs) []) (retK P rs (s.fn xs))) : PSound P f s := by
  obtain ⟨c, hc, h⟩ := hb
  exact psound hf hc hnt hrs (enter_of hf hc hn) (Nat.ne_of_lt (show f < yid from hy)) hfl fun xs hp hw => ⟨(h xs hp hw).1, cl_of (h xs hp hw).2⟩

/-! contracts over data that are encoded -/
structure En (α : Type) where
  enc : α → V
  dec : V → α
def decSl {α : Type} (d : V → α) : V → List α
  | .sl l => l.map d
  | _ => []
def iSl {α : Type} (e : En α) : En (List α) := ⟨fun l => .sl (l.map e.enc), decSl e.dec⟩
/-- A constant (a function, say). -/
def iC (v : V) : En Unit := ⟨fun _ => v, fun _ => ()⟩
def iF (n : Nat) : En Unit := iC (.clo (.func n) [] [])

def p1 {α : Type} (A : En α) (p : α → Prop) (g : α → V) (fl : Bool) : PSpec :=
  ⟨fun xs => match xs with | [x] => A.enc (A.dec x) = x ∧ p (A.dec x) | _ => False, fun xs => match xs with | [x] => g (A.dec x) | _ => .bool false, fl⟩
def p2 {α β : Type} (A : En α) (B : En β) (p : α → β → Prop) (g : α → β → V) (fl : Bool) : PSpec :=
  ⟨fun xs => match xs with | [x, y] => A.enc (A.dec x) = x ∧ B.enc (B.dec y) = y ∧ p (A.dec x) (B.dec y) | _ => False, fun xs => match xs with | [x, y] => g (A.dec x) (B.dec y) | _ => .bool false, fl⟩
def p3 {α β γ : Type} (A : En α) (B : En β) (C : En γ) (p : α → β → γ → Prop) (g : α → β → γ → V) (fl : Bool) : PSpec :=
  ⟨fun xs => match xs with | [x, y, z] => A.enc (A.dec x) = x ∧ B.enc (B.dec y) = y ∧ C.enc (C.dec z) = z ∧ p (A.dec x) (B.dec y) (C.dec z) | _ => False,
   fun xs => match xs with | [x, y, z] => g (A.dec x) (B.dec y) (C.dec z) | _ => .bool false, fl⟩
def p4 {α β γ δ : Type} (A : En α) (B : En β) (C : En γ) (D : En δ) (p : α → β → γ → δ → Prop) (g : α → β → γ → δ → V) (fl : Bool) : PSpec :=
  ⟨fun xs => match xs with | [x, y, z, u] => A.enc (A.dec x) = x ∧ B.enc (B.dec y) = y ∧ C.enc (C.dec z) = z ∧ D.enc (D.dec u) = u ∧ p (A.dec x) (B.dec y) (C.dec z) (D.dec u) | _ => False,
   fun xs => match xs with | [x, y, z, u] => g (A.dec x) (B.dec y) (C.dec z) (D.dec u) | _ => .bool false, fl⟩
theorem p1_elim {α : Type} {A : En α} {p : α → Prop} {g : α → V} {fl : Bool} {xs : List V} (h : (p1 A p g fl).pre xs) : ∃ a, xs = [A.enc a] ∧ p a ∧ (p1 A p g fl).fn xs = g a := by
  unfold p1 at h
  simp only at h
  split at h
  · exact ⟨_, by rw [h.1], h.2, rfl⟩
  · exact h.elim
theorem p2_elim {α β : Type} {A : En α} {B : En β} {p : α → β → Prop} {g : α → β → V} {fl : Bool} {xs : List V} (h : (p2 A B p g fl).pre xs) : ∃ a b, xs = [A.enc a, B.enc b] ∧ p a b ∧ (p2 A B p g fl).fn xs = g a b := by
  unfold p2 at h
  simp only at h
  split at h
  · exact ⟨_, _, by rw [h.1, h.2.1], h.2.2, rfl⟩
  · exact h.elim
theorem p3_elim {α β γ : Type} {A : En α} {B : En β} {C : En γ} {p : α → β → γ → Prop} {g : α → β → γ → V} {fl : Bool} {xs : List V} (h : (p3 A B C p g fl).pre xs) :
    ∃ a b c, xs = [A.enc a, B.enc b, C.enc c] ∧ p a b c ∧ (p3 A B C p g fl).fn xs = g a b c := by
  unfold p3 at h
  simp only at h
  split at h
  · exact ⟨_, _, _, by rw [h.1, h.2.1, h.2.2.1], h.2.2.2, rfl⟩
  · exact h.elim
theorem p4_elim {α β γ δ : Type} {A : En α} {B : En β} {C : En γ} {D : En δ} {p : α → β → γ → δ → Prop} {g : α → β → γ → δ → V} {fl : Bool} {xs : List V} (h : (p4 A B C D p g fl).pre xs) :
    ∃ a b c d, xs = [A.enc a, B.enc b, C.enc c, D.enc d] ∧ p a b c d ∧ (p4 A B C D p g fl).fn xs = g a b c d := by
  unfold p4 at h
  simp only at h
  split at h
  · exact ⟨_, _, _, _, by rw [h.1, h.2.1, h.2.2.1, h.2.2.2.1], h.2.2.2.2, rfl⟩
  · exact h.elim
theorem p1_flat {α : Type} {A : En α} {p : α → Prop} {g : α → V} {fl : Bool} (hg : ∀ a, (g a).flat = true) : (p1 A p g fl).flat = true → ∀ xs, (p1 A p g fl).pre xs → ((p1 A p g fl).fn xs).flat = true := by
  intro _ xs h
  obtain ⟨a, _, _, e⟩ := p1_elim h
  rw [e]; exact hg _
theorem p2_flat {α β : Type} {A : En α} {B : En β} {p : α → β → Prop} {g : α → β → V} {fl : Bool} (hg : ∀ a b, (g a b).flat = true) : (p2 A B p g fl).flat = true → ∀ xs, (p2 A B p g fl).pre xs → ((p2 A B p g fl).fn xs).flat = true := by
  intro _ xs h
  obtain ⟨a, b, _, _, e⟩ := p2_elim h
  rw [e]; exact hg _ _
theorem p3_flat {α β γ : Type} {A : En α} {B : En β} {C : En γ} {p : α → β → γ → Prop} {g : α → β → γ → V} {fl : Bool} (hg : ∀ a b c, (g a b c).flat = true) :
    (p3 A B C p g fl).flat = true → ∀ xs, (p3 A B C p g fl).pre xs → ((p3 A B C p g fl).fn xs).flat = true := by
  intro _ xs h
  obtain ⟨a, b, c, _, _, e⟩ := p3_elim h
  rw [e]; exact hg _ _ _
theorem p4_flat {α β γ δ : Type} {A : En α} {B : En β} {C : En γ} {D : En δ} {p : α → β → γ → δ → Prop} {g : α → β → γ → δ → V} {fl : Bool} (hg : ∀ a b c d, (g a b c d).flat = true) :
    (p4 A B C D p g fl).flat = true → ∀ xs, (p4 A B C D p g fl).pre xs → ((p4 A B C D p g fl).fn xs).flat = true := by
  intro _ xs h
  obtain ⟨a, b, c, d, _, _, e⟩ := p4_elim h
  rw [e]; exact hg _ _ _ _
attribute [go_sem] p1 p2 p3 p4 decSl iSl iC iF PSpec.toSpec yid Option.bind_some Option.bind_none
theorem no_sound {P : Program} : ∀ f s, (fun _ => none : FuncId → Option Spec) f = some s → SSound P f s := fun f s h => by cases h
theorem cl_blockJ {P : Program} {id : Nat} {c c2 : Code} {r : List Code} {σ : S} {K : Exit → S → Prop} {ι : Type} (Q : ι → Prop) (τ : ι → S) (h1 : ∀ i, Q i → CL P (c2 :: r) (τ i) K)
    (h2 : CL P [c] σ (blockK id (thenK (fun σ' => ∃ i, Q i ∧ WeakM σ' (τ i)) K))) : CL P (.block id c :: c2 :: r) σ K := by
  refine cw_block (CW.mono (cl_of h2) fun e σ' hk => ?_)
  have key : ∀ e σ', thenK (fun σ' => ∃ i, Q i ∧ WeakM σ' (τ i)) K e σ' → thenK (fun σ' => CL P (c2 :: r) σ' K) K e σ' := fun e σ' h => by
    cases e with
    | normal =>
      obtain ⟨i, hq, hw⟩ := h
      exact cl_weakM hw (h1 i hq)
    | _ => exact h
  cases e with
  | exit id' =>
    unfold blockK at hk ⊢
    simp only at hk ⊢
    split
    · rename_i h; rw [if_pos h] at hk; exact key _ _ hk
    · rename_i h; rw [if_neg h] at hk; exact key _ _ hk
  | normal => exact key .normal σ' hk
  | _ => exact hk
theorem cl_condJ {P : Program} {c : Operand} {x y c2 : Code} {r : List Code} {σ : S} {K : Exit → S → Prop} {b : Bool} (τ : S) (hc : opC σ c = true) (hd : opD σ c = .v (.bool b))
    (ht : b = true → CL P [x] σ (thenK (fun σ' => WeakM σ' τ) K)) (hf : b = false → CL P [y] σ (thenK (fun σ' => WeakM σ' τ) K)) (h : CL P (c2 :: r) τ K) : CL P (.cond c x y :: c2 :: r) σ K := by
  have key : ∀ z, CL P [z] σ (thenK (fun σ' => WeakM σ' τ) K) → CL P (z :: c2 :: r) σ K := fun z hz =>
    CW.mono (cl_of hz) fun e σ' hk => by
      cases e with
      | normal => exact cl_weakM hk h
      | _ => exact hk
  exact cl_cond hc hd (fun hb => key x (ht hb)) fun hb => key y (hf hb)
theorem wrap_pred {n : Nat} (h : ¬ n = 0) (hn : n ≤ maxLen) : IntKind.i64.wrap ((n : Int) - 1) = ((n - 1 : Nat) : Int) := by
  unfold maxLen at hn
  rw [wrap_i64 (by omega) (by omega)]
  omega
theorem getD_at {α : Type} {l : List α} {i : Nat} {z : α} (h : i < l.length) : l.getD i z = l[i] := by
  simp [List.getD, h]
theorem outC_outs {os : List O} (hc : ∀ o ∈ os, ∀ dom : Name → Bool, (∀ i, dom [i, 1] = true) → O.clos dom o = true) (hs : List (Name × O)) : OutC [0] (domOf [0] hs) (outH os) := by
  intro nm o hn h
  unfold outH at h
  split at h
  · rename_i i
    refine hc o (List.mem_of_getElem? h) _ fun i => ?_
    simp only [domOf, own_out01, Bool.not_false, Bool.true_or]
  · cases h
theorem outH_at (os : List O) (i : Nat) : outH os [i, 1] = os[i]? := rfl

def n1 {α : Type} (A : En α) (p : α → Prop) (new : α → List (Name × O)) (d : α → D) : NSpec :=
  ⟨fun xs => match xs with | [x] => A.enc (A.dec x) = x ∧ p (A.dec x) | _ => False, fun xs => match xs with | [x] => new (A.dec x) | _ => [], fun xs => match xs with | [x] => d (A.dec x) | _ => .any⟩
def n2 {α β : Type} (A : En α) (B : En β) (p : α → β → Prop) (new : α → β → List (Name × O)) (d : α → β → D) : NSpec :=
  ⟨fun xs => match xs with | [x, y] => A.enc (A.dec x) = x ∧ B.enc (B.dec y) = y ∧ p (A.dec x) (B.dec y) | _ => False, fun xs => match xs with | [x, y] => new (A.dec x) (B.dec y) | _ => [], fun xs => match xs with | [x, y] => d (A.dec x) (B.dec y) | _ => .any⟩
theorem n1_elim {α : Type} {A : En α} {p : α → Prop} {new : α → List (Name × O)} {d : α → D} {xs : List V} (h : (n1 A p new d).pre xs) : ∃ a, xs = [A.enc a] ∧ p a ∧ (n1 A p new d).new xs = new a ∧ (n1 A p new d).d xs = d a := by
  unfold n1 at h
  simp only at h
  split at h
  · exact ⟨_, by rw [h.1], h.2, rfl, rfl⟩
  · exact h.elim
theorem n2_elim {α β : Type} {A : En α} {B : En β} {p : α → β → Prop} {new : α → β → List (Name × O)} {d : α → β → D} {xs : List V} (h : (n2 A B p new d).pre xs) : ∃ a b, xs = [A.enc a, B.enc b] ∧ p a b ∧ (n2 A B p new d).new xs = new a b ∧ (n2 A B p new d).d xs = d a b := by
  unfold n2 at h
  simp only at h
  split at h
  · exact ⟨_, _, by rw [h.1, h.2.1], h.2.2, rfl, rfl⟩
  · exact h.elim
attribute [go_sem] n1 n2 NSpec.toSpec NSpec.app asVs putN cout D.ren D.renL O.ren fresh
/-! walks begin -/
section
variable {P : Program} {f : FuncId} {fn : Func} {nt : Nat} {rs : List ResultVar}
theorem w1 {α : Type} {A : En α} {p : α → Prop} {g : α → V} {fl : Bool} (hf : P.funcs[f]? = some fn) (hnt : fn.ntmps = nt) (hrs : fn.results.toList = rs) (hn : (fn.name == "runtime.NumGoroutine") = false) (hy : f < 1000000000)
    (hfl : fl = true → ∀ a, (g a).flat = true) (hb : ∃ c, fn.body = some c ∧ 1 ≤ nt ∧ ∀ a, p a → V.wfL [A.enc a] → CL P [c] (mkS nt [0] (fun _ => none) (argsL 0 [A.enc a]) []) (retK P rs (g a))) : PSound P f (p1 A p g fl) := by
  obtain ⟨c, hc, h1, h⟩ := hb
  refine psoundB hf hnt hrs hn hy (fun e => p1_flat (hfl e) e) ⟨c, hc, fun xs hp hw => ?_⟩
  obtain ⟨a, rfl, hp, hg⟩ := p1_elim hp
  rw [hg]
  exact ⟨h1, h a hp hw⟩
theorem w2 {α β : Type} {A : En α} {B : En β} {p : α → β → Prop} {g : α → β → V} {fl : Bool} (hf : P.funcs[f]? = some fn) (hnt : fn.ntmps = nt) (hrs : fn.results.toList = rs) (hn : (fn.name == "runtime.NumGoroutine") = false) (hy : f < 1000000000)
    (hfl : fl = true → ∀ a b, (g a b).flat = true) (hb : ∃ c, fn.body = some c ∧ 2 ≤ nt ∧ ∀ a b, p a b → V.wfL [A.enc a, B.enc b] → CL P [c] (mkS nt [0] (fun _ => none) (argsL 0 [A.enc a, B.enc b]) []) (retK P rs (g a b))) : PSound P f (p2 A B p g fl) := by
  obtain ⟨c, hc, h1, h⟩ := hb
  refine psoundB hf hnt hrs hn hy (fun e => p2_flat (hfl e) e) ⟨c, hc, fun xs hp hw => ?_⟩
  obtain ⟨a, b, rfl, hp, hg⟩ := p2_elim hp
  rw [hg]
  exact ⟨h1, h a b hp hw⟩
theorem w3 {α β γ : Type} {A : En α} {B : En β} {C : En γ} {p : α → β → γ → Prop} {g : α → β → γ → V} {fl : Bool} (hf : P.funcs[f]? = some fn) (hnt : fn.ntmps = nt) (hrs : fn.results.toList = rs) (hn : (fn.name == "runtime.NumGoroutine") = false) (hy : f < 1000000000)
    (hfl : fl = true → ∀ a b c, (g a b c).flat = true) (hb : ∃ c, fn.body = some c ∧ 3 ≤ nt ∧ ∀ a b d, p a b d → V.wfL [A.enc a, B.enc b, C.enc d] → CL P [c] (mkS nt [0] (fun _ => none) (argsL 0 [A.enc a, B.enc b, C.enc d]) []) (retK P rs (g a b d))) : PSound P f (p3 A B C p g fl) := by
  obtain ⟨c, hc, h1, h⟩ := hb
  refine psoundB hf hnt hrs hn hy (fun e => p3_flat (hfl e) e) ⟨c, hc, fun xs hp hw => ?_⟩
  obtain ⟨a, b, d, rfl, hp, hg⟩ := p3_elim hp
  rw [hg]
  exact ⟨h1, h a b d hp hw⟩
theorem w4 {α β γ δ : Type} {A : En α} {B : En β} {C : En γ} {E : En δ} {p : α → β → γ → δ → Prop} {g : α → β → γ → δ → V} {fl : Bool} (hf : P.funcs[f]? = some fn) (hnt : fn.ntmps = nt) (hrs : fn.results.toList = rs) (hn : (fn.name == "runtime.NumGoroutine") = false) (hy : f < 1000000000)
    (hfl : fl = true → ∀ a b c d, (g a b c d).flat = true) (hb : ∃ c, fn.body = some c ∧ 4 ≤ nt ∧ ∀ a b d e, p a b d e → V.wfL [A.enc a, B.enc b, C.enc d, E.enc e] → CL P [c] (mkS nt [0] (fun _ => none) (argsL 0 [A.enc a, B.enc b, C.enc d, E.enc e]) []) (retK P rs (g a b d e))) : PSound P f (p4 A B C E p g fl) := by
  obtain ⟨c, hc, h1, h⟩ := hb
  refine psoundB hf hnt hrs hn hy (fun e => p4_flat (hfl e) e) ⟨c, hc, fun xs hp hw => ?_⟩
  obtain ⟨a, b, d, e, rfl, hp, hg⟩ := p4_elim hp
  rw [hg]
  exact ⟨h1, h a b d e hp hw⟩
end
open Go Go.Proofs
attribute [go_sem] aConvN
@[go_sem] theorem ta0 : tAgg Tryz.prog 0 = some (false, 1) := by kernel_rfl
@[go_sem] theorem ta3 : tAgg Tryz.prog 3 = some (false, 1) := by kernel_rfl
@[go_sem] theorem ti3 : tInt Tryz.prog 3 = some .i64 := by kernel_rfl
@[go_sem] theorem tz3 : tZero Tryz.prog 3 = some (.int .i64 0) := by kernel_rfl
@[go_sem] theorem ta4 : tAgg Tryz.prog 4 = some (false, 1) := by kernel_rfl
@[go_sem] theorem tz4 : tZero Tryz.prog 4 = some (.bool false) := by kernel_rfl
@[go_sem] theorem ta5 : tAgg Tryz.prog 5 = some (false, 1) := by kernel_rfl
@[go_sem] theorem ti5 : tInt Tryz.prog 5 = some .u8 := by kernel_rfl
@[go_sem] theorem tz5 : tZero Tryz.prog 5 = some (.int .u8 0) := by kernel_rfl
@[go_sem] theorem ta9 : tAgg Tryz.prog 9 = some (false, 1) := by kernel_rfl
@[go_sem] theorem tl9 : tLen Tryz.prog 9 = some 1 := by kernel_rfl
@[go_sem] theorem tz9 : tZero Tryz.prog 9 = some (.string ⟨#[]⟩) := by kernel_rfl
@[go_sem] theorem ta22 : tAgg Tryz.prog 22 = some (false, 1) := by kernel_rfl
@[go_sem] theorem te22 : tElem Tryz.prog 22 = some (3, 1, 8) := by kernel_rfl
@[go_sem] theorem tl22 : tLen Tryz.prog 22 = some 0 := by kernel_rfl
@[go_sem] theorem tz22 : tZero Tryz.prog 22 = some (.slice none 0 0) := by kernel_rfl
@[go_sem] theorem ta23 : tAgg Tryz.prog 23 = some (false, 1) := by kernel_rfl
@[go_sem] theorem te23 : tElem Tryz.prog 23 = some (91, 2, 16) := by kernel_rfl
@[go_sem] theorem tl23 : tLen Tryz.prog 23 = some 0 := by kernel_rfl
@[go_sem] theorem tz23 : tZero Tryz.prog 23 = some (.slice none 0 0) := by kernel_rfl
@[go_sem] theorem ta24 : tAgg Tryz.prog 24 = some (true, 6) := by kernel_rfl
@[go_sem] theorem tr24 : tArr Tryz.prog 24 = some (6, 1, false) := by kernel_rfl
@[go_sem] theorem tp24 : tPlaces Tryz.prog 24 = some [(0, 1), (1, 1), (2, 1), (3, 1), (4, 1), (5, 1)] := by kernel_rfl
@[go_sem] theorem tz24 : tZero Tryz.prog 24 = some (.agg #[(.slice none 0 0), (.slice none 0 0), (.slice none 0 0), (.slice none 0 0), (.slice none 0 0), (.slice none 0 0)]) := by kernel_rfl
@[go_sem] theorem ta25 : tAgg Tryz.prog 25 = some (true, 6) := by kernel_rfl
@[go_sem] theorem tr25 : tArr Tryz.prog 25 = some (6, 1, false) := by kernel_rfl
@[go_sem] theorem tp25 : tPlaces Tryz.prog 25 = some [(0, 1), (1, 1), (2, 1), (3, 1), (4, 1), (5, 1)] := by kernel_rfl
@[go_sem] theorem tz25 : tZero Tryz.prog 25 = some (.agg #[(.int .i64 0), (.int .i64 0), (.int .i64 0), (.int .i64 0), (.int .i64 0), (.int .i64 0)]) := by kernel_rfl
@[go_sem] theorem ta27 : tAgg Tryz.prog 27 = some (true, 19) := by kernel_rfl
@[go_sem] theorem tp27 : tPlaces Tryz.prog 27 = some [(0, 1), (1, 6), (7, 6), (13, 6)] := by kernel_rfl
@[go_sem] theorem tz27 : tZero Tryz.prog 27 = some (.agg #[(.slice none 0 0), (.slice none 0 0), (.slice none 0 0), (.slice none 0 0), (.slice none 0 0), (.slice none 0 0), (.slice none 0 0), (.int .i64 0), (.int .i64 0), (.int .i64 0), (.int .i64 0), (.int .i64 0), (.int .i64 0), (.int .i64 0), (.int .i64 0), (.int .i64 0), (.int .i64 0), (.int .i64 0), (.int .i64 0)]) := by kernel_rfl
@[go_sem] theorem tf27_0 : tField Tryz.prog 27 0 = some (0, 1, false) := by kernel_rfl
@[go_sem] theorem tf27_1 : tField Tryz.prog 27 1 = some (1, 6, true) := by kernel_rfl
@[go_sem] theorem tf27_2 : tField Tryz.prog 27 2 = some (7, 6, true) := by kernel_rfl
@[go_sem] theorem tf27_3 : tField Tryz.prog 27 3 = some (13, 6, true) := by kernel_rfl
@[go_sem] theorem ta29 : tAgg Tryz.prog 29 = some (true, 21) := by kernel_rfl
@[go_sem] theorem tp29 : tPlaces Tryz.prog 29 = some [(0, 1), (1, 19), (20, 1)] := by kernel_rfl
@[go_sem] theorem tz29 : tZero Tryz.prog 29 = some (.agg #[(.int .i64 0), (.slice none 0 0), (.slice none 0 0), (.slice none 0 0), (.slice none 0 0), (.slice none 0 0), (.slice none 0 0), (.slice none 0 0), (.int .i64 0), (.int .i64 0), (.int .i64 0), (.int .i64 0), (.int .i64 0), (.int .i64 0), (.int .i64 0), (.int .i64 0), (.int .i64 0), (.int .i64 0), (.int .i64 0), (.int .i64 0), (.int .i64 0)]) := by kernel_rfl
@[go_sem] theorem tf29_0 : tField Tryz.prog 29 0 = some (0, 1, false) := by kernel_rfl
@[go_sem] theorem tf29_1 : tField Tryz.prog 29 1 = some (1, 19, true) := by kernel_rfl
@[go_sem] theorem tf29_2 : tField Tryz.prog 29 2 = some (20, 1, false) := by kernel_rfl
@[go_sem] theorem ta30 : tAgg Tryz.prog 30 = some (true, 42) := by kernel_rfl
@[go_sem] theorem tr30 : tArr Tryz.prog 30 = some (2, 21, true) := by kernel_rfl
@[go_sem] theorem tp30 : tPlaces Tryz.prog 30 = some [(0, 21), (21, 21)] := by kernel_rfl
@[go_sem] theorem tz30 : tZero Tryz.prog 30 = some (.agg #[(.int .i64 0), (.slice none 0 0), (.slice none 0 0), (.slice none 0 0), (.slice none 0 0), (.slice none 0 0), (.slice none 0 0), (.slice none 0 0), (.int .i64 0), (.int .i64 0), (.int .i64 0), (.int .i64 0), (.int .i64 0), (.int .i64 0), (.int .i64 0), (.int .i64 0), (.int .i64 0), (.int .i64 0), (.int .i64 0), (.int .i64 0), (.int .i64 0), (.int .i64 0), (.slice none 0 0), (.slice none 0 0), (.slice none 0 0), (.slice none 0 0), (.slice none 0 0), (.slice none 0 0), (.slice none 0 0), (.int .i64 0), (.int .i64 0), (.int .i64 0), (.int .i64 0), (.int .i64 0), (.int .i64 0), (.int .i64 0), (.int .i64 0), (.int .i64 0), (.int .i64 0), (.int .i64 0), (.int .i64 0), (.int .i64 0)]) := by kernel_rfl
@[go_sem] theorem ta32 : tAgg Tryz.prog 32 = some (true, 63) := by kernel_rfl
@[go_sem] theorem tp32 : tPlaces Tryz.prog 32 = some [(0, 1), (1, 19), (20, 42), (62, 1)] := by kernel_rfl
@[go_sem] theorem tz32 : tZero Tryz.prog 32 = some (.agg #[(.int .i64 0), (.slice none 0 0), (.slice none 0 0), (.slice none 0 0), (.slice none 0 0), (.slice none 0 0), (.slice none 0 0), (.slice none 0 0), (.int .i64 0), (.int .i64 0), (.int .i64 0), (.int .i64 0), (.int .i64 0), (.int .i64 0), (.int .i64 0), (.int .i64 0), (.int .i64 0), (.int .i64 0), (.int .i64 0), (.int .i64 0), (.int .i64 0), (.slice none 0 0), (.slice none 0 0), (.slice none 0 0), (.slice none 0 0), (.slice none 0 0), (.slice none 0 0), (.slice none 0 0), (.int .i64 0), (.int .i64 0), (.int .i64 0), (.int .i64 0), (.int .i64 0), (.int .i64 0), (.int .i64 0), (.int .i64 0), (.int .i64 0), (.int .i64 0), (.int .i64 0), (.int .i64 0), (.int .i64 0), (.int .i64 0), (.slice none 0 0), (.slice none 0 0), (.slice none 0 0), (.slice none 0 0), (.slice none 0 0), (.slice none 0 0), (.slice none 0 0), (.int .i64 0), (.int .i64 0), (.int .i64 0), (.int .i64 0), (.int .i64 0), (.int .i64 0), (.int .i64 0), (.int .i64 0), (.int .i64 0), (.int .i64 0), (.int .i64 0), (.int .i64 0), (.int .i64 0), (.int .i64 0)]) := by kernel_rfl
@[go_sem] theorem tf32_0 : tField Tryz.prog 32 0 = some (0, 1, false) := by kernel_rfl
@[go_sem] theorem tf32_1 : tField Tryz.prog 32 1 = some (1, 19, true) := by kernel_rfl
@[go_sem] theorem tf32_2 : tField Tryz.prog 32 2 = some (20, 42, true) := by kernel_rfl
@[go_sem] theorem tf32_3 : tField Tryz.prog 32 3 = some (62, 1, false) := by kernel_rfl
@[go_sem] theorem ta34 : tAgg Tryz.prog 34 = some (true, 4) := by kernel_rfl
@[go_sem] theorem tp34 : tPlaces Tryz.prog 34 = some [(0, 1), (1, 1), (2, 1), (3, 1)] := by kernel_rfl
@[go_sem] theorem tz34 : tZero Tryz.prog 34 = some (.agg #[(.int .i64 0), (.int .i64 0), (.slice none 0 0), (.int .i64 0)]) := by kernel_rfl
@[go_sem] theorem tf34_0 : tField Tryz.prog 34 0 = some (0, 1, false) := by kernel_rfl
@[go_sem] theorem tf34_1 : tField Tryz.prog 34 1 = some (1, 1, false) := by kernel_rfl
@[go_sem] theorem tf34_2 : tField Tryz.prog 34 2 = some (2, 1, false) := by kernel_rfl
@[go_sem] theorem tf34_3 : tField Tryz.prog 34 3 = some (3, 1, false) := by kernel_rfl
@[go_sem] theorem ta35 : tAgg Tryz.prog 35 = some (true, 3) := by kernel_rfl
@[go_sem] theorem tr35 : tArr Tryz.prog 35 = some (3, 1, false) := by kernel_rfl
@[go_sem] theorem tp35 : tPlaces Tryz.prog 35 = some [(0, 1), (1, 1), (2, 1)] := by kernel_rfl
@[go_sem] theorem tz35 : tZero Tryz.prog 35 = some (.agg #[(.int .i64 0), (.int .i64 0), (.int .i64 0)]) := by kernel_rfl
@[go_sem] theorem ta36 : tAgg Tryz.prog 36 = some (false, 1) := by kernel_rfl
@[go_sem] theorem ti36 : tInt Tryz.prog 36 = some .i64 := by kernel_rfl
@[go_sem] theorem tz36 : tZero Tryz.prog 36 = some (.int .i64 0) := by kernel_rfl
@[go_sem] theorem ta37 : tAgg Tryz.prog 37 = some (false, 1) := by kernel_rfl
@[go_sem] theorem ta45 : tAgg Tryz.prog 45 = some (false, 1) := by kernel_rfl
@[go_sem] theorem te45 : tElem Tryz.prog 45 = some (113, 5, 40) := by kernel_rfl
@[go_sem] theorem tl45 : tLen Tryz.prog 45 = some 0 := by kernel_rfl
@[go_sem] theorem tz45 : tZero Tryz.prog 45 = some (.slice none 0 0) := by kernel_rfl
@[go_sem] theorem ta46 : tAgg Tryz.prog 46 = some (true, 5) := by kernel_rfl
@[go_sem] theorem tr46 : tArr Tryz.prog 46 = some (5, 1, false) := by kernel_rfl
@[go_sem] theorem tp46 : tPlaces Tryz.prog 46 = some [(0, 1), (1, 1), (2, 1), (3, 1), (4, 1)] := by kernel_rfl
@[go_sem] theorem tz46 : tZero Tryz.prog 46 = some (.agg #[(.int .i64 0), (.int .i64 0), (.int .i64 0), (.int .i64 0), (.int .i64 0)]) := by kernel_rfl
@[go_sem] theorem ta47 : tAgg Tryz.prog 47 = some (true, 378) := by kernel_rfl
@[go_sem] theorem tr47 : tArr Tryz.prog 47 = some (6, 63, true) := by kernel_rfl
@[go_sem] theorem tp47 : tPlaces Tryz.prog 47 = some [(0, 63), (63, 63), (126, 63), (189, 63), (252, 63), (315, 63)] := by kernel_rfl
@[go_sem] theorem tz47 : tZero Tryz.prog 47 = some (.agg #[(.int .i64 0), (.slice none 0 0), (.slice none 0 0), (.slice none 0 0), (.slice none 0 0), (.slice none 0 0), (.slice none 0 0), (.slice none 0 0), (.int .i64 0), (.int .i64 0), (.int .i64 0), (.int .i64 0), (.int .i64 0), (.int .i64 0), (.int .i64 0), (.int .i64 0), (.int .i64 0), (.int .i64 0), (.int .i64 0), (.int .i64 0), (.int .i64 0), (.slice none 0 0), (.slice none 0 0), (.slice none 0 0), (.slice none 0 0), (.slice none 0 0), (.slice none 0 0), (.slice none 0 0), (.int .i64 0), (.int .i64 0), (.int .i64 0), (.int .i64 0), (.int .i64 0), (.int .i64 0), (.int .i64 0), (.int .i64 0), (.int .i64 0), (.int .i64 0), (.int .i64 0), (.int .i64 0), (.int .i64 0), (.int .i64 0), (.slice none 0 0), (.slice none 0 0), (.slice none 0 0), (.slice none 0 0), (.slice none 0 0), (.slice none 0 0), (.slice none 0 0), (.int .i64 0), (.int .i64 0), (.int .i64 0), (.int .i64 0), (.int .i64 0), (.int .i64 0), (.int .i64 0), (.int .i64 0), (.int .i64 0), (.int .i64 0), (.int .i64 0), (.int .i64 0), (.int .i64 0), (.int .i64 0), (.int .i64 0), (.slice none 0 0), (.slice none 0 0), (.slice none 0 0), (.slice none 0 0), (.slice none 0 0), (.slice none 0 0), (.slice none 0 0), (.int .i64 0), (.int .i64 0), (.int .i64 0), (.int .i64 0), (.int .i64 0), (.int .i64 0), (.int .i64 0), (.int .i64 0), (.int .i64 0), (.int .i64 0), (.int .i64 0), (.int .i64 0), (.int .i64 0), (.slice none 0 0), (.slice none 0 0), (.slice none 0 0), (.slice none 0 0), (.slice none 0 0), (.slice none 0 0), (.slice none 0 0), (.int .i64 0), (.int .i64 0), (.int .i64 0), (.int .i64 0), (.int .i64 0), (.int .i64 0), (.int .i64 0), (.int .i64 0), (.int .i64 0), (.int .i64 0), (.int .i64 0), (.int .i64 0), (.int .i64 0), (.int .i64 0), (.slice none 0 0), (.slice none 0 0), (.slice none 0 0), (.slice none 0 0), (.slice none 0 0), (.slice none 0 0), (.slice none 0 0), (.int .i64 0), (.int .i64 0), (.int .i64 0), (.int .i64 0), (.int .i64 0), (.int .i64 0), (.int .i64 0), (.int .i64 0), (.int .i64 0), (.int .i64 0), (.int .i64 0), (.int .i64 0), (.int .i64 0), (.int .i64 0), (.int .i64 0), (.slice none 0 0), (.slice none 0 0), (.slice none 0 0), (.slice none 0 0), (.slice none 0 0), (.slice none 0 0), (.slice none 0 0), (.int .i64 0), (.int .i64 0), (.int .i64 0), (.int .i64 0), (.int .i64 0), (.int .i64 0), (.int .i64 0), (.int .i64 0), (.int .i64 0), (.int .i64 0), (.int .i64 0), (.int .i64 0), (.int .i64 0), (.slice none 0 0), (.slice none 0 0), (.slice none 0 0), (.slice none 0 0), (.slice none 0 0), (.slice none 0 0), (.slice none 0 0), (.int .i64 0), (.int .i64 0), (.int .i64 0), (.int .i64 0), (.int .i64 0), (.int .i64 0), (.int .i64 0), (.int .i64 0), (.int .i64 0), (.int .i64 0), (.int .i64 0), (.int .i64 0), (.int .i64 0), (.int .i64 0), (.slice none 0 0), (.slice none 0 0), (.slice none 0 0), (.slice none 0 0), (.slice none 0 0), (.slice none 0 0), (.slice none 0 0), (.int .i64 0), (.int .i64 0), (.int .i64 0), (.int .i64 0), (.int .i64 0), (.int .i64 0), (.int .i64 0), (.int .i64 0), (.int .i64 0), (.int .i64 0), (.int .i64 0), (.int .i64 0), (.int .i64 0), (.int .i64 0), (.int .i64 0), (.slice none 0 0), (.slice none 0 0), (.slice none 0 0), (.slice none 0 0), (.slice none 0 0), (.slice none 0 0), (.slice none 0 0), (.int .i64 0), (.int .i64 0), (.int .i64 0), (.int .i64 0), (.int .i64 0), (.int .i64 0), (.int .i64 0), (.int .i64 0), (.int .i64 0), (.int .i64 0), (.int .i64 0), (.int .i64 0), (.int .i64 0), (.slice none 0 0), (.slice none 0 0), (.slice none 0 0), (.slice none 0 0), (.slice none 0 0), (.slice none 0 0), (.slice none 0 0), (.int .i64 0), (.int .i64 0), (.int .i64 0), (.int .i64 0), (.int .i64 0), (.int .i64 0), (.int .i64 0), (.int .i64 0), (.int .i64 0), (.int .i64 0), (.int .i64 0), (.int .i64 0), (.int .i64 0), (.int .i64 0), (.slice none 0 0), (.slice none 0 0), (.slice none 0 0), (.slice none 0 0), (.slice none 0 0), (.slice none 0 0), (.slice none 0 0), (.int .i64 0), (.int .i64 0), (.int .i64 0), (.int .i64 0), (.int .i64 0), (.int .i64 0), (.int .i64 0), (.int .i64 0), (.int .i64 0), (.int .i64 0), (.int .i64 0), (.int .i64 0), (.int .i64 0), (.int .i64 0), (.int .i64 0), (.slice none 0 0), (.slice none 0 0), (.slice none 0 0), (.slice none 0 0), (.slice none 0 0), (.slice none 0 0), (.slice none 0 0), (.int .i64 0), (.int .i64 0), (.int .i64 0), (.int .i64 0), (.int .i64 0), (.int .i64 0), (.int .i64 0), (.int .i64 0), (.int .i64 0), (.int .i64 0), (.int .i64 0), (.int .i64 0), (.int .i64 0), (.slice none 0 0), (.slice none 0 0), (.slice none 0 0), (.slice none 0 0), (.slice none 0 0), (.slice none 0 0), (.slice none 0 0), (.int .i64 0), (.int .i64 0), (.int .i64 0), (.int .i64 0), (.int .i64 0), (.int .i64 0), (.int .i64 0), (.int .i64 0), (.int .i64 0), (.int .i64 0), (.int .i64 0), (.int .i64 0), (.int .i64 0), (.int .i64 0), (.slice none 0 0), (.slice none 0 0), (.slice none 0 0), (.slice none 0 0), (.slice none 0 0), (.slice none 0 0), (.slice none 0 0), (.int .i64 0), (.int .i64 0), (.int .i64 0), (.int .i64 0), (.int .i64 0), (.int .i64 0), (.int .i64 0), (.int .i64 0), (.int .i64 0), (.int .i64 0), (.int .i64 0), (.int .i64 0), (.int .i64 0), (.int .i64 0), (.int .i64 0), (.slice none 0 0), (.slice none 0 0), (.slice none 0 0), (.slice none 0 0), (.slice none 0 0), (.slice none 0 0), (.slice none 0 0), (.int .i64 0), (.int .i64 0), (.int .i64 0), (.int .i64 0), (.int .i64 0), (.int .i64 0), (.int .i64 0), (.int .i64 0), (.int .i64 0), (.int .i64 0), (.int .i64 0), (.int .i64 0), (.int .i64 0), (.slice none 0 0), (.slice none 0 0), (.slice none 0 0), (.slice none 0 0), (.slice none 0 0), (.slice none 0 0), (.slice none 0 0), (.int .i64 0), (.int .i64 0), (.int .i64 0), (.int .i64 0), (.int .i64 0), (.int .i64 0), (.int .i64 0), (.int .i64 0), (.int .i64 0), (.int .i64 0), (.int .i64 0), (.int .i64 0), (.int .i64 0), (.int .i64 0), (.slice none 0 0), (.slice none 0 0), (.slice none 0 0), (.slice none 0 0), (.slice none 0 0), (.slice none 0 0), (.slice none 0 0), (.int .i64 0), (.int .i64 0), (.int .i64 0), (.int .i64 0), (.int .i64 0), (.int .i64 0), (.int .i64 0), (.int .i64 0), (.int .i64 0), (.int .i64 0), (.int .i64 0), (.int .i64 0), (.int .i64 0), (.int .i64 0)]) := by kernel_rfl
@[go_sem] theorem ta48 : tAgg Tryz.prog 48 = some (false, 1) := by kernel_rfl
@[go_sem] theorem te48 : tElem Tryz.prog 48 = some (34, 4, 48) := by kernel_rfl
@[go_sem] theorem tl48 : tLen Tryz.prog 48 = some 0 := by kernel_rfl
@[go_sem] theorem tz48 : tZero Tryz.prog 48 = some (.slice none 0 0) := by kernel_rfl
@[go_sem] theorem ta50 : tAgg Tryz.prog 50 = some (true, 379) := by kernel_rfl
@[go_sem] theorem tp50 : tPlaces Tryz.prog 50 = some [(0, 378), (378, 1)] := by kernel_rfl
@[go_sem] theorem tz50 : tZero Tryz.prog 50 = some (.agg #[(.int .i64 0), (.slice none 0 0), (.slice none 0 0), (.slice none 0 0), (.slice none 0 0), (.slice none 0 0), (.slice none 0 0), (.slice none 0 0), (.int .i64 0), (.int .i64 0), (.int .i64 0), (.int .i64 0), (.int .i64 0), (.int .i64 0), (.int .i64 0), (.int .i64 0), (.int .i64 0), (.int .i64 0), (.int .i64 0), (.int .i64 0), (.int .i64 0), (.slice none 0 0), (.slice none 0 0), (.slice none 0 0), (.slice none 0 0), (.slice none 0 0), (.slice none 0 0), (.slice none 0 0), (.int .i64 0), (.int .i64 0), (.int .i64 0), (.int .i64 0), (.int .i64 0), (.int .i64 0), (.int .i64 0), (.int .i64 0), (.int .i64 0), (.int .i64 0), (.int .i64 0), (.int .i64 0), (.int .i64 0), (.int .i64 0), (.slice none 0 0), (.slice none 0 0), (.slice none 0 0), (.slice none 0 0), (.slice none 0 0), (.slice none 0 0), (.slice none 0 0), (.int .i64 0), (.int .i64 0), (.int .i64 0), (.int .i64 0), (.int .i64 0), (.int .i64 0), (.int .i64 0), (.int .i64 0), (.int .i64 0), (.int .i64 0), (.int .i64 0), (.int .i64 0), (.int .i64 0), (.int .i64 0), (.int .i64 0), (.slice none 0 0), (.slice none 0 0), (.slice none 0 0), (.slice none 0 0), (.slice none 0 0), (.slice none 0 0), (.slice none 0 0), (.int .i64 0), (.int .i64 0), (.int .i64 0), (.int .i64 0), (.int .i64 0), (.int .i64 0), (.int .i64 0), (.int .i64 0), (.int .i64 0), (.int .i64 0), (.int .i64 0), (.int .i64 0), (.int .i64 0), (.slice none 0 0), (.slice none 0 0), (.slice none 0 0), (.slice none 0 0), (.slice none 0 0), (.slice none 0 0), (.slice none 0 0), (.int .i64 0), (.int .i64 0), (.int .i64 0), (.int .i64 0), (.int .i64 0), (.int .i64 0), (.int .i64 0), (.int .i64 0), (.int .i64 0), (.int .i64 0), (.int .i64 0), (.int .i64 0), (.int .i64 0), (.int .i64 0), (.slice none 0 0), (.slice none 0 0), (.slice none 0 0), (.slice none 0 0), (.slice none 0 0), (.slice none 0 0), (.slice none 0 0), (.int .i64 0), (.int .i64 0), (.int .i64 0), (.int .i64 0), (.int .i64 0), (.int .i64 0), (.int .i64 0), (.int .i64 0), (.int .i64 0), (.int .i64 0), (.int .i64 0), (.int .i64 0), (.int .i64 0), (.int .i64 0), (.int .i64 0), (.slice none 0 0), (.slice none 0 0), (.slice none 0 0), (.slice none 0 0), (.slice none 0 0), (.slice none 0 0), (.slice none 0 0), (.int .i64 0), (.int .i64 0), (.int .i64 0), (.int .i64 0), (.int .i64 0), (.int .i64 0), (.int .i64 0), (.int .i64 0), (.int .i64 0), (.int .i64 0), (.int .i64 0), (.int .i64 0), (.int .i64 0), (.slice none 0 0), (.slice none 0 0), (.slice none 0 0), (.slice none 0 0), (.slice none 0 0), (.slice none 0 0), (.slice none 0 0), (.int .i64 0), (.int .i64 0), (.int .i64 0), (.int .i64 0), (.int .i64 0), (.int .i64 0), (.int .i64 0), (.int .i64 0), (.int .i64 0), (.int .i64 0), (.int .i64 0), (.int .i64 0), (.int .i64 0), (.int .i64 0), (.slice none 0 0), (.slice none 0 0), (.slice none 0 0), (.slice none 0 0), (.slice none 0 0), (.slice none 0 0), (.slice none 0 0), (.int .i64 0), (.int .i64 0), (.int .i64 0), (.int .i64 0), (.int .i64 0), (.int .i64 0), (.int .i64 0), (.int .i64 0), (.int .i64 0), (.int .i64 0), (.int .i64 0), (.int .i64 0), (.int .i64 0), (.int .i64 0), (.int .i64 0), (.slice none 0 0), (.slice none 0 0), (.slice none 0 0), (.slice none 0 0), (.slice none 0 0), (.slice none 0 0), (.slice none 0 0), (.int .i64 0), (.int .i64 0), (.int .i64 0), (.int .i64 0), (.int .i64 0), (.int .i64 0), (.int .i64 0), (.int .i64 0), (.int .i64 0), (.int .i64 0), (.int .i64 0), (.int .i64 0), (.int .i64 0), (.slice none 0 0), (.slice none 0 0), (.slice none 0 0), (.slice none 0 0), (.slice none 0 0), (.slice none 0 0), (.slice none 0 0), (.int .i64 0), (.int .i64 0), (.int .i64 0), (.int .i64 0), (.int .i64 0), (.int .i64 0), (.int .i64 0), (.int .i64 0), (.int .i64 0), (.int .i64 0), (.int .i64 0), (.int .i64 0), (.int .i64 0), (.int .i64 0), (.slice none 0 0), (.slice none 0 0), (.slice none 0 0), (.slice none 0 0), (.slice none 0 0), (.slice none 0 0), (.slice none 0 0), (.int .i64 0), (.int .i64 0), (.int .i64 0), (.int .i64 0), (.int .i64 0), (.int .i64 0), (.int .i64 0), (.int .i64 0), (.int .i64 0), (.int .i64 0), (.int .i64 0), (.int .i64 0), (.int .i64 0), (.int .i64 0), (.int .i64 0), (.slice none 0 0), (.slice none 0 0), (.slice none 0 0), (.slice none 0 0), (.slice none 0 0), (.slice none 0 0), (.slice none 0 0), (.int .i64 0), (.int .i64 0), (.int .i64 0), (.int .i64 0), (.int .i64 0), (.int .i64 0), (.int .i64 0), (.int .i64 0), (.int .i64 0), (.int .i64 0), (.int .i64 0), (.int .i64 0), (.int .i64 0), (.slice none 0 0), (.slice none 0 0), (.slice none 0 0), (.slice none 0 0), (.slice none 0 0), (.slice none 0 0), (.slice none 0 0), (.int .i64 0), (.int .i64 0), (.int .i64 0), (.int .i64 0), (.int .i64 0), (.int .i64 0), (.int .i64 0), (.int .i64 0), (.int .i64 0), (.int .i64 0), (.int .i64 0), (.int .i64 0), (.int .i64 0), (.int .i64 0), (.slice none 0 0), (.slice none 0 0), (.slice none 0 0), (.slice none 0 0), (.slice none 0 0), (.slice none 0 0), (.slice none 0 0), (.int .i64 0), (.int .i64 0), (.int .i64 0), (.int .i64 0), (.int .i64 0), (.int .i64 0), (.int .i64 0), (.int .i64 0), (.int .i64 0), (.int .i64 0), (.int .i64 0), (.int .i64 0), (.int .i64 0), (.int .i64 0), (.int .i64 0), (.slice none 0 0), (.slice none 0 0), (.slice none 0 0), (.slice none 0 0), (.slice none 0 0), (.slice none 0 0), (.slice none 0 0), (.int .i64 0), (.int .i64 0), (.int .i64 0), (.int .i64 0), (.int .i64 0), (.int .i64 0), (.int .i64 0), (.int .i64 0), (.int .i64 0), (.int .i64 0), (.int .i64 0), (.int .i64 0), (.int .i64 0), (.slice none 0 0), (.slice none 0 0), (.slice none 0 0), (.slice none 0 0), (.slice none 0 0), (.slice none 0 0), (.slice none 0 0), (.int .i64 0), (.int .i64 0), (.int .i64 0), (.int .i64 0), (.int .i64 0), (.int .i64 0), (.int .i64 0), (.int .i64 0), (.int .i64 0), (.int .i64 0), (.int .i64 0), (.int .i64 0), (.int .i64 0), (.int .i64 0), (.slice none 0 0), (.slice none 0 0), (.slice none 0 0), (.slice none 0 0), (.slice none 0 0), (.slice none 0 0), (.slice none 0 0), (.int .i64 0), (.int .i64 0), (.int .i64 0), (.int .i64 0), (.int .i64 0), (.int .i64 0), (.int .i64 0), (.int .i64 0), (.int .i64 0), (.int .i64 0), (.int .i64 0), (.int .i64 0), (.int .i64 0), (.int .i64 0), (.slice none 0 0)]) := by kernel_rfl
@[go_sem] theorem tf50_0 : tField Tryz.prog 50 0 = some (0, 378, true) := by kernel_rfl
@[go_sem] theorem tf50_1 : tField Tryz.prog 50 1 = some (378, 1, false) := by kernel_rfl
@[go_sem] theorem ta53 : tAgg Tryz.prog 53 = some (false, 1) := by kernel_rfl
@[go_sem] theorem ta56 : tAgg Tryz.prog 56 = some (false, 1) := by kernel_rfl
@[go_sem] theorem te56 : tElem Tryz.prog 56 = some (32, 63, 840) := by kernel_rfl
@[go_sem] theorem tl56 : tLen Tryz.prog 56 = some 0 := by kernel_rfl
@[go_sem] theorem tz56 : tZero Tryz.prog 56 = some (.slice none 0 0) := by kernel_rfl
@[go_sem] theorem ta60 : tAgg Tryz.prog 60 = some (false, 1) := by kernel_rfl
@[go_sem] theorem ta62 : tAgg Tryz.prog 62 = some (false, 1) := by kernel_rfl
@[go_sem] theorem ta68 : tAgg Tryz.prog 68 = some (true, 2) := by kernel_rfl
@[go_sem] theorem tr68 : tArr Tryz.prog 68 = some (2, 1, false) := by kernel_rfl
@[go_sem] theorem tp68 : tPlaces Tryz.prog 68 = some [(0, 1), (1, 1)] := by kernel_rfl
@[go_sem] theorem tz68 : tZero Tryz.prog 68 = some (.agg #[(.int .i64 0), (.int .i64 0)]) := by kernel_rfl
@[go_sem] theorem ta69 : tAgg Tryz.prog 69 = some (false, 1) := by kernel_rfl
@[go_sem] theorem ta76 : tAgg Tryz.prog 76 = some (false, 1) := by kernel_rfl
@[go_sem] theorem ta78 : tAgg Tryz.prog 78 = some (false, 1) := by kernel_rfl
@[go_sem] theorem ta83 : tAgg Tryz.prog 83 = some (false, 1) := by kernel_rfl
@[go_sem] theorem ta85 : tAgg Tryz.prog 85 = some (false, 1) := by kernel_rfl
@[go_sem] theorem tz85 : tZero Tryz.prog 85 = some (.pointer none) := by kernel_rfl
@[go_sem] theorem ta89 : tAgg Tryz.prog 89 = some (true, 63) := by kernel_rfl
@[go_sem] theorem tp89 : tPlaces Tryz.prog 89 = some [(0, 63)] := by kernel_rfl
@[go_sem] theorem tz89 : tZero Tryz.prog 89 = some (.agg #[(.int .i64 0), (.slice none 0 0), (.slice none 0 0), (.slice none 0 0), (.slice none 0 0), (.slice none 0 0), (.slice none 0 0), (.slice none 0 0), (.int .i64 0), (.int .i64 0), (.int .i64 0), (.int .i64 0), (.int .i64 0), (.int .i64 0), (.int .i64 0), (.int .i64 0), (.int .i64 0), (.int .i64 0), (.int .i64 0), (.int .i64 0), (.int .i64 0), (.slice none 0 0), (.slice none 0 0), (.slice none 0 0), (.slice none 0 0), (.slice none 0 0), (.slice none 0 0), (.slice none 0 0), (.int .i64 0), (.int .i64 0), (.int .i64 0), (.int .i64 0), (.int .i64 0), (.int .i64 0), (.int .i64 0), (.int .i64 0), (.int .i64 0), (.int .i64 0), (.int .i64 0), (.int .i64 0), (.int .i64 0), (.int .i64 0), (.slice none 0 0), (.slice none 0 0), (.slice none 0 0), (.slice none 0 0), (.slice none 0 0), (.slice none 0 0), (.slice none 0 0), (.int .i64 0), (.int .i64 0), (.int .i64 0), (.int .i64 0), (.int .i64 0), (.int .i64 0), (.int .i64 0), (.int .i64 0), (.int .i64 0), (.int .i64 0), (.int .i64 0), (.int .i64 0), (.int .i64 0), (.int .i64 0)]) := by kernel_rfl
@[go_sem] theorem tf89_0 : tField Tryz.prog 89 0 = some (0, 63, true) := by kernel_rfl
@[go_sem] theorem ta91 : tAgg Tryz.prog 91 = some (true, 2) := by kernel_rfl
@[go_sem] theorem tp91 : tPlaces Tryz.prog 91 = some [(0, 1), (1, 1)] := by kernel_rfl
@[go_sem] theorem tz91 : tZero Tryz.prog 91 = some (.agg #[(.int .i64 0), (.int .i64 0)]) := by kernel_rfl
@[go_sem] theorem tf91_0 : tField Tryz.prog 91 0 = some (0, 1, false) := by kernel_rfl
@[go_sem] theorem tf91_1 : tField Tryz.prog 91 1 = some (1, 1, false) := by kernel_rfl
@[go_sem] theorem ta93 : tAgg Tryz.prog 93 = some (false, 1) := by kernel_rfl
@[go_sem] theorem tz93 : tZero Tryz.prog 93 = some (.pointer none) := by kernel_rfl
@[go_sem] theorem ta95 : tAgg Tryz.prog 95 = some (false, 1) := by kernel_rfl
@[go_sem] theorem tz95 : tZero Tryz.prog 95 = some (.pointer none) := by kernel_rfl
@[go_sem] theorem ta99 : tAgg Tryz.prog 99 = some (false, 1) := by kernel_rfl
@[go_sem] theorem tz99 : tZero Tryz.prog 99 = some .nilFunc := by kernel_rfl
@[go_sem] theorem ta100 : tAgg Tryz.prog 100 = some (false, 1) := by kernel_rfl
@[go_sem] theorem tz100 : tZero Tryz.prog 100 = some .nilFunc := by kernel_rfl
@[go_sem] theorem ta102 : tAgg Tryz.prog 102 = some (false, 1) := by kernel_rfl
@[go_sem] theorem tz102 : tZero Tryz.prog 102 = some (.pointer none) := by kernel_rfl
@[go_sem] theorem ta103 : tAgg Tryz.prog 103 = some (false, 1) := by kernel_rfl
@[go_sem] theorem ta105 : tAgg Tryz.prog 105 = some (false, 1) := by kernel_rfl
@[go_sem] theorem te105 : tElem Tryz.prog 105 = some (68, 2, 16) := by kernel_rfl
@[go_sem] theorem tl105 : tLen Tryz.prog 105 = some 0 := by kernel_rfl
@[go_sem] theorem tz105 : tZero Tryz.prog 105 = some (.slice none 0 0) := by kernel_rfl
@[go_sem] theorem ta106 : tAgg Tryz.prog 106 = some (false, 1) := by kernel_rfl
@[go_sem] theorem ta113 : tAgg Tryz.prog 113 = some (true, 5) := by kernel_rfl
@[go_sem] theorem tp113 : tPlaces Tryz.prog 113 = some [(0, 1), (1, 1), (2, 1), (3, 1), (4, 1)] := by kernel_rfl
@[go_sem] theorem tz113 : tZero Tryz.prog 113 = some (.agg #[(.int .i64 0), (.int .i64 0), (.int .i64 0), (.int .i64 0), (.int .i64 0)]) := by kernel_rfl
@[go_sem] theorem tf113_0 : tField Tryz.prog 113 0 = some (0, 1, false) := by kernel_rfl
@[go_sem] theorem tf113_1 : tField Tryz.prog 113 1 = some (1, 1, false) := by kernel_rfl
@[go_sem] theorem tf113_2 : tField Tryz.prog 113 2 = some (2, 1, false) := by kernel_rfl
@[go_sem] theorem tf113_3 : tField Tryz.prog 113 3 = some (3, 1, false) := by kernel_rfl
@[go_sem] theorem tf113_4 : tField Tryz.prog 113 4 = some (4, 1, false) := by kernel_rfl
@[go_sem] theorem ta114 : tAgg Tryz.prog 114 = some (false, 1) := by kernel_rfl
@[go_sem] theorem tz114 : tZero Tryz.prog 114 = some .nilFunc := by kernel_rfl
@[go_sem] theorem ta134 : tAgg Tryz.prog 134 = some (false, 1) := by kernel_rfl
@[go_sem] theorem ti134 : tInt Tryz.prog 134 = some .u64 := by kernel_rfl
@[go_sem] theorem tz134 : tZero Tryz.prog 134 = some (.int .u64 0) := by kernel_rfl
@[go_sem] theorem ta136 : tAgg Tryz.prog 136 = some (false, 1) := by kernel_rfl
@[go_sem] theorem te136 : tElem Tryz.prog 136 = some (5, 1, 1) := by kernel_rfl
@[go_sem] theorem tl136 : tLen Tryz.prog 136 = some 0 := by kernel_rfl
@[go_sem] theorem tz136 : tZero Tryz.prog 136 = some (.slice none 0 0) := by kernel_rfl
@[go_sem] theorem ta158 : tAgg Tryz.prog 158 = some (true, 2) := by kernel_rfl
@[go_sem] theorem tp158 : tPlaces Tryz.prog 158 = some [(0, 1), (1, 1)] := by kernel_rfl
@[go_sem] theorem tz158 : tZero Tryz.prog 158 = some (.agg #[(.pointer none), (.slice none 0 0)]) := by kernel_rfl
@[go_sem] theorem tf158_0 : tField Tryz.prog 158 0 = some (0, 1, false) := by kernel_rfl
@[go_sem] theorem tf158_1 : tField Tryz.prog 158 1 = some (1, 1, false) := by kernel_rfl
@[go_sem] theorem ta161 : tAgg Tryz.prog 161 = some (false, 1) := by kernel_rfl
@[go_sem] theorem tv134_3 : tConv Tryz.prog 134 3 = 0 := by kernel_rfl
@[go_sem] theorem tv136_9 : tConv Tryz.prog 136 9 = 2 := by kernel_rfl
@[go_sem] theorem tv3_134 : tConv Tryz.prog 3 134 = 0 := by kernel_rfl
@[go_sem] theorem tv3_5 : tConv Tryz.prog 3 5 = 0 := by kernel_rfl
@[go_sem] theorem tv5_3 : tConv Tryz.prog 5 3 = 0 := by kernel_rfl
@[go_sem] theorem tv9_136 : tConv Tryz.prog 9 136 = 1 := by kernel_rfl
theorem mixedK : Tryz.prog.follows .mixedOrders = true := by kernel_rfl
end Go.Eng
/- The engine's text of functions that hand on one thing after another, and of what loops over them do: said once for every such function and every such loop. -/
namespace Go.Eng
open Go

def objAll (obj : Name → Option O) : List Name → List O → Prop
  | [], [] => True
  | x :: xs, o :: os => obj x = some o ∧ objAll obj xs os
  | _, _ => False
theorem objAll_len {obj : Name → Option O} : ∀ {Ls : List Name} {F : List O}, objAll obj Ls F → Ls.length = F.length
  | [], [], _ => rfl
  | _ :: _, _ :: _, h => by simp only [List.length_cons, objAll_len h.2]
  | [], _ :: _, h => h.elim
  | _ :: _, [], h => h.elim
theorem objAll_iff {obj : Name → Option O} : ∀ {Ls : List Name} {F : List O}, objAll obj Ls F ↔ Ls.map obj = F.map some
  | [], [] => by simp [objAll]
  | x :: xs, o :: os => by simp only [objAll, List.map_cons, List.cons.injEq, objAll_iff]
  | [], _ :: _ => by simp [objAll]
  | _ :: _, [] => by simp [objAll]
theorem objAll_agr {obj obj2 : Name → Option O} {Ls : List Name} {F : List O} (h : objAll obj Ls F) (ha : ∀ x ∈ Ls, obj2 x = obj x) : objAll obj2 Ls F := by
  rw [objAll_iff] at h ⊢
  rw [← h]
  exact List.map_congr_left ha
theorem objAll_get {obj : Name → Option O} : ∀ {Ls : List Name} {F : List O}, objAll obj Ls F → ∀ i (h : i < Ls.length) (h' : i < F.length), obj Ls[i] = some F[i]
  | _ :: _, _ :: _, h, 0, _, _ => h.1
  | _ :: _, _ :: _, h, i + 1, h1, h2 => by
    simp only [List.getElem_cons_succ]
    exact objAll_get h.2 i (by simpa using h1) (by simpa using h2)
/-- What follows a loop by what it left. -/
def pdK (K : Exit → S → Prop) (σ : S) : Option Code → Prop
  | none => K .normal σ
  | some .ret => K .ret σ
  | some (.exit id) => K (.exit id) σ
  | _ => False
theorem leftK_of {K : Exit → S → Prop} {obj : Name → Option O} {nm : Name} {σ : S} {env : List E} {ps : List Nat} {a b : Code} (pd : Option Code) (h : obj nm = some (.loop env ps a b (if pd.isNone then .ready else .done) pd))
    (hK : pdK K σ pd) : leftK K obj nm σ := by
  unfold leftK
  rw [h]
  rcases pd with _ | c
  · exact hK
  · cases c <;> first | exact hK.elim | exact hK
def LR (m : Nat) : List Name := (List.range m).map fun i => [i, 1]
def LI (m : Nat) : List Name := (List.range m).map fun i => [i + 1, 1]
theorem LR_len (m : Nat) : (LR m).length = m := by simp [LR]
theorem LI_len (m : Nat) : (LI m).length = m := by simp [LI]
theorem LR_nodup (m : Nat) : (LR m).Nodup := by
  unfold LR
  exact List.Pairwise.map _ (fun a b h => by simpa using h) List.nodup_range
theorem cin_all {Ls : List Name} (hn : Ls.Nodup) : Ls.map (cin Ls) = LR Ls.length := by
  refine List.ext_getElem (by simp [LR]) fun i h1 h2 => ?_
  simp only [List.getElem_map, LR, List.getElem_range, cin]
  rw [idx_at hn (by simpa using h1)]
theorem cin_next {R : Name} {Ls : List Name} (hn : Ls.Nodup) (hR : R ∉ Ls) : Ls.map (cin (R :: Ls)) = LI Ls.length := by
  refine List.ext_getElem (by simp [LI]) fun i h1 h2 => ?_
  simp only [List.getElem_map, LI, List.getElem_range, cin]
  have h3 : i < Ls.length := by simpa using h1
  have h4 := idx_at (L := R :: Ls) (List.nodup_cons.2 ⟨hR, hn⟩) (i := i + 1) (by simp; omega)
  simp only [List.getElem_cons_succ] at h4
  rw [h4]
theorem cout_all (Ls : List Name) (t : Name) : (LR Ls.length).map (cout Ls t) = Ls := by
  refine List.ext_getElem (by simp [LR]) fun i h1 h2 => ?_
  simp only [List.getElem_map, LR, List.getElem_range, cout]
  exact getD_mem h2
theorem cout_next (R : Name) (Ls : List Name) (t : Name) : (LI Ls.length).map (cout (R :: Ls) t) = Ls := by
  refine List.ext_getElem (by simp [LI]) fun i h1 h2 => ?_
  simp only [List.getElem_map, LI, List.getElem_range, cout]
  rw [getD_mem (by simpa using h2)]
  simp
def setLs : List Name → List O → (Name → Option O) → (Name → Option O)
  | x :: xs, o :: os, obj => setLs xs os (upd obj x (some o))
  | _, _, obj => obj
theorem setLs_ne : ∀ {Ls : List Name} {F : List O} {obj : Name → Option O} {x : Name}, x ∉ Ls → setLs Ls F obj x = obj x
  | [], _, _, _, _ => by simp [setLs]
  | _ :: _, [], _, _, _ => by simp [setLs]
  | y :: ys, o :: os, obj, x, h => by
    simp only [List.mem_cons, not_or] at h
    simp only [setLs]
    rw [setLs_ne h.2, upd_ne _ _ _ h.1]
theorem setLs_all : ∀ {Ls : List Name} {F : List O} {obj : Name → Option O}, Ls.Nodup → Ls.length = F.length → objAll (setLs Ls F obj) Ls F
  | [], [], _, _, _ => trivial
  | [], _ :: _, _, _, h => by simp at h
  | _ :: _, [], _, _, h => by simp at h
  | y :: ys, o :: os, obj, hn, h => by
    rw [List.nodup_cons] at hn
    refine ⟨?_, setLs_all (obj := upd obj y (some o)) hn.2 (by simpa using h)⟩
    simp only [setLs]
    rw [setLs_ne hn.1, upd_same]
def upds : Nat → List O → List (Nat × O)
  | _, [] => []
  | k, o :: r => (k, o) :: upds (k + 1) r
theorem putU_upds {t : Name} {L : List Name} : ∀ {Ls : List Name} {k : Nat} {F : List O} {obj : Name → Option O}, Ls.length = F.length → (∀ i (h : i < Ls.length), L.getD (k + i) [] = Ls[i]) →
    putU L t (upds k F) obj = setLs Ls (F.map (O.ren (cout L t))) obj
  | [], k, [], obj, _, _ => rfl
  | [], k, _ :: _, obj, h, _ => by simp at h
  | _ :: _, k, [], obj, h, _ => by simp at h
  | x :: xs, k, o :: os, obj, h, hL => by
    simp only [upds, putU, List.map_cons, setLs]
    have h0 := hL 0 (by simp)
    simp only [Nat.add_zero, List.getElem_cons_zero] at h0
    rw [h0]
    exact putU_upds (by simpa using h) fun i hi => by
      have := hL (i + 1) (by simpa using hi)
      rw [show k + 1 + i = k + (i + 1) by omega]
      simpa using this
theorem lastU_other : ∀ {F : List O} {k i : Nat} {o : O}, i < k → lastU (upds k F) i o = o
  | [], k, i, o, _ => rfl
  | f :: r, k, i, o, h => by
    simp only [upds, lastU]
    rw [if_neg (by omega)]
    exact lastU_other (by omega)
theorem objsOk_upds {σ : S} : ∀ {F os : List O} {k : Nat} {u : List (Nat × O)}, F.length = os.length → (∀ i, k ≤ i → ∀ o, lastU u i o = lastU (upds k F) i o) →
    (∀ i (h : i < F.length), σ.obj [k + i, 1] = some F[i]) → objsOk σ u k os
  | [], [], _, _, _, _, _ => trivial
  | [], _ :: _, _, _, h, _, _ => by simp at h
  | _ :: _, [], _, _, h, _, _ => by simp at h
  | f :: fs, o :: os, k, u, h, hu, hs => by
    refine ⟨?_, objsOk_upds (F := fs) (by simpa using h) (fun i hi x => ?_) fun i hi => ?_⟩
    · have h0 := hs 0 (by simp)
      simp only [Nat.add_zero, List.getElem_cons_zero] at h0
      rw [h0, hu k (Nat.le_refl _) o]
      simp only [upds, lastU, if_true]
      rw [lastU_other (by omega)]
    · rw [hu i (by omega) x]
      simp only [upds, lastU]
      rw [if_neg (by omega)]
    · have := hs (i + 1) (by simpa using hi)
      rw [show k + 1 + i = k + (i + 1) by omega]
      simpa using this

/-- A loop over what is handed on: the loop's frame and what it reaches, under any names; what is handed on, thing by thing; what the rounds make of what is reached, and what they leave. -/
structure Lp where
  m : Nat
  env : List Name → List E
  fam : List Name → Nat → List O
  ps : List Nat
  asg : Code
  body : Code
  n : Nat
  vals : Nat → List D
  st : Nat → Option Code
  fu : Nat
structure Lp.Ok (r : Lp) : Prop where
  len : ∀ Ls s, Ls.length = r.m → (r.fam Ls s).length = r.m
  renE : ∀ f Ls, Ls.length = r.m → (r.env Ls).map (E.ren f) = r.env (Ls.map f)
  renF : ∀ f Ls s, Ls.length = r.m → (r.fam Ls s).map (O.ren f) = r.fam (Ls.map f) s
  reach : ∀ Ls s obj acc k, Ls.length = r.m → Ls.Nodup → (∀ x ∈ Ls, x ∉ acc) → objAll obj Ls (r.fam Ls s) → reachL obj (k + r.fu) (namesL ((r.env Ls).map (·.d))) acc = acc ++ Ls
  closE : ∀ dom Ls, Ls.length = r.m → (∀ x ∈ Ls, dom x = true) → D.closL dom ((r.env Ls).map (·.d)) = true
  closF : ∀ dom Ls s, Ls.length = r.m → (∀ x ∈ Ls, dom x = true) → ∀ o ∈ r.fam Ls s, O.clos dom o = true
  psz : ∀ Ls, Ls.length = r.m → (r.ps.all fun p => decide (p < (r.env Ls).length)) = true
  args : ∀ s, (r.vals s).length = r.ps.length
  fuel : r.fu ≤ 2000
  vnam : ∀ s, namesL (r.vals s) = []
  vcl : ∀ s dom, D.closL dom (r.vals s) = true
  vren : ∀ s f, D.renL f (r.vals s) = r.vals s
  inj : ∀ s s', s < r.n → s' < r.n → r.vals s = r.vals s' → s = s'

theorem names_vals (a : List D) : ∀ vs : List V, namesL (a ++ vs.map D.v) = namesL a := by
  intro vs
  have h0 : ∀ vs : List V, namesL (vs.map D.v) = [] := by
    intro vs
    induction vs with
    | nil => rfl
    | cons x r ih => simp only [List.map_cons, namesL, namesD, List.nil_append, ih]
  induction a with
  | nil => simpa [namesL] using h0 vs
  | cons x r ih => simp only [List.cons_append, namesL, ih]
theorem closL_vals (dom : Name → Bool) (vs : List V) : ∀ a : List D, D.closL dom (a ++ vs.map D.v) = D.closL dom a := by
  have h0 : ∀ vs : List V, D.closL dom (vs.map D.v) = true := by
    intro vs
    induction vs with
    | nil => rfl
    | cons x r ih => simp only [List.map_cons, D.closL, D.clos, ih, Bool.and_self]
  intro a
  induction a with
  | nil => simpa [D.closL] using h0 vs
  | cons x r ih => simp only [List.cons_append, D.closL, ih]
theorem renL_vals (f : Name → Name) (vs : List V) : D.renL f (vs.map D.v) = vs.map D.v := by
  induction vs with
  | nil => rfl
  | cons x r ih => simp only [List.map_cons, D.renL, D.ren, ih]
theorem vals_inj {a b : List V} (h : a.map D.v = b.map D.v) : a = b := by
  have : Function.Injective D.v := fun x y h => by injection h
  exact (List.map_inj_right this).1 h

theorem names_app (a b : List D) : namesL (a ++ b) = namesL a ++ namesL b := by
  induction a with
  | nil => rfl
  | cons x r ih => simp only [List.cons_append, namesL, ih, List.append_assoc]
theorem closL_app (dom : Name → Bool) (a b : List D) : D.closL dom (a ++ b) = (D.closL dom a && D.closL dom b) := by
  induction a with
  | nil => simp [D.closL]
  | cons x r ih => simp only [List.cons_append, D.closL, ih, Bool.and_assoc]
noncomputable def Lp.y (r : Lp) : YSpec where
  pre := fun env ps asg body os ds => ∃ s, s < r.n ∧ (∀ j, j < s → r.st j = none) ∧ env = r.env (LR r.m) ∧ ps = r.ps ∧ asg = r.asg ∧ body = r.body ∧ os = r.fam (LR r.m) s ∧ ds = r.vals s
  out := fun _ _ _ _ _ ds => by
    classical exact if h : ∃ s, s < r.n ∧ ds = r.vals s then (⟨upds 0 (r.fam (LR r.m) (h.choose + 1)), [], .v (.bool true)⟩, r.st h.choose) else (⟨[], [], .any⟩, none)
theorem Lp.y_out {r : Lp} (hr : r.Ok) {s : Nat} (hs : s < r.n) (env : List E) (ps : List Nat) (asg body : Code) (os : List O) :
    r.y.out env ps asg body os (r.vals s) = (⟨upds 0 (r.fam (LR r.m) (s + 1)), [], .v (.bool true)⟩, r.st s) := by
  have h : ∃ s', s' < r.n ∧ r.vals s = r.vals s' := ⟨s, hs, rfl⟩
  have e : h.choose = s := (hr.inj _ _ hs h.choose_spec.1 h.choose_spec.2).symm
  simp only [Lp.y]
  rw [dif_pos h, e]
/-- What a round has to come to. -/
def retL (m : Nat) (F : List O) (p : Option Code) : Exit → S → Prop
  | .normal, σ => p = none ∧ objAll σ.obj (LR m) F
  | .ret, σ => p = some .ret ∧ objAll σ.obj (LR m) F
  | .exit id, σ => p = some (.exit id) ∧ objAll σ.obj (LR m) F
  | _, _ => False
theorem endC_of {os F : List O} {σ : S} {m : Nat} (h1 : os.length = m) (h2 : F.length = m) (hc : ∀ dom : Name → Bool, (∀ x ∈ LR m, dom x = true) → ∀ o ∈ F, O.clos dom o = true) (h : objAll σ.obj (LR m) F) :
    endC os ⟨upds 0 F, [], .v (.bool true)⟩ σ := by
  have hget : ∀ i (hi : i < F.length), σ.obj [i, 1] = some F[i] := by
    rw [objAll_iff] at h
    intro i hi
    have h3 := congrArg (fun l => l[i]?) h
    have hi' : i < m := by omega
    simpa [LR, hi, hi'] using h3
  refine ⟨objsOk_upds (F := F) (by omega) (fun i _ o => rfl) fun i hi => by rw [Nat.zero_add]; exact hget i hi, trivial, ?_⟩
  have hdom : ∀ x ∈ LR m, domC os.length [] x = true := by
    intro x hx
    obtain ⟨i, hi, rfl⟩ := List.mem_map.1 hx
    have := List.mem_range.1 hi
    simp [domC]
    omega
  have hall : ∀ (F' : List O) (k : Nat), (∀ o ∈ F', O.clos (domC os.length []) o = true) → k + F'.length ≤ os.length → ((upds k F').all fun x => O.clos (domC os.length []) x.2 && decide (x.1 < os.length)) = true := by
    intro F'
    induction F' with
    | nil => intros; rfl
    | cons f fs ih =>
      intro k hf hk
      simp only [List.length_cons] at hk
      simp only [upds, List.all_cons, Bool.and_eq_true, decide_eq_true_eq]
      exact ⟨⟨hf f (by simp), by omega⟩, by have := ih (k + 1) (fun o ho => hf o (by simp [ho])) (by omega); simpa using this⟩
  have := hall F 0 (hc _ hdom) (by omega)
  simp only [D.clos, this, List.all_nil, List.map_nil, distinct, Bool.and_self]
theorem Lp.y_sound {P : Program} {r : Lp} (hr : r.Ok) (h : ∀ s, s < r.n → (∀ j, j < s → r.st j = none) →
      CW P r.asg ⟨(r.env (LR r.m)).length, setP (envF (r.env (LR r.m))) r.ps (r.vals s), outH (r.fam (LR r.m) s), [0], 0⟩ (onlyK fun σ1 => CW P r.body σ1 (retL r.m (r.fam (LR r.m) (s + 1)) (r.st s)))) : SSound P yid r.y.toSpec := by
  refine yield_run ?_
  rintro env ps asg body os ds ⟨s, hs, hj, rfl, rfl, rfl, rfl, rfl, rfl⟩ _
  rw [Lp.y_out hr hs]
  refine CW.mono (h s hs hj) fun e σ hk => ?_
  cases e with
  | normal =>
    refine CW.mono hk fun e σ hk => ?_
    have fin : objAll σ.obj (LR r.m) (r.fam (LR r.m) (s + 1)) → endC (r.fam (LR r.m) s) ⟨upds 0 (r.fam (LR r.m) (s + 1)), [], .v (.bool true)⟩ σ :=
      endC_of (hr.len _ _ (LR_len _)) (hr.len _ _ (LR_len _)) fun dom hd => hr.closF dom _ _ (LR_len _) hd
    cases e with
    | normal => exact ⟨hk.1, fin hk.2⟩
    | ret => exact ⟨hk.1, fin hk.2⟩
    | exit id => exact ⟨hk.1, fin hk.2⟩
    | goto l => exact hk.elim
    | panic c => exact hk.elim
    | outgrown => exact hk.elim
  | ret => exact hk.elim
  | exit id => exact hk.elim
  | goto l => exact hk.elim
  | panic c => exact hk.elim
  | outgrown => exact hk.elim
def Lp.rc (r : Lp) (Ls : List Name) (st : LoopState) (pd : Option Code) : O := .loop (r.env Ls) r.ps r.asg r.body st pd
/-- A round, as it is called. -/
theorem Lp.y_app {r : Lp} (hr : r.Ok) {s : Nat} (hs : s < r.n) (hj : ∀ j, j < s → r.st j = none) {obj : Name → Option O} {t R : Name} {Ls : List Name} (hl : Ls.length = r.m) (hn : Ls.Nodup) (hR : R ∉ Ls)
    (h0 : obj R = some (r.rc Ls .ready none)) (hF : objAll obj Ls (r.fam Ls s)) :
    r.y.toSpec.app obj t (.yld R :: r.vals s) = ⟨True, .v (.bool (r.st s).isNone), upd (setLs Ls (r.fam Ls (s + 1)) obj) R (some (r.rc Ls (if (r.st s).isNone then .ready else .done) (r.st s)))⟩ := by
  have hreach : reach obj (roots (r.env Ls) (r.vals s)) = Ls := by
    unfold reach roots
    rw [names_app, hr.vnam, List.append_nil]
    have := hr.reach Ls s obj [] (3000 - r.fu) hl hn (fun _ _ => by simp) hF
    rwa [show 3000 - r.fu + r.fu = 3000 by have := hr.fuel; omega] at this
  have e1 : cOs obj (roots (r.env Ls) (r.vals s)) = r.fam (LR r.m) s := by
    unfold cOs
    rw [hreach]
    have : Ls.map (canonO Ls obj) = (r.fam Ls s).map (O.ren (cin Ls)) := by
      rw [objAll_iff] at hF
      refine List.ext_getElem (by simp [hr.len _ _ hl, hl]) fun i h1 h2 => ?_
      have h3 : i < Ls.length := by simpa using h1
      have h4 : i < (r.fam Ls s).length := by rw [hr.len _ _ hl, ← hl]; exact h3
      have h5 := congrArg (fun l => l[i]?) hF
      have h6 : obj Ls[i] = some (r.fam Ls s)[i] := by simpa [h3, h4] using h5
      simp only [List.getElem_map, canonO, h6]
    rw [this, hr.renF _ _ _ hl, cin_all hn, hl]
  have e2 : yEnv obj (r.env Ls) (r.vals s) = r.env (LR r.m) := by
    unfold yEnv
    rw [hreach, hr.renE _ _ hl, cin_all hn, hl]
  have e3 : yDs obj (r.env Ls) (r.vals s) = r.vals s := by
    unfold yDs
    exact hr.vren s _
  have e4 : r.y.o obj (r.env Ls) r.ps r.asg r.body (r.vals s) = (⟨upds 0 (r.fam (LR r.m) (s + 1)), [], .v (.bool true)⟩, r.st s) := by
    unfold YSpec.o
    rw [e1, e2, e3, Lp.y_out hr hs]
  have hpre : r.y.pre (r.env (LR r.m)) r.ps r.asg r.body (r.fam (LR r.m) s) (r.vals s) := ⟨s, hs, hj, rfl, rfl, rfl, rfl, rfl, rfl⟩
  have hcl : D.closL (inL Ls) (roots (r.env Ls) (r.vals s)) = true := by
    unfold roots
    rw [closL_app, hr.vcl, Bool.and_true]
    exact hr.closE _ _ hl fun x hx => inL_iff.2 hx
  have hsh : shut obj Ls = true := by
    unfold shut
    rw [List.all_eq_true]
    intro x hx
    obtain ⟨i, hi, rfl⟩ := List.getElem_of_mem hx
    rw [objAll_iff] at hF
    have h4 : i < (r.fam Ls s).length := by rw [hr.len _ _ hl, ← hl]; exact hi
    have h5 := congrArg (fun l => l[i]?) hF
    have h6 : obj Ls[i] = some (r.fam Ls s)[i] := by simpa [hi, h4] using h5
    rw [h6]
    exact hr.closF _ _ _ hl (fun x hx => inL_iff.2 hx) _ (List.getElem_mem h4)
  have hnR : inL Ls R = false := by
    cases h : inL Ls R with
    | false => rfl
    | true => exact (hR (inL_iff.1 h)).elim
  have hp : putU Ls t (upds 0 (r.fam (LR r.m) (s + 1))) obj = setLs Ls (r.fam Ls (s + 1)) obj := by
    rw [putU_upds (Ls := Ls) (by rw [hr.len _ _ (LR_len _), hl]) fun i hi => by rw [Nat.zero_add]; exact getD_mem hi, hr.renF _ _ _ (LR_len _)]
    have : (LR r.m).map (cout Ls t) = Ls := by rw [← hl]; exact cout_all Ls t
    rw [this]
  unfold Lp.rc at h0
  simp only [YSpec.toSpec, h0, e1, e2, e3, e4, hreach, hcl, hsh, hnR, fresh, List.all_nil, Bool.and_self, Bool.not_false, hr.args, decide_true, hr.psz Ls hl, hpre, putN, hp, and_self]
  rfl

/-! a function that hands on -/
def Lp.e (r : Lp) : Nat := match (List.range r.n).find? (fun s => (r.st s).isSome) with | some s => s + 1 | none => r.n
def Lp.pd (r : Lp) : Option Code := match (List.range r.n).find? (fun s => (r.st s).isSome) with | some s => r.st s | none => none
def Lp.fin (r : Lp) (Ls : List Name) : O := r.rc Ls (if r.pd.isNone then .ready else .done) r.pd
def Lp.it (r : Lp) (caps : List V) : CSpec where
  pre := fun os ds => os = r.rc (LI r.m) .ready none :: r.fam (LI r.m) 0 ∧ ds = .yld [0, 1] :: caps.map .v
  out := fun _ _ => ⟨(0, r.fin (LI r.m)) :: upds 1 (r.fam (LI r.m) r.e), [], .tup []⟩
theorem Lp.it_app {r : Lp} (hr : r.Ok) {caps : List V} {obj : Name → Option O} {t R : Name} {Ls : List Name} (hl : Ls.length = r.m) (hn : Ls.Nodup) (hR : R ∉ Ls)
    (h0 : obj R = some (r.rc Ls .ready none)) (hF : objAll obj Ls (r.fam Ls 0)) :
    (r.it caps).toSpec.app obj t (.yld R :: caps.map .v) = ⟨True, .tup [], setLs Ls (r.fam Ls r.e) (upd obj R (some (r.fin Ls)))⟩ := by
  have hnn : (R :: Ls).Nodup := List.nodup_cons.2 ⟨hR, hn⟩
  have hreach : reach obj (.yld R :: caps.map .v) = R :: Ls := by
    have h1 : namesL (.yld R :: caps.map .v) = [R] := by
      have := names_vals [.yld R] caps
      simpa [namesL, namesD] using this
    unfold reach
    rw [h1]
    show reachL obj (2999 + 1) [R] [] = R :: Ls
    unfold Lp.rc at h0
    simp only [reachL, inL, List.any_nil, Bool.false_eq_true, if_false, h0, namesO, List.append_nil, List.nil_append]
    have := hr.reach Ls 0 obj [R] (2999 - r.fu) hl hn (fun x hx => by simp only [List.mem_singleton]; rintro rfl; exact hR hx) hF
    rw [show 2999 - r.fu + r.fu = 2999 by have := hr.fuel; omega] at this
    simpa using this
  have hcanon : ∀ s, objAll obj Ls (r.fam Ls s) → Ls.map (canonO (R :: Ls) obj) = (r.fam Ls s).map (O.ren (cin (R :: Ls))) := by
    intro s hF
    rw [objAll_iff] at hF
    refine List.ext_getElem (by simp [hr.len _ _ hl, hl]) fun i h1 h2 => ?_
    have h3 : i < Ls.length := by simpa using h1
    have h4 : i < (r.fam Ls s).length := by rw [hr.len _ _ hl, ← hl]; exact h3
    have h5 := congrArg (fun l => l[i]?) hF
    have h6 : obj Ls[i] = some (r.fam Ls s)[i] := by simpa [h3, h4] using h5
    simp only [List.getElem_map, canonO, h6]
  have e1 : cOs obj (.yld R :: caps.map .v) = r.rc (LI r.m) .ready none :: r.fam (LI r.m) 0 := by
    unfold cOs
    rw [hreach, List.map_cons, hcanon 0 hF, hr.renF _ _ _ hl, cin_next hn hR, hl]
    congr 1
    unfold Lp.rc at h0 ⊢
    simp only [canonO, h0, O.ren]
    rw [hr.renE _ _ hl, cin_next hn hR, hl]
  have e2 : cDs obj (.yld R :: caps.map .v) = .yld [0, 1] :: caps.map .v := by
    unfold cDs
    rw [hreach]
    simp only [D.renL, D.ren, renL_vals, cin, idx, if_true]
  have hpre : (r.it caps).pre (r.rc (LI r.m) .ready none :: r.fam (LI r.m) 0) (.yld [0, 1] :: caps.map .v) := ⟨rfl, rfl⟩
  have hout : ∀ os ds, (r.it caps).out os ds = ⟨(0, r.fin (LI r.m)) :: upds 1 (r.fam (LI r.m) r.e), [], .tup []⟩ := fun _ _ => rfl
  have hinL : ∀ x ∈ Ls, inL (R :: Ls) x = true := fun x hx => inL_iff.2 (List.mem_cons_of_mem _ hx)
  have hsh : shut obj (R :: Ls) = true := by
    unfold shut
    rw [List.all_eq_true]
    intro x hx
    rcases List.mem_cons.1 hx with rfl | hx
    · rw [h0]
      unfold Lp.rc
      exact hr.closE _ _ hl hinL
    obtain ⟨i, hi, rfl⟩ := List.getElem_of_mem hx
    rw [objAll_iff] at hF
    have h4 : i < (r.fam Ls 0).length := by rw [hr.len _ _ hl, ← hl]; exact hi
    have h5 := congrArg (fun l => l[i]?) hF
    have h6 : obj Ls[i] = some (r.fam Ls 0)[i] := by simpa [hi, h4] using h5
    rw [h6]
    exact hr.closF _ _ _ hl hinL _ (List.getElem_mem h4)
  have hcl : D.closL (inL (R :: Ls)) (.yld R :: caps.map .v) = true := by
    have := closL_vals (inL (R :: Ls)) caps [.yld R]
    simp only [List.singleton_append] at this
    rw [this]
    simp [D.closL, D.clos, inL]
  have hp : ∀ obj', putU (R :: Ls) t (upds 1 (r.fam (LI r.m) r.e)) obj' = setLs Ls (r.fam Ls r.e) obj' := by
    intro obj'
    rw [putU_upds (Ls := Ls) (by rw [hr.len _ _ (LI_len _), hl]) fun i hi => by
      rw [Nat.add_comm, List.getD_cons_succ]; exact getD_mem hi, hr.renF _ _ _ (LI_len _)]
    have : (LI r.m).map (cout (R :: Ls) t) = Ls := by rw [← hl]; exact cout_next R Ls t
    rw [this]
  have hf : O.ren (cout (R :: Ls) t) (r.fin (LI r.m)) = r.fin Ls := by
    unfold Lp.fin Lp.rc
    simp only [O.ren]
    rw [hr.renE _ _ (LI_len _)]
    have : (LI r.m).map (cout (R :: Ls) t) = Ls := by rw [← hl]; exact cout_next R Ls t
    rw [this]
  simp only [CSpec.toSpec, e1, e2, hreach, hout, hsh, hcl, fresh, List.all_nil, Bool.and_self, hpre, and_self, putN, putU, List.getD_cons_zero, hf, hp, D.ren, D.renL]
/-- What a body of such a function has to come to. -/
theorem Lp.it_end {P : Program} {r : Lp} (hr : r.Ok) {σ : S} (h0 : σ.obj [0, 1] = some (r.fin (LI r.m))) (h1 : objAll σ.obj (LI r.m) (r.fam (LI r.m) r.e)) :
    (resAll P σ []).ok ∧ (resAll P σ []).d = .tup [] ∧ endC (r.rc (LI r.m) .ready none :: r.fam (LI r.m) 0) ⟨(0, r.fin (LI r.m)) :: upds 1 (r.fam (LI r.m) r.e), [], .tup []⟩ σ := by
  have hl0 := hr.len (LI r.m) 0 (LI_len _)
  have hle := hr.len (LI r.m) r.e (LI_len _)
  have hget : ∀ i (hi : i < (r.fam (LI r.m) r.e).length), σ.obj [1 + i, 1] = some (r.fam (LI r.m) r.e)[i] := by
    intro i hi
    have h3 := objAll_get h1 i (by rw [LI_len]; omega) hi
    rw [Nat.add_comm]
    simpa only [LI, List.getElem_map, List.getElem_range] using h3
  have hdom : ∀ x ∈ LI r.m, domC (r.m + 1) [] x = true := by
    intro x hx
    obtain ⟨i, hi, rfl⟩ := List.mem_map.1 hx
    have := List.mem_range.1 hi
    simp [domC]
    omega
  refine ⟨fun x hx => by simp at hx, rfl, ⟨⟨?_, objsOk_upds (F := r.fam (LI r.m) r.e) (by omega) (fun i hi o => by simp only [lastU]; rw [if_neg (by omega)]) hget⟩, trivial, ?_⟩⟩
  · simp only [lastU, if_true]
    rw [h0, lastU_other (by omega)]
  have hall : ∀ (F' : List O) (k : Nat), (∀ o ∈ F', O.clos (domC (r.m + 1) []) o = true) → k + F'.length ≤ r.m + 1 → ((upds k F').all fun x => O.clos (domC (r.m + 1) []) x.2 && decide (x.1 < r.m + 1)) = true := by
    intro F'
    induction F' with
    | nil => intros; rfl
    | cons f fs ih =>
      intro k hf hk
      simp only [List.length_cons] at hk
      simp only [upds, List.all_cons, Bool.and_eq_true, decide_eq_true_eq]
      exact ⟨⟨hf f (by simp), by omega⟩, by have := ih (k + 1) (fun o ho => hf o (by simp [ho])) (by omega); simpa using this⟩
  have h5 := hall (r.fam (LI r.m) r.e) 1 (hr.closF _ _ _ (LI_len _) hdom) (by omega)
  have h6 : O.clos (domC (r.m + 1) []) (r.fin (LI r.m)) = true := hr.closE _ _ (LI_len _) hdom
  have hlen : (r.rc (LI r.m) .ready none :: r.fam (LI r.m) 0).length = r.m + 1 := by rw [List.length_cons, hl0]
  have h7 : D.clos (domC (r.m + 1) []) (.tup []) = true := rfl
  simp only [hlen, h7, List.all_cons, h6, h5, List.all_nil, List.map_nil, distinct, Bool.and_self, Bool.true_and, Bool.and_true]
  simp
/-- The statement 'for .. := range f'. -/
theorem cl_iter {P : Program} {Γ : FuncId → Option Spec} (hΓ : ∀ f s, Γ f = some s → SSound P f s) {r : Lp} (hr : r.Ok) {caps : List V} {g : Operand} {ps : Array Tmp} {asg body : Code} {σ : S} {rest : List Code} {K : Exit → S → Prop} (k k' : Nat) {f : FuncId} {Ls : List Name}
    (hc : opC σ g = true) (hg : opD σ g = .v (.clo (.func f) [] caps)) (hne : f ≠ yid) (hs : Γ f = some (r.it caps).toSpec) (hnew : σ.obj (k :: σ.pre) = none)
    (he : (List.range σ.nt).map σ.env = r.env Ls) (hps : ps.toList = r.ps) (ha : asg = r.asg) (hb : body = r.body) (hl : Ls.length = r.m) (hn : Ls.Nodup) (hR : (k :: σ.pre) ∉ Ls) (hF : objAll σ.obj Ls (r.fam Ls 0))
    (hK : ∀ o : O, pdK (thenK (fun σ' => CL P rest σ' K) K) { σ with obj := upd (setLs Ls (r.fam Ls r.e) σ.obj) (k :: σ.pre) (some o) } r.pd) : CL P (.rangeFunc g ps asg body :: rest) σ K := by
  subst ha
  subst hb
  generalize hRn : k :: σ.pre = R at *
  have hagr : ∀ x ∈ Ls, (upd σ.obj R (some (r.rc Ls .ready none))) x = σ.obj x := fun x hx => upd_ne _ _ _ (by rintro rfl; exact hR hx)
  have happ := Lp.it_app hr (caps := caps) (t := k' :: σ.pre) hl hn hR (upd_same σ.obj R (some (r.rc Ls .ready none))) (objAll_agr hF hagr)
  have hrec : O.loop ((List.range σ.nt).map σ.env) ps.toList r.asg r.body .ready none = r.rc Ls .ready none := by unfold Lp.rc; rw [he, hps]
  have hargs : clArgs (opD σ g) [.yld R] = .yld R :: caps.map .v := by rw [hg]; rfl
  have hfn : clFn (opD σ g) = some f := by rw [hg]; simp [clFn, hne]
  have hswap : ∀ (F : List O) (obj : Name → Option O) (a b : Option O), upd (setLs Ls F (upd obj R a)) R b = upd (setLs Ls F obj) R b := by
    intro F obj a b
    funext x
    by_cases h : x = R
    · subst h; rw [upd_same, upd_same]
    · rw [upd_ne _ _ _ h, upd_ne _ _ _ h]
      have : ∀ (Ls : List Name) (F : List O) (o1 o2 : Name → Option O), o1 x = o2 x → setLs Ls F o1 x = setLs Ls F o2 x := by
        intro Ls
        induction Ls with
        | nil => intro F o1 o2 h; simpa [setLs] using h
        | cons y ys ih =>
          intro F o1 o2 h
          cases F with
          | nil => simpa [setLs] using h
          | cons f fs =>
            simp only [setLs]
            refine ih fs _ _ ?_
            by_cases e : x = y
            · subst e; rw [upd_same, upd_same]
            · rw [upd_ne _ _ _ e, upd_ne _ _ _ e, h]
      exact this Ls F _ _ (upd_ne _ _ _ h)
  refine cl_rangeFunc hΓ k k' hc hfn hne hs (by rw [hRn]; exact hnew) ?_ ?_
  · rw [hRn, hargs, hrec, happ]; trivial
  · rw [hRn, hargs, hrec, happ]
    have hfin : setLs Ls (r.fam Ls r.e) (upd (upd σ.obj R (some (r.rc Ls .ready none))) R (some (r.fin Ls))) R = some (r.fin Ls) := by rw [setLs_ne hR, upd_same]
    have hsp : spent (setLs Ls (r.fam Ls r.e) (upd (upd σ.obj R (some (r.rc Ls .ready none))) R (some (r.fin Ls)))) R =
        upd (setLs Ls (r.fam Ls r.e) σ.obj) R (some (r.rc Ls .exhausted r.pd)) := by
      unfold spent
      rw [hfin]
      unfold Lp.fin Lp.rc
      simp only [hswap]
    refine leftK_of r.pd hfin ?_
    rw [hsp]
    exact hK (r.rc Ls .exhausted r.pd)
end Go.Eng
/- The engine's text of boxes that hold plain data: frozen as they stand. -/
namespace Go.Eng
open Go
theorem frz_v : ∀ (n : Nat) (obj : Name → Option O) (x : V), frz n obj (.v x) = ⟨True, x, obj⟩
  | 0, _, _ => rfl
  | _ + 1, _, _ => rfl
theorem frzL_v (n : Nat) (obj : Name → Option O) : ∀ l : List V, (frzL (frz n) obj (l.map .v)).ok ∧ (frzL (frz n) obj (l.map .v)).xs = l ∧ (frzL (frz n) obj (l.map .v)).obj = obj
  | [] => ⟨trivial, rfl, rfl⟩
  | x :: r => by
    obtain ⟨h1, h2, h3⟩ := frzL_v n obj r
    simp only [List.map_cons, frzL, frz_v]
    exact ⟨⟨trivial, h1⟩, by rw [h2], h3⟩
@[go_sem] theorem closL_mapV (dom : Name → Bool) (l : List V) : D.closL dom (l.map .v) = true := by
  have := closL_vals dom l []
  simpa [D.closL] using this
theorem asV1s_map : ∀ l : List V, asV1s (l.map .v) = some l
  | [] => rfl
  | x :: r => by
    simp only [List.map_cons, asV1s, asV1, asV1s_map r]
attribute [go_sem] asV1s_map
theorem weakM_fbox {σ : S} (nm : Name) (l : List V) (ho : σ.obj nm = some (.box (l.map .v))) : WeakM σ { σ with obj := upd σ.obj nm (some (.fbox l)) } := by
  intro G φ m a w hC
  obtain ⟨h1, h2, h3⟩ := frzL_v 0 σ.obj l
  have e : frz 1 σ.obj (.ref nm 0) = ⟨(frzL (frz 0) σ.obj (l.map .v)).ok ∧ (frzL (frz 0) σ.obj (l.map .v)).obj nm = some (.box (l.map .v)), .ptr ((frzL (frz 0) σ.obj (l.map .v)).xs.drop 0),
      upd (frzL (frz 0) σ.obj (l.map .v)).obj nm (some (.fbox (frzL (frz 0) σ.obj (l.map .v)).xs))⟩ := by
    simp only [frz, ho]
  obtain ⟨m', k1, k2, _⟩ := frz_ok 1 G φ m σ a w hC (.ref nm 0) _ (.ref nm 0 ⟨_, ho, rfl⟩) (by rw [e]; exact ⟨h1, by rw [h3]; exact ho⟩)
  rw [e] at k2
  simp only [h2, h3] at k2
  exact ⟨φ, m', k2⟩
theorem weakM_fboxk {σ τ : S} (nm : Name) (l : List V) (ho : σ.obj nm = some (.box (l.map .v))) (ks : List Nat) (ns : List Name)
    (h : clS ks ns ⟨σ.nt, σ.env, upd σ.obj nm (some (.fbox l)), σ.pre, σ.base⟩) (hk : keepS ks ns ⟨σ.nt, σ.env, upd σ.obj nm (some (.fbox l)), σ.pre, σ.base⟩ = τ) : WeakM σ τ :=
  (weakM_fbox nm l ho).trans (weakM_keep ks ns h hk)
open Go Go.Proofs
/-! lend's data, and how they lie -/
structure Six (α : Type) where
  (a b c d e f : α)
  deriving Inhabited, DecidableEq
def Six.get {α : Type} (s : Six α) : Nat → α
  | 0 => s.a
  | 1 => s.b
  | 2 => s.c
  | 3 => s.d
  | 4 => s.e
  | _ => s.f
def six {α : Type} (g : Nat → α) : Six α := ⟨g 0, g 1, g 2, g 3, g 4, g 5⟩
def Six.set {α : Type} (s : Six α) (i : Nat) (x : α) : Six α := six fun j => if j = i then x else s.get j
def Six.L {α β : Type} (s : Six α) (e : α → β) : List β := [e s.a, e s.b, e s.c, e s.d, e s.e, e s.f]
theorem six_eta {α : Type} (s : Six α) : six s.get = s := rfl
theorem Six.L_len {α β : Type} (s : Six α) (e : α → β) : (s.L e).length = 6 := rfl
theorem Six.L_get {α β : Type} (s : Six α) (e : α → β) (z : β) : ∀ {i : Nat}, i < 6 → (s.L e).getD i z = e (s.get i)
  | 0, _ => rfl
  | 1, _ => rfl
  | 2, _ => rfl
  | 3, _ => rfl
  | 4, _ => rfl
  | 5, _ => rfl
  | i + 6, h => absurd h (by omega)
theorem Six.get_set {α : Type} (s : Six α) {i j : Nat} (x : α) (hi : i < 6) : (s.set i x).get i = x ∧ (j < 6 → j ≠ i → (s.set i x).get j = s.get j) := by
  constructor
  · match i, hi with
    | 0, _ => rfl
    | 1, _ => rfl
    | 2, _ => rfl
    | 3, _ => rfl
    | 4, _ => rfl
    | 5, _ => rfl
  · intro hj hne
    match j, hj with
    | 0, _ => show (if 0 = i then _ else _) = _; rw [if_neg hne]
    | 1, _ => show (if 1 = i then _ else _) = _; rw [if_neg hne]
    | 2, _ => show (if 2 = i then _ else _) = _; rw [if_neg hne]
    | 3, _ => show (if 3 = i then _ else _) = _; rw [if_neg hne]
    | 4, _ => show (if 4 = i then _ else _) = _; rw [if_neg hne]
    | 5, _ => show (if 5 = i then _ else _) = _; rw [if_neg hne]
theorem six_ext {α : Type} {s t : Six α} (h : ∀ i, i < 6 → s.get i = t.get i) : s = t := by
  obtain ⟨a, b, c, d, e, f⟩ := s
  obtain ⟨a', b', c', d', e', f'⟩ := t
  have h0 : a = a' := h 0 (by omega)
  have h1 : b = b' := h 1 (by omega)
  have h2 : c = c' := h 2 (by omega)
  have h3 : d = d' := h 3 (by omega)
  have h4 : e = e' := h 4 (by omega)
  have h5 : f = f' := h 5 (by omega)
  subst h0 h1 h2 h3 h4 h5
  rfl
structure Par where
  (no pa : Int)
  deriving Inhabited, DecidableEq
structure Stk where
  ho : List Int
  un : Six (List Par)
  (se ta : Six Int)
  deriving Inhabited, DecidableEq
structure Pg where
  co : Int
  st : Stk
  su : Int
  deriving Inhabited, DecidableEq
structure Dk where
  me : Int
  now : Stk
  (pa pb : Pg)
  wet : Int
  deriving Inhabited, DecidableEq
structure Bag where
  (fr to : Int)
  ps : List Par
  ta : Int
  deriving Inhabited, DecidableEq
def Dk.pg (d : Dk) : Nat → Pg
  | 0 => d.pa
  | _ => d.pb
def decI : V → Int
  | .int _ n => n
  | _ => 0
def decB : V → Bool
  | .bool b => b
  | _ => false
def decIs : V → List Int
  | .sl l => l.map decI
  | _ => []
def encPa (p : Par) : V := .agg [vInt p.no, vInt p.pa]
def decPa : V → Par
  | .agg [.int _ a, .int _ b] => ⟨a, b⟩
  | _ => default
abbrev rowI (l : List Int) : V := .sl (l.map vInt)
abbrev rowP (l : List Par) : V := .sl (l.map encPa)
def decPas : V → List Par
  | .sl l => l.map decPa
  | _ => []
def stL (s : Stk) : List V := rowI s.ho :: (s.un.L rowP ++ (s.se.L vInt ++ s.ta.L vInt))
def decStL (l : List V) : Stk := ⟨decIs (l.getD 0 default), six fun i => decPas (l.getD (1 + i) default), six fun i => decI (l.getD (7 + i) default), six fun i => decI (l.getD (13 + i) default)⟩
def pgL (p : Pg) : List V := vInt p.co :: (stL p.st ++ [vInt p.su])
def decPgL (l : List V) : Pg := ⟨decI (l.getD 0 default), decStL ((l.drop 1).take 19), decI (l.getD 20 default)⟩
def dkL (d : Dk) : List V := vInt d.me :: (stL d.now ++ (pgL d.pa ++ (pgL d.pb ++ [vInt d.wet])))
def decDkL (l : List V) : Dk := ⟨decI (l.getD 0 default), decStL ((l.drop 1).take 19), decPgL ((l.drop 20).take 21), decPgL ((l.drop 41).take 21), decI (l.getD 62 default)⟩
def bgL (b : Bag) : List V := [vInt b.fr, vInt b.to, rowP b.ps, vInt b.ta]
def V.L : V → List V
  | .agg l => l
  | _ => []
def encSt (s : Stk) : V := .agg (stL s)
def decSt (v : V) : Stk := decStL v.L
def encPg (p : Pg) : V := .agg (pgL p)
def decPg (v : V) : Pg := decPgL v.L
def encDk (d : Dk) : V := .agg (dkL d)
def decDk (v : V) : Dk := decDkL v.L
def encBg (b : Bag) : V := .agg (bgL b)
def decBg : V → Bag
  | .agg [.int _ a, .int _ b, .sl l, .int _ c] => ⟨a, b, l.map decPa, c⟩
  | _ => default
theorem map_dec {α : Type} {e : α → V} {d : V → α} (h : ∀ a, d (e a) = a) (l : List α) : (l.map e).map d = l := by
  rw [List.map_map]
  have : d ∘ e = id := funext h
  rw [this, List.map_id]
@[go_sem] theorem decI_map (l : List Int) : (l.map vInt).map decI = l := map_dec (fun _ => rfl) l
theorem decPa_enc (p : Par) : decPa (encPa p) = p := rfl
@[go_sem] theorem decPa_map (l : List Par) : (l.map encPa).map decPa = l := map_dec decPa_enc l
theorem decIs_row (l : List Int) : decIs (rowI l) = l := decI_map l
theorem decPas_row (l : List Par) : decPas (rowP l) = l := decPa_map l
theorem decStL_enc (s : Stk) : decStL (stL s) = s := by
  obtain ⟨h, u, a, b⟩ := s
  obtain ⟨u0, u1, u2, u3, u4, u5⟩ := u
  show (⟨decIs (rowI h), ⟨decPas (rowP u0), decPas (rowP u1), decPas (rowP u2), decPas (rowP u3), decPas (rowP u4), decPas (rowP u5)⟩, a, b⟩ : Stk) = _
  simp only [decIs_row, decPas_row]
theorem decPgL_enc (p : Pg) : decPgL (pgL p) = p := by
  show (⟨p.co, decStL (stL p.st), p.su⟩ : Pg) = p
  rw [decStL_enc]
theorem decDkL_enc (d : Dk) : decDkL (dkL d) = d := by
  show (⟨d.me, decStL (stL d.now), decPgL (pgL d.pa), decPgL (pgL d.pb), d.wet⟩ : Dk) = d
  rw [decStL_enc, decPgL_enc, decPgL_enc]
@[go_sem] theorem decSt_enc (s : Stk) : decSt (.agg (stL s)) = s := decStL_enc s
@[go_sem] theorem decPg_enc (p : Pg) : decPg (.agg (pgL p)) = p := decPgL_enc p
@[go_sem] theorem decDk_enc (d : Dk) : decDk (.agg (dkL d)) = d := decDkL_enc d
@[go_sem] theorem decSt_enc' (s : Stk) : decSt (encSt s) = s := decStL_enc s
@[go_sem] theorem decPg_enc' (p : Pg) : decPg (encPg p) = p := decPgL_enc p
@[go_sem] theorem decDk_enc' (d : Dk) : decDk (encDk d) = d := decDkL_enc d
theorem decBg_enc (b : Bag) : decBg (encBg b) = b := by
  obtain ⟨x, y, l, z⟩ := b
  show (⟨x, y, (l.map encPa).map decPa, z⟩ : Bag) = _
  rw [decPa_map]
@[go_sem] theorem decBg_enc1 (b : Bag) : decBg (.agg (bgL b)) = b := decBg_enc b
@[go_sem] theorem decBg_enc2 (a b c : Int) (l : List Par) : decBg (.agg [vInt a, vInt b, rowP l, vInt c]) = ⟨a, b, l, c⟩ := decBg_enc ⟨a, b, l, c⟩
@[go_sem] theorem decDk_map (l : List Dk) : (l.map encDk).map decDk = l := map_dec decDk_enc' l
@[go_sem] theorem etaPa (p : Par) : (⟨p.no, p.pa⟩ : Par) = p := rfl
@[go_sem] theorem stL_len (s : Stk) : (stL s).length = 19 := rfl
@[go_sem] theorem pgL_len (p : Pg) : (pgL p).length = 21 := rfl
@[go_sem] theorem dkL_len (d : Dk) : (dkL d).length = 63 := rfl
@[go_sem] theorem bgL_len (b : Bag) : (bgL b).length = 4 := rfl
/-! what lies where -/
@[go_sem] theorem stL_all (s : Stk) : (stL s).take 19 = stL s := rfl
@[go_sem] theorem pgL_all (p : Pg) : (pgL p).take 21 = pgL p := rfl
@[go_sem] theorem dkL_all (d : Dk) : (dkL d).take 63 = dkL d := rfl
@[go_sem] theorem bgL_all (b : Bag) : (bgL b).take 4 = bgL b := rfl
@[go_sem] theorem stL_0 (s : Stk) : (stL s).getD 0 default = rowI s.ho := rfl
@[go_sem] theorem stL_un (s : Stk) : ((stL s).drop 1).take 6 = s.un.L rowP := rfl
@[go_sem] theorem stL_se (s : Stk) : ((stL s).drop 7).take 6 = (s.se.L id).map vInt := rfl
@[go_sem] theorem stL_ta (s : Stk) : ((stL s).drop 13).take 6 = (s.ta.L id).map vInt := rfl
theorem stL_un_at (s : Stk) {i : Nat} (h : i < 6) : (stL s).getD (1 + i) default = rowP (s.un.get i) := by
  match i, h with
  | 0, _ => rfl
  | 1, _ => rfl
  | 2, _ => rfl
  | 3, _ => rfl
  | 4, _ => rfl
  | 5, _ => rfl
theorem stL_se_at (s : Stk) {i : Nat} (h : i < 6) : (stL s).getD (7 + i) default = vInt (s.se.get i) := by
  match i, h with
  | 0, _ => rfl
  | 1, _ => rfl
  | 2, _ => rfl
  | 3, _ => rfl
  | 4, _ => rfl
  | 5, _ => rfl
theorem stL_ta_at (s : Stk) {i : Nat} (h : i < 6) : (stL s).getD (13 + i) default = vInt (s.ta.get i) := by
  match i, h with
  | 0, _ => rfl
  | 1, _ => rfl
  | 2, _ => rfl
  | 3, _ => rfl
  | 4, _ => rfl
  | 5, _ => rfl
@[go_sem] theorem pgL_0 (p : Pg) : (pgL p).getD 0 default = vInt p.co := rfl
@[go_sem] theorem pgL_20 (p : Pg) : (pgL p).getD 20 default = vInt p.su := rfl
@[go_sem] theorem pgL_st (p : Pg) : ((pgL p).drop 1).take 19 = stL p.st := rfl
@[go_sem] theorem dkL_0 (d : Dk) : (dkL d).getD 0 default = vInt d.me := rfl
@[go_sem] theorem dkL_62 (d : Dk) : (dkL d).getD 62 default = vInt d.wet := rfl
@[go_sem] theorem dkL_now (d : Dk) : ((dkL d).drop 1).take 19 = stL d.now := rfl
@[go_sem] theorem dkL_pa (d : Dk) : ((dkL d).drop 20).take 21 = pgL d.pa := rfl
@[go_sem] theorem dkL_pb (d : Dk) : ((dkL d).drop 41).take 21 = pgL d.pb := rfl
@[go_sem] theorem bgL_0 (b : Bag) : (bgL b).getD 0 default = vInt b.fr := rfl
@[go_sem] theorem bgL_1 (b : Bag) : (bgL b).getD 1 default = vInt b.to := rfl
@[go_sem] theorem bgL_2 (b : Bag) : (bgL b).getD 2 default = rowP b.ps := rfl
@[go_sem] theorem bgL_3 (b : Bag) : (bgL b).getD 3 default = vInt b.ta := rfl
def decStr : V → ByteArray
  | .str s => s
  | _ => .empty
def iI : En Int := ⟨vInt, decI⟩
def iB : En Bool := ⟨.bool, decB⟩
def iStr : En ByteArray := ⟨.str, decStr⟩
def iIs : En (List Int) := ⟨fun l => .sl (l.map vInt), decIs⟩
def iPa : En Par := ⟨encPa, decPa⟩
def iPs : En (List Par) := ⟨fun l => .sl (l.map encPa), decPas⟩
def iSt : En Stk := ⟨encSt, decSt⟩
def iPg : En Pg := ⟨encPg, decPg⟩
def iDk : En Dk := ⟨encDk, decDk⟩
def iBg : En Bag := ⟨encBg, decBg⟩
attribute [go_sem] iI iB iStr iIs iPa iPs iSt iPg iDk iBg decI decB decIs decPas decStr encPa decPa encSt encPg encDk encBg
/-- lo ≤ n ≤ hi. -/
def inI (n lo hi : Int) : Bool := decide (lo ≤ n) && decide (n ≤ hi)
end Go.Eng
