import Derived.Test.YtckmfkgppohnmaaGreatDoorK2
import Derived.Attr
/- Texts Eng13 to Eng20. -/
set_option linter.all false
/- The engine's thirteenth text: each operation runs as its abstract step says. -/
namespace Go.Eng
open Go

def opConds (σ : S) : Op → Bool
  | .pick c x y => opC σ c && (match opD σ c with | .v (.bool b) => if b then opC σ x else opC σ y | _ => false)
  | op => op.operands.toList.all (opC σ)

theorem mem_conds {σ : S} {op : Op} (h : op.operands.toList.all (opC σ) = true) {x : Operand} (hx : x ∈ op.operands.toList) : opC σ x = true := List.all_eq_true.1 h x hx

theorem parts_rep {G : Ghost} {φ : Name → Loc} {m : Mem} {σ : S} {a : Act} {w : World} (hC : Conc G φ m σ a w) {ps : Array (Nat × Operand)} (h : ∀ p ∈ ps.toList, opC σ p.2 = true) :
    (ps.toList.map fun p => (p.1, opD σ p.2)).map (·.1) = (ps.map fun (i, x) => (i, a.eval x)).toList.map (·.1) ∧
    ∀ (k : Nat) (p : Nat × D) (q : Nat × Value), (ps.toList.map fun p => (p.1, opD σ p.2))[k]? = some p → (ps.map fun (i, x) => (i, a.eval x)).toList[k]? = some q → RepD φ σ.obj m p.2 q.2 := by
  refine ⟨by simp, fun k p q hp hq => ?_⟩
  simp only [List.getElem?_map, Option.map_eq_some_iff] at hp
  obtain ⟨y, hy, rfl⟩ := hp
  simp only [Array.toList_map, List.getElem?_map, hy, Option.map_some, Option.some.injEq] at hq
  subst hq
  exact opD_rep hC (h y (List.mem_of_getElem? hy))

theorem list_rep {G : Ghost} {φ : Name → Loc} {m : Mem} {σ : S} {a : Act} {w : World} (hC : Conc G φ m σ a w) {xs : Array Operand} (h : ∀ x ∈ xs.toList, opC σ x = true) :
    (xs.toList.map (opD σ)).length = (xs.map a.eval).size ∧ ∀ i (h : i < (xs.toList.map (opD σ)).length) (h' : i < (xs.map a.eval).size), RepD φ σ.obj m (xs.toList.map (opD σ))[i] (xs.map a.eval)[i] := by
  refine ⟨by simp, fun i h1 h2 => ?_⟩
  simp only [List.getElem_map, Array.getElem_toList, Array.getElem_map]
  exact opD_rep hC (h _ (by simp))

set_option maxHeartbeats 1000000 in
theorem builtin_goal {P : Program} {G : Ghost} {φ : Name → Loc} {m : Mem} {σ : S} {a : Act} {w : World} (hC : Conc G φ m σ a w) (o : Oper) (t : Name) (b : Builtin) (args : Array Operand) (ts : Array TypeId)
    (ho : o.op = .call ⟨.builtin b, args, ts⟩) (hall : ∀ x ∈ args.toList, opC σ x = true) (hok : (aBuiltin P σ t b ts.toList (args.toList.map (opD σ))).ok) :
    OpGoal P G σ a w o (aBuiltin P σ t b ts.toList (args.toList.map (opD σ))) := by
  obtain ⟨args⟩ := args
  obtain ⟨ts⟩ := ts
  have hcase : (∃ T x, b = .len ∧ ts = [T] ∧ args = [x]) ∨ (∃ T1 T2 s x, b = .append ∧ ts = [T1, T2] ∧ args = [s, x]) ∨
      (∃ x y, (b = .min ∨ b = .max) ∧ args = [x, y]) := by
    rcases args with _ | ⟨x, _ | ⟨y, _ | ⟨z, r⟩⟩⟩
    · unfold aBuiltin at hok; split at hok <;> first | exact hok.elim | (exfalso; simp_all; done)
    · unfold aBuiltin at hok
      split at hok
      · exact .inl ⟨_, x, rfl, by assumption, rfl⟩
      · exfalso; simp_all
      · exfalso; simp_all
      · exfalso; simp_all
      · exact hok.elim
    · unfold aBuiltin at hok
      split at hok
      · exfalso; simp_all
      · exact .inr (.inl ⟨_, _, x, y, rfl, by assumption, rfl⟩)
      · exact .inr (.inr ⟨x, y, .inl rfl, rfl⟩)
      · exact .inr (.inr ⟨x, y, .inr rfl, rfl⟩)
      · exact hok.elim
    · unfold aBuiltin at hok; split at hok <;> first | exact hok.elim | (exfalso; simp_all; done)
  rcases hcase with ⟨T, x, rfl, rfl, rfl⟩ | ⟨T1, T2, s, x, rfl, rfl, rfl⟩ | ⟨x, y, hb, rfl⟩
  · have hx := opD_rep hC (hall x (by simp))
    refine goal_quiet hC (s := Builtin.len_ #[T] o.type #[a.eval x]) ?_ (s_len hC hx hok)
    simp [execOp, ho, resolve, invoke, builtin]
  · have hs := opD_rep hC (hall s (by simp))
    have hx := opD_rep hC (hall x (by simp))
    refine goal_done (s := Builtin.append_ #[T1, T2] o.type #[a.eval s, a.eval x]) ?_ (s_append hC hs hx hok)
    simp [execOp, ho, resolve, invoke, builtin]
  · have hx := opD_rep hC (hall x (by simp))
    have hy := opD_rep hC (hall y (by simp))
    simp only [List.map_cons, List.map_nil] at hok ⊢
    generalize opD σ x = dx at *
    generalize opD σ y = dy at *
    have hd : ∃ k1 a1 k2 a2, dx = .v (.int k1 a1) ∧ dy = .v (.int k2 a2) := by
      rcases hb with rfl | rfl
      · simp only [aBuiltin] at hok
        split at hok
        all_goals first
          | exact hok.elim
          | (exfalso; simp_all; done)
          | (rename_i h; simp only [List.cons.injEq, and_true] at h; exact ⟨_, _, _, _, h.1, h.2⟩)
      · simp only [aBuiltin] at hok
        split at hok
        all_goals first
          | exact hok.elim
          | (exfalso; simp_all; done)
          | (rename_i h; simp only [List.cons.injEq, and_true] at h; exact ⟨_, _, _, _, h.1, h.2⟩)
    obtain ⟨k1, a1, k2, a2, rfl, rfl⟩ := hd
    cases hx with
    | v _ _ hx =>
    cases hy with
    | v _ _ hy =>
    generalize hu : a.eval x = u at *
    generalize hv : a.eval y = v at *
    cases hx; cases hy
    rcases hb with rfl | rfl
    · refine goal_quiet hC (s := Builtin.min_ ts.toArray o.type #[.int k1 a1, .int k2 a2]) ?_ ⟨.int k1 (if a2 < a1 then a2 else a1), ?_, .v _ _ (.int _ _), rfl⟩
      · simp [execOp, ho, resolve, invoke, builtin, hu, hv]
      · simp [Builtin.min_, Builtin.min2]
    · refine goal_quiet hC (s := Builtin.max_ ts.toArray o.type #[.int k1 a1, .int k2 a2]) ?_ ⟨.int k1 (if a2 > a1 then a2 else a1), ?_, .v _ _ (.int _ _), rfl⟩
      · simp [execOp, ho, resolve, invoke, builtin, hu, hv]
      · simp [Builtin.max_, Builtin.max2]

set_option maxHeartbeats 4000000 in
theorem aop_sound {P : Program} {Γ : FuncId → Option Spec} (hΓ : ∀ f s, Γ f = some s → SSound P f s) {G : Ghost} {φ : Name → Loc} {m : Mem} {σ : S} {a : Act} {w : World} (hC : Conc G φ m σ a w)
    (o : Oper) (t : Name) (ht : ∃ k, t = k :: σ.pre) (hc : opConds σ o.op = true) (hok : (aop P Γ σ t o.op).ok) : OpGoal P G σ a w o (aop P Γ σ t o.op) := by
  cases ho : o.op with
  | move x =>
    rw [ho] at hc hok
    refine goal_value (φ := φ) (m := m) (v := a.eval x) (w' := w) (by simp [execOp, ho]) ⟨φ, m, hC, opD_rep hC (mem_conds hc (by simp [Op.operands]))⟩
  | assign x =>
    rw [ho] at hc hok
    refine goal_value (φ := φ) (m := m) (v := a.eval x) (w' := w) (by simp [execOp, ho]) ⟨φ, m, hC, opD_rep hC (mem_conds hc (by simp [Op.operands]))⟩
  | pick c x y =>
    rw [ho] at hc hok
    simp only [opConds, Bool.and_eq_true] at hc
    obtain ⟨h1, h2⟩ := hc
    have hcr := opD_rep hC h1
    simp only [aop] at hok ⊢
    generalize opD σ c = dc at *
    unfold aPick at hok
    split at hok
    · rename_i b
      generalize he : a.eval c = u at hcr
      cases hcr with
      | v _ _ hcr =>
      cases hcr
      simp only at h2
      refine goal_value (φ := φ) (m := m) (v := if b then a.eval x else a.eval y) (w' := w) (by simp [execOp, ho, he, asBool]) ⟨φ, m, by simpa [aPick] using hC, ?_⟩
      have : RepD φ σ.obj m (if b then opD σ x else opD σ y) (if b then a.eval x else a.eval y) := by
        cases b with
        | true => exact opD_rep hC (by simpa using h2)
        | false => exact opD_rep hC (by simpa using h2)
      exact aPick_rep this
    · exact hok.elim
  | alloc T =>
    rw [ho] at hok
    refine goal_done (s := Instr.alloc T true (.tuple #[])) (by simp [execOp, ho]) (s_alloc hC hok)
  | box T x =>
    rw [ho] at hc hok
    refine goal_done (s := Instr.box T (a.eval x)) (by simp [execOp, ho]) (s_box hC (opD_rep hC (mem_conds hc (by simp [Op.operands]))) hok)
  | build T ps =>
    rw [ho] at hc hok
    obtain ⟨h1, h2⟩ := parts_rep hC (ps := ps) (fun p hp => mem_conds hc (by simp only [Op.operands, List.mem_map]; exact ⟨p, hp, rfl⟩))
    refine goal_quiet hC (s := Instr.build T (ps.map fun (i, x) => (i, a.eval x))) (by simp [execOp, ho]) (s_build w h1 h2 hok)
  | buildSlice T n ps =>
    rw [ho] at hc hok
    obtain ⟨h1, h2⟩ := parts_rep hC (ps := ps) (fun p hp => mem_conds hc (by simp only [Op.operands, List.mem_map]; exact ⟨p, hp, rfl⟩))
    refine goal_done (s := Instr.buildSlice T n (ps.map fun (i, x) => (i, a.eval x))) (by simp [execOp, ho]) (s_buildSlice hC h1 h2 hok)
  | load T x =>
    rw [ho] at hc hok
    refine goal_quiet hC (s := Instr.loadAt T (a.eval x)) (by simp [execOp, ho]) (s_load hC (opD_rep hC (mem_conds hc (by simp [Op.operands]))) hok)
  | store T x d =>
    rw [ho] at hc hok
    refine goal_unit ?_ (s := Instr.storeAt T (a.eval x) (a.eval d)) (by simp [execOp, ho]) (s_store hC (opD_rep hC (mem_conds hc (by simp [Op.operands]))) (opD_rep hC (mem_conds hc (by simp [Op.operands]))) hok)
    simp only [aop, aStore]
    (repeat' split) <;> rfl
  | nilCheck x =>
    rw [ho] at hc hok
    obtain ⟨h1, h2, h3⟩ := s_nilCheck (P := P) (ρ := a.eval) (c := x) (o := o) w (opD_rep hC (mem_conds hc (by simp [Op.operands]))) hok ho rfl
    refine goal_value (φ := φ) (m := m) h1 ⟨φ, m, ?_, ?_⟩
    · simp only [aop]; rw [h3]; exact hC
    · simp only [aop]; rw [h3]; exact h2
  | binOp op T x y yT =>
    rw [ho] at hc hok
    exact goal_quiet hC (s := do eqGuard op T x y (a.eval x) (a.eval y); binOp op T (a.eval x) (a.eval y)) (by simp [execOp, ho]) (s_bin' hC (opD_rep hC (mem_conds hc (by simp [Op.operands]))) (opD_rep hC (mem_conds hc (by simp [Op.operands]))) (fun h => by
      cases y with
      | const v => cases v with
        | slice a n c => cases a with
          | none => exact ⟨n, c, rfl⟩
          | some => cases h
        | _ => cases h
      | _ => cases h) hok)
  | unOp op T x =>
    rw [ho] at hc hok
    exact goal_quiet hC (s := Op.unary op (a.eval x)) (by simp [execOp, ho]) (s_un w (opD_rep hC (mem_conds hc (by simp [Op.operands]))) hok)
  | convert s d x =>
    rw [ho] at hc hok
    exact goal_done (s := convert s d (a.eval x)) (by simp [execOp, ho]) (s_convA hC (opD_rep hC (mem_conds hc (by simp [Op.operands]))) hok)
  | makeFunc fn f c =>
    rw [ho] at hc hok
    obtain ⟨h1, h2⟩ := list_rep hC (xs := f) (fun x hx => mem_conds hc (by simp [Op.operands, hx]))
    obtain ⟨h3, h4⟩ := list_rep hC (xs := c) (fun x hx => mem_conds hc (by simp [Op.operands, hx]))
    exact goal_value (φ := φ) (m := m) (v := .func fn (f.map a.eval) (c.map a.eval)) (w' := w) (by simp [execOp, ho, Instr.makeFunc]) ⟨φ, m, hC, .clo _ _ _ _ _ h1 h3 h2 h4⟩
  | makeMap T r =>
    rw [ho] at hc hok
    exact goal_done (s := Instr.makeMap T (r.map a.eval)) (by simp [execOp, ho]) (s_makeMap hC (by cases r <;> rfl) hok)
  | makeSlice T l c =>
    rw [ho] at hc hok
    exact goal_done (s := Instr.makeSlice T (a.eval l) (a.eval c)) (by simp [execOp, ho]) (s_makeSlice hC (opD_rep hC (mem_conds hc (by simp [Op.operands]))) (opD_rep hC (mem_conds hc (by simp [Op.operands]))) hok)
  | slice T x lo hi mx =>
    rw [ho] at hc hok
    have h0 : ∀ y, (y ∈ lo.toList ∨ y ∈ hi.toList ∨ y ∈ mx.toList ∨ y = x) → opC σ y = true := fun y hy => mem_conds hc (by
      simp only [Op.operands, Array.toList_append, List.mem_append, Option.toList_toArray]
      rcases hy with h | h | h | h
      · exact .inl (.inl (.inr h))
      · exact .inl (.inr h)
      · exact .inr h
      · exact .inl (.inl (.inl (by simp [h]))))
    exact goal_done (s := Instr.sliceAt T (a.eval x) (lo.map a.eval) (hi.map a.eval) (mx.map a.eval)) (by simp [execOp, ho])
      (s_slice hC (opD_rep hC (h0 x (by simp))) (repDs_map hC fun y hy => h0 y (.inl hy)) (repDs_map hC fun y hy => h0 y (.inr (.inl hy))) (repDs_map hC fun y hy => h0 y (.inr (.inr (.inl hy)))) hok)
  | fieldAddr T x f =>
    rw [ho] at hc hok
    exact goal_quiet hC (s := Instr.fieldAt T (a.eval x) f) (by simp [execOp, ho]) (s_fieldAddr w (opD_rep hC (mem_conds hc (by simp [Op.operands]))) hok)
  | field T x f =>
    rw [ho] at hc hok
    exact goal_quiet hC (s := Instr.field T (a.eval x) f) (by simp [execOp, ho]) (s_field w (opD_rep hC (mem_conds hc (by simp [Op.operands]))) hok)
  | indexAddr T x i =>
    rw [ho] at hc hok
    exact goal_quiet hC (s := Instr.indexAt T (a.eval x) (a.eval i)) (by simp [execOp, ho]) (s_indexAddr hC (opD_rep hC (mem_conds hc (by simp [Op.operands]))) (opD_rep hC (mem_conds hc (by simp [Op.operands]))) hok)
  | index T x i =>
    rw [ho] at hc hok
    exact goal_quiet hC (s := Instr.index T (a.eval x) (a.eval i)) (by simp [execOp, ho]) (s_index w (opD_rep hC (mem_conds hc (by simp [Op.operands]))) (opD_rep hC (mem_conds hc (by simp [Op.operands]))) hok)
  | lookup T x i co =>
    rw [ho] at hc hok
    exact goal_quiet hC (s := Instr.lookup T (a.eval x) (a.eval i) co) (by simp [execOp, ho]) (s_lookup hC (opD_rep hC (mem_conds hc (by simp [Op.operands]))) (opD_rep hC (mem_conds hc (by simp [Op.operands]))) hok)
  | mapUpdate T x k d =>
    rw [ho] at hc hok
    refine goal_unit ?_ (s := Instr.mapUpdate T (a.eval x) (a.eval k) (a.eval d)) (by simp [execOp, ho])
      (s_mapUpdate hC (opD_rep hC (mem_conds hc (by simp [Op.operands]))) (opD_rep hC (mem_conds hc (by simp [Op.operands]))) (opD_rep hC (mem_conds hc (by simp [Op.operands]))) hok)
    simp only [aop, aMapUpdate]
    (repeat' split) <;> rfl
  | insert T x k d =>
    rw [ho] at hc hok
    refine goal_unit ?_ (s := Instr.mapUpdate T (a.eval x) (a.eval k) (a.eval d)) (by simp [execOp, ho])
      (s_mapUpdate hC (opD_rep hC (mem_conds hc (by simp [Op.operands]))) (opD_rep hC (mem_conds hc (by simp [Op.operands]))) (opD_rep hC (mem_conds hc (by simp [Op.operands]))) hok)
    simp only [aop, aMapUpdate]
    (repeat' split) <;> rfl
  | extract x i =>
    rw [ho] at hc hok
    exact goal_quiet hC (s := Instr.extract (a.eval x) i) (by simp [execOp, ho]) (s_extract w (opD_rep hC (mem_conds hc (by simp [Op.operands]))) hok)
  | call c =>
    obtain ⟨callee, args, ts⟩ := c
    rw [ho] at hc hok
    cases callee with
    | builtin b =>
      exact builtin_goal hC o t b args ts ho (fun x hx => mem_conds hc (by simp [Op.operands, Call.operands, hx])) hok
    | invoke => exact hok.elim
    | value f =>
      have hf := opD_rep hC (mem_conds hc (x := f) (by simp [Op.operands, Call.operands]))
      obtain ⟨h1, h2⟩ := list_rep hC (xs := args) (fun x hx => mem_conds hc (by simp [Op.operands, Call.operands, hx]))
      simp only [aop] at hok ⊢
      generalize hu : a.eval f = u at hf
      generalize opD σ f = df at *
      unfold aCall at hok ⊢
      split at hok
      · rename_i s hs
        obtain ⟨g, hg, hsg⟩ := Option.bind_eq_some_iff.1 hs
        unfold clFn at hg
        split at hg
        · rename_i g fs cs
          split at hg
          · cases hg
          rename_i hne
          cases hg
          cases hf with
          | v _ _ hf =>
          cases hf with
          | clo _ _ _ us vs e1 e2 hr1 hr2 =>
          try simp only [hs]
          refine call_goal hΓ hC ht hne hsg (us := us ++ args.map a.eval ++ vs) (by simp [execOp, ho, resolve, Deferred.ofValue, hu, invoke]) (by simp [clArgs, e1, e2]) (fun i hi hi' => ?_) hok
          simp only [clArgs, List.length_append, List.length_map] at hi ⊢
          by_cases k1 : i < fs.length
          · have q1 : i < us.size := by omega
            simp only [List.append_assoc, Array.append_assoc]
            rw [List.getElem_append_left (by simpa using k1), Array.getElem_append_left q1]
            simp only [List.getElem_map]
            exact .v _ _ (hr1 i k1 q1)
          · by_cases k2 : i < fs.length + args.toList.length
            · simp only [List.append_assoc, Array.append_assoc]
              rw [List.getElem_append_right (by simp; omega), List.getElem_append_left (by simp at k2 ⊢; omega), Array.getElem_append_right (by omega), Array.getElem_append_left (by simp at k2 ⊢; omega)]
              have := h2 (i - fs.length) (by simp at k2 ⊢; omega) (by simp at k2 ⊢; omega)
              simp only [List.length_map, ← e1]
              exact this
            · rw [List.getElem_append_right (by simp at k2 ⊢; omega), Array.getElem_append_right (by simp at k2 ⊢; omega)]
              have := hr2 (i - (fs.length + args.size)) (by simp at hi k2; omega) (by simp at hi k2; omega)
              simp only [List.length_append, List.length_map, Array.length_toList, Array.size_append, Array.size_map, List.getElem_map, ← e1]
              exact .v _ _ this
        · rename_i g fs cs
          split at hg
          · cases hg
          rename_i hne
          cases hg
          cases hf with
          | clo _ _ _ us vs e1 e2 hr1 hr2 =>
          try simp only [hs]
          refine call_goal hΓ hC ht hne hsg (us := us ++ args.map a.eval ++ vs) (by simp [execOp, ho, resolve, Deferred.ofValue, hu, invoke]) (by simp [clArgs, e1, e2]) (fun i hi hi' => ?_) hok
          simp only [clArgs, List.length_append, List.length_map] at hi ⊢
          by_cases k1 : i < fs.length
          · have q1 : i < us.size := by omega
            simp only [List.append_assoc, Array.append_assoc]
            rw [List.getElem_append_left (by simpa using k1), Array.getElem_append_left q1]
            exact hr1 i k1 q1
          · by_cases k2 : i < fs.length + args.toList.length
            · simp only [List.append_assoc, Array.append_assoc]
              rw [List.getElem_append_right (by omega), List.getElem_append_left (by simp at k2 ⊢; omega), Array.getElem_append_right (by omega), Array.getElem_append_left (by simp at k2 ⊢; omega)]
              have := h2 (i - fs.length) (by simp at k2 ⊢; omega) (by simp at k2 ⊢; omega)
              simp only [← e1]
              exact this
            · rw [List.getElem_append_right (by simp at k2 ⊢; omega), Array.getElem_append_right (by simp at k2 ⊢; omega)]
              have := hr2 (i - (fs.length + args.size)) (by simp at hi k2; omega) (by simp at hi k2; omega)
              simp only [List.length_append, List.length_map, Array.length_toList, Array.size_append, Array.size_map, ← e1]
              exact this
        · rename_i nm
          cases hg
          cases hf with
          | yld _ hb =>
          try simp only [hs]
          exact (hΓ yid s hsg).yields rfl G φ m σ a w hC t nm (args.toList.map (opD σ)) (args.map a.eval) ht h1 h2 hb hok o (by simp [execOp, ho, resolve, Deferred.ofValue, hu, invoke])
        · cases hg
      · exact hok.elim
  | _ => rw [ho] at hok; exact hok.elim

end Go.Eng
/- The engine's fourteenth text: regions in the text's order, and the rules for code. -/
namespace Go.Eng
open Go

def gSlot (ops : Array Oper) (j : Nat) : Option Tmp := (ops[j]?).bind (·.dst)
def eTest (e : E) (want : Bool) : Bool := e.c && (match e.d with | .v (.bool b) => b == want | _ => false)
def eTestOk (e : E) : Prop := match e.d with | .v (.bool _) => True | _ => e.c = false

def gOf (ops : Array Oper) (σ : S) (o : Oper) : Bool :=
  match o.guard with
  | none => true
  | some (j, want) => match gSlot ops j with
    | some s => eTest (σ.env s) want
    | none => false
def gOk (ops : Array Oper) (σ : S) (o : Oper) : Prop :=
  match o.guard with
  | none => True
  | some (j, _) => match gSlot ops j with
    | some s => eTestOk (σ.env s) ∧ s < σ.nt
    | none => True

theorem wanted_of {G : Ghost} {φ : Name → Loc} {m : Mem} {σ : S} {a : Act} {w : World} (hC : Conc G φ m σ a w) {ops : Array Oper} {o : Oper} (h : gOk ops σ o) :
    Region.wanted o (yielded ops a.tmps) = gOf ops σ o := by
  unfold Region.wanted gOf
  unfold gOk at h
  cases hg : o.guard with
  | none => rfl
  | some p =>
    obtain ⟨j, want⟩ := p
    simp only [hg] at h ⊢
    unfold yielded
    unfold gSlot at h ⊢
    cases hs : (ops[j]?).bind (·.dst) with
    | none => rfl
    | some s =>
      simp only [hs] at h ⊢
      obtain ⟨h, hlt⟩ := h
      have ht := hC.tmps s
      have hlt' : s < a.tmps.size := by rw [hC.size]; exact hlt
      have e0 : a.tmps.getD s undef = a.tmps[s] := by simp [Array.getD, hlt']
      rw [e0] at ht
      simp only [Option.bind_some, Array.getElem?_eq_getElem hlt']
      unfold eTest
      unfold eTestOk at h
      unfold RepE at ht
      generalize a.tmps[s] = u at *
      generalize σ.env s = e at *
      obtain ⟨c, d⟩ := e
      simp only at h ht ⊢
      cases c with
      | false =>
        simp only [Bool.false_eq_true, if_false] at ht
        subst ht
        simp [undef]
      | true =>
        simp only [if_true] at ht
        split at h
        · cases ht with
          | v _ _ ht => cases ht; simp
        · cases h

def stepS (P : Program) (Γ : FuncId → Option Spec) (ops : Array Oper) (σ : S) (o : Oper) : S :=
  ⟨σ.nt, match o.dst with
    | some t => upd σ.env t ⟨gOf ops σ o, (aop P Γ σ ((σ.base + t) :: σ.pre) o.op).d⟩
    | none => σ.env, if gOf ops σ o = true then (aop P Γ σ ((σ.base + o.dst.getD 0) :: σ.pre) o.op).obj else σ.obj, σ.pre, σ.base⟩
def oblS (P : Program) (Γ : FuncId → Option Spec) (ops : Array Oper) (σ : S) (o : Oper) : Prop :=
  gOk ops σ o ∧ (match o.dst with | some t => t < σ.nt | none => True) ∧ (gOf ops σ o = true → opConds σ o.op = true ∧ (aop P Γ σ ((σ.base + o.dst.getD 0) :: σ.pre) o.op).ok)

/-- A region, operation by operation. -/
def Reg (P : Program) (Γ : FuncId → Option Spec) (ops : Array Oper) : List Oper → S → (S → Prop) → Prop
  | [], σ, K => K σ
  | o :: r, σ, K => oblS P Γ ops σ o ∧ Reg P Γ ops r (stepS P Γ ops σ o) K

theorem step_sound {P : Program} {Γ : FuncId → Option Spec} (hΓ : ∀ f s, Γ f = some s → SSound P f s) {G : Ghost} {φ : Name → Loc} {m : Mem} {σ : S} {a : Act} {w : World} (hC : Conc G φ m σ a w)
    {ops : Array Oper} {i : Nat} {o : Oper} (hi : ops[i]? = some o) (h : oblS P Γ ops σ o) {K : Act → World → Prop} {Q : Exit → Act → World → Prop}
    (hK : ∀ a' w' φ' m', Conc G φ' m' (stepS P Γ ops σ o) a' w' → K a' w') : wpOpIn (fen G.rd) 0 P ops Q i K a w := by
  obtain ⟨h1, h2, h3⟩ := h
  unfold wpOpIn
  simp only [hi, wanted_of hC h1]
  cases hg : gOf ops σ o with
  | true =>
    simp only [if_true]
    obtain ⟨h4, h5⟩ := h3 hg
    refine ⟨fun _ _ => trivial, ?_⟩
    rw [Oper.semAt_eq _ _ _ (aop_noDefer h5)]
    refine (aop_sound hΓ hC o ((σ.base + o.dst.getD 0) :: σ.pre) ⟨_, rfl⟩ h4 h5 _ _ fun v φ' m' w' hC' hr => hK _ _ φ' m' ?_)
    unfold stepS
    rw [hg]
    cases hd : o.dst with
    | none => simpa [hd, Act.put] using hC'
    | some t =>
      simp only [hd] at h2
      simp only [hd, Option.getD_some, if_true] at hC' hr ⊢
      refine hC'.put (e := ⟨true, _⟩) h2 ?_
      unfold RepE
      simpa using hr
  | false =>
    simp only [Bool.false_eq_true, if_false]
    refine ⟨fun _ _ => trivial, hK _ _ φ m ?_⟩
    unfold stepS
    rw [hg]
    cases hd : o.dst with
    | none => simpa [hd, Act.put] using hC
    | some t =>
      simp only [hd] at h2
      simp only [Bool.false_eq_true, if_false]
      refine hC.put (e := ⟨false, _⟩) h2 ?_
      unfold RepE
      simp

theorem reg_sound {P : Program} {Γ : FuncId → Option Spec} (hΓ : ∀ f s, Γ f = some s → SSound P f s) {G : Ghost} {ops : Array Oper} {Q : Exit → Act → World → Prop} {K : S → Prop} :
    ∀ (n k : Nat) {φ : Name → Loc} {m : Mem} {σ : S} {a : Act} {w : World}, k + n = ops.size → Conc G φ m σ a w → Reg P Γ ops (ops.toList.drop k) σ K →
      (∀ a' w' φ' m' σ', Conc G φ' m' σ' a' w' → K σ' → Q .normal a' w') → wpOpsIn (fen G.rd) 0 P ops Q (List.range' k n) a w
  | 0, k, φ, m, σ, a, w, hk, hC, hr, hQ => by
    have : ops.toList.drop k = [] := List.drop_eq_nil_of_le (by simp; omega)
    rw [this] at hr
    exact hQ _ _ φ m σ hC hr
  | n + 1, k, φ, m, σ, a, w, hk, hC, hr, hQ => by
    have hlt : k < ops.size := by omega
    have hd : ops.toList.drop k = ops[k] :: ops.toList.drop (k + 1) := by
      rw [List.drop_eq_getElem_cons (by simpa using hlt)]; simp
    rw [hd] at hr
    obtain ⟨h1, h2⟩ := hr
    rw [List.range'_succ, wpOpsIn_cons]
    exact step_sound hΓ hC (Array.getElem?_eq_getElem hlt) h1 fun a' w' φ' m' hC' => reg_sound hΓ n (k + 1) (by omega) hC' h2 hQ

/-! code -/

def CW (P : Program) (c : Code) (σ : S) (K : Exit → S → Prop) : Prop :=
  ∀ (G : Ghost) (φ : Name → Loc) (m : Mem) (a : Act) (w : World), Conc G φ m σ a w → c.wpIn (fen G.rd) 0 P (fun e a' w' => ∃ φ' m' σ', Conc G φ' m' σ' a' w' ∧ K e σ') a w

def thenK (k : S → Prop) (K : Exit → S → Prop) : Exit → S → Prop
  | .normal, σ => k σ
  | e, σ => K e σ
def blockK (id : Nat) (K : Exit → S → Prop) : Exit → S → Prop
  | .exit id', σ => if id' = id then K .normal σ else K (.exit id') σ
  | e, σ => K e σ

theorem CW.mono {P : Program} {c : Code} {σ : S} {K K' : Exit → S → Prop} (h : CW P c σ K) (hk : ∀ e σ', K e σ' → K' e σ') : CW P c σ K' :=
  fun G φ m a w hC => wpIn_mono (h G φ m a w hC) fun e a' w' ⟨φ', m', σ', h1, h2⟩ => ⟨φ', m', σ', h1, hk _ _ h2⟩

theorem cw_seq {P : Program} {x y : Code} {σ : S} {K : Exit → S → Prop} (h : CW P x σ (thenK (fun σ' => CW P y σ' K) K)) : CW P (.seq x y) σ K := by
  intro G φ m a w hC
  refine wpIn_seq (wpIn_mono (h G φ m a w hC) ?_)
  rintro e a' w' ⟨φ', m', σ', h1, h2⟩
  cases e with
  | normal => exact h2 G φ' m' a' w' h1
  | _ => exact ⟨φ', m', σ', h1, h2⟩

theorem cw_skip {P : Program} {σ : S} {K : Exit → S → Prop} (h : K .normal σ) : CW P .skip σ K :=
  fun G φ m a w hC => wpIn_skip ⟨φ, m, σ, hC, h⟩
theorem cw_exit {P : Program} {id : Nat} {σ : S} {K : Exit → S → Prop} (h : K (.exit id) σ) : CW P (.exit id) σ K :=
  fun G φ m a w hC => wpIn_exit ⟨φ, m, σ, hC, h⟩
theorem cw_ret {P : Program} {σ : S} {K : Exit → S → Prop} (h : K .ret σ) : CW P .ret σ K :=
  fun G φ m a w hC => wpIn_ret ⟨φ, m, σ, hC, h⟩

theorem cw_label {P : Program} {l : Nat} {σ : S} {K : Exit → S → Prop} (h : K .normal σ) : CW P (.label l) σ K :=
  fun G φ m a w hC => wpIn_label ⟨φ, m, σ, hC, h⟩

section
variable {P : Program} {b : Frame} {a : Act} {k : List Item} {cs : List Frame} {w : World}
theorem stepR_scope {c : Code} : step P (lone (b.atR a (.code (.scope c) :: k)) cs w) = .next (lone (b.atR a (.code c :: .inScope c :: k)) cs w) :=
  step_lone_go (by simp [stepG, stepG.exec, Frame.atR])
theorem stepR_inScope {c : Code} : step P (lone (b.atR a (.inScope c :: k)) cs w) = .next (lone (b.atR a k) cs w) :=
  step_lone_go (by simp [stepG, stepG.exec, Frame.atR])
end

/-- A scope that nobody jumps in. -/
theorem cw_scope {P : Program} {c : Code} {σ : S} {K : Exit → S → Prop} (hng : ∀ l σ', ¬ K (.goto l) σ') (h : CW P c σ K) : CW P (.scope c) σ K := by
  intro G φ m a w hC b k cs hro hb hr
  have h0 : (lone (b.atR a (.code (.scope c) :: k)) cs w).fenced P (fen G.rd) := fenced_calm hb hr rfl
  obtain ⟨e, a₁, w₁, ⟨φ', m', σ', h1, h2⟩, harr⟩ := h G φ m a w hC b (.inScope c :: k) cs hro hb hr
  cases e with
  | normal => exact ⟨.normal, a₁, w₁, ⟨φ', m', σ', h1, h2⟩, .head h0 stepR_scope (StepsIn.trans harr (.one (fenced_calm hb hr rfl) stepR_inScope))⟩
  | exit id =>
    have hx : exitTo id (.inScope c :: k) = exitTo id k := by simp [exitTo]
    exact ⟨.exit id, a₁, w₁, ⟨φ', m', σ', h1, h2⟩, fun k' hk => .head h0 stepR_scope (harr.1 k' (by rw [hx]; exact hk)),
      fun hr' hk => let ⟨k₁, h1, h2⟩ := harr.2 hr' (by rw [hx]; exact hk); ⟨k₁, h1, .head h0 stepR_scope h2⟩⟩
  | goto l => exact (hng l σ' h2).elim
  | ret => exact ⟨_, a₁, w₁, ⟨φ', m', σ', h1, h2⟩, .of_steps (.one h0 stepR_scope) harr⟩
  | panic ch => exact ⟨_, a₁, w₁, ⟨φ', m', σ', h1, h2⟩, .of_steps (.one h0 stepR_scope) harr⟩
  | outgrown => exact ⟨_, a₁, w₁, ⟨φ', m', σ', h1, h2⟩, .of_steps (.one h0 stepR_scope) harr⟩

theorem cw_cond {P : Program} {c : Operand} {x y : Code} {σ : S} {K : Exit → S → Prop} {b : Bool} (hc : opC σ c = true) (hd : opD σ c = .v (.bool b))
    (ht : b = true → CW P x σ K) (hf : b = false → CW P y σ K) : CW P (.cond c x y) σ K := by
  intro G φ m a w hC
  have hr := opD_rep hC hc
  rw [hd] at hr
  have he : a.eval c = .bool b := by
    generalize a.eval c = u at hr
    cases hr with | v _ _ hr => cases hr; rfl
  exact wpIn_cond_split he (fun e => ht e G φ m a w hC) (fun e => hf e G φ m a w hC)

theorem cw_block {P : Program} {id : Nat} {c : Code} {σ : S} {K : Exit → S → Prop} (h : CW P c σ (blockK id K)) : CW P (.block id c) σ K := by
  intro G φ m a w hC
  refine wpIn_block (wpIn_mono (h G φ m a w hC) ?_)
  rintro e a' w' ⟨φ', m', σ', h1, h2⟩
  cases e with
  | exit id' =>
    simp only [Exit.inBlock]
    simp only [blockK] at h2
    split <;> rename_i hid
    · rw [if_pos hid] at h2; exact ⟨φ', m', σ', h1, h2⟩
    · rw [if_neg hid] at h2; exact ⟨φ', m', σ', h1, h2⟩
  | _ => exact ⟨φ', m', σ', h1, h2⟩

/-- Something is forgotten. -/
def Weak (σ σ' : S) : Prop :=
  ∀ (G : Ghost) (φ : Name → Loc) (m : Mem) (a : Act) (w : World), Conc G φ m σ a w → ∃ φ', Conc G φ' m σ' a w

theorem cw_weak {P : Program} {c : Code} {σ σ' : S} {K : Exit → S → Prop} (hw : Weak σ σ') (h : CW P c σ' K) : CW P c σ K := by
  intro G φ m a w hC
  obtain ⟨φ', hC'⟩ := hw G φ m a w hC
  exact h G φ' m a w hC'

theorem cw_loop {P : Program} {c : Code} {σ : S} {K : Exit → S → Prop} {ι : Type} (I : ι → S) (R : ι → Prop) (μ : ι → Nat) (i0 : ι) (hR : R i0) (h0 : Weak σ (I i0))
    (round : ∀ i, R i → CW P c (I i) (thenK (fun σ' => ∃ i', R i' ∧ μ i' < μ i ∧ Weak σ' (I i')) K)) : CW P (.loop c) σ K := by
  intro G φ m a w hC
  obtain ⟨φ0, hC0⟩ := h0 G φ m a w hC
  intro b k cs hro hb hr
  have key : ∀ n i, μ i = n → R i → ∀ φ m a w, Conc G φ m (I i) a w →
      ∃ e a' w', (∃ φ' m' σ', Conc G φ' m' σ' a' w' ∧ K e σ') ∧ ArrivesIn (Machine.fenced P (fen G.rd)) P (lone (b.atR a (.code c :: .inLoop c :: k)) cs w) b k cs e a' w' := by
    intro n
    induction n using Nat.strongRecOn with
    | _ n ih =>
      intro i hn hi φ m a w hC
      obtain ⟨e, a₁, w₁, hq, harr⟩ := round i hi G φ m a w hC b (.inLoop c :: k) cs hro hb hr
      obtain ⟨φ', m', σ', h1, h2⟩ := hq
      cases e with
      | normal =>
        obtain ⟨i', hi', hlt, hw⟩ := h2
        obtain ⟨φ'', hC''⟩ := hw G φ' m' a₁ w₁ h1
        obtain ⟨e₂, a₂, w₂, hq₂, harr₂⟩ := ih (μ i') (hn ▸ hlt) i' rfl hi' φ'' m' a₁ w₁ hC''
        exact ⟨e₂, a₂, w₂, hq₂, .of_steps (StepsIn.trans harr (.one (fenced_calm hb hr rfl) stepR_inLoop)) harr₂⟩
      | exit id => exact ⟨_, a₁, w₁, ⟨φ', m', σ', h1, h2⟩, .pass (x := .inLoop c) rfl (fun _ _ => .inl (by simp)) harr⟩
      | goto l => exact ⟨_, a₁, w₁, ⟨φ', m', σ', h1, h2⟩, .pass (x := .inLoop c) rfl (fun _ _ => .inl (by simp)) harr⟩
      | ret => exact ⟨_, a₁, w₁, ⟨φ', m', σ', h1, h2⟩, .pass (x := .inLoop c) rfl (fun _ _ => .inl (by simp)) harr⟩
      | panic ch => exact ⟨_, a₁, w₁, ⟨φ', m', σ', h1, h2⟩, .pass (x := .inLoop c) rfl (fun _ _ => .inl (by simp)) harr⟩
      | outgrown => exact ⟨_, a₁, w₁, ⟨φ', m', σ', h1, h2⟩, .pass (x := .inLoop c) rfl (fun _ _ => .inl (by simp)) harr⟩
  obtain ⟨e, a', w', hq, harr⟩ := key _ i0 rfl hR φ0 m a w hC0
  exact ⟨e, a', w', hq, .of_steps (.one (fenced_calm hb hr rfl) stepR_loop) harr⟩

theorem cw_region {P : Program} {Γ : FuncId → Option Spec} (hΓ : ∀ f s, Γ f = some s → SSound P f s) {id : Nat} {l : List Oper} {σ : S} {K : Exit → S → Prop}
    (h : ∀ K' : S → Prop, (∀ σ', K .normal σ' → K' σ') → Reg P Γ l.toArray l σ K') : CW P (.region id l.toArray false) σ K := by
  intro G φ m a w hC
  refine wpIn_region ?_
  rw [List.range_eq_range']
  refine reg_sound hΓ (ops := l.toArray) l.toArray.size 0 (by simp) hC (K := K .normal) (by simpa using h (K .normal) fun _ h => h) fun a' w' φ' m' σ' hC' hK => ⟨φ', m', σ', hC', hK⟩

end Go.Eng
/- The engine's fifteenth text: from a body's rule to a function's contract; what may be forgotten. -/
namespace Go.Eng
open Go

/-! what may be forgotten -/

mutual
def D.clos (dom : Name → Bool) : D → Bool
  | .ref nm _ => dom nm
  | .msl nm _ => dom nm
  | .aref nm _ _ _ => dom nm
  | .map nm => dom nm
  | .yld nm => dom nm
  | .clo _ f c => D.closL dom f && D.closL dom c
  | .agg l => D.closL dom l
  | .tup l => D.closL dom l
  | _ => true
def D.closL (dom : Name → Bool) : List D → Bool
  | [] => true
  | d :: r => D.clos dom d && D.closL dom r
end

theorem closL_mem {dom : Name → Bool} : ∀ {l : List D} {i : Nat} (h : i < l.length), D.closL dom l = true → D.clos dom l[i] = true
  | d :: r, 0, _, hc => by simp only [D.closL, Bool.and_eq_true] at hc; exact hc.1
  | d :: r, i + 1, h, hc => by simp only [D.closL, Bool.and_eq_true] at hc; exact closL_mem (l := r) (by simpa using h) hc.2

theorem RepD.drop {φ : Name → Loc} {obj obj' : Name → Option O} {m : Mem} {dom : Name → Bool} (ho : ∀ nm, dom nm = true → obj' nm = obj nm) {d : D} {u : Value} (h : RepD φ obj m d u)
    (hc : D.clos dom d = true) : RepD φ obj' m d u := by
  induction h with
  | any u => exact .any u
  | v x u h => exact .v x u h
  | nilsl a => exact .nilsl a
  | nilmap => exact .nilmap
  | ref nm off h => simp only [D.clos] at hc; exact .ref nm off (by unfold isBox; rw [ho _ hc]; exact h)
  | map nm h => simp only [D.clos] at hc; exact .map nm (by unfold isBox; rw [ho _ hc]; exact h)
  | yld nm h => simp only [D.clos] at hc; exact .yld nm (by unfold isBox; rw [ho _ hc]; exact h)
  | msl nm k u h hu => simp only [D.clos] at hc; exact .msl nm k u (by rw [ho _ hc]; exact h) hu
  | aref nm k i off u h hu => simp only [D.clos] at hc; exact .aref nm k i off u (by rw [ho _ hc]; exact h) hu
  | clo fn fs cs us vs h1 h2 hr1 hr2 ih1 ih2 =>
    simp only [D.clos, Bool.and_eq_true] at hc
    exact .clo fn fs cs us vs h1 h2 (fun i a b => ih1 i a b (closL_mem a hc.1)) fun i a b => ih2 i a b (closL_mem a hc.2)
  | agg l us h ho' hr ih => simp only [D.clos] at hc; exact .agg l us h ho' fun i a b => ih i a b (closL_mem a hc)
  | tup l us h hr ih => simp only [D.clos] at hc; exact .tup l us h fun i a b => ih i a b (closL_mem a hc)

def O.clos (dom : Name → Bool) : O → Bool
  | .box cs => D.closL dom cs
  | .loop env _ _ _ _ _ => D.closL dom (env.map (·.d))
  | _ => true

mutual
theorem clos_imp {dom dom' : Name → Bool} (hd : ∀ nm, dom nm = true → dom' nm = true) : ∀ d : D, D.clos dom d = true → D.clos dom' d = true
  | .ref nm _, hc => hd nm hc
  | .msl nm _, hc => hd nm hc
  | .aref nm _ _ _, hc => hd nm hc
  | .map nm, hc => hd nm hc
  | .yld nm, hc => hd nm hc
  | .clo _ f c, hc => by
    simp only [D.clos, Bool.and_eq_true] at hc ⊢
    exact ⟨closL_imp hd f hc.1, closL_imp hd c hc.2⟩
  | .agg l, hc => by simp only [D.clos] at hc ⊢; exact closL_imp hd l hc
  | .tup l, hc => by simp only [D.clos] at hc ⊢; exact closL_imp hd l hc
  | .v _, _ => by simp only [D.clos]
  | .nilsl, _ => by simp only [D.clos]
  | .nilmap, _ => by simp only [D.clos]
  | .any, _ => by simp only [D.clos]
theorem closL_imp {dom dom' : Name → Bool} (hd : ∀ nm, dom nm = true → dom' nm = true) : ∀ l : List D, D.closL dom l = true → D.closL dom' l = true
  | [], _ => by simp only [D.closL]
  | d :: r, hc => by
    simp only [D.closL, Bool.and_eq_true] at hc ⊢
    exact ⟨clos_imp hd d hc.1, closL_imp hd r hc.2⟩
end
theorem O.clos_imp {dom dom' : Name → Bool} (hd : ∀ nm, dom nm = true → dom' nm = true) {o : O} (h : O.clos dom o = true) : O.clos dom' o = true := by
  cases o with
  | box cs => exact closL_imp hd cs h
  | loop env => exact closL_imp hd _ h
  | _ => rfl

def eAny : E := ⟨true, .any⟩
/-- A state written out: the frame's name, what lies outside of it, entries of the frame, its own objects. -/
def mkS (nt : Nat) (p : Name) (H : Name → Option O) (l : List (Nat × E)) (h : List (Name × O)) : S :=
  ⟨nt, ofL eAny l, fun nm => if own p nm = true then ofL none (h.map fun q => (q.1, some q.2)) nm else H nm, p, 0⟩
def domOf (p : Name) (h : List (Name × O)) (nm : Name) : Bool := !own p nm || h.any fun q => q.1 == nm
/-- What lies outside speaks of nothing that is forgotten. -/
def OutC (p : Name) (dom : Name → Bool) (H : Name → Option O) : Prop := ∀ nm o, own p nm = false → H nm = some o → O.clos dom o = true

/-- The state written out says nothing that the other one does not say. -/
structure Fits (σ : S) (p : Name) (H : Name → Option O) (l : List (Nat × E)) (h : List (Name × O)) : Prop where
  pre : σ.pre = p
  out : ∀ nm, own p nm = false → σ.obj nm = H nm
  env : ∀ q ∈ l, σ.env q.1 = q.2
  obj : ∀ q ∈ h, σ.obj q.1 = some q.2
  envc : (l.all fun q => D.clos (domOf p h) q.2.d) = true
  objc : (h.all fun q => O.clos (domOf p h) q.2) = true
  outc : OutC p (domOf p h) H

theorem ofL_cases {α β : Type} [DecidableEq α] {z : β} : ∀ (l : List (α × β)) (x : α), ofL z l x = z ∨ (x, ofL z l x) ∈ l
  | [], x => .inl rfl
  | (a, b) :: r, x => by
    simp only [ofL]
    split
    · rename_i h; subst h; exact .inr (by simp)
    · rcases ofL_cases r x with h | h
      · exact .inl h
      · exact .inr (List.mem_cons_of_mem _ h)

theorem Fits.dom {σ : S} {p : Name} {H : Name → Option O} {l : List (Nat × E)} {h : List (Name × O)} (hf : Fits σ p H l h) : ∀ nm, domOf p h nm = true → (mkS σ.nt p H l h).obj nm = σ.obj nm := by
  intro nm hd
  simp only [domOf, Bool.or_eq_true, Bool.not_eq_true', List.any_eq_true, beq_iff_eq] at hd
  cases ho : own p nm with
  | false =>
    simp only [mkS, ho, Bool.false_eq_true, if_false]
    exact (hf.out nm ho).symm
  | true =>
  rw [ho] at hd
  simp only [Bool.true_eq_false, false_or] at hd
  obtain ⟨q, hq, rfl⟩ := hd
  rw [hf.obj q hq]
  simp only [mkS, ho, if_true]
  have key : ∀ (h' : List (Name × O)), (∀ r ∈ h', r ∈ h) → q ∈ h' → ofL none (h'.map fun q => (q.1, some q.2)) q.1 = some q.2 := by
    intro h' hs hp'
    induction h' with
    | nil => simp at hp'
    | cons r rs ih =>
      simp only [List.map_cons, ofL]
      split
      · rename_i e
        have h1 := hf.obj r (hs r (by simp))
        have h2 := hf.obj q hq
        rw [← e] at h1
        rw [h1] at h2
        exact h2
      · rename_i e
        rcases List.mem_cons.1 hp' with h1 | h1
        · subst h1; exact (e rfl).elim
        · exact ih (fun r hr => hs r (by simp [hr])) h1
  exact key h (fun _ h => h) hq

theorem Fits.conc {σ : S} {p : Name} {H : Name → Option O} {l : List (Nat × E)} {h : List (Name × O)} (hf : Fits σ p H l h) {G : Ghost} {φ : Name → Loc} {m : Mem} {a : Act} {w : World} (hC : Conc G φ m σ a w) :
    Conc G φ m (mkS σ.nt p H l h) a w := by
  have hobj : ∀ nm o, (mkS σ.nt p H l h).obj nm = some o → σ.obj nm = some o ∧ O.clos (domOf p h) o = true := by
    intro nm o hn
    simp only [mkS] at hn
    split at hn
    · rcases ofL_cases (z := (none : Option O)) (h.map fun q => (q.1, some q.2)) nm with h1 | h1
      · rw [h1] at hn; cases hn
      · rw [hn] at h1
        simp only [List.mem_map, Prod.mk.injEq, Option.some.injEq] at h1
        obtain ⟨q, hq, h2, h3⟩ := h1
        have := hf.obj q hq
        rw [h2, h3] at this
        have h5 := List.all_eq_true.1 hf.objc q hq
        rw [h3] at h5
        exact ⟨this, h5⟩
    · rename_i ho
      have ho' : own p nm = false := by simpa using ho
      exact ⟨(hf.out nm ho').trans hn, hf.outc nm o ho' hn⟩
  have hdom := hf.dom
  have hholds : ∀ nm, holds φ (mkS σ.nt p H l h).obj nm → holds φ σ.obj nm := fun nm ⟨o, h1, h2, h3⟩ => ⟨o, (hobj nm o h1).1, h2, h3⟩
  constructor
  · intro t
    rcases ofL_cases (z := eAny) l t with h1 | h1
    · show RepE φ _ m (ofL eAny l t) _
      rw [h1]; unfold RepE eAny; simp; exact .any _
    · show RepE φ _ m (ofL eAny l t) _
      have h2 := hf.env _ h1
      have h3 := List.all_eq_true.1 hf.envc _ h1
      have h4 := hC.tmps t
      simp only at h2 h3
      rw [h2] at h4
      unfold RepE at h4 ⊢
      split
      · rename_i hc
        rw [if_pos hc] at h4
        exact h4.drop hdom h3
      · rename_i hc
        rw [if_neg hc] at h4; exact h4
  · exact hC.size
  · exact hC.defers
  · intro nm o hn
    obtain ⟨h1, h4⟩ := hobj nm o hn
    have h3 := hC.objs nm o h1
    cases o with
    | box cs =>
      obtain ⟨g0, g1, g2, us, T, f, g3, g4, g5, g6⟩ := h3
      simp only [O.clos] at h4
      exact ⟨g0, g1, g2, us, T, f, g3, g4, g5, fun i a b => (g6 i a b).drop hdom (closL_mem a h4)⟩
    | loop env ps asg body st pend =>
      obtain ⟨g0, g1, r, g2, g3, g4, g5, g6, g7, g8, g9⟩ := h3
      simp only [O.clos] at h4
      refine ⟨g0, g1, r, g2, g3, g4, g5, g6, g7, g8, fun i a => ?_⟩
      have g10 := g9 i a
      unfold RepE at g10 ⊢
      split
      · rename_i hc
        rw [if_pos hc] at g10
        refine g10.drop hdom ?_
        have := closL_mem (l := env.map (·.d)) (i := i) (by simpa using a) h4
        simpa using this
      · rename_i hc
        rwa [if_neg hc] at g10
    | arr => exact h3
    | map => exact h3
    | fbox => exact h3
    | farr => exact h3
    | dead => exact h3
  · exact hC.mem
  · exact fun nm hn => hC.apart nm (hholds nm hn)
  · exact fun x y hx hy e => hC.inj x y (hholds x hx) (hholds y hy) e
  · exact fun nm hn => hC.own nm (hholds nm hn)
  · exact hC.fr
  · exact hC.fresh
  · refine ⟨fun nm o h5 => hC.kept.1 nm o h5 |> fun h6 => by rw [hf.pre] at h6; exact h6, fun nm o h5 => ?_⟩
    obtain ⟨o', h6, h7⟩ := hC.kept.2 nm o h5
    have h8 := hC.kept.1 nm o h5
    rw [hf.pre] at h8
    refine ⟨o', ?_, h7⟩
    simp only [mkS, h8, Bool.false_eq_true, if_false]
    rw [← hf.out nm h8]
    exact h6

theorem Fits.weak {σ : S} {p : Name} {H : Name → Option O} {l : List (Nat × E)} {h : List (Name × O)} (hf : Fits σ p H l h) : Weak σ (mkS σ.nt p H l h) :=
  fun _ φ _ _ _ hC => ⟨φ, hf.conc hC⟩

/-- A nil slice in the frame gets an object of its own. -/
theorem weak_ghost {σ : S} (t : Nat) (nm : Name) (sz : Nat) (he : σ.env t = ⟨true, .nilsl⟩) (hn : σ.obj nm = none) :
    Weak σ ⟨σ.nt, upd σ.env t ⟨true, .msl nm 0⟩, upd σ.obj nm (some (.arr sz [])), σ.pre, σ.base⟩ := by
  intro G φ m a w hC
  have ht := hC.tmps t
  rw [he] at ht
  unfold RepE at ht
  simp only [if_true] at ht
  generalize hu : a.tmps.getD t undef = u at ht
  cases ht with
  | nilsl b =>
  have hx := Ext.new (φ := φ) hn ⟨0, 0, 0, true, b⟩ (.arr sz [])
  have hC' := hC.chg (w' := w) nm (.arr sz []) ⟨0, 0, 0, true, b⟩ hx ⟨rfl, rfl, rfl, Nat.le_refl _⟩ (fun _ _ _ => rfl) (fun h => by cases h) (.inl ⟨rfl, rfl⟩)
  refine ⟨_, { hC' with tmps := fun x => ?_ }⟩
  by_cases hxt : x = t
  · subst hxt
    simp only [upd_same]
    rw [hu]
    unfold RepE
    simp only [if_true]
    refine .msl _ _ _ ⟨_, _, upd_same _ _ _, rfl, by simp, fun _ => ?_⟩ rfl
    rw [upd_same]; rfl
  · have := hC'.tmps x
    simp only [upd_ne _ _ _ hxt]
    exact this

/-! bodies -/

def resD (P : Program) (σ : S) : ResultVar → R
  | .tmp t => ⟨(σ.env t).c = true, (σ.env t).d, σ.obj⟩
  | .cell a T => ⟨(σ.env a).c = true ∧ (match (σ.env a).d with | .ref _ _ => True | .v (.ptr _) => True | _ => False) ∧ (aLoad P σ.obj T (σ.env a).d).ok, (aLoad P σ.obj T (σ.env a).d).d, σ.obj⟩

def resAll (P : Program) (σ : S) (rs : List ResultVar) : R :=
  match rs with
  | [r] => resD P σ r
  | rs => ⟨∀ r ∈ rs, (resD P σ r).ok, .tup (rs.map fun r => (resD P σ r).d), σ.obj⟩

/-- What a body must come to: its results, frozen, are the datum. -/
def retK (P : Program) (rs : List ResultVar) (y : V) : Exit → S → Prop
  | .normal, σ => (resAll P σ rs).ok ∧ (frz 6 σ.obj (resAll P σ rs).d).ok ∧ (frz 6 σ.obj (resAll P σ rs).d).x = y
  | .ret, σ => (resAll P σ rs).ok ∧ (frz 6 σ.obj (resAll P σ rs).d).ok ∧ (frz 6 σ.obj (resAll P σ rs).d).x = y
  | _, _ => False

def argsL : Nat → List V → List (Nat × E)
  | _, [] => []
  | k, x :: r => (k, ⟨true, .v x⟩) :: argsL (k + 1) r

theorem argsL_mem : ∀ {k : Nat} {xs : List V} {t : Nat} {e : E}, (t, e) ∈ argsL k xs → ∃ (i : Nat) (h : i < xs.length), t = k + i ∧ e = ⟨true, .v xs[i]⟩
  | k, [], t, e, h => by simp [argsL] at h
  | k, x :: r, t, e, h => by
    simp only [argsL, List.mem_cons, Prod.mk.injEq] at h
    rcases h with ⟨rfl, rfl⟩ | h
    · exact ⟨0, by simp, rfl, rfl⟩
    · obtain ⟨i, hi, h1, h2⟩ := argsL_mem h
      exact ⟨i + 1, by simpa using hi, by omega, by simpa using h2⟩

def rdR (tmps : Array Value) : ResultVar → Sem Value
  | .tmp t => pure (tmps.getD t undef)
  | .cell b T => do loadVar T (← asAddr (tmps.getD b undef))

theorem results_eq (fn : Func) (tmps : Array Value) : results fn tmps = (do
    let vs ← fn.results.mapM (rdR tmps)
    pure (if h : vs.size = 1 then vs[0] else .tuple vs)) := by
  unfold results
  have e : (fun r : ResultVar => (match r with
      | .tmp t => pure (tmps.getD t undef)
      | .cell a t => do loadVar t (← asAddr (tmps.getD a undef)) : Sem Value)) = rdR tmps := by
    funext r
    cases r <;> rfl
  rw [← e]
  rfl

theorem res_run {P : Program} {G : Ghost} {φ : Name → Loc} {m : Mem} {σ : S} {a : Act} {w : World} (hC : Conc G φ m σ a w) (r : ResultVar) (hok : (resD P σ r).ok) :
    ∃ v, (rdR a.tmps r).run P w = .ok v w ∧ RepD φ σ.obj m (resD P σ r).d v := by
  cases r with
  | tmp t =>
    have := hC.tmps t
    unfold RepE at this
    simp only [resD] at hok
    rw [if_pos hok] at this
    exact ⟨_, rfl, this⟩
  | cell b T =>
    simp only [resD] at hok ⊢
    obtain ⟨h1, h2, h3⟩ := hok
    have ht := hC.tmps b
    unfold RepE at ht
    rw [if_pos h1] at ht
    have hrd : rdR a.tmps (.cell b T) = (do loadVar T (← asAddr (a.tmps.getD b undef))) := rfl
    rw [hrd]
    generalize a.tmps.getD b undef = u at *
    obtain ⟨v, h4, h5, _⟩ := s_load hC ht h3
    refine ⟨v, ?_, h5⟩
    generalize (σ.env b).d = d at *
    cases ht with
    | ref => simpa [Instr.loadAt, Instr.sureAddr, asAddr] using h4
    | v _ _ hv =>
      cases hv with
      | ptr => simpa [Instr.loadAt, Instr.sureAddr, asAddr] using h4
      | _ => exact h2.elim
    | _ => exact h2.elim

theorem results_run {P : Program} {G : Ghost} {φ : Name → Loc} {m : Mem} {σ : S} {a : Act} {w : World} (hC : Conc G φ m σ a w) (fn : Func) (hok : (resAll P σ fn.results.toList).ok) :
    ∃ v, (results fn a.tmps).run P w = .ok v w ∧ RepD φ σ.obj m (resAll P σ fn.results.toList).d v := by
  have hmap : ∀ (rs : List ResultVar), (∀ r ∈ rs, (resD P σ r).ok) →
      ∃ vs : List Value, (rs.mapM (rdR a.tmps)).run P w = .ok vs w ∧ vs.length = rs.length ∧
        ∀ i (h : i < rs.length) (h' : i < vs.length), RepD φ σ.obj m (resD P σ rs[i]).d vs[i] := by
    intro rs
    induction rs with
    | nil => intro _; exact ⟨[], rfl, rfl, fun i h => by simp at h⟩
    | cons r rs ih =>
      intro h
      obtain ⟨v, h1, h2⟩ := res_run hC r (h r (by simp))
      obtain ⟨vs, h3, h4, h5⟩ := ih (fun r hr => h r (by simp [hr]))
      refine ⟨v :: vs, ?_, by simp [h4], fun i hi hi' => ?_⟩
      · simp only [List.mapM_cons, Sem.run_bind]
        rw [h1]
        simp only [Result.andThen_ok]
        rw [h3]
        rfl
      · cases i with
        | zero => exact h2
        | succ i => exact h5 i (by simpa using hi) (by simpa using hi')
  have hres : ∀ vs : List Value, (fn.results.toList.mapM (rdR a.tmps)).run P w = .ok vs w →
      (results fn a.tmps).run P w = .ok (if h : vs.toArray.size = 1 then vs.toArray[0] else .tuple vs.toArray) w := by
    intro vs h
    rw [results_eq, Array.mapM_eq_mapM_toList]
    simp only [Sem.run_bind, Sem.run_map]
    rw [h]
    rfl
  generalize hrs : fn.results.toList = rs at *
  unfold resAll at hok ⊢
  split at hok
  · rename_i r
    obtain ⟨vs, h1, h2, h3⟩ := hmap [r] (fun q hq => by simp at hq; subst hq; exact hok)
    match vs, h2 with
    | [v], _ => exact ⟨v, by simpa using hres [v] h1, h3 0 (by simp) (by simp)⟩
  · rename_i hne
    obtain ⟨vs, h1, h2, h3⟩ := hmap rs hok
    refine ⟨.tuple vs.toArray, ?_, ?_⟩
    · have := hres vs h1
      rw [dif_neg (by
        simp only [List.size_toArray]
        intro e
        match rs, (h2 ▸ e : rs.length = 1) with
        | [r], _ => exact hne r rfl)] at this
      exact this
    · refine .tup _ _ (by simp [h2]) fun i a b => ?_
      simp only [List.getElem_map, List.getElem_toArray]
      exact h3 i (by simpa using a) (by simpa using b)

mutual
/-- Lists and strings no longer than may be. -/
def V.wf : V → Prop
  | .sl l => l.length ≤ maxLen ∧ V.wfL l
  | .agg l => V.wfL l
  | .tup l => V.wfL l
  | .ptr l => V.wfL l
  | .clo _ f c => V.wfL f ∧ V.wfL c
  | .str s => s.size ≤ maxLen
  | _ => True
def V.wfL : List V → Prop
  | [] => True
  | x :: r => V.wf x ∧ V.wfL r
end

theorem wfL_all : ∀ {l : List V}, (∀ i (h : i < l.length), V.wf l[i]) → V.wfL l
  | [], _ => trivial
  | x :: r, h => ⟨h 0 (by simp), wfL_all fun i hi => h (i + 1) (by simpa using hi)⟩
theorem wfL_mem : ∀ {l : List V}, V.wfL l → ∀ x ∈ l, V.wf x
  | y :: r, h, x, hx => by
    rcases List.mem_cons.1 hx with rfl | hx
    · exact h.1
    · exact wfL_mem h.2 x hx
theorem wf_cells {x : V} (h : ∀ j (h : j < x.cells.length), V.wf x.cells[j]) : V.wf x := by
  cases x with
  | agg l => exact wfL_all h
  | _ => exact h 0 (by simp [V.cells])
theorem wf_of {m : Mem} {x : V} {u : Value} (h : RepV m x u) : V.wf x := by
  induction h with
  | int => trivial
  | bool => trivial
  | str s h => exact h
  | slnil => exact ⟨Nat.zero_le _, trivial⟩
  | sl l b o cap sz c hn hl hcap hs hc hr ho ih => exact ⟨hl, wfL_all fun i hi => wf_cells fun j hj => ih i j hi hj⟩
  | agg l us h ho hr ih => exact wfL_all fun i hi => ih i hi (by omega)
  | tup l us h hr ih => exact wfL_all fun i hi => ih i hi (by omega)
  | ptr cs b o c ho hc hr ih => exact wfL_all fun i hi => ih i hi
  | nilp => trivial
  | clo fn fs cs us vs h1 h2 hr1 hr2 ih1 ih2 => exact ⟨wfL_all fun i hi => ih1 i hi (by omega), wfL_all fun i hi => ih2 i hi (by omega)⟩
  | nilfn => trivial
theorem wfL_of {m : Mem} {xs : List V} {us : List Value} (h : RepVs m xs us) : V.wfL xs := wfL_all fun i hi => wf_of (h.2 i hi (by have := h.1; omega))

/-- A mark among the deferred calls is taken: nobody sees it. -/
theorem Conc.take {G : Ghost} {φ : Name → Loc} {m : Mem} {σ : S} {a : Act} {w : World} {D : Nat} {ds : List Deferred} (hC : Conc G φ m σ a w) (ha : a.defers = { target := .collected D, args := #[] } :: ds) :
    w.heap[D]? = some (.deferred (some [])) ∧ Conc G φ m σ { a with defers := ds } (w.putObj D (.deferred none)) := by
  obtain ⟨l, h1, h2, h3⟩ := hC.defers
  rw [ha] at h1
  cases l with
  | nil => cases h1
  | cons D' l =>
    simp only [List.map_cons, List.cons.injEq, Deferred.mk.injEq, Target.collected.injEq, and_true] at h1
    obtain ⟨rfl, rfl⟩ := h1
    obtain ⟨h5, h6⟩ := h3 D (by simp)
    have hb : ∀ b, b ≠ D → (w.putObj D (.deferred none)).heap[b]? = w.heap[b]? := fun b hb => World.putObj_heap_other hb
    have hlt := (Array.getElem?_eq_some_iff.1 h6).1
    refine ⟨h6, ?_⟩
    constructor
    · exact hC.tmps
    · exact hC.size
    · refine ⟨l, rfl, (List.nodup_cons.1 h2).2, fun E hE => ⟨(h3 E (by simp [hE])).1, ?_⟩⟩
      rw [hb E (fun e => (List.nodup_cons.1 h2).1 (e ▸ hE))]
      exact (h3 E (by simp [hE])).2
    · intro nm o ho
      refine (hC.objs nm o ho).ext (Mem.le_refl m) (Ext.refl _ _) fun hm hn => hb _ fun e => ?_
      exact (hC.objs nm o ho).notDef hm hn _ (by rw [e]; exact h6)
    · intro b off v h
      have h7 := hC.mem b off v h
      rw [cell?_block (hb b (fun e => by subst e; unfold World.cell? at h7; simp [h6] at h7))]
      exact h7
    · exact hC.apart
    · exact hC.inj
    · exact hC.own
    · refine ⟨hC.fr.os, hC.fr.tape, hC.fr.output, by simpa using hC.fr.size, fun b hb' ho => ?_⟩
      rw [hb b (by omega)]
      exact hC.fr.block b hb' ho
    · exact hC.fresh
    · exact hC.kept

theorem leaves_conc {P : Program} {F : Fence} {n : Nat} {G : Ghost} {φ : Name → Loc} {m : Mem} {σ : S} {fn : Func} {R : Ending → World → Prop} : ∀ (ds : List Deferred) {a : Act} {w : World} (_ : a.defers = ds) (_ : Conc G φ m σ a w)
    (_ : ∀ a' w', a'.tmps = a.tmps → Conc G φ m σ a' w' → ∃ v, (results fn a'.tmps).run P w' = .ok v w' ∧ R (.returned v) w'), LeavesInM F n P fn a.tmps R a.defers .returning w
  | [], a, w, ha, hC, fin => by
    obtain ⟨v, h1, h2⟩ := fin a w rfl hC
    rw [ha]
    exact ⟨v, h1, h2⟩
  | d :: ds, a, w, ha, hC, fin => by
    obtain ⟨l, h1, h2, h3⟩ := hC.defers
    rw [ha] at h1
    cases l with
    | nil => cases h1
    | cons D l =>
      simp only [List.map_cons, List.cons.injEq] at h1
      obtain ⟨h4, h5⟩ := hC.take (D := D) (ds := ds) (by rw [ha, h1.1])
      have := leaves_conc ds (F := F) (n := n) (a := { a with defers := ds }) (w := w.putObj D (.deferred none)) rfl h5 (fun a' w' e hC' => fin a' w' e hC')
      rw [ha]
      refine ⟨by simp, .inl ⟨D, _, by rw [h1.1], run_takeDeferred h4, this⟩⟩

/-- A function's contract, from its body. -/
theorem psound {P : Program} {f : FuncId} {fn : Func} {c : Code} {s : PSpec} {nt : Nat} {rs : List ResultVar} (hf : P.funcs[f]? = some fn) (hb : fn.body = some c) (hnt : fn.ntmps = nt) (hrs : fn.results.toList = rs) (hen : ∀ args w, (callFunc f args).run P w = .ok (.enter f args) w) (hne : f ≠ yid)
    (hfl : s.flat = true → ∀ xs, s.pre xs → (s.fn xs).flat = true)
    (h : ∀ xs, s.pre xs → V.wfL xs → xs.length ≤ nt ∧ CW P c (mkS nt [0] (fun _ => none) (argsL 0 xs) []) (retK P rs (s.fn xs))) : PSound P f s := by
  subst hnt
  subst hrs
  refine ⟨hne, hen, hfl, fun m w xs args htb hm hx hp => ?_⟩
  obtain ⟨hlen, hcw⟩ := h xs hp (wfL_of hx)
  have hsz : xs.length = args.size := by simpa using hx.1
  refine (callsIn_wide (n := 0)).1 (callsIn_of_wp_marks hf hb trivial ?_)
  have hC : Conc ⟨w, m, fun _ => False, none, fun _ => ⟨0, 0, 0, true, none⟩, fun _ => none, fun _ h => (by cases h), ⟨htb, fun _ _ h => h⟩⟩ (fun _ => ⟨0, 0, 0, true, none⟩) m (mkS fn.ntmps [0] (fun _ => none) (argsL 0 xs) []) { tmps := args ++ Array.replicate (fn.ntmps - args.size) undef, defers := [] } w := by
    constructor
    · intro t
      show RepE _ _ m (ofL eAny (argsL 0 xs) t) _
      rcases ofL_cases (z := eAny) (argsL 0 xs) t with h1 | h1
      · rw [h1]; unfold RepE eAny; simp; exact .any _
      · obtain ⟨i, hi, h2, h3⟩ := argsL_mem h1
        rw [h3]
        unfold RepE
        simp only [if_true]
        have hi' : i < args.size := by omega
        have e : ((args ++ Array.replicate (fn.ntmps - args.size) undef).getD t undef) = args[i] := by
          have hlt' : 0 + i < (args ++ Array.replicate (fn.ntmps - args.size) undef).size := by simp; omega
          rw [h2]
          simp only [Array.getD, hlt', dite_true]
          show (args ++ Array.replicate (fn.ntmps - args.size) undef)[0 + i] = args[i]
          simp only [Nat.zero_add]
          exact Array.getElem_append_left hi'
        rw [e]
        exact .v _ _ (by have := hx.2 i hi (by simpa using hi'); rw [Array.getElem_toList] at this; exact this)
    · show (args ++ Array.replicate (fn.ntmps - args.size) undef).size = fn.ntmps
      simp; omega
    · exact ⟨[], rfl, by simp, by simp⟩
    · intro nm o h; simp [mkS, ofL] at h
    · exact hm
    · rintro nm ⟨o, h, _⟩; simp [mkS, ofL] at h
    · rintro nm nm' ⟨o, h, _⟩; simp [mkS, ofL] at h
    · rintro nm ⟨o, h, _⟩; simp [mkS, ofL] at h
    · exact ⟨rfl, rfl, rfl, Nat.le_refl _, fun _ _ _ => rfl⟩
    · intro b off v h; exact .inl h
    · exact ⟨fun _ _ h => (by cases h), fun _ _ h => (by cases h)⟩
  refine wpIn_mono (hcw _ _ m _ w hC) ?_
  rintro e a1 w1 ⟨φ', m', σ', hC1, hK⟩
  have fin : (resAll P σ' fn.results.toList).ok ∧ (frz 6 σ'.obj (resAll P σ' fn.results.toList).d).ok ∧ (frz 6 σ'.obj (resAll P σ' fn.results.toList).d).x = s.fn xs →
      LeavesInM Fence.wide 0 P fn a1.tmps (fun e w' => ∃ v m', e = .returned v ∧ RowKit.Below w.heap.size w w' ∧ Mem.le m m' ∧
      (∀ b off c, m' b off = some c → m b off = some c ∨ (w.heap.size ≤ b ∧ w'.cell? ⟨b, off, none⟩ = some c)) ∧ RepV m' (s.fn xs) v) a1.defers .returning w1 := by
    rintro ⟨h1, h2, h3⟩
    refine leaves_conc a1.defers rfl hC1 fun a' w' _ hC' => ?_
    obtain ⟨v, h4, h5⟩ := results_run hC' fn h1
    obtain ⟨m2, h6, h7, _, h8, _⟩ := frz_ok 6 _ _ _ _ _ _ hC' _ _ h5 h2
    refine ⟨v, h4, v, fun b off => match m2 b off with | some c => some c | none => m b off, rfl, ?_, ?_, ?_, ?_⟩
    · exact ⟨hC'.fr.os, hC'.fr.tape, hC'.fr.output, hC'.fr.size, fun k hk => hC'.fr.block k hk (fun h => h)⟩
    · intro b off c hc
      show (match m2 b off with | some c => some c | none => m b off) = some c
      cases hm2 : m2 b off with
      | none => exact hc
      | some c' =>
        have k1 := h7.mem b off c' hm2
        have k2 := hm b off c hc
        have hlt := cell?_lt k2
        rw [cell?_block (hC'.fr.block b hlt (fun h => h))] at k1
        rw [k2] at k1
        exact k1.symm
    · intro b off c hc
      have hc' : (match m2 b off with | some c => some c | none => m b off) = some c := hc
      cases hm2 : m2 b off with
      | none => rw [hm2] at hc'; exact .inl hc'
      | some c' =>
        rw [hm2] at hc'
        simp only [Option.some.injEq] at hc'
        subst hc'
        rcases h7.fresh b off c' hm2 with h | h | h
        · exact .inl h
        · exact .inr ⟨h, h7.mem b off c' hm2⟩
        · exact h.elim
    · rw [← h3]
      refine h8.mono fun b off c hc => ?_
      show (match m2 b off with | some c => some c | none => m b off) = some c
      rw [hc]
  cases e with
  | normal => exact fin hK
  | ret => exact fin hK
  | _ => exact hK.elim

end Go.Eng
/- The engine's sixteenth text: what a walk uses: the rules for a region with what is kept behind it, and the rewriting set. -/
namespace Go.Eng
open Go

theorem mkS_env (n : Nat) (p : Name) (H : Name → Option O) (l : List (Nat × E)) (h : List (Name × O)) : (mkS n p H l h).env = ofL eAny l := rfl
theorem mkS_obj (n : Nat) (p : Name) (H : Name → Option O) (l : List (Nat × E)) (h : List (Name × O)) : (mkS n p H l h).obj = fun nm => if own p nm = true then ofL none (h.map fun q => (q.1, some q.2)) nm else H nm := rfl
theorem mkS_nt (n : Nat) (p : Name) (H : Name → Option O) (l : List (Nat × E)) (h : List (Name × O)) : (mkS n p H l h).nt = n := rfl
theorem mkS_base (n : Nat) (p : Name) (H : Name → Option O) (l : List (Nat × E)) (h : List (Name × O)) : (mkS n p H l h).base = 0 := rfl
theorem mkS_pre (n : Nat) (p : Name) (H : Name → Option O) (l : List (Nat × E)) (h : List (Name × O)) : (mkS n p H l h).pre = p := rfl
theorem mkS_same {n : Nat} {p : Name} {H H' : Name → Option O} {l : List (Nat × E)} {h : List (Name × O)} (hh : ∀ nm, own p nm = false → H nm = H' nm) : mkS n p H l h = mkS n p H' l h := by
  unfold mkS
  congr 1
  funext nm
  cases ho : own p nm with
  | true => rfl
  | false => simp only [Bool.false_eq_true, if_false]; exact hh nm ho
theorem mkS_if (n : Nat) (p : Name) (F H : Name → Option O) (l : List (Nat × E)) (h : List (Name × O)) : mkS n p (fun nm => if own p nm = true then F nm else H nm) l h = mkS n p H l h :=
  mkS_same fun nm hn => by simp [hn]
theorem mkS_upd {n : Nat} {p : Name} {H : Name → Option O} {nm : Name} {o : Option O} {l : List (Nat × E)} {h : List (Name × O)} (ho : own p nm = true) : mkS n p (upd H nm o) l h = mkS n p H l h :=
  mkS_same fun x hx => upd_ne _ _ _ (by rintro rfl; rw [ho] at hx; cases hx)
theorem OutC_none (p : Name) (dom : Name → Bool) : OutC p dom (fun _ => none) = True := eq_true fun nm o _ h => by cases h
theorem OutC_if (p : Name) (dom : Name → Bool) (F H : Name → Option O) : OutC p dom (fun nm => if own p nm = true then F nm else H nm) = OutC p dom H := by
  refine propext ⟨fun k nm o ho h => k nm o ho (by simp [ho, h]), fun k nm o ho h => k nm o ho ?_⟩
  simpa [ho] using h
theorem OutC_upd {p : Name} {dom : Name → Bool} {H : Name → Option O} {nm : Name} {o : Option O} (ho : own p nm = true) : OutC p dom (upd H nm o) = OutC p dom H := by
  have e : ∀ x, own p x = false → upd H nm o x = H x := fun x hx => upd_ne _ _ _ (by rintro rfl; rw [ho] at hx; cases hx)
  exact propext ⟨fun k x q hx h => k x q hx (by rw [e x hx]; exact h), fun k x q hx h => k x q hx (by rw [← e x hx]; exact h)⟩
theorem OutC_set {p : Name} {dom : Name → Bool} {H : Name → Option O} {nm : Name} {o : O} (h1 : O.clos dom o = true) (h2 : OutC p dom H) : OutC p dom (upd H nm (some o)) := by
  intro x q hx h
  by_cases e : x = nm
  · subst e; rw [upd_same] at h; cases h; exact h1
  · rw [upd_ne _ _ _ e] at h; exact h2 x q hx h
theorem OutC_base {p : Name} {H : Name → Option O} (h : OutC p (fun x => !own p x) H) (l : List (Name × O)) : OutC p (domOf p l) H :=
  fun x q hx hq => O.clos_imp (fun nm hn => by simp only [domOf, Bool.or_eq_true]; exact .inl hn) (h x q hx hq)

def keepS (ks : List Nat) (ns : List Name) (σ : S) : S :=
  mkS σ.nt σ.pre σ.obj (ks.map fun t => (t, σ.env t)) (ns.filterMap fun nm => (σ.obj nm).map fun o => (nm, o))
def clS (ks : List Nat) (ns : List Name) (σ : S) : Prop :=
  (((ks.map fun t => (t, σ.env t)).all fun q => D.clos (domOf σ.pre (ns.filterMap fun nm => (σ.obj nm).map fun o => (nm, o))) q.2.d) &&
  ((ns.filterMap fun nm => (σ.obj nm).map fun o => (nm, o)).all fun q => O.clos (domOf σ.pre (ns.filterMap fun nm => (σ.obj nm).map fun o => (nm, o))) q.2)) = true ∧
  OutC σ.pre (domOf σ.pre (ns.filterMap fun nm => (σ.obj nm).map fun o => (nm, o))) σ.obj

theorem weak_keep {σ : S} (ks : List Nat) (ns : List Name) (h : clS ks ns σ) : Weak σ (keepS ks ns σ) := by
  unfold clS at h
  simp only [Bool.and_eq_true] at h
  refine Fits.weak ⟨rfl, fun _ _ => rfl, fun p hp => ?_, fun p hp => ?_, h.1.1, h.1.2, h.2⟩
  · simp only [List.mem_map] at hp
    obtain ⟨t, _, rfl⟩ := hp
    rfl
  · simp only [List.mem_filterMap, Option.map_eq_some_iff] at hp
    obtain ⟨nm, _, o, h1, rfl⟩ := hp
    exact h1

theorem cw_keep {P : Program} {c : Code} {σ : S} {K : Exit → S → Prop} (ks : List Nat) (ns : List Name) (h : clS ks ns σ) (hc : CW P c (keepS ks ns σ) K) : CW P c σ K :=
  cw_weak (weak_keep ks ns h) hc

/-- Codes one behind the other. -/
def CL (P : Program) : List Code → S → (Exit → S → Prop) → Prop
  | [], σ, K => K .normal σ
  | c :: r, σ, K => CW P c σ (thenK (fun σ' => CL P r σ' K) K)

theorem cl_of {P : Program} {c : Code} {σ : S} {K : Exit → S → Prop} (h : CL P [c] σ K) : CW P c σ K :=
  CW.mono h fun e σ' hk => by cases e <;> exact hk

theorem cl_nil {P : Program} {σ : S} {K : Exit → S → Prop} (h : K .normal σ) : CL P [] σ K := h
theorem cl_seq {P : Program} {x y : Code} {r : List Code} {σ : S} {K : Exit → S → Prop} (h : CL P (x :: y :: r) σ K) : CL P (.seq x y :: r) σ K :=
  cw_seq (CW.mono h fun e σ' hk => by cases e <;> exact hk)
theorem cl_skip {P : Program} {r : List Code} {σ : S} {K : Exit → S → Prop} (h : CL P r σ K) : CL P (.skip :: r) σ K := cw_skip h
theorem cl_exit {P : Program} {id : Nat} {r : List Code} {σ : S} {K : Exit → S → Prop} (h : K (.exit id) σ) : CL P (.exit id :: r) σ K := cw_exit h
theorem cl_ret {P : Program} {r : List Code} {σ : S} {K : Exit → S → Prop} (h : K .ret σ) : CL P (.ret :: r) σ K := cw_ret h
theorem cl_cond {P : Program} {c : Operand} {x y : Code} {r : List Code} {σ : S} {K : Exit → S → Prop} {b : Bool} (hc : opC σ c = true) (hd : opD σ c = .v (.bool b))
    (ht : b = true → CL P (x :: r) σ K) (hf : b = false → CL P (y :: r) σ K) : CL P (.cond c x y :: r) σ K := cw_cond hc hd ht hf
theorem cl_block {P : Program} {id : Nat} {c : Code} {r : List Code} {σ : S} {K : Exit → S → Prop} (h : CL P [c] σ (blockK id (thenK (fun σ' => CL P r σ' K) K))) : CL P (.block id c :: r) σ K :=
  cw_block (cl_of h)
theorem cl_weak {P : Program} {r : List Code} {σ σ' : S} {K : Exit → S → Prop} (hw : Weak σ σ') (hne : r ≠ []) (h : CL P r σ' K) : CL P r σ K := by
  cases r with
  | nil => exact (hne rfl).elim
  | cons c r => exact cw_weak hw h
theorem cl_loop {P : Program} {c : Code} {r : List Code} {σ : S} {K : Exit → S → Prop} {ι : Type} (I : ι → S) (R : ι → Prop) (μ : ι → Nat) (i0 : ι) (hR : R i0) (h0 : Weak σ (I i0))
    (round : ∀ i, R i → CL P [c] (I i) (thenK (fun σ' => ∃ i', R i' ∧ μ i' < μ i ∧ Weak σ' (I i')) K)) : CL P (.loop c :: r) σ K :=
  cw_loop I R μ i0 hR h0 fun i hi => CW.mono (cl_of (round i hi)) fun e σ' hk => by cases e <;> exact hk

/-- A region, and what follows. -/
theorem cl_rs {P : Program} {Γ : FuncId → Option Spec} (hΓ : ∀ f s, Γ f = some s → SSound P f s) {id : Nat} {l : List Oper} {c : Code} {r : List Code} {σ : S} {K : Exit → S → Prop} (ks : List Nat) (ns : List Name)
    (h : ∀ K' : S → Prop, (∀ σ', clS ks ns σ' → CL P (c :: r) (keepS ks ns σ') K → K' σ') → Reg P Γ l.toArray l σ K') : CL P (.region id l.toArray false :: c :: r) σ K :=
  cw_region hΓ fun K' hK => h K' fun σ' hc hy => hK σ' (cw_keep ks ns hc hy)
/-- A region at an end. -/
theorem cl_r {P : Program} {Γ : FuncId → Option Spec} (hΓ : ∀ f s, Γ f = some s → SSound P f s) {id : Nat} {l : List Oper} {σ : S} {K : Exit → S → Prop}
    (h : ∀ K' : S → Prop, (∀ σ', K .normal σ' → K' σ') → Reg P Γ l.toArray l σ K') : CL P [.region id l.toArray false] σ K :=
  cw_region hΓ fun K' hK => h K' fun σ' hc => hK σ' hc

theorem weak_to {σ : S} (nt : Nat) (p : Name) (H : Name → Option O) (l : List (Nat × E)) (h : List (Name × O)) (hn : σ.nt = nt) (hp : σ.pre = p) (h0 : ∀ nm, own p nm = false → σ.obj nm = H nm)
    (h1 : ∀ q ∈ l, σ.env q.1 = q.2) (h2 : ∀ q ∈ h, σ.obj q.1 = some q.2)
    (h3 : ((l.all fun q => D.clos (domOf p h) q.2.d) && (h.all fun q => O.clos (domOf p h) q.2)) = true) (h4 : OutC p (domOf p h) H) : Weak σ (mkS nt p H l h) := by
  subst hn
  simp only [Bool.and_eq_true] at h3
  exact Fits.weak ⟨hp, h0, h1, h2, h3.1, h3.2, h4⟩

theorem aPick_bb (obj : Name → Option O) (b p q : Bool) : aPick obj (.v (.bool b)) (.v (.bool p)) (.v (.bool q)) = ⟨True, .v (.bool (if b = true then p else q)), obj⟩ := rfl
theorem aPick_f (obj : Name → Option O) (x y : D) : aPick obj (.v (.bool false)) x y = ⟨True, y, obj⟩ := by
  unfold aPick
  simp only
  congr 1
  split
  · simp_all
  · rfl
theorem aPick_t (obj : Name → Option O) (x y : D) : aPick obj (.v (.bool true)) x y = ⟨True, x, obj⟩ := by
  unfold aPick
  simp only
  congr 1
  split
  · simp_all
  · rfl
attribute [go_sem] aPick_bb aPick_f aPick_t
attribute [go_sem] Array.toList_append List.length_map List.forall_mem_cons List.not_mem_nil false_implies implies_true Reg oblS stepS gOk gOf gSlot eTest eTestOk opConds aop opD opC ofVal ofCell Op.operands Call.operands mkS_env mkS_obj mkS_nt mkS_pre mkS_base Nat.zero_add mkS_if mkS_upd OutC_none OutC_if OutC_upd own retK argsL ofL upd_app keepS clS eAny thenK blockK
  aLoad aBox aAlloc aBuild aBuildSlice aStore aNilCheck aBin aUn aConv aFunc aMakeMap aMakeSlice aSlice aBin' aNilCmp isNilC aFieldAddr aField aIndexAddr aIndex aLookup aMapUpdate aExtract aCall aBuiltin aLen aAppend
  R.bad nmO D.boxable D.cells D.one V.cells V.one V.okc O.len? D.clos D.closL O.clos domOf bInt bIntOk bStr bStrOk asV asV1 asV1s srcL frz frzL loOf hiOf setL fillD mget mset keq keyIs Value.cells
  resAll resD
  List.map_cons List.map_nil List.all_cons List.all_nil List.any_cons List.any_nil List.filterMap_cons List.filterMap_nil Option.map_some Option.map_none Option.bind_some Option.bind_none Option.isSome_some Option.isSome_none
  Option.getD_some Option.getD_none Bool.and_true Bool.true_and Bool.and_false Bool.false_and Bool.or_true Bool.true_or Bool.or_false Bool.false_or Bool.not_true Bool.not_false
  List.cons.injEq true_and and_true if_true if_false Bool.false_eq_true forall_const true_implies List.length_cons List.length_nil List.getD_cons_zero List.getD_cons_succ
  List.drop_zero List.drop_succ_cons List.take_succ_cons List.take_zero List.nil_append List.cons_append beq_self_eq_true Prod.mk.injEq and_self

/-! numbers -/
theorem wrap_i64 {x : Int} (h0 : -9223372036854775808 ≤ x) (h1 : x ≤ 9223372036854775807) : IntKind.i64.wrap x = x := by
  rw [IntKind.wrap_i64]; omega
theorem wrap_succ {i n : Nat} (h : i < n) (hn : n ≤ maxLen) : IntKind.i64.wrap ((i : Int) + 1) = ((i + 1 : Nat) : Int) := by
  unfold maxLen at hn
  rw [wrap_i64 (by omega) (by omega)]; rfl
theorem map_getD {α : Type} {f : α → V} {l : List α} {i : Nat} (h : i < l.length) : (l.map f).getD i default = f l[i] := by
  rw [getD_lt (by simpa using h)]; simp

end Go.Eng
/- The engine's seventeenth text: regions whose order is drawn. -/
namespace Go.Eng
open Go

/-- The names that an operation looks at or changes; and those that it changes. -/
def footO (Γ : FuncId → Option Spec) (σ : S) (t : Name) : Op → List Name
  | .alloc _ | .box _ _ | .makeMap _ _ | .makeSlice _ _ _ => [nmO t]
  | .load _ x | .nilCheck x | .fieldAddr _ x _ | .indexAddr _ x _ | .lookup _ x _ _ | .store _ x _ | .mapUpdate _ x _ _ | .insert _ x _ _ | .slice _ x _ _ _ => tops (opD σ x)
  | .binOp _ _ x _ _ => tops (opD σ x)
  | .buildSlice _ _ ps => fpL (fp 4 σ.obj) (ps.toList.map fun p => opD σ p.2)
  | .call ⟨.value f, args, _⟩ => match (clFn (opD σ f)).bind Γ with
    | some s => s.foot σ.obj t (clArgs (opD σ f) (args.toList.map (opD σ)))
    | none => []
  | .call ⟨.builtin .append, args, _⟩ => match args.toList with
    | [s, x] => tops (opD σ s) ++ tops (opD σ x) ++ [nmO t]
    | _ => []
  | .call ⟨.builtin .len, args, _⟩ => match args.toList with
    | [x] => tops (opD σ x)
    | _ => []
  | _ => []
def wrtO (Γ : FuncId → Option Spec) (σ : S) (t : Name) : Op → List Name
  | .alloc _ | .box _ _ | .makeMap _ _ | .makeSlice _ _ _ => [nmO t]
  | .store _ x _ | .mapUpdate _ x _ _ | .insert _ x _ _ => tops (opD σ x)
  | .slice _ x _ _ _ => muts σ.obj (tops (opD σ x))
  | .buildSlice _ _ ps => muts σ.obj (fpL (fp 4 σ.obj) (ps.toList.map fun p => opD σ p.2))
  | .call ⟨.value f, args, _⟩ => match (clFn (opD σ f)).bind Γ with
    | some s => s.wrt σ.obj t (clArgs (opD σ f) (args.toList.map (opD σ)))
    | none => []
  | .call ⟨.builtin .append, args, _⟩ => match args.toList with
    | [s, x] => tops (opD σ s) ++ tops (opD σ x) ++ [nmO t]
    | _ => []
  | _ => []

theorem aSlice_fz {P : Program} {obj : Name → Option O} {T : TypeId} {x : D} {lo hi mx : Option D} : Fz obj (aSlice P obj T x lo hi mx).obj := by
  unfold aSlice
  repeat' split
  all_goals first
    | exact .refl obj
    | exact Fz.one (.refl obj) (by assumption) rfl rfl

theorem Like.muts {r r2 : R} {obj obj2 : Name → Option O} {W : List Name} (h : Like r r2 obj obj2 W) (hz : Fz obj r.obj) (ha : Agr W obj obj2) : Like r r2 obj obj2 (muts obj W) := by
  refine FLike.like (W := W) ⟨h.ok, fun nm hn => ?_, h.frame, fun nm hn => ?_⟩ h.d hz ha
  · rw [h.eff nm, if_pos hn]
  · rw [h.eff nm, if_neg hn]

theorem like_refl {ok : Prop} {d : D} {obj obj2 : Name → Option O} : Like ⟨ok, d, obj⟩ ⟨ok, d, obj2⟩ obj obj2 [] := .same rfl rfl rfl rfl

theorem like_build {P : Program} {obj obj2 : Name → Option O} {T : TypeId} {ps : List (Nat × D)} : Like (aBuild P obj T ps) (aBuild P obj2 T ps) obj obj2 [] := by
  unfold aBuild
  (repeat' split) <;> exact .same rfl rfl rfl rfl
theorem like_buildSlice {P : Program} {obj obj2 : Name → Option O} {T : TypeId} {n : Nat} {ps : List (Nat × D)} (h : Agr (fpL (fp 4 obj) (ps.map (·.2))) obj obj2) :
    Like (aBuildSlice P obj T n ps) (aBuildSlice P obj2 T n ps) obj obj2 (muts obj (fpL (fp 4 obj) (ps.map (·.2)))) := by
  have hm : Agr (muts obj (fpL (fp 4 obj) (ps.map (·.2)))) obj obj2 := fun nm hn => h nm (List.mem_filter.1 hn).1
  obtain ⟨h1, h2⟩ := frzL_like (frz_like 4) (ps.map (·.2)) obj obj2 _ (fun _ hn => hn) h
  unfold aBuildSlice
  split
  · split
    · exact .none _ hm
    · refine FLike.like ⟨?_, h2.agr, h2.frame, h2.frame2⟩ (by rw [h1]) (frzL_fz (frz_fz 4) _ obj) h
      rw [h1, h2.ok]
  · exact .none _ hm
theorem like_bin {P : Program} {obj obj2 : Name → Option O} {op : BinOp} {T : TypeId} {x y : D} : Like (aBin P obj op T x y) (aBin P obj2 op T x y) obj obj2 [] := by
  unfold aBin
  (repeat' split) <;> first | exact .same rfl rfl rfl rfl | (exfalso; simp_all; done)
theorem like_bin' {P : Program} {obj obj2 : Name → Option O} {op : BinOp} {T : TypeId} {x y : D} {nilc : Bool} (h : Agr (tops x) obj obj2) : Like (aBin' P obj op T x y nilc) (aBin' P obj2 op T x y nilc) obj obj2 [] := by
  unfold aBin'
  cases nilc with
  | true =>
    simp only
    unfold aNilCmp
    split
    · exact .same rfl rfl rfl rfl
    · rename_i nm k
      have h' : obj2 nm = obj nm := h nm (by simp [tops])
      rw [h']
      exact .same rfl rfl rfl rfl
    · exact .same rfl rfl rfl rfl
  | false =>
    simp only
    split
    · unfold aEqS
      split <;> exact .same rfl rfl rfl rfl
    · exact like_bin
theorem like_un {obj obj2 : Name → Option O} {op : UnOp} {x : D} : Like (aUn obj op x) (aUn obj2 op x) obj obj2 [] := by
  unfold aUn
  (repeat' split) <;> first | exact .same rfl rfl rfl rfl | (exfalso; simp_all; done)
theorem like_conv {P : Program} {obj obj2 : Name → Option O} {T T' : TypeId} {x : D} : Like (aConv P obj T T' x) (aConv P obj2 T T' x) obj obj2 [] := by
  unfold aConv aConvN
  (repeat' split) <;> first | exact .same rfl rfl rfl rfl | (exfalso; simp_all; done)
theorem like_field {P : Program} {obj obj2 : Name → Option O} {T : TypeId} {x : D} {f : Nat} : Like (aField P obj T x f) (aField P obj2 T x f) obj obj2 [] := by
  unfold aField
  (repeat' split) <;> first | exact .same rfl rfl rfl rfl | (exfalso; simp_all; done)
theorem like_index {P : Program} {obj obj2 : Name → Option O} {T : TypeId} {x y : D} : Like (aIndex P obj T x y) (aIndex P obj2 T x y) obj obj2 [] := by
  unfold aIndex
  (repeat' split) <;> first | exact .same rfl rfl rfl rfl | (exfalso; simp_all; done)
theorem like_extract {obj obj2 : Name → Option O} {x : D} {i : Nat} : Like (aExtract obj x i) (aExtract obj2 x i) obj obj2 [] := by
  unfold aExtract
  (repeat' split) <;> first | exact .same rfl rfl rfl rfl | (exfalso; simp_all; done)
theorem like_pick {obj obj2 : Name → Option O} {c x y : D} : Like (aPick obj c x y) (aPick obj2 c x y) obj obj2 [] := by
  unfold aPick
  split <;> exact .same rfl rfl rfl rfl

theorem like_call {Γ : FuncId → Option Spec} (hN : ∀ f s, Γ f = some s → s.Near) {σ σ2 : S} {t : Name} {f : D} {args : List D}
    (h : Agr (match (clFn f).bind Γ with | some s => s.foot σ.obj t (clArgs f args) | none => []) σ.obj σ2.obj) :
    Like (aCall Γ σ t f args) (aCall Γ σ2 t f args) σ.obj σ2.obj (match (clFn f).bind Γ with | some s => s.wrt σ.obj t (clArgs f args) | none => []) ∧
    (match (clFn f).bind Γ with | some s => s.foot σ2.obj t (clArgs f args) | none => []) = (match (clFn f).bind Γ with | some s => s.foot σ.obj t (clArgs f args) | none => []) := by
  unfold aCall
  rcases hs : (clFn f).bind Γ with _ | s
  · exact ⟨.same rfl rfl rfl rfl, rfl⟩
  · simp only [hs] at h ⊢
    obtain ⟨g, _, hs⟩ := Option.bind_eq_some_iff.1 hs
    exact ⟨(hN g s hs).like _ _ _ _ h, (hN g s hs).foot _ _ _ _ h⟩

theorem aop_near {P : Program} {Γ : FuncId → Option Spec} (hN : ∀ f s, Γ f = some s → s.Near) {σ σ2 : S} (t : Name) (op : Op)
    (ho : ∀ x ∈ op.operands.toList, opD σ2 x = opD σ x) (h : Agr (footO Γ σ t op) σ.obj σ2.obj) :
    Like (aop P Γ σ t op) (aop P Γ σ2 t op) σ.obj σ2.obj (wrtO Γ σ t op) ∧ footO Γ σ2 t op = footO Γ σ t op := by
  cases op with
  | move x => exact ⟨by simp only [aop, ho x (by simp [Op.operands])]; exact like_refl, rfl⟩
  | assign x => exact ⟨by simp only [aop, ho x (by simp [Op.operands])]; exact like_refl, rfl⟩
  | pick c x y => exact ⟨by simp only [aop, ho c (by simp [Op.operands]), ho x (by simp [Op.operands]), ho y (by simp [Op.operands])]; exact like_pick, rfl⟩
  | alloc T => exact ⟨like_alloc h, rfl⟩
  | box T x => exact ⟨by simp only [aop, ho x (by simp [Op.operands])]; exact like_box h, rfl⟩
  | build T ps =>
    have hp : (ps.toList.map fun p => (p.1, opD σ2 p.2)) = ps.toList.map fun p => (p.1, opD σ p.2) := List.map_congr_left fun p hp => by rw [ho p.2 (by simp only [Op.operands]; exact List.mem_map_of_mem hp)]
    exact ⟨by simp only [aop, hp]; exact like_build, rfl⟩
  | buildSlice T n ps =>
    have hp : (ps.toList.map fun p => (p.1, opD σ2 p.2)) = ps.toList.map fun p => (p.1, opD σ p.2) := List.map_congr_left fun p hp => by rw [ho p.2 (by simp only [Op.operands]; exact List.mem_map_of_mem hp)]
    have hp2 : (ps.toList.map fun p => opD σ2 p.2) = ps.toList.map fun p => opD σ p.2 := List.map_congr_left fun p hp => by rw [ho p.2 (by simp only [Op.operands]; exact List.mem_map_of_mem hp)]
    have hm : (ps.toList.map fun p => (p.1, opD σ p.2)).map (·.2) = ps.toList.map fun p => opD σ p.2 := by simp
    simp only [footO, wrtO] at h ⊢
    rw [hp2]
    rw [← hm] at h ⊢
    refine ⟨?_, fpL_same _ h⟩
    simp only [aop, hp]
    exact like_buildSlice h
  | load T x =>
    simp only [footO, wrtO, aop, ho x (by simp [Op.operands])] at h ⊢
    exact ⟨like_load h, trivial⟩
  | store T x d =>
    simp only [footO, wrtO, aop, ho x (by simp [Op.operands]), ho d (by simp [Op.operands])] at h ⊢
    exact ⟨like_store h, trivial⟩
  | nilCheck x =>
    simp only [footO, wrtO, aop, ho x (by simp [Op.operands])] at h ⊢
    exact ⟨like_nilCheck h, trivial⟩
  | binOp op T x y c =>
    simp only [footO, wrtO, aop, ho x (by simp [Op.operands]), ho y (by simp [Op.operands])] at h ⊢
    exact ⟨like_bin' h, trivial⟩
  | unOp op T x => exact ⟨by simp only [aop, ho x (by simp [Op.operands])]; exact like_un, rfl⟩
  | convert s d x => exact ⟨by simp only [aop, ho x (by simp [Op.operands])]; exact like_conv, rfl⟩
  | makeFunc fn f c =>
    have h1 : f.toList.map (opD σ2) = f.toList.map (opD σ) := List.map_congr_left fun x hx => ho x (by simp only [Op.operands, Array.toList_append]; exact List.mem_append_left _ hx)
    have h2 : c.toList.map (opD σ2) = c.toList.map (opD σ) := List.map_congr_left fun x hx => ho x (by simp only [Op.operands, Array.toList_append]; exact List.mem_append_right _ hx)
    exact ⟨by simp only [aop, h1, h2]; exact like_refl, rfl⟩
  | makeMap T r =>
    have h1 : r.map (opD σ2) = r.map (opD σ) := by
      cases r with
      | none => rfl
      | some x => simp only [Option.map_some, ho x (by simp [Op.operands])]
    exact ⟨by simp only [aop, h1]; exact like_makeMap h, rfl⟩
  | makeSlice T l c => exact ⟨by simp only [aop, ho l (by simp [Op.operands]), ho c (by simp [Op.operands])]; exact like_makeSlice h, rfl⟩
  | slice T x lo hi mx =>
    have e : ∀ r : Option Operand, (∀ y ∈ r.toList, opD σ2 y = opD σ y) → r.map (opD σ2) = r.map (opD σ) := by
      intro r hr
      cases r with
      | none => rfl
      | some x => simp only [Option.map_some, hr x (by simp)]
    have h1 := e lo fun y hy => ho y (by simp [Op.operands] at hy ⊢; simp [hy])
    have h2 := e hi fun y hy => ho y (by simp [Op.operands] at hy ⊢; simp [hy])
    have h3 := e mx fun y hy => ho y (by simp [Op.operands] at hy ⊢; simp [hy])
    simp only [footO, wrtO, aop, ho x (by simp [Op.operands]), h1, h2, h3] at h ⊢
    exact ⟨(like_slice h).muts aSlice_fz h, trivial⟩
  | fieldAddr T x f =>
    simp only [footO, wrtO, aop, ho x (by simp [Op.operands])] at h ⊢
    exact ⟨like_fieldAddr h, trivial⟩
  | field T x f => exact ⟨by simp only [aop, ho x (by simp [Op.operands])]; exact like_field, rfl⟩
  | indexAddr T x i =>
    simp only [footO, wrtO, aop, ho x (by simp [Op.operands]), ho i (by simp [Op.operands])] at h ⊢
    exact ⟨like_indexAddr h, trivial⟩
  | index T x i => exact ⟨by simp only [aop, ho x (by simp [Op.operands]), ho i (by simp [Op.operands])]; exact like_index, rfl⟩
  | lookup T x i co =>
    simp only [footO, wrtO, aop, ho x (by simp [Op.operands]), ho i (by simp [Op.operands])] at h ⊢
    exact ⟨like_lookup h, trivial⟩
  | mapUpdate T x k d =>
    simp only [footO, wrtO, aop, ho x (by simp [Op.operands]), ho k (by simp [Op.operands]), ho d (by simp [Op.operands])] at h ⊢
    exact ⟨like_mapUpdate h, trivial⟩
  | insert T x k d =>
    simp only [footO, wrtO, aop, ho x (by simp [Op.operands]), ho k (by simp [Op.operands]), ho d (by simp [Op.operands])] at h ⊢
    exact ⟨like_mapUpdate h, trivial⟩
  | extract x i => exact ⟨by simp only [aop, ho x (by simp [Op.operands])]; exact like_extract, rfl⟩
  | call c =>
    obtain ⟨callee, args, ts⟩ := c
    cases callee with
    | value f =>
      have h1 : opD σ2 f = opD σ f := ho f (by simp [Op.operands, Call.operands])
      have h2 : args.toList.map (opD σ2) = args.toList.map (opD σ) := List.map_congr_left fun x hx => ho x (by simp [Op.operands, Call.operands] at hx ⊢; simp [hx])
      simp only [footO, wrtO, aop, h1, h2] at h ⊢
      exact like_call hN h
    | builtin b =>
      have h2 : args.toList.map (opD σ2) = args.toList.map (opD σ) := List.map_congr_left fun x hx => ho x (by simp [Op.operands, Call.operands] at hx ⊢; simp [hx])
      have h3 : ∀ x ∈ args.toList, opD σ2 x = opD σ x := fun x hx => ho x (by simp [Op.operands, Call.operands] at hx ⊢; simp [hx])
      simp only [aop, h2]
      obtain ⟨args⟩ := args
      obtain ⟨ts⟩ := ts
      simp only at *
      cases b with
      | len =>
        rcases args with _ | ⟨x, _ | ⟨y, r⟩⟩
        · exact ⟨by rcases ts with _ | ⟨_, _ | _⟩ <;> exact .same rfl rfl rfl rfl, rfl⟩
        · simp only [footO, wrtO, h3 x (by simp), List.map_cons, List.map_nil] at h ⊢
          refine ⟨?_, trivial⟩
          rcases ts with _ | ⟨T, _ | _⟩ <;> first
            | exact .same rfl rfl rfl rfl
            | exact like_len h
        · refine ⟨?_, rfl⟩
          rcases ts with _ | ⟨_, _ | _⟩ <;> exact .same rfl rfl rfl rfl
      | append =>
        rcases args with _ | ⟨s, _ | ⟨x, _ | ⟨y, r⟩⟩⟩
        · refine ⟨?_, rfl⟩
          rcases ts with _ | ⟨_, _ | ⟨_, _ | _⟩⟩ <;> exact .same rfl rfl rfl rfl
        · refine ⟨?_, rfl⟩
          rcases ts with _ | ⟨_, _ | ⟨_, _ | _⟩⟩ <;> exact .same rfl rfl rfl rfl
        · simp only [footO, wrtO, h3 x (by simp), h3 s (by simp), List.map_cons, List.map_nil] at h ⊢
          refine ⟨?_, trivial⟩
          rcases ts with _ | ⟨T1, _ | ⟨T2, _ | _⟩⟩ <;> first
            | exact like_append h
            | exact .none _ h
        · refine ⟨?_, rfl⟩
          rcases ts with _ | ⟨_, _ | ⟨_, _ | _⟩⟩ <;> exact .same rfl rfl rfl rfl
      | _ =>
        refine ⟨?_, rfl⟩
        show Like _ _ _ _ []
        unfold aBuiltin
        (repeat' split) <;> first | exact .same rfl rfl rfl rfl | (exfalso; simp_all; done)
    | invoke r m => exact ⟨.same rfl rfl rfl rfl, rfl⟩
  | _ => exact ⟨.same rfl rfl rfl rfl, rfl⟩

theorem aop_wrt {Γ : FuncId → Option Spec} (hN : ∀ f s, Γ f = some s → s.Near) {σ σ2 : S} (t : Name) (op : Op)
    (ho : ∀ x ∈ op.operands.toList, opD σ2 x = opD σ x) (h : Agr (footO Γ σ t op) σ.obj σ2.obj) : wrtO Γ σ2 t op = wrtO Γ σ t op := by
  cases op with
  | buildSlice T n ps =>
    have hp2 : (ps.toList.map fun p => opD σ2 p.2) = ps.toList.map fun p => opD σ p.2 := List.map_congr_left fun p hp => by rw [ho p.2 (by simp only [Op.operands]; exact List.mem_map_of_mem hp)]
    simp only [footO, wrtO] at h ⊢
    rw [hp2, fpL_same _ h]
    exact muts_same h
  | store T x d => simp only [wrtO, ho x (by simp [Op.operands])]
  | mapUpdate T x k d => simp only [wrtO, ho x (by simp [Op.operands])]
  | insert T x k d => simp only [wrtO, ho x (by simp [Op.operands])]
  | slice T x lo hi mx =>
    simp only [footO, wrtO, ho x (by simp [Op.operands])] at h ⊢
    exact muts_same h
  | call c =>
    obtain ⟨callee, args, ts⟩ := c
    cases callee with
    | value f =>
      have h1 : opD σ2 f = opD σ f := ho f (by simp [Op.operands, Call.operands])
      have h2 : args.toList.map (opD σ2) = args.toList.map (opD σ) := List.map_congr_left fun x hx => ho x (by simp [Op.operands, Call.operands] at hx ⊢; simp [hx])
      simp only [footO, wrtO, h1, h2] at h ⊢
      cases hq : (clFn (opD σ f)).bind Γ with
      | none => rfl
      | some s =>
        simp only [hq] at h ⊢
        obtain ⟨g, hg, hs⟩ := Option.bind_eq_some_iff.1 hq
        exact (hN g s hs).wrt _ _ _ _ h
    | builtin b =>
      have h3 : ∀ x ∈ args.toList, opD σ2 x = opD σ x := fun x hx => ho x (by simp [Op.operands, Call.operands] at hx ⊢; simp [hx])
      obtain ⟨args⟩ := args
      simp only at *
      cases b with
      | append =>
        rcases args with _ | ⟨s, _ | ⟨x, _ | ⟨y, r⟩⟩⟩ <;> first
          | rfl
          | simp only [wrtO, h3 x (by simp), h3 s (by simp)]
      | _ => rfl
    | invoke r m => rfl
  | _ => rfl

theorem wrt_sub {Γ : FuncId → Option Spec} (hN : ∀ f s, Γ f = some s → s.Near) {σ : S} (t : Name) (op : Op) : ∀ nm ∈ wrtO Γ σ t op, nm ∈ footO Γ σ t op := by
  intro nm hn
  cases op with
  | buildSlice T n ps => exact (List.mem_filter.1 hn).1
  | slice T x lo hi mx => exact (List.mem_filter.1 hn).1
  | call c =>
    obtain ⟨callee, args, ts⟩ := c
    cases callee with
    | value f =>
      simp only [footO, wrtO] at hn ⊢
      cases hq : (clFn (opD σ f)).bind Γ with
      | none => simp [hq] at hn
      | some s =>
        simp only [hq] at hn ⊢
        obtain ⟨g, hg, hs⟩ := Option.bind_eq_some_iff.1 hq
        exact (hN g s hs).sub _ _ _ _ hn
    | builtin b => cases b <;> first | exact hn | (simp [wrtO] at hn; done)
    | invoke r m => simp [wrtO] at hn
  | _ => first | exact hn | (simp [wrtO] at hn; done)

end Go.Eng
/- The engine's eighteenth text: a region whose order is drawn does in each order what it does in the text's. -/
namespace Go.Eng
open Go

section
variable {P : Program} {Γ : FuncId → Option Spec} {ops : Array Oper}

abbrev Oper.tt (σ : S) (o : Oper) : Name := (σ.base + o.dst.getD 0) :: σ.pre

theorem opD_env {σ σ' : S} {x : Operand} (h : ∀ t, x = .tmp t → σ'.env t = σ.env t) : opD σ' x = opD σ x ∧ opC σ' x = opC σ x := by
  cases x with
  | tmp t => exact ⟨by simp only [opD, h t rfl], by simp only [opC, h t rfl]⟩
  | _ => exact ⟨rfl, rfl⟩

theorem looks_op {o : Oper} {x : Operand} (hx : x ∈ o.op.operands.toList) {t : Nat} (h : x = .tmp t) : t ∈ o.looksAt ops :=
  List.mem_append_left _ (List.mem_filterMap.2 ⟨x, hx, by subst h; rfl⟩)
theorem looks_g {o : Oper} {j : Nat} {b : Bool} (hg : o.guard = some (j, b)) {s : Nat} (h : gSlot ops j = some s) : s ∈ o.looksAt ops := by
  refine List.mem_append_right _ ?_
  unfold gSlot at h
  simp [hg, h]

theorem conds_env {σ σ' : S} {op : Op} (h : ∀ x ∈ op.operands.toList, opD σ' x = opD σ x ∧ opC σ' x = opC σ x) : opConds σ' op = opConds σ op := by
  have hall : op.operands.toList.all (opC σ') = op.operands.toList.all (opC σ) := by
    refine Bool.eq_iff_iff.2 ?_
    simp only [List.all_eq_true]
    exact ⟨fun k x hx => (h x hx).2 ▸ k x hx, fun k x hx => (h x hx).2.symm ▸ k x hx⟩
  cases op with
  | pick c x y =>
    simp only [opConds]
    have h1 := h c (by simp [Op.operands])
    have h2 := h x (by simp [Op.operands])
    have h3 := h y (by simp [Op.operands])
    rw [h1.1, h1.2, h2.2, h3.2]
  | _ => exact hall

structure StepLike (P : Program) (Γ : FuncId → Option Spec) (ops : Array Oper) (σ σ' : S) (o : Oper) : Prop where
  obl : oblS P Γ ops σ' o ↔ oblS P Γ ops σ o
  g : gOf ops σ' o = gOf ops σ o
  d : (aop P Γ σ' (Oper.tt σ o) o.op).d = (aop P Γ σ (Oper.tt σ o) o.op).d
  eff : ∀ nm, (stepS P Γ ops σ' o).obj nm = if nm ∈ wrtO Γ σ (Oper.tt σ o) o.op then (stepS P Γ ops σ o).obj nm else σ'.obj nm
  frame : ∀ nm, nm ∉ wrtO Γ σ (Oper.tt σ o) o.op → (stepS P Γ ops σ o).obj nm = σ.obj nm
  foot : footO Γ σ' (Oper.tt σ o) o.op = footO Γ σ (Oper.tt σ o) o.op
  wrt : wrtO Γ σ' (Oper.tt σ o) o.op = wrtO Γ σ (Oper.tt σ o) o.op

theorem step_like (hN : ∀ f s, Γ f = some s → s.Near) {σ σ' : S} (o : Oper) (hnt : σ'.nt = σ.nt) (hpr : σ'.pre = σ.pre) (hbs : σ'.base = σ.base) (he : ∀ t ∈ o.looksAt ops, σ'.env t = σ.env t)
    (ha : Agr (footO Γ σ (Oper.tt σ o) o.op) σ.obj σ'.obj) : StepLike P Γ ops σ σ' o := by
  have hx : ∀ x ∈ o.op.operands.toList, opD σ' x = opD σ x ∧ opC σ' x = opC σ x := fun x hx => opD_env fun t ht => he t (looks_op hx ht)
  have hg : gOf ops σ' o = gOf ops σ o := by
    unfold gOf
    cases hgd : o.guard with
    | none => rfl
    | some p =>
      obtain ⟨j, b⟩ := p
      simp only
      cases hs : gSlot ops j with
      | none => rfl
      | some s => simp only [he s (looks_g hgd hs)]
  have hgk : gOk ops σ' o ↔ gOk ops σ o := by
    unfold gOk
    cases hgd : o.guard with
    | none => exact Iff.rfl
    | some p =>
      obtain ⟨j, b⟩ := p
      simp only
      cases hs : gSlot ops j with
      | none => exact Iff.rfl
      | some s => simp only [he s (looks_g hgd hs), hnt]
  obtain ⟨h1, h2⟩ := aop_near (P := P) hN (Oper.tt σ o) o.op (fun x h => (hx x h).1) ha
  have h3 := aop_wrt hN (Oper.tt σ o) o.op (fun x h => (hx x h).1) ha
  refine ⟨?_, hg, h1.d, fun nm => ?_, fun nm hn => ?_, h2, h3⟩
  · have hok : (aop P Γ σ' ((σ.base + o.dst.getD 0) :: σ.pre) o.op).ok = (aop P Γ σ ((σ.base + o.dst.getD 0) :: σ.pre) o.op).ok := h1.ok
    unfold oblS
    rw [hgk, hg, hnt, hpr, hbs, conds_env hx, hok]
  · unfold stepS
    simp only [hg, hpr, hbs]
    cases hc : gOf ops σ o with
    | true => simp only [if_true]; exact h1.eff nm
    | false =>
      simp only [Bool.false_eq_true, if_false]
      split
      · rename_i hn; exact ha nm (wrt_sub hN _ _ nm hn)
      · rfl
  · unfold stepS
    cases hc : gOf ops σ o with
    | true => simp only [if_true]; exact h1.frame nm hn
    | false => simp only [Bool.false_eq_true, if_false]

theorem step_env {σ : S} {o : Oper} {t : Nat} (h : o.dst ≠ some t) : (stepS P Γ ops σ o).env t = σ.env t := by
  unfold stepS
  cases hd : o.dst with
  | none => rfl
  | some s => exact upd_ne _ _ _ (by rintro rfl; exact h hd)

def Disj (a b : List Name) : Prop := ∀ nm ∈ a, nm ∉ b

/-- Two operations that stand apart may be done in either order. -/
theorem comm {oi oj : Oper} (hN : ∀ f s, Γ f = some s → s.Near) {σ : S} (hap : oi.apart ops oj = true)
    (h1 : Disj (wrtO Γ σ (Oper.tt σ oi) oi.op) (footO Γ (stepS P Γ ops σ oi) (Oper.tt σ oj) oj.op)) (h2 : Disj (wrtO Γ (stepS P Γ ops σ oi) (Oper.tt σ oj) oj.op) (footO Γ σ (Oper.tt σ oi) oi.op)) :
    StepLike P Γ ops (stepS P Γ ops σ oi) σ oj ∧ StepLike P Γ ops σ (stepS P Γ ops σ oj) oi ∧ stepS P Γ ops (stepS P Γ ops σ oj) oi = stepS P Γ ops (stepS P Γ ops σ oi) oj := by
  obtain ⟨a1, a2, a3⟩ := Oper.apart_spec hap
  have s0 : StepLike P Γ ops σ σ oi := step_like hN oi rfl rfl rfl (fun _ _ => rfl) (fun _ _ => rfl)
  have s1 : StepLike P Γ ops (stepS P Γ ops σ oi) σ oj := by
    refine step_like hN oj rfl rfl rfl (fun t ht => (step_env fun hd => a1 t hd ht).symm) fun nm hn => ?_
    exact (s0.frame nm fun hw => h1 nm hw hn).symm
  have s2 : StepLike P Γ ops σ (stepS P Γ ops σ oj) oi := by
    refine step_like hN oi rfl rfl rfl (fun t ht => step_env fun hd => a3 t hd ht) fun nm hn => ?_
    exact (s1.eff nm).trans (if_neg fun hw => h2 nm hw hn)
  refine ⟨s1, s2, ?_⟩
  have e1 : (stepS P Γ ops (stepS P Γ ops σ oj) oi).obj = (stepS P Γ ops (stepS P Γ ops σ oi) oj).obj := by
    funext nm
    rw [s2.eff nm]
    by_cases hi : nm ∈ wrtO Γ σ (Oper.tt σ oi) oi.op
    · rw [if_pos hi]
      have := wrt_sub hN _ _ nm hi
      have s3 : StepLike P Γ ops (stepS P Γ ops σ oi) (stepS P Γ ops σ oi) oj := step_like hN oj rfl rfl rfl (fun _ _ => rfl) (fun _ _ => rfl)
      exact (s3.frame nm fun hw => h2 nm hw this).symm
    · rw [if_neg hi, s1.eff nm]
      split
      · rfl
      · rename_i hj
        have s3 : StepLike P Γ ops (stepS P Γ ops σ oi) (stepS P Γ ops σ oi) oj := step_like hN oj rfl rfl rfl (fun _ _ => rfl) (fun _ _ => rfl)
        rw [s3.frame nm hj, s0.frame nm hi]
  have e2 : (stepS P Γ ops (stepS P Γ ops σ oj) oi).env = (stepS P Γ ops (stepS P Γ ops σ oi) oj).env := by
    funext x
    by_cases hi : oi.dst = some x
    · have hj : oj.dst ≠ some x := a2 x hi
      rw [step_env (σ := stepS P Γ ops σ oi) hj]
      show (match oi.dst with
        | some t => upd (stepS P Γ ops σ oj).env t ⟨gOf ops (stepS P Γ ops σ oj) oi, (aop P Γ (stepS P Γ ops σ oj) ((σ.base + t) :: σ.pre) oi.op).d⟩
        | none => (stepS P Γ ops σ oj).env) x = (match oi.dst with
        | some t => upd σ.env t ⟨gOf ops σ oi, (aop P Γ σ ((σ.base + t) :: σ.pre) oi.op).d⟩
        | none => σ.env) x
      have d1 := s2.d
      have g1 := s2.g
      unfold Oper.tt at d1
      simp only [hi, Option.getD_some] at d1 ⊢
      rw [upd_same, upd_same, d1, g1]
    · rw [step_env hi]
      by_cases hj : oj.dst = some x
      · show (match oj.dst with
          | some t => upd σ.env t ⟨gOf ops σ oj, (aop P Γ σ ((σ.base + t) :: σ.pre) oj.op).d⟩
          | none => σ.env) x = (match oj.dst with
          | some t => upd (stepS P Γ ops σ oi).env t ⟨gOf ops (stepS P Γ ops σ oi) oj, (aop P Γ (stepS P Γ ops σ oi) ((σ.base + t) :: σ.pre) oj.op).d⟩
          | none => (stepS P Γ ops σ oi).env) x
        have d1 : (aop P Γ σ (Oper.tt σ oj) oj.op).d = (aop P Γ (stepS P Γ ops σ oi) (Oper.tt σ oj) oj.op).d := s1.d
        have g1 := s1.g
        unfold Oper.tt at d1
        simp only [hj, Option.getD_some] at d1 ⊢
        rw [upd_same, upd_same, d1, g1]
      · rw [step_env hj, step_env hj, step_env hi]
  have e3 : (stepS P Γ ops (stepS P Γ ops σ oj) oi).nt = (stepS P Γ ops (stepS P Γ ops σ oi) oj).nt := rfl
  have e4 : (stepS P Γ ops (stepS P Γ ops σ oj) oi).pre = (stepS P Γ ops (stepS P Γ ops σ oi) oj).pre := rfl
  have e5 : (stepS P Γ ops (stepS P Γ ops σ oj) oi).base = (stepS P Γ ops (stepS P Γ ops σ oi) oj).base := rfl
  generalize stepS P Γ ops (stepS P Γ ops σ oj) oi = x at *
  generalize stepS P Γ ops (stepS P Γ ops σ oi) oj = y at *
  cases x; cases y
  simp only at e1 e2 e3 e4 e5
  subst e1 e2 e3 e4 e5
  rfl

/-- An operation that was done: its place, what it looked at, what it changed. -/
structure Past where
  on : Nat
  foot : List Name
  wrt : List Name

def okWith (anc : List Nat) (foot wrt : List Name) (L : List Past) : Prop := ∀ e ∈ L, e.on ∈ anc ∨ (Disj e.wrt foot ∧ Disj wrt e.foot)

variable (P Γ ops) in
def AnyL (anc : Nat → List Nat) (L : List Past) (K : S → Prop) : Nat → Array Bool → S → Prop
  | 0, listed, σ => Region.ready .any ops listed = [] ∧ K σ
  | fuel + 1, listed, σ => (Region.ready .any ops listed = [] → K σ) ∧ ∀ i ∈ Region.ready .any ops listed, ∀ o, ops[i]? = some o →
      oblS P Γ ops σ o ∧ okWith (anc i) (footO Γ σ (Oper.tt σ o) o.op) (wrtO Γ σ (Oper.tt σ o) o.op) L ∧ AnyL anc L K fuel (listed.setIfInBounds i true) (stepS P Γ ops σ o)

def AncOk (ops : Array Oper) (anc : Nat → List Nat) : Prop := ∀ j o, ops[j]? = some o → ∀ i ∈ anc j, ∃ e ∈ o.after, Region.binds .any e = true ∧ (e.on = i ∨ i ∈ anc e.on)
def Closed (anc : Nat → List Nat) (listed : Array Bool) : Prop := ∀ j, listed.getD j false = true → ∀ i ∈ anc j, listed.getD i false = true

theorem Closed.ready {anc : Nat → List Nat} {listed : Array Bool} (hA : AncOk ops anc) (h : Closed anc listed) {j : Nat} (hj : j ∈ Region.ready .any ops listed) : ∀ i ∈ anc j, listed.getD i false = true := by
  intro i hi
  obtain ⟨_, o, ho, hall⟩ := mem_ready.1 hj
  obtain ⟨e, he, hb, h1⟩ := hA j o ho i hi
  have := hall e he hb
  rcases h1 with h1 | h1
  · rw [← h1]; exact this
  · exact h _ this i h1
theorem Closed.set {anc : Nat → List Nat} {listed : Array Bool} (hA : AncOk ops anc) (h : Closed anc listed) {j : Nat} (hj : j ∈ Region.ready .any ops listed) : Closed anc (listed.setIfInBounds j true) := by
  intro k hk i hi
  by_cases hkj : j = k
  · subst hkj
    exact getD_set_true (h.ready hA hj i hi)
  · rw [getD_set_ne false hkj] at hk
    exact getD_set_true (h k hk i hi)

theorem pull (hN : ∀ f s, Γ f = some s → s.Near) {anc : Nat → List Nat} (hA : AncOk ops anc) {K : S → Prop} {i : Nat} {oi : Oper} (hi : ops[i]? = some oi) {L : List Past} :
    ∀ (fuel : Nat) (listed : Array Bool) (σ : S), Closed anc listed →
      (∀ j oj, ops[j]? = some oj → j ≠ i → listed.getD j true = false → i ∉ anc j → oi.apart ops oj = true) →
      i ∈ Region.ready .any ops listed → oblS P Γ ops σ oi → okWith (anc i) (footO Γ σ (Oper.tt σ oi) oi.op) (wrtO Γ σ (Oper.tt σ oi) oi.op) L →
      AnyL P Γ ops anc (⟨i, footO Γ σ (Oper.tt σ oi) oi.op, wrtO Γ σ (Oper.tt σ oi) oi.op⟩ :: L) K fuel (listed.setIfInBounds i true) (stepS P Γ ops σ oi) →
      AnyL P Γ ops anc L K (fuel + 1) listed σ := by
  have weaken : ∀ (e : Past) (fuel : Nat) (listed : Array Bool) (σ : S), AnyL P Γ ops anc (e :: L) K fuel listed σ → AnyL P Γ ops anc L K fuel listed σ := by
    intro e fuel
    induction fuel with
    | zero => exact fun _ _ h => h
    | succ n ih => exact fun listed σ h => ⟨h.1, fun i hi o ho => ⟨(h.2 i hi o ho).1, fun e' he' => (h.2 i hi o ho).2.1 e' (List.mem_cons_of_mem _ he'), ih _ _ (h.2 i hi o ho).2.2⟩⟩
  intro fuel
  induction fuel with
  | zero =>
    intro listed σ hcl hfree hr hob hok H
    refine ⟨fun h => (by rw [h] at hr; cases hr), fun j hj oj hoj => ?_⟩
    by_cases hji : j = i
    · subst hji
      rw [hi] at hoj; cases hoj
      exact ⟨hob, hok, weaken _ _ _ _ H⟩
    · have := ready_mono hj hji
      rw [H.1] at this
      cases this
  | succ fuel ih =>
    intro listed σ hcl hfree hr hob hok H
    refine ⟨fun h => (by rw [h] at hr; cases hr), fun j hj oj hoj => ?_⟩
    by_cases hji : j = i
    · subst hji
      rw [hi] at hoj; cases hoj
      exact ⟨hob, hok, weaken _ _ _ _ H⟩
    · obtain ⟨g1, g2, g3⟩ := H.2 j (ready_mono hj hji) oj hoj
      have hun : listed.getD j true = false := (mem_ready.1 hj).1
      have hnot : i ∉ anc j := fun h => by
        have h1 := hcl.ready hA hj i h
        have h0 := (mem_ready.1 hr).1
        rcases Nat.lt_or_ge i listed.size with h' | h'
        · simp [h'] at h0 h1; rw [h0] at h1; cases h1
        · simp [Array.getElem?_eq_none h'] at h1
      rcases g2 _ List.mem_cons_self with k | ⟨d1, d2⟩
      · exact (hnot k).elim
      simp only at d1 d2
      obtain ⟨s1, s2, s3⟩ := comm hN (hfree j oj hoj hji hun hnot) d1 d2
      have f1 : footO Γ σ (Oper.tt σ oj) oj.op = footO Γ (stepS P Γ ops σ oi) (Oper.tt σ oj) oj.op := s1.foot
      have f2 : wrtO Γ σ (Oper.tt σ oj) oj.op = wrtO Γ (stepS P Γ ops σ oi) (Oper.tt σ oj) oj.op := s1.wrt
      have f3 : footO Γ (stepS P Γ ops σ oj) (Oper.tt σ oi) oi.op = footO Γ σ (Oper.tt σ oi) oi.op := s2.foot
      have f4 : wrtO Γ (stepS P Γ ops σ oj) (Oper.tt σ oi) oi.op = wrtO Γ σ (Oper.tt σ oi) oi.op := s2.wrt
      refine ⟨s1.obl.2 g1, ?_, ?_⟩
      · rw [f1, f2]
        exact fun e he => g2 e (List.mem_cons_of_mem _ he)
      · refine ih _ _ (hcl.set hA hj) (fun k ok hk hki hun' hno => hfree k ok hk hki ?_ hno) (ready_mono hr (Ne.symm hji)) (s2.obl.2 hob) ?_ ?_
        · by_cases hjk : j = k
          · subst hjk; exact hun
          · rw [getD_set_ne true hjk] at hun'; exact hun'
        · show okWith (anc i) (footO Γ (stepS P Γ ops σ oj) (Oper.tt σ oi) oi.op) (wrtO Γ (stepS P Γ ops σ oj) (Oper.tt σ oi) oi.op) L
          rw [f3, f4]; exact hok
        · show AnyL P Γ ops anc (⟨i, footO Γ (stepS P Γ ops σ oj) (Oper.tt σ oi) oi.op, wrtO Γ (stepS P Γ ops σ oj) (Oper.tt σ oi) oi.op⟩ :: L) K fuel _ _
          rw [Array.setIfInBounds_comm _ _ hji, f3, f4, s3]
          exact g3

theorem any_sound (hΓ : ∀ f s, Γ f = some s → SSound P f s) {G : Ghost} {Q : Exit → Act → World → Prop} {K : S → Prop} {anc : Nat → List Nat} {L : List Past} :
    ∀ (fuel : Nat) (listed : Array Bool) {φ : Name → Loc} {m : Mem} {σ : S} {a : Act} {w : World}, Conc G φ m σ a w → AnyL P Γ ops anc L K fuel listed σ →
      (∀ a' w' φ' m' σ', Conc G φ' m' σ' a' w' → K σ' → Q .normal a' w') → wpAnyIn (fen G.rd) 0 P .any ops Q fuel listed a w
  | 0, listed, φ, m, σ, a, w, hC, h, hQ => ⟨h.1, hQ _ _ φ m σ hC h.2⟩
  | fuel + 1, listed, φ, m, σ, a, w, hC, h, hQ => by
    refine ⟨fun h0 => hQ _ _ φ m σ hC (h.1 h0), fun i hi => ?_⟩
    obtain ⟨_, o, ho, _⟩ := mem_ready.1 hi
    obtain ⟨h1, _, h3⟩ := h.2 i hi o ho
    exact step_sound hΓ hC ho h1 fun a' w' φ' m' hC' => any_sound hΓ fuel _ hC' h3 hQ

end
end Go.Eng
/- The engine's nineteenth text: the rule for a region whose order is drawn. -/
namespace Go.Eng
open Go

section
variable {P : Program} {Γ : FuncId → Option Spec} {ops : Array Oper}

structure Pend where
  anc : List Nat
  past : Past

def nmEq : Name → Name → Bool
  | [], [] => true
  | x :: r, y :: s => Nat.beq x y && nmEq r s
  | _, _ => false
theorem nmEq_iff : ∀ {a b : Name}, nmEq a b = true ↔ a = b
  | [], [] => by simp [nmEq]
  | [], _ :: _ => by simp [nmEq]
  | _ :: _, [] => by simp [nmEq]
  | x :: r, y :: s => by
    simp only [nmEq, Bool.and_eq_true, Nat.beq_eq, List.cons.injEq, nmEq_iff]
def memN : List Name → Name → Bool
  | [], _ => false
  | x :: r, nm => nmEq x nm || memN r nm
theorem memN_iff : ∀ {l : List Name} {nm : Name}, memN l nm = true ↔ nm ∈ l
  | [], nm => by simp [memN]
  | x :: r, nm => by
    simp only [memN, Bool.or_eq_true, nmEq_iff, List.mem_cons, memN_iff]
    exact ⟨fun h => h.imp Eq.symm id, fun h => h.imp Eq.symm id⟩
def memI : List Nat → Nat → Bool
  | [], _ => false
  | x :: r, n => Nat.beq x n || memI r n
theorem memI_iff : ∀ {l : List Nat} {n : Nat}, memI l n = true ↔ n ∈ l
  | [], n => by simp [memI]
  | x :: r, n => by
    simp only [memI, Bool.or_eq_true, Nat.beq_eq, List.mem_cons, memI_iff]
    exact ⟨fun h => h.imp Eq.symm id, fun h => h.imp Eq.symm id⟩
def disjB : List Name → List Name → Bool
  | [], _ => true
  | x :: r, b => !memN b x && disjB r b
theorem disjB_spec : ∀ {a b : List Name}, disjB a b = true → Disj a b
  | [], _, _ => fun nm h => by cases h
  | x :: r, b, h => by
    simp only [disjB, Bool.and_eq_true, Bool.not_eq_true'] at h
    intro nm ha hb
    rcases List.mem_cons.1 ha with rfl | ha
    · rw [memN_iff.2 hb] at h; cases h.1
    · exact disjB_spec h.2 nm ha hb

def chk (p : Pend) (e : Pend) : Bool := memI p.anc e.past.on || (disjB e.past.wrt p.past.foot && disjB p.past.wrt e.past.foot)
def pairsOk : List Pend → Bool
  | [] => true
  | p :: L => L.all (chk p) && pairsOk L

variable (P Γ ops) in
/-- A region, operation by operation, with what is looked at and changed kept to the end. -/
def RegE : Nat → List (List Nat) → List Oper → List Pend → S → (S → Prop) → Prop
  | _, _, [], L, σ, K => pairsOk L = true ∧ K σ
  | i, az, o :: r, L, σ, K => oblS P Γ ops σ o ∧
      RegE (i + 1) az.tail r (⟨az.headD [], i, footO Γ σ ((σ.base + o.dst.getD 0) :: σ.pre) o.op, wrtO Γ σ ((σ.base + o.dst.getD 0) :: σ.pre) o.op⟩ :: L) (stepS P Γ ops σ o) K

variable (P Γ ops) in
def RegD (anc : Nat → List Nat) : Nat → List Oper → List Past → S → (S → Prop) → Prop
  | _, [], _, σ, K => K σ
  | i, o :: r, L, σ, K => oblS P Γ ops σ o ∧ okWith (anc i) (footO Γ σ (Oper.tt σ o) o.op) (wrtO Γ σ (Oper.tt σ o) o.op) L ∧
      RegD anc (i + 1) r (⟨i, footO Γ σ (Oper.tt σ o) o.op, wrtO Γ σ (Oper.tt σ o) o.op⟩ :: L) (stepS P Γ ops σ o) K

theorem regE_regD {anc : Nat → List Nat} {K : S → Prop} : ∀ (l : List Oper) (i : Nat) (az : List (List Nat)) (L : List Pend) (σ : S), (∀ k, az.getD k [] = anc (i + k)) →
    RegE P Γ ops i az l L σ K → pairsOk L = true ∧ RegD P Γ ops anc i l (L.map (·.past)) σ K
  | [], i, az, L, σ, _, h => h
  | o :: r, i, az, L, σ, ha, h => by
    obtain ⟨h1, h2⟩ := h
    obtain ⟨h3, h4⟩ := regE_regD (anc := anc) r (i + 1) az.tail _ _ (fun k => by
      have := ha (k + 1)
      rw [show i + (k + 1) = i + 1 + k by omega] at this
      rw [← this]
      cases az <;> rfl) h2
    simp only [pairsOk, Bool.and_eq_true] at h3
    refine ⟨h3.2, h1, ?_, h4⟩
    intro e he
    obtain ⟨p, hp, rfl⟩ := List.mem_map.1 he
    have := List.all_eq_true.1 h3.1 p hp
    simp only [chk, Bool.or_eq_true, Bool.and_eq_true] at this
    rcases this with k | ⟨k1, k2⟩
    · left
      have h0 : az.headD [] = anc i := by
        have := ha 0
        rw [Nat.add_zero] at this
        rw [← this]
        cases az <;> rfl
      rw [h0] at k
      exact memI_iff.1 k
    · exact .inr ⟨disjB_spec k1, disjB_spec k2⟩

theorem regD_any (hN : ∀ f s, Γ f = some s → s.Near) {anc : Nat → List Nat} (hA : AncOk ops anc) (hap : ∀ i j oi oj, ops[i]? = some oi → ops[j]? = some oj → i < j → i ∉ anc j → oi.apart ops oj = true)
    (hback : ∀ j o, ops[j]? = some o → ∀ e ∈ o.after, Region.binds .any e = true → e.on < j) {K : S → Prop} :
    ∀ (n k : Nat) (L : List Past) (listed : Array Bool) (σ : S), k + n = ops.size → listed.size = ops.size → (∀ j, listed.getD j false = decide (j < k)) → Closed anc listed →
      RegD P Γ ops anc k (ops.toList.drop k) L σ K → AnyL P Γ ops anc L K n listed σ
  | 0, k, L, listed, σ, hk, hs, hl, hcl, h => by
    have : ops.toList.drop k = [] := List.drop_eq_nil_of_le (by simp; omega)
    rw [this] at h
    refine ⟨?_, h⟩
    refine List.eq_nil_iff_forall_not_mem.2 fun j hj => ?_
    obtain ⟨h1, o, ho, _⟩ := mem_ready.1 hj
    have hlt : j < ops.size := (Array.getElem?_eq_some_iff.1 ho).1
    have := hl j
    simp only [Array.getD_eq_getD_getElem?, Array.getElem?_eq_getElem (show j < listed.size by omega), Option.getD_some] at h1 this
    rw [h1] at this
    simp at this
    omega
  | n + 1, k, L, listed, σ, hk, hs, hl, hcl, h => by
    have hlt : k < ops.size := by omega
    have hd : ops.toList.drop k = ops[k] :: ops.toList.drop (k + 1) := by
      rw [List.drop_eq_getElem_cons (by simpa using hlt)]; simp
    rw [hd] at h
    obtain ⟨h1, h2, h3⟩ := h
    have hok : ops[k]? = some ops[k] := Array.getElem?_eq_getElem hlt
    have hlk : ∀ j, j < listed.size → listed.getD j true = listed.getD j false := by
      intro j hj
      simp only [Array.getD_eq_getD_getElem?, Array.getElem?_eq_getElem hj, Option.getD_some]
    have hr : k ∈ Region.ready .any ops listed := by
      refine mem_ready.2 ⟨?_, _, hok, fun e he hb => ?_⟩
      · rw [hlk k (by omega), hl k]; simp
      · rw [hl]; simpa using hback k _ hok e he hb
    refine pull hN hA hok n listed σ hcl (fun j oj hj hne hun hno => ?_) hr h1 h2 ?_
    · have hjl : j < ops.size := (Array.getElem?_eq_some_iff.1 hj).1
      rw [hlk j (by omega), hl j] at hun
      simp at hun
      exact hap k j _ oj hok hj (by omega) hno
    · refine regD_any hN hA hap hback n (k + 1) _ _ _ (by omega) (by simpa using hs) (fun j => ?_) (hcl.set hA hr) h3
      by_cases hjk : k = j
      · subst hjk
        simp [show k < listed.size by omega]
      · rw [getD_set_ne false hjk, hl j]
        refine decide_eq_decide.2 ?_
        omega

/-- The region's own order, looked through once: what comes after what, and that the temporaries of the others stand apart. -/
def statOk (ops : Array Oper) (az : List (List Nat)) : Bool :=
  (List.range ops.size).all fun j => match ops[j]? with
    | none => true
    | some oj => (oj.after.toList.all fun e => !Region.binds .any e || decide (e.on < j)) &&
        ((az.getD j []).all fun i => oj.after.toList.any fun e => Region.binds .any e && (e.on == i || (az.getD e.on []).contains i)) &&
        (List.range j).all fun i => (az.getD j []).contains i || (match ops[i]? with | some oi => oi.apart ops oj | none => true)

theorem cw_drawn (hΓ : ∀ f s, Γ f = some s → SSound P f s) (hP : P.follows .mixedOrders = true) {id : Nat} {l : List Oper} {σ : S} {K : Exit → S → Prop} (az : List (List Nat))
    (hs : statOk l.toArray az = true) (h : ∀ K' : S → Prop, (∀ σ', K .normal σ' → K' σ') → RegE P Γ l.toArray 0 az l [] σ K') : CW P (.region id l.toArray true) σ K := by
  intro G φ m a w hC
  have hs' : ∀ j oj, l.toArray[j]? = some oj → (oj.after.toList.all fun e => !Region.binds .any e || decide (e.on < j)) = true ∧
        ((az.getD j []).all fun i => oj.after.toList.any fun e => Region.binds .any e && (e.on == i || (az.getD e.on []).contains i)) = true ∧
        ((List.range j).all fun i => (az.getD j []).contains i || (match l.toArray[i]? with | some oi => oi.apart l.toArray oj | none => true)) = true := by
    intro j oj hj
    have := List.all_eq_true.1 hs j (List.mem_range.2 (Array.getElem?_eq_some_iff.1 hj).1)
    simp only [hj, Bool.and_eq_true] at this
    exact ⟨this.1.1, this.1.2, this.2⟩
  have hN : ∀ f s, Γ f = some s → s.Near := fun f s h => (hΓ f s h).near
  have hA : AncOk l.toArray (fun j => az.getD j []) := by
    intro j o ho i hi
    have := List.all_eq_true.1 (hs' j o ho).2.1 i hi
    obtain ⟨e, he, h1⟩ := List.any_eq_true.1 this
    simp only [Bool.and_eq_true, Bool.or_eq_true, beq_iff_eq, List.contains_iff_mem] at h1
    exact ⟨e, by simpa using he, h1.1, h1.2⟩
  have hap : ∀ i j oi oj, l.toArray[i]? = some oi → l.toArray[j]? = some oj → i < j → i ∉ az.getD j [] → oi.apart l.toArray oj = true := by
    intro i j oi oj h1 h2 h3 h4
    have := List.all_eq_true.1 (hs' j oj h2).2.2 i (List.mem_range.2 h3)
    simp only [h1, Bool.or_eq_true] at this
    rcases this with k | k
    · exact (h4 (by simpa using k)).elim
    · exact k
  have hback : ∀ j o, l.toArray[j]? = some o → ∀ e ∈ o.after, Region.binds .any e = true → e.on < j := by
    intro j o ho e he hb
    have := List.all_eq_true.1 (hs' j o ho).1 e (by simpa using he)
    simpa [hb] using this
  refine wpIn_region_any hP ?_
  obtain ⟨_, hD⟩ := regE_regD (anc := fun j => az.getD j []) l 0 az [] σ (fun k => by simp) (h (K .normal) fun _ h => h)
  refine any_sound hΓ (K := K .normal) _ _ (hC.drawn _) (regD_any hN hA hap hback l.toArray.size 0 [] _ σ (by simp) (by simp) (fun j => ?_) (fun j hj => ?_) (by simpa using hD)) fun a' w' φ' m' σ' hC' hK => ⟨φ', m', σ', hC', hK⟩
  · by_cases hj : j < l.length <;> simp [hj]
  · by_cases hj' : j < l.length <;> simp [hj'] at hj

theorem cl_ds (hΓ : ∀ f s, Γ f = some s → SSound P f s) (hP : P.follows .mixedOrders = true) {id : Nat} {l : List Oper} {c : Code} {r : List Code} {σ : S} {K : Exit → S → Prop} (az : List (List Nat)) (ks : List Nat) (ns : List Name)
    (hs : statOk l.toArray az = true) (h : ∀ K' : S → Prop, (∀ σ', clS ks ns σ' → CL P (c :: r) (keepS ks ns σ') K → K' σ') → RegE P Γ l.toArray 0 az l [] σ K') : CL P (.region id l.toArray true :: c :: r) σ K :=
  cw_drawn hΓ hP az hs fun K' hK => h K' fun σ' hc hy => hK σ' (cw_keep ks ns hc hy)
theorem cl_d (hΓ : ∀ f s, Γ f = some s → SSound P f s) (hP : P.follows .mixedOrders = true) {id : Nat} {l : List Oper} {σ : S} {K : Exit → S → Prop} (az : List (List Nat))
    (hs : statOk l.toArray az = true) (h : ∀ K' : S → Prop, (∀ σ', K .normal σ' → K' σ') → RegE P Γ l.toArray 0 az l [] σ K') : CL P [.region id l.toArray true] σ K :=
  cw_drawn hΓ hP az hs fun K' hK => h K' fun σ' hc => hK σ' hc
end
attribute [go_sem] nmEq memN memI disjB Nat.beq_eq_true_eq RegE footO wrtO tops fp fpL clFn clArgs muts O.mut PSpec.toSpec List.headD_cons List.headD_nil List.tail_cons List.tail_nil
end Go.Eng
/- The engine's twentieth text: names renamed; what a call reaches, under names that do not hang on the caller. -/
namespace Go.Eng
open Go

/-! names renamed -/
mutual
def D.ren (f : Name → Name) : D → D
  | .v x => .v x
  | .nilsl => .nilsl
  | .nilmap => .nilmap
  | .ref nm o => .ref (f nm) o
  | .msl nm k => .msl (f nm) k
  | .aref nm k i o => .aref (f nm) k i o
  | .map nm => .map (f nm)
  | .yld nm => .yld (f nm)
  | .clo fn a b => .clo fn (D.renL f a) (D.renL f b)
  | .agg l => .agg (D.renL f l)
  | .tup l => .tup (D.renL f l)
  | .any => .any
def D.renL (f : Name → Name) : List D → List D
  | [] => []
  | d :: r => D.ren f d :: D.renL f r
end
def E.ren (f : Name → Name) (e : E) : E := ⟨e.c, e.d.ren f⟩
def O.ren (f : Name → Name) : O → O
  | .box cs => .box (D.renL f cs)
  | .loop env ps asg body st pend => .loop (env.map (E.ren f)) ps asg body st pend
  | .arr sz l => .arr sz l
  | .map kd es => .map kd es
  | .fbox cs => .fbox cs
  | .farr sz l => .farr sz l
  | .dead sz n => .dead sz n

theorem renL_map (f : Name → Name) : ∀ l : List D, D.renL f l = l.map (D.ren f)
  | [] => rfl
  | d :: r => by simp only [D.renL, List.map_cons, renL_map f r]
theorem D.one_ren (f : Name → Name) (d : D) : (d.ren f).one = d.one := by cases d <;> rfl
theorem O.len_ren (f : Name → Name) (o : O) : (o.ren f).len? = o.len? := by cases o <;> rfl
theorem O.sz_ren (f : Name → Name) (o : O) : (o.ren f).sz = o.sz := by cases o <;> rfl
theorem O.mut_ren (f : Name → Name) (o : O) : (o.ren f).mut = o.mut := by cases o <;> rfl

/-- What a reading hangs on, under other names. -/
def RenX (f : Name → Name) (φ φ' : Name → Loc) (obj obj' : Name → Option O) (dom : Name → Bool) : Prop :=
  ∀ nm o, dom nm = true → obj nm = some o → ∃ o', obj' (f nm) = some o' ∧
    ((o'.len? = o.len? ∧ φ' (f nm) = φ nm ∧ o'.sz = o.sz) ∨ (∃ n n', o.len? = some n ∧ o'.len? = some n' ∧ n < n'))

theorem RepD.renx {f : Name → Name} {φ φ' : Name → Loc} {obj obj' : Name → Option O} {m m' : Mem} {dom : Name → Bool} (hm : Mem.le m m') (hx : RenX f φ φ' obj obj' dom) {d : D} {u : Value}
    (h : RepD φ obj m d u) (hc : D.clos dom d = true) : RepD φ' obj' m' (d.ren f) u := by
  induction h with
  | any u => exact .any u
  | v x u h => exact .v x u (h.mono hm)
  | nilsl a => exact .nilsl a
  | nilmap => exact .nilmap
  | ref nm off h =>
    obtain ⟨o, ho, hl⟩ := h
    obtain ⟨o', ho', h⟩ := hx nm o hc ho
    rcases h with ⟨h1, h2, h3⟩ | ⟨n, n', h1, h2, h3⟩
    · rw [← h2]; exact .ref (f nm) off ⟨o', ho', h1.trans hl⟩
    · rw [hl] at h1; cases h1
  | map nm h =>
    obtain ⟨o, ho, hl⟩ := h
    obtain ⟨o', ho', h⟩ := hx nm o hc ho
    rcases h with ⟨h1, h2, h3⟩ | ⟨n, n', h1, h2, h3⟩
    · rw [← h2]; exact .map (f nm) ⟨o', ho', h1.trans hl⟩
    · rw [hl] at h1; cases h1
  | yld nm h =>
    obtain ⟨o, ho, hl⟩ := h
    obtain ⟨o', ho', h⟩ := hx nm o hc ho
    rcases h with ⟨h1, h2, h3⟩ | ⟨n, n', h1, h2, h3⟩
    · rw [← h2]; exact .yld (f nm) ⟨o', ho', h1.trans hl⟩
    · rw [hl] at h1; cases h1
  | msl nm k u h hu =>
    obtain ⟨o, n, ho, hl, hk, he⟩ := h
    obtain ⟨o', ho', h⟩ := hx nm o hc ho
    rcases h with ⟨h1, h2, h3⟩ | ⟨n1, n', h1, h2, h3⟩
    · exact .msl (f nm) k u ⟨o', n, ho', h1.trans hl, hk, fun e => by rw [h2]; exact he e⟩ hu
    · rw [hl] at h1; cases h1
      exact .msl (f nm) k u ⟨o', n', ho', h2, by omega, fun e => by omega⟩ hu
  | aref nm k i off u h hu =>
    obtain ⟨o, n, ho, hl, hk, he⟩ := h
    obtain ⟨o', ho', h⟩ := hx nm o hc ho
    rcases h with ⟨h1, h2, h3⟩ | ⟨n1, n', h1, h2, h3⟩
    · exact .aref (f nm) k i off u ⟨o', n, ho', h1.trans hl, hk, fun e => by rw [h2, h3]; exact he e⟩ hu
    · rw [hl] at h1; cases h1
      exact .aref (f nm) k i off u ⟨o', n', ho', h2, by omega, fun e => by omega⟩ hu
  | clo fn fs cs us vs h1 h2 hr1 hr2 ih1 ih2 =>
    simp only [D.clos, Bool.and_eq_true] at hc
    simp only [D.ren, renL_map]
    refine .clo fn _ _ us vs (by simpa using h1) (by simpa using h2) (fun i a b => ?_) (fun i a b => ?_)
    · simp only [List.getElem_map]; exact ih1 i (by simpa using a) b (closL_mem _ hc.1)
    · simp only [List.getElem_map]; exact ih2 i (by simpa using a) b (closL_mem _ hc.2)
  | agg l us h ho hr ih =>
    simp only [D.clos] at hc
    simp only [D.ren, renL_map]
    refine .agg _ us (by simpa using h) (fun d hd => ?_) (fun i a b => ?_)
    · obtain ⟨d', h1, rfl⟩ := List.mem_map.1 hd
      rw [D.one_ren]; exact ho d' h1
    · simp only [List.getElem_map]; exact ih i (by simpa using a) b (closL_mem _ hc)
  | tup l us h hr ih =>
    simp only [D.clos] at hc
    simp only [D.ren, renL_map]
    refine .tup _ us (by simpa using h) (fun i a b => ?_)
    simp only [List.getElem_map]; exact ih i (by simpa using a) b (closL_mem _ hc)

theorem RepE.renx {f : Name → Name} {φ φ' : Name → Loc} {obj obj' : Name → Option O} {m m' : Mem} {dom : Name → Bool} (hm : Mem.le m m') (hx : RenX f φ φ' obj obj' dom) {e : E} {u : Value}
    (h : RepE φ obj m e u) (hc : D.clos dom e.d = true) : RepE φ' obj' m' (e.ren f) u := by
  unfold RepE at *
  have e0 : (E.ren f e).c = e.c := rfl
  have e1 : (E.ren f e).d = e.d.ren f := rfl
  rw [e0, e1]
  by_cases hh : e.c = true
  · rw [if_pos hh] at h ⊢; exact h.renx hm hx hc
  · rw [if_neg hh] at h ⊢; exact h

theorem SatO.ren {f : Name → Name} {φ φ' : Name → Loc} {obj obj' : Name → Option O} {m m' : Mem} {dom : Name → Bool} {o : O} {p : Loc} {w w' : World} (hm : Mem.le m m') (hx : RenX f φ φ' obj obj' dom)
    (hc : O.clos dom o = true) (hw : o.mut = true → p.nul = false → w'.heap[p.blk]? = w.heap[p.blk]?) (h : SatO φ obj m o p w) : SatO φ' obj' m' (o.ren f) p w' := by
  cases o with
  | box cs =>
    obtain ⟨h0, h1, h1', us, T, g, h2, h3, h4, h5⟩ := h
    simp only [O.clos] at hc
    simp only [O.ren, SatO, renL_map, List.length_map, List.getElem_map, List.mem_map, forall_exists_index, and_imp, forall_apply_eq_imp_iff₂, D.one_ren]
    exact ⟨h0, h1, h1', us, T, g, by rw [hw rfl h1]; exact h2, h3, h4, fun i a b => (h5 i a b).renx hm hx (closL_mem a hc)⟩
  | arr sz l =>
    rcases h with ⟨h, h'⟩ | ⟨h0, h1, h2, h3, h4, us, T, f, h5, h6, h7, h8⟩
    · exact .inl ⟨h, h'⟩
    · exact .inr ⟨h0, h1, h2, h3, h4, us, T, f, by rw [hw rfl h0]; exact h5, h6, h7, fun i j a b => let ⟨c, x, y⟩ := h8 i j a b; ⟨c, x, y.mono hm⟩⟩
  | map kd es =>
    obtain ⟨h0, h1, h1', us, T, h2, h3, h4⟩ := h
    exact ⟨h0, h1, h1', us, T, by rw [hw rfl h1]; exact h2, h3, fun i a b => ⟨(h4 i a b).1.mono hm, (h4 i a b).2.mono hm⟩⟩
  | fbox cs => exact ⟨h.1, fun i a => let ⟨c, x, y⟩ := h.2 i a; ⟨c, hm _ _ _ x, y.mono hm⟩⟩
  | farr sz l =>
    rcases h with ⟨h, h'⟩ | ⟨h0, h1, h2, h3, h4⟩
    · exact .inl ⟨h, h'⟩
    · exact .inr ⟨h0, h1, h2, h3, fun i j a b => let ⟨c, x, y⟩ := h4 i j a b; ⟨c, hm _ _ _ x, y.mono hm⟩⟩
  | dead => exact h
  | loop env ps asg body st pend =>
    obtain ⟨h0, h1, r, h2, h3, h4, h5, h6, h7, h8, h9⟩ := h
    simp only [O.clos] at hc
    simp only [O.ren, SatO, List.length_map, List.getElem_map]
    refine ⟨h0, h1, r, by rw [hw rfl h1]; exact h2, h3, h4, h5, h6, h7, h8, fun i a => (h9 i a).renx hm hx ?_⟩
    have := closL_mem (l := env.map (·.d)) (i := i) (by simpa using a) hc
    simpa using this

mutual
theorem D.ren_id {f g : Name → Name} {dom : Name → Bool} (hfg : ∀ nm, dom nm = true → g (f nm) = nm) : ∀ d : D, D.clos dom d = true → (d.ren f).ren g = d
  | .v _, _ => rfl
  | .nilsl, _ => rfl
  | .nilmap, _ => rfl
  | .any, _ => rfl
  | .ref nm _, h => by simp only [D.ren]; rw [hfg nm h]
  | .msl nm _, h => by simp only [D.ren]; rw [hfg nm h]
  | .aref nm _ _ _, h => by simp only [D.ren]; rw [hfg nm h]
  | .map nm, h => by simp only [D.ren]; rw [hfg nm h]
  | .yld nm, h => by simp only [D.ren]; rw [hfg nm h]
  | .clo _ a b, h => by
    simp only [D.clos, Bool.and_eq_true] at h
    simp only [D.ren]; rw [D.renL_id hfg a h.1, D.renL_id hfg b h.2]
  | .agg l, h => by simp only [D.clos] at h; simp only [D.ren]; rw [D.renL_id hfg l h]
  | .tup l, h => by simp only [D.clos] at h; simp only [D.ren]; rw [D.renL_id hfg l h]
theorem D.renL_id {f g : Name → Name} {dom : Name → Bool} (hfg : ∀ nm, dom nm = true → g (f nm) = nm) : ∀ l : List D, D.closL dom l = true → D.renL g (D.renL f l) = l
  | [], _ => rfl
  | d :: r, h => by
    simp only [D.closL, Bool.and_eq_true] at h
    simp only [D.renL]; rw [D.ren_id hfg d h.1, D.renL_id hfg r h.2]
end
theorem O.ren_id {f g : Name → Name} {dom : Name → Bool} (hfg : ∀ nm, dom nm = true → g (f nm) = nm) (o : O) (h : O.clos dom o = true) : (o.ren f).ren g = o := by
  cases o with
  | box cs => simp only [O.clos] at h; simp only [O.ren]; rw [D.renL_id hfg cs h]
  | loop env ps asg body st pend =>
    simp only [O.clos] at h
    simp only [O.ren, List.map_map, O.loop.injEq, and_true]
    refine List.ext_getElem (by simp) fun i h1 h2 => ?_
    have := closL_mem (l := env.map (·.d)) (i := i) (by simpa using h2) h
    simp only [List.getElem_map, Function.comp_apply, E.ren] at this ⊢
    rw [D.ren_id hfg _ this]
  | _ => rfl

/-! what a call reaches -/
mutual
def namesD : D → List Name
  | .ref nm _ => [nm]
  | .msl nm _ => [nm]
  | .aref nm _ _ _ => [nm]
  | .map nm => [nm]
  | .yld nm => [nm]
  | .clo _ a b => namesL a ++ namesL b
  | .agg l => namesL l
  | .tup l => namesL l
  | _ => []
def namesL : List D → List Name
  | [] => []
  | d :: r => namesD d ++ namesL r
end
def namesO : O → List Name
  | .box cs => namesL cs
  | .loop env _ _ _ _ _ => namesL (env.map (·.d))
  | _ => []
def inL (L : List Name) (nm : Name) : Bool := L.any fun x => x == nm
def reachL (obj : Name → Option O) : Nat → List Name → List Name → List Name
  | 0, _, acc => acc
  | _ + 1, [], acc => acc
  | n + 1, x :: todo, acc => if inL acc x = true then reachL obj n todo acc else reachL obj n ((match obj x with | some o => namesO o | none => []) ++ todo) (acc ++ [x])
def reach (obj : Name → Option O) (ds : List D) : List Name := reachL obj 3000 (namesL ds) []

theorem inL_iff {L : List Name} {nm : Name} : inL L nm = true ↔ nm ∈ L := by
  simp only [inL, List.any_eq_true, beq_iff_eq]
  exact ⟨fun ⟨x, h, e⟩ => e ▸ h, fun h => ⟨nm, h, rfl⟩⟩

theorem reachL_acc {obj : Name → Option O} : ∀ (n : Nat) (todo acc : List Name), ∀ nm ∈ acc, nm ∈ reachL obj n todo acc
  | 0, _, _, _, h => h
  | _ + 1, [], _, _, h => h
  | n + 1, x :: todo, acc, nm, h => by
    simp only [reachL]
    split
    · exact reachL_acc n _ _ nm h
    · exact reachL_acc n _ _ nm (by simp [h])
theorem reachL_nodup {obj : Name → Option O} : ∀ (n : Nat) (todo acc : List Name), acc.Nodup → (reachL obj n todo acc).Nodup
  | 0, _, _, h => h
  | _ + 1, [], _, h => h
  | n + 1, x :: todo, acc, h => by
    simp only [reachL]
    split
    · exact reachL_nodup n _ _ h
    · rename_i hx
      refine reachL_nodup n _ _ (List.nodup_append.2 ⟨h, by simp, fun a ha b hb => ?_⟩)
      simp only [List.mem_singleton] at hb
      subst hb
      rintro rfl
      exact hx (inL_iff.2 ha)
theorem reachL_agr {obj obj2 : Name → Option O} : ∀ (n : Nat) (todo acc : List Name), Agr (reachL obj n todo acc) obj obj2 → reachL obj2 n todo acc = reachL obj n todo acc
  | 0, _, _, _ => rfl
  | _ + 1, [], _, _ => rfl
  | n + 1, x :: todo, acc, h => by
    simp only [reachL] at h ⊢
    split
    · rename_i hx; rw [if_pos hx] at h; exact reachL_agr n _ _ h
    · rename_i hx
      rw [if_neg hx] at h
      have hx' : obj2 x = obj x := h x (reachL_acc n _ _ x (by simp))
      rw [hx']
      exact reachL_agr n _ _ h

/-! the names within a call: what it reaches, and what it makes -/
def idx : List Name → Name → Nat
  | [], _ => 0
  | x :: r, nm => if x = nm then 0 else idx r nm + 1
def cin (L : List Name) (nm : Name) : Name := [idx L nm, 1]
def cout (L : List Name) (t : Name) : Name → Name
  | [i, 1] => L.getD i []
  | x => x ++ t
def isOut : Name → Bool
  | [_, 1] => true
  | _ => false

theorem idx_get : ∀ {L : List Name} {nm : Name}, nm ∈ L → ∃ h : idx L nm < L.length, L[idx L nm] = nm
  | x :: r, nm, h => by
    simp only [idx]
    by_cases e : x = nm
    · subst e; simp
    · simp only [if_neg e]
      obtain ⟨h1, h2⟩ := idx_get (L := r) (nm := nm) (by rcases List.mem_cons.1 h with h | h; · exact (e h.symm).elim
                                                         · exact h)
      exact ⟨by simp; omega, by simpa using h2⟩
theorem cout_cin {L : List Name} {t nm : Name} (h : nm ∈ L) : cout L t (cin L nm) = nm := by
  obtain ⟨h1, h2⟩ := idx_get h
  show L.getD (idx L nm) [] = nm
  rw [List.getD_eq_getElem?_getD, List.getElem?_eq_getElem h1]; simpa using h2
theorem cout_new {L : List Name} {t x : Name} (h : isOut x = false) : cout L t x = x ++ t := by
  unfold cout
  split
  · simp [isOut] at h
  · rfl
theorem isOut_iff {x : Name} : isOut x = true ↔ ∃ i, x = [i, 1] := by
  constructor
  · intro h
    unfold isOut at h
    split at h
    · exact ⟨_, rfl⟩
    · cases h
  · rintro ⟨i, rfl⟩; rfl
theorem own_out (i : Nat) : own [0] [i, 1] = false := by simp [own]
theorem idx_at {L : List Name} (hn : L.Nodup) {i : Nat} (h : i < L.length) : idx L L[i] = i := by
  obtain ⟨h1, h2⟩ := idx_get (List.getElem_mem h)
  exact (List.getElem_inj hn).1 h2

/-- What a call of it comes to: what it changes of what it reaches, what it makes, and what it returns. -/
structure Out where
  upd : List (Nat × O)
  new : List (Name × O)
  d : D
  deriving Inhabited

def lastU : List (Nat × O) → Nat → O → O
  | [], _, o => o
  | (j, o') :: r, i, o => lastU r i (if j = i then o' else o)
def putU (L : List Name) (t : Name) : List (Nat × O) → (Name → Option O) → (Name → Option O)
  | [], obj => obj
  | (i, o) :: r, obj => putU L t r (upd obj (L.getD i []) (some (o.ren (cout L t))))
def putN (L : List Name) (t : Name) : List (Name × O) → (Name → Option O) → (Name → Option O)
  | [], obj => obj
  | (x, o) :: r, obj => putN L t r (upd obj (x ++ t) (some (o.ren (cout L t))))

theorem putU_at {L : List Name} {t : Name} (hn : L.Nodup) : ∀ (l : List (Nat × O)) (obj : Name → Option O) {i : Nat} (h : i < L.length) (o : O) (_ : (l.all fun x => decide (x.1 < L.length)) = true) (_ : obj L[i] = some (o.ren (cout L t))),
    putU L t l obj L[i] = some ((lastU l i o).ren (cout L t))
  | [], obj, i, h, o, _, ho => ho
  | (j, o') :: r, obj, i, h, o, hl, ho => by
    simp only [List.all_cons, Bool.and_eq_true, decide_eq_true_eq] at hl
    simp only [putU, lastU]
    refine putU_at hn r _ h _ hl.2 ?_
    have e : L.getD j [] = L[j] := by rw [List.getD_eq_getElem?_getD, List.getElem?_eq_getElem hl.1]; rfl
    rw [e]
    by_cases hj : j = i
    · subst hj; rw [upd_same, if_pos rfl]
    · rw [upd_ne _ _ _ (fun e' => hj ((List.getElem_inj hn).1 e').symm), if_neg hj]; exact ho
theorem putU_ne {L : List Name} {t : Name} : ∀ (l : List (Nat × O)) (obj : Name → Option O) {nm : Name} (_ : (l.all fun x => decide (x.1 < L.length)) = true) (_ : nm ∉ L), putU L t l obj nm = obj nm
  | [], _, _, _, _ => rfl
  | (j, o') :: r, obj, nm, hl, hn => by
    simp only [List.all_cons, Bool.and_eq_true, decide_eq_true_eq] at hl
    simp only [putU]
    rw [putU_ne r _ hl.2 hn]
    refine upd_ne _ _ _ ?_
    rintro rfl
    refine hn ?_
    rw [List.getD_eq_getElem?_getD, List.getElem?_eq_getElem hl.1]; simp
theorem putN_ne {L : List Name} {t : Name} : ∀ (l : List (Name × O)) (obj : Name → Option O) {nm : Name} (_ : ∀ x ∈ l, nm ≠ x.1 ++ t), putN L t l obj nm = obj nm
  | [], _, _, _ => rfl
  | (x, o') :: r, obj, nm, hl => by
    simp only [putN]
    rw [putN_ne r _ fun y hy => hl y (by simp [hy])]
    exact upd_ne _ _ _ (hl (x, o') (by simp))
theorem putN_at {L : List Name} {t : Name} : ∀ (l : List (Name × O)) (obj : Name → Option O) (_ : (l.map (·.1)).Nodup) {x : Name} {o : O} (_ : (x, o) ∈ l), putN L t l obj (x ++ t) = some (o.ren (cout L t))
  | (y, o') :: r, obj, hn, x, o, h => by
    simp only [List.map_cons, List.nodup_cons] at hn
    simp only [putN]
    rcases List.mem_cons.1 h with h | h
    · cases h
      rw [putN_ne r _ fun z hz e => hn.1 (by
        have : _ = z.1 := List.append_cancel_right e
        rw [this]; exact List.mem_map_of_mem hz)]
      exact upd_same _ _ _
    · exact putN_at r _ hn.2 h

def domC (n : Nat) (new : List (Name × O)) : Name → Bool
  | [i, 1] => decide (i < n)
  | x => new.any fun y => y.1 == x

end Go.Eng
