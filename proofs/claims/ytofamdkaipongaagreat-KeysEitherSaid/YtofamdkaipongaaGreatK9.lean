import Derived.Test.YtofamdkaipongaaGreatK8
/- A part of the proof engine and of the walks (texts KW24 to KW29). -/
set_option linter.all false
set_option linter.unnecessarySimpa false
set_option linter.unusedSimpArgs false
set_option linter.unusedVariables false
set_option linter.constructorNameAsVariable false
namespace Go.Eng
open Go Go.Proofs

/-! slices.DeleteFunc at deeds: its contract -/
def pO (g : FuncId) (bs : List O) : Deed → Bool := match g, bs with
  | 141, [.box [.v (.int _ k)]] => fun d => !countsB d.kn d.un k
  | 143, [.box [.v (.int _ lo)], .box [.v (.int _ pe)]] => fun d => !isOfB d lo pe
  | 77, [.box [.v (.int _ a), .v (.int _ b)]] => fun d => d.pa == a && d.no == b
  | _, _ => fun _ => false
def famO (g : FuncId) (bs : List O) (refs : List D) : Prop :=
  (g = 141 ∧ refs = [.ref [1, 1] 0] ∧ ∃ k, bs = [.box [.v (vInt k)]]) ∨ (g = 143 ∧ refs = [.ref [1, 1] 0, .ref [2, 1] 0] ∧ ∃ k j, bs = [.box [.v (vInt k)], .box [.v (vInt j)]]) ∨
    (g = 77 ∧ refs = [.ref [1, 1] 0] ∧ ∃ k j, bs = [.box [.v (vInt k), .v (vInt j)]])
def famN (g : FuncId) (bs : List O) (refs : List D) : Prop :=
  (g = 141 ∧ refs = [.ref [0, 1] 0] ∧ ∃ k, bs = [.box [.v (vInt k)]]) ∨ (g = 143 ∧ refs = [.ref [0, 1] 0, .ref [1, 1] 0] ∧ ∃ k j, bs = [.box [.v (vInt k)], .box [.v (vInt j)]]) ∨
    (g = 77 ∧ refs = [.ref [0, 1] 0] ∧ ∃ k j, bs = [.box [.v (vInt k), .v (vInt j)]])
set_option maxRecDepth 10000 in
theorem w75n {Γ : FuncId → Option Spec} (hΓ : ∀ f s, Γ f = some s → SSound Tryz.prog f s) {g : FuncId} {sI : Spec} {refs : List D} (hI : Γ 140 = some sI)
    {H : Name → Option O} (hO1 : ∀ hs, OutC [0] (domOf [0] hs) H = True) (hcl : ∀ hs, D.closL (domOf [0] hs) refs = true)
    (hi : ∀ (obj : Name → Option O) (t : Name), (∀ i, obj [i, 1] = H [i, 1]) → sI.app obj t [.nilsl, .clo (.func g) [] refs] = ⟨True, .v (vInt (-1)), obj⟩) :
    ∃ c, Tryz.f75.body = some c ∧ CL Tryz.prog [c] (mkS 42 [0] H [(0, ⟨true, .nilsl⟩), (1, ⟨true, .clo (.func g) [] refs⟩)] []) (fun e σ => (e = .normal ∨ e = .ret) ∧ (σ.env 4).c = true ∧ (σ.env 4).d = .nilsl ∧ ∀ i, σ.obj [i, 1] = H [i, 1]) := by
  refine ⟨_, rfl, ?_⟩
  repeat refine cl_seq ?_
  refine cl_rs hΓ [0,1] [] fun K' hK => ?_
  simp only [go_sem, Nat.reduceLT, Nat.reduceAdd, Nat.reduceEqDiff, Nat.reduceSub, Nat.reduceMul, Nat.reduceBEq, reduceIte, reduceCtorEq, hO1, hcl]
  repeat (refine ⟨by first | exact Bool.or_not_self _ | exact Bool.not_or_self _ | exact fun _ => by decide | exact fun h => ⟨h, by decide⟩ | omega | (simp only [decide_eq_true_eq]; omega) | exact xD | exact fun h => ⟨h, xD⟩ | exact xDD | exact fun h => ⟨h, xDD⟩ | exact ⟨_, rfl⟩ | exact fun h => ⟨h, _, rfl⟩ | exact ⟨_, _, rfl⟩ | exact fun h => ⟨h, _, _, rfl⟩ | exact fun h => ⟨h, _, _, _, rfl⟩ | exact ⟨_, _, _, _, rfl⟩ | exact fun h => ⟨h, _, _, _, _, rfl⟩ | exact ⟨[_, _], rfl⟩ | (simp; done) | (simp_all; done) | (simp_all; omega), ?_⟩)
  refine hK _ ?_ ?_
  · simp only [go_sem, Nat.reduceLT, Nat.reduceAdd, Nat.reduceEqDiff, Nat.reduceSub, Nat.reduceMul, Nat.reduceBEq, reduceIte, reduceCtorEq, hO1, hcl]
  clear K' hK
  simp only [go_sem, Nat.reduceLT, Nat.reduceAdd, Nat.reduceEqDiff, Nat.reduceSub, Nat.reduceMul, Nat.reduceBEq, reduceIte, reduceCtorEq, hO1, hcl]
  repeat refine cl_seq ?_
  refine cl_rs hΓ [0,1,5] [] fun K' hK => ?_
  simp only [go_sem, Nat.reduceLT, Nat.reduceAdd, Nat.reduceEqDiff, Nat.reduceSub, Nat.reduceMul, Nat.reduceBEq, reduceIte, reduceCtorEq, hO1, hcl, hI, hi, implies_true]
  repeat (refine ⟨by first | exact Bool.or_not_self _ | exact Bool.not_or_self _ | exact fun _ => by decide | exact fun h => ⟨h, by decide⟩ | omega | (simp only [decide_eq_true_eq]; omega) | exact xD | exact fun h => ⟨h, xD⟩ | exact xDD | exact fun h => ⟨h, xDD⟩ | exact ⟨_, rfl⟩ | exact fun h => ⟨h, _, rfl⟩ | exact ⟨_, _, rfl⟩ | exact fun h => ⟨h, _, _, rfl⟩ | exact fun h => ⟨h, _, _, _, rfl⟩ | exact ⟨_, _, _, _, rfl⟩ | exact fun h => ⟨h, _, _, _, _, rfl⟩ | exact ⟨[_, _], rfl⟩ | (simp; done) | (simp_all; done) | (simp_all; omega), ?_⟩)
  refine hK _ ?_ ?_
  · simp only [go_sem, Nat.reduceLT, Nat.reduceAdd, Nat.reduceEqDiff, Nat.reduceSub, Nat.reduceMul, Nat.reduceBEq, reduceIte, reduceCtorEq, hO1, hcl, hI, hi, implies_true]
  clear K' hK
  simp only [go_sem, Nat.reduceLT, Nat.reduceAdd, Nat.reduceEqDiff, Nat.reduceSub, Nat.reduceMul, Nat.reduceBEq, reduceIte, reduceCtorEq, hO1, hcl, hI, hi, implies_true]
  repeat refine cl_seq ?_
  refine cl_rs hΓ [0,1,5,12] [] fun K' hK => ?_
  simp only [go_sem, Nat.reduceLT, Nat.reduceAdd, Nat.reduceEqDiff, Nat.reduceSub, Nat.reduceMul, Nat.reduceBEq, reduceIte, reduceCtorEq, hO1, hcl]
  repeat (refine ⟨by first | exact Bool.or_not_self _ | exact Bool.not_or_self _ | exact fun _ => by decide | exact fun h => ⟨h, by decide⟩ | omega | (simp only [decide_eq_true_eq]; omega) | exact xD | exact fun h => ⟨h, xD⟩ | exact xDD | exact fun h => ⟨h, xDD⟩ | exact ⟨_, rfl⟩ | exact fun h => ⟨h, _, rfl⟩ | exact ⟨_, _, rfl⟩ | exact fun h => ⟨h, _, _, rfl⟩ | exact fun h => ⟨h, _, _, _, rfl⟩ | exact ⟨_, _, _, _, rfl⟩ | exact fun h => ⟨h, _, _, _, _, rfl⟩ | exact ⟨[_, _], rfl⟩ | (simp; done) | (simp_all; done) | (simp_all; omega), ?_⟩)
  refine hK _ ?_ ?_
  · simp only [go_sem, Nat.reduceLT, Nat.reduceAdd, Nat.reduceEqDiff, Nat.reduceSub, Nat.reduceMul, Nat.reduceBEq, reduceIte, reduceCtorEq, hO1, hcl]
  clear K' hK
  simp only [go_sem, Nat.reduceLT, Nat.reduceAdd, Nat.reduceEqDiff, Nat.reduceSub, Nat.reduceMul, Nat.reduceBEq, reduceIte, reduceCtorEq, hO1, hcl]
  repeat refine cl_seq ?_
  refine cl_cond rfl rfl (fun hb => ?_) (fun hb => ?_)
  · repeat refine cl_seq ?_
    repeat refine cl_seq ?_
    refine cl_rs hΓ [4] [] fun K' hK => ?_
    simp only [go_sem, Nat.reduceLT, Nat.reduceAdd, Nat.reduceEqDiff, Nat.reduceSub, Nat.reduceMul, Nat.reduceBEq, reduceIte, reduceCtorEq, hO1]
    repeat (refine ⟨by first | exact Bool.or_not_self _ | exact Bool.not_or_self _ | exact fun _ => by decide | exact fun h => ⟨h, by decide⟩ | omega | (simp only [decide_eq_true_eq]; omega) | exact xD | exact fun h => ⟨h, xD⟩ | exact xDD | exact fun h => ⟨h, xDD⟩ | exact ⟨_, rfl⟩ | exact fun h => ⟨h, _, rfl⟩ | exact ⟨_, _, rfl⟩ | exact fun h => ⟨h, _, _, rfl⟩ | exact fun h => ⟨h, _, _, _, rfl⟩ | exact ⟨_, _, _, _, rfl⟩ | exact fun h => ⟨h, _, _, _, _, rfl⟩ | exact ⟨[_, _], rfl⟩ | (simp; done) | (simp_all; done) | (simp_all; omega), ?_⟩)
    refine hK _ ?_ ?_
    · simp only [go_sem, Nat.reduceLT, Nat.reduceAdd, Nat.reduceEqDiff, Nat.reduceSub, Nat.reduceMul, Nat.reduceBEq, reduceIte, reduceCtorEq, hO1]
    clear K' hK
    simp only [go_sem, Nat.reduceLT, Nat.reduceAdd, Nat.reduceEqDiff, Nat.reduceSub, Nat.reduceMul, Nat.reduceBEq, reduceIte, reduceCtorEq, hO1]
    refine cl_ret ?_
    simp only [go_sem, Nat.reduceLT, Nat.reduceAdd, Nat.reduceEqDiff, Nat.reduceSub, Nat.reduceMul, Nat.reduceBEq, reduceIte, reduceCtorEq]
    first | exact .inr trivial | exact ⟨.inr trivial, fun i => rfl⟩
  · simp at hb
open Classical in
noncomputable def delOut (p : Deed → Bool) (l : List Deed) : Out :=
  if ∀ d ∈ l, p d = false then ⟨[], [], .msl [0, 1] l.length⟩ else ⟨[(0, .farr 9 (delZ p l))], [], .v (.sl ((keepD p l).map encD))⟩
noncomputable def delC : CSpec where
  pre := fun os ds => (∃ (l : List Deed) (g : FuncId) (bs : List O) (refs : List D), os = .arr 9 (l.map encD) :: bs ∧ ds = [.msl [0, 1] l.length, .clo (.func g) [] refs] ∧ famO g bs refs ∧ l.length < 1000000) ∨
    ∃ (g : FuncId) (refs : List D), ds = [.nilsl, .clo (.func g) [] refs] ∧ famN g os refs
  out := fun os ds => match os, ds with
    | .arr _ L :: bs, [.msl _ _, .clo (.func g) _ _] => delOut (pO g bs) (L.map decD)
    | _, _ => ⟨[], [], .nilsl⟩
theorem delC_out {l : List Deed} {g : FuncId} {bs : List O} {refs : List D} {nm : Name} {k : Nat} : delC.out (.arr 9 (l.map encD) :: bs) [.msl nm k, .clo (.func g) [] refs] = delOut (pO g bs) l := by
  simp only [delC, decD_map]
theorem s75 : SSound Tryz.prog 75 delC.toSpec := by
  refine csound (nt := 42) (rs := [.tmp 4]) Tryz.func75 rfl (by rfl) (by kernel_rfl) (enter_of Tryz.func75 rfl (by kernel_rfl)) (notYid _ (by decide)) ?_
  rintro os ds (⟨l, g, bs, refs, rfl, rfl, hf, hl⟩ | ⟨g, refs, rfl, hf⟩)
  rotate_left
  · refine ⟨Nat.le_of_ble_eq_true rfl, ?_⟩
    have hout : delC.out os [.nilsl, .clo (.func g) [] refs] = ⟨[], [], .nilsl⟩ := by
      simp only [delC]
    rw [hout]
    have hbc : ∀ o ∈ os, ∀ dom : Name → Bool, (∀ i, dom [i, 1] = true) → O.clos dom o = true := by
      rcases hf with ⟨_, _, k, rfl⟩ | ⟨_, _, k, j, rfl⟩ | ⟨_, _, k, j, rfl⟩
      · intro o ho dom _; simp only [List.mem_singleton] at ho; subst ho; rfl
      · intro o ho dom _
        simp only [List.mem_cons, List.not_mem_nil, or_false] at ho
        rcases ho with rfl | rfl <;> rfl
      · intro o ho dom _; simp only [List.mem_singleton] at ho; subst ho; rfl
    have hO1 : ∀ hs, OutC [0] (domOf [0] hs) (outH os) = True := fun hs => eq_true (outC_outs hbc hs)
    have hcl : ∀ hs, D.closL (domOf [0] hs) refs = true := by
      intro hs
      have h1 : domOf [0] hs [1, 1] = true := by simp only [domOf, own_out01, Bool.not_false, Bool.true_or]
      have h2 : domOf [0] hs [0, 1] = true := by simp only [domOf, own_out01, Bool.not_false, Bool.true_or]
      rcases hf with ⟨_, rfl, _⟩ | ⟨_, rfl, _⟩ | ⟨_, rfl, _⟩ <;> simp only [D.closL, D.clos, h1, h2, Bool.and_self]
    have key : ∃ c, Tryz.f75.body = some c ∧ CL Tryz.prog [c] (mkS 42 [0] (outH os) [(0, ⟨true, .nilsl⟩), (1, ⟨true, .clo (.func g) [] refs⟩)] []) (fun e σ => (e = .normal ∨ e = .ret) ∧ (σ.env 4).c = true ∧ (σ.env 4).d = .nilsl ∧ ∀ i, σ.obj [i, 1] = outH os [i, 1]) := by
      rcases hf with ⟨rfl, rfl, k, rfl⟩ | ⟨rfl, rfl, k, j, rfl⟩ | ⟨rfl, rfl, k, j, rfl⟩
      · exact w75n K22_sound (show K22 140 = some _ from rfl) hO1 hcl (fun obj t hb => sIdx_n1 ((hb 0).trans rfl))
      · exact w75n K22_sound (show K22 140 = some _ from rfl) hO1 hcl (fun obj t hb => sIdx_n2 (by decide) ((hb 0).trans rfl) ((hb 1).trans rfl))
      · exact w75n K22_sound (show K22 140 = some _ from rfl) hO1 hcl (fun obj t hb => sIdx_n3 ((hb 0).trans rfl))
    obtain ⟨c, hc, h⟩ := key
    have hc2 : ∀ c2, Tryz.f75.body = some c2 → c2 = c := fun c2 h2 => by rw [h2] at hc; exact Option.some.inj hc
    rw [← hc2 _ rfl] at h
    refine CW.mono (cl_of h) ?_
    rintro e σ ⟨he, hc4, h1, h2⟩
    have hb : ∀ (bs' : List O) (k : Nat), (∀ i, σ.obj [k + i, 1] = bs'[i]?) → objsOk σ [] k bs' := by
      intro bs'
      induction bs' with
      | nil => intros; trivial
      | cons o r ih =>
        intro k hk
        refine ⟨?_, ih (k + 1) fun i => ?_⟩
        · have h0 := hk 0
          simpa [lastU] using h0
        · have := hk (i + 1)
          rw [List.getElem?_cons_succ] at this
          rw [show k + 1 + i = k + (i + 1) by omega]
          exact this
    have hret : (resAll Tryz.prog σ [.tmp 4]).ok ∧ (resAll Tryz.prog σ [.tmp 4]).d = .nilsl ∧ endC os ⟨[], [], .nilsl⟩ σ := by
      refine ⟨hc4, h1, hb os 0 fun i => ?_, trivial, ?_⟩
      · rw [Nat.zero_add, h2 i]; rfl
      · simp [D.clos, distinct]
    rcases he with rfl | rfl
    · exact hret
    · exact hret
  refine ⟨Nat.le_of_ble_eq_true rfl, ?_⟩
  rw [delC_out]
  have hH0 : outH (.arr 9 (l.map encD) :: bs) [0, 1] = some (.arr 9 (l.map encD)) := rfl
  have hbc : ∀ o ∈ bs, ∀ dom : Name → Bool, (∀ i, dom [i, 1] = true) → O.clos dom o = true := by
    rcases hf with ⟨_, _, k, rfl⟩ | ⟨_, _, k, j, rfl⟩ | ⟨_, _, k, j, rfl⟩
    · intro o ho dom _; simp only [List.mem_singleton] at ho; subst ho; rfl
    · intro o ho dom _
      simp only [List.mem_cons, List.not_mem_nil, or_false] at ho
      rcases ho with rfl | rfl <;> rfl
    · intro o ho dom _; simp only [List.mem_singleton] at ho; subst ho; rfl
  have hO1 : ∀ hs, OutC [0] (domOf [0] hs) (outH (.arr 9 (l.map encD) :: bs)) = True := fun hs => eq_true (outC_outs (fun o ho dom hd => by
    rcases List.mem_cons.1 ho with rfl | ho
    · rfl
    · exact hbc o ho dom hd) hs)
  have hO2 : ∀ hs sz L, OutC [0] (domOf [0] hs) (upd (outH (.arr 9 (l.map encD) :: bs)) [0, 1] (some (.arr sz L))) = True := fun hs sz L => eq_true (OutC_set rfl ((hO1 hs).symm ▸ trivial))
  have hO3 : ∀ hs sz L, OutC [0] (domOf [0] hs) (upd (outH (.arr 9 (l.map encD) :: bs)) [0, 1] (some (.farr sz L))) = True := fun hs sz L => eq_true (OutC_set rfl ((hO1 hs).symm ▸ trivial))
  have hcl : ∀ hs, D.closL (domOf [0] hs) refs = true := by
    intro hs
    have h1 : domOf [0] hs [1, 1] = true := by simp only [domOf, own_out01, Bool.not_false, Bool.true_or]
    have h2 : domOf [0] hs [2, 1] = true := by simp only [domOf, own_out01, Bool.not_false, Bool.true_or]
    rcases hf with ⟨_, rfl, _⟩ | ⟨_, rfl, _⟩ | ⟨_, rfl, _⟩ <;> simp only [D.closL, D.clos, h1, h2, Bool.and_self]
  have key : ∃ c, Tryz.f75.body = some c ∧ CL Tryz.prog [c] (mkS 42 [0] (outH (.arr 9 (l.map encD) :: bs)) [(0, ⟨true, .msl [0, 1] l.length⟩), (1, ⟨true, .clo (.func g) [] refs⟩)] []) (fun e σ => (e = .normal ∨ e = .ret) ∧ (σ.env 4).c = true ∧
      ((∀ d ∈ l, pO g bs d = false) ∧ (σ.env 4).d = .msl [0, 1] l.length ∧ σ.obj [0, 1] = some (.arr 9 (l.map encD)) ∧ (∀ i, σ.obj [i + 1, 1] = outH (.arr 9 (l.map encD) :: bs) [i + 1, 1]) ∨
        (¬ ∀ d ∈ l, pO g bs d = false) ∧ (σ.env 4).d = .v (.sl ((keepD (pO g bs) l).map encD)) ∧ σ.obj [0, 1] = some (.farr 9 (delZ (pO g bs) l)) ∧ (∀ i, σ.obj [i + 1, 1] = outH (.arr 9 (l.map encD) :: bs) [i + 1, 1]))) := by
    rcases hf with ⟨rfl, rfl, k, rfl⟩ | ⟨rfl, rfl, k, j, rfl⟩ | ⟨rfl, rfl, k, j, rfl⟩
    · exact w75 K22_sound (by decide) (show K22 141 = some _ from rfl) (show K22 140 = some _ from rfl) hl hH0 hO1 hO2 hO3 hcl
        (fun obj t h0 hb => sIdx_1 (by decide) h0 rfl ((hb 0).trans rfl)) fun obj t d hb => sDp_1 ((hb 0).trans rfl)
    · exact w75 K22_sound (by decide) (show K22 143 = some _ from rfl) (show K22 140 = some _ from rfl) hl hH0 hO1 hO2 hO3 hcl
        (fun obj t h0 hb => sIdx_2 (by decide) (by decide) (by decide) h0 rfl ((hb 0).trans rfl) ((hb 1).trans rfl)) fun obj t d hb => sDpp_1 (by decide) ((hb 0).trans rfl) ((hb 1).trans rfl)
    · exact w75 K22_sound (by decide) (show K22 77 = some _ from rfl) (show K22 140 = some _ from rfl) hl hH0 hO1 hO2 hO3 hcl
        (fun obj t h0 hb => sIdx_3 (by decide) h0 rfl ((hb 0).trans rfl)) fun obj t d hb => sDp2_1 ((hb 0).trans rfl)
  obtain ⟨c, hc, h⟩ := key
  obtain ⟨c', hc', h'⟩ : ∃ c', Tryz.f75.body = some c' ∧ c' = c := ⟨c, hc, rfl⟩
  have e : Tryz.f75.body = some c := hc
  have fin : ∀ e σ, ((e = .normal ∨ e = .ret) ∧ (σ.env 4).c = true ∧
      ((∀ d ∈ l, pO g bs d = false) ∧ (σ.env 4).d = .msl [0, 1] l.length ∧ σ.obj [0, 1] = some (.arr 9 (l.map encD)) ∧ (∀ i, σ.obj [i + 1, 1] = outH (.arr 9 (l.map encD) :: bs) [i + 1, 1]) ∨
        (¬ ∀ d ∈ l, pO g bs d = false) ∧ (σ.env 4).d = .v (.sl ((keepD (pO g bs) l).map encD)) ∧ σ.obj [0, 1] = some (.farr 9 (delZ (pO g bs) l)) ∧ (∀ i, σ.obj [i + 1, 1] = outH (.arr 9 (l.map encD) :: bs) [i + 1, 1]))) →
      retC Tryz.prog [.tmp 4] (.arr 9 (l.map encD) :: bs) (delOut (pO g bs) l) e σ := by
    rintro e σ ⟨he, hc4, h⟩
    have hb : ∀ (bs' : List O) (u : List (Nat × O)) (k : Nat), (∀ x ∈ u, x.1 = 0) → (∀ i, σ.obj [k + 1 + i, 1] = bs'[i]?) → objsOk σ u (k + 1) bs' := by
      intro bs'
      induction bs' with
      | nil => intros; trivial
      | cons o r ih =>
        intro u k hu hk
        refine ⟨?_, ih u (k + 1) hu fun i => ?_⟩
        · have h0 := hk 0
          simp only [Nat.add_zero, List.getElem?_cons_zero] at h0
          rw [h0]
          have : ∀ (u : List (Nat × O)) (q : O), (∀ x ∈ u, x.1 = 0) → lastU u (k + 1) q = q := by
            intro u
            induction u with
            | nil => intros; rfl
            | cons a v iv =>
              intro q hq
              obtain ⟨a1, a2⟩ := a
              have : a1 = 0 := hq (a1, a2) (by simp)
              subst this
              simp only [lastU, if_neg (show ¬ 0 = k + 1 by omega)]
              exact iv q fun x hx => hq x (by simp [hx])
          rw [this u o hu]
        · have := hk (i + 1)
          rw [List.getElem?_cons_succ] at this
          rw [show k + 1 + 1 + i = k + 1 + (i + 1) by omega]
          exact this
    have hret : (resAll Tryz.prog σ [.tmp 4]).ok ∧ (resAll Tryz.prog σ [.tmp 4]).d = (delOut (pO g bs) l).d ∧ endC (.arr 9 (l.map encD) :: bs) (delOut (pO g bs) l) σ := by
      refine ⟨hc4, ?_, ?_⟩
      · show (σ.env 4).d = _
        unfold delOut
        rcases h with ⟨h1, h2, _⟩ | ⟨h1, h2, _⟩
        · rw [if_pos h1, h2]
        · rw [if_neg h1, h2]
      · unfold delOut
        rcases h with ⟨h1, _, h3, h4⟩ | ⟨h1, _, h3, h4⟩
        · rw [if_pos h1]
          refine ⟨⟨h3, hb bs [] 0 (by simp) fun i => ?_⟩, trivial, ?_⟩
          · rw [show 0 + 1 + i = i + 1 by omega, h4 i]; rfl
          · simp [D.clos, domC, distinct]
        · rw [if_neg h1]
          refine ⟨⟨h3, hb bs _ 0 (by simp) fun i => ?_⟩, trivial, ?_⟩
          · rw [show 0 + 1 + i = i + 1 by omega, h4 i]; rfl
          · simp [D.clos, O.clos, distinct]
    rcases he with rfl | rfl
    · exact hret
    · exact hret
  have hc2 : ∀ c2, Tryz.f75.body = some c2 → c2 = c := fun c2 h2 => by rw [h2] at hc; exact Option.some.inj hc
  rw [← hc2 _ rfl] at h
  exact CW.mono (cl_of h) fin

/-! as it is called -/
noncomputable def sDel : Spec := delC.toSpec
theorem reach1 {obj : Name → Option O} {nm b : Name} {n sz g : Nat} {L : List V} {cs : List V} (hb : b ≠ nm) (ho : obj nm = some (.arr sz L)) (h : obj b = some (.box (cs.map .v))) :
    reach obj [.msl nm n, .clo (.func g) [] [.ref b 0]] = [nm, b] := by
  have h0 : namesL [.msl nm n, .clo (.func g) [] [.ref b 0]] = [nm, b] := rfl
  have hn : ∀ cs : List V, namesL (cs.map D.v) = [] := by
    intro cs
    induction cs with
    | nil => rfl
    | cons x r ih => simp only [List.map_cons, namesL, namesD, List.nil_append, ih]
  have hnb : (nm == b) = false := by simpa using fun e => hb e.symm
  unfold reach
  rw [h0]
  show reachL obj (2997 + 1 + 1 + 1) [nm, b] [] = [nm, b]
  simp only [reachL, inL, List.any_nil, Bool.false_eq_true, if_false, ho, h, namesO, List.nil_append, hn, List.any_cons, hnb, Bool.or_self]
  rfl
theorem del_app1 {obj : Name → Option O} {t nm b : Name} {n g : Nat} {l : List Deed} {cs : List V} {bs : List O} (hbs : bs = [.box (cs.map .v)]) (hf : famO g bs [.ref [1, 1] 0]) (hl : l.length < 1000000) (hb : b ≠ nm) (ho : obj nm = some (.arr 9 (l.map encD))) (hn : n = l.length) (h : obj b = some (.box (cs.map .v))) :
    ((∀ d ∈ l, pO g bs d = false) → sDel.app obj t [.msl nm n, .clo (.func g) [] [.ref b 0]] = ⟨True, .msl nm l.length, obj⟩) ∧
    (¬ (∀ d ∈ l, pO g bs d = false) → sDel.app obj t [.msl nm n, .clo (.func g) [] [.ref b 0]] = ⟨True, .v (.sl ((keepD (pO g bs) l).map encD)), upd obj nm (some (.farr 9 (delZ (pO g bs) l)))⟩) := by
  subst hn
  have hr := reach1 (n := l.length) (g := g) hb ho h
  have hren : ∀ (f : Name → Name) (cs : List V), D.renL f (cs.map D.v) = cs.map D.v := by
    intro f cs
    induction cs with
    | nil => rfl
    | cons x r ih => simp only [List.map_cons, D.renL, D.ren, ih]
  have hcl : ∀ (dom : Name → Bool) (cs : List V), D.closL dom (cs.map D.v) = true := by
    intro dom cs
    induction cs with
    | nil => rfl
    | cons x r ih => simp only [List.map_cons, D.closL, D.clos, ih, Bool.and_self]
  have h1 : cOs obj [.msl nm l.length, .clo (.func g) [] [.ref b 0]] = .arr 9 (l.map encD) :: bs := by
    unfold cOs
    rw [hr]
    simp only [List.map_cons, List.map_nil, canonO, ho, h, O.ren, hren, hbs]
  have hib : idx [nm, b] b = 1 := by simp [idx, hb.symm]
  have hin : idx [nm, b] nm = 0 := by simp [idx]
  have h2 : cDs obj [.msl nm l.length, .clo (.func g) [] [.ref b 0]] = [.msl [0, 1] l.length, .clo (.func g) [] [.ref [1, 1] 0]] := by
    unfold cDs
    rw [hr]
    simp only [D.renL, D.ren, cin, hib, hin]
  have hpre : delC.pre (.arr 9 (l.map encD) :: bs) [.msl [0, 1] l.length, .clo (.func g) [] [.ref [1, 1] 0]] := .inl ⟨l, g, bs, _, rfl, rfl, hf, hl⟩
  have e1 : ∀ o : Out, o.new = [] → (shut obj [nm, b] && D.closL (inL [nm, b]) [.msl nm l.length, .clo (.func g) [] [.ref b 0]] && fresh obj t o.new) = true := by
    intro o h0
    rw [h0]
    simp [shut, ho, h, O.clos, D.closL, D.clos, hcl, inL, fresh]
  constructor
  · intro ha
    have hout : delC.out (.arr 9 (l.map encD) :: bs) [.msl [0, 1] l.length, .clo (.func g) [] [.ref [1, 1] 0]] = ⟨[], [], .msl [0, 1] l.length⟩ := by
      rw [delC_out]; unfold delOut; rw [if_pos ha]
    unfold sDel
    simp only [CSpec.toSpec, h1, h2, hr, hout, e1 ⟨[], [], .msl [0, 1] l.length⟩ rfl, putU, putN, D.ren, cout, List.getD_cons_zero]
    congr 1
    simp only [eq_iff_iff, iff_true]
    exact ⟨trivial, hpre⟩
  · intro ha
    have hout : delC.out (.arr 9 (l.map encD) :: bs) [.msl [0, 1] l.length, .clo (.func g) [] [.ref [1, 1] 0]] = ⟨[(0, .farr 9 (delZ (pO g bs) l))], [], .v (.sl ((keepD (pO g bs) l).map encD))⟩ := by
      rw [delC_out]; unfold delOut; rw [if_neg ha]
    unfold sDel
    simp only [CSpec.toSpec, h1, h2, hr, hout, e1 ⟨[(0, .farr 9 (delZ (pO g bs) l))], [], .v (.sl ((keepD (pO g bs) l).map encD))⟩ rfl, putU, putN, D.ren, O.ren, List.getD_cons_zero]
    congr 1
    simp only [eq_iff_iff, iff_true]
    exact ⟨trivial, hpre⟩
theorem del_appN {obj : Name → Option O} {t b : Name} {g : Nat} {cs : List V} {bs : List O} (hbs : bs = [.box (cs.map .v)]) (hf : famN g bs [.ref [0, 1] 0]) (h : obj b = some (.box (cs.map .v))) :
    sDel.app obj t [.nilsl, .clo (.func g) [] [.ref b 0]] = ⟨True, .nilsl, obj⟩ := by
  have hn : ∀ cs : List V, namesL (cs.map D.v) = [] := by
    intro cs
    induction cs with
    | nil => rfl
    | cons x r ih => simp only [List.map_cons, namesL, namesD, List.nil_append, ih]
  have hr : reach obj [.nilsl, .clo (.func g) [] [.ref b 0]] = [b] := by
    have h0 : namesL [.nilsl, .clo (.func g) [] [.ref b 0]] = [b] := rfl
    unfold reach
    rw [h0]
    show reachL obj (2998 + 1 + 1) [b] [] = [b]
    simp only [reachL, inL, List.any_nil, Bool.false_eq_true, if_false, h, namesO, hn]
    rfl
  have hren : ∀ (f : Name → Name) (cs : List V), D.renL f (cs.map D.v) = cs.map D.v := by
    intro f cs
    induction cs with
    | nil => rfl
    | cons x r ih => simp only [List.map_cons, D.renL, D.ren, ih]
  have hcl : ∀ (dom : Name → Bool) (cs : List V), D.closL dom (cs.map D.v) = true := by
    intro dom cs
    induction cs with
    | nil => rfl
    | cons x r ih => simp only [List.map_cons, D.closL, D.clos, ih, Bool.and_self]
  have h1 : cOs obj [.nilsl, .clo (.func g) [] [.ref b 0]] = bs := by
    unfold cOs
    rw [hr]
    simp only [List.map_cons, List.map_nil, canonO, h, O.ren, hren, hbs]
  have hib : idx [b] b = 0 := by simp [idx]
  have h2 : cDs obj [.nilsl, .clo (.func g) [] [.ref b 0]] = [.nilsl, .clo (.func g) [] [.ref [0, 1] 0]] := by
    unfold cDs
    rw [hr]
    simp only [D.renL, D.ren, cin, hib]
  have hpre : delC.pre bs [.nilsl, .clo (.func g) [] [.ref [0, 1] 0]] := .inr ⟨g, _, rfl, hf⟩
  have hout : delC.out bs [.nilsl, .clo (.func g) [] [.ref [0, 1] 0]] = ⟨[], [], .nilsl⟩ := by
    simp only [delC]
  have e1 : (shut obj [b] && D.closL (inL [b]) [.nilsl, .clo (.func g) [] [.ref b 0]] && fresh obj t []) = true := by
    simp [shut, h, O.clos, D.closL, D.clos, hcl, inL, fresh]
  unfold sDel
  simp only [CSpec.toSpec, h1, h2, hr, hout, e1, putU, putN, D.ren]
  congr 1
  simp only [eq_iff_iff, iff_true]
  exact ⟨trivial, hpre⟩
end Go.Eng
namespace Go.Eng
open Go Go.Proofs

/-! what counts; the thread of a lock or a person -/
def countL (l : List Deed) (k : Int) : List Deed := l.filter fun d => countsB d.kn d.un k
def thrL (l : List Deed) (lo pe : Int) : List Deed := l.filter fun d => isOfB d lo pe
theorem keep_none {p : Deed → Bool} {l : List Deed} (h : ∀ d ∈ l, p d = false) : keepD p l = l := by
  unfold keepD
  rw [List.filter_eq_self]
  intro d hd; simp [h d hd]
def pLI (P : List Deed → Prop) (f : List Deed → Int → V) (fl : Bool) : PSpec := ⟨fun xs => ∃ (l : List Deed) (k : Int), xs = [.sl (l.map encD), vInt k] ∧ P l, fun xs => match xs with | [.sl l, .int _ k] => f (l.map decD) k | _ => .bool false, fl⟩
theorem pLI_fn (P : List Deed → Prop) (f : List Deed → Int → V) (fl : Bool) (l : List Deed) (k : Int) : (pLI P f fl).fn [.sl (l.map encD), vInt k] = f l k := by
  simp only [pLI, decD_map]
noncomputable def sLI (P : List Deed → Prop) (f : List Deed → Int → V) (fl : Bool) : Spec := (pLI P f fl).toSpec
theorem sLI_app {P : List Deed → Prop} {f : List Deed → Int → V} {fl : Bool} {obj : Name → Option O} {t : Name} {l : List Deed} {k : Int} (h : P l) : (sLI P f fl).app obj t [.v (.sl (l.map encD)), .v (vInt k)] = ⟨True, .v (f l k), obj⟩ := by
  simp only [sLI, PSpec.toSpec, frzL, frz, pLI_fn, ite_self]
  congr 1
  simp only [eq_iff_iff, iff_true]
  exact ⟨⟨trivial, trivial, trivial⟩, l, k, rfl, h⟩
noncomputable def sL (P : List Deed → Prop) (f : List Deed → V) : Spec := (pLen P f).toSpec
theorem sL_app {P : List Deed → Prop} {f : List Deed → V} {obj : Name → Option O} {t : Name} {l : List Deed} (h : P l) : (sL P f).app obj t [.v (.sl (l.map encD))] = ⟨True, .v (f l), obj⟩ := by
  simp only [sL, PSpec.toSpec, frzL, frz, pLen_fn, ite_self]
  congr 1
  simp only [eq_iff_iff, iff_true]
  exact ⟨⟨trivial, trivial⟩, l, rfl, h⟩
noncomputable def K25 : FuncId → Option Spec := fun f => match f with
  | 75 => some sDel
  | 76 => some (cloneSpec Tryz.prog 22)
  | f => K20 f
theorem K25_sound : ∀ f s, K25 f = some s → SSound Tryz.prog f s := by
  intro f s h
  unfold K25 at h
  split at h
  · cases h; exact s75
  · cases h; exact clone_sound clone76
  · exact K20_sound _ _ h
@[go_sem] theorem K25_75 : K25 75 = some sDel := rfl
@[go_sem] theorem K25_76 : K25 76 = some (cloneSpec Tryz.prog 22) := rfl
@[go_sem] theorem K25_144 : K25 144 = some (sDII fun d k j => .bool (isOfB d k j)) := rfl
set_option maxRecDepth 10000
set_option maxHeartbeats 1000000 in
theorem s81 : PSound Tryz.prog 81 (pLI okL (fun l k => .sl ((countL l k).map encD)) false) := by
  refine psoundB (rs := [.tmp 4]) Tryz.func81 Tryz.ntmps81 (by rfl) (by kernel_rfl) (by decide) (fun h => by cases h) ⟨_, rfl, ?_⟩
  rintro xs ⟨l, k, rfl, hok⟩ hw
  have hl := hok.2.2
  refine ⟨Nat.le_of_ble_eq_true rfl, ?_⟩
  rw [pLI_fn]
  have hk : keepD (pO 141 [.box [.v (vInt k)]]) l = countL l k := by unfold keepD countL pO; simp
  have hΓ := K25_sound
  have hP := mixedK
  repeat refine cl_seq ?_
  refine cl_rs hΓ [0,3] [[3, 0]] fun K' hK => ?_
  simp only [go_sem, Nat.reduceLT, Nat.reduceAdd, Nat.reduceEqDiff, Nat.reduceSub, Nat.reduceMul, Nat.reduceBEq, reduceIte, reduceCtorEq]
  repeat (refine ⟨by first | exact Bool.or_not_self _ | exact Bool.not_or_self _ | exact fun _ => by decide | exact fun h => ⟨h, by decide⟩ | omega | (simp only [decide_eq_true_eq]; omega) | exact xD | exact fun h => ⟨h, xD⟩ | exact xDD | exact fun h => ⟨h, xDD⟩ | exact ⟨_, rfl⟩ | exact fun h => ⟨h, _, rfl⟩ | exact ⟨_, _, rfl⟩ | exact fun h => ⟨h, _, _, rfl⟩ | exact fun h => ⟨h, _, _, _, rfl⟩ | exact ⟨_, _, _, _, rfl⟩ | exact fun h => ⟨h, _, _, _, _, rfl⟩ | exact ⟨[_, _], rfl⟩ | (simp; done) | (simp_all; done) | (simp_all; omega), ?_⟩)
  refine hK _ ?_ ?_
  · simp only [go_sem, Nat.reduceLT, Nat.reduceAdd, Nat.reduceEqDiff, Nat.reduceSub, Nat.reduceMul, Nat.reduceBEq, reduceIte, reduceCtorEq]
  clear K' hK
  simp only [go_sem, Nat.reduceLT, Nat.reduceAdd, Nat.reduceEqDiff, Nat.reduceSub, Nat.reduceMul, Nat.reduceBEq, reduceIte, reduceCtorEq]
  have hd := fun (obj : Name → Option O) (t : Name) (ho : obj [6, 0] = _) (h : obj [3, 0] = _) => del_app1 (obj := obj) (t := t) (nm := [6, 0]) (b := [3, 0]) (n := l.length) (g := 141) (l := l) (cs := [vInt k]) (bs := [.box [.v (vInt k)]]) rfl (.inl ⟨rfl, rfl, k, rfl⟩) (by omega) (by decide) ho rfl h
  have hn := fun (obj : Name → Option O) (t : Name) (h : obj [3, 0] = _) => del_appN (obj := obj) (t := t) (b := [3, 0]) (g := 141) (cs := [vInt k]) (bs := [.box [.v (vInt k)]]) rfl (.inl ⟨rfl, rfl, k, rfl⟩) h
  rw [hk] at hd
  simp only [List.map_cons, List.map_nil] at hd hn
  rcases l with _ | ⟨d0, l0⟩
  · repeat refine cl_seq ?_
    refine cl_rs hΓ [4] [[6, 0]] fun K' hK => ?_
    simp only [go_sem, Nat.reduceLT, Nat.reduceAdd, Nat.reduceEqDiff, Nat.reduceSub, Nat.reduceMul, Nat.reduceBEq, reduceIte, reduceCtorEq, cloneSpec, aClone, hn]
    repeat (refine ⟨by first | exact Bool.or_not_self _ | exact Bool.not_or_self _ | exact fun _ => by decide | exact fun h => ⟨h, by decide⟩ | omega | (simp only [decide_eq_true_eq]; omega) | exact xD | exact fun h => ⟨h, xD⟩ | exact xDD | exact fun h => ⟨h, xDD⟩ | exact ⟨_, rfl⟩ | exact fun h => ⟨h, _, rfl⟩ | exact ⟨_, _, rfl⟩ | exact fun h => ⟨h, _, _, rfl⟩ | exact fun h => ⟨h, _, _, _, rfl⟩ | exact ⟨_, _, _, _, rfl⟩ | exact fun h => ⟨h, _, _, _, _, rfl⟩ | exact ⟨[_, _], rfl⟩ | (simp; done) | (simp_all; done) | (simp_all; omega), ?_⟩)
    refine hK _ ?_ ?_
    · simp only [go_sem, Nat.reduceLT, Nat.reduceAdd, Nat.reduceEqDiff, Nat.reduceSub, Nat.reduceMul, Nat.reduceBEq, reduceIte, reduceCtorEq, cloneSpec, aClone, hn]
    clear K' hK
    simp only [go_sem, Nat.reduceLT, Nat.reduceAdd, Nat.reduceEqDiff, Nat.reduceSub, Nat.reduceMul, Nat.reduceBEq, reduceIte, reduceCtorEq, cloneSpec, aClone, hn]
    refine cl_ret ?_
    simp only [go_sem, Nat.reduceLT, Nat.reduceAdd, Nat.reduceEqDiff, Nat.reduceSub, Nat.reduceMul, Nat.reduceBEq, reduceIte, reduceCtorEq]
    rfl
  simp only [List.length_cons] at hd hl
  by_cases hall : ∀ d ∈ d0 :: l0, pO 141 [.box [.v (vInt k)]] d = false
  · rw [← hk, keep_none hall]
    have hd1 := fun (obj : Name → Option O) (t : Name) ho h => (hd obj t ho h).1 hall
    simp only [List.map_cons, encD] at hd1
    clear hd
    repeat refine cl_seq ?_
    refine cl_rs hΓ [4] [[6, 0]] fun K' hK => ?_
    simp only [go_sem, Nat.reduceLT, Nat.reduceAdd, Nat.reduceEqDiff, Nat.reduceSub, Nat.reduceMul, Nat.reduceBEq, reduceIte, reduceCtorEq, cloneSpec, aClone, te22, tz35, hd1]
    repeat' apply And.intro
    all_goals first | rfl | omega | exact Int.le_refl _ | exact Bool.or_not_self _ | exact Bool.not_or_self _ | exact enc_okI _ | exact enc_ok _ | exact fun x hx => (enc_okI _ x hx).1 | exact fun x hx => (enc_ok _ x hx).1 | (simp only [List.length_take, List.length_append, List.length_map, List.length_drop, List.length_cons, List.length_nil]; done) | (simp only [List.length_take, List.length_append, List.length_map, List.length_drop, List.length_cons, List.length_nil]; omega) | (simp only [List.length_take, List.length_append, List.length_map, List.length_drop, List.length_cons, List.length_nil, maxLen]; omega) | (exact fun _ => by decide) | (exact fun h => ⟨h, by decide⟩) | (simp only [decide_eq_true_eq]; omega) | skip
    refine hK _ ?_ ?_
    · simp only [go_sem, Nat.reduceLT, Nat.reduceAdd, Nat.reduceEqDiff, Nat.reduceSub, Nat.reduceMul, Nat.reduceBEq, reduceIte, reduceCtorEq]
    clear K' hK
    simp only [go_sem, Nat.reduceLT, Nat.reduceAdd, Nat.reduceEqDiff, Nat.reduceSub, Nat.reduceMul, Nat.reduceBEq, reduceIte, reduceCtorEq]
    refine cl_ret ?_
    simp only [go_sem, Nat.reduceLT, Nat.reduceAdd, Nat.reduceEqDiff, Nat.reduceSub, Nat.reduceMul, Nat.reduceBEq, reduceIte, reduceCtorEq]
  · have hd1 := fun (obj : Name → Option O) (t : Name) ho h => (hd obj t ho h).2 hall
    simp only [List.map_cons, encD] at hd1
    clear hd
    repeat refine cl_seq ?_
    refine cl_rs hΓ [4] [] fun K' hK => ?_
    simp only [go_sem, Nat.reduceLT, Nat.reduceAdd, Nat.reduceEqDiff, Nat.reduceSub, Nat.reduceMul, Nat.reduceBEq, reduceIte, reduceCtorEq, cloneSpec, aClone, te22, tz35, hd1]
    repeat' apply And.intro
    all_goals first | rfl | omega | exact Int.le_refl _ | exact Bool.or_not_self _ | exact Bool.not_or_self _ | exact enc_okI _ | exact enc_ok _ | exact fun x hx => (enc_okI _ x hx).1 | exact fun x hx => (enc_ok _ x hx).1 | (simp only [List.length_take, List.length_append, List.length_map, List.length_drop, List.length_cons, List.length_nil]; done) | (simp only [List.length_take, List.length_append, List.length_map, List.length_drop, List.length_cons, List.length_nil]; omega) | (simp only [List.length_take, List.length_append, List.length_map, List.length_drop, List.length_cons, List.length_nil, maxLen]; omega) | (exact fun _ => by decide) | (exact fun h => ⟨h, by decide⟩) | (simp only [decide_eq_true_eq]; omega) | skip
    refine hK _ ?_ ?_
    · simp only [go_sem, Nat.reduceLT, Nat.reduceAdd, Nat.reduceEqDiff, Nat.reduceSub, Nat.reduceMul, Nat.reduceBEq, reduceIte, reduceCtorEq]
    clear K' hK
    simp only [go_sem, Nat.reduceLT, Nat.reduceAdd, Nat.reduceEqDiff, Nat.reduceSub, Nat.reduceMul, Nat.reduceBEq, reduceIte, reduceCtorEq]
    refine cl_ret ?_
    simp only [go_sem, Nat.reduceLT, Nat.reduceAdd, Nat.reduceEqDiff, Nat.reduceSub, Nat.reduceMul, Nat.reduceBEq, reduceIte, reduceCtorEq]
    all_goals rfl
end Go.Eng
namespace Go.Eng
open Go Go.Proofs
@[go_sem] theorem ta68 : tAgg Tryz.prog 68 = some (false, 1) := by kernel_rfl
@[go_sem] theorem te68 : tElem Tryz.prog 68 = some (31, 2, 16) := by kernel_rfl
@[go_sem] theorem tl68 : tLen Tryz.prog 68 = some 0 := by kernel_rfl
@[go_sem] theorem tz68 : tZero Tryz.prog 68 = some (.slice none 0 0) := by kernel_rfl
@[go_sem] theorem ta108 : tAgg Tryz.prog 108 = some (false, 1) := by kernel_rfl
@[go_sem] theorem ta54 : tAgg Tryz.prog 54 = some (false, 1) := by kernel_rfl
@[go_sem] theorem tz54 : tZero Tryz.prog 54 = some .nilFunc := by kernel_rfl
@[go_sem] theorem ta172 : tAgg Tryz.prog 172 = some (false, 1) := by kernel_rfl
@[go_sem] theorem tz172 : tZero Tryz.prog 172 = some .nilFunc := by kernel_rfl
/-! the first two that contradict each other -/
def isFirst (p : Deed → Deed → Bool) (l : List Deed) (i k : Nat) : Prop :=
  ∃ (hi : i < l.length) (hk : k < l.length), i < k ∧ p l[i] l[k] = true ∧ ∀ i' k' (hi' : i' < l.length) (hk' : k' < l.length), i' < k' → (i' < i ∨ i' = i ∧ k' < k) → p l[i'] l[k'] = false
theorem isFirst_uniq {p : Deed → Deed → Bool} {l : List Deed} {i k i' k' : Nat} (h : isFirst p l i k) (h' : isFirst p l i' k') : i = i' ∧ k = k' := by
  obtain ⟨a1, a2, a3, a4, a5⟩ := h
  obtain ⟨b1, b2, b3, b4, b5⟩ := h'
  have h1 : ¬ (i' < i ∨ i' = i ∧ k' < k) := fun hc => by have := a5 i' k' b1 b2 b3 hc; rw [b4] at this; cases this
  have h2 : ¬ (i < i' ∨ i = i' ∧ k < k') := fun hc => by have := b5 i k a1 a2 a3 hc; rw [a4] at this; cases this
  omega
open Classical in
noncomputable def pairI (p : Deed → Deed → Bool) (l : List Deed) : Option (Nat × Nat) := if h : ∃ x : Nat × Nat, isFirst p l x.1 x.2 then some h.choose else none
theorem pairI_some {p : Deed → Deed → Bool} {l : List Deed} {i k : Nat} (h : isFirst p l i k) : pairI p l = some (i, k) := by
  have hx : ∃ x : Nat × Nat, isFirst p l x.1 x.2 := ⟨(i, k), h⟩
  unfold pairI
  rw [dif_pos hx]
  have := isFirst_uniq hx.choose_spec h
  congr 1
  exact Prod.ext this.1 this.2
theorem pairI_none {p : Deed → Deed → Bool} {l : List Deed} (h : ∀ i k (hi : i < l.length) (hk : k < l.length), i < k → p l[i] l[k] = false) : pairI p l = none := by
  unfold pairI
  rw [dif_neg]
  rintro ⟨⟨i, k⟩, a1, a2, a3, a4, _⟩
  rw [h i k a1 a2 a3] at a4; cases a4
theorem pairI_is {p : Deed → Deed → Bool} {l : List Deed} {x : Nat × Nat} (h : pairI p l = some x) : isFirst p l x.1 x.2 := by
  unfold pairI at h
  split at h
  · rename_i hx
    rw [← Option.some.inj h]
    exact hx.choose_spec
  · cases h
theorem least {P : Nat → Prop} (h : ∃ n, P n) : ∃ n, P n ∧ ∀ m < n, ¬ P m := by
  obtain ⟨n, hn⟩ := h
  induction n using Nat.strongRecOn with
  | _ n ih =>
    by_cases hx : ∃ m, m < n ∧ P m
    · obtain ⟨m, h1, h2⟩ := hx
      exact ih m h1 h2
    · exact ⟨n, hn, fun m hm hp => hx ⟨m, hm, hp⟩⟩
theorem pairI_not {p : Deed → Deed → Bool} {l : List Deed} (h : pairI p l = none) : ∀ i k (hi : i < l.length) (hk : k < l.length), i < k → p l[i] l[k] = false := by
  intro i k hi hk hik
  cases hp : p l[i] l[k] with
  | false => rfl
  | true =>
    have hx : ∃ i k, ∃ (hi : i < l.length) (hk : k < l.length), i < k ∧ p l[i] l[k] = true := ⟨i, k, hi, hk, hik, hp⟩
    obtain ⟨i0, hi0, hmin⟩ : ∃ i0, (∃ k, ∃ (hi : i0 < l.length) (hk : k < l.length), i0 < k ∧ p l[i0] l[k] = true) ∧ ∀ i' < i0, ¬ ∃ k, ∃ (hi : i' < l.length) (hk : k < l.length), i' < k ∧ p l[i'] l[k] = true := least hx
    obtain ⟨k0, hk0, hkmin⟩ : ∃ k0, (∃ (hi : i0 < l.length) (hk : k0 < l.length), i0 < k0 ∧ p l[i0] l[k0] = true) ∧ ∀ k' < k0, ¬ ∃ (hi : i0 < l.length) (hk : k' < l.length), i0 < k' ∧ p l[i0] l[k'] = true := least hi0
    obtain ⟨c1, c2, c3, c4⟩ := hk0
    have hf : isFirst p l i0 k0 := by
      refine ⟨c1, c2, c3, c4, fun i' k' hi' hk' hik' hc => ?_⟩
      cases hq : p l[i'] l[k'] with
      | false => rfl
      | true =>
        rcases hc with hc | ⟨rfl, hc⟩
        · exact (hmin i' hc ⟨k', hi', hk', hik', hq⟩).elim
        · exact (hkmin k' hc ⟨hi', hk', hik', hq⟩).elim
    rw [pairI_some hf] at h; cases h
def itemV (d : Deed) : V := .agg [vInt d.pa, vInt d.no]
noncomputable def confV (l : List Deed) : V := match pairI contraB l with
  | some (i, k) => .tup [.sl [itemV (l.getD i zeroD), itemV (l.getD k zeroD)], .bool true]
  | none => .tup [.sl [], .bool false]
set_option maxRecDepth 10000
theorem s103 : PSound Tryz.prog 103 (pDD fun a b => .bool (contraB a b)) := by
  refine psoundB (rs := [.tmp 4]) Tryz.func103 Tryz.ntmps103 (by rfl) (by kernel_rfl) (by decide) (pDD_flat fun _ _ => rfl) ⟨_, rfl, ?_⟩
  rintro xs ⟨⟨pa, no, ki, lo, pe, dl, dh, kn, un⟩, ⟨pa', no', ki', lo', pe', dl', dh', kn', un'⟩, rfl⟩ hw
  refine ⟨Nat.le_of_ble_eq_true rfl, ?_⟩
  have hΓ := K20_sound
  have hP := mixedK
  have hc := fun (g : Deed → Int → Int → V) (obj : Name → Option O) (t : Name) (n m : Int) => sDII_app (g := g) (obj := obj) (t := t) (k := n) (j := m) (d := (⟨pa', no', ki', lo', pe', dl', dh', kn', un'⟩ : Deed)) (dx := rdD (⟨pa', no', ki', lo', pe', dl', dh', kn', un'⟩ : Deed)) rfl
  unfold rdD at hc
  repeat refine cl_seq ?_
  refine cl_rs hΓ [2,3] [[2, 0], [3, 0]] fun K' hK => ?_
  simp only [go_sem, Nat.reduceLT, Nat.reduceAdd, Nat.reduceEqDiff, Nat.reduceSub, Nat.reduceMul, Nat.reduceBEq, reduceIte, reduceCtorEq]
  repeat (refine ⟨by first | exact Bool.or_not_self _ | exact Bool.not_or_self _ | exact fun _ => by decide | exact fun h => ⟨h, by decide⟩ | omega | (simp only [decide_eq_true_eq]; omega) | exact xD | exact fun h => ⟨h, xD⟩ | exact xDD | exact fun h => ⟨h, xDD⟩ | exact ⟨_, rfl⟩ | exact fun h => ⟨h, _, rfl⟩ | exact ⟨_, _, rfl⟩ | exact fun h => ⟨h, _, _, rfl⟩ | exact fun h => ⟨h, _, _, _, rfl⟩ | exact ⟨_, _, _, _, rfl⟩ | exact fun h => ⟨h, _, _, _, _, rfl⟩ | exact ⟨[_, _], rfl⟩ | (simp; done) | (simp_all; done) | (simp_all; omega), ?_⟩)
  refine hK _ ?_ ?_
  · simp only [go_sem, Nat.reduceLT, Nat.reduceAdd, Nat.reduceEqDiff, Nat.reduceSub, Nat.reduceMul, Nat.reduceBEq, reduceIte, reduceCtorEq]
  clear K' hK
  simp only [go_sem, Nat.reduceLT, Nat.reduceAdd, Nat.reduceEqDiff, Nat.reduceSub, Nat.reduceMul, Nat.reduceBEq, reduceIte, reduceCtorEq]
  repeat refine cl_seq ?_
  refine cl_rs hΓ [4] [] fun K' hK => ?_
  simp only [go_sem, Nat.reduceLT, Nat.reduceAdd, Nat.reduceEqDiff, Nat.reduceSub, Nat.reduceMul, Nat.reduceBEq, reduceIte, reduceCtorEq, hc]
  repeat (refine ⟨by first | exact Bool.or_not_self _ | exact Bool.not_or_self _ | exact fun _ => by decide | exact fun h => ⟨h, by decide⟩ | omega | (simp only [decide_eq_true_eq]; omega) | exact xD | exact fun h => ⟨h, xD⟩ | exact xDD | exact fun h => ⟨h, xDD⟩ | exact ⟨_, rfl⟩ | exact fun h => ⟨h, _, rfl⟩ | exact ⟨_, _, rfl⟩ | exact fun h => ⟨h, _, _, rfl⟩ | exact fun h => ⟨h, _, _, _, rfl⟩ | exact ⟨_, _, _, _, rfl⟩ | exact fun h => ⟨h, _, _, _, _, rfl⟩ | exact ⟨[_, _], rfl⟩ | (simp; done) | (simp_all; done) | (simp_all; omega), ?_⟩)
  refine hK _ ?_ ?_
  · simp only [go_sem, Nat.reduceLT, Nat.reduceAdd, Nat.reduceEqDiff, Nat.reduceSub, Nat.reduceMul, Nat.reduceBEq, reduceIte, reduceCtorEq, hc]
  clear K' hK
  simp only [go_sem, Nat.reduceLT, Nat.reduceAdd, Nat.reduceEqDiff, Nat.reduceSub, Nat.reduceMul, Nat.reduceBEq, reduceIte, reduceCtorEq, hc]
  refine cl_ret ?_
  simp only [go_sem, Nat.reduceLT, Nat.reduceAdd, Nat.reduceEqDiff, Nat.reduceSub, Nat.reduceMul, Nat.reduceBEq, reduceIte, reduceCtorEq, contraB]
  all_goals first | rfl | (simp; done) | grind
end Go.Eng
namespace Go.Eng
open Go Go.Proofs
noncomputable def sDDb (g : Deed → Deed → V) : Spec := (pDD g).toSpec
theorem sDDb_app {g : Deed → Deed → V} {obj : Name → Option O} {t : Name} {a b : Deed} {da db : D} (ha : da = rdD a) (hb : db = rdD b) : (sDDb g).app obj t [da, db] = ⟨True, .v (g a b), obj⟩ := by
  subst ha; subst hb
  simp only [sDDb, PSpec.toSpec, frzL, frzD, pDD, encD, if_true]
  congr 1
  simp only [eq_iff_iff, iff_true]
  exact ⟨⟨trivial, trivial, trivial⟩, a, b, rfl⟩
noncomputable def K27 : FuncId → Option Spec := fun f => match f with
  | 103 => some (sDDb fun a b => .bool (contraB a b))
  | f => K25 f
theorem K27_sound : ∀ f s, K27 f = some s → SSound Tryz.prog f s := by
  intro f s h
  unfold K27 at h
  split at h
  · cases h; exact s103.sound
  · exact K25_sound _ _ h
@[go_sem] theorem K27_103 : K27 103 = some (sDDb fun a b => .bool (contraB a b)) := rfl
set_option maxRecDepth 10000
set_option maxHeartbeats 4000000 in
theorem s80 : PSound Tryz.prog 80 (pLen (fun _ => True) confV) := by
  refine psoundB (rs := [.tmp 2, .tmp 3]) Tryz.func80 Tryz.ntmps80 (by rfl) (by kernel_rfl) (by decide) (fun h => by cases h) ⟨_, rfl, ?_⟩
  rintro xs ⟨l, rfl, _⟩ hw
  have hl : l.length ≤ maxLen := by have := hw.1.1; simpa using this
  refine ⟨Nat.le_of_ble_eq_true rfl, ?_⟩
  rw [pLen_fn]
  have hΓ := K27_sound
  have hP := mixedK
  repeat refine cl_seq ?_
  refine cl_rs hΓ [0] [] fun K' hK => ?_
  simp only [go_sem, Nat.reduceLT, Nat.reduceAdd, Nat.reduceEqDiff, Nat.reduceSub, Nat.reduceMul, Nat.reduceBEq, reduceIte, reduceCtorEq]
  repeat (refine ⟨by first | exact Bool.or_not_self _ | exact Bool.not_or_self _ | exact fun _ => by decide | exact fun h => ⟨h, by decide⟩ | omega | (simp only [decide_eq_true_eq]; omega) | exact xD | exact fun h => ⟨h, xD⟩ | exact xDD | exact fun h => ⟨h, xDD⟩ | exact ⟨_, rfl⟩ | exact fun h => ⟨h, _, rfl⟩ | exact ⟨_, _, rfl⟩ | exact fun h => ⟨h, _, _, rfl⟩ | exact fun h => ⟨h, _, _, _, rfl⟩ | exact ⟨_, _, _, _, rfl⟩ | exact fun h => ⟨h, _, _, _, _, rfl⟩ | exact ⟨[_, _], rfl⟩ | (simp; done) | (simp_all; done) | (simp_all; omega), ?_⟩)
  refine hK _ ?_ ?_
  · simp only [go_sem, Nat.reduceLT, Nat.reduceAdd, Nat.reduceEqDiff, Nat.reduceSub, Nat.reduceMul, Nat.reduceBEq, reduceIte, reduceCtorEq]
  clear K' hK
  simp only [go_sem, Nat.reduceLT, Nat.reduceAdd, Nat.reduceEqDiff, Nat.reduceSub, Nat.reduceMul, Nat.reduceBEq, reduceIte, reduceCtorEq]
  repeat refine cl_seq ?_
  refine cl_rs hΓ [0,8,9,10] [] fun K' hK => ?_
  simp only [go_sem, Nat.reduceLT, Nat.reduceAdd, Nat.reduceEqDiff, Nat.reduceSub, Nat.reduceMul, Nat.reduceBEq, reduceIte, reduceCtorEq]
  repeat (refine ⟨by first | exact Bool.or_not_self _ | exact Bool.not_or_self _ | exact fun _ => by decide | exact fun h => ⟨h, by decide⟩ | omega | (simp only [decide_eq_true_eq]; omega) | exact xD | exact fun h => ⟨h, xD⟩ | exact xDD | exact fun h => ⟨h, xDD⟩ | exact ⟨_, rfl⟩ | exact fun h => ⟨h, _, rfl⟩ | exact ⟨_, _, rfl⟩ | exact fun h => ⟨h, _, _, rfl⟩ | exact fun h => ⟨h, _, _, _, rfl⟩ | exact ⟨_, _, _, _, rfl⟩ | exact fun h => ⟨h, _, _, _, _, rfl⟩ | exact ⟨[_, _], rfl⟩ | (simp; done) | (simp_all; done) | (simp_all; omega), ?_⟩)
  refine hK _ ?_ ?_
  · simp only [go_sem, Nat.reduceLT, Nat.reduceAdd, Nat.reduceEqDiff, Nat.reduceSub, Nat.reduceMul, Nat.reduceBEq, reduceIte, reduceCtorEq]
  clear K' hK
  simp only [go_sem, Nat.reduceLT, Nat.reduceAdd, Nat.reduceEqDiff, Nat.reduceSub, Nat.reduceMul, Nat.reduceBEq, reduceIte, reduceCtorEq]
  repeat refine cl_seq ?_
  refine cl_block ?_
  repeat refine cl_seq ?_
  refine cl_loop' (fun s : Nat => [(10, ⟨true, .v (vInt s)⟩)]) (fun s => []) (fun s => s ≤ l.length ∧ ∀ i k (hi : i < l.length) (hk : k < l.length), i < k → i < s → contraB l[i] l[k] = false) (fun s => l.length - s) 0 ?_ ?_ ?_ ?_
  · exact ⟨Nat.zero_le _, fun i k hi hk h h' => by omega⟩
  · rfl
  · rfl
  rintro i ⟨hi, hz⟩
  simp only [go_sem, Nat.reduceLT, Nat.reduceAdd, Nat.reduceEqDiff, Nat.reduceSub, Nat.reduceMul, Nat.reduceBEq, reduceIte, reduceCtorEq]
  repeat refine cl_seq ?_
  repeat refine cl_seq ?_
  refine cl_rs hΓ [0,8,9,10,11] [] fun K' hK => ?_
  simp only [go_sem, Nat.reduceLT, Nat.reduceAdd, Nat.reduceEqDiff, Nat.reduceSub, Nat.reduceMul, Nat.reduceBEq, reduceIte, reduceCtorEq]
  repeat (refine ⟨by first | exact Bool.or_not_self _ | exact Bool.not_or_self _ | exact fun _ => by decide | exact fun h => ⟨h, by decide⟩ | omega | (simp only [decide_eq_true_eq]; omega) | exact xD | exact fun h => ⟨h, xD⟩ | exact xDD | exact fun h => ⟨h, xDD⟩ | exact ⟨_, rfl⟩ | exact fun h => ⟨h, _, rfl⟩ | exact ⟨_, _, rfl⟩ | exact fun h => ⟨h, _, _, rfl⟩ | exact fun h => ⟨h, _, _, _, rfl⟩ | exact ⟨_, _, _, _, rfl⟩ | exact fun h => ⟨h, _, _, _, _, rfl⟩ | exact ⟨[_, _], rfl⟩ | (simp; done) | (simp_all; done) | (simp_all; omega), ?_⟩)
  refine hK _ ?_ ?_
  · simp only [go_sem, Nat.reduceLT, Nat.reduceAdd, Nat.reduceEqDiff, Nat.reduceSub, Nat.reduceMul, Nat.reduceBEq, reduceIte, reduceCtorEq]
  clear K' hK
  simp only [go_sem, Nat.reduceLT, Nat.reduceAdd, Nat.reduceEqDiff, Nat.reduceSub, Nat.reduceMul, Nat.reduceBEq, reduceIte, reduceCtorEq]
  repeat refine cl_seq ?_
  refine cl_cond rfl rfl (fun hb => ?_) (fun hb => ?_)
  · have hlt : i < l.length := by simpa using hb
    have hlt' : (i : Int) < l.length := by omega
    clear hb
    repeat refine cl_seq ?_
    refine cl_skip ?_
    repeat refine cl_seq ?_
    refine cl_block ?_
    repeat refine cl_seq ?_
    have hsucc : i + 1 ≤ l.length := hlt
    have hsucc' : ((i + 1 : Nat) : Int) ≤ l.length := by omega
    have e2 : (List.map encD l).drop (i + 1) = (l.drop (i + 1)).map encD := List.map_drop.symm
    have e3 : List.take (l.length - (i + 1)) ((l.drop (i + 1)).map encD) = (l.drop (i + 1)).map encD := List.take_of_length_le (by simp)
    obtain ⟨r, hr, hrl, hrg⟩ : ∃ r, r = l.drop (i + 1) ∧ r.length = l.length - (i + 1) ∧ ∀ j (h : j < r.length) (h' : i + 1 + j < l.length), r[j] = l[i + 1 + j] := ⟨_, rfl, by simp, fun j h h' => by simp⟩
    rw [← hr] at e2 e3
    have hrm : r.length ≤ maxLen := by omega
    repeat refine cl_seq ?_
    refine cl_rs hΓ [0,4,5,8,9,10] [[5, 0]] fun K' hK => ?_
    simp only [go_sem, Nat.reduceLT, Nat.reduceAdd, Nat.reduceEqDiff, Nat.reduceSub, Nat.reduceMul, Nat.reduceBEq, reduceIte, reduceCtorEq, map_getD hlt, Int.toNat_natCast, Int.natCast_nonneg, hlt']
    repeat (refine ⟨by first | exact Bool.or_not_self _ | exact Bool.not_or_self _ | exact fun _ => by decide | exact fun h => ⟨h, by decide⟩ | omega | (simp only [decide_eq_true_eq]; omega) | exact xD | exact fun h => ⟨h, xD⟩ | exact xDD | exact fun h => ⟨h, xDD⟩ | exact ⟨_, rfl⟩ | exact fun h => ⟨h, _, rfl⟩ | exact ⟨_, _, rfl⟩ | exact fun h => ⟨h, _, _, rfl⟩ | exact fun h => ⟨h, _, _, _, rfl⟩ | exact ⟨_, _, _, _, rfl⟩ | exact fun h => ⟨h, _, _, _, _, rfl⟩ | exact ⟨[_, _], rfl⟩ | (simp; done) | (simp_all; done) | (simp_all; omega), ?_⟩)
    refine hK _ ?_ ?_
    · simp only [go_sem, Nat.reduceLT, Nat.reduceAdd, Nat.reduceEqDiff, Nat.reduceSub, Nat.reduceMul, Nat.reduceBEq, reduceIte, reduceCtorEq, map_getD hlt, Int.toNat_natCast, Int.natCast_nonneg, hlt']
    clear K' hK
    simp only [go_sem, Nat.reduceLT, Nat.reduceAdd, Nat.reduceEqDiff, Nat.reduceSub, Nat.reduceMul, Nat.reduceBEq, reduceIte, reduceCtorEq, map_getD hlt, Int.toNat_natCast, Int.natCast_nonneg, hlt']
    repeat refine cl_seq ?_
    refine cl_rs hΓ [0,5,8,9,10,18,19,20] [[5, 0]] fun K' hK => ?_
    simp only [go_sem, Nat.reduceLT, Nat.reduceAdd, Nat.reduceEqDiff, Nat.reduceSub, Nat.reduceMul, Nat.reduceBEq, reduceIte, reduceCtorEq, wrap_succ hlt hl, Int.toNat_natCast, Int.natCast_nonneg, hsucc', e2, e3, te22]
    repeat' apply And.intro
    all_goals first | rfl | omega | exact Int.le_refl _ | exact Bool.or_not_self _ | exact Bool.not_or_self _ | exact enc_okI _ | exact enc_ok _ | exact fun x hx => (enc_okI _ x hx).1 | exact fun x hx => (enc_ok _ x hx).1 | (simp only [List.length_take, List.length_append, List.length_map, List.length_drop, List.length_cons, List.length_nil]; done) | (simp only [List.length_take, List.length_append, List.length_map, List.length_drop, List.length_cons, List.length_nil]; omega) | (simp only [List.length_take, List.length_append, List.length_map, List.length_drop, List.length_cons, List.length_nil, maxLen]; omega) | (exact fun _ => by decide) | (exact fun h => ⟨h, by decide⟩) | (simp only [decide_eq_true_eq]; omega) | skip
    refine hK _ ?_ ?_
    · simp only [go_sem, Nat.reduceLT, Nat.reduceAdd, Nat.reduceEqDiff, Nat.reduceSub, Nat.reduceMul, Nat.reduceBEq, reduceIte, reduceCtorEq]
    clear K' hK
    simp only [go_sem, Nat.reduceLT, Nat.reduceAdd, Nat.reduceEqDiff, Nat.reduceSub, Nat.reduceMul, Nat.reduceBEq, reduceIte, reduceCtorEq]
    repeat refine cl_seq ?_
    refine cl_block ?_
    repeat refine cl_seq ?_
    refine cl_loop' (fun s : Nat => [(20, ⟨true, .v (vInt s)⟩)]) (fun s => []) (fun s => s ≤ r.length ∧ ∀ k (hk : k < l.length), i < k → k < i + 1 + s → contraB l[i] l[k] = false) (fun s => r.length - s) 0 ?_ ?_ ?_ ?_
    · exact ⟨Nat.zero_le _, fun k hk h h' => by omega⟩
    · rfl
    · rfl
    rintro j ⟨hj, hzj⟩
    simp only [go_sem, Nat.reduceLT, Nat.reduceAdd, Nat.reduceEqDiff, Nat.reduceSub, Nat.reduceMul, Nat.reduceBEq, reduceIte, reduceCtorEq]
    repeat refine cl_seq ?_
    repeat refine cl_seq ?_
    refine cl_rs hΓ [0,5,8,9,10,18,19,20,21] [[5, 0]] fun K' hK => ?_
    simp only [go_sem, Nat.reduceLT, Nat.reduceAdd, Nat.reduceEqDiff, Nat.reduceSub, Nat.reduceMul, Nat.reduceBEq, reduceIte, reduceCtorEq]
    repeat (refine ⟨by first | exact Bool.or_not_self _ | exact Bool.not_or_self _ | exact fun _ => by decide | exact fun h => ⟨h, by decide⟩ | omega | (simp only [decide_eq_true_eq]; omega) | exact xD | exact fun h => ⟨h, xD⟩ | exact xDD | exact fun h => ⟨h, xDD⟩ | exact ⟨_, rfl⟩ | exact fun h => ⟨h, _, rfl⟩ | exact ⟨_, _, rfl⟩ | exact fun h => ⟨h, _, _, rfl⟩ | exact fun h => ⟨h, _, _, _, rfl⟩ | exact ⟨_, _, _, _, rfl⟩ | exact fun h => ⟨h, _, _, _, _, rfl⟩ | exact ⟨[_, _], rfl⟩ | (simp; done) | (simp_all; done) | (simp_all; omega), ?_⟩)
    refine hK _ ?_ ?_
    · simp only [go_sem, Nat.reduceLT, Nat.reduceAdd, Nat.reduceEqDiff, Nat.reduceSub, Nat.reduceMul, Nat.reduceBEq, reduceIte, reduceCtorEq]
    clear K' hK
    simp only [go_sem, Nat.reduceLT, Nat.reduceAdd, Nat.reduceEqDiff, Nat.reduceSub, Nat.reduceMul, Nat.reduceBEq, reduceIte, reduceCtorEq]
    repeat refine cl_seq ?_
    refine cl_cond rfl rfl (fun hb => ?_) (fun hb => ?_)
    · have hlt : j < r.length := by simpa using hb
      have hlt' : (j : Int) < r.length := by omega
      clear hb
      repeat refine cl_seq ?_
      refine cl_skip ?_
      repeat refine cl_seq ?_
      refine cl_block ?_
      repeat refine cl_seq ?_
      have hjl : i + 1 + j < l.length := by omega
      repeat refine cl_seq ?_
      refine cl_rs hΓ [0,5,7,8,9,10,18,19,20] [[5, 0],[7, 0]] fun K' hK => ?_
      simp only [go_sem, Nat.reduceLT, Nat.reduceAdd, Nat.reduceEqDiff, Nat.reduceSub, Nat.reduceMul, Nat.reduceBEq, reduceIte, reduceCtorEq, map_getD hlt, Int.toNat_natCast, Int.natCast_nonneg, hlt', hrg j hlt hjl]
      repeat (refine ⟨by first | exact Bool.or_not_self _ | exact Bool.not_or_self _ | exact fun _ => by decide | exact fun h => ⟨h, by decide⟩ | omega | (simp only [decide_eq_true_eq]; omega) | exact xD | exact fun h => ⟨h, xD⟩ | exact xDD | exact fun h => ⟨h, xDD⟩ | exact ⟨_, rfl⟩ | exact fun h => ⟨h, _, rfl⟩ | exact ⟨_, _, rfl⟩ | exact fun h => ⟨h, _, _, rfl⟩ | exact fun h => ⟨h, _, _, _, rfl⟩ | exact ⟨_, _, _, _, rfl⟩ | exact fun h => ⟨h, _, _, _, _, rfl⟩ | exact ⟨[_, _], rfl⟩ | (simp; done) | (simp_all; done) | (simp_all; omega), ?_⟩)
      refine hK _ ?_ ?_
      · simp only [go_sem, Nat.reduceLT, Nat.reduceAdd, Nat.reduceEqDiff, Nat.reduceSub, Nat.reduceMul, Nat.reduceBEq, reduceIte, reduceCtorEq, map_getD hlt, Int.toNat_natCast, Int.natCast_nonneg, hlt', hrg j hlt hjl]
      clear K' hK
      simp only [go_sem, Nat.reduceLT, Nat.reduceAdd, Nat.reduceEqDiff, Nat.reduceSub, Nat.reduceMul, Nat.reduceBEq, reduceIte, reduceCtorEq, map_getD hlt, Int.toNat_natCast, Int.natCast_nonneg, hlt', hrg j hlt hjl]
      have hc := fun (g : Deed → Deed → V) (obj : Name → Option O) (t : Name) => sDDb_app (g := g) (obj := obj) (t := t) (a := l[i]) (b := l[i + 1 + j]) (da := rdD l[i]) (db := rdD l[i + 1 + j]) rfl rfl
      unfold rdD at hc
      repeat refine cl_seq ?_
      refine cl_rs hΓ [0,5,7,8,9,10,18,19,20,26] [[5, 0],[7, 0]] fun K' hK => ?_
      simp only [go_sem, Nat.reduceLT, Nat.reduceAdd, Nat.reduceEqDiff, Nat.reduceSub, Nat.reduceMul, Nat.reduceBEq, reduceIte, reduceCtorEq, hc]
      repeat (refine ⟨by first | exact Bool.or_not_self _ | exact Bool.not_or_self _ | exact fun _ => by decide | exact fun h => ⟨h, by decide⟩ | omega | (simp only [decide_eq_true_eq]; omega) | exact xD | exact fun h => ⟨h, xD⟩ | exact xDD | exact fun h => ⟨h, xDD⟩ | exact ⟨_, rfl⟩ | exact fun h => ⟨h, _, rfl⟩ | exact ⟨_, _, rfl⟩ | exact fun h => ⟨h, _, _, rfl⟩ | exact fun h => ⟨h, _, _, _, rfl⟩ | exact ⟨_, _, _, _, rfl⟩ | exact fun h => ⟨h, _, _, _, _, rfl⟩ | exact ⟨[_, _], rfl⟩ | (simp; done) | (simp_all; done) | (simp_all; omega), ?_⟩)
      refine hK _ ?_ ?_
      · simp only [go_sem, Nat.reduceLT, Nat.reduceAdd, Nat.reduceEqDiff, Nat.reduceSub, Nat.reduceMul, Nat.reduceBEq, reduceIte, reduceCtorEq, hc]
      clear K' hK
      simp only [go_sem, Nat.reduceLT, Nat.reduceAdd, Nat.reduceEqDiff, Nat.reduceSub, Nat.reduceMul, Nat.reduceBEq, reduceIte, reduceCtorEq, hc]
      repeat refine cl_seq ?_
      refine cl_cond rfl rfl (fun hb => ?_) (fun hb => ?_)
      · repeat refine cl_seq ?_
        refine cl_rs hΓ [2,3] [] fun K' hK => ?_
        simp only [go_sem, Nat.reduceLT, Nat.reduceAdd, Nat.reduceEqDiff, Nat.reduceSub, Nat.reduceMul, Nat.reduceBEq, reduceIte, reduceCtorEq, te68, tz31]
        repeat' apply And.intro
        all_goals first | rfl | omega | exact Int.le_refl _ | exact Bool.or_not_self _ | exact Bool.not_or_self _ | exact enc_okI _ | exact enc_ok _ | exact fun x hx => (enc_okI _ x hx).1 | exact fun x hx => (enc_ok _ x hx).1 | (simp only [List.length_take, List.length_append, List.length_map, List.length_drop, List.length_cons, List.length_nil]; done) | (simp only [List.length_take, List.length_append, List.length_map, List.length_drop, List.length_cons, List.length_nil]; omega) | (simp only [List.length_take, List.length_append, List.length_map, List.length_drop, List.length_cons, List.length_nil, maxLen]; omega) | (exact fun _ => by decide) | (exact fun h => ⟨h, by decide⟩) | (simp only [decide_eq_true_eq]; omega) | skip
        refine hK _ ?_ ?_
        · simp only [go_sem, Nat.reduceLT, Nat.reduceAdd, Nat.reduceEqDiff, Nat.reduceSub, Nat.reduceMul, Nat.reduceBEq, reduceIte, reduceCtorEq]
        clear K' hK
        simp only [go_sem, Nat.reduceLT, Nat.reduceAdd, Nat.reduceEqDiff, Nat.reduceSub, Nat.reduceMul, Nat.reduceBEq, reduceIte, reduceCtorEq]
        refine cl_ret ?_
        simp only [go_sem, Nat.reduceLT, Nat.reduceAdd, Nat.reduceEqDiff, Nat.reduceSub, Nat.reduceMul, Nat.reduceBEq, reduceIte, reduceCtorEq]
        have hf : isFirst contraB l i (i + 1 + j) := by
          refine ⟨by omega, hjl, by omega, hb, fun i' k' hi' hk' hik hc => ?_⟩
          rcases hc with hc | ⟨rfl, hc⟩
          · exact hz i' k' hi' hk' hik hc
          · exact hzj k' hk' hik hc
        unfold confV
        rw [pairI_some hf]
        simp [itemV, List.getD_eq_getElem?_getD, hjl, show i < l.length by omega]
      · have hn : contraB l[i] l[i + 1 + j] = false := by simpa using hb
        clear hb
        repeat refine cl_seq ?_
        refine cl_skip ?_
        refine cl_nil ?_
        simp only [go_sem, Nat.reduceLT, Nat.reduceAdd, Nat.reduceEqDiff, Nat.reduceSub, Nat.reduceMul, Nat.reduceBEq, reduceIte, reduceCtorEq]
        refine cl_keep [0,5,8,9,10,18,19,20] [[5, 0]] ?_ ?_
        · simp only [go_sem, Nat.reduceLT, Nat.reduceAdd, Nat.reduceEqDiff, Nat.reduceSub, Nat.reduceMul, Nat.reduceBEq, reduceIte, reduceCtorEq]
        simp only [go_sem, Nat.reduceLT, Nat.reduceAdd, Nat.reduceEqDiff, Nat.reduceSub, Nat.reduceMul, Nat.reduceBEq, reduceIte, reduceCtorEq]
        repeat refine cl_seq ?_
        refine cl_r hΓ fun K' hK => ?_
        simp only [go_sem, Nat.reduceLT, Nat.reduceAdd, Nat.reduceEqDiff, Nat.reduceSub, Nat.reduceMul, Nat.reduceBEq, reduceIte, reduceCtorEq]
        repeat (refine ⟨by first | exact Bool.or_not_self _ | exact Bool.not_or_self _ | exact fun _ => by decide | exact fun h => ⟨h, by decide⟩ | omega | (simp only [decide_eq_true_eq]; omega) | exact xD | exact fun h => ⟨h, xD⟩ | exact xDD | exact fun h => ⟨h, xDD⟩ | exact ⟨_, rfl⟩ | exact fun h => ⟨h, _, rfl⟩ | exact ⟨_, _, rfl⟩ | exact fun h => ⟨h, _, _, rfl⟩ | exact fun h => ⟨h, _, _, _, rfl⟩ | exact ⟨_, _, _, _, rfl⟩ | exact fun h => ⟨h, _, _, _, _, rfl⟩ | exact ⟨[_, _], rfl⟩ | (simp; done) | (simp_all; done) | (simp_all; omega), ?_⟩)
        refine hK _ ?_
        clear K' hK
        simp only [go_sem, Nat.reduceLT, Nat.reduceAdd, Nat.reduceEqDiff, Nat.reduceSub, Nat.reduceMul, Nat.reduceBEq, reduceIte, reduceCtorEq]
        refine ⟨j + 1, ⟨hlt, fun k hk h h' => ?_⟩, (show r.length - (j + 1) < r.length - j by omega), ?_⟩
        · by_cases e : k = i + 1 + j
          · subst e; exact hn
          · exact hzj k hk h (by omega)
        refine weak_eq [0,5,8,9,10,18,19,20] [[5, 0]] ?_ ?_
        · simp only [go_sem, Nat.reduceLT, Nat.reduceAdd, Nat.reduceEqDiff, Nat.reduceSub, Nat.reduceMul, Nat.reduceBEq, reduceIte, reduceCtorEq, wrap_succ hlt hrm, Int.natCast_add, Int.natCast_one]
        · simp only [go_sem, Nat.reduceLT, Nat.reduceAdd, Nat.reduceEqDiff, Nat.reduceSub, Nat.reduceMul, Nat.reduceBEq, reduceIte, reduceCtorEq, wrap_succ hlt hrm, Int.natCast_add, Int.natCast_one]
    · have hge : j = r.length := by
        have : ¬ (j : Int) < r.length := by simpa using hb
        omega
      subst hge
      clear hb
      repeat refine cl_seq ?_
      refine cl_exit ?_
      simp only [go_sem, Nat.reduceLT, Nat.reduceAdd, Nat.reduceEqDiff, Nat.reduceSub, Nat.reduceMul, Nat.reduceBEq, reduceIte, reduceCtorEq]
      refine cl_keep [0,8,9,10] [] ?_ ?_
      · simp only [go_sem, Nat.reduceLT, Nat.reduceAdd, Nat.reduceEqDiff, Nat.reduceSub, Nat.reduceMul, Nat.reduceBEq, reduceIte, reduceCtorEq]
      simp only [go_sem, Nat.reduceLT, Nat.reduceAdd, Nat.reduceEqDiff, Nat.reduceSub, Nat.reduceMul, Nat.reduceBEq, reduceIte, reduceCtorEq]
      repeat refine cl_seq ?_
      refine cl_r hΓ fun K' hK => ?_
      simp only [go_sem, Nat.reduceLT, Nat.reduceAdd, Nat.reduceEqDiff, Nat.reduceSub, Nat.reduceMul, Nat.reduceBEq, reduceIte, reduceCtorEq]
      repeat (refine ⟨by first | exact Bool.or_not_self _ | exact Bool.not_or_self _ | exact fun _ => by decide | exact fun h => ⟨h, by decide⟩ | omega | (simp only [decide_eq_true_eq]; omega) | exact xD | exact fun h => ⟨h, xD⟩ | exact xDD | exact fun h => ⟨h, xDD⟩ | exact ⟨_, rfl⟩ | exact fun h => ⟨h, _, rfl⟩ | exact ⟨_, _, rfl⟩ | exact fun h => ⟨h, _, _, rfl⟩ | exact fun h => ⟨h, _, _, _, rfl⟩ | exact ⟨_, _, _, _, rfl⟩ | exact fun h => ⟨h, _, _, _, _, rfl⟩ | exact ⟨[_, _], rfl⟩ | (simp; done) | (simp_all; done) | (simp_all; omega), ?_⟩)
      refine hK _ ?_
      clear K' hK
      simp only [go_sem, Nat.reduceLT, Nat.reduceAdd, Nat.reduceEqDiff, Nat.reduceSub, Nat.reduceMul, Nat.reduceBEq, reduceIte, reduceCtorEq]
      refine ⟨i + 1, ⟨hsucc, fun i' k hi' hk h h' => ?_⟩, (show l.length - (i + 1) < l.length - i by omega), ?_⟩
      · by_cases e : i' = i
        · subst e; exact hzj k hk h (by omega)
        · exact hz i' k hi' hk h (by omega)
      refine weak_eq [0,8,9,10] [] ?_ ?_
      · simp only [go_sem, Nat.reduceLT, Nat.reduceAdd, Nat.reduceEqDiff, Nat.reduceSub, Nat.reduceMul, Nat.reduceBEq, reduceIte, reduceCtorEq, wrap_succ (show i < l.length by omega) hl, Int.natCast_add, Int.natCast_one]
      · simp only [go_sem, Nat.reduceLT, Nat.reduceAdd, Nat.reduceEqDiff, Nat.reduceSub, Nat.reduceMul, Nat.reduceBEq, reduceIte, reduceCtorEq, wrap_succ (show i < l.length by omega) hl, Int.natCast_add, Int.natCast_one]
  · have hge : i = l.length := by
      have : ¬ (i : Int) < l.length := by simpa using hb
      omega
    subst hge
    clear hb
    repeat refine cl_seq ?_
    refine cl_exit ?_
    simp only [go_sem, Nat.reduceLT, Nat.reduceAdd, Nat.reduceEqDiff, Nat.reduceSub, Nat.reduceMul, Nat.reduceBEq, reduceIte, reduceCtorEq]
    refine cl_keep [] [] ?_ ?_
    · simp only [go_sem, Nat.reduceLT, Nat.reduceAdd, Nat.reduceEqDiff, Nat.reduceSub, Nat.reduceMul, Nat.reduceBEq, reduceIte, reduceCtorEq]
    simp only [go_sem, Nat.reduceLT, Nat.reduceAdd, Nat.reduceEqDiff, Nat.reduceSub, Nat.reduceMul, Nat.reduceBEq, reduceIte, reduceCtorEq]
    repeat refine cl_seq ?_
    refine cl_rs hΓ [2,3] [] fun K' hK => ?_
    simp only [go_sem, Nat.reduceLT, Nat.reduceAdd, Nat.reduceEqDiff, Nat.reduceSub, Nat.reduceMul, Nat.reduceBEq, reduceIte, reduceCtorEq]
    repeat (refine ⟨by first | exact Bool.or_not_self _ | exact Bool.not_or_self _ | exact fun _ => by decide | exact fun h => ⟨h, by decide⟩ | omega | (simp only [decide_eq_true_eq]; omega) | exact xD | exact fun h => ⟨h, xD⟩ | exact xDD | exact fun h => ⟨h, xDD⟩ | exact ⟨_, rfl⟩ | exact fun h => ⟨h, _, rfl⟩ | exact ⟨_, _, rfl⟩ | exact fun h => ⟨h, _, _, rfl⟩ | exact fun h => ⟨h, _, _, _, rfl⟩ | exact ⟨_, _, _, _, rfl⟩ | exact fun h => ⟨h, _, _, _, _, rfl⟩ | exact ⟨[_, _], rfl⟩ | (simp; done) | (simp_all; done) | (simp_all; omega), ?_⟩)
    refine hK _ ?_ ?_
    · simp only [go_sem, Nat.reduceLT, Nat.reduceAdd, Nat.reduceEqDiff, Nat.reduceSub, Nat.reduceMul, Nat.reduceBEq, reduceIte, reduceCtorEq]
    clear K' hK
    simp only [go_sem, Nat.reduceLT, Nat.reduceAdd, Nat.reduceEqDiff, Nat.reduceSub, Nat.reduceMul, Nat.reduceBEq, reduceIte, reduceCtorEq]
    refine cl_ret ?_
    simp only [go_sem, Nat.reduceLT, Nat.reduceAdd, Nat.reduceEqDiff, Nat.reduceSub, Nat.reduceMul, Nat.reduceBEq, reduceIte, reduceCtorEq]
    have hn : pairI contraB l = none := pairI_none fun i k hi hk h => hz i k hi hk h hi
    unfold confV
    rw [hn]
end Go.Eng
namespace Go.Eng
open Go Go.Proofs
/-! a deed by its item -/
def itD (a b : Int) : Deed := ⟨a, b, 0, 0, 0, 0, 0, 0, 0⟩
theorem cmpIt_lt {d : Deed} {a b : Int} : cmpIt d.pa d.no a b < 0 ↔ ltD d (itD a b) := cmpD_lt (a := d) (b := itD a b)
def pDIt : PSpec := ⟨fun xs => ∃ d a b, xs = [encD d, .agg [vInt a, vInt b]], fun xs => match xs with | [x, .agg [.int _ a, .int _ b]] => vInt (cmpIt (decD x).pa (decD x).no a b) | _ => .bool false, true⟩
noncomputable def K28a : FuncId → Option Spec := fun f => match f with
  | 102 => some (pItems fun a b c d => vInt (cmpIt a b c d)).toSpec
  | _ => none
theorem K28a_sound : ∀ f s, K28a f = some s → SSound Tryz.prog f s := by
  intro f s h
  unfold K28a at h
  split at h
  · cases h; exact s102.sound
  · cases h
@[go_sem] theorem K28a_102 : K28a 102 = some (pItems fun a b c d => vInt (cmpIt a b c d)).toSpec := rfl
theorem s139 : PSound Tryz.prog 139 pDIt := by
  refine psoundB (rs := [.tmp 4]) Tryz.func139 Tryz.ntmps139 (by rfl) (by kernel_rfl) (by decide) (by rintro _ xs ⟨d, a, b, rfl⟩; rfl) ⟨_, rfl, ?_⟩
  rintro xs ⟨⟨pa, no, ki, lo, pe, dl, dh, kn, un⟩, a, b, rfl⟩ _
  refine ⟨Nat.le_of_ble_eq_true rfl, ?_⟩
  have hΓ := K28a_sound
  repeat refine cl_seq ?_
  refine cl_rs hΓ [2,3] [[2, 0],[3, 0]] fun K' hK => ?_
  simp only [go_sem, Nat.reduceLT, Nat.reduceAdd, Nat.reduceEqDiff, Nat.reduceSub, Nat.reduceMul, Nat.reduceBEq, reduceIte, reduceCtorEq]
  repeat (refine ⟨by first | exact Bool.or_not_self _ | exact Bool.not_or_self _ | exact fun _ => by decide | exact fun h => ⟨h, by decide⟩ | omega | (simp only [decide_eq_true_eq]; omega) | exact xD | exact fun h => ⟨h, xD⟩ | exact xDD | exact fun h => ⟨h, xDD⟩ | exact ⟨_, rfl⟩ | exact fun h => ⟨h, _, rfl⟩ | exact ⟨_, _, rfl⟩ | exact fun h => ⟨h, _, _, rfl⟩ | exact fun h => ⟨h, _, _, _, rfl⟩ | exact ⟨_, _, _, _, rfl⟩ | exact fun h => ⟨h, _, _, _, _, rfl⟩ | exact ⟨[_, _], rfl⟩ | (simp; done) | (simp_all; done) | (simp_all; omega), ?_⟩)
  refine hK _ ?_ ?_
  · simp only [go_sem, Nat.reduceLT, Nat.reduceAdd, Nat.reduceEqDiff, Nat.reduceSub, Nat.reduceMul, Nat.reduceBEq, reduceIte, reduceCtorEq]
  clear K' hK
  simp only [go_sem, Nat.reduceLT, Nat.reduceAdd, Nat.reduceEqDiff, Nat.reduceSub, Nat.reduceMul, Nat.reduceBEq, reduceIte, reduceCtorEq]
  repeat refine cl_seq ?_
  refine cl_rs hΓ [4] [] fun K' hK => ?_
  simp only [go_sem, Nat.reduceLT, Nat.reduceAdd, Nat.reduceEqDiff, Nat.reduceSub, Nat.reduceMul, Nat.reduceBEq, reduceIte, reduceCtorEq]
  repeat (refine ⟨by first | exact Bool.or_not_self _ | exact Bool.not_or_self _ | exact fun _ => by decide | exact fun h => ⟨h, by decide⟩ | omega | (simp only [decide_eq_true_eq]; omega) | exact xD | exact fun h => ⟨h, xD⟩ | exact xDD | exact fun h => ⟨h, xDD⟩ | exact ⟨_, rfl⟩ | exact fun h => ⟨h, _, rfl⟩ | exact ⟨_, _, rfl⟩ | exact fun h => ⟨h, _, _, rfl⟩ | exact fun h => ⟨h, _, _, _, rfl⟩ | exact ⟨_, _, _, _, rfl⟩ | exact fun h => ⟨h, _, _, _, _, rfl⟩ | exact ⟨[_, _], rfl⟩ | (simp; done) | (simp_all; done) | (simp_all; omega), ?_⟩)
  refine hK _ ?_ ?_
  · simp only [go_sem, Nat.reduceLT, Nat.reduceAdd, Nat.reduceEqDiff, Nat.reduceSub, Nat.reduceMul, Nat.reduceBEq, reduceIte, reduceCtorEq]
  clear K' hK
  simp only [go_sem, Nat.reduceLT, Nat.reduceAdd, Nat.reduceEqDiff, Nat.reduceSub, Nat.reduceMul, Nat.reduceBEq, reduceIte, reduceCtorEq]
  refine cl_ret ?_
  simp only [go_sem, Nat.reduceLT, Nat.reduceAdd, Nat.reduceEqDiff, Nat.reduceSub, Nat.reduceMul, Nat.reduceBEq, reduceIte, reduceCtorEq]
  all_goals first | rfl | (simp; done) | (simp_all; done)
def sDIt : Spec := pDIt.toSpec
theorem sDIt_app {obj : Name → Option O} {t : Name} {d : Deed} {a b : Int} : sDIt.app obj t [.v (encD d), .agg [.v (vInt a), .v (vInt b)]] = ⟨True, .v (vInt (cmpIt d.pa d.no a b)), obj⟩ := by
  have e : frzL (frz 6) obj [.v (encD d), .agg [.v (vInt a), .v (vInt b)]] = ⟨True, [encD d, .agg [vInt a, vInt b]], obj⟩ := by
    simp only [frzL, frz]
    simp
  simp only [sDIt, PSpec.toSpec, e, pDIt, decD_enc, if_true]
  congr 1
  simp only [eq_iff_iff, iff_true]
  exact ⟨trivial, d, a, b, rfl⟩
def K28 : FuncId → Option Spec := fun f => match f with
  | 139 => some sDIt
  | _ => none
theorem K28_sound : ∀ f s, K28 f = some s → SSound Tryz.prog f s := by
  intro f s h
  unfold K28 at h
  split at h
  · cases h; exact s139.sound
  · cases h
@[go_sem] theorem K28_139 : K28 139 = some sDIt := rfl
set_option maxRecDepth 10000 in
set_option maxHeartbeats 4000000 in
theorem w138 (l : List Deed) (a b : Int) (hs : l.Pairwise ltD) (hl : l.length ≤ maxLen) :
    ∃ c, Tryz.f138.body = some c ∧ CL Tryz.prog [c] (mkS 49 [0] (fun _ => none) (argsL 0 [.sl (l.map encD), (.agg [vInt a, vInt b]), .clo (.func 139) [] []]) []) (retK Tryz.prog [.tmp 6, .tmp 7] (.tup [vInt (lowD l (itD a b)), .bool (hasD l (itD a b))])) := by
  refine ⟨_, rfl, ?_⟩
  have hΓ := K28_sound
  have hcmp := fun (obj : Name → Option O) (t : Name) (d : Deed) => sDIt_app (obj := obj) (t := t) (d := d) (a := a) (b := b)
  simp only [encD] at hcmp
  have hP := mixedK
  repeat refine cl_seq ?_
  repeat refine cl_seq ?_
  refine cl_rs hΓ [0,2,4] [[4, 0]] fun K' hK => ?_
  simp only [go_sem, Nat.reduceLT, Nat.reduceAdd, Nat.reduceEqDiff, Nat.reduceSub, Nat.reduceMul, Nat.reduceBEq, reduceIte, reduceCtorEq]
  repeat (refine ⟨by first | exact Bool.or_not_self _ | exact Bool.not_or_self _ | exact fun _ => by decide | exact fun h => ⟨h, by decide⟩ | omega | (simp only [decide_eq_true_eq]; omega) | exact xD | exact fun h => ⟨h, xD⟩ | exact xDD | exact fun h => ⟨h, xDD⟩ | exact ⟨_, rfl⟩ | exact fun h => ⟨h, _, rfl⟩ | exact ⟨_, _, rfl⟩ | exact fun h => ⟨h, _, _, rfl⟩ | exact fun h => ⟨h, _, _, _, rfl⟩ | exact ⟨_, _, _, _, rfl⟩ | exact fun h => ⟨h, _, _, _, _, rfl⟩ | exact ⟨[_, _], rfl⟩ | (simp; done) | (simp_all; done) | (simp_all; omega), ?_⟩)
  refine hK _ ?_ ?_
  · simp only [go_sem, Nat.reduceLT, Nat.reduceAdd, Nat.reduceEqDiff, Nat.reduceSub, Nat.reduceMul, Nat.reduceBEq, reduceIte, reduceCtorEq]
  clear K' hK
  simp only [go_sem, Nat.reduceLT, Nat.reduceAdd, Nat.reduceEqDiff, Nat.reduceSub, Nat.reduceMul, Nat.reduceBEq, reduceIte, reduceCtorEq]
  repeat refine cl_seq ?_
  refine cl_rs hΓ [0,2,4,8] [[4, 0]] fun K' hK => ?_
  simp only [go_sem, Nat.reduceLT, Nat.reduceAdd, Nat.reduceEqDiff, Nat.reduceSub, Nat.reduceMul, Nat.reduceBEq, reduceIte, reduceCtorEq]
  repeat (refine ⟨by first | exact Bool.or_not_self _ | exact Bool.not_or_self _ | exact fun _ => by decide | exact fun h => ⟨h, by decide⟩ | omega | (simp only [decide_eq_true_eq]; omega) | exact xD | exact fun h => ⟨h, xD⟩ | exact xDD | exact fun h => ⟨h, xDD⟩ | exact ⟨_, rfl⟩ | exact fun h => ⟨h, _, rfl⟩ | exact ⟨_, _, rfl⟩ | exact fun h => ⟨h, _, _, rfl⟩ | exact fun h => ⟨h, _, _, _, rfl⟩ | exact ⟨_, _, _, _, rfl⟩ | exact fun h => ⟨h, _, _, _, _, rfl⟩ | exact ⟨[_, _], rfl⟩ | (simp; done) | (simp_all; done) | (simp_all; omega), ?_⟩)
  refine hK _ ?_ ?_
  · simp only [go_sem, Nat.reduceLT, Nat.reduceAdd, Nat.reduceEqDiff, Nat.reduceSub, Nat.reduceMul, Nat.reduceBEq, reduceIte, reduceCtorEq]
  clear K' hK
  simp only [go_sem, Nat.reduceLT, Nat.reduceAdd, Nat.reduceEqDiff, Nat.reduceSub, Nat.reduceMul, Nat.reduceBEq, reduceIte, reduceCtorEq]
  repeat refine cl_seq ?_
  refine cl_rs hΓ [0,2,4,8,9,10] [[4, 0]] fun K' hK => ?_
  simp only [go_sem, Nat.reduceLT, Nat.reduceAdd, Nat.reduceEqDiff, Nat.reduceSub, Nat.reduceMul, Nat.reduceBEq, reduceIte, reduceCtorEq]
  repeat (refine ⟨by first | exact Bool.or_not_self _ | exact Bool.not_or_self _ | exact fun _ => by decide | exact fun h => ⟨h, by decide⟩ | omega | (simp only [decide_eq_true_eq]; omega) | exact xD | exact fun h => ⟨h, xD⟩ | exact xDD | exact fun h => ⟨h, xDD⟩ | exact ⟨_, rfl⟩ | exact fun h => ⟨h, _, rfl⟩ | exact ⟨_, _, rfl⟩ | exact fun h => ⟨h, _, _, rfl⟩ | exact fun h => ⟨h, _, _, _, rfl⟩ | exact ⟨_, _, _, _, rfl⟩ | exact fun h => ⟨h, _, _, _, _, rfl⟩ | exact ⟨[_, _], rfl⟩ | (simp; done) | (simp_all; done) | (simp_all; omega), ?_⟩)
  refine hK _ ?_ ?_
  · simp only [go_sem, Nat.reduceLT, Nat.reduceAdd, Nat.reduceEqDiff, Nat.reduceSub, Nat.reduceMul, Nat.reduceBEq, reduceIte, reduceCtorEq]
  clear K' hK
  simp only [go_sem, Nat.reduceLT, Nat.reduceAdd, Nat.reduceEqDiff, Nat.reduceSub, Nat.reduceMul, Nat.reduceBEq, reduceIte, reduceCtorEq]
  repeat refine cl_seq ?_
  refine cl_block ?_
  repeat refine cl_seq ?_
  refine cl_loop' (fun ij : Nat × Nat => [(9, ⟨true, .v (vInt ij.1)⟩), (10, ⟨true, .v (vInt ij.2)⟩)]) (fun i => []) (fun ij => ij.1 ≤ ij.2 ∧ ij.2 ≤ l.length ∧ (∀ k (h : k < l.length), k < ij.1 → ltD l[k] (itD a b)) ∧ (∀ k (h : k < l.length), ij.2 ≤ k → ¬ ltD l[k] (itD a b))) (fun ij => ij.2 - ij.1) (0, l.length) ?_ ?_ ?_ ?_
  · exact ⟨Nat.zero_le _, Nat.le_refl _, fun k h hk => by omega, fun k h hk => by omega⟩
  · rfl
  · rfl
  rintro ⟨i, j⟩ ⟨hij, hjl, hlo, hhi⟩
  simp only [go_sem, Nat.reduceLT, Nat.reduceAdd, Nat.reduceEqDiff, Nat.reduceSub, Nat.reduceMul, Nat.reduceBEq, reduceIte, reduceCtorEq]
  repeat refine cl_seq ?_
  repeat refine cl_seq ?_
  refine cl_rs hΓ [0,2,4,8,9,10,17] [[4, 0]] fun K' hK => ?_
  simp only [go_sem, Nat.reduceLT, Nat.reduceAdd, Nat.reduceEqDiff, Nat.reduceSub, Nat.reduceMul, Nat.reduceBEq, reduceIte, reduceCtorEq]
  repeat (refine ⟨by first | exact Bool.or_not_self _ | exact Bool.not_or_self _ | exact fun _ => by decide | exact fun h => ⟨h, by decide⟩ | omega | (simp only [decide_eq_true_eq]; omega) | exact xD | exact fun h => ⟨h, xD⟩ | exact xDD | exact fun h => ⟨h, xDD⟩ | exact ⟨_, rfl⟩ | exact fun h => ⟨h, _, rfl⟩ | exact ⟨_, _, rfl⟩ | exact fun h => ⟨h, _, _, rfl⟩ | exact fun h => ⟨h, _, _, _, rfl⟩ | exact ⟨_, _, _, _, rfl⟩ | exact fun h => ⟨h, _, _, _, _, rfl⟩ | exact ⟨[_, _], rfl⟩ | (simp; done) | (simp_all; done) | (simp_all; omega), ?_⟩)
  refine hK _ ?_ ?_
  · simp only [go_sem, Nat.reduceLT, Nat.reduceAdd, Nat.reduceEqDiff, Nat.reduceSub, Nat.reduceMul, Nat.reduceBEq, reduceIte, reduceCtorEq]
  clear K' hK
  simp only [go_sem, Nat.reduceLT, Nat.reduceAdd, Nat.reduceEqDiff, Nat.reduceSub, Nat.reduceMul, Nat.reduceBEq, reduceIte, reduceCtorEq]
  repeat refine cl_seq ?_
  refine cl_cond rfl rfl (fun hb => ?_) (fun hb => ?_)
  · have hlt : i < j := by simpa using hb
    repeat refine cl_seq ?_
    refine cl_skip ?_
    repeat refine cl_seq ?_
    refine cl_block ?_
    repeat refine cl_seq ?_
    repeat refine cl_seq ?_
    refine cl_rs hΓ [0,2,4,8,9,10,11] [[4, 0]] fun K' hK => ?_
    simp only [go_sem, Nat.reduceLT, Nat.reduceAdd, Nat.reduceEqDiff, Nat.reduceSub, Nat.reduceMul, Nat.reduceBEq, reduceIte, reduceCtorEq, mid_i64 (show i ≤ maxLen by omega) (show j ≤ maxLen by omega)]
    repeat (refine ⟨by first | exact Bool.or_not_self _ | exact Bool.not_or_self _ | exact fun _ => by decide | exact fun h => ⟨h, by decide⟩ | omega | (simp only [decide_eq_true_eq]; omega) | exact xD | exact fun h => ⟨h, xD⟩ | exact xDD | exact fun h => ⟨h, xDD⟩ | exact ⟨_, rfl⟩ | exact fun h => ⟨h, _, rfl⟩ | exact ⟨_, _, rfl⟩ | exact fun h => ⟨h, _, _, rfl⟩ | exact fun h => ⟨h, _, _, _, rfl⟩ | exact ⟨_, _, _, _, rfl⟩ | exact fun h => ⟨h, _, _, _, _, rfl⟩ | exact ⟨[_, _], rfl⟩ | (simp; done) | (simp_all; done) | (simp_all; omega), ?_⟩)
    refine hK _ ?_ ?_
    · simp only [go_sem, Nat.reduceLT, Nat.reduceAdd, Nat.reduceEqDiff, Nat.reduceSub, Nat.reduceMul, Nat.reduceBEq, reduceIte, reduceCtorEq, mid_i64 (show i ≤ maxLen by omega) (show j ≤ maxLen by omega)]
    clear K' hK
    simp only [go_sem, Nat.reduceLT, Nat.reduceAdd, Nat.reduceEqDiff, Nat.reduceSub, Nat.reduceMul, Nat.reduceBEq, reduceIte, reduceCtorEq, mid_i64 (show i ≤ maxLen by omega) (show j ≤ maxLen by omega)]
    obtain ⟨h, hh⟩ : ∃ h, h = (i + j) / 2 := ⟨_, rfl⟩
    rw [← hh]
    have h1 : i ≤ h := by omega
    have h2 : h < j := by omega
    have h3 : h < l.length := by omega
    have h3' : (h : Int) < l.length := by omega
    repeat refine cl_seq ?_
    refine cl_ds hΓ hP [[], [], [], [1, 2], [1, 2, 3], [], [0, 1, 2, 3, 4, 5], [0, 1, 2, 3, 4, 5, 6]] [0,2,4,8,9,10,11,31] [[4, 0]] (by kernel_rfl) fun K' hK => ?_
    simp only [go_sem, Nat.reduceLT, Nat.reduceAdd, Nat.reduceEqDiff, Nat.reduceSub, Nat.reduceMul, Nat.reduceBEq, reduceIte, reduceCtorEq, hcmp, map_getD h3, Int.toNat_natCast, Int.natCast_nonneg, h3']
    repeat (refine ⟨by first | exact Bool.or_not_self _ | exact Bool.not_or_self _ | exact fun _ => by decide | exact fun h => ⟨h, by decide⟩ | omega | (simp only [decide_eq_true_eq]; omega) | exact xD | exact fun h => ⟨h, xD⟩ | exact xDD | exact fun h => ⟨h, xDD⟩ | exact ⟨_, rfl⟩ | exact fun h => ⟨h, _, rfl⟩ | exact ⟨_, _, rfl⟩ | exact fun h => ⟨h, _, _, rfl⟩ | exact fun h => ⟨h, _, _, _, rfl⟩ | exact ⟨_, _, _, _, rfl⟩ | exact fun h => ⟨h, _, _, _, _, rfl⟩ | exact ⟨[_, _], rfl⟩ | (simp; done) | (simp_all; done) | (simp_all; omega), ?_⟩)
    first | refine ⟨by rfl, ?_⟩ | skip
    refine hK _ ?_ ?_
    · simp only [go_sem, Nat.reduceLT, Nat.reduceAdd, Nat.reduceEqDiff, Nat.reduceSub, Nat.reduceMul, Nat.reduceBEq, reduceIte, reduceCtorEq, hcmp, map_getD h3, Int.toNat_natCast, Int.natCast_nonneg, h3']
    clear K' hK
    simp only [go_sem, Nat.reduceLT, Nat.reduceAdd, Nat.reduceEqDiff, Nat.reduceSub, Nat.reduceMul, Nat.reduceBEq, reduceIte, reduceCtorEq, hcmp, map_getD h3, Int.toNat_natCast, Int.natCast_nonneg, h3']
    repeat refine cl_seq ?_
    refine cl_cond rfl rfl (fun hb => ?_) (fun hb => ?_)
    · have hx : ltD l[h] (itD a b) := by simpa [cmpIt_lt] using hb
      repeat refine cl_seq ?_
      repeat refine cl_seq ?_
      refine cl_r hΓ fun K' hK => ?_
      simp only [go_sem, Nat.reduceLT, Nat.reduceAdd, Nat.reduceEqDiff, Nat.reduceSub, Nat.reduceMul, Nat.reduceBEq, reduceIte, reduceCtorEq]
      repeat (refine ⟨by first | exact Bool.or_not_self _ | exact Bool.not_or_self _ | exact fun _ => by decide | exact fun h => ⟨h, by decide⟩ | omega | (simp only [decide_eq_true_eq]; omega) | exact xD | exact fun h => ⟨h, xD⟩ | exact xDD | exact fun h => ⟨h, xDD⟩ | exact ⟨_, rfl⟩ | exact fun h => ⟨h, _, rfl⟩ | exact ⟨_, _, rfl⟩ | exact fun h => ⟨h, _, _, rfl⟩ | exact fun h => ⟨h, _, _, _, rfl⟩ | exact ⟨_, _, _, _, rfl⟩ | exact fun h => ⟨h, _, _, _, _, rfl⟩ | exact ⟨[_, _], rfl⟩ | (simp; done) | (simp_all; done) | (simp_all; omega), ?_⟩)
      refine hK _ ?_
      clear K' hK
      simp only [go_sem, Nat.reduceLT, Nat.reduceAdd, Nat.reduceEqDiff, Nat.reduceSub, Nat.reduceMul, Nat.reduceBEq, reduceIte, reduceCtorEq]
      refine ⟨(h + 1, j), ⟨by omega, hjl, fun k hk hkh => ?_, hhi⟩, by omega, ?_⟩
      · rcases Nat.lt_succ_iff_lt_or_eq.1 hkh with h5 | h5
        · have := List.pairwise_iff_getElem.1 hs k h hk h3 h5; exact ltD_trans this hx
        · subst h5; exact hx
      · refine weak_eq [0,2,4,8,9,10] [[4, 0]] ?_ ?_
        · simp only [go_sem, Nat.reduceLT, Nat.reduceAdd, Nat.reduceEqDiff, Nat.reduceSub, Nat.reduceMul, Nat.reduceBEq, reduceIte, reduceCtorEq, wrap_succ h3 hl, Int.natCast_add, Int.natCast_one]
        · simp only [go_sem, Nat.reduceLT, Nat.reduceAdd, Nat.reduceEqDiff, Nat.reduceSub, Nat.reduceMul, Nat.reduceBEq, reduceIte, reduceCtorEq, wrap_succ h3 hl, Int.natCast_add, Int.natCast_one]
    · have hx : ¬ ltD l[h] (itD a b) := by
        have : ¬ ltD l[h] (itD a b) := by simpa [cmpIt_lt] using hb
        exact this
      repeat refine cl_seq ?_
      repeat refine cl_seq ?_
      refine cl_r hΓ fun K' hK => ?_
      simp only [go_sem, Nat.reduceLT, Nat.reduceAdd, Nat.reduceEqDiff, Nat.reduceSub, Nat.reduceMul, Nat.reduceBEq, reduceIte, reduceCtorEq]
      repeat (refine ⟨by first | exact Bool.or_not_self _ | exact Bool.not_or_self _ | exact fun _ => by decide | exact fun h => ⟨h, by decide⟩ | omega | (simp only [decide_eq_true_eq]; omega) | exact xD | exact fun h => ⟨h, xD⟩ | exact xDD | exact fun h => ⟨h, xDD⟩ | exact ⟨_, rfl⟩ | exact fun h => ⟨h, _, rfl⟩ | exact ⟨_, _, rfl⟩ | exact fun h => ⟨h, _, _, rfl⟩ | exact fun h => ⟨h, _, _, _, rfl⟩ | exact ⟨_, _, _, _, rfl⟩ | exact fun h => ⟨h, _, _, _, _, rfl⟩ | exact ⟨[_, _], rfl⟩ | (simp; done) | (simp_all; done) | (simp_all; omega), ?_⟩)
      refine hK _ ?_
      clear K' hK
      simp only [go_sem, Nat.reduceLT, Nat.reduceAdd, Nat.reduceEqDiff, Nat.reduceSub, Nat.reduceMul, Nat.reduceBEq, reduceIte, reduceCtorEq]
      refine ⟨(i, h), ⟨by omega, by omega, hlo, fun k hk hkh => ?_⟩, by omega, ?_⟩
      · rcases Nat.lt_or_eq_of_le hkh with h5 | h5
        · have := List.pairwise_iff_getElem.1 hs h k h3 hk h5; exact fun hc => hx (ltD_trans this hc)
        · subst h5; exact hx
      · refine weak_eq [0,2,4,8,9,10] [[4, 0]] ?_ ?_
        · simp only [go_sem, Nat.reduceLT, Nat.reduceAdd, Nat.reduceEqDiff, Nat.reduceSub, Nat.reduceMul, Nat.reduceBEq, reduceIte, reduceCtorEq]
        · simp only [go_sem, Nat.reduceLT, Nat.reduceAdd, Nat.reduceEqDiff, Nat.reduceSub, Nat.reduceMul, Nat.reduceBEq, reduceIte, reduceCtorEq]
  · have he : i = j := by
      have : ¬ (i : Int) < j := by simpa using hb
      omega
    subst he
    repeat refine cl_seq ?_
    refine cl_exit ?_
    simp only [go_sem, Nat.reduceLT, Nat.reduceAdd, Nat.reduceEqDiff, Nat.reduceSub, Nat.reduceMul, Nat.reduceBEq, reduceIte, reduceCtorEq]
    refine cl_keep [0,2,4,8,9] [[4, 0]] ?_ ?_
    · simp only [go_sem, Nat.reduceLT, Nat.reduceAdd, Nat.reduceEqDiff, Nat.reduceSub, Nat.reduceMul, Nat.reduceBEq, reduceIte, reduceCtorEq]
    simp only [go_sem, Nat.reduceLT, Nat.reduceAdd, Nat.reduceEqDiff, Nat.reduceSub, Nat.reduceMul, Nat.reduceBEq, reduceIte, reduceCtorEq]
    by_cases hin : i < l.length
    · have hin' : (i : Int) < l.length := by omega
      repeat refine cl_seq ?_
      refine cl_ds hΓ hP [[], [], [], [1, 2], [1, 2, 3], [1, 2, 3, 4], [1, 2, 3, 4], [1, 2, 3, 4], [1, 2, 3, 4, 6, 7], [1, 2, 3, 4, 6, 7, 8], [1, 2, 3, 4], [1, 2, 3, 4, 5, 6, 7, 8, 9, 10], [1, 2, 3, 4, 5, 6, 7, 8, 9, 10, 11], [1, 2, 3, 4, 5, 6, 7, 8, 9, 10, 11, 12], [0, 1, 2, 3, 4, 5, 6, 7, 8, 9, 10, 11], [0, 1, 2, 3, 4, 5, 6, 7, 8, 9, 10, 11, 12, 13, 14]] [6,7] [] (by kernel_rfl) fun K' hK => ?_
      simp only [go_sem, Nat.reduceLT, Nat.reduceAdd, Nat.reduceEqDiff, Nat.reduceSub, Nat.reduceMul, Nat.reduceBEq, reduceIte, reduceCtorEq, hcmp, map_getD hin, Int.toNat_natCast, Int.natCast_nonneg, hin']
      repeat (refine ⟨by first | exact Bool.or_not_self _ | exact Bool.not_or_self _ | exact fun _ => by decide | exact fun h => ⟨h, by decide⟩ | omega | (simp only [decide_eq_true_eq]; omega) | exact xD | exact fun h => ⟨h, xD⟩ | exact xDD | exact fun h => ⟨h, xDD⟩ | exact ⟨_, rfl⟩ | exact fun h => ⟨h, _, rfl⟩ | exact ⟨_, _, rfl⟩ | exact fun h => ⟨h, _, _, rfl⟩ | exact fun h => ⟨h, _, _, _, rfl⟩ | exact ⟨_, _, _, _, rfl⟩ | exact fun h => ⟨h, _, _, _, _, rfl⟩ | exact ⟨[_, _], rfl⟩ | (simp; done) | (simp_all; done) | (simp_all; omega), ?_⟩)
      first | refine ⟨by rfl, ?_⟩ | skip
      refine hK _ ?_ ?_
      · simp only [go_sem, Nat.reduceLT, Nat.reduceAdd, Nat.reduceEqDiff, Nat.reduceSub, Nat.reduceMul, Nat.reduceBEq, reduceIte, reduceCtorEq, hcmp, map_getD hin, Int.toNat_natCast, Int.natCast_nonneg, hin']
      clear K' hK
      simp only [go_sem, Nat.reduceLT, Nat.reduceAdd, Nat.reduceEqDiff, Nat.reduceSub, Nat.reduceMul, Nat.reduceBEq, reduceIte, reduceCtorEq, hcmp, map_getD hin, Int.toNat_natCast, Int.natCast_nonneg, hin']
      refine cl_ret ?_
      simp only [go_sem, Nat.reduceLT, Nat.reduceAdd, Nat.reduceEqDiff, Nat.reduceSub, Nat.reduceMul, Nat.reduceBEq, reduceIte, reduceCtorEq]
      rw [lowD_at hjl hlo hhi, hasD_at hs hin hlo hhi]
      rfl
    · have hil : i = l.length := by omega
      have hin' : ¬ (i : Int) < l.length := by omega
      obtain ⟨k0, n0, hdef⟩ : ∃ k0 n0, (l.map encD).getD i default = .int k0 n0 := by
        refine ⟨default, default, ?_⟩
        rw [List.getD_eq_getElem?_getD, List.getElem?_eq_none (by simp; omega)]
        rfl
      repeat refine cl_seq ?_
      refine cl_ds hΓ hP [[], [], [], [1, 2], [1, 2, 3], [1, 2, 3, 4], [1, 2, 3, 4], [1, 2, 3, 4], [1, 2, 3, 4, 6, 7], [1, 2, 3, 4, 6, 7, 8], [1, 2, 3, 4], [1, 2, 3, 4, 5, 6, 7, 8, 9, 10], [1, 2, 3, 4, 5, 6, 7, 8, 9, 10, 11], [1, 2, 3, 4, 5, 6, 7, 8, 9, 10, 11, 12], [0, 1, 2, 3, 4, 5, 6, 7, 8, 9, 10, 11], [0, 1, 2, 3, 4, 5, 6, 7, 8, 9, 10, 11, 12, 13, 14]] [6,7] [] (by kernel_rfl) fun K' hK => ?_
      simp only [go_sem, Nat.reduceLT, Nat.reduceAdd, Nat.reduceEqDiff, Nat.reduceSub, Nat.reduceMul, Nat.reduceBEq, reduceIte, reduceCtorEq, hcmp, hdef, List.take_nil, decide_false, Bool.false_eq_true, Int.toNat_natCast, Int.natCast_nonneg, hin']
      repeat (refine ⟨by first | exact Bool.or_not_self _ | exact Bool.not_or_self _ | exact fun _ => by decide | exact fun h => ⟨h, by decide⟩ | omega | (simp only [decide_eq_true_eq]; omega) | exact xD | exact fun h => ⟨h, xD⟩ | exact xDD | exact fun h => ⟨h, xDD⟩ | exact ⟨_, rfl⟩ | exact fun h => ⟨h, _, rfl⟩ | exact ⟨_, _, rfl⟩ | exact fun h => ⟨h, _, _, rfl⟩ | exact fun h => ⟨h, _, _, _, rfl⟩ | exact ⟨_, _, _, _, rfl⟩ | exact fun h => ⟨h, _, _, _, _, rfl⟩ | exact ⟨[_, _], rfl⟩ | (simp; done) | (simp_all; done) | (simp_all; omega), ?_⟩)
      first | refine ⟨by rfl, ?_⟩ | skip
      refine hK _ ?_ ?_
      · simp only [go_sem, Nat.reduceLT, Nat.reduceAdd, Nat.reduceEqDiff, Nat.reduceSub, Nat.reduceMul, Nat.reduceBEq, reduceIte, reduceCtorEq, hcmp, hdef, List.take_nil, decide_false, Bool.false_eq_true, Int.toNat_natCast, Int.natCast_nonneg, hin']
      clear K' hK
      simp only [go_sem, Nat.reduceLT, Nat.reduceAdd, Nat.reduceEqDiff, Nat.reduceSub, Nat.reduceMul, Nat.reduceBEq, reduceIte, reduceCtorEq, hcmp, hdef, List.take_nil, decide_false, Bool.false_eq_true, Int.toNat_natCast, Int.natCast_nonneg, hin']
      refine cl_ret ?_
      simp only [go_sem, Nat.reduceLT, Nat.reduceAdd, Nat.reduceEqDiff, Nat.reduceSub, Nat.reduceMul, Nat.reduceBEq, reduceIte, reduceCtorEq]
      rw [lowD_at hjl hlo hhi, hasD_none fun k hk => hlo k hk (by omega)]

def pFindS : PSpec := ⟨fun xs => ∃ (l : List Deed) (a b : Int), xs = [.sl (l.map encD), .agg [vInt a, vInt b], .clo (.func 139) [] []] ∧ l.Pairwise ltD, fun xs => match xs with | [.sl l, .agg [.int _ a, .int _ b], _] => .tup [vInt (lowD (l.map decD) (itD a b)), .bool (hasD (l.map decD) (itD a b))] | _ => .bool false, true⟩
theorem s138 : PSound Tryz.prog 138 pFindS := by
  refine psoundB (rs := [.tmp 6, .tmp 7]) Tryz.func138 Tryz.ntmps138 (by rfl) (by kernel_rfl) (by decide) (by rintro _ xs ⟨l, a, b, rfl, _⟩; rfl) ?_
  obtain ⟨c, hc, _⟩ := w138 [] 0 0 (by simp) (by simp [maxLen])
  refine ⟨c, hc, ?_⟩
  rintro xs ⟨l, a, b, rfl, hs⟩ hw
  have hl : l.length ≤ maxLen := by have := hw.1.1; simpa using this
  refine ⟨Nat.le_of_ble_eq_true rfl, ?_⟩
  obtain ⟨c', hc', h⟩ := w138 l a b hs hl
  rw [hc] at hc'
  cases hc'
  have e : pFindS.fn [.sl (l.map encD), .agg [vInt a, vInt b], .clo (.func 139) [] []] = .tup [vInt (lowD l (itD a b)), .bool (hasD l (itD a b))] := by
    simp only [pFindS, decD_map]
  rw [e]
  exact h
def sFindS : Spec := pFindS.toSpec
theorem sFindS_app {obj : Name → Option O} {t : Name} {l : List Deed} {a b : Int} (hs : l.Pairwise ltD) : sFindS.app obj t [.v (.sl (l.map encD)), .agg [.v (vInt a), .v (vInt b)], .v (.clo (.func 139) [] [])] = ⟨True, .v (.tup [vInt (lowD l (itD a b)), .bool (hasD l (itD a b))]), obj⟩ := by
  have e : frzL (frz 6) obj [.v (.sl (l.map encD)), .agg [.v (vInt a), .v (vInt b)], .v (.clo (.func 139) [] [])] = ⟨True, [.sl (l.map encD), .agg [vInt a, vInt b], .clo (.func 139) [] []], obj⟩ := by
    simp only [frzL, frz]
    simp
  simp only [sFindS, PSpec.toSpec, e, pFindS, decD_map, if_true]
  congr 1
  simp only [eq_iff_iff, iff_true]
  exact ⟨trivial, l, a, b, rfl, hs⟩
def K28b : FuncId → Option Spec := fun f => match f with
  | 138 => some sFindS
  | _ => none
theorem K28b_sound : ∀ f s, K28b f = some s → SSound Tryz.prog f s := by
  intro f s h
  unfold K28b at h
  split at h
  · cases h; exact s138.sound
  · cases h
@[go_sem] theorem K28b_138 : K28b 138 = some sFindS := rfl
def findV (l : List Deed) (a b : Int) : V := match atD l (itD a b) with
  | some d => .tup [encD d, .bool true]
  | none => .tup [encD zeroD, .bool false]
def pFind : PSpec := ⟨fun xs => ∃ (l : List Deed) (a b : Int), xs = [.sl (l.map encD), .agg [vInt a, vInt b]] ∧ l.Pairwise ltD, fun xs => match xs with | [.sl l, .agg [.int _ a, .int _ b]] => findV (l.map decD) a b | _ => .bool false, true⟩
set_option maxRecDepth 10000 in
theorem s74 : PSound Tryz.prog 74 pFind := by
  refine psoundB (rs := [.cell 4 35, .tmp 5]) Tryz.func74 Tryz.ntmps74 (by rfl) (by kernel_rfl) (by decide) (by
    rintro _ xs ⟨l, a, b, rfl, _⟩
    simp only [pFind, decD_map]
    unfold findV
    split <;> rfl) ⟨_, rfl, ?_⟩
  rintro xs ⟨l, a, b, rfl, hs⟩ hw
  have hl : l.length ≤ maxLen := by have := hw.1.1; simpa using this
  refine ⟨Nat.le_of_ble_eq_true rfl, ?_⟩
  have e : pFind.fn [.sl (l.map encD), .agg [vInt a, vInt b]] = findV l a b := by simp only [pFind, decD_map]
  rw [e]
  have hΓ := K28b_sound
  repeat refine cl_seq ?_
  refine cl_rs hΓ [0,3,4] [[3, 0], [4, 0]] fun K' hK => ?_
  simp only [go_sem, Nat.reduceLT, Nat.reduceAdd, Nat.reduceEqDiff, Nat.reduceSub, Nat.reduceMul, Nat.reduceBEq, reduceIte, reduceCtorEq, tz35]
  repeat (refine ⟨by first | exact Bool.or_not_self _ | exact Bool.not_or_self _ | exact fun _ => by decide | exact fun h => ⟨h, by decide⟩ | omega | (simp only [decide_eq_true_eq]; omega) | exact xD | exact fun h => ⟨h, xD⟩ | exact xDD | exact fun h => ⟨h, xDD⟩ | exact ⟨_, rfl⟩ | exact fun h => ⟨h, _, rfl⟩ | exact ⟨_, _, rfl⟩ | exact fun h => ⟨h, _, _, rfl⟩ | exact fun h => ⟨h, _, _, _, rfl⟩ | exact ⟨_, _, _, _, rfl⟩ | exact fun h => ⟨h, _, _, _, _, rfl⟩ | exact ⟨[_, _], rfl⟩ | (simp; done) | (simp_all; done) | (simp_all; omega), ?_⟩)
  refine hK _ ?_ ?_
  · simp only [go_sem, Nat.reduceLT, Nat.reduceAdd, Nat.reduceEqDiff, Nat.reduceSub, Nat.reduceMul, Nat.reduceBEq, reduceIte, reduceCtorEq, tz35]
  clear K' hK
  simp only [go_sem, Nat.reduceLT, Nat.reduceAdd, Nat.reduceEqDiff, Nat.reduceSub, Nat.reduceMul, Nat.reduceBEq, reduceIte, reduceCtorEq, tz35]
  repeat refine cl_seq ?_
  refine cl_rs hΓ [0,4,6,7] [[4, 0]] fun K' hK => ?_
  simp only [go_sem, Nat.reduceLT, Nat.reduceAdd, Nat.reduceEqDiff, Nat.reduceSub, Nat.reduceMul, Nat.reduceBEq, reduceIte, reduceCtorEq, sFindS_app hs]
  repeat (refine ⟨by first | exact Bool.or_not_self _ | exact Bool.not_or_self _ | exact fun _ => by decide | exact fun h => ⟨h, by decide⟩ | omega | (simp only [decide_eq_true_eq]; omega) | exact xD | exact fun h => ⟨h, xD⟩ | exact xDD | exact fun h => ⟨h, xDD⟩ | exact ⟨_, rfl⟩ | exact fun h => ⟨h, _, rfl⟩ | exact ⟨_, _, rfl⟩ | exact fun h => ⟨h, _, _, rfl⟩ | exact fun h => ⟨h, _, _, _, rfl⟩ | exact ⟨_, _, _, _, rfl⟩ | exact fun h => ⟨h, _, _, _, _, rfl⟩ | exact ⟨[_, _], rfl⟩ | (simp; done) | (simp_all; done) | (simp_all; omega), ?_⟩)
  refine hK _ ?_ ?_
  · simp only [go_sem, Nat.reduceLT, Nat.reduceAdd, Nat.reduceEqDiff, Nat.reduceSub, Nat.reduceMul, Nat.reduceBEq, reduceIte, reduceCtorEq, sFindS_app hs]
  clear K' hK
  simp only [go_sem, Nat.reduceLT, Nat.reduceAdd, Nat.reduceEqDiff, Nat.reduceSub, Nat.reduceMul, Nat.reduceBEq, reduceIte, reduceCtorEq, sFindS_app hs]
  repeat refine cl_seq ?_
  refine cl_rs hΓ [0,4,6,15] [[4, 0]] fun K' hK => ?_
  simp only [go_sem, Nat.reduceLT, Nat.reduceAdd, Nat.reduceEqDiff, Nat.reduceSub, Nat.reduceMul, Nat.reduceBEq, reduceIte, reduceCtorEq]
  repeat (refine ⟨by first | exact Bool.or_not_self _ | exact Bool.not_or_self _ | exact fun _ => by decide | exact fun h => ⟨h, by decide⟩ | omega | (simp only [decide_eq_true_eq]; omega) | exact xD | exact fun h => ⟨h, xD⟩ | exact xDD | exact fun h => ⟨h, xDD⟩ | exact ⟨_, rfl⟩ | exact fun h => ⟨h, _, rfl⟩ | exact ⟨_, _, rfl⟩ | exact fun h => ⟨h, _, _, rfl⟩ | exact fun h => ⟨h, _, _, _, rfl⟩ | exact ⟨_, _, _, _, rfl⟩ | exact fun h => ⟨h, _, _, _, _, rfl⟩ | exact ⟨[_, _], rfl⟩ | (simp; done) | (simp_all; done) | (simp_all; omega), ?_⟩)
  refine hK _ ?_ ?_
  · simp only [go_sem, Nat.reduceLT, Nat.reduceAdd, Nat.reduceEqDiff, Nat.reduceSub, Nat.reduceMul, Nat.reduceBEq, reduceIte, reduceCtorEq]
  clear K' hK
  simp only [go_sem, Nat.reduceLT, Nat.reduceAdd, Nat.reduceEqDiff, Nat.reduceSub, Nat.reduceMul, Nat.reduceBEq, reduceIte, reduceCtorEq]
  repeat refine cl_seq ?_
  refine cl_cond rfl rfl (fun hb => ?_) (fun hb => ?_)
  · have hn : hasD l (itD a b) = false := by simpa using hb
    have hn2 : atD l (itD a b) = none := by
      have := hasD_some l (itD a b)
      rw [hn] at this
      cases h : atD l (itD a b) with
      | none => rfl
      | some y => rw [h] at this; cases this
    repeat refine cl_seq ?_
    repeat refine cl_seq ?_
    refine cl_rs hΓ [4,5] [[4, 0]] fun K' hK => ?_
    simp only [go_sem, Nat.reduceLT, Nat.reduceAdd, Nat.reduceEqDiff, Nat.reduceSub, Nat.reduceMul, Nat.reduceBEq, reduceIte, reduceCtorEq, tz35, tp35]
    repeat (refine ⟨by first | exact Bool.or_not_self _ | exact Bool.not_or_self _ | exact fun _ => by decide | exact fun h => ⟨h, by decide⟩ | omega | (simp only [decide_eq_true_eq]; omega) | exact xD | exact fun h => ⟨h, xD⟩ | exact xDD | exact fun h => ⟨h, xDD⟩ | exact ⟨_, rfl⟩ | exact fun h => ⟨h, _, rfl⟩ | exact ⟨_, _, rfl⟩ | exact fun h => ⟨h, _, _, rfl⟩ | exact fun h => ⟨h, _, _, _, rfl⟩ | exact ⟨_, _, _, _, rfl⟩ | exact fun h => ⟨h, _, _, _, _, rfl⟩ | exact ⟨[_, _], rfl⟩ | (simp; done) | (simp_all; done) | (simp_all; omega), ?_⟩)
    refine hK _ ?_ ?_
    · simp only [go_sem, Nat.reduceLT, Nat.reduceAdd, Nat.reduceEqDiff, Nat.reduceSub, Nat.reduceMul, Nat.reduceBEq, reduceIte, reduceCtorEq, tz35, tp35]
    clear K' hK
    simp only [go_sem, Nat.reduceLT, Nat.reduceAdd, Nat.reduceEqDiff, Nat.reduceSub, Nat.reduceMul, Nat.reduceBEq, reduceIte, reduceCtorEq, tz35, tp35]
    refine cl_ret ?_
    simp only [go_sem, Nat.reduceLT, Nat.reduceAdd, Nat.reduceEqDiff, Nat.reduceSub, Nat.reduceMul, Nat.reduceBEq, reduceIte, reduceCtorEq]
    unfold findV
    rw [hn2]
    first | rfl | (simp [zeroD, encD]; done) | trace_state
  · have hn : hasD l (itD a b) = true := by simpa using hb
    obtain ⟨hlo, hat⟩ := lowD_lt hn
    have hlo' : (lowD l (itD a b) : Int) < l.length := by omega
    repeat refine cl_seq ?_
    refine cl_skip ?_
    repeat refine cl_seq ?_
    refine cl_rs hΓ [4,5] [[4, 0]] fun K' hK => ?_
    simp only [go_sem, Nat.reduceLT, Nat.reduceAdd, Nat.reduceEqDiff, Nat.reduceSub, Nat.reduceMul, Nat.reduceBEq, reduceIte, reduceCtorEq, map_getD hlo, Int.toNat_natCast, Int.natCast_nonneg, hlo']
    repeat (refine ⟨by first | exact Bool.or_not_self _ | exact Bool.not_or_self _ | exact fun _ => by decide | exact fun h => ⟨h, by decide⟩ | omega | (simp only [decide_eq_true_eq]; omega) | exact xD | exact fun h => ⟨h, xD⟩ | exact xDD | exact fun h => ⟨h, xDD⟩ | exact ⟨_, rfl⟩ | exact fun h => ⟨h, _, rfl⟩ | exact ⟨_, _, rfl⟩ | exact fun h => ⟨h, _, _, rfl⟩ | exact fun h => ⟨h, _, _, _, rfl⟩ | exact ⟨_, _, _, _, rfl⟩ | exact fun h => ⟨h, _, _, _, _, rfl⟩ | exact ⟨[_, _], rfl⟩ | (simp; done) | (simp_all; done) | (simp_all; omega), ?_⟩)
    refine hK _ ?_ ?_
    · simp only [go_sem, Nat.reduceLT, Nat.reduceAdd, Nat.reduceEqDiff, Nat.reduceSub, Nat.reduceMul, Nat.reduceBEq, reduceIte, reduceCtorEq, map_getD hlo, Int.toNat_natCast, Int.natCast_nonneg, hlo']
    clear K' hK
    simp only [go_sem, Nat.reduceLT, Nat.reduceAdd, Nat.reduceEqDiff, Nat.reduceSub, Nat.reduceMul, Nat.reduceBEq, reduceIte, reduceCtorEq, map_getD hlo, Int.toNat_natCast, Int.natCast_nonneg, hlo']
    refine cl_ret ?_
    simp only [go_sem, Nat.reduceLT, Nat.reduceAdd, Nat.reduceEqDiff, Nat.reduceSub, Nat.reduceMul, Nat.reduceBEq, reduceIte, reduceCtorEq]
    unfold findV
    rw [hat]
    first | rfl | (simp [encD]; done) | trace_state
end Go.Eng
namespace Go.Eng
open Go Go.Proofs
/-! days, and whether all are ones -/
def firstII (p : Int → Bool) (l : List Int) : Int := if l.findIdx p < l.length then (l.findIdx p : Int) else -1
def pInt (g : Int → Bool) : Spec := (pIB g).toSpec
theorem pInt_app {g : Int → Bool} {obj : Name → Option O} {t : Name} {n : Int} : (pInt g).app obj t [.v (vInt n)] = ⟨True, .v (.bool (g n)), obj⟩ := by
  simp only [pInt, PSpec.toSpec, pIB, frzL, frz, if_true]
  congr 1
  simp only [eq_iff_iff, iff_true]
  exact ⟨⟨trivial, trivial⟩, n, rfl⟩
def isDayB (n : Int) : Bool := inI n 0 100000
def isPersB (n : Int) : Bool := inI n 1 99
def K29 : FuncId → Option Spec := fun f => match f with
  | 134 => some (pInt isDayB)
  | 109 => some (pInt isPersB)
  | _ => none
theorem K29_sound : ∀ f s, K29 f = some s → SSound Tryz.prog f s := by
  intro f s h
  unfold K29 at h
  split at h
  · cases h; exact s134.sound
  · cases h; exact s109.sound
  · cases h
@[go_sem] theorem K29_134 : K29 134 = some (pInt isDayB) := rfl
@[go_sem] theorem K29_109 : K29 109 = some (pInt isPersB) := rfl
theorem s133 : PSound Tryz.prog 133 (pIB fun n => !isDayB n) := by
  refine psoundB (rs := [.tmp 2]) Tryz.func133 Tryz.ntmps133 (by rfl) (by kernel_rfl) (by decide) (pIB_flat _) ⟨_, rfl, ?_⟩
  rintro xs ⟨n, rfl⟩ _
  refine ⟨Nat.le_of_ble_eq_true rfl, ?_⟩
  have hΓ := K29_sound
  have ha := fun (g : Int → Bool) (obj : Name → Option O) (t : Name) => pInt_app (g := g) (obj := obj) (t := t) (n := n)
  repeat refine cl_seq ?_
  refine cl_rs hΓ [0] [] fun K' hK => ?_
  simp only [go_sem, Nat.reduceLT, Nat.reduceAdd, Nat.reduceEqDiff, Nat.reduceSub, Nat.reduceMul, Nat.reduceBEq, reduceIte, reduceCtorEq]
  repeat (refine ⟨by first | exact Bool.or_not_self _ | exact Bool.not_or_self _ | exact fun _ => by decide | exact fun h => ⟨h, by decide⟩ | omega | (simp only [decide_eq_true_eq]; omega) | exact xD | exact fun h => ⟨h, xD⟩ | exact xDD | exact fun h => ⟨h, xDD⟩ | exact ⟨_, rfl⟩ | exact fun h => ⟨h, _, rfl⟩ | exact ⟨_, _, rfl⟩ | exact fun h => ⟨h, _, _, rfl⟩ | exact fun h => ⟨h, _, _, _, rfl⟩ | exact ⟨_, _, _, _, rfl⟩ | exact fun h => ⟨h, _, _, _, _, rfl⟩ | exact ⟨[_, _], rfl⟩ | (simp; done) | (simp_all; done) | (simp_all; omega), ?_⟩)
  refine hK _ ?_ ?_
  · simp only [go_sem, Nat.reduceLT, Nat.reduceAdd, Nat.reduceEqDiff, Nat.reduceSub, Nat.reduceMul, Nat.reduceBEq, reduceIte, reduceCtorEq]
  clear K' hK
  simp only [go_sem, Nat.reduceLT, Nat.reduceAdd, Nat.reduceEqDiff, Nat.reduceSub, Nat.reduceMul, Nat.reduceBEq, reduceIte, reduceCtorEq]
  repeat refine cl_seq ?_
  refine cl_rs hΓ [2] [] fun K' hK => ?_
  simp only [go_sem, Nat.reduceLT, Nat.reduceAdd, Nat.reduceEqDiff, Nat.reduceSub, Nat.reduceMul, Nat.reduceBEq, reduceIte, reduceCtorEq, ha]
  repeat (refine ⟨by first | exact Bool.or_not_self _ | exact Bool.not_or_self _ | exact fun _ => by decide | exact fun h => ⟨h, by decide⟩ | omega | (simp only [decide_eq_true_eq]; omega) | exact xD | exact fun h => ⟨h, xD⟩ | exact xDD | exact fun h => ⟨h, xDD⟩ | exact ⟨_, rfl⟩ | exact fun h => ⟨h, _, rfl⟩ | exact ⟨_, _, rfl⟩ | exact fun h => ⟨h, _, _, rfl⟩ | exact fun h => ⟨h, _, _, _, rfl⟩ | exact ⟨_, _, _, _, rfl⟩ | exact fun h => ⟨h, _, _, _, _, rfl⟩ | exact ⟨[_, _], rfl⟩ | (simp; done) | (simp_all; done) | (simp_all; omega), ?_⟩)
  refine hK _ ?_ ?_
  · simp only [go_sem, Nat.reduceLT, Nat.reduceAdd, Nat.reduceEqDiff, Nat.reduceSub, Nat.reduceMul, Nat.reduceBEq, reduceIte, reduceCtorEq, ha]
  clear K' hK
  simp only [go_sem, Nat.reduceLT, Nat.reduceAdd, Nat.reduceEqDiff, Nat.reduceSub, Nat.reduceMul, Nat.reduceBEq, reduceIte, reduceCtorEq, ha]
  refine cl_ret ?_
  simp only [go_sem, Nat.reduceLT, Nat.reduceAdd, Nat.reduceEqDiff, Nat.reduceSub, Nat.reduceMul, Nat.reduceBEq, reduceIte, reduceCtorEq]
theorem s146 : PSound Tryz.prog 146 (pIB fun n => !isPersB n) := by
  refine psoundB (rs := [.tmp 2]) Tryz.func146 Tryz.ntmps146 (by rfl) (by kernel_rfl) (by decide) (pIB_flat _) ⟨_, rfl, ?_⟩
  rintro xs ⟨n, rfl⟩ _
  refine ⟨Nat.le_of_ble_eq_true rfl, ?_⟩
  have hΓ := K29_sound
  have ha := fun (g : Int → Bool) (obj : Name → Option O) (t : Name) => pInt_app (g := g) (obj := obj) (t := t) (n := n)
  repeat refine cl_seq ?_
  refine cl_rs hΓ [0] [] fun K' hK => ?_
  simp only [go_sem, Nat.reduceLT, Nat.reduceAdd, Nat.reduceEqDiff, Nat.reduceSub, Nat.reduceMul, Nat.reduceBEq, reduceIte, reduceCtorEq]
  repeat (refine ⟨by first | exact Bool.or_not_self _ | exact Bool.not_or_self _ | exact fun _ => by decide | exact fun h => ⟨h, by decide⟩ | omega | (simp only [decide_eq_true_eq]; omega) | exact xD | exact fun h => ⟨h, xD⟩ | exact xDD | exact fun h => ⟨h, xDD⟩ | exact ⟨_, rfl⟩ | exact fun h => ⟨h, _, rfl⟩ | exact ⟨_, _, rfl⟩ | exact fun h => ⟨h, _, _, rfl⟩ | exact fun h => ⟨h, _, _, _, rfl⟩ | exact ⟨_, _, _, _, rfl⟩ | exact fun h => ⟨h, _, _, _, _, rfl⟩ | exact ⟨[_, _], rfl⟩ | (simp; done) | (simp_all; done) | (simp_all; omega), ?_⟩)
  refine hK _ ?_ ?_
  · simp only [go_sem, Nat.reduceLT, Nat.reduceAdd, Nat.reduceEqDiff, Nat.reduceSub, Nat.reduceMul, Nat.reduceBEq, reduceIte, reduceCtorEq]
  clear K' hK
  simp only [go_sem, Nat.reduceLT, Nat.reduceAdd, Nat.reduceEqDiff, Nat.reduceSub, Nat.reduceMul, Nat.reduceBEq, reduceIte, reduceCtorEq]
  repeat refine cl_seq ?_
  refine cl_rs hΓ [2] [] fun K' hK => ?_
  simp only [go_sem, Nat.reduceLT, Nat.reduceAdd, Nat.reduceEqDiff, Nat.reduceSub, Nat.reduceMul, Nat.reduceBEq, reduceIte, reduceCtorEq, ha]
  repeat (refine ⟨by first | exact Bool.or_not_self _ | exact Bool.not_or_self _ | exact fun _ => by decide | exact fun h => ⟨h, by decide⟩ | omega | (simp only [decide_eq_true_eq]; omega) | exact xD | exact fun h => ⟨h, xD⟩ | exact xDD | exact fun h => ⟨h, xDD⟩ | exact ⟨_, rfl⟩ | exact fun h => ⟨h, _, rfl⟩ | exact ⟨_, _, rfl⟩ | exact fun h => ⟨h, _, _, rfl⟩ | exact fun h => ⟨h, _, _, _, rfl⟩ | exact ⟨_, _, _, _, rfl⟩ | exact fun h => ⟨h, _, _, _, _, rfl⟩ | exact ⟨[_, _], rfl⟩ | (simp; done) | (simp_all; done) | (simp_all; omega), ?_⟩)
  refine hK _ ?_ ?_
  · simp only [go_sem, Nat.reduceLT, Nat.reduceAdd, Nat.reduceEqDiff, Nat.reduceSub, Nat.reduceMul, Nat.reduceBEq, reduceIte, reduceCtorEq, ha]
  clear K' hK
  simp only [go_sem, Nat.reduceLT, Nat.reduceAdd, Nat.reduceEqDiff, Nat.reduceSub, Nat.reduceMul, Nat.reduceBEq, reduceIte, reduceCtorEq, ha]
  refine cl_ret ?_
  simp only [go_sem, Nat.reduceLT, Nat.reduceAdd, Nat.reduceEqDiff, Nat.reduceSub, Nat.reduceMul, Nat.reduceBEq, reduceIte, reduceCtorEq]
def pNot (g : FuncId) : Int → Bool := if g = 133 then (fun n => !isDayB n) else (fun n => !isPersB n)
def K29b : FuncId → Option Spec := fun f => match f with
  | 133 => some (pInt fun n => !isDayB n)
  | 146 => some (pInt fun n => !isPersB n)
  | _ => none
theorem K29b_sound : ∀ f s, K29b f = some s → SSound Tryz.prog f s := by
  intro f s h
  unfold K29b at h
  split at h
  · cases h; exact s133.sound
  · cases h; exact s146.sound
  · cases h
set_option maxRecDepth 10000 in
set_option maxHeartbeats 4000000 in
theorem w163 {Γ : FuncId → Option Spec} (hΓ : ∀ f s, Γ f = some s → SSound Tryz.prog f s) {g : FuncId} {sG : Spec} {p : Int → Bool} (hg : ¬ g = 1000000000) (hs : Γ g = some sG)
    (hp : ∀ (obj : Name → Option O) (t : Name) (n : Int), sG.app obj t [.v (vInt n)] = ⟨True, .v (.bool (p n)), obj⟩) (l : List Int) (hl : l.length ≤ maxLen) :
    ∃ c, Tryz.f163.body = some c ∧ CL Tryz.prog [c] (mkS 19 [0] (fun _ => none) (argsL 0 [.sl (l.map vInt), .clo (.func g) [] []]) []) (retK Tryz.prog [.tmp 4] (vInt (firstII p l))) := by
  refine ⟨_, rfl, ?_⟩
  repeat refine cl_seq ?_
  refine cl_rs hΓ [0,1] [] fun K' hK => ?_
  simp only [go_sem, Nat.reduceLT, Nat.reduceAdd, Nat.reduceEqDiff, Nat.reduceSub, Nat.reduceMul, Nat.reduceBEq, reduceIte, reduceCtorEq]
  repeat (refine ⟨by first | exact Bool.or_not_self _ | exact Bool.not_or_self _ | exact fun _ => by decide | exact fun h => ⟨h, by decide⟩ | omega | (simp only [decide_eq_true_eq]; omega) | exact xD | exact fun h => ⟨h, xD⟩ | exact xDD | exact fun h => ⟨h, xDD⟩ | exact ⟨_, rfl⟩ | exact fun h => ⟨h, _, rfl⟩ | exact ⟨_, _, rfl⟩ | exact fun h => ⟨h, _, _, rfl⟩ | exact fun h => ⟨h, _, _, _, rfl⟩ | exact ⟨_, _, _, _, rfl⟩ | exact fun h => ⟨h, _, _, _, _, rfl⟩ | exact ⟨[_, _], rfl⟩ | (simp; done) | (simp_all; done) | (simp_all; omega), ?_⟩)
  refine hK _ ?_ ?_
  · simp only [go_sem, Nat.reduceLT, Nat.reduceAdd, Nat.reduceEqDiff, Nat.reduceSub, Nat.reduceMul, Nat.reduceBEq, reduceIte, reduceCtorEq]
  clear K' hK
  simp only [go_sem, Nat.reduceLT, Nat.reduceAdd, Nat.reduceEqDiff, Nat.reduceSub, Nat.reduceMul, Nat.reduceBEq, reduceIte, reduceCtorEq]
  repeat refine cl_seq ?_
  refine cl_rs hΓ [0,1,6,7,8] [] fun K' hK => ?_
  simp only [go_sem, Nat.reduceLT, Nat.reduceAdd, Nat.reduceEqDiff, Nat.reduceSub, Nat.reduceMul, Nat.reduceBEq, reduceIte, reduceCtorEq]
  repeat (refine ⟨by first | exact Bool.or_not_self _ | exact Bool.not_or_self _ | exact fun _ => by decide | exact fun h => ⟨h, by decide⟩ | omega | (simp only [decide_eq_true_eq]; omega) | exact xD | exact fun h => ⟨h, xD⟩ | exact xDD | exact fun h => ⟨h, xDD⟩ | exact ⟨_, rfl⟩ | exact fun h => ⟨h, _, rfl⟩ | exact ⟨_, _, rfl⟩ | exact fun h => ⟨h, _, _, rfl⟩ | exact fun h => ⟨h, _, _, _, rfl⟩ | exact ⟨_, _, _, _, rfl⟩ | exact fun h => ⟨h, _, _, _, _, rfl⟩ | exact ⟨[_, _], rfl⟩ | (simp; done) | (simp_all; done) | (simp_all; omega), ?_⟩)
  refine hK _ ?_ ?_
  · simp only [go_sem, Nat.reduceLT, Nat.reduceAdd, Nat.reduceEqDiff, Nat.reduceSub, Nat.reduceMul, Nat.reduceBEq, reduceIte, reduceCtorEq]
  clear K' hK
  simp only [go_sem, Nat.reduceLT, Nat.reduceAdd, Nat.reduceEqDiff, Nat.reduceSub, Nat.reduceMul, Nat.reduceBEq, reduceIte, reduceCtorEq]
  repeat refine cl_seq ?_
  refine cl_block ?_
  repeat refine cl_seq ?_
  refine cl_loop' (fun s : Nat => [(8, ⟨true, .v (vInt s)⟩)]) (fun s => []) (fun s => s ≤ l.length ∧ ∀ j (h : j < l.length), j < s → p l[j] = false) (fun s => l.length - s) 0 ?_ ?_ ?_ ?_
  · exact ⟨Nat.zero_le _, fun j h hj => by omega⟩
  · rfl
  · rfl
  rintro i ⟨hi, hz⟩
  simp only [go_sem, Nat.reduceLT, Nat.reduceAdd, Nat.reduceEqDiff, Nat.reduceSub, Nat.reduceMul, Nat.reduceBEq, reduceIte, reduceCtorEq]
  repeat refine cl_seq ?_
  repeat refine cl_seq ?_
  refine cl_rs hΓ [0,1,6,7,8,9] [] fun K' hK => ?_
  simp only [go_sem, Nat.reduceLT, Nat.reduceAdd, Nat.reduceEqDiff, Nat.reduceSub, Nat.reduceMul, Nat.reduceBEq, reduceIte, reduceCtorEq]
  repeat (refine ⟨by first | exact Bool.or_not_self _ | exact Bool.not_or_self _ | exact fun _ => by decide | exact fun h => ⟨h, by decide⟩ | omega | (simp only [decide_eq_true_eq]; omega) | exact xD | exact fun h => ⟨h, xD⟩ | exact xDD | exact fun h => ⟨h, xDD⟩ | exact ⟨_, rfl⟩ | exact fun h => ⟨h, _, rfl⟩ | exact ⟨_, _, rfl⟩ | exact fun h => ⟨h, _, _, rfl⟩ | exact fun h => ⟨h, _, _, _, rfl⟩ | exact ⟨_, _, _, _, rfl⟩ | exact fun h => ⟨h, _, _, _, _, rfl⟩ | exact ⟨[_, _], rfl⟩ | (simp; done) | (simp_all; done) | (simp_all; omega), ?_⟩)
  refine hK _ ?_ ?_
  · simp only [go_sem, Nat.reduceLT, Nat.reduceAdd, Nat.reduceEqDiff, Nat.reduceSub, Nat.reduceMul, Nat.reduceBEq, reduceIte, reduceCtorEq]
  clear K' hK
  simp only [go_sem, Nat.reduceLT, Nat.reduceAdd, Nat.reduceEqDiff, Nat.reduceSub, Nat.reduceMul, Nat.reduceBEq, reduceIte, reduceCtorEq]
  repeat refine cl_seq ?_
  refine cl_cond rfl rfl (fun hb => ?_) (fun hb => ?_)
  · have hlt : i < l.length := by simpa using hb
    have hlt' : (i : Int) < l.length := by omega
    clear hb
    repeat refine cl_seq ?_
    refine cl_skip ?_
    repeat refine cl_seq ?_
    refine cl_block ?_
    repeat refine cl_seq ?_
    repeat refine cl_seq ?_
    refine cl_rs hΓ [0,1,5,6,7,8] [] fun K' hK => ?_
    simp only [go_sem, Nat.reduceLT, Nat.reduceAdd, Nat.reduceEqDiff, Nat.reduceSub, Nat.reduceMul, Nat.reduceBEq, reduceIte, reduceCtorEq]
    repeat (refine ⟨by first | exact Bool.or_not_self _ | exact Bool.not_or_self _ | exact fun _ => by decide | exact fun h => ⟨h, by decide⟩ | omega | (simp only [decide_eq_true_eq]; omega) | exact xD | exact fun h => ⟨h, xD⟩ | exact xDD | exact fun h => ⟨h, xDD⟩ | exact ⟨_, rfl⟩ | exact fun h => ⟨h, _, rfl⟩ | exact ⟨_, _, rfl⟩ | exact fun h => ⟨h, _, _, rfl⟩ | exact fun h => ⟨h, _, _, _, rfl⟩ | exact ⟨_, _, _, _, rfl⟩ | exact fun h => ⟨h, _, _, _, _, rfl⟩ | exact ⟨[_, _], rfl⟩ | (simp; done) | (simp_all; done) | (simp_all; omega), ?_⟩)
    refine hK _ ?_ ?_
    · simp only [go_sem, Nat.reduceLT, Nat.reduceAdd, Nat.reduceEqDiff, Nat.reduceSub, Nat.reduceMul, Nat.reduceBEq, reduceIte, reduceCtorEq]
    clear K' hK
    simp only [go_sem, Nat.reduceLT, Nat.reduceAdd, Nat.reduceEqDiff, Nat.reduceSub, Nat.reduceMul, Nat.reduceBEq, reduceIte, reduceCtorEq]
    repeat refine cl_seq ?_
    refine cl_rs hΓ [0,1,5,6,7,8,16] [] fun K' hK => ?_
    simp only [go_sem, Nat.reduceLT, Nat.reduceAdd, Nat.reduceEqDiff, Nat.reduceSub, Nat.reduceMul, Nat.reduceBEq, reduceIte, reduceCtorEq, map_getD hlt, Int.toNat_natCast, Int.natCast_nonneg, hlt', hg, hs, hp]
    repeat (refine ⟨by first | exact Bool.or_not_self _ | exact Bool.not_or_self _ | exact fun _ => by decide | exact fun h => ⟨h, by decide⟩ | omega | (simp only [decide_eq_true_eq]; omega) | exact xD | exact fun h => ⟨h, xD⟩ | exact xDD | exact fun h => ⟨h, xDD⟩ | exact ⟨_, rfl⟩ | exact fun h => ⟨h, _, rfl⟩ | exact ⟨_, _, rfl⟩ | exact fun h => ⟨h, _, _, rfl⟩ | exact fun h => ⟨h, _, _, _, rfl⟩ | exact ⟨_, _, _, _, rfl⟩ | exact fun h => ⟨h, _, _, _, _, rfl⟩ | exact ⟨[_, _], rfl⟩ | (simp; done) | (simp_all; done) | (simp_all; omega), ?_⟩)
    refine hK _ ?_ ?_
    · simp only [go_sem, Nat.reduceLT, Nat.reduceAdd, Nat.reduceEqDiff, Nat.reduceSub, Nat.reduceMul, Nat.reduceBEq, reduceIte, reduceCtorEq, map_getD hlt, Int.toNat_natCast, Int.natCast_nonneg, hlt', hg, hs, hp]
    clear K' hK
    simp only [go_sem, Nat.reduceLT, Nat.reduceAdd, Nat.reduceEqDiff, Nat.reduceSub, Nat.reduceMul, Nat.reduceBEq, reduceIte, reduceCtorEq, map_getD hlt, Int.toNat_natCast, Int.natCast_nonneg, hlt', hg, hs, hp]
    repeat refine cl_seq ?_
    refine cl_cond rfl rfl (fun hb => ?_) (fun hb => ?_)
    · repeat refine cl_seq ?_
      repeat refine cl_seq ?_
      refine cl_rs hΓ [4] [] fun K' hK => ?_
      simp only [go_sem, Nat.reduceLT, Nat.reduceAdd, Nat.reduceEqDiff, Nat.reduceSub, Nat.reduceMul, Nat.reduceBEq, reduceIte, reduceCtorEq]
      repeat (refine ⟨by first | exact Bool.or_not_self _ | exact Bool.not_or_self _ | exact fun _ => by decide | exact fun h => ⟨h, by decide⟩ | omega | (simp only [decide_eq_true_eq]; omega) | exact xD | exact fun h => ⟨h, xD⟩ | exact xDD | exact fun h => ⟨h, xDD⟩ | exact ⟨_, rfl⟩ | exact fun h => ⟨h, _, rfl⟩ | exact ⟨_, _, rfl⟩ | exact fun h => ⟨h, _, _, rfl⟩ | exact fun h => ⟨h, _, _, _, rfl⟩ | exact ⟨_, _, _, _, rfl⟩ | exact fun h => ⟨h, _, _, _, _, rfl⟩ | exact ⟨[_, _], rfl⟩ | (simp; done) | (simp_all; done) | (simp_all; omega), ?_⟩)
      refine hK _ ?_ ?_
      · simp only [go_sem, Nat.reduceLT, Nat.reduceAdd, Nat.reduceEqDiff, Nat.reduceSub, Nat.reduceMul, Nat.reduceBEq, reduceIte, reduceCtorEq]
      clear K' hK
      simp only [go_sem, Nat.reduceLT, Nat.reduceAdd, Nat.reduceEqDiff, Nat.reduceSub, Nat.reduceMul, Nat.reduceBEq, reduceIte, reduceCtorEq]
      refine cl_ret ?_
      simp only [go_sem, Nat.reduceLT, Nat.reduceAdd, Nat.reduceEqDiff, Nat.reduceSub, Nat.reduceMul, Nat.reduceBEq, reduceIte, reduceCtorEq]
      have hf : l.findIdx p = i := by
        rw [List.findIdx_eq hlt]
        exact ⟨by simpa using hb, fun j hj => hz j (by omega) hj⟩
      unfold firstII
      rw [hf, if_pos hlt]
    · have hn : p l[i] = false := by simpa using hb
      clear hb
      repeat refine cl_seq ?_
      refine cl_skip ?_
      refine cl_nil ?_
      simp only [go_sem, Nat.reduceLT, Nat.reduceAdd, Nat.reduceEqDiff, Nat.reduceSub, Nat.reduceMul, Nat.reduceBEq, reduceIte, reduceCtorEq]
      refine cl_keep [0,1,6,7,8] [] ?_ ?_
      · simp only [go_sem, Nat.reduceLT, Nat.reduceAdd, Nat.reduceEqDiff, Nat.reduceSub, Nat.reduceMul, Nat.reduceBEq, reduceIte, reduceCtorEq]
      simp only [go_sem, Nat.reduceLT, Nat.reduceAdd, Nat.reduceEqDiff, Nat.reduceSub, Nat.reduceMul, Nat.reduceBEq, reduceIte, reduceCtorEq]
      repeat refine cl_seq ?_
      refine cl_r hΓ fun K' hK => ?_
      simp only [go_sem, Nat.reduceLT, Nat.reduceAdd, Nat.reduceEqDiff, Nat.reduceSub, Nat.reduceMul, Nat.reduceBEq, reduceIte, reduceCtorEq]
      repeat (refine ⟨by first | exact Bool.or_not_self _ | exact Bool.not_or_self _ | exact fun _ => by decide | exact fun h => ⟨h, by decide⟩ | omega | (simp only [decide_eq_true_eq]; omega) | exact xD | exact fun h => ⟨h, xD⟩ | exact xDD | exact fun h => ⟨h, xDD⟩ | exact ⟨_, rfl⟩ | exact fun h => ⟨h, _, rfl⟩ | exact ⟨_, _, rfl⟩ | exact fun h => ⟨h, _, _, rfl⟩ | exact fun h => ⟨h, _, _, _, rfl⟩ | exact ⟨_, _, _, _, rfl⟩ | exact fun h => ⟨h, _, _, _, _, rfl⟩ | exact ⟨[_, _], rfl⟩ | (simp; done) | (simp_all; done) | (simp_all; omega), ?_⟩)
      refine hK _ ?_
      clear K' hK
      simp only [go_sem, Nat.reduceLT, Nat.reduceAdd, Nat.reduceEqDiff, Nat.reduceSub, Nat.reduceMul, Nat.reduceBEq, reduceIte, reduceCtorEq]
      refine ⟨i + 1, ⟨by omega, fun j h hj => ?_⟩, by omega, ?_⟩
      · rcases Nat.lt_succ_iff_lt_or_eq.1 hj with h1 | h1
        · exact hz j h h1
        · subst h1; exact hn
      refine weak_eq [0,1,6,7,8] [] ?_ ?_
      · simp only [go_sem, Nat.reduceLT, Nat.reduceAdd, Nat.reduceEqDiff, Nat.reduceSub, Nat.reduceMul, Nat.reduceBEq, reduceIte, reduceCtorEq, wrap_succ hlt hl, Int.natCast_add, Int.natCast_one]
      · simp only [go_sem, Nat.reduceLT, Nat.reduceAdd, Nat.reduceEqDiff, Nat.reduceSub, Nat.reduceMul, Nat.reduceBEq, reduceIte, reduceCtorEq, wrap_succ hlt hl, Int.natCast_add, Int.natCast_one]
  · have hge : i = l.length := by
      have : ¬ (i : Int) < l.length := by simpa using hb
      omega
    subst hge
    clear hb
    repeat refine cl_seq ?_
    refine cl_exit ?_
    simp only [go_sem, Nat.reduceLT, Nat.reduceAdd, Nat.reduceEqDiff, Nat.reduceSub, Nat.reduceMul, Nat.reduceBEq, reduceIte, reduceCtorEq]
    refine cl_keep [] [] ?_ ?_
    · simp only [go_sem, Nat.reduceLT, Nat.reduceAdd, Nat.reduceEqDiff, Nat.reduceSub, Nat.reduceMul, Nat.reduceBEq, reduceIte, reduceCtorEq]
    simp only [go_sem, Nat.reduceLT, Nat.reduceAdd, Nat.reduceEqDiff, Nat.reduceSub, Nat.reduceMul, Nat.reduceBEq, reduceIte, reduceCtorEq]
    repeat refine cl_seq ?_
    refine cl_rs hΓ [4] [] fun K' hK => ?_
    simp only [go_sem, Nat.reduceLT, Nat.reduceAdd, Nat.reduceEqDiff, Nat.reduceSub, Nat.reduceMul, Nat.reduceBEq, reduceIte, reduceCtorEq]
    repeat (refine ⟨by first | exact Bool.or_not_self _ | exact Bool.not_or_self _ | exact fun _ => by decide | exact fun h => ⟨h, by decide⟩ | omega | (simp only [decide_eq_true_eq]; omega) | exact xD | exact fun h => ⟨h, xD⟩ | exact xDD | exact fun h => ⟨h, xDD⟩ | exact ⟨_, rfl⟩ | exact fun h => ⟨h, _, rfl⟩ | exact ⟨_, _, rfl⟩ | exact fun h => ⟨h, _, _, rfl⟩ | exact fun h => ⟨h, _, _, _, rfl⟩ | exact ⟨_, _, _, _, rfl⟩ | exact fun h => ⟨h, _, _, _, _, rfl⟩ | exact ⟨[_, _], rfl⟩ | (simp; done) | (simp_all; done) | (simp_all; omega), ?_⟩)
    refine hK _ ?_ ?_
    · simp only [go_sem, Nat.reduceLT, Nat.reduceAdd, Nat.reduceEqDiff, Nat.reduceSub, Nat.reduceMul, Nat.reduceBEq, reduceIte, reduceCtorEq]
    clear K' hK
    simp only [go_sem, Nat.reduceLT, Nat.reduceAdd, Nat.reduceEqDiff, Nat.reduceSub, Nat.reduceMul, Nat.reduceBEq, reduceIte, reduceCtorEq]
    refine cl_ret ?_
    simp only [go_sem, Nat.reduceLT, Nat.reduceAdd, Nat.reduceEqDiff, Nat.reduceSub, Nat.reduceMul, Nat.reduceBEq, reduceIte, reduceCtorEq]
    have hf : ¬ l.findIdx p < l.length := by
      rw [List.findIdx_lt_length]
      rintro ⟨x, hx, hpx⟩
      obtain ⟨j, hj, rfl⟩ := List.getElem_of_mem hx
      rw [hz j hj hj] at hpx; cases hpx
    unfold firstII
    rw [if_neg hf]
def pIdxI (f : (Int → Bool) → List Int → V) : PSpec := ⟨fun xs => ∃ (l : List Int) (g : FuncId), xs = [.sl (l.map vInt), .clo (.func g) [] []] ∧ (g = 133 ∨ g = 146), fun xs => match xs with | [.sl l, .clo (.func g) _ _] => f (pNot g) (l.map decI) | _ => .bool false, true⟩
theorem s163 : PSound Tryz.prog 163 (pIdxI fun p l => vInt (firstII p l)) := by
  refine psoundB (rs := [.tmp 4]) Tryz.func163 Tryz.ntmps163 (by rfl) (by kernel_rfl) (by decide) (by rintro _ xs ⟨l, g, rfl, _⟩; rfl) ?_
  obtain ⟨c, hc, _⟩ := w163 K29b_sound (g := 133) (by decide) (show K29b 133 = some _ from rfl) (fun obj t n => pInt_app) [] (by simp)
  refine ⟨c, hc, ?_⟩
  rintro xs ⟨l, g, rfl, hf⟩ hw
  have hl : l.length ≤ maxLen := by have := hw.1.1; simpa using this
  refine ⟨Nat.le_of_ble_eq_true rfl, ?_⟩
  have key : ∃ c', Tryz.f163.body = some c' ∧ CL Tryz.prog [c'] (mkS 19 [0] (fun _ => none) (argsL 0 [.sl (l.map vInt), .clo (.func g) [] []]) []) (retK Tryz.prog [.tmp 4] (vInt (firstII (pNot g) l))) := by
    rcases hf with rfl | rfl
    · exact w163 K29b_sound (by decide) (show K29b 133 = some _ from rfl) (fun obj t n => pInt_app) l hl
    · exact w163 K29b_sound (by decide) (show K29b 146 = some _ from rfl) (fun obj t n => pInt_app) l hl
  obtain ⟨c', hc', h⟩ := key
  rw [hc] at hc'
  cases hc'
  simp only [pIdxI, decI_map]
  exact h
def sIdxI (f : (Int → Bool) → List Int → V) : Spec := (pIdxI f).toSpec
theorem sIdxI_app {f : (Int → Bool) → List Int → V} {obj : Name → Option O} {t : Name} {l : List Int} {g : FuncId} (hg : g = 133 ∨ g = 146) : (sIdxI f).app obj t [.v (.sl (l.map vInt)), .v (.clo (.func g) [] [])] = ⟨True, .v (f (pNot g) l), obj⟩ := by
  simp only [sIdxI, PSpec.toSpec, pIdxI, frzL, frz, decI_map, if_true]
  congr 1
  simp only [eq_iff_iff, iff_true]
  exact ⟨⟨trivial, trivial, trivial⟩, l, g, rfl, hg⟩
def K29c : FuncId → Option Spec := fun f => match f with
  | 163 => some (sIdxI fun p l => vInt (firstII p l))
  | _ => none
theorem K29c_sound : ∀ f s, K29c f = some s → SSound Tryz.prog f s := by
  intro f s h
  unfold K29c at h
  split at h
  · cases h; exact s163.sound
  · cases h
@[go_sem] theorem K29c_163 : K29c 163 = some (sIdxI fun p l => vInt (firstII p l)) := rfl
theorem firstII_any (p : Int → Bool) (l : List Int) : decide (firstII p l ≥ 0) = l.any p := by
  unfold firstII
  rw [Bool.eq_iff_iff]
  simp only [decide_eq_true_eq, List.any_eq_true]
  rw [← List.findIdx_lt_length]
  split <;> omega
theorem s132 : PSound Tryz.prog 132 (pIdxI fun p l => .bool (l.any p)) := by
  refine psoundB (rs := [.tmp 4]) Tryz.func132 Tryz.ntmps132 (by rfl) (by kernel_rfl) (by decide) (by rintro _ xs ⟨l, g, rfl, _⟩; rfl) ⟨_, rfl, ?_⟩
  rintro xs ⟨l, g, rfl, hg⟩ hw
  refine ⟨Nat.le_of_ble_eq_true rfl, ?_⟩
  simp only [pIdxI, decI_map]
  have hΓ := K29c_sound
  have ha := fun (f : (Int → Bool) → List Int → V) (obj : Name → Option O) (t : Name) => sIdxI_app (f := f) (obj := obj) (t := t) (l := l) hg
  repeat refine cl_seq ?_
  refine cl_rs hΓ [0,1] [] fun K' hK => ?_
  simp only [go_sem, Nat.reduceLT, Nat.reduceAdd, Nat.reduceEqDiff, Nat.reduceSub, Nat.reduceMul, Nat.reduceBEq, reduceIte, reduceCtorEq]
  repeat (refine ⟨by first | exact Bool.or_not_self _ | exact Bool.not_or_self _ | exact fun _ => by decide | exact fun h => ⟨h, by decide⟩ | omega | (simp only [decide_eq_true_eq]; omega) | exact xD | exact fun h => ⟨h, xD⟩ | exact xDD | exact fun h => ⟨h, xDD⟩ | exact ⟨_, rfl⟩ | exact fun h => ⟨h, _, rfl⟩ | exact ⟨_, _, rfl⟩ | exact fun h => ⟨h, _, _, rfl⟩ | exact fun h => ⟨h, _, _, _, rfl⟩ | exact ⟨_, _, _, _, rfl⟩ | exact fun h => ⟨h, _, _, _, _, rfl⟩ | exact ⟨[_, _], rfl⟩ | (simp; done) | (simp_all; done) | (simp_all; omega), ?_⟩)
  refine hK _ ?_ ?_
  · simp only [go_sem, Nat.reduceLT, Nat.reduceAdd, Nat.reduceEqDiff, Nat.reduceSub, Nat.reduceMul, Nat.reduceBEq, reduceIte, reduceCtorEq]
  clear K' hK
  simp only [go_sem, Nat.reduceLT, Nat.reduceAdd, Nat.reduceEqDiff, Nat.reduceSub, Nat.reduceMul, Nat.reduceBEq, reduceIte, reduceCtorEq]
  repeat refine cl_seq ?_
  refine cl_rs hΓ [4] [] fun K' hK => ?_
  simp only [go_sem, Nat.reduceLT, Nat.reduceAdd, Nat.reduceEqDiff, Nat.reduceSub, Nat.reduceMul, Nat.reduceBEq, reduceIte, reduceCtorEq, ha]
  repeat (refine ⟨by first | exact Bool.or_not_self _ | exact Bool.not_or_self _ | exact fun _ => by decide | exact fun h => ⟨h, by decide⟩ | omega | (simp only [decide_eq_true_eq]; omega) | exact xD | exact fun h => ⟨h, xD⟩ | exact xDD | exact fun h => ⟨h, xDD⟩ | exact ⟨_, rfl⟩ | exact fun h => ⟨h, _, rfl⟩ | exact ⟨_, _, rfl⟩ | exact fun h => ⟨h, _, _, rfl⟩ | exact fun h => ⟨h, _, _, _, rfl⟩ | exact ⟨_, _, _, _, rfl⟩ | exact fun h => ⟨h, _, _, _, _, rfl⟩ | exact ⟨[_, _], rfl⟩ | (simp; done) | (simp_all; done) | (simp_all; omega), ?_⟩)
  refine hK _ ?_ ?_
  · simp only [go_sem, Nat.reduceLT, Nat.reduceAdd, Nat.reduceEqDiff, Nat.reduceSub, Nat.reduceMul, Nat.reduceBEq, reduceIte, reduceCtorEq, ha]
  clear K' hK
  simp only [go_sem, Nat.reduceLT, Nat.reduceAdd, Nat.reduceEqDiff, Nat.reduceSub, Nat.reduceMul, Nat.reduceBEq, reduceIte, reduceCtorEq, ha]
  refine cl_ret ?_
  simp only [go_sem, Nat.reduceLT, Nat.reduceAdd, Nat.reduceEqDiff, Nat.reduceSub, Nat.reduceMul, Nat.reduceBEq, reduceIte, reduceCtorEq]
  rw [firstII_any]
noncomputable def K29d : FuncId → Option Spec := fun f => match f with
  | 132 => some (sIdxI fun p l => .bool (l.any p))
  | 39 => some sChk
  | _ => none
theorem K29d_sound : ∀ f s, K29d f = some s → SSound Tryz.prog f s := by
  intro f s h
  unfold K29d at h
  split at h
  · cases h; exact s132.sound
  · cases h; exact s39'
  · cases h
@[go_sem] theorem K29d_132 : K29d 132 = some (sIdxI fun p l => .bool (l.any p)) := rfl
@[go_sem] theorem K29d_39 : K29d 39 = some sChk := rfl
/-- The first error of deeds and days. -/
noncomputable def daysI (l : List Deed) (ds : List Int) : Int := if checkI l = 0 then (if ds.any (fun n => !isDayB n) then 6 else 0) else checkI l
def pDays (f : List Deed → List Int → V) : PSpec := ⟨fun xs => ∃ (l : List Deed) (ds : List Int), xs = [.sl (l.map encD), .sl (ds.map vInt)], fun xs => match xs with | [.sl l, .sl ds] => f (l.map decD) (ds.map decI) | _ => .bool false, true⟩
theorem pDays_fn (f : List Deed → List Int → V) (l : List Deed) (ds : List Int) : (pDays f).fn [.sl (l.map encD), .sl (ds.map vInt)] = f l ds := by
  simp only [pDays, decD_map, decI_map]
theorem s70 : PSound Tryz.prog 70 (pDays fun l ds => vInt (daysI l ds)) := by
  refine psoundB (rs := [.tmp 4]) Tryz.func70 Tryz.ntmps70 (by rfl) (by kernel_rfl) (by decide) (by rintro _ xs ⟨l, g, rfl⟩; rfl) ⟨_, rfl, ?_⟩
  rintro xs ⟨l, ds, rfl⟩ hw
  refine ⟨Nat.le_of_ble_eq_true rfl, ?_⟩
  rw [pDays_fn]
  have hΓ := K29d_sound
  have ha := fun (f : (Int → Bool) → List Int → V) (obj : Name → Option O) (t : Name) => sIdxI_app (f := f) (obj := obj) (t := t) (l := ds) (g := 133) (.inl rfl)
  have hp : pNot 133 = fun n => !isDayB n := rfl
  rw [hp] at ha
  repeat refine cl_seq ?_
  refine cl_rs hΓ [0,1] [] fun K' hK => ?_
  simp only [go_sem, Nat.reduceLT, Nat.reduceAdd, Nat.reduceEqDiff, Nat.reduceSub, Nat.reduceMul, Nat.reduceBEq, reduceIte, reduceCtorEq]
  repeat (refine ⟨by first | exact Bool.or_not_self _ | exact Bool.not_or_self _ | exact fun _ => by decide | exact fun h => ⟨h, by decide⟩ | omega | (simp only [decide_eq_true_eq]; omega) | exact xD | exact fun h => ⟨h, xD⟩ | exact xDD | exact fun h => ⟨h, xDD⟩ | exact ⟨_, rfl⟩ | exact fun h => ⟨h, _, rfl⟩ | exact ⟨_, _, rfl⟩ | exact fun h => ⟨h, _, _, rfl⟩ | exact fun h => ⟨h, _, _, _, rfl⟩ | exact ⟨_, _, _, _, rfl⟩ | exact fun h => ⟨h, _, _, _, _, rfl⟩ | exact ⟨[_, _], rfl⟩ | (simp; done) | (simp_all; done) | (simp_all; omega), ?_⟩)
  refine hK _ ?_ ?_
  · simp only [go_sem, Nat.reduceLT, Nat.reduceAdd, Nat.reduceEqDiff, Nat.reduceSub, Nat.reduceMul, Nat.reduceBEq, reduceIte, reduceCtorEq]
  clear K' hK
  simp only [go_sem, Nat.reduceLT, Nat.reduceAdd, Nat.reduceEqDiff, Nat.reduceSub, Nat.reduceMul, Nat.reduceBEq, reduceIte, reduceCtorEq]
  repeat refine cl_seq ?_
  refine cl_rs hΓ [1,5] [] fun K' hK => ?_
  simp only [go_sem, Nat.reduceLT, Nat.reduceAdd, Nat.reduceEqDiff, Nat.reduceSub, Nat.reduceMul, Nat.reduceBEq, reduceIte, reduceCtorEq, sChk_app]
  repeat (refine ⟨by first | exact Bool.or_not_self _ | exact Bool.not_or_self _ | exact fun _ => by decide | exact fun h => ⟨h, by decide⟩ | omega | (simp only [decide_eq_true_eq]; omega) | exact xD | exact fun h => ⟨h, xD⟩ | exact xDD | exact fun h => ⟨h, xDD⟩ | exact ⟨_, rfl⟩ | exact fun h => ⟨h, _, rfl⟩ | exact ⟨_, _, rfl⟩ | exact fun h => ⟨h, _, _, rfl⟩ | exact fun h => ⟨h, _, _, _, rfl⟩ | exact ⟨_, _, _, _, rfl⟩ | exact fun h => ⟨h, _, _, _, _, rfl⟩ | exact ⟨[_, _], rfl⟩ | (simp; done) | (simp_all; done) | (simp_all; omega), ?_⟩)
  refine hK _ ?_ ?_
  · simp only [go_sem, Nat.reduceLT, Nat.reduceAdd, Nat.reduceEqDiff, Nat.reduceSub, Nat.reduceMul, Nat.reduceBEq, reduceIte, reduceCtorEq, sChk_app]
  clear K' hK
  simp only [go_sem, Nat.reduceLT, Nat.reduceAdd, Nat.reduceEqDiff, Nat.reduceSub, Nat.reduceMul, Nat.reduceBEq, reduceIte, reduceCtorEq, sChk_app]
  repeat refine cl_seq ?_
  refine cl_rs hΓ [1,5,9] [] fun K' hK => ?_
  simp only [go_sem, Nat.reduceLT, Nat.reduceAdd, Nat.reduceEqDiff, Nat.reduceSub, Nat.reduceMul, Nat.reduceBEq, reduceIte, reduceCtorEq]
  repeat (refine ⟨by first | exact Bool.or_not_self _ | exact Bool.not_or_self _ | exact fun _ => by decide | exact fun h => ⟨h, by decide⟩ | omega | (simp only [decide_eq_true_eq]; omega) | exact xD | exact fun h => ⟨h, xD⟩ | exact xDD | exact fun h => ⟨h, xDD⟩ | exact ⟨_, rfl⟩ | exact fun h => ⟨h, _, rfl⟩ | exact ⟨_, _, rfl⟩ | exact fun h => ⟨h, _, _, rfl⟩ | exact fun h => ⟨h, _, _, _, rfl⟩ | exact ⟨_, _, _, _, rfl⟩ | exact fun h => ⟨h, _, _, _, _, rfl⟩ | exact ⟨[_, _], rfl⟩ | (simp; done) | (simp_all; done) | (simp_all; omega), ?_⟩)
  refine hK _ ?_ ?_
  · simp only [go_sem, Nat.reduceLT, Nat.reduceAdd, Nat.reduceEqDiff, Nat.reduceSub, Nat.reduceMul, Nat.reduceBEq, reduceIte, reduceCtorEq]
  clear K' hK
  simp only [go_sem, Nat.reduceLT, Nat.reduceAdd, Nat.reduceEqDiff, Nat.reduceSub, Nat.reduceMul, Nat.reduceBEq, reduceIte, reduceCtorEq]
  repeat refine cl_seq ?_
  refine cl_cond rfl rfl (fun hb => ?_) (fun hb => ?_)
  · repeat refine cl_seq ?_
    repeat refine cl_seq ?_
    refine cl_rs hΓ [4] [] fun K' hK => ?_
    simp only [go_sem, Nat.reduceLT, Nat.reduceAdd, Nat.reduceEqDiff, Nat.reduceSub, Nat.reduceMul, Nat.reduceBEq, reduceIte, reduceCtorEq]
    repeat (refine ⟨by first | exact Bool.or_not_self _ | exact Bool.not_or_self _ | exact fun _ => by decide | exact fun h => ⟨h, by decide⟩ | omega | (simp only [decide_eq_true_eq]; omega) | exact xD | exact fun h => ⟨h, xD⟩ | exact xDD | exact fun h => ⟨h, xDD⟩ | exact ⟨_, rfl⟩ | exact fun h => ⟨h, _, rfl⟩ | exact ⟨_, _, rfl⟩ | exact fun h => ⟨h, _, _, rfl⟩ | exact fun h => ⟨h, _, _, _, rfl⟩ | exact ⟨_, _, _, _, rfl⟩ | exact fun h => ⟨h, _, _, _, _, rfl⟩ | exact ⟨[_, _], rfl⟩ | (simp; done) | (simp_all; done) | (simp_all; omega), ?_⟩)
    refine hK _ ?_ ?_
    · simp only [go_sem, Nat.reduceLT, Nat.reduceAdd, Nat.reduceEqDiff, Nat.reduceSub, Nat.reduceMul, Nat.reduceBEq, reduceIte, reduceCtorEq]
    clear K' hK
    simp only [go_sem, Nat.reduceLT, Nat.reduceAdd, Nat.reduceEqDiff, Nat.reduceSub, Nat.reduceMul, Nat.reduceBEq, reduceIte, reduceCtorEq]
    refine cl_ret ?_
    simp only [go_sem, Nat.reduceLT, Nat.reduceAdd, Nat.reduceEqDiff, Nat.reduceSub, Nat.reduceMul, Nat.reduceBEq, reduceIte, reduceCtorEq]
    have hn : ¬ checkI l = 0 := by simpa using hb
    unfold daysI; rw [if_neg hn]
  have hz : checkI l = 0 := by simpa using hb
  clear hb
  repeat refine cl_seq ?_
  refine cl_skip ?_
  repeat refine cl_seq ?_
  refine cl_rs hΓ [12] [] fun K' hK => ?_
  simp only [go_sem, Nat.reduceLT, Nat.reduceAdd, Nat.reduceEqDiff, Nat.reduceSub, Nat.reduceMul, Nat.reduceBEq, reduceIte, reduceCtorEq, ha]
  repeat (refine ⟨by first | exact Bool.or_not_self _ | exact Bool.not_or_self _ | exact fun _ => by decide | exact fun h => ⟨h, by decide⟩ | omega | (simp only [decide_eq_true_eq]; omega) | exact xD | exact fun h => ⟨h, xD⟩ | exact xDD | exact fun h => ⟨h, xDD⟩ | exact ⟨_, rfl⟩ | exact fun h => ⟨h, _, rfl⟩ | exact ⟨_, _, rfl⟩ | exact fun h => ⟨h, _, _, rfl⟩ | exact fun h => ⟨h, _, _, _, rfl⟩ | exact ⟨_, _, _, _, rfl⟩ | exact fun h => ⟨h, _, _, _, _, rfl⟩ | exact ⟨[_, _], rfl⟩ | (simp; done) | (simp_all; done) | (simp_all; omega), ?_⟩)
  refine hK _ ?_ ?_
  · simp only [go_sem, Nat.reduceLT, Nat.reduceAdd, Nat.reduceEqDiff, Nat.reduceSub, Nat.reduceMul, Nat.reduceBEq, reduceIte, reduceCtorEq, ha]
  clear K' hK
  simp only [go_sem, Nat.reduceLT, Nat.reduceAdd, Nat.reduceEqDiff, Nat.reduceSub, Nat.reduceMul, Nat.reduceBEq, reduceIte, reduceCtorEq, ha]
  repeat refine cl_seq ?_
  refine cl_cond rfl rfl (fun hb => ?_) (fun hb => ?_)
  · repeat refine cl_seq ?_
    repeat refine cl_seq ?_
    refine cl_rs hΓ [4] [] fun K' hK => ?_
    simp only [go_sem, Nat.reduceLT, Nat.reduceAdd, Nat.reduceEqDiff, Nat.reduceSub, Nat.reduceMul, Nat.reduceBEq, reduceIte, reduceCtorEq]
    repeat (refine ⟨by first | exact Bool.or_not_self _ | exact Bool.not_or_self _ | exact fun _ => by decide | exact fun h => ⟨h, by decide⟩ | omega | (simp only [decide_eq_true_eq]; omega) | exact xD | exact fun h => ⟨h, xD⟩ | exact xDD | exact fun h => ⟨h, xDD⟩ | exact ⟨_, rfl⟩ | exact fun h => ⟨h, _, rfl⟩ | exact ⟨_, _, rfl⟩ | exact fun h => ⟨h, _, _, rfl⟩ | exact fun h => ⟨h, _, _, _, rfl⟩ | exact ⟨_, _, _, _, rfl⟩ | exact fun h => ⟨h, _, _, _, _, rfl⟩ | exact ⟨[_, _], rfl⟩ | (simp; done) | (simp_all; done) | (simp_all; omega), ?_⟩)
    refine hK _ ?_ ?_
    · simp only [go_sem, Nat.reduceLT, Nat.reduceAdd, Nat.reduceEqDiff, Nat.reduceSub, Nat.reduceMul, Nat.reduceBEq, reduceIte, reduceCtorEq]
    clear K' hK
    simp only [go_sem, Nat.reduceLT, Nat.reduceAdd, Nat.reduceEqDiff, Nat.reduceSub, Nat.reduceMul, Nat.reduceBEq, reduceIte, reduceCtorEq]
    refine cl_ret ?_
    simp only [go_sem, Nat.reduceLT, Nat.reduceAdd, Nat.reduceEqDiff, Nat.reduceSub, Nat.reduceMul, Nat.reduceBEq, reduceIte, reduceCtorEq]
    unfold daysI; rw [if_pos hz, if_pos hb]
  · repeat refine cl_seq ?_
    refine cl_skip ?_
    repeat refine cl_seq ?_
    refine cl_rs hΓ [4] [] fun K' hK => ?_
    simp only [go_sem, Nat.reduceLT, Nat.reduceAdd, Nat.reduceEqDiff, Nat.reduceSub, Nat.reduceMul, Nat.reduceBEq, reduceIte, reduceCtorEq]
    repeat (refine ⟨by first | exact Bool.or_not_self _ | exact Bool.not_or_self _ | exact fun _ => by decide | exact fun h => ⟨h, by decide⟩ | omega | (simp only [decide_eq_true_eq]; omega) | exact xD | exact fun h => ⟨h, xD⟩ | exact xDD | exact fun h => ⟨h, xDD⟩ | exact ⟨_, rfl⟩ | exact fun h => ⟨h, _, rfl⟩ | exact ⟨_, _, rfl⟩ | exact fun h => ⟨h, _, _, rfl⟩ | exact fun h => ⟨h, _, _, _, rfl⟩ | exact ⟨_, _, _, _, rfl⟩ | exact fun h => ⟨h, _, _, _, _, rfl⟩ | exact ⟨[_, _], rfl⟩ | (simp; done) | (simp_all; done) | (simp_all; omega), ?_⟩)
    refine hK _ ?_ ?_
    · simp only [go_sem, Nat.reduceLT, Nat.reduceAdd, Nat.reduceEqDiff, Nat.reduceSub, Nat.reduceMul, Nat.reduceBEq, reduceIte, reduceCtorEq]
    clear K' hK
    simp only [go_sem, Nat.reduceLT, Nat.reduceAdd, Nat.reduceEqDiff, Nat.reduceSub, Nat.reduceMul, Nat.reduceBEq, reduceIte, reduceCtorEq]
    refine cl_ret ?_
    simp only [go_sem, Nat.reduceLT, Nat.reduceAdd, Nat.reduceEqDiff, Nat.reduceSub, Nat.reduceMul, Nat.reduceBEq, reduceIte, reduceCtorEq]
    unfold daysI; rw [if_pos hz, if_neg (by simp [hb])]
end Go.Eng
