import Derived.Test.YtofamdkaipongaaGreatK19
/- The law KeysHolds holds: Holders, Hands, Holds, Has, InOffice and Wardens agree with the specification, for all deeds and questions. -/
set_option linter.all false
set_option linter.unnecessarySimpa false
set_option linter.unusedSimpArgs false
set_option linter.unusedVariables false
set_option linter.constructorNameAsVariable false
namespace Go.Eng
open Go Go.Proofs
set_option maxRecDepth 10000
/-! who: the rounds of its loop -/
@[go_sem] theorem ta123 : tAgg Tryz.prog 123 = some (false, 1) := by kernel_rfl
@[go_sem] theorem ta138 : tAgg Tryz.prog 138 = some (false, 1) := by kernel_rfl
def rngC : Code → Option (Array Tmp × Code × Code)
  | .seq a b => match rngC a with | some x => some x | none => rngC b
  | .block _ b => rngC b
  | .rangeFunc _ ps a b => some (ps, a, b)
  | _ => none
def codeIs (fn : Func) (ps : List Nat) (asg body : Code) : Prop := ∃ p, fn.body.bind rngC = some (p, asg, body) ∧ p.toList = ps
def evW (g : Nat) (c : V) (B : Name) : List E := (List.range 21).map (ofL eAny [(5, ⟨true, .v (.ptr [.clo (.func g) [] []])⟩), (7, ⟨true, .ref B 0⟩), (12, ⟨true, .v c⟩)])
theorem evW_ren (f : Name → Name) (g : Nat) (c : V) (B : Name) : (evW g c B).map (E.ren f) = evW g c (f B) := rfl
def gW (env : List E) : Nat := match (env.getD 5 eAny).d with | .v (.ptr [.clo (.func g) _ _]) => g | _ => 0
theorem gW_ev (g : Nat) (c : V) (B : Name) : gW (evW g c B) = g := rfl
def outW (f : Sta → Int) (L : List V) (s : V) : List Int := match s with | .agg [.int _ h, .int _ n, .bool o] => insI (L.map decI) (f ⟨h, n, o⟩) | _ => []
theorem outW_eq (f : Sta → Int) (l : List Int) (s : Sta) : outW f (l.map vInt) (encS s) = insI l (f s) := by
  simp only [outW, encS, decI_map]
def yW : YSpec where
  pre := fun env ps asg body os ds => ∃ (g : Nat) (c : V) (l : List Int) (n : Int) (s : Sta), (g = 92 ∨ g = 93) ∧ env = evW g c [0, 1] ∧ codeIs Tryz.f91 ps asg body ∧ os = [.box [.msl [1, 1] l.length], .arr 1 (l.map vInt)] ∧ l.Pairwise (· < ·) ∧ l.length < 1000 ∧ ds = [.v (vInt n), .v (encS s)]
  out := fun env _ _ _ os ds => match os, ds with
    | [_, .arr _ L], [_, .v s] => (⟨[(0, .box [.msl [1, 1] (outW (fW (gW env)) L s).length]), (1, .arr 1 ((outW (fW (gW env)) L s).map vInt))], [], .v (.bool true)⟩, none)
    | _, _ => (⟨[], [], .any⟩, none)
theorem yW_out (g : Nat) (c : V) (B : Name) (ps : List Nat) (asg body : Code) (x : O) (y : D) (l : List Int) (s : Sta) :
    yW.out (evW g c B) ps asg body [x, .arr 1 (l.map vInt)] [y, .v (encS s)] = (⟨[(0, .box [.msl [1, 1] (insI l (fW g s)).length]), (1, .arr 1 ((insI l (fW g s)).map vInt))], [], .v (.bool true)⟩, none) := by
  simp only [yW, gW_ev, outW_eq]
noncomputable def sS1 (f : Sta → V) : Spec := (pS1 f).toSpec
theorem sS1_app {f : Sta → V} {obj : Name → Option O} {t : Name} {h n : Int} {o : Bool} : (sS1 f).app obj t [.agg [.v (vInt h), .v (vInt n), .v (.bool o)]] = ⟨True, .v (f ⟨h, n, o⟩), obj⟩ := by
  have e : frzL (frz 6) obj [.agg [.v (vInt h), .v (vInt n), .v (.bool o)]] = ⟨True, [encS ⟨h, n, o⟩], obj⟩ := by
    simp [frzL, frz, D.one, V.one, encS]
  simp only [sS1, PSpec.toSpec, e]
  simp only [pS1, encS, if_true]
  congr 1
  simp only [eq_iff_iff, iff_true]
  exact ⟨trivial, ⟨h, n, o⟩, rfl⟩
noncomputable def K56 : FuncId → Option Spec := fun f => match f with
  | 92 => some (sS1 fun s => vInt s.h)
  | 93 => some (sS1 fun s => vInt s.n)
  | 94 => some sPutI
  | _ => none
theorem K56_sound : ∀ f s, K56 f = some s → SSound Tryz.prog f s := by
  intro f s h
  unfold K56 at h
  split at h
  · cases h; exact s92.sound
  · cases h; exact s93.sound
  · cases h; exact s94
  · cases h
@[go_sem] theorem K56_94 : K56 94 = some sPutI := rfl
theorem K56_g {g : Nat} (h : g = 92 ∨ g = 93) : K56 g = some (sS1 fun s => vInt (fW g s)) ∧ ¬ g = 1000000000 := by
  rcases h with rfl | rfl
  · exact ⟨rfl, by decide⟩
  · exact ⟨rfl, by decide⟩
set_option maxHeartbeats 4000000 in
theorem sYW : SSound Tryz.prog yid yW.toSpec := by
  refine yield_run ?_
  rintro env ps asg body os ds ⟨g, c, l, n, s, hg, rfl, ⟨p, hp, rfl⟩, rfl, hs, hl, rfl⟩ _
  have e : Tryz.f91.body.bind rngC = some (_, _, _) := rfl
  rw [e] at hp
  obtain ⟨rfl, rfl, rfl⟩ : _ ∧ _ ∧ _ := by simpa using hp
  clear hp e
  have hΓ := K56_sound
  have hP := mixedK
  obtain ⟨hk, hy⟩ := K56_g hg
  rw [yW_out]
  generalize hos : [O.box [.msl [1, 1] l.length], .arr 1 (l.map vInt)] = os
  have hO : ∀ hs, OutC [0] (domOf [0] hs) (outH os) = True := by
    subst hos
    refine fun hs => eq_true (outC_outs ?_ hs)
    intro o ho dom hd
    simp only [List.mem_cons, List.not_mem_nil, or_false] at ho
    rcases ho with rfl | rfl
    · simp [O.clos, D.closL, D.clos, hd]
    · rfl
  have hH0 : outH os [0, 1] = some (.box [.msl [1, 1] l.length]) := by subst hos; rfl
  have hH1 : outH os [1, 1] = some (.arr 1 (l.map vInt)) := by subst hos; rfl
  obtain ⟨H, hH⟩ : ∃ H, outH os = H := ⟨_, rfl⟩
  rw [hH] at hH0 hH1
  simp only [hH] at hO
  have hE : ∀ o σ, σ.obj [0, 1] = some (.box [.msl [1, 1] (insI l o).length]) → σ.obj [1, 1] = some (.arr 1 ((insI l o).map vInt)) →
      endC os ⟨[(0, .box [.msl [1, 1] (insI l o).length]), (1, .arr 1 ((insI l o).map vInt))], [], .v (.bool true)⟩ σ := by
    intro o σ h1 h2
    subst hos
    refine ⟨⟨h1, h2, trivial⟩, trivial, ?_⟩
    simp [D.clos, D.closL, O.clos, domC, distinct]
  have hput := fun obj t x (ho : obj [1, 1] = _) => sPutI_app (obj := obj) (t := t) (nm := [1, 1]) (k := l.length) (l := l) (x := x) ho rfl hs (by omega)
  obtain ⟨h, n', o⟩ := s
  simp only [encS, hH]
  refine cw_weak (weak_to 21 [0] H [(5, ⟨true, .v (.ptr [.clo (.func g) [] []])⟩), (7, ⟨true, .ref [0, 1] 0⟩), (14, ⟨true, .v (.agg [vInt h, vInt n', .bool o])⟩)] [] rfl rfl (fun _ _ => rfl) ?_ (by simp) ?_ ?_) ?_
  · intro q hq
    simp only [List.mem_cons, List.not_mem_nil, or_false] at hq
    rcases hq with rfl | rfl | rfl <;> rfl
  · simp [D.clos, domOf, own]
  · rw [hO]; trivial
  refine cl_of ?_
  refine cl_r hΓ fun K' hK => ?_
  simp only [go_sem, tp137, tz137]
  refine ⟨Nat.le_refl _, ?_⟩
  refine hK _ ?_
  clear K' hK
  refine (cw_keep [5, 7, 9] [[9, 0]] ?_ ?_ : CW _ _ _ _)
  · simp only [go_sem, hO]
  refine cl_of ?_
  simp only [go_sem]
  refine cl_block ?_
  repeat refine cl_seq ?_
  refine cl_d hΓ hP [[], [], [], [1, 2], [0, 1, 2, 3], [0, 1, 2, 3, 4]] (by kernel_rfl) fun K' hK => ?_
  simp only [go_sem, hH0, hH1, hk, hy, sS1_app, hput, putI_ins _ hs]
  repeat (refine ⟨ob, ?_⟩)
  first | refine ⟨by rfl, ?_⟩ | skip
  refine hK _ ?_
  clear K' hK
  simp only [go_sem]
  refine cl_nil ?_
  exact ⟨rfl, hE _ _ rfl rfl⟩
end Go.Eng
namespace Go.Eng
open Go Go.Proofs
set_option maxRecDepth 10000
/-! who: all its rounds, and the function -/
theorem setU3 (obj : Name → Option O) (x y z : O) : setU obj [x, y, z] = upd (upd (upd obj [1, 1] (some y)) [2, 1] (some z)) [0, 1] (some x) := by
  funext nm
  unfold setU
  by_cases h0 : nm = [0, 1]
  · subst h0; rfl
  by_cases h1 : nm = [1, 1]
  · subst h1; rfl
  by_cases h2 : nm = [2, 1]
  · subst h2; rfl
  rw [upd_ne _ _ _ h0, upd_ne _ _ _ h2, upd_ne _ _ _ h1]
  cases hx : isOut nm with
  | false => rw [outH_not hx]
  | true =>
    obtain ⟨i, rfl⟩ := isOut_iff.1 hx
    match i, h0, h1, h2 with
    | 0, h0, _, _ => exact (h0 rfl).elim
    | 1, _, h1, _ => exact (h1 rfl).elim
    | 2, _, _, h2 => exact (h2 rfl).elim
    | _ + 3, _, _, _ => rfl
theorem evW_names (g : Nat) (c : V) (B : Name) (a b : V) : namesL (roots (evW g c B) [.v a, .v b]) = [B] := rfl
theorem evW_names' (g : Nat) (c : V) (B : Name) : namesL ((evW g c B).map (·.d)) = [B] := rfl
theorem evW_cl (dom : Name → Bool) (g : Nat) (c : V) (B : Name) (a b : V) (h : dom B = true) : D.closL dom (roots (evW g c B) [.v a, .v b]) = true := by
  unfold roots evW
  simp [List.range, List.range.loop, ofL, D.closL, D.clos, eAny, h]
theorem reachW {obj : Name → Option O} {B A : Name} {ds : List D} {k : Nat} {sz : Nat} {L : List V} (hn : namesL ds = [B]) (hBA : (B == A) = false) (hB : obj B = some (.box [.msl A k])) (hA : obj A = some (.arr sz L)) : reach obj ds = [B, A] := by
  unfold reach
  rw [hn]
  show reachL obj (2997 + 1 + 1 + 1) [B] [] = [B, A]
  simp only [reachL, inL, List.any_nil, Bool.false_eq_true, if_false, hB, hA, namesO, namesL, namesD, List.nil_append, List.append_nil, List.any_cons, hBA, Bool.or_self, List.cons_append]
def IW (g : Nat) (c : V) (asg body : Code) (l : List Int) : List O := [.loop (evW g c [1, 1]) [13, 14] asg body .ready none, .box [.msl [2, 1] l.length], .arr 1 (l.map vInt)]
theorem yW_app {g : Nat} {c : V} {asg body : Code} {l : List Int} {n : Int} {s : Sta} (hg : g = 92 ∨ g = 93) (hc : codeIs Tryz.f91 [13, 14] asg body) (hs : l.Pairwise (· < ·)) (hl : l.length < 1000)
    (obj : Name → Option O) (tm : Name) (h : ∀ nm, isOut nm = true → obj nm = outH (IW g c asg body l) nm) :
    yW.toSpec.app obj tm [.yld [0, 1], .v (vInt n), .v (encS s)] = ⟨True, .v (.bool true), setU obj (IW g c asg body (insI l (fW g s)))⟩ := by
  have h0 : obj [0, 1] = some (.loop (evW g c [1, 1]) [13, 14] asg body .ready none) := h _ rfl
  have h1 : obj [1, 1] = some (.box [.msl [2, 1] l.length]) := h _ rfl
  have h2 : obj [2, 1] = some (.arr 1 (l.map vInt)) := h _ rfl
  have hr : reach obj (roots (evW g c [1, 1]) [.v (vInt n), .v (encS s)]) = [[1, 1], [2, 1]] := reachW (evW_names g c [1, 1] (vInt n) (encS s)) rfl h1 h2
  have e1 : cOs obj (roots (evW g c [1, 1]) [.v (vInt n), .v (encS s)]) = [.box [.msl [1, 1] l.length], .arr 1 (l.map vInt)] := by
    unfold cOs
    rw [hr]
    simp only [List.map_cons, List.map_nil, canonO, h1, h2, O.ren, D.renL, D.ren]
    rfl
  have e2 : yEnv obj (evW g c [1, 1]) [.v (vInt n), .v (encS s)] = evW g c [0, 1] := by
    unfold yEnv
    rw [hr, evW_ren]
    rfl
  have e3 : yDs obj (evW g c [1, 1]) [.v (vInt n), .v (encS s)] = [.v (vInt n), .v (encS s)] := rfl
  have e4 : yW.o obj (evW g c [1, 1]) [13, 14] asg body [.v (vInt n), .v (encS s)] = (⟨[(0, .box [.msl [1, 1] (insI l (fW g s)).length]), (1, .arr 1 ((insI l (fW g s)).map vInt))], [], .v (.bool true)⟩, none) := by
    unfold YSpec.o
    rw [e1, e2, e3, yW_out]
  have hpre : yW.pre (evW g c [0, 1]) [13, 14] asg body [.box [.msl [1, 1] l.length], .arr 1 (l.map vInt)] [.v (vInt n), .v (encS s)] := ⟨g, c, l, n, s, hg, rfl, hc, rfl, hs, hl, rfl⟩
  have hcl := evW_cl (inL [[1, 1], [2, 1]]) g c [1, 1] (vInt n) (encS s) rfl
  simp only [YSpec.toSpec, h0, e1, e2, e3, e4, hr, hcl]
  have e5 : (shut obj [[1, 1], [2, 1]] && true && fresh obj tm [] && !inL [[1, 1], [2, 1]] [0, 1] && decide ([D.v (vInt n), .v (encS s)].length = [13, 14].length) && [13, 14].all fun p => decide (p < (evW g c [1, 1]).length)) = true := by
    have : shut obj [[1, 1], [2, 1]] = true := by
      simp only [shut, List.all_cons, List.all_nil, h1, h2, O.clos, D.closL, D.clos]
      rfl
    rw [this]
    rfl
  rw [e5]
  unfold IW
  rw [setU3]
  simp only [hpre, and_self, Option.isNone_none, if_true, putN, putU]
  rfl
noncomputable def K57 : FuncId → Option Spec := fun f => match f with
  | 166 => some sMay
  | 167 => some sAft
  | 1000000000 => some yW.toSpec
  | _ => none
theorem K57_sound : ∀ f s, K57 f = some s → SSound Tryz.prog f s := by
  intro f s h
  unfold K57 at h
  split at h
  · cases h; exact s166.sound
  · cases h; exact s167.sound
  · cases h; exact sYW
  · cases h
theorem IW_clos (g : Nat) (c : V) (asg body : Code) (l : List Int) : ∀ o ∈ IW g c asg body l, ∀ dom : Name → Bool, (∀ i, dom [i, 1] = true) → O.clos dom o = true := by
  intro o ho dom hd
  simp only [IW, List.mem_cons, List.not_mem_nil, or_false] at ho
  rcases ho with rfl | rfl | rfl
  · simp [O.clos, evW, List.range, List.range.loop, ofL, D.clos, D.closL, eAny, hd]
  · simp [O.clos, D.closL, D.clos, hd]
  · rfl
def cW : CSpec where
  pre := fun os ds => ∃ (g : Nat) (c : V) (t : List Deed) (day : Int) (asg body : Code), (g = 92 ∨ g = 93) ∧ codeIs Tryz.f91 [13, 14] asg body ∧ t.length ≤ 60 ∧ (∀ d ∈ t, kindOk d) ∧ os = IW g c asg body [] ∧ ds = [.yld [0, 1], .v (.ptr [.sl (t.map encD)]), .v (.ptr [vInt day])]
  out := fun os ds => match os, ds with
    | [.loop env _ _ _ _ _, _, _], [_, .v (.ptr [.sl l]), .v (.ptr [.int _ day])] => ⟨[(1, .box [.msl [2, 1] (whoL (fW (gW env)) (l.map decD) day).length]), (2, .arr 1 ((whoL (fW (gW env)) (l.map decD) day).map vInt))], [], .tup []⟩
    | _, _ => ⟨[], [], .any⟩
theorem cW_out (g : Nat) (c : V) (asg body : Code) (l : List Int) (t : List Deed) (day : Int) (x : D) : cW.out (IW g c asg body l) [x, .v (.ptr [.sl (t.map encD)]), .v (.ptr [vInt day])] =
    ⟨[(1, .box [.msl [2, 1] (whoL (fW g) t day).length]), (2, .arr 1 ((whoL (fW g) t day).map vInt))], [], .tup []⟩ := by
  simp only [cW, IW, gW_ev, decD_map]
theorem s165W : SSound Tryz.prog 165 cW.toSpec := by
  refine csound (nt := 25) (rs := []) Tryz.func165 rfl (by rfl) (by kernel_rfl) (enter_of Tryz.func165 rfl (by kernel_rfl)) (notYid _ (by decide)) ?_
  rintro os ds ⟨g, c, t, day, asg, body, hg, hc, hl, hk, rfl, rfl⟩
  refine ⟨Nat.le_of_ble_eq_true rfl, ?_⟩
  rw [cW_out]
  obtain ⟨c', hc', h⟩ := w165 K57_sound (sY := yW.toSpec) rfl rfl rfl (t := t) (day := day) hl hk (I := fun s => IW g c asg body (whoTo (fW g) t day s)) (b := fun _ => true) (fun _ => rfl) (fun s => IW_clos g c asg body _)
    (fun s _ hm => by simp only [whoTo_next, hm]; rfl)
    (fun s hs hm obj tm ho => by
      have h1 := whoTo_ok (fW g) t day s
      have h2 := yW_app (n := s) (s := stA t s) hg hc h1.1 (by omega) obj tm ho
      rw [h2]
      simp only [whoTo_next, hm, if_true])
  have hc2 : ∀ c2, Tryz.f165.body = some c2 → c2 = c' := fun c2 h2 => by rw [h2] at hc'; exact Option.some.inj hc'
  rw [← hc2 _ rfl] at h
  refine CW.mono (cl_of h) ?_
  rintro e σ ⟨he, hob⟩
  have hen : endN (fun s => mayB t s day && !true) (t.length + 1) = t.length + 1 := endN_none fun s _ => by simp
  rw [hen] at hob
  have fin : (resAll Tryz.prog σ []).ok ∧ (resAll Tryz.prog σ []).d = .tup [] ∧ endC (IW g c asg body []) ⟨[(1, .box [.msl [2, 1] (whoL (fW g) t day).length]), (2, .arr 1 ((whoL (fW g) t day).map vInt))], [], .tup []⟩ σ := by
    refine ⟨fun r hr => by simp at hr, rfl, ⟨hob 0, hob 1, hob 2, trivial⟩, trivial, ?_⟩
    simp [D.clos, D.closL, O.clos, domC, distinct, IW]
  rcases he with rfl | rfl
  · exact fin
  · exact fin
theorem reachW3 {obj : Name → Option O} {R B A : Name} {ds : List D} {k sz : Nat} {L : List V} {env : List E} {ps : List Nat} {a b : Code} {st : LoopState} {pd : Option Code} (hn : namesL ds = [R]) (hR : obj R = some (.loop env ps a b st pd)) (he : namesL (env.map (·.d)) = [B])
    (hRB : (R == B) = false) (hRA : (R == A) = false) (hBA : (B == A) = false) (hB : obj B = some (.box [.msl A k])) (hA : obj A = some (.arr sz L)) : reach obj ds = [R, B, A] := by
  unfold reach
  rw [hn]
  show reachL obj (2996 + 1 + 1 + 1 + 1) [R] [] = [R, B, A]
  simp only [reachL, inL, List.any_nil, Bool.false_eq_true, if_false, hR, hB, hA, namesO, he, namesL, namesD, List.nil_append, List.append_nil, List.any_cons, hRB, hRA, hBA, Bool.or_self, List.cons_append]
theorem cW_app {g : Nat} {c : V} {t : List Deed} {day : Int} {asg body : Code} (hg : g = 92 ∨ g = 93) (hc : codeIs Tryz.f91 [13, 14] asg body) (hl : t.length ≤ 60) (hk : ∀ d ∈ t, kindOk d) {obj : Name → Option O} {tm R B A : Name}
    (hRB : R ≠ B) (hRA : R ≠ A) (hBA : B ≠ A) (hR : obj R = some (.loop (evW g c B) [13, 14] asg body .ready none)) (hB : obj B = some (.box [.msl A 0])) (hA : obj A = some (.arr 1 [])) :
    cW.toSpec.app obj tm [.yld R, .v (.ptr [.sl (t.map encD)]), .v (.ptr [vInt day])] = ⟨True, .tup [], upd (upd obj B (some (.box [.msl A (whoL (fW g) t day).length]))) A (some (.arr 1 ((whoL (fW g) t day).map vInt)))⟩ := by
  have b1 : (R == B) = false := by simpa using hRB
  have b2 : (R == A) = false := by simpa using hRA
  have b3 : (B == A) = false := by simpa using hBA
  have hr : reach obj [.yld R, .v (.ptr [.sl (t.map encD)]), .v (.ptr [vInt day])] = [R, B, A] := reachW3 rfl hR (evW_names' g c B) b1 b2 b3 hB hA
  have i0 : idx [R, B, A] R = 0 := by simp [idx]
  have i1 : idx [R, B, A] B = 1 := by simp [idx, hRB]
  have i2 : idx [R, B, A] A = 2 := by simp [idx, hRA, hBA]
  have e1 : cOs obj [.yld R, .v (.ptr [.sl (t.map encD)]), .v (.ptr [vInt day])] = IW g c asg body [] := by
    unfold cOs
    rw [hr]
    simp only [List.map_cons, List.map_nil, canonO, hR, hB, hA, O.ren, D.renL, D.ren, evW_ren, cin, i0, i1, i2]
    rfl
  have e2 : cDs obj [.yld R, .v (.ptr [.sl (t.map encD)]), .v (.ptr [vInt day])] = [.yld [0, 1], .v (.ptr [.sl (t.map encD)]), .v (.ptr [vInt day])] := by
    unfold cDs
    rw [hr]
    simp only [D.renL, D.ren, cin, i0]
  have hpre : cW.pre (IW g c asg body []) [.yld [0, 1], .v (.ptr [.sl (t.map encD)]), .v (.ptr [vInt day])] := ⟨g, c, t, day, asg, body, hg, hc, hl, hk, rfl, rfl⟩
  have e3 : (shut obj [R, B, A] && D.closL (inL [R, B, A]) [.yld R, .v (.ptr [.sl (t.map encD)]), .v (.ptr [vInt day])] && fresh obj tm []) = true := by
    have : shut obj [R, B, A] = true := by
      simp [shut, hR, hB, hA, O.clos, D.closL, D.clos, inL, evW, List.range, List.range.loop, ofL, eAny]
    rw [this]
    simp [D.closL, D.clos, inL, fresh]
  simp only [CSpec.toSpec, e1, e2, hr, cW_out, e3, hpre, and_self, putN, putU, D.ren, D.renL, O.ren, cout, List.getD_cons_zero, List.getD_cons_succ]
end Go.Eng
namespace Go.Eng
open Go Go.Proofs
set_option maxRecDepth 10000
/-! who -/
noncomputable def K65 : FuncId → Option Spec := fun f => match f with
  | 147 => some (sLI (fun _ => True) (fun l k => .clo (.func 165) [] [.ptr [.sl (l.map encD)], .ptr [vInt k]]) false)
  | 165 => some cW.toSpec
  | _ => none
theorem K65_sound : ∀ f s, K65 f = some s → SSound Tryz.prog f s := by
  intro f s h
  unfold K65 at h
  split at h
  · cases h; exact s147.sound
  · cases h; exact s165W
  · cases h
@[go_sem] theorem K65_147 : K65 147 = some (sLI (fun _ => True) (fun l k => .clo (.func 165) [] [.ptr [.sl (l.map encD)], .ptr [vInt k]]) false) := rfl
theorem s91 : PSound Tryz.prog 91 pWho := by
  refine psoundB (rs := [.tmp 6]) Tryz.func91 Tryz.ntmps91 (by rfl) (by kernel_rfl) (by decide) (fun h => by cases h) ⟨_, rfl, ?_⟩
  rintro xs ⟨t, day, g, rfl, hg, hl, hk⟩ hw
  refine ⟨Nat.le_of_ble_eq_true rfl, ?_⟩
  rw [pWho_fn]
  have hΓ := K65_sound
  have hst := fun (obj : Name → Option O) (tm : Name) (f : List Deed → Int → V) (fl : Bool) => sLI_app (P := fun _ => True) (f := f) (fl := fl) (obj := obj) (t := tm) (l := t) (k := day) trivial
  repeat refine cl_seq ?_
  refine cl_rs hΓ [0,1,5] [[5, 0]] fun K' hK => ?_
  simp only [go_sem]
  repeat (refine ⟨ob, ?_⟩)
  refine hK _ ?_ ?_ <;> clear K' hK <;> simp only [go_sem]
  refine cl_weakM (σ' := mkS 21 [0] (fun _ => none) [(0, ⟨true, .v (.sl (t.map encD))⟩), (1, ⟨true, .v (vInt day)⟩), (5, ⟨true, .v (.ptr [.clo (.func g) [] []])⟩)] []) (weakM_frzk 5 (.ref [5, 0] 0) (by simp only [go_sem]) (by simp only [go_sem]) [0, 1, 5] [] ?_ ?_) ?_
  · simp only [go_sem]
  · simp only [go_sem]
  repeat refine cl_seq ?_
  refine cl_rs hΓ [0,1,5,7] [[7, 0]] fun K' hK => ?_
  simp only [go_sem]
  repeat (refine ⟨ob, ?_⟩)
  refine hK _ ?_ ?_ <;> clear K' hK <;> simp only [go_sem]
  repeat refine cl_seq ?_
  refine cl_rs hΓ [5,7,12] [[7, 0]] fun K' hK => ?_
  simp only [go_sem, hst]
  repeat (refine ⟨ob, ?_⟩)
  refine hK _ ?_ ?_ <;> clear K' hK <;> simp only [go_sem, hst]
  repeat refine cl_seq ?_
  refine cl_block ?_
  repeat refine cl_seq ?_
  refine cl_weakM (σ' := mkS 21 [0] (fun _ => none) [(5, ⟨true, .v (.ptr [.clo (.func g) [] []])⟩), (7, ⟨true, .ref [7, 0] 0⟩), (12, ⟨true, .v (.clo (.func 165) [] [.ptr [.sl (t.map encD)], .ptr [vInt day]])⟩)] [([7, 0], .box [.msl [32, 0] 0]), ([32, 0], .arr 1 [])]) (weakM_ghostB [7, 0] [32, 0] 1 (by simp only [go_sem]) (by simp only [go_sem]) [5, 7, 12] [[7, 0], [32, 0]] ?_ ?_) ?_
  · simp only [go_sem]
  · simp only [go_sem]
  have happ := fun (obj : Name → Option O) (asg body : Code) (hc : codeIs Tryz.f91 [13, 14] asg body) => cW_app (c := .clo (.func 165) [] [.ptr [.sl (t.map encD)], .ptr [vInt day]]) (t := t) (day := day) hg hc hl hk (obj := obj) (tm := [31, 0]) (R := [30, 0]) (B := [7, 0]) (A := [32, 0]) (by decide) (by decide) (by decide)
  refine cl_rangeFuncR hΓ 30 31 (f := 165) (s := cW.toSpec) rfl rfl (by decide) rfl rfl (happ _ _ _ ⟨_, rfl, rfl⟩ rfl rfl rfl) rfl ?_
  refine cl_nil ?_
  show CL Tryz.prog (_ :: _) _ _
  refine cl_keep [7] [[7, 0],[32, 0]] ?_ ?_
  · simp only [go_sem]
  simp only [go_sem]
  repeat refine cl_seq ?_
  refine cl_rs hΓ [6] [[32, 0]] fun K' hK => ?_
  simp only [go_sem]
  repeat (refine ⟨ob, ?_⟩)
  refine hK _ ?_ ?_ <;> clear K' hK <;> simp only [go_sem]
  refine cl_ret ?_
  simp only [go_sem]
end Go.Eng
namespace Go.Eng
open Go Go.Proofs
set_option maxRecDepth 10000
/-! answer: the rounds of its loop -/
def evA (g : Nat) (caps : List V) (c : V) (Y N : Name) : List E := (List.range 35).map (ofL eAny [(5, ⟨true, .v (.ptr [.clo (.func g) [] caps])⟩), (7, ⟨true, .ref Y 0⟩), (8, ⟨true, .ref N 0⟩), (13, ⟨true, .v c⟩)])
theorem evA_ren (f : Name → Name) (g : Nat) (caps : List V) (c : V) (Y N : Name) : (evA g caps c Y N).map (E.ren f) = evA g caps c (f Y) (f N) := rfl
def gA (env : List E) : Sta → Bool := match (env.getD 5 eAny).d with | .v (.ptr [.clo (.func g) _ caps]) => pG g caps | _ => fun _ => false
theorem gA_ev (g : Nat) (caps : List V) (c : V) (Y N : Name) : gA (evA g caps c Y N) = pG g caps := rfl
def outA (f : Sta → Bool) (s : V) : Bool := match s with | .agg [.int _ h, .int _ n, .bool o] => f ⟨h, n, o⟩ | _ => false
theorem outA_eq (f : Sta → Bool) (s : Sta) : outA f (encS s) = f s := rfl
def yA : YSpec where
  pre := fun env ps asg body os ds => ∃ (g : Nat) (caps : List V) (c : V) (y n : Bool) (m : Int) (s : Sta), famP g caps ∧ env = evA g caps c [0, 1] [1, 1] ∧ codeIs Tryz.f105 ps asg body ∧ os = [.box [.v (.bool y)], .box [.v (.bool n)]] ∧ ds = [.v (vInt m), .v (encS s)]
  out := fun env _ _ _ os ds => match os, ds with
    | [.box [.v (.bool y)], .box [.v (.bool n)]], [_, .v s] => (⟨[(0, .box [.v (.bool (y || outA (gA env) s))]), (1, .box [.v (.bool (n || !outA (gA env) s))])], [], .v (.bool true)⟩, none)
    | _, _ => (⟨[], [], .any⟩, none)
theorem yA_out (g : Nat) (caps : List V) (c : V) (Y N : Name) (ps : List Nat) (asg body : Code) (y n : Bool) (x : D) (s : Sta) :
    yA.out (evA g caps c Y N) ps asg body [.box [.v (.bool y)], .box [.v (.bool n)]] [x, .v (encS s)] = (⟨[(0, .box [.v (.bool (y || pG g caps s))]), (1, .box [.v (.bool (n || !pG g caps s))])], [], .v (.bool true)⟩, none) := by
  simp only [yA, gA_ev, outA_eq]
noncomputable def sSp (f : Sta → Int → V) : Spec := (pSp f).toSpec
theorem sSp_app {f : Sta → Int → V} {obj : Name → Option O} {t : Name} {h n k : Int} {o : Bool} : (sSp f).app obj t [.agg [.v (vInt h), .v (vInt n), .v (.bool o)], .v (.ptr [vInt k])] = ⟨True, .v (f ⟨h, n, o⟩ k), obj⟩ := by
  have e : frzL (frz 6) obj [.agg [.v (vInt h), .v (vInt n), .v (.bool o)], .v (.ptr [vInt k])] = ⟨True, [encS ⟨h, n, o⟩, .ptr [vInt k]], obj⟩ := by
    simp [frzL, frz, D.one, V.one, encS]
  simp only [sSp, PSpec.toSpec, e]
  simp only [pSp, encS, if_true]
  congr 1
  simp only [eq_iff_iff, iff_true]
  exact ⟨trivial, ⟨h, n, o⟩, k, rfl⟩
noncomputable def K66 : FuncId → Option Spec := fun f => match f with
  | 106 => some (sSp fun s k => .bool (s.h == k))
  | 108 => some (sSp fun s k => .bool (s.n == k))
  | 111 => some (sS1 fun s => .bool s.o)
  | _ => none
theorem K66_sound : ∀ f s, K66 f = some s → SSound Tryz.prog f s := by
  intro f s h
  unfold K66 at h
  split at h
  · cases h; exact s106.sound
  · cases h; exact s108.sound
  · cases h; exact s111.sound
  · cases h
theorem K66_g {g : Nat} {caps : List V} (h : famP g caps) : ∃ sG, K66 g = some sG ∧ ¬ g = 1000000000 ∧ ∀ (obj : Name → Option O) (t : Name) (h n : Int) (o : Bool), sG.app obj t (.agg [.v (vInt h), .v (vInt n), .v (.bool o)] :: caps.map .v) = ⟨True, .v (.bool (pG g caps ⟨h, n, o⟩)), obj⟩ ∧ sG.foot obj t (.agg [.v (vInt h), .v (vInt n), .v (.bool o)] :: caps.map .v) = [] ∧ sG.wrt obj t (.agg [.v (vInt h), .v (vInt n), .v (.bool o)] :: caps.map .v) = [] := by
  rcases h with ⟨rfl, k, rfl⟩ | ⟨rfl, k, rfl⟩ | ⟨rfl, rfl⟩
  · exact ⟨_, rfl, by decide, fun obj t h n o => ⟨sSp_app, rfl, rfl⟩⟩
  · exact ⟨_, rfl, by decide, fun obj t h n o => ⟨sSp_app, rfl, rfl⟩⟩
  · exact ⟨_, rfl, by decide, fun obj t h n o => ⟨sS1_app, rfl, rfl⟩⟩
set_option maxHeartbeats 4000000 in
theorem sYA : SSound Tryz.prog yid yA.toSpec := by
  refine yield_run ?_
  rintro env ps asg body os ds ⟨g, caps, c, y, n, m, s, hg, rfl, ⟨p, hp, rfl⟩, rfl, rfl⟩ _
  have e : Tryz.f105.body.bind rngC = some (_, _, _) := rfl
  rw [e] at hp
  obtain ⟨rfl, rfl, rfl⟩ : _ ∧ _ ∧ _ := by simpa using hp
  clear hp e
  have hΓ := K66_sound
  have hP := mixedK
  obtain ⟨sG, hk, hy, happ⟩ := K66_g hg
  rw [yA_out]
  generalize hos : [O.box [.v (.bool y)], .box [.v (.bool n)]] = os
  have hO : ∀ hs, OutC [0] (domOf [0] hs) (outH os) = True := by
    subst hos
    refine fun hs => eq_true (outC_outs ?_ hs)
    intro o ho dom hd
    simp only [List.mem_cons, List.not_mem_nil, or_false] at ho
    rcases ho with rfl | rfl <;> rfl
  have hH0 : outH os [0, 1] = some (.box [.v (.bool y)]) := by subst hos; rfl
  have hH1 : outH os [1, 1] = some (.box [.v (.bool n)]) := by subst hos; rfl
  obtain ⟨H, hH⟩ : ∃ H, outH os = H := ⟨_, rfl⟩
  rw [hH] at hH0 hH1
  simp only [hH] at hO
  have hE : ∀ b b' σ, σ.obj [0, 1] = some (.box [.v (.bool b)]) → σ.obj [1, 1] = some (.box [.v (.bool b')]) →
      endC os ⟨[(0, .box [.v (.bool b)]), (1, .box [.v (.bool b')])], [], .v (.bool true)⟩ σ := by
    intro b b' σ h1 h2
    subst hos
    refine ⟨⟨h1, h2, trivial⟩, trivial, ?_⟩
    simp [D.clos, D.closL, O.clos, domC, distinct]
  obtain ⟨h, n', o⟩ := s
  have hap := fun (obj : Name → Option O) (t : Name) => (happ obj t h n' o).1
  have hft := fun (obj : Name → Option O) (t : Name) => (happ obj t h n' o).2.1
  have hwt := fun (obj : Name → Option O) (t : Name) => (happ obj t h n' o).2.2
  clear happ
  generalize pG g caps ⟨h, n', o⟩ = pb at *
  simp only [encS, hH]
  refine cw_weak (weak_to 35 [0] H [(5, ⟨true, .v (.ptr [.clo (.func g) [] caps])⟩), (7, ⟨true, .ref [0, 1] 0⟩), (8, ⟨true, .ref [1, 1] 0⟩), (15, ⟨true, .v (.agg [vInt h, vInt n', .bool o])⟩)] [] rfl rfl (fun _ _ => rfl) ?_ (by simp) ?_ ?_) ?_
  · intro q hq
    simp only [List.mem_cons, List.not_mem_nil, or_false] at hq
    rcases hq with rfl | rfl | rfl | rfl <;> rfl
  · simp [D.clos, domOf, own]
  · rw [hO]; trivial
  refine cl_of ?_
  refine cl_r hΓ fun K' hK => ?_
  simp only [go_sem, tp137, tz137]
  refine ⟨Nat.le_refl _, ?_⟩
  refine hK _ ?_
  clear K' hK
  refine (cw_keep [5, 7, 8, 10] [[10, 0]] ?_ ?_ : CW _ _ _ _)
  · simp only [go_sem, hO]
  refine cl_of ?_
  simp only [go_sem]
  refine cl_block ?_
  cases y <;> cases n
  all_goals
    repeat refine cl_seq ?_
    refine cl_d hΓ hP [[], [0], [0, 1], [0, 1], [0, 1, 2, 3], [0, 1, 2, 3, 4], [], [0, 1, 2, 3, 4, 6], [0, 1, 2, 3, 4, 6, 7], [0, 1, 2, 3, 4, 6, 7], [0, 1, 2, 3, 4, 6, 7, 8, 9], [0, 1, 2, 3, 4, 6, 7, 8, 9, 10], [0, 1, 2, 3, 4, 6, 7, 8, 9, 10, 11], [0, 1, 2, 3, 4, 5, 6, 7, 8, 9, 10], [0, 1, 2, 3, 4, 5, 6, 7, 8, 9, 10, 11, 12, 13]] (by kernel_rfl) fun K' hK => ?_
    simp only [go_sem, hH0, hH1, hk, hy, hap, hft, hwt]
    repeat (refine ⟨ob, ?_⟩)
    first | refine ⟨by rfl, ?_⟩ | skip
    refine hK _ ?_
    clear K' hK
    simp only [go_sem]
    refine cl_nil ?_
    exact ⟨rfl, hE _ _ _ rfl rfl⟩
end Go.Eng
namespace Go.Eng
open Go Go.Proofs
set_option maxRecDepth 10000
/-! answer: all its rounds, and the function -/
theorem evA_names (g : Nat) (caps : List V) (c : V) (Y N : Name) (a b : V) : namesL (roots (evA g caps c Y N) [.v a, .v b]) = [Y, N] := rfl
theorem evA_names' (g : Nat) (caps : List V) (c : V) (Y N : Name) : namesL ((evA g caps c Y N).map (·.d)) = [Y, N] := rfl
theorem evA_cl (dom : Name → Bool) (g : Nat) (caps : List V) (c : V) (Y N : Name) (a b : V) (h : dom Y = true) (h' : dom N = true) : D.closL dom (roots (evA g caps c Y N) [.v a, .v b]) = true := by
  unfold roots evA
  simp [List.range, List.range.loop, ofL, D.closL, D.clos, eAny, h, h']
theorem reachA {obj : Name → Option O} {Y N : Name} {ds : List D} {y n : Bool} (hn : namesL ds = [Y, N]) (hYN : (Y == N) = false) (hY : obj Y = some (.box [.v (.bool y)])) (hN : obj N = some (.box [.v (.bool n)])) : reach obj ds = [Y, N] := by
  unfold reach
  rw [hn]
  show reachL obj (2997 + 1 + 1 + 1) [Y, N] [] = [Y, N]
  simp only [reachL, inL, List.any_nil, Bool.false_eq_true, if_false, hY, hN, namesO, namesL, namesD, List.nil_append, List.append_nil, List.any_cons, hYN, Bool.or_self, List.cons_append]
def IA (g : Nat) (caps : List V) (c : V) (asg body : Code) (y n : Bool) : List O := [.loop (evA g caps c [1, 1] [2, 1]) [14, 15] asg body .ready none, .box [.v (.bool y)], .box [.v (.bool n)]]
theorem yA_app {g : Nat} {caps : List V} {c : V} {asg body : Code} {y n : Bool} {m : Int} {s : Sta} (hg : famP g caps) (hc : codeIs Tryz.f105 [14, 15] asg body)
    (obj : Name → Option O) (tm : Name) (h : ∀ nm, isOut nm = true → obj nm = outH (IA g caps c asg body y n) nm) :
    yA.toSpec.app obj tm [.yld [0, 1], .v (vInt m), .v (encS s)] = ⟨True, .v (.bool true), setU obj (IA g caps c asg body (y || pG g caps s) (n || !pG g caps s))⟩ := by
  have h0 : obj [0, 1] = some (.loop (evA g caps c [1, 1] [2, 1]) [14, 15] asg body .ready none) := h _ rfl
  have h1 : obj [1, 1] = some (.box [.v (.bool y)]) := h _ rfl
  have h2 : obj [2, 1] = some (.box [.v (.bool n)]) := h _ rfl
  have hr : reach obj (roots (evA g caps c [1, 1] [2, 1]) [.v (vInt m), .v (encS s)]) = [[1, 1], [2, 1]] := reachA (evA_names g caps c [1, 1] [2, 1] (vInt m) (encS s)) rfl h1 h2
  have e1 : cOs obj (roots (evA g caps c [1, 1] [2, 1]) [.v (vInt m), .v (encS s)]) = [.box [.v (.bool y)], .box [.v (.bool n)]] := by
    unfold cOs
    rw [hr]
    simp only [List.map_cons, List.map_nil, canonO, h1, h2, O.ren, D.renL, D.ren]
  have e2 : yEnv obj (evA g caps c [1, 1] [2, 1]) [.v (vInt m), .v (encS s)] = evA g caps c [0, 1] [1, 1] := by
    unfold yEnv
    rw [hr, evA_ren]
    rfl
  have e3 : yDs obj (evA g caps c [1, 1] [2, 1]) [.v (vInt m), .v (encS s)] = [.v (vInt m), .v (encS s)] := rfl
  have e4 : yA.o obj (evA g caps c [1, 1] [2, 1]) [14, 15] asg body [.v (vInt m), .v (encS s)] = (⟨[(0, .box [.v (.bool (y || pG g caps s))]), (1, .box [.v (.bool (n || !pG g caps s))])], [], .v (.bool true)⟩, none) := by
    unfold YSpec.o
    rw [e1, e2, e3, yA_out]
  have hpre : yA.pre (evA g caps c [0, 1] [1, 1]) [14, 15] asg body [.box [.v (.bool y)], .box [.v (.bool n)]] [.v (vInt m), .v (encS s)] := ⟨g, caps, c, y, n, m, s, hg, rfl, hc, rfl, rfl⟩
  have hcl := evA_cl (inL [[1, 1], [2, 1]]) g caps c [1, 1] [2, 1] (vInt m) (encS s) rfl rfl
  simp only [YSpec.toSpec, h0, e1, e2, e3, e4, hr, hcl]
  have e5 : (shut obj [[1, 1], [2, 1]] && true && fresh obj tm [] && !inL [[1, 1], [2, 1]] [0, 1] && decide ([D.v (vInt m), .v (encS s)].length = [14, 15].length) && [14, 15].all fun p => decide (p < (evA g caps c [1, 1] [2, 1]).length)) = true := by
    have : shut obj [[1, 1], [2, 1]] = true := by
      simp only [shut, List.all_cons, List.all_nil, h1, h2, O.clos, D.closL, D.clos]
      rfl
    rw [this]
    rfl
  rw [e5]
  unfold IA
  rw [setU3]
  simp only [hpre, and_self, Option.isNone_none, if_true, putN, putU]
  rfl
noncomputable def K67 : FuncId → Option Spec := fun f => match f with
  | 166 => some sMay
  | 167 => some sAft
  | 1000000000 => some yA.toSpec
  | _ => none
theorem K67_sound : ∀ f s, K67 f = some s → SSound Tryz.prog f s := by
  intro f s h
  unfold K67 at h
  split at h
  · cases h; exact s166.sound
  · cases h; exact s167.sound
  · cases h; exact sYA
  · cases h
theorem IA_clos (g : Nat) (caps : List V) (c : V) (asg body : Code) (y n : Bool) : ∀ o ∈ IA g caps c asg body y n, ∀ dom : Name → Bool, (∀ i, dom [i, 1] = true) → O.clos dom o = true := by
  intro o ho dom hd
  simp only [IA, List.mem_cons, List.not_mem_nil, or_false] at ho
  rcases ho with rfl | rfl | rfl
  · simp [O.clos, evA, List.range, List.range.loop, ofL, D.clos, D.closL, eAny, hd]
  · rfl
  · rfl
def cA : CSpec where
  pre := fun os ds => ∃ (g : Nat) (caps : List V) (c : V) (t : List Deed) (day : Int) (asg body : Code), famP g caps ∧ codeIs Tryz.f105 [14, 15] asg body ∧ t.length ≤ 60 ∧ (∀ d ∈ t, kindOk d) ∧ os = IA g caps c asg body false false ∧ ds = [.yld [0, 1], .v (.ptr [.sl (t.map encD)]), .v (.ptr [vInt day])]
  out := fun os ds => match os, ds with
    | [.loop env _ _ _ _ _, _, _], [_, .v (.ptr [.sl l]), .v (.ptr [.int _ day])] => ⟨[(1, .box [.v (.bool (yesTo (gA env) (l.map decD) day (l.length + 1)))]), (2, .box [.v (.bool (noTo (gA env) (l.map decD) day (l.length + 1)))])], [], .tup []⟩
    | _, _ => ⟨[], [], .any⟩
theorem cA_out (g : Nat) (caps : List V) (c : V) (asg body : Code) (y n : Bool) (t : List Deed) (day : Int) (x : D) : cA.out (IA g caps c asg body y n) [x, .v (.ptr [.sl (t.map encD)]), .v (.ptr [vInt day])] =
    ⟨[(1, .box [.v (.bool (yesTo (pG g caps) t day (t.length + 1)))]), (2, .box [.v (.bool (noTo (pG g caps) t day (t.length + 1)))])], [], .tup []⟩ := by
  simp only [cA, IA, gA_ev, decD_map, List.length_map]
theorem s165A : SSound Tryz.prog 165 cA.toSpec := by
  refine csound (nt := 25) (rs := []) Tryz.func165 rfl (by rfl) (by kernel_rfl) (enter_of Tryz.func165 rfl (by kernel_rfl)) (notYid _ (by decide)) ?_
  rintro os ds ⟨g, caps, c, t, day, asg, body, hg, hc, hl, hk, rfl, rfl⟩
  refine ⟨Nat.le_of_ble_eq_true rfl, ?_⟩
  rw [cA_out]
  obtain ⟨c', hc', h⟩ := w165 K67_sound (sY := yA.toSpec) rfl rfl rfl (t := t) (day := day) hl hk (I := fun s => IA g caps c asg body (yesTo (pG g caps) t day s) (noTo (pG g caps) t day s)) (b := fun _ => true) (fun _ => rfl) (fun s => IA_clos g caps c asg body _ _)
    (fun s _ hm => by simp only [yesTo_next, noTo_next, hm]; rfl)
    (fun s hs hm obj tm ho => by
      have h2 := yA_app (m := s) (s := stA t s) hg hc obj tm ho
      rw [h2]
      simp only [yesTo_next, noTo_next, hm, if_true])
  have hc2 : ∀ c2, Tryz.f165.body = some c2 → c2 = c' := fun c2 h2 => by rw [h2] at hc'; exact Option.some.inj hc'
  rw [← hc2 _ rfl] at h
  refine CW.mono (cl_of h) ?_
  rintro e σ ⟨he, hob⟩
  have hen : endN (fun s => mayB t s day && !true) (t.length + 1) = t.length + 1 := endN_none fun s _ => by simp
  rw [hen] at hob
  have fin : (resAll Tryz.prog σ []).ok ∧ (resAll Tryz.prog σ []).d = .tup [] ∧ endC (IA g caps c asg body false false) ⟨[(1, .box [.v (.bool (yesTo (pG g caps) t day (t.length + 1)))]), (2, .box [.v (.bool (noTo (pG g caps) t day (t.length + 1)))])], [], .tup []⟩ σ := by
    refine ⟨fun r hr => by simp at hr, rfl, ⟨hob 0, hob 1, hob 2, trivial⟩, trivial, ?_⟩
    simp [D.clos, D.closL, O.clos, distinct, IA]
  rcases he with rfl | rfl
  · exact fin
  · exact fin
theorem reachA3 {obj : Name → Option O} {R Y N : Name} {ds : List D} {y n : Bool} {env : List E} {ps : List Nat} {a b : Code} {st : LoopState} {pd : Option Code} (hn : namesL ds = [R]) (hR : obj R = some (.loop env ps a b st pd)) (he : namesL (env.map (·.d)) = [Y, N])
    (hRY : (R == Y) = false) (hRN : (R == N) = false) (hYN : (Y == N) = false) (hY : obj Y = some (.box [.v (.bool y)])) (hN : obj N = some (.box [.v (.bool n)])) : reach obj ds = [R, Y, N] := by
  unfold reach
  rw [hn]
  show reachL obj (2996 + 1 + 1 + 1 + 1) [R] [] = [R, Y, N]
  simp only [reachL, inL, List.any_nil, Bool.false_eq_true, if_false, hR, hY, hN, namesO, he, namesL, namesD, List.nil_append, List.append_nil, List.any_cons, hRY, hRN, hYN, Bool.or_self, List.cons_append]
theorem cA_app {g : Nat} {caps : List V} {c : V} {t : List Deed} {day : Int} {asg body : Code} (hg : famP g caps) (hc : codeIs Tryz.f105 [14, 15] asg body) (hl : t.length ≤ 60) (hk : ∀ d ∈ t, kindOk d) {obj : Name → Option O} {tm R Y N : Name}
    (hRY : R ≠ Y) (hRN : R ≠ N) (hYN : Y ≠ N) (hR : obj R = some (.loop (evA g caps c Y N) [14, 15] asg body .ready none)) (hY : obj Y = some (.box [.v (.bool false)])) (hN : obj N = some (.box [.v (.bool false)])) :
    cA.toSpec.app obj tm [.yld R, .v (.ptr [.sl (t.map encD)]), .v (.ptr [vInt day])] = ⟨True, .tup [], upd (upd obj Y (some (.box [.v (.bool (yesTo (pG g caps) t day (t.length + 1)))]))) N (some (.box [.v (.bool (noTo (pG g caps) t day (t.length + 1)))]))⟩ := by
  have b1 : (R == Y) = false := by simpa using hRY
  have b2 : (R == N) = false := by simpa using hRN
  have b3 : (Y == N) = false := by simpa using hYN
  have hr : reach obj [.yld R, .v (.ptr [.sl (t.map encD)]), .v (.ptr [vInt day])] = [R, Y, N] := reachA3 rfl hR (evA_names' g caps c Y N) b1 b2 b3 hY hN
  have i0 : idx [R, Y, N] R = 0 := by simp [idx]
  have i1 : idx [R, Y, N] Y = 1 := by simp [idx, hRY]
  have i2 : idx [R, Y, N] N = 2 := by simp [idx, hRN, hYN]
  have e1 : cOs obj [.yld R, .v (.ptr [.sl (t.map encD)]), .v (.ptr [vInt day])] = IA g caps c asg body false false := by
    unfold cOs
    rw [hr]
    simp only [List.map_cons, List.map_nil, canonO, hR, hY, hN, O.ren, D.renL, D.ren, evA_ren, cin, i1, i2]
    rfl
  have e2 : cDs obj [.yld R, .v (.ptr [.sl (t.map encD)]), .v (.ptr [vInt day])] = [.yld [0, 1], .v (.ptr [.sl (t.map encD)]), .v (.ptr [vInt day])] := by
    unfold cDs
    rw [hr]
    simp only [D.renL, D.ren, cin, i0]
  have hpre : cA.pre (IA g caps c asg body false false) [.yld [0, 1], .v (.ptr [.sl (t.map encD)]), .v (.ptr [vInt day])] := ⟨g, caps, c, t, day, asg, body, hg, hc, hl, hk, rfl, rfl⟩
  have e3 : (shut obj [R, Y, N] && D.closL (inL [R, Y, N]) [.yld R, .v (.ptr [.sl (t.map encD)]), .v (.ptr [vInt day])] && fresh obj tm []) = true := by
    have : shut obj [R, Y, N] = true := by
      simp [shut, hR, hY, hN, O.clos, D.closL, D.clos, inL, evA, List.range, List.range.loop, ofL, eAny]
    rw [this]
    simp [D.closL, D.clos, inL, fresh]
  simp only [CSpec.toSpec, e1, e2, hr, cA_out, e3, hpre, and_self, putN, putU, D.ren, D.renL, O.ren, List.getD_cons_zero, List.getD_cons_succ]
noncomputable def K68 : FuncId → Option Spec := fun f => match f with
  | 147 => some (sLI (fun _ => True) (fun l k => .clo (.func 165) [] [.ptr [.sl (l.map encD)], .ptr [vInt k]]) false)
  | 165 => some cA.toSpec
  | _ => none
theorem K68_sound : ∀ f s, K68 f = some s → SSound Tryz.prog f s := by
  intro f s h
  unfold K68 at h
  split at h
  · cases h; exact s147.sound
  · cases h; exact s165A
  · cases h
@[go_sem] theorem K68_147 : K68 147 = some (sLI (fun _ => True) (fun l k => .clo (.func 165) [] [.ptr [.sl (l.map encD)], .ptr [vInt k]]) false) := rfl
theorem s105 : PSound Tryz.prog 105 pAns := by
  refine psoundB (rs := [.tmp 6]) Tryz.func105 Tryz.ntmps105 (by rfl) (by kernel_rfl) (by decide) (by rintro _ xs ⟨t, day, g, caps, rfl, _⟩; rw [pAns_fn]; rfl) ⟨_, rfl, ?_⟩
  rintro xs ⟨t, day, g, caps, rfl, hg, hl, hk⟩ hw
  refine ⟨Nat.le_of_ble_eq_true rfl, ?_⟩
  rw [pAns_fn]
  have hΓ := K68_sound
  have hst := fun (obj : Name → Option O) (tm : Name) (f : List Deed → Int → V) (fl : Bool) => sLI_app (P := fun _ => True) (f := f) (fl := fl) (obj := obj) (t := tm) (l := t) (k := day) trivial
  repeat refine cl_seq ?_
  refine cl_rs hΓ [0,1,5] [[5, 0]] fun K' hK => ?_
  simp only [go_sem]
  repeat (refine ⟨ob, ?_⟩)
  refine hK _ ?_ ?_ <;> clear K' hK <;> simp only [go_sem]
  refine cl_weakM (σ' := mkS 35 [0] (fun _ => none) [(0, ⟨true, .v (.sl (t.map encD))⟩), (1, ⟨true, .v (vInt day)⟩), (5, ⟨true, .v (.ptr [.clo (.func g) [] caps])⟩)] []) (weakM_frzk 5 (.ref [5, 0] 0) (by simp only [go_sem]) (by simp only [go_sem]) [0, 1, 5] [] ?_ ?_) ?_
  · simp only [go_sem]
  · simp only [go_sem]
  repeat refine cl_seq ?_
  refine cl_rs hΓ [0,1,5,7,8] [[7, 0],[8, 0]] fun K' hK => ?_
  simp only [go_sem]
  repeat (refine ⟨ob, ?_⟩)
  refine hK _ ?_ ?_ <;> clear K' hK <;> simp only [go_sem]
  repeat refine cl_seq ?_
  refine cl_rs hΓ [5,7,8,13] [[7, 0],[8, 0]] fun K' hK => ?_
  simp only [go_sem, hst]
  repeat (refine ⟨ob, ?_⟩)
  refine hK _ ?_ ?_ <;> clear K' hK <;> simp only [go_sem, hst]
  repeat refine cl_seq ?_
  refine cl_block ?_
  repeat refine cl_seq ?_
  have happ := fun (obj : Name → Option O) (asg body : Code) (hc : codeIs Tryz.f105 [14, 15] asg body) => cA_app (c := .clo (.func 165) [] [.ptr [.sl (t.map encD)], .ptr [vInt day]]) (t := t) (day := day) hg hc hl hk (obj := obj) (tm := [41, 0]) (R := [40, 0]) (Y := [7, 0]) (N := [8, 0]) (by decide) (by decide) (by decide)
  refine cl_rangeFuncR hΓ 40 41 (f := 165) (s := cA.toSpec) rfl rfl (by decide) rfl rfl (happ _ _ _ ⟨_, rfl, rfl⟩ rfl rfl rfl) rfl ?_
  refine cl_nil ?_
  show CL Tryz.prog (_ :: _) _ _
  refine cl_keep [7,8] [[7, 0],[8, 0]] ?_ ?_
  · simp only [go_sem]
  simp only [go_sem]
  have hans : ansP (pG g caps) t day = if noTo (pG g caps) t day (t.length + 1) then (if yesTo (pG g caps) t day (t.length + 1) then 2 else 0) else 1 := rfl
  rw [hans]
  generalize yesTo (pG g caps) t day (t.length + 1) = y
  generalize noTo (pG g caps) t day (t.length + 1) = n
  clear hans happ
  repeat refine cl_seq ?_
  refine cl_block ?_
  repeat refine cl_seq ?_
  refine cl_rs hΓ [7,29] [[7, 0]] fun K' hK => ?_
  simp only [go_sem]
  repeat (refine ⟨ob, ?_⟩)
  refine hK _ ?_ ?_ <;> clear K' hK <;> simp only [go_sem]
  repeat refine cl_seq ?_
  refine cl_cond rfl rfl (fun hb => ?_) (fun hb => ?_)
  · have hn : n = false := by simpa using hb
    subst hn
    repeat refine cl_seq ?_
    repeat refine cl_seq ?_
    refine cl_rs hΓ [6] [] fun K' hK => ?_
    simp only [go_sem]
    repeat (refine ⟨ob, ?_⟩)
    refine hK _ ?_ ?_ <;> clear K' hK <;> simp only [go_sem]
    refine cl_ret ?_
    simp only [go_sem]
  have hn : n = true := by simpa using hb
  subst hn
  repeat refine cl_seq ?_
  repeat refine cl_seq ?_
  refine cl_rs hΓ [32] [] fun K' hK => ?_
  simp only [go_sem]
  repeat (refine ⟨ob, ?_⟩)
  refine hK _ ?_ ?_ <;> clear K' hK <;> simp only [go_sem]
  repeat refine cl_seq ?_
  refine cl_cond rfl rfl (fun hb => ?_) (fun hb => ?_)
  · have hy : y = false := by simpa using hb
    subst hy
    repeat refine cl_seq ?_
    repeat refine cl_seq ?_
    refine cl_rs hΓ [6] [] fun K' hK => ?_
    simp only [go_sem]
    repeat (refine ⟨ob, ?_⟩)
    refine hK _ ?_ ?_ <;> clear K' hK <;> simp only [go_sem]
    refine cl_ret ?_
    simp only [go_sem]
  have hy : y = true := by simpa using hb
  subst hy
  repeat refine cl_seq ?_
  refine cl_skip ?_
  refine cl_nil ?_
  simp only [go_sem]
  refine cl_keep [] [] ?_ ?_
  · simp only [go_sem]
  simp only [go_sem]
  repeat refine cl_seq ?_
  refine cl_rs hΓ [6] [] fun K' hK => ?_
  simp only [go_sem]
  repeat (refine ⟨ob, ?_⟩)
  refine hK _ ?_ ?_ <;> clear K' hK <;> simp only [go_sem]
  refine cl_ret ?_
  simp only [go_sem]
end Go.Eng
namespace Go.Eng
open Go Go.Proofs
set_option maxRecDepth 10000
/-! InOffice and Wardens -/
noncomputable def K61 : FuncId → Option Spec := fun f => match f with
  | 39 => some sChk
  | 16 => some sRChk
  | 79 => some sIn
  | 109 => some (pInt isPersB)
  | 110 => some (sLII (fun _ => True) askV false)
  | 112 => some (sL2 evenV)
  | 113 => some (sLII (fun c => c.length ≤ 60) (fun c pe day => vInt (offI c pe day)) true)
  | 86 => some (sLII (fun l => l.length ≤ 60) (fun l lo pe => .sl ((thrL l lo pe).map encD)) false)
  | 105 => some sAns
  | _ => none
theorem K61_sound : ∀ f s, K61 f = some s → SSound Tryz.prog f s := by
  intro f s h
  unfold K61 at h
  split at h
  · cases h; exact s39'
  · cases h; exact s16'
  · cases h; exact s79'
  · cases h; exact s109.sound
  · cases h; exact s110.sound
  · cases h; exact s112.sound
  · cases h; exact s113.sound
  · cases h; exact s86.sound
  · cases h; exact s105.sound
  · cases h
@[go_sem] theorem K61_39 : K61 39 = some sChk := rfl
@[go_sem] theorem K61_16 : K61 16 = some sRChk := rfl
@[go_sem] theorem K61_79 : K61 79 = some sIn := rfl
@[go_sem] theorem K61_109 : K61 109 = some (pInt isPersB) := rfl
@[go_sem] theorem K61_110 : K61 110 = some (sLII (fun _ => True) askV false) := rfl
@[go_sem] theorem K61_112 : K61 112 = some (sL2 evenV) := rfl
@[go_sem] theorem K61_113 : K61 113 = some (sLII (fun c => c.length ≤ 60) (fun c pe day => vInt (offI c pe day)) true) := rfl
@[go_sem] theorem K61_86 : K61 86 = some (sLII (fun l => l.length ≤ 60) (fun l lo pe => .sl ((thrL l lo pe).map encD)) false) := rfl
@[go_sem] theorem K61_105 : K61 105 = some sAns := rfl
theorem thr_len {l : List Deed} (h : okL l) (k lo pe : Int) : (thrL (countL l k) lo pe).length ≤ 60 := by
  have h1 := List.length_filter_le (fun d => isOfB d lo pe) (countL l k)
  have h2 := countL_len l k
  have h3 := h.2.2
  unfold thrL
  omega
theorem thr_kind {l : List Deed} (h : okL l) (k lo pe : Int) : ∀ d ∈ thrL (countL l k) lo pe, kindOk d := fun d hd => kind_of (countL_valid h k d (List.mem_filter.1 hd).1)
def pLI3 (f : List Deed → Int → Int → Int → V) (fl : Bool) : PSpec := ⟨fun xs => ∃ (l : List Deed) (a b c : Int), xs = [.sl (l.map encD), vInt a, vInt b, vInt c], fun xs => match xs with | [.sl l, .int _ a, .int _ b, .int _ c] => f (l.map decD) a b c | _ => .bool false, fl⟩
theorem pLI3_fn (f : List Deed → Int → Int → Int → V) (fl : Bool) (l : List Deed) (a b c : Int) : (pLI3 f fl).fn [.sl (l.map encD), vInt a, vInt b, vInt c] = f l a b c := by
  simp only [pLI3, decD_map]
set_option maxHeartbeats 8000000 in
theorem s48 : PSound Tryz.prog 48 (pLI3 (fun l pe day k => .tup [vInt (inR l pe day k), vInt (inE l pe day k)]) true) := by
  refine psoundB (rs := [.tmp 8, .tmp 9]) Tryz.func48 Tryz.ntmps48 (by rfl) (by kernel_rfl) (by decide) (by rintro _ xs ⟨l, a, b, c, rfl⟩; rw [pLI3_fn]; rfl) ⟨_, rfl, ?_⟩
  rintro xs ⟨l, pe, day, k, rfl⟩ hw
  refine ⟨Nat.le_of_ble_eq_true rfl, ?_⟩
  rw [pLI3_fn]
  have hΓ := K61_sound
  have hin := fun (g : Int → Bool) (obj : Name → Option O) (t : Name) => pInt_app (g := g) (obj := obj) (t := t) (n := pe)
  have hask := fun (obj : Name → Option O) (t : Name) (f : List Deed → Int → Int → V) (fl : Bool) => sLII_app (P := fun _ => True) (f := f) (fl := fl) (obj := obj) (t := t) (l := l) (k := day) (j := k) trivial
  have hae := askV_eq l day k
  unfold inR
  repeat refine cl_seq ?_
  refine cl_rs hΓ [0,1,2,3] [] fun K' hK => ?_
  simp only [go_sem]
  repeat (refine ⟨ob, ?_⟩)
  refine hK _ ?_ ?_ <;> clear K' hK <;> simp only [go_sem]
  repeat refine cl_seq ?_
  refine cl_rs hΓ [0,1,2,3,10] [] fun K' hK => ?_
  simp only [go_sem, sChk_app]
  repeat (refine ⟨ob, ?_⟩)
  refine hK _ ?_ ?_ <;> clear K' hK <;> simp only [go_sem, sChk_app]
  repeat refine cl_seq ?_
  refine cl_rs hΓ [0,1,2,3,10,16] [] fun K' hK => ?_
  simp only [go_sem]
  repeat (refine ⟨ob, ?_⟩)
  refine hK _ ?_ ?_ <;> clear K' hK <;> simp only [go_sem]
  repeat refine cl_seq ?_
  refine cl_cond rfl rfl (fun hb => ?_) (fun hb => ?_)
  · repeat refine cl_seq ?_
    have hn : ¬ checkI l = 0 := by simpa using hb
    have he : inE l pe day k = checkI l := by unfold inE; rw [if_neg hn]
    rw [he, if_neg hn]
    repeat refine cl_seq ?_
    refine cl_rs hΓ [8,9] [] fun K' hK => ?_
    simp only [go_sem]
    repeat (refine ⟨ob, ?_⟩)
    refine hK _ ?_ ?_ <;> clear K' hK <;> simp only [go_sem]
    refine cl_ret ?_
    simp only [go_sem]
  have hz : checkI l = 0 := by simpa using hb
  repeat refine cl_seq ?_
  refine cl_skip ?_
  repeat refine cl_seq ?_
  refine cl_rs hΓ [0,1,2,3,20] [] fun K' hK => ?_
  simp only [go_sem, hin]
  repeat (refine ⟨ob, ?_⟩)
  refine hK _ ?_ ?_ <;> clear K' hK <;> simp only [go_sem, hin]
  repeat refine cl_seq ?_
  refine cl_cond rfl rfl (fun hb => ?_) (fun hb => ?_)
  · repeat refine cl_seq ?_
    have hn : ¬ isPersB pe = true := by simpa using hb
    have he : inE l pe day k = 16 := by unfold inE; rw [if_pos hz, if_neg hn]
    rw [he, if_neg (by decide)]
    repeat refine cl_seq ?_
    refine cl_rs hΓ [8,9] [] fun K' hK => ?_
    simp only [go_sem]
    repeat (refine ⟨ob, ?_⟩)
    refine hK _ ?_ ?_ <;> clear K' hK <;> simp only [go_sem]
    refine cl_ret ?_
    simp only [go_sem]
  have hlk : isPersB pe = true := by simpa using hb
  have he : inE l pe day k = askE l day k := by unfold inE; rw [if_pos hz, if_pos hlk]
  rw [he]
  repeat refine cl_seq ?_
  refine cl_skip ?_
  repeat refine cl_seq ?_
  refine cl_rs hΓ [1,2,11,12] [] fun K' hK => ?_
  simp only [go_sem, hask, hae]
  repeat (refine ⟨ob, ?_⟩)
  refine hK _ ?_ ?_ <;> clear K' hK <;> simp only [go_sem, hask, hae]
  repeat refine cl_seq ?_
  refine cl_rs hΓ [1,2,11,12,29] [] fun K' hK => ?_
  simp only [go_sem]
  repeat (refine ⟨ob, ?_⟩)
  refine hK _ ?_ ?_ <;> clear K' hK <;> simp only [go_sem]
  repeat refine cl_seq ?_
  refine cl_cond rfl rfl (fun hb => ?_) (fun hb => ?_)
  · repeat refine cl_seq ?_
    have hn : ¬ askE l day k = 0 := by simpa using hb
    simp only [if_neg hn]
    repeat refine cl_seq ?_
    refine cl_rs hΓ [8,9] [] fun K' hK => ?_
    simp only [go_sem]
    repeat (refine ⟨ob, ?_⟩)
    refine hK _ ?_ ?_ <;> clear K' hK <;> simp only [go_sem]
    refine cl_ret ?_
    simp only [go_sem]
  have hq : askE l day k = 0 := by simpa using hb
  obtain ⟨h3, h4, h5⟩ := askE_ok hq
  have hlen : (countL l k).length ≤ 60 := by have := countL_len l k; have := h3.2.2; omega
  have hth := fun (obj : Name → Option O) (t : Name) (f : List Deed → Int → Int → V) (fl : Bool) (a b : Int) => sLII_app (P := fun l => l.length ≤ 60) (f := f) (fl := fl) (obj := obj) (t := t) (l := countL l k) (k := a) (j := b) hlen
  have hans := fun (obj : Name → Option O) (tm : Name) => sAns_in (obj := obj) (tm := tm) (day := day) (thr_len h3 k 0 pe) (thr_kind h3 k 0 pe)
  simp only [hq, if_true]
  repeat refine cl_seq ?_
  refine cl_skip ?_
  repeat refine cl_seq ?_
  refine cl_rs hΓ [8,9] [] fun K' hK => ?_
  simp only [go_sem, hth, hans, off_may h3 h4 (day_pos h5)]
  repeat (refine ⟨ob, ?_⟩)
  refine hK _ ?_ ?_ <;> clear K' hK <;> simp only [go_sem, hth, hans, off_may h3 h4 (day_pos h5)]
  refine cl_ret ?_
  simp only [go_sem]
set_option maxHeartbeats 8000000 in
theorem s49 : PSound Tryz.prog 49 (pLA (fun l a => .tup [vInt (inR l a.pe a.da a.kn), vInt (inE l a.pe a.da a.kn)]) true) := by
  refine psoundB (rs := [.tmp 4, .tmp 5]) Tryz.func49 Tryz.ntmps49 (by rfl) (by kernel_rfl) (by decide) (by rintro _ xs ⟨l, a, rfl⟩; rw [pLA_fn]; rfl) ⟨_, rfl, ?_⟩
  rintro xs ⟨l, ⟨lo, pe, day, k⟩, rfl⟩ hw
  refine ⟨Nat.le_of_ble_eq_true rfl, ?_⟩
  rw [pLA_fn]
  simp only [encA]
  have hΓ := K61_sound
  have hin := fun (obj : Name → Option O) (t : Name) (a b c : Int) => sIn_app (obj := obj) (t := t) (a := a) (b := b) (c := c)
  have hae := evenV_eq l k day
  unfold inR
  repeat refine cl_seq ?_
  refine cl_rs hΓ [0,3] [[3, 0]] fun K' hK => ?_
  simp only [go_sem]
  repeat (refine ⟨ob, ?_⟩)
  refine hK _ ?_ ?_ <;> clear K' hK <;> simp only [go_sem]
  repeat refine cl_seq ?_
  refine cl_rs hΓ [0,3,6] [[3, 0]] fun K' hK => ?_
  simp only [go_sem, sRChk_app]
  repeat (refine ⟨ob, ?_⟩)
  refine hK _ ?_ ?_ <;> clear K' hK <;> simp only [go_sem, sRChk_app]
  repeat refine cl_seq ?_
  refine cl_rs hΓ [0,3,6,12] [[3, 0]] fun K' hK => ?_
  simp only [go_sem]
  repeat (refine ⟨ob, ?_⟩)
  refine hK _ ?_ ?_ <;> clear K' hK <;> simp only [go_sem]
  repeat refine cl_seq ?_
  refine cl_cond rfl rfl (fun hb => ?_) (fun hb => ?_)
  · repeat refine cl_seq ?_
    have hn : ¬ checkI l = 0 := by simpa using hb
    have he : inE l pe day k = checkI l := by unfold inE; rw [if_neg hn]
    rw [he, if_neg hn]
    repeat refine cl_seq ?_
    refine cl_rs hΓ [4,5] [] fun K' hK => ?_
    simp only [go_sem]
    repeat (refine ⟨ob, ?_⟩)
    refine hK _ ?_ ?_ <;> clear K' hK <;> simp only [go_sem]
    refine cl_ret ?_
    simp only [go_sem]
  have hz : checkI l = 0 := by simpa using hb
  repeat refine cl_seq ?_
  refine cl_skip ?_
  repeat refine cl_seq ?_
  refine cl_rs hΓ [0,3,17] [[3, 0]] fun K' hK => ?_
  simp only [go_sem, hin]
  repeat (refine ⟨ob, ?_⟩)
  refine hK _ ?_ ?_ <;> clear K' hK <;> simp only [go_sem, hin]
  repeat refine cl_seq ?_
  refine cl_cond rfl rfl (fun hb => ?_) (fun hb => ?_)
  · repeat refine cl_seq ?_
    have hn : ¬ isPersB pe = true := by unfold isPersB; simpa using hb
    have he : inE l pe day k = 16 := by unfold inE; rw [if_pos hz, if_neg hn]
    rw [he, if_neg (by decide)]
    repeat refine cl_seq ?_
    refine cl_rs hΓ [4,5] [] fun K' hK => ?_
    simp only [go_sem]
    repeat (refine ⟨ob, ?_⟩)
    refine hK _ ?_ ?_ <;> clear K' hK <;> simp only [go_sem]
    refine cl_ret ?_
    simp only [go_sem]
  have hlk : isPersB pe = true := by unfold isPersB; simpa using hb
  have he : inE l pe day k = askE l day k := by unfold inE; rw [if_pos hz, if_pos hlk]
  rw [he]
  repeat refine cl_seq ?_
  refine cl_skip ?_
  repeat refine cl_seq ?_
  refine cl_rs hΓ [3,7,8] [[3, 0]] fun K' hK => ?_
  simp only [go_sem, sL2_app, hae]
  repeat (refine ⟨ob, ?_⟩)
  refine hK _ ?_ ?_ <;> clear K' hK <;> simp only [go_sem, sL2_app, hae]
  repeat refine cl_seq ?_
  refine cl_rs hΓ [3,7,8,29] [[3, 0]] fun K' hK => ?_
  simp only [go_sem]
  repeat (refine ⟨ob, ?_⟩)
  refine hK _ ?_ ?_ <;> clear K' hK <;> simp only [go_sem]
  repeat refine cl_seq ?_
  refine cl_cond rfl rfl (fun hb => ?_) (fun hb => ?_)
  · repeat refine cl_seq ?_
    have hn : ¬ askE l day k = 0 := by simpa using hb
    simp only [if_neg hn]
    repeat refine cl_seq ?_
    refine cl_rs hΓ [4,5] [] fun K' hK => ?_
    simp only [go_sem]
    repeat (refine ⟨ob, ?_⟩)
    refine hK _ ?_ ?_ <;> clear K' hK <;> simp only [go_sem]
    refine cl_ret ?_
    simp only [go_sem]
  have hq : askE l day k = 0 := by simpa using hb
  obtain ⟨h3, h4, h5⟩ := askE_ok hq
  have hlen : (countL l k).length ≤ 60 := by have := countL_len l k; have := h3.2.2; omega
  have hof := fun (obj : Name → Option O) (t : Name) (f : List Deed → Int → Int → V) (fl : Bool) (a b : Int) => sLII_app (P := fun l => l.length ≤ 60) (f := f) (fl := fl) (obj := obj) (t := t) (l := countL l k) (k := a) (j := b) hlen
  simp only [hq, if_true]
  repeat refine cl_seq ?_
  refine cl_skip ?_
  repeat refine cl_seq ?_
  refine cl_rs hΓ [4,5] [] fun K' hK => ?_
  simp only [go_sem, hof]
  repeat (refine ⟨ob, ?_⟩)
  refine hK _ ?_ ?_ <;> clear K' hK <;> simp only [go_sem, hof]
  refine cl_ret ?_
  simp only [go_sem]
end Go.Eng
namespace Go.Eng
open Go Go.Proofs
set_option maxRecDepth 10000
/-! Wardens -/
set_option maxHeartbeats 8000000 in
theorem s50 : PSound Tryz.prog 50 (pLII (fun _ => True) (fun l day k => .tup [.sl ((warR l day k).map vInt), vInt (askE l day k)]) false) := by
  refine psoundB (rs := [.tmp 6, .tmp 7]) Tryz.func50 Tryz.ntmps50 (by rfl) (by kernel_rfl) (by decide) (fun h => by cases h) ⟨_, rfl, ?_⟩
  rintro xs ⟨l, day, k, rfl, _⟩ hw
  refine ⟨Nat.le_of_ble_eq_true rfl, ?_⟩
  rw [pLII_fn]
  have hΓ := K61_sound
  have hP := mixedK
  have hask := fun (obj : Name → Option O) (t : Name) (f : List Deed → Int → Int → V) (fl : Bool) => sLII_app (P := fun _ => True) (f := f) (fl := fl) (obj := obj) (t := t) (l := l) (k := day) (j := k) trivial
  have hae := askV_eq l day k
  unfold warR
  repeat refine cl_seq ?_
  refine cl_rs hΓ [0,1,2] [] fun K' hK => ?_
  simp only [go_sem]
  repeat (refine ⟨ob, ?_⟩)
  refine hK _ ?_ ?_ <;> clear K' hK <;> simp only [go_sem]
  repeat refine cl_seq ?_
  refine cl_rs hΓ [1,8,9] [] fun K' hK => ?_
  simp only [go_sem, hask, hae]
  repeat (refine ⟨ob, ?_⟩)
  refine hK _ ?_ ?_ <;> clear K' hK <;> simp only [go_sem, hask, hae]
  repeat refine cl_seq ?_
  refine cl_rs hΓ [1,8,9,21] [] fun K' hK => ?_
  simp only [go_sem]
  repeat (refine ⟨ob, ?_⟩)
  refine hK _ ?_ ?_ <;> clear K' hK <;> simp only [go_sem]
  repeat refine cl_seq ?_
  refine cl_cond rfl rfl (fun hb => ?_) (fun hb => ?_)
  · repeat refine cl_seq ?_
    have hn : ¬ askE l day k = 0 := by simpa using hb
    simp only [if_neg hn]
    repeat refine cl_seq ?_
    refine cl_rs hΓ [6,7] [] fun K' hK => ?_
    simp only [go_sem]
    repeat (refine ⟨ob, ?_⟩)
    refine hK _ ?_ ?_ <;> clear K' hK <;> simp only [go_sem]
    refine cl_ret ?_
    simp only [go_sem]
  have hq : askE l day k = 0 := by simpa using hb
  obtain ⟨h3, h4, h5⟩ := askE_ok hq
  have hlen : (countL l k).length ≤ 60 := by have := countL_len l k; have := h3.2.2; omega
  have hth := fun (obj : Name → Option O) (t : Name) (f : List Deed → Int → Int → V) (fl : Bool) (a b : Int) => sLII_app (P := fun l => l.length ≤ 60) (f := f) (fl := fl) (obj := obj) (t := t) (l := countL l k) (k := a) (j := b) hlen
  have hans := fun (obj : Name → Option O) (tm : Name) (pe : Int) => sAns_in (obj := obj) (tm := tm) (day := day) (thr_len h3 k 0 pe) (thr_kind h3 k 0 pe)
  have hoff := fun (pe : Int) => off_may (k := k) (pe := pe) h3 h4 (day_pos h5)
  simp only [hq, if_true]
  repeat refine cl_seq ?_
  refine cl_skip ?_
  repeat refine cl_seq ?_
  refine cl_rs hΓ [1,8,10] [] fun K' hK => ?_
  simp only [go_sem]
  repeat (refine ⟨ob, ?_⟩)
  refine hK _ ?_ ?_ <;> clear K' hK <;> simp only [go_sem]
  refine cl_weakM (σ' := mkS 40 [0] (fun _ => none) [(1, ⟨true, .v (vInt day)⟩), (8, ⟨true, .v (.sl ((countL l k).map encD))⟩), (10, ⟨true, .msl [38, 0] 0⟩)] [([38, 0], .arr 1 [])]) (weakM_ghostk 10 [38, 0] 1 (by simp only [go_sem]) (by simp only [go_sem]) [1, 8, 10] [[38, 0]] ?_ ?_) ?_
  · simp only [go_sem]
  · simp only [go_sem]
  repeat refine cl_seq ?_
  refine cl_rs hΓ [1,8,10,11] [[38, 0]] fun K' hK => ?_
  simp only [go_sem]
  repeat (refine ⟨ob, ?_⟩)
  refine hK _ ?_ ?_ <;> clear K' hK <;> simp only [go_sem]
  repeat refine cl_seq ?_
  refine cl_block ?_
  repeat refine cl_seq ?_
  refine cl_loop' (fun s : Nat => [(10, ⟨true, .msl [38, 0] (warTo (countL l k) day s).length⟩), (11, ⟨true, .v (vInt s)⟩)]) (fun s => [([38, 0], .arr 1 ((warTo (countL l k) day s).map vInt))]) (fun s => 1 ≤ s ∧ s ≤ 100) (fun s => 100 - s) 1 ?_ ?_ ?_ ?_
  · exact ⟨Nat.le_refl _, by decide⟩
  · rfl
  · rfl
  rintro i ⟨hi1, hi⟩
  have hwl := warTo_len (countL l k) day i
  simp only [go_sem]
  repeat refine cl_seq ?_
  repeat refine cl_seq ?_
  refine cl_rs hΓ [1,8,10,11,24] [[38, 0]] fun K' hK => ?_
  simp only [go_sem]
  repeat (refine ⟨ob, ?_⟩)
  refine hK _ ?_ ?_ <;> clear K' hK <;> simp only [go_sem]
  repeat refine cl_seq ?_
  refine cl_cond rfl rfl (fun hb => ?_) (fun hb => ?_)
  · have hle : i ≤ 99 := by
      have : (i : Int) ≤ 99 := by simpa using hb
      omega
    have hws : IntKind.i64.wrap ((i : Int) + 1) = ((i + 1 : Nat) : Int) := wrap_succ (n := 100) (by omega) (by unfold maxLen; omega)
    clear hb
    repeat refine cl_seq ?_
    refine cl_skip ?_
    repeat refine cl_seq ?_
    refine cl_block ?_
    repeat refine cl_seq ?_
    repeat refine cl_seq ?_
    refine cl_rs hΓ [1,8,10,11,12] [[38, 0]] fun K' hK => ?_
    simp only [go_sem, hth]
    repeat (refine ⟨ob, ?_⟩)
    refine hK _ ?_ ?_ <;> clear K' hK <;> simp only [go_sem, hth]
    repeat refine cl_seq ?_
    refine cl_rs hΓ [1,8,10,11,34] [[38, 0]] fun K' hK => ?_
    simp only [go_sem, hans, hoff]
    repeat (refine ⟨ob, ?_⟩)
    refine hK _ ?_ ?_ <;> clear K' hK <;> simp only [go_sem, hans, hoff]
    repeat refine cl_seq ?_
    refine cl_cond rfl rfl (fun hb => ?_) (fun hb => ?_)
    · have h1 : offI (countL l k) i day = 1 := by simpa using hb
      repeat refine cl_seq ?_
      refine cl_r hΓ fun K' hK => ?_
      simp only [go_sem, te39, tz3]
      repeat' apply And.intro
      all_goals first | rfl | omega | exact Int.le_refl _ | exact Bool.or_not_self _ | exact Bool.not_or_self _ | exact enc_okI _ | exact enc_ok _ | exact fun x hx => (enc_okI _ x hx).1 | exact fun x hx => (enc_ok _ x hx).1 | (simp only [List.length_take, List.length_append, List.length_map, List.length_drop, List.length_cons, List.length_nil]; done) | (simp only [List.length_take, List.length_append, List.length_map, List.length_drop, List.length_cons, List.length_nil]; omega) | (simp only [List.length_take, List.length_append, List.length_map, List.length_drop, List.length_cons, List.length_nil, maxLen]; omega) | (exact fun _ => by decide) | (exact fun h => ⟨h, by decide⟩) | (simp only [decide_eq_true_eq]; omega) | skip
      refine hK _ ?_
      clear K' hK
      simp only [go_sem]
      refine cl_keep [1,8,10,11] [[38, 0]] ?_ ?_
      · simp only [go_sem]
      simp only [go_sem]
      repeat refine cl_seq ?_
      refine cl_r hΓ fun K' hK => ?_
      simp only [go_sem]
      repeat (refine ⟨ob, ?_⟩)
      refine hK _ ?_
      clear K' hK
      simp only [go_sem]
      refine ⟨i + 1, by omega, by omega, ?_⟩
      rw [warTo_next _ _ hi1, if_pos h1]
      refine weak_eq [1,8,10,11] [[38, 0]] ?_ ?_
      · simp only [go_sem]
      · simp only [go_sem, hws, Int.natCast_add, Int.natCast_one]
        all_goals simp
    · have h1 : ¬ offI (countL l k) i day = 1 := by simpa using hb
      repeat refine cl_seq ?_
      refine cl_skip ?_
      refine cl_nil ?_
      simp only [go_sem]
      refine cl_keep [1,8,10,11] [[38, 0]] ?_ ?_
      · simp only [go_sem]
      simp only [go_sem]
      repeat refine cl_seq ?_
      refine cl_r hΓ fun K' hK => ?_
      simp only [go_sem]
      repeat (refine ⟨ob, ?_⟩)
      refine hK _ ?_
      clear K' hK
      simp only [go_sem]
      refine ⟨i + 1, by omega, by omega, ?_⟩
      rw [warTo_next _ _ hi1, if_neg h1]
      refine weak_eq [1,8,10,11] [[38, 0]] ?_ ?_
      · simp only [go_sem, hws, Int.natCast_add, Int.natCast_one]
      · simp only [go_sem, hws, Int.natCast_add, Int.natCast_one]
  · have hge : i = 100 := by
      have : ¬ (i : Int) ≤ 99 := by simpa using hb
      omega
    subst hge
    clear hb
    repeat refine cl_seq ?_
    refine cl_exit ?_
    simp only [go_sem]
    refine cl_keep [10] [[38, 0]] ?_ ?_
    · simp only [go_sem]
    simp only [go_sem]
    repeat refine cl_seq ?_
    refine cl_rs hΓ [6,7] [[38, 0]] fun K' hK => ?_
    simp only [go_sem]
    repeat (refine ⟨ob, ?_⟩)
    refine hK _ ?_ ?_ <;> clear K' hK <;> simp only [go_sem]
    refine cl_ret ?_
    simp only [go_sem]
set_option maxHeartbeats 8000000 in
theorem s51 : PSound Tryz.prog 51 (pLA (fun l a => .tup [.sl ((warR l a.da a.kn).map vInt), vInt (askE l a.da a.kn)]) false) := by
  refine psoundB (rs := [.tmp 4, .tmp 5]) Tryz.func51 Tryz.ntmps51 (by rfl) (by kernel_rfl) (by decide) (fun h => by cases h) ⟨_, rfl, ?_⟩
  rintro xs ⟨l, ⟨lo, pe, day, k⟩, rfl⟩ hw
  refine ⟨Nat.le_of_ble_eq_true rfl, ?_⟩
  rw [pLA_fn]
  simp only [encA]
  have hΓ := K61_sound
  have hP := mixedK
  have hae := evenV_eq l k day
  unfold warR
  repeat refine cl_seq ?_
  refine cl_rs hΓ [0,3] [[3, 0]] fun K' hK => ?_
  simp only [go_sem]
  repeat (refine ⟨ob, ?_⟩)
  refine hK _ ?_ ?_ <;> clear K' hK <;> simp only [go_sem]
  repeat refine cl_seq ?_
  refine cl_rs hΓ [3,6,7] [[3, 0]] fun K' hK => ?_
  simp only [go_sem, sL2_app, hae]
  repeat (refine ⟨ob, ?_⟩)
  refine hK _ ?_ ?_ <;> clear K' hK <;> simp only [go_sem, sL2_app, hae]
  repeat refine cl_seq ?_
  refine cl_rs hΓ [3,6,7,21] [[3, 0]] fun K' hK => ?_
  simp only [go_sem]
  repeat (refine ⟨ob, ?_⟩)
  refine hK _ ?_ ?_ <;> clear K' hK <;> simp only [go_sem]
  repeat refine cl_seq ?_
  refine cl_cond rfl rfl (fun hb => ?_) (fun hb => ?_)
  · repeat refine cl_seq ?_
    have hn : ¬ askE l day k = 0 := by simpa using hb
    simp only [if_neg hn]
    repeat refine cl_seq ?_
    refine cl_rs hΓ [4,5] [] fun K' hK => ?_
    simp only [go_sem]
    repeat (refine ⟨ob, ?_⟩)
    refine hK _ ?_ ?_ <;> clear K' hK <;> simp only [go_sem]
    refine cl_ret ?_
    simp only [go_sem]
  have hq : askE l day k = 0 := by simpa using hb
  obtain ⟨h3, h4, h5⟩ := askE_ok hq
  have hlen : (countL l k).length ≤ 60 := by have := countL_len l k; have := h3.2.2; omega
  have hof := fun (obj : Name → Option O) (t : Name) (f : List Deed → Int → Int → V) (fl : Bool) (a b : Int) => sLII_app (P := fun l => l.length ≤ 60) (f := f) (fl := fl) (obj := obj) (t := t) (l := countL l k) (k := a) (j := b) hlen
  simp only [hq, if_true]
  repeat refine cl_seq ?_
  refine cl_skip ?_
  repeat refine cl_seq ?_
  refine cl_rs hΓ [3,6,8] [[3, 0]] fun K' hK => ?_
  simp only [go_sem]
  repeat (refine ⟨ob, ?_⟩)
  refine hK _ ?_ ?_ <;> clear K' hK <;> simp only [go_sem]
  refine cl_weakM (σ' := mkS 38 [0] (fun _ => none) [(3, ⟨true, .ref [3, 0] 0⟩), (6, ⟨true, .v (.sl ((countL l k).map encD))⟩), (8, ⟨true, .msl [36, 0] 0⟩)] [([3, 0], .box [.v (vInt lo), .v (vInt pe), .v (vInt day), .v (vInt k)]), ([36, 0], .arr 1 [])]) (weakM_ghostk 8 [36, 0] 1 (by simp only [go_sem]) (by simp only [go_sem]) [3, 6, 8] [[3, 0],[36, 0]] ?_ ?_) ?_
  · simp only [go_sem]
  · simp only [go_sem]
  repeat refine cl_seq ?_
  refine cl_rs hΓ [3,6,8,9] [[3, 0],[36, 0]] fun K' hK => ?_
  simp only [go_sem]
  repeat (refine ⟨ob, ?_⟩)
  refine hK _ ?_ ?_ <;> clear K' hK <;> simp only [go_sem]
  repeat refine cl_seq ?_
  refine cl_block ?_
  repeat refine cl_seq ?_
  refine cl_loop' (fun s : Nat => [(8, ⟨true, .msl [36, 0] (warTo (countL l k) day s).length⟩), (9, ⟨true, .v (vInt s)⟩)]) (fun s => [([36, 0], .arr 1 ((warTo (countL l k) day s).map vInt))]) (fun s => 1 ≤ s ∧ s ≤ 100) (fun s => 100 - s) 1 ?_ ?_ ?_ ?_
  · exact ⟨Nat.le_refl _, by decide⟩
  · rfl
  · rfl
  rintro i ⟨hi1, hi⟩
  have hwl := warTo_len (countL l k) day i
  simp only [go_sem]
  repeat refine cl_seq ?_
  repeat refine cl_seq ?_
  refine cl_rs hΓ [3,6,8,9,24] [[3, 0],[36, 0]] fun K' hK => ?_
  simp only [go_sem]
  repeat (refine ⟨ob, ?_⟩)
  refine hK _ ?_ ?_ <;> clear K' hK <;> simp only [go_sem]
  repeat refine cl_seq ?_
  refine cl_cond rfl rfl (fun hb => ?_) (fun hb => ?_)
  · have hle : i ≤ 99 := by
      have : (i : Int) ≤ 99 := by simpa using hb
      omega
    have hws : IntKind.i64.wrap ((i : Int) + 1) = ((i + 1 : Nat) : Int) := wrap_succ (n := 100) (by omega) (by unfold maxLen; omega)
    clear hb
    repeat refine cl_seq ?_
    refine cl_skip ?_
    repeat refine cl_seq ?_
    refine cl_block ?_
    repeat refine cl_seq ?_
    repeat refine cl_seq ?_
    refine cl_rs hΓ [3,6,8,9,32] [[3, 0],[36, 0]] fun K' hK => ?_
    simp only [go_sem, hof]
    repeat (refine ⟨ob, ?_⟩)
    refine hK _ ?_ ?_ <;> clear K' hK <;> simp only [go_sem, hof]
    repeat refine cl_seq ?_
    refine cl_cond rfl rfl (fun hb => ?_) (fun hb => ?_)
    · have h1 : offI (countL l k) i day = 1 := by simpa using hb
      repeat refine cl_seq ?_
      refine cl_r hΓ fun K' hK => ?_
      simp only [go_sem, te39, tz3]
      repeat' apply And.intro
      all_goals first | rfl | omega | exact Int.le_refl _ | exact Bool.or_not_self _ | exact Bool.not_or_self _ | exact enc_okI _ | exact enc_ok _ | exact fun x hx => (enc_okI _ x hx).1 | exact fun x hx => (enc_ok _ x hx).1 | (simp only [List.length_take, List.length_append, List.length_map, List.length_drop, List.length_cons, List.length_nil]; done) | (simp only [List.length_take, List.length_append, List.length_map, List.length_drop, List.length_cons, List.length_nil]; omega) | (simp only [List.length_take, List.length_append, List.length_map, List.length_drop, List.length_cons, List.length_nil, maxLen]; omega) | (exact fun _ => by decide) | (exact fun h => ⟨h, by decide⟩) | (simp only [decide_eq_true_eq]; omega) | skip
      refine hK _ ?_
      clear K' hK
      simp only [go_sem]
      refine cl_keep [3,6,8,9] [[3, 0],[36, 0]] ?_ ?_
      · simp only [go_sem]
      simp only [go_sem]
      repeat refine cl_seq ?_
      refine cl_r hΓ fun K' hK => ?_
      simp only [go_sem]
      repeat (refine ⟨ob, ?_⟩)
      refine hK _ ?_
      clear K' hK
      simp only [go_sem]
      refine ⟨i + 1, by omega, by omega, ?_⟩
      rw [warTo_next _ _ hi1, if_pos h1]
      refine weak_eq [3,6,8,9] [[3, 0],[36, 0]] ?_ ?_
      · simp only [go_sem]
      · simp only [go_sem, hws, Int.natCast_add, Int.natCast_one]
        all_goals simp
    · have h1 : ¬ offI (countL l k) i day = 1 := by simpa using hb
      repeat refine cl_seq ?_
      refine cl_skip ?_
      refine cl_nil ?_
      simp only [go_sem]
      refine cl_keep [3,6,8,9] [[3, 0],[36, 0]] ?_ ?_
      · simp only [go_sem]
      simp only [go_sem]
      repeat refine cl_seq ?_
      refine cl_r hΓ fun K' hK => ?_
      simp only [go_sem]
      repeat (refine ⟨ob, ?_⟩)
      refine hK _ ?_
      clear K' hK
      simp only [go_sem]
      refine ⟨i + 1, by omega, by omega, ?_⟩
      rw [warTo_next _ _ hi1, if_neg h1]
      refine weak_eq [3,6,8,9] [[3, 0],[36, 0]] ?_ ?_
      · simp only [go_sem, hws, Int.natCast_add, Int.natCast_one]
      · simp only [go_sem, hws, Int.natCast_add, Int.natCast_one]
  · have hge : i = 100 := by
      have : ¬ (i : Int) ≤ 99 := by simpa using hb
      omega
    subst hge
    clear hb
    repeat refine cl_seq ?_
    refine cl_exit ?_
    simp only [go_sem]
    refine cl_keep [8] [[36, 0]] ?_ ?_
    · simp only [go_sem]
    simp only [go_sem]
    repeat refine cl_seq ?_
    refine cl_rs hΓ [4,5] [[36, 0]] fun K' hK => ?_
    simp only [go_sem]
    repeat (refine ⟨ob, ?_⟩)
    refine hK _ ?_ ?_ <;> clear K' hK <;> simp only [go_sem]
    refine cl_ret ?_
    simp only [go_sem]
end Go.Eng
namespace Go.Eng
open Go Go.Proofs
set_option maxRecDepth 10000
/-! Holders, Hands, Holds, Has -/
noncomputable def sLock : Spec := (pLock lockV).toSpec
theorem sLock_nil {obj : Name → Option O} {t : Name} {l : List Deed} {a b c : Int} : sLock.app obj t [.v (.sl (l.map encD)), .v (vInt a), .v (vInt b), .v (vInt c), .nilsl] = ⟨True, .v (lockV l a b c []), obj⟩ := by
  have e := pLock_fn lockV l a b c []
  simp only [List.map_nil] at e
  simp only [sLock, PSpec.toSpec, frzL, frz, e]
  simp only [pLock, Bool.false_eq_true, if_false]
  congr 1
  simp only [eq_iff_iff, iff_true]
  exact ⟨⟨trivial, trivial, trivial, trivial, trivial, trivial⟩, l, a, b, c, [], rfl⟩
theorem sLock_one {obj : Name → Option O} {t : Name} {l : List Deed} {a b c p : Int} : sLock.app obj t [.v (.sl (l.map encD)), .v (vInt a), .v (vInt b), .v (vInt c), .v (.sl [vInt p])] = ⟨True, .v (lockV l a b c [p]), obj⟩ := by
  have e := pLock_fn lockV l a b c [p]
  simp only [List.map_cons, List.map_nil] at e
  simp only [sLock, PSpec.toSpec, frzL, frz, e]
  simp only [pLock, Bool.false_eq_true, if_false]
  congr 1
  simp only [eq_iff_iff, iff_true]
  exact ⟨⟨trivial, trivial, trivial, trivial, trivial, trivial⟩, l, a, b, c, [p], rfl⟩
noncomputable def K63 : FuncId → Option Spec := fun f => match f with
  | 90 => some sLock
  | 91 => some sWho
  | 105 => some sAns
  | _ => none
theorem K63_sound : ∀ f s, K63 f = some s → SSound Tryz.prog f s := by
  intro f s h
  unfold K63 at h
  split at h
  · cases h; exact s90.sound
  · cases h; exact s91.sound
  · cases h; exact s105.sound
  · cases h
@[go_sem] theorem K63_90 : K63 90 = some sLock := rfl
@[go_sem] theorem K63_91 : K63 91 = some sWho := rfl
@[go_sem] theorem K63_105 : K63 105 = some sAns := rfl
def pLI4 (f : List Deed → Int → Int → Int → Int → V) (fl : Bool) : PSpec := ⟨fun xs => ∃ (l : List Deed) (a b c d : Int), xs = [.sl (l.map encD), vInt a, vInt b, vInt c, vInt d], fun xs => match xs with | [.sl l, .int _ a, .int _ b, .int _ c, .int _ d] => f (l.map decD) a b c d | _ => .bool false, fl⟩
theorem pLI4_fn (f : List Deed → Int → Int → Int → Int → V) (fl : Bool) (l : List Deed) (a b c d : Int) : (pLI4 f fl).fn [.sl (l.map encD), vInt a, vInt b, vInt c, vInt d] = f l a b c d := by
  simp only [pLI4, decD_map]
set_option maxHeartbeats 8000000 in
theorem s31 : PSound Tryz.prog 31 (pLI3 (fun l lock day k => .tup [.sl ((whoR (·.h) l lock day k).map vInt), vInt (lockE l lock day k [])]) false) := by
  refine psoundB (rs := [.tmp 8, .tmp 9]) Tryz.func31 Tryz.ntmps31 (by rfl) (by kernel_rfl) (by decide) (fun h => by cases h) ⟨_, rfl, ?_⟩
  rintro xs ⟨l, lock, day, k, rfl⟩ hw
  refine ⟨Nat.le_of_ble_eq_true rfl, ?_⟩
  rw [pLI3_fn]
  have hΓ := K63_sound
  have hle := lockV_eq l lock day k []
  unfold whoR
  repeat refine cl_seq ?_
  refine cl_rs hΓ [0,1,2,3] [] fun K' hK => ?_
  simp only [go_sem]
  repeat (refine ⟨ob, ?_⟩)
  refine hK _ ?_ ?_ <;> clear K' hK <;> simp only [go_sem]
  repeat refine cl_seq ?_
  refine cl_rs hΓ [2,10,11] [] fun K' hK => ?_
  simp only [go_sem, sLock_nil, hle]
  repeat (refine ⟨ob, ?_⟩)
  refine hK _ ?_ ?_ <;> clear K' hK <;> simp only [go_sem, sLock_nil, hle]
  repeat refine cl_seq ?_
  refine cl_rs hΓ [2,10,11,21] [] fun K' hK => ?_
  simp only [go_sem]
  repeat (refine ⟨ob, ?_⟩)
  refine hK _ ?_ ?_ <;> clear K' hK <;> simp only [go_sem]
  repeat refine cl_seq ?_
  refine cl_cond rfl rfl (fun hb => ?_) (fun hb => ?_)
  · repeat refine cl_seq ?_
    have hn : ¬ lockE l lock day k [] = 0 := by simpa using hb
    simp only [if_neg hn]
    repeat refine cl_seq ?_
    refine cl_rs hΓ [8,9] [] fun K' hK => ?_
    simp only [go_sem]
    repeat (refine ⟨ob, ?_⟩)
    refine hK _ ?_ ?_ <;> clear K' hK <;> simp only [go_sem]
    refine cl_ret ?_
    simp only [go_sem]
  have hq : lockE l lock day k [] = 0 := by simpa using hb
  obtain ⟨hq1, hq2⟩ := lockE_ok hq
  have h3 := (askE_ok hq1).1
  have hwho := fun (obj : Name → Option O) (tm : Name) => sWho_app (obj := obj) (tm := tm) (day := day) (g := 92) (by decide) (thr_len h3 k lock 0) (thr_kind h3 k lock 0)
  have hf : fW 92 = fun s => s.h := rfl
  rw [hf] at hwho
  simp only [hq, if_true]
  repeat refine cl_seq ?_
  refine cl_skip ?_
  repeat refine cl_seq ?_
  refine cl_rs hΓ [8,9] [] fun K' hK => ?_
  simp only [go_sem, hwho]
  repeat (refine ⟨ob, ?_⟩)
  refine hK _ ?_ ?_ <;> clear K' hK <;> simp only [go_sem, hwho]
  refine cl_ret ?_
  simp only [go_sem]
set_option maxHeartbeats 8000000 in
theorem s32 : PSound Tryz.prog 32 (pLI3 (fun l lock day k => .tup [.sl ((whoR (·.n) l lock day k).map vInt), vInt (lockE l lock day k [])]) false) := by
  refine psoundB (rs := [.tmp 8, .tmp 9]) Tryz.func32 Tryz.ntmps32 (by rfl) (by kernel_rfl) (by decide) (fun h => by cases h) ⟨_, rfl, ?_⟩
  rintro xs ⟨l, lock, day, k, rfl⟩ hw
  refine ⟨Nat.le_of_ble_eq_true rfl, ?_⟩
  rw [pLI3_fn]
  have hΓ := K63_sound
  have hle := lockV_eq l lock day k []
  unfold whoR
  repeat refine cl_seq ?_
  refine cl_rs hΓ [0,1,2,3] [] fun K' hK => ?_
  simp only [go_sem]
  repeat (refine ⟨ob, ?_⟩)
  refine hK _ ?_ ?_ <;> clear K' hK <;> simp only [go_sem]
  repeat refine cl_seq ?_
  refine cl_rs hΓ [2,10,11] [] fun K' hK => ?_
  simp only [go_sem, sLock_nil, hle]
  repeat (refine ⟨ob, ?_⟩)
  refine hK _ ?_ ?_ <;> clear K' hK <;> simp only [go_sem, sLock_nil, hle]
  repeat refine cl_seq ?_
  refine cl_rs hΓ [2,10,11,21] [] fun K' hK => ?_
  simp only [go_sem]
  repeat (refine ⟨ob, ?_⟩)
  refine hK _ ?_ ?_ <;> clear K' hK <;> simp only [go_sem]
  repeat refine cl_seq ?_
  refine cl_cond rfl rfl (fun hb => ?_) (fun hb => ?_)
  · repeat refine cl_seq ?_
    have hn : ¬ lockE l lock day k [] = 0 := by simpa using hb
    simp only [if_neg hn]
    repeat refine cl_seq ?_
    refine cl_rs hΓ [8,9] [] fun K' hK => ?_
    simp only [go_sem]
    repeat (refine ⟨ob, ?_⟩)
    refine hK _ ?_ ?_ <;> clear K' hK <;> simp only [go_sem]
    refine cl_ret ?_
    simp only [go_sem]
  have hq : lockE l lock day k [] = 0 := by simpa using hb
  obtain ⟨hq1, hq2⟩ := lockE_ok hq
  have h3 := (askE_ok hq1).1
  have hwho := fun (obj : Name → Option O) (tm : Name) => sWho_app (obj := obj) (tm := tm) (day := day) (g := 93) (by decide) (thr_len h3 k lock 0) (thr_kind h3 k lock 0)
  have hf : fW 93 = fun s => s.n := rfl
  rw [hf] at hwho
  simp only [hq, if_true]
  repeat refine cl_seq ?_
  refine cl_skip ?_
  repeat refine cl_seq ?_
  refine cl_rs hΓ [8,9] [] fun K' hK => ?_
  simp only [go_sem, hwho]
  repeat (refine ⟨ob, ?_⟩)
  refine hK _ ?_ ?_ <;> clear K' hK <;> simp only [go_sem, hwho]
  refine cl_ret ?_
  simp only [go_sem]
set_option maxHeartbeats 8000000 in
theorem s44 : PSound Tryz.prog 44 (pLI4 (fun l lock pe day k => .tup [vInt (ansR (fun s => s.h == pe) l lock pe day k), vInt (lockE l lock day k [pe])]) true) := by
  refine psoundB (rs := [.tmp 10, .tmp 11]) Tryz.func44 Tryz.ntmps44 (by rfl) (by kernel_rfl) (by decide) (by rintro _ xs ⟨l, a, b, c, d, rfl⟩; rw [pLI4_fn]; rfl) ⟨_, rfl, ?_⟩
  rintro xs ⟨l, lock, pe, day, k, rfl⟩ hw
  refine ⟨Nat.le_of_ble_eq_true rfl, ?_⟩
  rw [pLI4_fn]
  have hΓ := K63_sound
  have hle := lockV_eq l lock day k [pe]
  unfold ansR
  repeat refine cl_seq ?_
  refine cl_rs hΓ [0,1,3,4,7] [[7, 0]] fun K' hK => ?_
  simp only [go_sem]
  repeat (refine ⟨ob, ?_⟩)
  refine hK _ ?_ ?_ <;> clear K' hK <;> simp only [go_sem]
  repeat refine cl_seq ?_
  refine cl_rs hΓ [3,7,12,13] [[7, 0]] fun K' hK => ?_
  simp only [go_sem, sLock_one, hle]
  repeat (refine ⟨ob, ?_⟩)
  refine hK _ ?_ ?_ <;> clear K' hK <;> simp only [go_sem, sLock_one, hle]
  repeat refine cl_seq ?_
  refine cl_rs hΓ [3,7,12,13,25] [[7, 0]] fun K' hK => ?_
  simp only [go_sem]
  repeat (refine ⟨ob, ?_⟩)
  refine hK _ ?_ ?_ <;> clear K' hK <;> simp only [go_sem]
  repeat refine cl_seq ?_
  refine cl_cond rfl rfl (fun hb => ?_) (fun hb => ?_)
  · repeat refine cl_seq ?_
    have hn : ¬ lockE l lock day k [pe] = 0 := by simpa using hb
    simp only [if_neg hn]
    repeat refine cl_seq ?_
    refine cl_rs hΓ [10,11] [] fun K' hK => ?_
    simp only [go_sem]
    repeat (refine ⟨ob, ?_⟩)
    refine hK _ ?_ ?_ <;> clear K' hK <;> simp only [go_sem]
    refine cl_ret ?_
    simp only [go_sem]
  have hq : lockE l lock day k [pe] = 0 := by simpa using hb
  obtain ⟨hq1, hq2⟩ := lockE_ok hq
  have h3 := (askE_ok hq1).1
  have hans := fun (obj : Name → Option O) (tm : Name) (b : Name) (ho : obj b = some (.box [.v (vInt pe)])) => sAns_by (obj := obj) (tm := tm) (b := b) (day := day) (k := pe) (g := 106) (by decide) ho (thr_len h3 k lock 0) (thr_kind h3 k lock 0)
  have hf : (if 106 = 106 then fun (s : Sta) => s.h == pe else fun s => s.n == pe) = fun s => s.h == pe := rfl
  rw [hf] at hans
  simp only [hq, if_true]
  repeat refine cl_seq ?_
  refine cl_skip ?_
  repeat refine cl_seq ?_
  refine cl_rs hΓ [10,11] [] fun K' hK => ?_
  simp only [go_sem, hans]
  repeat (refine ⟨ob, ?_⟩)
  refine hK _ ?_ ?_ <;> clear K' hK <;> simp only [go_sem, hans]
  refine cl_ret ?_
  simp only [go_sem]
set_option maxHeartbeats 8000000 in
theorem s46 : PSound Tryz.prog 46 (pLI4 (fun l lock pe day k => .tup [vInt (ansR (fun s => s.n == pe) l lock pe day k), vInt (lockE l lock day k [pe])]) true) := by
  refine psoundB (rs := [.tmp 10, .tmp 11]) Tryz.func46 Tryz.ntmps46 (by rfl) (by kernel_rfl) (by decide) (by rintro _ xs ⟨l, a, b, c, d, rfl⟩; rw [pLI4_fn]; rfl) ⟨_, rfl, ?_⟩
  rintro xs ⟨l, lock, pe, day, k, rfl⟩ hw
  refine ⟨Nat.le_of_ble_eq_true rfl, ?_⟩
  rw [pLI4_fn]
  have hΓ := K63_sound
  have hle := lockV_eq l lock day k [pe]
  unfold ansR
  repeat refine cl_seq ?_
  refine cl_rs hΓ [0,1,3,4,7] [[7, 0]] fun K' hK => ?_
  simp only [go_sem]
  repeat (refine ⟨ob, ?_⟩)
  refine hK _ ?_ ?_ <;> clear K' hK <;> simp only [go_sem]
  repeat refine cl_seq ?_
  refine cl_rs hΓ [3,7,12,13] [[7, 0]] fun K' hK => ?_
  simp only [go_sem, sLock_one, hle]
  repeat (refine ⟨ob, ?_⟩)
  refine hK _ ?_ ?_ <;> clear K' hK <;> simp only [go_sem, sLock_one, hle]
  repeat refine cl_seq ?_
  refine cl_rs hΓ [3,7,12,13,25] [[7, 0]] fun K' hK => ?_
  simp only [go_sem]
  repeat (refine ⟨ob, ?_⟩)
  refine hK _ ?_ ?_ <;> clear K' hK <;> simp only [go_sem]
  repeat refine cl_seq ?_
  refine cl_cond rfl rfl (fun hb => ?_) (fun hb => ?_)
  · repeat refine cl_seq ?_
    have hn : ¬ lockE l lock day k [pe] = 0 := by simpa using hb
    simp only [if_neg hn]
    repeat refine cl_seq ?_
    refine cl_rs hΓ [10,11] [] fun K' hK => ?_
    simp only [go_sem]
    repeat (refine ⟨ob, ?_⟩)
    refine hK _ ?_ ?_ <;> clear K' hK <;> simp only [go_sem]
    refine cl_ret ?_
    simp only [go_sem]
  have hq : lockE l lock day k [pe] = 0 := by simpa using hb
  obtain ⟨hq1, hq2⟩ := lockE_ok hq
  have h3 := (askE_ok hq1).1
  have hans := fun (obj : Name → Option O) (tm : Name) (b : Name) (ho : obj b = some (.box [.v (vInt pe)])) => sAns_by (obj := obj) (tm := tm) (b := b) (day := day) (k := pe) (g := 108) (by decide) ho (thr_len h3 k lock 0) (thr_kind h3 k lock 0)
  have hf : (if 108 = 106 then fun (s : Sta) => s.h == pe else fun s => s.n == pe) = fun s => s.n == pe := rfl
  rw [hf] at hans
  simp only [hq, if_true]
  repeat refine cl_seq ?_
  refine cl_skip ?_
  repeat refine cl_seq ?_
  refine cl_rs hΓ [10,11] [] fun K' hK => ?_
  simp only [go_sem, hans]
  repeat (refine ⟨ob, ?_⟩)
  refine hK _ ?_ ?_ <;> clear K' hK <;> simp only [go_sem, hans]
  refine cl_ret ?_
  simp only [go_sem]
end Go.Eng
namespace Go.Eng
open Go Go.Proofs

noncomputable def sSameI : Spec := pSameI.toSpec
theorem sSameI_app {obj : Name → Option O} {t : Name} {l k : List Int} : sSameI.app obj t [.v (.sl (l.map vInt)), .v (.sl (k.map vInt))] = ⟨True, .v (.bool (decide (l = k))), obj⟩ := by
  simp only [sSameI, PSpec.toSpec, frzL, frz, pSameI_fn]
  congr 1
  simp only [eq_iff_iff, iff_true]
  exact ⟨⟨trivial, trivial, trivial⟩, l, k, rfl⟩
end Go.Eng
namespace Go.Eng
open Go Go.Proofs
set_option maxRecDepth 10000
/-! the law: Holders, Hands, Holds, Has, InOffice, Wardens -/
noncomputable def sLI3 (f : List Deed → Int → Int → Int → V) (fl : Bool) : Spec := (pLI3 f fl).toSpec
theorem sLI3_app {f : List Deed → Int → Int → Int → V} {fl : Bool} {obj : Name → Option O} {t : Name} {l : List Deed} {a b c : Int} : (sLI3 f fl).app obj t [.v (.sl (l.map encD)), .v (vInt a), .v (vInt b), .v (vInt c)] = ⟨True, .v (f l a b c), obj⟩ := by
  simp only [sLI3, PSpec.toSpec, frzL, frz, pLI3_fn, ite_self]
  congr 1
  simp only [eq_iff_iff, iff_true]
  exact ⟨⟨trivial, trivial, trivial, trivial, trivial⟩, l, a, b, c, rfl⟩
noncomputable def sLI4 (f : List Deed → Int → Int → Int → Int → V) (fl : Bool) : Spec := (pLI4 f fl).toSpec
theorem sLI4_app {f : List Deed → Int → Int → Int → Int → V} {fl : Bool} {obj : Name → Option O} {t : Name} {l : List Deed} {a b c d : Int} : (sLI4 f fl).app obj t [.v (.sl (l.map encD)), .v (vInt a), .v (vInt b), .v (vInt c), .v (vInt d)] = ⟨True, .v (f l a b c d), obj⟩ := by
  simp only [sLI4, PSpec.toSpec, frzL, frz, pLI4_fn, ite_self]
  congr 1
  simp only [eq_iff_iff, iff_true]
  exact ⟨⟨trivial, trivial, trivial, trivial, trivial, trivial⟩, l, a, b, c, d, rfl⟩
noncomputable def sLA (f : List Deed → Aska → V) (fl : Bool) : Spec := (pLA f fl).toSpec
theorem sLA_app {f : List Deed → Aska → V} {fl : Bool} {obj : Name → Option O} {t : Name} {l : List Deed} {a b c d : Int} : (sLA f fl).app obj t [.v (.sl (l.map encD)), .agg [.v (vInt a), .v (vInt b), .v (vInt c), .v (vInt d)]] = ⟨True, .v (f l ⟨a, b, c, d⟩), obj⟩ := by
  have e : frzL (frz 6) obj [.v (.sl (l.map encD)), .agg [.v (vInt a), .v (vInt b), .v (vInt c), .v (vInt d)]] = ⟨True, [.sl (l.map encD), encA ⟨a, b, c, d⟩], obj⟩ := by
    simp [frzL, frz, D.one, V.one, encA]
  simp only [sLA, PSpec.toSpec, e, pLA_fn, ite_self]
  congr 1
  simp only [eq_iff_iff, iff_true]
  exact ⟨trivial, l, _, rfl⟩
noncomputable def K64 : FuncId → Option Spec := fun f => match f with
  | 31 => some (sLI3 (fun l lock day k => .tup [.sl ((whoR (·.h) l lock day k).map vInt), vInt (lockE l lock day k [])]) false)
  | 32 => some (sLI3 (fun l lock day k => .tup [.sl ((whoR (·.n) l lock day k).map vInt), vInt (lockE l lock day k [])]) false)
  | 42 => some (sLA (fun l a => .tup [.sl ((whoR (·.h) l a.lo a.da a.kn).map vInt), vInt (lockE l a.lo a.da a.kn [])]) false)
  | 43 => some (sLA (fun l a => .tup [.sl ((whoR (·.n) l a.lo a.da a.kn).map vInt), vInt (lockE l a.lo a.da a.kn [])]) false)
  | 44 => some (sLI4 (fun l lock pe day k => .tup [vInt (ansR (fun s => s.h == pe) l lock pe day k), vInt (lockE l lock day k [pe])]) true)
  | 45 => some (sLA (fun l a => .tup [vInt (ansR (fun s => s.h == a.pe) l a.lo a.pe a.da a.kn), vInt (lockE l a.lo a.da a.kn [a.pe])]) true)
  | 46 => some (sLI4 (fun l lock pe day k => .tup [vInt (ansR (fun s => s.n == pe) l lock pe day k), vInt (lockE l lock day k [pe])]) true)
  | 47 => some (sLA (fun l a => .tup [vInt (ansR (fun s => s.n == a.pe) l a.lo a.pe a.da a.kn), vInt (lockE l a.lo a.da a.kn [a.pe])]) true)
  | 48 => some (sLI3 (fun l pe day k => .tup [vInt (inR l pe day k), vInt (inE l pe day k)]) true)
  | 49 => some (sLA (fun l a => .tup [vInt (inR l a.pe a.da a.kn), vInt (inE l a.pe a.da a.kn)]) true)
  | 50 => some (sLII (fun _ => True) (fun l day k => .tup [.sl ((warR l day k).map vInt), vInt (askE l day k)]) false)
  | 51 => some (sLA (fun l a => .tup [.sl ((warR l a.da a.kn).map vInt), vInt (askE l a.da a.kn)]) false)
  | 24 => some (sSameI)
  | 17 => some ((⟨fun xs => xs = [], fun _ => .bool true, true⟩ : PSpec).toSpec)
  | _ => none
theorem K64_sound : ∀ f s, K64 f = some s → SSound Tryz.prog f s := by
  intro f s h
  unfold K64 at h
  split at h
  · cases h; exact s31.sound
  · cases h; exact s32.sound
  · cases h; exact s42.sound
  · cases h; exact s43.sound
  · cases h; exact s44.sound
  · cases h; exact s45.sound
  · cases h; exact s46.sound
  · cases h; exact s47.sound
  · cases h; exact s48.sound
  · cases h; exact s49.sound
  · cases h; exact s50.sound
  · cases h; exact s51.sound
  · cases h; exact s24.sound
  · cases h; exact s17.sound
  · cases h
@[go_sem] theorem K64_31 : K64 31 = some (sLI3 (fun l lock day k => .tup [.sl ((whoR (·.h) l lock day k).map vInt), vInt (lockE l lock day k [])]) false) := rfl
@[go_sem] theorem K64_32 : K64 32 = some (sLI3 (fun l lock day k => .tup [.sl ((whoR (·.n) l lock day k).map vInt), vInt (lockE l lock day k [])]) false) := rfl
@[go_sem] theorem K64_42 : K64 42 = some (sLA (fun l a => .tup [.sl ((whoR (·.h) l a.lo a.da a.kn).map vInt), vInt (lockE l a.lo a.da a.kn [])]) false) := rfl
@[go_sem] theorem K64_43 : K64 43 = some (sLA (fun l a => .tup [.sl ((whoR (·.n) l a.lo a.da a.kn).map vInt), vInt (lockE l a.lo a.da a.kn [])]) false) := rfl
@[go_sem] theorem K64_44 : K64 44 = some (sLI4 (fun l lock pe day k => .tup [vInt (ansR (fun s => s.h == pe) l lock pe day k), vInt (lockE l lock day k [pe])]) true) := rfl
@[go_sem] theorem K64_45 : K64 45 = some (sLA (fun l a => .tup [vInt (ansR (fun s => s.h == a.pe) l a.lo a.pe a.da a.kn), vInt (lockE l a.lo a.da a.kn [a.pe])]) true) := rfl
@[go_sem] theorem K64_46 : K64 46 = some (sLI4 (fun l lock pe day k => .tup [vInt (ansR (fun s => s.n == pe) l lock pe day k), vInt (lockE l lock day k [pe])]) true) := rfl
@[go_sem] theorem K64_47 : K64 47 = some (sLA (fun l a => .tup [vInt (ansR (fun s => s.n == a.pe) l a.lo a.pe a.da a.kn), vInt (lockE l a.lo a.da a.kn [a.pe])]) true) := rfl
@[go_sem] theorem K64_48 : K64 48 = some (sLI3 (fun l pe day k => .tup [vInt (inR l pe day k), vInt (inE l pe day k)]) true) := rfl
@[go_sem] theorem K64_49 : K64 49 = some (sLA (fun l a => .tup [vInt (inR l a.pe a.da a.kn), vInt (inE l a.pe a.da a.kn)]) true) := rfl
@[go_sem] theorem K64_50 : K64 50 = some (sLII (fun _ => True) (fun l day k => .tup [.sl ((warR l day k).map vInt), vInt (askE l day k)]) false) := rfl
@[go_sem] theorem K64_51 : K64 51 = some (sLA (fun l a => .tup [.sl ((warR l a.da a.kn).map vInt), vInt (askE l a.da a.kn)]) false) := rfl
@[go_sem] theorem K64_24 : K64 24 = some (sSameI) := rfl
@[go_sem] theorem K64_17 : K64 17 = some ((⟨fun xs => xs = [], fun _ => .bool true, true⟩ : PSpec).toSpec) := rfl
set_option maxHeartbeats 8000000 in
theorem w9 (l : List Deed) (lo pe da kn : Int) :
    ∃ c, Tryz.f9.body = some c ∧ CL Tryz.prog [c] (mkS 194 [0] (fun _ => none) (argsL 0 [.sl (l.map encD), encA ⟨lo, pe, da, kn⟩]) []) (retK Tryz.prog [.tmp 4] (.bool true)) := by
  refine ⟨_, rfl, ?_⟩
  have hΓ := K64_sound
  have hll := fun (obj : Name → Option O) (t : Name) (f : List Deed → Int → Int → V) (fl : Bool) (a b : Int) => sLII_app (P := fun _ => True) (f := f) (fl := fl) (obj := obj) (t := t) (l := l) (k := a) (j := b) trivial
  unfold encA
  repeat refine cl_seq ?_
  refine cl_rs hΓ [0,3] [[3, 0]] fun K' hK => ?_
  simp only [go_sem]
  repeat (refine ⟨ob, ?_⟩)
  refine hK _ ?_ ?_ <;> clear K' hK <;> simp only [go_sem]
  repeat refine cl_seq ?_
  refine cl_rs hΓ [0,3,5,6] [[3, 0]] fun K' hK => ?_
  simp only [go_sem, sLI3_app, sLI4_app, sLA_app, hll]
  repeat (refine ⟨ob, ?_⟩)
  refine hK _ ?_ ?_ <;> clear K' hK <;> simp only [go_sem, sLI3_app, sLI4_app, sLA_app, hll]
  repeat refine cl_seq ?_
  refine cl_rs hΓ [0,3,5,6,7,8] [[3, 0]] fun K' hK => ?_
  simp only [go_sem, sLI3_app, sLI4_app, sLA_app, hll]
  repeat (refine ⟨ob, ?_⟩)
  refine hK _ ?_ ?_ <;> clear K' hK <;> simp only [go_sem, sLI3_app, sLI4_app, sLA_app, hll]
  repeat refine cl_seq ?_
  refine cl_rs hΓ [0,3,5,6,7,8,9,10] [[3, 0]] fun K' hK => ?_
  simp only [go_sem, sLI3_app, sLI4_app, sLA_app, hll]
  repeat (refine ⟨ob, ?_⟩)
  refine hK _ ?_ ?_ <;> clear K' hK <;> simp only [go_sem, sLI3_app, sLI4_app, sLA_app, hll]
  repeat refine cl_seq ?_
  refine cl_rs hΓ [0,3,5,6,7,8,9,10,11,12] [[3, 0]] fun K' hK => ?_
  simp only [go_sem, sLI3_app, sLI4_app, sLA_app, hll]
  repeat (refine ⟨ob, ?_⟩)
  refine hK _ ?_ ?_ <;> clear K' hK <;> simp only [go_sem, sLI3_app, sLI4_app, sLA_app, hll]
  repeat refine cl_seq ?_
  refine cl_rs hΓ [0,3,5,6,7,8,9,10,11,12,13,14] [[3, 0]] fun K' hK => ?_
  simp only [go_sem, sLI3_app, sLI4_app, sLA_app, hll]
  repeat (refine ⟨ob, ?_⟩)
  refine hK _ ?_ ?_ <;> clear K' hK <;> simp only [go_sem, sLI3_app, sLI4_app, sLA_app, hll]
  repeat refine cl_seq ?_
  refine cl_rs hΓ [0,3,5,6,7,8,9,10,11,12,13,14,15,16] [[3, 0]] fun K' hK => ?_
  simp only [go_sem, sLI3_app, sLI4_app, sLA_app, hll]
  repeat (refine ⟨ob, ?_⟩)
  refine hK _ ?_ ?_ <;> clear K' hK <;> simp only [go_sem, sLI3_app, sLI4_app, sLA_app, hll]
  repeat refine cl_seq ?_
  refine cl_rs hΓ [0,3,5,6,7,8,9,10,11,12,13,14,15,16,17,18] [[3, 0]] fun K' hK => ?_
  simp only [go_sem, sLI3_app, sLI4_app, sLA_app, hll]
  repeat (refine ⟨ob, ?_⟩)
  refine hK _ ?_ ?_ <;> clear K' hK <;> simp only [go_sem, sLI3_app, sLI4_app, sLA_app, hll]
  repeat refine cl_seq ?_
  refine cl_rs hΓ [0,3,5,6,7,8,9,10,11,12,13,14,15,16,17,18,19,20] [[3, 0]] fun K' hK => ?_
  simp only [go_sem, sLI3_app, sLI4_app, sLA_app, hll]
  repeat (refine ⟨ob, ?_⟩)
  refine hK _ ?_ ?_ <;> clear K' hK <;> simp only [go_sem, sLI3_app, sLI4_app, sLA_app, hll]
  repeat refine cl_seq ?_
  refine cl_rs hΓ [0,3,5,6,7,8,9,10,11,12,13,14,15,16,17,18,19,20,21,22] [[3, 0]] fun K' hK => ?_
  simp only [go_sem, sLI3_app, sLI4_app, sLA_app, hll]
  repeat (refine ⟨ob, ?_⟩)
  refine hK _ ?_ ?_ <;> clear K' hK <;> simp only [go_sem, sLI3_app, sLI4_app, sLA_app, hll]
  repeat refine cl_seq ?_
  refine cl_rs hΓ [0,3,5,6,7,8,9,10,11,12,13,14,15,16,17,18,19,20,21,22,23,24] [[3, 0]] fun K' hK => ?_
  simp only [go_sem, sLI3_app, sLI4_app, sLA_app, hll]
  repeat (refine ⟨ob, ?_⟩)
  refine hK _ ?_ ?_ <;> clear K' hK <;> simp only [go_sem, sLI3_app, sLI4_app, sLA_app, hll]
  repeat refine cl_seq ?_
  refine cl_rs hΓ [0,3,5,6,7,8,9,10,11,12,13,14,15,16,17,18,19,20,21,22,23,24,25,26] [[3, 0]] fun K' hK => ?_
  simp only [go_sem, sLI3_app, sLI4_app, sLA_app, hll]
  repeat (refine ⟨ob, ?_⟩)
  refine hK _ ?_ ?_ <;> clear K' hK <;> simp only [go_sem, sLI3_app, sLI4_app, sLA_app, hll]
  repeat refine cl_seq ?_
  refine cl_rs hΓ [5,6,7,8,9,10,11,12,13,14,15,16,17,18,19,20,21,22,23,24,25,26,27,28] [] fun K' hK => ?_
  simp only [go_sem, sLI3_app, sLI4_app, sLA_app, hll]
  repeat (refine ⟨ob, ?_⟩)
  refine hK _ ?_ ?_ <;> clear K' hK <;> simp only [go_sem, sLI3_app, sLI4_app, sLA_app, hll]
  repeat refine cl_seq ?_
  refine cl_rs hΓ [4] [] fun K' hK => ?_
  simp only [go_sem, sSameI_app, decide_true, beq_self_eq_true, Bool.and_self]
  repeat (refine ⟨ob, ?_⟩)
  refine hK _ ?_ ?_ <;> clear K' hK <;> simp only [go_sem, sSameI_app, decide_true, beq_self_eq_true, Bool.and_self]
  refine cl_ret ?_
  simp only [go_sem]
def pHold9 : PSpec := ⟨fun xs => ∃ (l : List Deed) (lo pe da kn : Int), xs = [.sl (l.map encD), encA ⟨lo, pe, da, kn⟩], fun _ => .bool true, true⟩
theorem s9 : PSound Tryz.prog 9 pHold9 := by
  refine psoundB (rs := [.tmp 4]) Tryz.func9 Tryz.ntmps9 (by rfl) (by kernel_rfl) (by decide) (fun _ xs _ => rfl) ?_
  obtain ⟨c, hc, _⟩ := w9 [] 0 0 0 0
  refine ⟨c, hc, ?_⟩
  rintro xs ⟨l, lo, pe, da, kn, rfl⟩ hw
  refine ⟨Nat.le_of_ble_eq_true rfl, ?_⟩
  obtain ⟨c', hc', h⟩ := w9 l lo pe da kn
  rw [hc] at hc'
  cases hc'
  exact h
end Go.Eng
set_option linter.constructorNameAsVariable false
namespace Go.Eng
open Go Go.Proofs Go.Proofs.YtofamdkaipongaaGreat Go.RowKit Go.ChangeShapes

theorem keysHolds_lifted (hc : ∀ (W : World) (args : Array Value) (xs : List V), ArgsS Tryz.prog 6 Tryz.f9.params.toList xs → RepVs (memOf W) xs args.toList → Calls Tryz.prog 9 args W fun e W' => e = .returned (.bool true) ∧ Below W.heap.size W W')
    (os : Os) (started : os.Started) (H : Type) (enc : TypeId × Value → H) :
    ReturnsInHanded {} Tryz.checked os 9 .any (Rows.keysHoldsSpec.pre6 enc Tryz.prog Tryz.f9 Rows.keysHoldsRow.domain false) (Rows.keysHoldsSpec.post enc Tryz.prog Tryz.f9 false true false false) := by
  refine law_lifted (C := Tryz.checked) (n := 6) (tb := 4) kOwn started (by kernel_rfl) Tryz.func9
    (ChangeSpec.witness6 (enc := enc) (C := Tryz.checked) false ⟨#[], #[.slice none 0 0, .agg #[.int .i64 0, .int .i64 0, .int .i64 0, .int .i64 0]], []⟩ 8 (by kernel_rfl) (by kernel_rfl) (by kernel_rfl) (by kernel_rfl))
    kLaid ?_ (by kernel_rfl) (by kernel_rfl) rfl ?_ hc
  · have h : (Tryz.f9.params.toList.all fun t => plainT Tryz.prog 6 t && Tryz.prog.readableRec t && decide (t < Tryz.prog.types.size)) = true := by kernel_rfl
    intro t ht
    have := List.all_eq_true.1 h t ht
    simp only [Bool.and_eq_true, decide_eq_true_eq] at this
    exact ⟨this.1.1, this.1.2, this.2⟩
  · intro ds hds
    have hl : Tryz.f9.params.toList.length = 2 := by kernel_rfl
    rw [hl] at hds
    match ds, hds with
    | [d1, d2], _ => exact ⟨rfl, rfl, rfl⟩

theorem keysHolds_said (hc : ∀ (W : World) (args : Array Value) (xs : List V), ArgsS Tryz.prog 6 Tryz.f9.params.toList xs → RepVs (memOf W) xs args.toList → Calls Tryz.prog 9 args W fun e W' => e = .returned (.bool true) ∧ Below W.heap.size W W') :
    Rows.KeysHoldsSaid :=
  OpenClaim.holds_of_wide 9 Tryz.f9 rfl rfl rfl rfl rfl rfl rfl ⟨rfl, rfl, rfl, rfl, rfl⟩ rfl rfl rfl rfl rfl (by kernel_rfl) Tryz.func9 (by kernel_rfl)
    (of_decide_eq_true (by kernel_rfl)) (by unfold Func.isWrapper; first | (rw [if_pos (by decide +kernel)]; kernel_rfl) | (rw [if_neg (by decide +kernel)]; exact ⟨rfl, rfl⟩))
    (fun os started H enc _ => keysHolds_lifted hc os started H enc)
end Go.Eng
set_option maxRecDepth 100000
namespace Go.Eng
open Go Go.Proofs Go.Proofs.YtofamdkaipongaaGreat
theorem aggT48 : aggT Tryz.prog 48 = true := by kernel_rfl
theorem shp48 {n : Nat} {xs : List V} (h : Shp Tryz.prog (n + 3) 48 xs) : ∃ a b c d, V.agg xs = encA ⟨a, b, c, d⟩ := by
  unfold Shp at h
  simp only [Tryz.underlying48] at h
  obtain ⟨x1, y, rfl, h1, x2, y2, rfl, h2, x3, y3, rfl, h3, x4, y4, rfl, h4, rfl⟩ := h
  obtain ⟨a, rfl, _⟩ := shp3 h1
  obtain ⟨b, rfl, _⟩ := shp3 h2
  obtain ⟨c, rfl, _⟩ := shp3 h3
  obtain ⟨d, rfl, _⟩ := shp3 h4
  exact ⟨a, b, c, d, rfl⟩
theorem arg48 {x : V} (h : ArgS Tryz.prog 6 48 x) : ∃ a b c d, x = encA ⟨a, b, c, d⟩ := by
  obtain ⟨xs, h1, rfl⟩ := h
  rw [aggT48]
  exact shp48 h1
theorem holds_holds : Rows.KeysHoldsSaid :=
  keysHolds_said fun W args xs ha hr => by
    obtain ⟨x, ys, rfl, h1, y, zs, rfl, h2, rfl⟩ := (show ArgsS Tryz.prog 6 [22, 48] xs from ha)
    obtain ⟨l, rfl⟩ := arg22 h1
    obtain ⟨a, b, c, d, rfl⟩ := arg48 h2
    exact calls_true s9 hr ⟨l, a, b, c, d, rfl⟩ rfl
end Go.Eng
namespace Go.Proofs.YtofamdkaipongaaGreat
theorem keysHolds_holds : Rows.KeysHoldsSaid := Go.Eng.holds_holds
end Go.Proofs.YtofamdkaipongaaGreat
#print axioms Go.Proofs.YtofamdkaipongaaGreat.keysHolds_holds
