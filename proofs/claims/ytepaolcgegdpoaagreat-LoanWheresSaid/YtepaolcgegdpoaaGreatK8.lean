import Derived.Test.YtepaolcgegdpoaaGreatK7
/- Texts LW25 to LW32. -/
set_option linter.all false
namespace Go.Eng
open Go Go.Proofs
set_option maxHeartbeats 8000000
noncomputable section
theorem cl_rsX {P : Program} {Γ : FuncId → Option Spec} (hΓ : ∀ f s, Γ f = some s → SSound P f s) {id : Nat} {l : List Oper} {c : Code} {r : List Code} {σ : S} {K : Exit → S → Prop} (ks : List Nat) (ns : List Name)
  (h : ∀ K' : S → Prop, (∀ σ', clS ks ns σ' → CL P (c :: r) (keepS ks ns σ') K → K' σ') → RegX P Γ l.toArray l σ K') : CL P (.region id l.toArray false :: c :: r) σ K :=
 cw_regionX hΓ (h _ fun σ' hc hy => cw_keep ks ns hc hy)
theorem regX_step {P : Program} {Γ : FuncId → Option Spec} {ops : Array Oper} {o : Oper} {r : List Oper} {σ : S} {K : S → Prop} (h1 : oblS P Γ ops σ o) (h2 : RegX P Γ ops r (stepS P Γ ops σ o) K) : RegX P Γ ops (o :: r) σ K := .step h1 h2
def keepX {α : Type} (p : α → Bool) (l : List α) : List α := l.filter fun d => !p d
def delX {α : Type} (enc : α → V) (z : V) (p : α → Bool) (l : List α) : List V := (keepX p l).map enc ++ List.replicate (l.length - (keepX p l).length) z
def zeroT : Ret := ⟨0, 0, 0, [], 0, 0, 0, 0⟩
def zeroS : Sig := ⟨0, 0, 0, 0, 0, 0, 0⟩
def K25 : List (Nat × Spec) := [(162, S162)]
theorem K25_sound : KS K25 := tc k162 <| tn
attribute [go_sem] K25
@[go_sem] def P186 : PSpec := p2 iS iPi (fun _ _ => True) (fun s k => .bool (!countsB s.kn s.un k)) true
@[go_sem] def S186 : Spec := P186.toSpec
theorem s186 : PSound Tryz.prog 186 P186 := by
 refine wd2 (rs := [.tmp 3]) Tryz.func186 Tryz.ntmps186 fun s k hp hw => ?_
 simp only [iPi, iS, encS] at hw ⊢
 have hΓ := K25_sound
 repeat refine sq ?_
 refine rsx hΓ [1,2] [[2, 0]] ?_
 repeat refine sq ?_
 refine rsx hΓ [3] [] ?_
 refine cl_ret ?_
 simp only [go_sem]
 all_goals exact fzI
def pDR (g : Nat × Int) (x : Rec) : Bool := x.so == g.2
def pDT (g : Nat × Int) (x : Ret) : Bool := x.so == g.2
def pDS (g : Nat × Int) (x : Sig) : Bool := if g.1 = 186 then !countsB x.kn x.un g.2 else x.so == g.2
def okDR (g : Nat × Int) : Prop := g.1 = 88
def okDT (g : Nat × Int) : Prop := g.1 = 90
def okDS (g : Nat × Int) : Prop := g.1 = 92 ∨ g.1 = 186
def KDR : List (Nat × Spec) := []
attribute [go_sem] KDR
def KDT : List (Nat × Spec) := []
attribute [go_sem] KDT
def KDS : List (Nat × Spec) := [(92, S92), (186, S186)]
theorem KDS_sound : KS KDS := tc s92.sound <| tc s186.sound <| tn
attribute [go_sem] KDS
abbrev TYR := Rec
abbrev TYT := Ret
abbrev TYS := Sig
def delAR (obj : Name → Option O) (_ : Name) : List D → R
 | [.msl nm k, .clo (.func g) [] [.v (.ptr [.int .i64 q])]] => match obj nm with
  | some (.arr 7 L) => ⟨k = L.length ∧ L.length < 1000000 ∧ (L.map decR).map encR = L ∧ okDR (g, q), .v (.sl ((keepX (pDR (g, q)) (L.map decR)).map encR)), upd obj nm (some (.farr 7 (delX encR (encR zeroR) (pDR (g, q)) (L.map decR))))⟩
  | _ => .bad obj
 | _ => .bad obj
attribute [go_sem] delAR
def delAT (obj : Name → Option O) (_ : Name) : List D → R
 | [.msl nm k, .clo (.func g) [] [.v (.ptr [.int .i64 q])]] => match obj nm with
  | some (.arr 8 L) => ⟨k = L.length ∧ L.length < 1000000 ∧ (L.map decT).map encT = L ∧ okDT (g, q), .v (.sl ((keepX (pDT (g, q)) (L.map decT)).map encT)), upd obj nm (some (.farr 8 (delX encT (encT zeroT) (pDT (g, q)) (L.map decT))))⟩
  | _ => .bad obj
 | _ => .bad obj
attribute [go_sem] delAT
def KES : FuncId → Option Spec := tbl KDS
theorem KES_sound : ∀ f s, KES f = some s → SSound Tryz.prog f s := KDS_sound
theorem okDS_app {g : Nat × Int} (h : okDS g) : ∃ s, KES g.1 = some s ∧ (¬ g.1 = 1000000000) ∧ (∀ obj t (x : TYS), s.app obj t [.v (encS x), .v (.ptr [vInt g.2])] = ⟨True, .v (.bool (pDS g x)), obj⟩) ∧
  ∀ obj t (x : TYS), s.app obj t [.agg ((encS x).cells.map .v), .v (.ptr [vInt g.2])] = ⟨True, .v (.bool (pDS g x)), obj⟩ := by
 obtain ⟨g, k⟩ := g
 rcases h with rfl | rfl
 all_goals exact ⟨_, rfl, (by simp), fun obj t x => by simp only [go_sem, pDS]; try rfl, fun obj t x => by simp only [go_sem, pDS, encS]; try rfl⟩
theorem arr29 : (#[29] : Array Nat).getD 0 0 = 29 := rfl
theorem zV81 : ((tZero Tryz.prog 81).bind fun z => asV (ofVal z)) = some (encS zeroS) := by rw [tz81]; rfl
theorem cut29_app {obj : Name → Option O} {nm : Name} {k i : Nat} {L : List V} (h : obj nm = some (.arr 7 L)) (hk : k = L.length) (hi : i < L.length) :
  aCut Tryz.prog obj 29 29 (.msl nm k) (.v (vInt i)) = ⟨True, .any, upd obj nm (some (.arr 7 (L.take i ++ List.replicate (L.length - i) (encS zeroS))))⟩ := by
 unfold aCut
 simp only [te29, h, zV81, tnI]
 congr 1
 simp only [eq_iff_iff, iff_true]
 exact ⟨hk, by omega, hi, trivial, rfl, rfl, trivial, by decide⟩
theorem sg181 : PSound Tryz.prog 181 (p2 (iSl iS) iClo (fun _ g => okDS g) (fun l g => vInt (idxF (pDS g) l)) true) := by
 refine wd2 (rs := [.tmp 4]) Tryz.func181 Tryz.ntmps181 fun l g hp hw => ?_
 simp only [iClo, iS, iSl] at hw ⊢
 have hΓ := KES_sound
 have hl : l.length ≤ maxLen := by have := hw.1.1; simpa using this
 obtain ⟨s_, hs, hy, ha, _⟩ := okDS_app hp
 simp only [encS] at ha
 repeat refine sq ?_
 refine rsx hΓ [0,1] [] ?_
 repeat refine sq ?_
 refine rsx hΓ [0,1,7,8] [] ?_
 refine cl_block ?_
 refine cl_loop'  (fun s : Nat => [(8, ⟨true, .v (vInt s)⟩)]) (fun s => []) (fun s => s ≤ l.length ∧ ∀ k (h : k < l.length), k < s → pDS g l[k] = false) (fun s => l.length - s) 0 ?_ ?_ ?_ ?_
 ·exact ⟨Nat.zero_le _, by simp⟩
 ·rfl
 ·rfl
 rintro i ⟨hi, hR⟩
 simp only [go_sem]
 repeat refine sq ?_
 refine rsx hΓ [0,1,7,8,9] [] ?_
 repeat refine sq ?_
 refine cnd (fun hb => ?_) fun hb => ?_
 ·have hlt : i < l.length := by simpa using hb
  have hlt' : (i : Int) < l.length := by omega
  clear hb
  refine cl_skip ?_
  repeat refine sq ?_
  refine cl_block ?_
  repeat refine sq ?_
  refine rx hΓ [0,1,5,7,8] [] (fun K' hK => by simp only [go_sem, hlt']; exact fnx) ?_
  repeat refine sq ?_
  refine rx hΓ [0,1,5,7,8,16] [] (fun K' hK => by simp only [go_sem, map_getD hlt, tnI, nnI, hlt', hs, hy, ha]; exact fnx) ?_
  refine cnd (fun hb => ?_) fun hb => ?_
  ·repeat refine sq ?_
   refine rsx hΓ [4] [] ?_
   refine cl_ret ?_
   simp only [go_sem]
   rw [idxF_at (p := pDS g) hlt (by simpa using hb) hR]
  ·refine cl_skip ?_
   refine cl_nil ?_
   simp only [go_sem]
   refine kp [0,1,7,8] [] ?_
   refine cl_r hΓ fun K' hK => ?_
   simp only [go_sem]
   repeat (refine ⟨obx, ?_⟩)
   refine hK _ ?_
   clear K' hK
   simp only [go_sem]
   refine ⟨i + 1, ⟨hlt, ?_⟩, by (show l.length - (i + 1) < l.length - i; omega), ?_⟩
   ·intro k hk hki
    rcases Nat.lt_succ_iff_lt_or_eq.1 hki with h5 | rfl
    ·exact hR k hk h5
    ·simpa using hb
   refine weak_eq [0,1,7,8] [] ?_ ?_ <;> simp only [go_sem, wrap_succ hlt hl, csI]
 ·have hge : i = l.length := by
   have : ¬ (i : Int) < l.length := by simpa using hb
   omega
  clear hb
  subst hge
  refine cl_exit ?_
  simp only [go_sem]
  refine kp [] [] ?_
  repeat refine sq ?_
  refine rsx hΓ [4] [] ?_
  refine cl_ret ?_
  simp only [go_sem]
  rw [idxF_none (p := pDS g) fun k hk => hR k hk hk]
set_option maxRecDepth 10000 in
theorem w91 {g : Nat × Int} (hok : okDS g) {H : Name → Option O} {l : List TYS} (hl : l.length < 1000000) (hH0 : H [0, 1] = some (.arr 7 (l.map encS))) (hO1 : ∀ hs, OutC [0] (domOf [0] hs) H = True) (hO2 : ∀ hs sz L, OutC [0] (domOf [0] hs) (upd H [0, 1] (some (.arr sz L))) = True) (hO3 : ∀ hs sz L, OutC [0] (domOf [0] hs) (upd H [0, 1] (some (.farr sz L))) = True) :
  ∃ c, Tryz.f91.body = some c ∧ CL Tryz.prog [c] (mkS 42 [0] H [(0, ⟨true, .msl [0, 1] l.length⟩), (1, ⟨true, .clo (.func g.1) [] [.v (.ptr [vInt g.2])]⟩)] []) (fun e σ => (e = .normal ∨ e = .ret) ∧ (σ.env 4).c = true ∧
   (σ.env 4).d = .v (.sl ((keepX (pDS g) l).map encS)) ∧ σ.obj [0, 1] = some (.farr 7 (delX encS (encS zeroS) (pDS g) l))) := by
 obtain ⟨sG, hs, hg, _, hp⟩ := okDS_app hok
 obtain ⟨Γ, sI, hΓ, hs, hI, hi⟩ : ∃ (Γ : FuncId → Option Spec) (sI : Spec), (∀ f s, Γ f = some s → SSound Tryz.prog f s) ∧ Γ g.1 = some sG ∧ Γ 181 = some sI ∧
   ∀ (obj : Name → Option O) (t : Name), obj [0, 1] = some (.arr 7 (l.map encS)) → sI.app obj t [.msl [0, 1] l.length, .clo (.func g.1) [] [.v (.ptr [vInt g.2])]] = ⟨True, .v (vInt (idxF (pDS g) l)), obj⟩ := by
  refine ⟨fun f => if f = 181 then some (p2 (iSl iS) iClo (fun _ g => okDS g) (fun l g => vInt (idxF (pDS g) l)) true).toSpec else KES f, _, fun f s h => ?_, ?_, rfl, fun obj t e => ?_⟩
  ·dsimp only at h
   split at h
   ·rename_i e; cases h; subst e; exact sg181.sound
   ·exact KES_sound _ _ h
  ·dsimp only
   rw [if_neg (by intro e; have h' := hok; unfold okDS at h'; simp [e] at h')]; exact hs
  ·have hok' : okDS (g.1, g.2) := hok
   simp only [go_sem, e, hok', List.length_map, decSl]
 generalize hZZ : delX encS (encS zeroS) (pDS g) l = XX
 generalize hpg : pDS g = p at *
 simp only [encS, V.cells, List.map_cons, List.map_nil] at hp
 refine ⟨_, rfl, ?_⟩
 have hm : l.length ≤ maxLen := by unfold maxLen; omega
 repeat refine sq ?_
 refine rx hΓ [0,1] [] (fun K' hK => by simp only [go_sem]; (repeat (refine ⟨obx, ?_⟩)); exact hK _ (by simp only [go_sem, hO1]) (by simp only [go_sem] <;> rfl)) ?_
 repeat refine sq ?_
 refine rx hΓ [0,1,5] [] (fun K' hK => by simp only [go_sem, hI, hi, hH0, implies_true]; (repeat (refine ⟨obx, ?_⟩)); exact hK _ (by simp only [go_sem, hO1]) (by simp only [go_sem] <;> rfl)) ?_
 repeat refine sq ?_
 refine rx hΓ [0,1,5,12] [] (fun K' hK => by simp only [go_sem]; (repeat (refine ⟨obx, ?_⟩)); exact hK _ (by simp only [go_sem, hO1]) (by simp only [go_sem] <;> rfl)) ?_
 refine cnd (fun hb => ?_) fun hb => ?_
 ·repeat refine sq ?_
  refine rx hΓ [4] [] (fun K' hK => by simp only [go_sem]; (repeat (refine ⟨obx, ?_⟩)); exact hK _ (by simp only [go_sem, hO1]) (by simp only [go_sem] <;> rfl)) ?_
  refine cl_weakM (weakM_frzk 4 (.msl [0, 1] l.length) (by simp only [go_sem]) (by simp only [go_sem, hH0, List.length_map]) [4] [] ?_ rfl) ?_
  ·simp only [go_sem, hH0, hO3]
  simp only [go_sem, hH0]
  refine cl_ret ?_
  simp only [go_sem, hH0]
  have hb' : idxF p l = -1 := by simpa using hb
  have hall : ∀ d ∈ l, p d = false := by
   unfold idxF at hb'
   split at hb'
   ·omega
   ·rename_i hn
    intro d hd
    cases hpd : p d with
    | false => rfl
    | true => exact (hn (List.any_eq_true.2 ⟨d, hd, hpd⟩)).elim
  have hk : keepX p l = l := List.filter_eq_self.2 fun d hd => by rw [hall d hd]; rfl
  have hdx : XX = l.map encS := by rw [← hZZ]; unfold delX; rw [hk]; simp
  rw [hk, hdx]
  exact ⟨.inr trivial, rfl, rfl⟩
 have hf : l.findIdx p < l.length := by
  have hb' : ¬ idxF p l = -1 := by simpa using hb
  unfold idxF at hb'
  split at hb'
  ·rename_i hany
   exact List.findIdx_lt_length_of_exists (by obtain ⟨y, hy, hp⟩ := List.any_eq_true.1 hany; exact ⟨y, hy, hp⟩)
  ·exact (hb' rfl).elim
 have hfi : idxF p l = (l.findIdx p : Int) := by unfold idxF; rw [if_pos (List.any_eq_true.2 ⟨_, List.getElem_mem hf, List.findIdx_getElem (w := hf)⟩)]
 rw [hfi]
 clear hb hfi hi hI
 have hpf : p (l[l.findIdx p]) = true := List.findIdx_getElem (w := hf)
 have hnf : ∀ j (h : j < l.length), j < l.findIdx p → p l[j] = false := fun j h hj => by simpa using List.not_of_lt_findIdx hj
 generalize l.findIdx p = f at *
 refine cl_skip ?_
 repeat refine sq ?_
 refine rx hΓ [0,1,5,6] [] (fun K' hK => by simp only [go_sem, wrap_succ hf hm, csI]; (repeat (refine ⟨obx, ?_⟩)); exact hK _ (by simp only [go_sem, hO1]) (by simp only [go_sem] <;> rfl)) ?_
 refine cl_block ?_
 refine cl_loopH (fun x : Nat × Nat × List TYS => upd H [0, 1] (some (.arr 7 (x.2.2.map encS)))) (fun x => [(5, ⟨true, .v (vInt x.1)⟩), (6, ⟨true, .v (vInt x.2.1)⟩)]) (fun x => []) (fun x => x.1 < x.2.1 ∧ x.2.1 ≤ l.length ∧ x.2.2.length = l.length ∧ x.2.2.take x.1 = keepX p (l.take x.2.1) ∧ x.2.2.drop x.2.1 = l.drop x.2.1) (fun x => l.length - x.2.1) (f, f + 1, l) ?_ ?_ ?_ ?_ ?_
 ·refine ⟨(show f < f + 1 by omega), hf, rfl, ?_, rfl⟩
  show l.take f = keepX p (l.take (f + 1))
  unfold keepX
  rw [List.take_add_one, List.getElem?_eq_getElem hf, List.filter_append]
  simp only [Option.toList_some, List.filter_cons, hpf, Bool.not_true, Bool.false_eq_true, if_false, List.filter_nil, List.append_nil]
  rw [List.filter_eq_self.2]
  intro d hd
  obtain ⟨j, hj, rfl⟩ := List.getElem_of_mem hd
  have hj' : j < f := by simp at hj; omega
  rw [List.getElem_take, hnf j (by omega) hj']
  rfl
 ·congr 1
  rw [← hH0]
  funext x
  by_cases e : x = [0, 1]
  ·subst e; rw [upd_same]
  ·rw [upd_ne _ _ _ e]
 ·rfl
 ·rfl
 clear hnf
 rintro ⟨i, j, A⟩ ⟨hij, hj, hA, hT, hD⟩
 simp only at hij hj hA hT hD
 dsimp only
 generalize hH' : upd H [0, 1] (some (O.arr 7 (List.map encS A))) = H'
 have h0 : H' [0, 1] = some (.arr 7 (A.map encS)) := by rw [← hH', upd_same]
 have hI' : ∀ i, H' [i + 1, 1] = H [i + 1, 1] := fun i => by rw [← hH', upd_ne _ _ _ (by simp)]
 have hO' : ∀ hs, OutC [0] (domOf [0] hs) H' = True := fun hs => by rw [← hH']; exact hO2 _ _ _
 have hO2' : ∀ hs sz L, OutC [0] (domOf [0] hs) (upd H' [0, 1] (some (.arr sz L))) = True := fun hs sz L => by rw [← hH', upd_upd]; exact hO2 _ _ _
 have hO3' : ∀ hs sz L, OutC [0] (domOf [0] hs) (upd H' [0, 1] (some (.farr sz L))) = True := fun hs sz L => by rw [← hH', upd_upd]; exact hO3 _ _ _
 simp only [go_sem]
 repeat refine sq ?_
 refine rx hΓ [0,1,5,6,19] [] (fun K' hK => by simp only [go_sem, h0]; (repeat (refine ⟨obx, ?_⟩)); exact hK _ (by simp only [go_sem, hO']) (by simp only [go_sem] <;> rfl)) ?_
 refine cnd (fun hb => ?_) fun hb => ?_
 ·have hlt : j < l.length := by simpa using hb
  have hjA : j < A.length := by omega
  have hiA : i < A.length := by omega
  have hiA' : (i : Int) < l.length := by omega
  have hlt' : (j : Int) < l.length := by omega
  have hAj : A[j] = l[j] := by
   have h1 : A[j] = (A.drop j)[0]'(by simp; omega) := by simp
   rw [h1]
   simp only [hD]
   simp
  clear hb
  refine cl_skip ?_
  repeat refine sq ?_
  refine cl_block ?_
  repeat refine sq ?_
  refine rx hΓ [0,1,5,6,7] [[7, 0]] (fun K' hK => by simp only [go_sem, h0, map_getD hjA, tnI, nnI, hlt', hA, hAj]; (repeat (refine ⟨obx, ?_⟩)); exact hK _ (by simp only [go_sem, hO']) (by simp only [go_sem] <;> rfl)) ?_
  repeat refine sq ?_
  refine rx hΓ [0,1,5,6,7,29] [[7, 0]] (fun K' hK => by simp only [go_sem, hg, hs, hp]; (repeat (refine ⟨obx, ?_⟩)); exact hK _ (by simp only [go_sem, hO']) (by simp only [go_sem] <;> rfl)) ?_
  refine cnd (fun hb => ?_) fun hb => ?_
  ·have hpn : p l[j] = false := by simpa using hb
   clear hb
   repeat refine sq ?_
   refine cl_rs hΓ [0,1,5,6] [] fun K' hK => ?_
   simp only [go_sem, h0, tnI, nnI, hiA', hA]
   repeat' apply And.intro
   all_goals first | rfl | omega | exact Int.le_refl _ | exact Bool.or_not_self _ | exact Bool.not_or_self _ | exact enc_okI _ | exact enc_ok _ | exact fun x hx => (enc_okI _ x hx).1 | exact fun x hx => (enc_ok _ x hx).1 | (simp only [List.length_take, List.length_append, List.length_map, List.length_drop, List.length_cons, List.length_nil]; done) | (simp only [List.length_take, List.length_append, List.length_map, List.length_drop, List.length_cons, List.length_nil]; omega) | (simp only [List.length_take, List.length_append, List.length_map, List.length_drop, List.length_cons, List.length_nil, maxLen]; omega) | (exact fun _ => by decide) | (exact fun h => ⟨h, by decide⟩) | (simp only [decide_eq_true_eq]; omega) | skip
   refine hK _ ?_ ?_
   ·simp only [go_sem, hO2']
   clear K' hK
   simp only [go_sem]
   obtain ⟨H2, hH2⟩ : ∃ H2, upd H' [0, 1] (some (O.arr 7 ((List.map encS A).set i (encS l[j])))) = H2 := ⟨_, rfl⟩
   have hH2' := hH2
   simp only [encS] at hH2'
   rw [hH2']
   have hOb : ∀ hs, OutC [0] (domOf [0] hs) H2 = True := fun hs => by rw [← hH2]; exact hO2' _ _ _
   refine cl_r hΓ fun K' hK => ?_
   simp only [go_sem]
   repeat (refine ⟨obx, ?_⟩)
   refine hK _ ?_
   clear K' hK
   simp only [go_sem]
   refine cl_keep [0,1,5,6] [] ?_ ?_
   ·simp only [go_sem, hOb]
   simp only [go_sem]
   refine cl_r hΓ fun K' hK => ?_
   simp only [go_sem]
   repeat (refine ⟨obx, ?_⟩)
   refine hK _ ?_
   clear K' hK
   simp only [go_sem]
   refine ⟨(i + 1, j + 1, A.set i l[j]), ⟨(show i + 1 < j + 1 by omega), hlt, by simpa using hA, ?_, ?_⟩, (show l.length - (j + 1) < l.length - j by omega), ?_⟩
   ·show (A.set i l[j]).take (i + 1) = keepX p (l.take (j + 1))
    unfold keepX at hT ⊢
    rw [List.take_add_one (l := l), List.getElem?_eq_getElem hlt, List.filter_append, ← hT]
    simp only [Option.toList_some, List.filter_cons, hpn, Bool.not_false, if_true, List.filter_nil]
    rw [List.take_add_one, List.take_set_of_le (Nat.le_refl i), List.getElem?_set_self hiA]
    rfl
   ·show (A.set i l[j]).drop (j + 1) = l.drop (j + 1)
    rw [List.drop_set_of_lt (show i < j + 1 by omega)]
    have := congrArg (List.drop 1) hD
    simpa [List.drop_drop] using this
   ·refine weak_eq [0,1,5,6] [] ?_ ?_
    ·simp only [go_sem, hOb]
    ·simp only [go_sem, wrap_succ hlt hm, wrap_succ (show i < l.length by omega) hm, csI]
     rw [← hH2, ← hH', upd_upd, List.map_set]
     try rfl
  ·have hpy : p l[j] = true := by simpa using hb
   clear hb
   refine cl_skip ?_
   refine cl_nil ?_
   simp only [go_sem]
   refine cl_keep [0,1,5,6] [] ?_ ?_
   ·simp only [go_sem, hO']
   simp only [go_sem]
   refine cl_r hΓ fun K' hK => ?_
   simp only [go_sem]
   repeat (refine ⟨obx, ?_⟩)
   refine hK _ ?_
   clear K' hK
   simp only [go_sem]
   refine ⟨(i, j + 1, A), ⟨(show i < j + 1 by omega), hlt, hA, ?_, ?_⟩, (show l.length - (j + 1) < l.length - j by omega), ?_⟩
   ·show A.take i = keepX p (l.take (j + 1))
    unfold keepX at hT ⊢
    rw [List.take_add_one (l := l), List.getElem?_eq_getElem hlt, List.filter_append, ← hT]
    simp only [Option.toList_some, List.filter_cons, hpy, Bool.not_true, Bool.false_eq_true, if_false, List.filter_nil, List.append_nil]
   ·show A.drop (j + 1) = l.drop (j + 1)
    have := congrArg (List.drop 1) hD
    simpa [List.drop_drop] using this
   ·refine weak_eq [0,1,5,6] [] ?_ ?_
    ·simp only [go_sem, hO']
    ·simp only [go_sem, wrap_succ hlt hm, csI]
     rw [← hH']
 ·have hge : j = l.length := by
   have : ¬ (j : Int) < l.length := by simpa using hb
   omega
  subst hge
  clear hb
  rw [List.take_length] at hT
  have hiA : i < A.length := by omega
  refine cl_exit ?_
  simp only [go_sem]
  refine cl_keep [0,5] [] ?_ ?_
  ·simp only [go_sem, hO']
  simp only [go_sem]
  repeat refine sq ?_
  refine cl_rsX hΓ [0,5] [] fun K' hK => ?_
  refine regX_step ?_ (regX_step ?_ (.cut (T := 29) (x := .tmp 36) (lo := .tmp 37) (c := 38) rfl rfl ?_ ?_ ?_ ?_ (.nil ?_)))
  ·simp only [go_sem]
  ·simp only [go_sem]
  ·simp only [go_sem]
  ·simp only [go_sem]
  ·simp only [go_sem]
  ·have hcut := fun (obj : Name → Option O) (h : obj [0, 1] = _) => cut29_app (obj := obj) (nm := [0, 1]) (k := l.length) (i := i) (L := A.map encS) h (by simpa using hA.symm) (by simpa using hiA)
   simp only [go_sem, clearT, arr29, hcut, h0]
  ·refine hK _ ?_ ?_
   ·simp only [go_sem, cutS, clearT, arr29, cut29_app (obj := fun nm => if own [0] nm = true then none else H' nm) (nm := [0, 1]) (k := l.length) (i := i) (L := A.map encS) h0 (by simpa using hA.symm) (by simpa using hiA), hO2']
   clear K' hK
   simp only [go_sem, cutS, clearT, arr29, cut29_app (obj := fun nm => if own [0] nm = true then none else H' nm) (nm := [0, 1]) (k := l.length) (i := i) (L := A.map encS) h0 (by simpa using hA.symm) (by simpa using hiA)]
   have hki : (keepX p l).length = i := by rw [← hT, List.length_take]; omega
   have hZe : (List.take i (List.map encS A) ++ List.replicate (A.length - i) (encS zeroS)) = XX := by
    rw [← hZZ]
    unfold delX
    rw [hki, ← hT, List.map_take, hA]
   have hZ1 : XX.length = l.length := by rw [← hZZ]; unfold delX; simp; omega
   have hZ2 : XX.take i = (keepX p l).map encS := by
    rw [← hZZ]
    unfold delX
    rw [List.take_append_of_le_length (by simp; omega), List.take_of_length_le (by simp; omega)]
   have hZ3 : ∀ x ∈ XX, x.cells.length = 7 := by
    intro x hx
    rw [← hZZ] at hx
    rcases List.mem_append.1 hx with h | h
    ·obtain ⟨y, _, rfl⟩ := List.mem_map.1 h; rfl
    ·rw [(List.mem_replicate.1 h).2]; rfl
   simp only [encS] at hZe
   rw [hZe]
   clear hZe
   clear hZZ
   generalize XX = Z at *
   simp only [V.cells] at hZ3
   generalize hH3 : upd H' [0, 1] (some (O.arr 7 Z)) = H3
   have h30 : H3 [0, 1] = some (.arr 7 Z) := by rw [← hH3, upd_same]
   have hI3 : ∀ i, H3 [i + 1, 1] = H [i + 1, 1] := fun i => by rw [← hH3, upd_ne _ _ _ (by simp)]; exact hI' i
   have hO3c : ∀ hs sz L, OutC [0] (domOf [0] hs) (upd H3 [0, 1] (some (.farr sz L))) = True := fun hs sz L => by rw [← hH3, upd_upd]; exact hO3' _ _ _
   have hiZ : (i : Int) ≤ l.length := by omega
   repeat refine sq ?_
   refine cl_rs hΓ [4] [] fun K' hK => ?_
   simp only [go_sem, h30, te29, tnI, nnI]
   repeat' apply And.intro
   all_goals first | rfl | omega | exact Int.le_refl _ | exact Bool.or_not_self _ | exact Bool.not_or_self _ | exact enc_okI _ | exact enc_ok _ | exact fun x hx => (enc_okI _ x hx).1 | exact fun x hx => (enc_ok _ x hx).1 | (simp only [List.length_take, List.length_append, List.length_map, List.length_drop, List.length_cons, List.length_nil]; done) | (simp only [List.length_take, List.length_append, List.length_map, List.length_drop, List.length_cons, List.length_nil]; omega) | (simp only [List.length_take, List.length_append, List.length_map, List.length_drop, List.length_cons, List.length_nil, maxLen]; omega) | (exact fun _ => by decide) | (exact fun h => ⟨h, by decide⟩) | (simp only [decide_eq_true_eq]; omega) | skip
   refine hK _ ?_ ?_
   ·simp only [go_sem, hO3c]
   clear K' hK
   simp only [go_sem]
   refine cl_ret ?_
   simp only [go_sem, hZ2]
   exact .inr trivial
def delCS : CSpec where
 pre := fun os ds => ∃ (l : List TYS) (g : Nat × Int), os = [.arr 7 (l.map encS)] ∧ ds = [.msl [0, 1] l.length, .clo (.func g.1) [] [.v (.ptr [vInt g.2])]] ∧ l.length < 1000000 ∧ okDS g
 out := fun os ds => match os, ds with
  | [.arr _ L], [_, .clo (.func g) _ [.v (.ptr [.int _ k])]] => ⟨[(0, .farr 7 (delX encS (encS zeroS) (pDS (g, k)) (L.map decS)))], [], .v (.sl ((keepX (pDS (g, k)) (L.map decS)).map encS))⟩
  | _, _ => ⟨[], [], .any⟩
def delAS (obj : Name → Option O) (_ : Name) : List D → R
 | [.msl nm k, .clo (.func g) [] [.v (.ptr [.int .i64 q])]] => match obj nm with
  | some (.arr 7 L) => ⟨k = L.length ∧ L.length < 1000000 ∧ (L.map decS).map encS = L ∧ okDS (g, q), .v (.sl ((keepX (pDS (g, q)) (L.map decS)).map encS)), upd obj nm (some (.farr 7 (delX encS (encS zeroS) (pDS (g, q)) (L.map decS))))⟩
  | _ => .bad obj
 | _ => .bad obj
def delFS (_ : Name → Option O) (_ : Name) : List D → List Name
 | .msl nm _ :: _ => [nm]
 | _ => []
def S91 : Spec := ⟨delAS, delFS, delFS⟩
attribute [go_sem] S91 delAS
theorem delS_near : S91.Near := by
 refine near_fw fun obj obj2 t ds ha => ⟨rfl, ?_⟩
 have hno : ∀ wr, Agr wr obj obj2 → Like (R.bad obj) (R.bad obj2) obj obj2 wr := fun wr h => .none wr h
 unfold delAS
 split
 ·rename_i nm k g q
  have h1 : obj2 nm = obj nm := ha nm (by simp [delFS])
  simp only [h1]
  split
  ·exact .one (by simp [delFS]) ha
  ·exact hno _ ha
 ·exact hno _ ha
theorem k91c : SSound Tryz.prog 91 delCS.toSpec := by
 refine csound (nt := 42) (rs := [.tmp 4]) Tryz.func91 rfl (by rfl) (by kernel_rfl) (enter_of Tryz.func91 rfl (by kernel_rfl)) (notYid _ (by decide)) ?_
 rintro os ds ⟨l, g, rfl, rfl, hl, hok⟩
 refine ⟨lb rfl, ?_⟩
 have hout : delCS.out [.arr 7 (l.map encS)] [.msl [0, 1] l.length, .clo (.func g.1) [] [.v (.ptr [vInt g.2])]] = ⟨[(0, .farr 7 (delX encS (encS zeroS) (pDS g) l))], [], .v (.sl ((keepX (pDS g) l).map encS))⟩ := by
  simp only [delCS, decS_map]
 rw [hout]
 have hO1 : ∀ hs, OutC [0] (domOf [0] hs) (outH [.arr 7 (l.map encS)]) = True := fun hs => eq_true (outC_outs (by
  intro o ho dom hd
  simp only [List.mem_singleton] at ho
  subst ho
  rfl) hs)
 obtain ⟨c, hc, h⟩ := w91 hok (H := outH [.arr 7 (l.map encS)]) hl rfl hO1 (fun hs sz L => eq_true (OutC_set rfl (by rw [hO1]; trivial))) (fun hs sz L => eq_true (OutC_set rfl (by rw [hO1]; trivial)))
 have hc2 : ∀ c2, Tryz.f91.body = some c2 → c2 = c := fun c2 h2 => by rw [h2] at hc; exact Option.some.inj hc
 rw [← hc2 _ rfl] at h
 refine CW.mono (cl_of h) ?_
 rintro e σ ⟨he, h1, h2, h3⟩
 have fin : (resAll Tryz.prog σ [.tmp 4]).ok ∧ (resAll Tryz.prog σ [.tmp 4]).d = .v (.sl ((keepX (pDS g) l).map encS)) ∧ endC [.arr 7 (l.map encS)] ⟨[(0, .farr 7 (delX encS (encS zeroS) (pDS g) l))], [], .v (.sl ((keepX (pDS g) l).map encS))⟩ σ :=
  ⟨h1, h2, ⟨h3, trivial⟩, trivial, rfl⟩
 rcases he with rfl | rfl
 ·exact fin
 ·exact fin
theorem k91 : SSound Tryz.prog 91 S91 := by
 refine ssound_eq k91c delS_near (notYid _ (by decide)) fun obj t ds hok => ?_
 change (delAS obj t ds).ok at hok
 refine ⟨ds, rfl, fun _ _ _ _ h => h, ?_⟩
 show _ ∧ _ = (delAS obj t ds).d ∧ _ = (delAS obj t ds).obj
 unfold delAS at hok ⊢
 split at hok
 ·rename_i nm k g q
  split at hok
  ·rename_i L ho
   obtain ⟨rfl, hl, he, hg⟩ := hok
   have hr : reach obj [.msl nm L.length, .clo (.func g) [] [.v (.ptr [.int .i64 q])]] = [nm] := by
    unfold reach
    show reachL obj (2998 + 1 + 1) [nm] [] = [nm]
    simp only [reachL, inL, List.any_nil, Bool.false_eq_true, if_false, ho, namesO, List.nil_append]
   have i0 : idx [nm] nm = 0 := by simp [idx]
   have e1 : cOs obj [.msl nm L.length, .clo (.func g) [] [.v (.ptr [.int .i64 q])]] = [.arr 7 L] := by
    unfold cOs
    rw [hr]
    simp only [List.map_cons, List.map_nil, canonO, ho, O.ren]
   have e2 : cDs obj [.msl nm L.length, .clo (.func g) [] [.v (.ptr [.int .i64 q])]] = [.msl [0, 1] L.length, .clo (.func g) [] [.v (.ptr [.int .i64 q])]] := by
    unfold cDs
    rw [hr]
    simp only [D.renL, D.ren, cin, i0]
   have e3 : (shut obj [nm] && D.closL (inL [nm]) [.msl nm L.length, .clo (.func g) [] [.v (.ptr [.int .i64 q])]] && fresh obj t []) = true := by
    simp [shut, ho, O.clos, D.closL, D.clos, inL, fresh]
   have hpre : delCS.pre [.arr 7 L] [.msl [0, 1] L.length, .clo (.func g) [] [.v (.ptr [.int .i64 q])]] := ⟨L.map decS, (g, q), by rw [he], by rw [List.length_map], by rw [List.length_map]; exact hl, hg⟩
   have hout : delCS.out [.arr 7 L] [.msl [0, 1] L.length, .clo (.func g) [] [.v (.ptr [.int .i64 q])]] = ⟨[(0, .farr 7 (delX encS (encS zeroS) (pDS (g, q)) (L.map decS)))], [], .v (.sl ((keepX (pDS (g, q)) (L.map decS)).map encS))⟩ := rfl
   simp only [CSpec.toSpec, e1, e2, hr, hout, e3, hpre, and_self, putN]
   exact ⟨trivial, rfl, rfl⟩
  ·exact hok.elim
 ·exact hok.elim
end
set_option maxHeartbeats 8000000
noncomputable section
theorem keep_sights (l : List Sig) (k : Int) : keepX (pDS (186, k)) l = l.filter fun s => countsB s.kn s.un k := by
 unfold keepX pDS
 simp
theorem okDS186 (k : Int) : okDS (186, k) := .inr rfl
def K26 : List (Nat × Spec) := [(132, S132), (91, S91)]
theorem K26_sound : KS K26 := tc k132 <| tc k91 <| tn
attribute [go_sem] K26
def V122 : VSpec := v1 iI (fun x _ => x.l.ss.length ≤ 60) (fun x k => .v (.sl ((sgK x.l k).map encS))) none
def S122 : Spec := V122.toSpec
attribute [go_sem] V122 S122
theorem k122 : SSound Tryz.prog 122 S122 := by
 refine vw1 (rs := [.tmp 4]) Tryz.func122 Tryz.ntmps122 (by rfl) (by kernel_rfl) (by decide) (fun _ _ => by first | rfl | simp [D.clos, D.closL, rdO_clos]) ⟨_, rfl, lb rfl, fun x k hp H h0 h1 h2 hO hO2 => ?_⟩
 simp only [iI, boxV, argsD, List.map_cons, List.map_nil, Nat.zero_add, Option.map_none] at h0 ⊢
 have hΓ := K26_sound
 repeat refine sq ?_
 refine rx hΓ [0,3] [[3, 0]] (fun K' hK => by simp only [go_sem]; (repeat (refine ⟨obx, ?_⟩)); exact hK _ (by simp only [go_sem, hO]) (by simp only [go_sem] <;> rfl)) ?_
 refine cl_weakM (weakM_frzk 3 (.ref [3, 0] 0) (by simp only [go_sem]) (by simp only [go_sem]) [0,3] [[3, 0]] ?_ rfl) ?_
 ·simp only [go_sem, hO]
 simp only [go_sem]
 repeat refine sq ?_
 refine rx hΓ [4] [] (fun K' hK => by simp only [go_sem, h0, decS_map, keep_sights, okDS186, List.length_map]; (repeat (refine ⟨obx, ?_⟩)); exact hK _ (by simp only [go_sem, hO]) (by simp only [go_sem] <;> rfl)) ?_
 refine cl_ret ?_
 simp only [go_sem, h0, h1, h2]
 all_goals exact fzI
def rdRg (r : Rg) : D := .agg [.v (vInt r.lo), .v (vInt r.hi)]
attribute [go_sem] rdRg
def K26b : List (Nat × Spec) := [(119, S119)]
theorem K26b_sound : KS K26b := tc k119 <| tn
attribute [go_sem] K26b
def sigD (s : Sig) : Prop := 0 ≤ s.da ∧ s.da ≤ 100000
theorem rdO_none : rdO none = .agg [.v (vInt 0), .v (vInt 0), .v (vInt 0), .nilsl, .v (vInt 0), .v (vInt 0), .v (vInt 0)] := rfl
theorem rdO_some (r : Rec) : rdO (some r) = rdRc r := rfl
def V187 : VSpec := v1 iS (fun x s => (VOk x ∧ x.rs.Nodup) ∧ sigD s) (fun x s => .tup [.v (vInt (wantsK x s).1), rdRg (wantsK x s).2]) none
def S187 : Spec := V187.toSpec
attribute [go_sem] V187 S187
theorem k187 : SSound Tryz.prog 187 S187 := by
 refine vw1 (rs := [.tmp 4, .cell 5 38]) Tryz.func187 Tryz.ntmps187 (by rfl) (by kernel_rfl) (by decide) (fun _ _ => by first | rfl | exact rdRg_clos _ _ | simp [D.clos, D.closL, rdO_clos]) ⟨_, rfl, lb rfl, fun x s hp H h0 h1 h2 hO hO2 => ?_⟩
 have hP := mixedK
 simp only [iS, encS, boxV, argsD, List.map_cons, List.map_nil, Nat.zero_add, Option.map_none] at h0 ⊢
 have hΓ := K26b_sound
 obtain ⟨hv, hd⟩ := hp
 have hwd := wrap_day hd
 repeat refine sq ?_
 refine rx hΓ [0,3,5] [[3, 0],[5, 0]] (fun K' hK => by simp only [go_sem]; (repeat (refine ⟨obx, ?_⟩)); exact hK _ (by simp only [go_sem, hO]) (by simp only [go_sem] <;> rfl)) ?_
 repeat refine sq ?_
 refine rx hΓ [0,3,5,6,7] [[3, 0],[5, 0],[6, 0],[7, 0]] (fun K' hK => by simp only [go_sem]; (repeat (refine ⟨obx, ?_⟩)); exact hK _ (by simp only [go_sem, hO]) (by simp only [go_sem] <;> rfl)) ?_
 rcases hat : atK x.rs s.pa s.le s.da with _ | r
 ·repeat refine sq ?_
  refine rx hΓ [0,3,5,6,7,8,9] [[3, 0],[5, 0],[6, 0],[7, 0],[8, 0]] (fun K' hK => by simp only [go_sem, h0, h1, h2, hat, rdO_none, Option.isSome_none]; (repeat (refine ⟨obx, ?_⟩)); exact hK _ (by simp only [go_sem, hO]) (by simp only [go_sem] <;> rfl)) ?_
  repeat refine sq ?_
  refine dx hΓ hP [[], [0], [0, 1], [0, 1, 2], [], [4], [], [6], [4, 5, 6, 7], u9, u10, u11, u11, u12, u14] [3,5,6,7,8,9,10,11] [[3, 0],[5, 0],[6, 0],[7, 0],[8, 0]] (by kernel_rfl) (fun K' hK => by simp only [go_sem, h0, h1, mget_bk]; (repeat (refine ⟨obx, ?_⟩)); (first | refine ⟨by rfl, ?_⟩ | skip); exact hK _ (by simp only [go_sem, hO]) (by simp only [go_sem] <;> rfl)) ?_
  repeat refine sq ?_
  refine cl_block ?_
  repeat refine sq ?_
  refine rx hΓ [3,5,6,7,8,9,10,11,39] [[3, 0],[5, 0],[6, 0],[7, 0],[8, 0]] (fun K' hK => by simp only [go_sem]; (repeat (refine ⟨obx, ?_⟩)); exact hK _ (by simp only [go_sem, hO]) (by simp only [go_sem] <;> rfl)) ?_
  refine cnd (fun hb => ?_) fun hb => ?_
  ·refine cl_skip ?_
   refine cnd (fun hb => ?_) fun hb => ?_
   ·repeat refine sq ?_
    refine dx hΓ hP [[], [], [0, 1]] [4,5] [[5, 0]] (by kernel_rfl) (fun K' hK => by simp only [go_sem]; (repeat (refine ⟨obx, ?_⟩)); (first | refine ⟨by rfl, ?_⟩ | skip); exact hK _ (by simp only [go_sem, hO]) (by simp only [go_sem] <;> rfl)) ?_
    refine cl_ret ?_
    simp only [go_sem, h0, h1, h2]
    first | (unfold wantsK; simp only [hat]; simp_all [allR]; done) | (unfold wantsK; simp only [hat]; rcases hbk : bkAt x.bk (r.so, s.le) with _ | j <;> simp_all [allR, noR]; done)
   ·repeat refine sq ?_
    refine rx hΓ [3,5,7,8,10,60] [[3, 0],[5, 0],[7, 0],[8, 0]] (fun K' hK => by simp only [go_sem]; (repeat (refine ⟨obx, ?_⟩)); exact hK _ (by simp only [go_sem, hO]) (by simp only [go_sem] <;> rfl)) ?_
    refine cnd (fun hb => ?_) fun hb => ?_
    ·repeat refine sq ?_
     refine dx hΓ hP [[], [], [0, 1]] [4,5] [[5, 0]] (by kernel_rfl) (fun K' hK => by simp only [go_sem]; (repeat (refine ⟨obx, ?_⟩)); (first | refine ⟨by rfl, ?_⟩ | skip); exact hK _ (by simp only [go_sem, hO]) (by simp only [go_sem] <;> rfl)) ?_
     refine cl_ret ?_
     simp only [go_sem, h0, h1, h2]
     first | (unfold wantsK; simp only [hat]; simp_all [allR]; done) | (unfold wantsK; simp only [hat]; rcases hbk : bkAt x.bk (r.so, s.le) with _ | j <;> simp_all [allR, noR]; done)
    ·repeat refine sq ?_
     refine rx hΓ [3,5,7,8,10,68] [[3, 0],[5, 0],[7, 0],[8, 0]] (fun K' hK => by simp only [go_sem]; (repeat (refine ⟨obx, ?_⟩)); exact hK _ (by simp only [go_sem, hO]) (by simp only [go_sem] <;> rfl)) ?_
     refine cnd (fun hb => ?_) fun hb => ?_
     ·repeat refine sq ?_
      refine dx hΓ hP [[], [], [1], [1, 2], [0], u5] [4,5] [[5, 0]] (by kernel_rfl) (fun K' hK => by simp only [go_sem]; (repeat (refine ⟨obx, ?_⟩)); (first | refine ⟨by rfl, ?_⟩ | skip); exact hK _ (by simp only [go_sem, hO]) (by simp only [go_sem] <;> rfl)) ?_
      refine cl_ret ?_
      simp only [go_sem, h0, h1, h2]
      first | (unfold wantsK; simp only [hat]; simp_all [allR]; done) | (unfold wantsK; simp only [hat]; rcases hbk : bkAt x.bk (r.so, s.le) with _ | j <;> simp_all [allR, noR]; done)
     ·repeat refine sq ?_
      refine rx hΓ [3,5,7,10,76] [[3, 0],[5, 0],[7, 0]] (fun K' hK => by simp only [go_sem]; (repeat (refine ⟨obx, ?_⟩)); exact hK _ (by simp only [go_sem, hO]) (by simp only [go_sem] <;> rfl)) ?_
      refine cnd (fun hb => ?_) fun hb => ?_
      ·repeat refine sq ?_
       refine dx hΓ hP [[], [], [1], [1, 2], [1, 2, 3], [0], u6] [4,5] [[5, 0]] (by kernel_rfl) (fun K' hK => by simp only [go_sem]; (repeat (refine ⟨obx, ?_⟩)); (first | refine ⟨by rfl, ?_⟩ | skip); exact hK _ (by simp only [go_sem, hO]) (by simp only [go_sem] <;> rfl)) ?_
       refine cl_ret ?_
       simp only [go_sem, h0, h1, h2]
       first | (unfold wantsK; simp only [hat]; simp_all [allR]; done) | (unfold wantsK; simp only [hat]; rcases hbk : bkAt x.bk (r.so, s.le) with _ | j <;> simp_all [allR, noR]; done)
      ·refine cl_skip ?_
       refine cl_nil ?_
       simp only [go_sem]
       refine cl_keep [5,7] [[5, 0],[7, 0]] ?_ ?_
       ·simp only [go_sem, hO]
       simp only [go_sem]
       repeat refine sq ?_
       refine dx hΓ hP [[], [], [0, 1]] [4,5] [[5, 0]] (by kernel_rfl) (fun K' hK => by simp only [go_sem]; (repeat (refine ⟨obx, ?_⟩)); (first | refine ⟨by rfl, ?_⟩ | skip); exact hK _ (by simp only [go_sem, hO]) (by simp only [go_sem] <;> rfl)) ?_
       refine cl_ret ?_
       simp only [go_sem, h0, h1, h2]
       first | (unfold wantsK; simp only [hat]; simp_all [allR]; done) | (unfold wantsK; simp only [hat]; rcases hbk : bkAt x.bk (r.so, s.le) with _ | j <;> simp_all [allR, noR]; done)
  ·refine rx hΓ [3,5,6,7,8,9,10,11,39] [[3, 0],[5, 0],[6, 0],[7, 0],[8, 0]] (fun K' hK => by simp only [go_sem]; (repeat (refine ⟨obx, ?_⟩)); exact hK _ (by simp only [go_sem, hO]) (by simp only [go_sem] <;> rfl)) ?_
   refine cnd (fun hb => ?_) fun hb => ?_
   ·repeat refine sq ?_
    refine dx hΓ hP [[], [], [0, 1]] [4,5] [[5, 0]] (by kernel_rfl) (fun K' hK => by simp only [go_sem]; (repeat (refine ⟨obx, ?_⟩)); (first | refine ⟨by rfl, ?_⟩ | skip); exact hK _ (by simp only [go_sem, hO]) (by simp only [go_sem] <;> rfl)) ?_
    refine cl_ret ?_
    simp only [go_sem, h0, h1, h2]
    first | (unfold wantsK; simp only [hat]; simp_all [allR]; done) | (unfold wantsK; simp only [hat]; rcases hbk : bkAt x.bk (r.so, s.le) with _ | j <;> simp_all [allR, noR]; done)
   ·repeat refine sq ?_
    refine rx hΓ [3,5,7,8,10,60] [[3, 0],[5, 0],[7, 0],[8, 0]] (fun K' hK => by simp only [go_sem]; (repeat (refine ⟨obx, ?_⟩)); exact hK _ (by simp only [go_sem, hO]) (by simp only [go_sem] <;> rfl)) ?_
    refine cnd (fun hb => ?_) fun hb => ?_
    ·repeat refine sq ?_
     refine dx hΓ hP [[], [], [0, 1]] [4,5] [[5, 0]] (by kernel_rfl) (fun K' hK => by simp only [go_sem]; (repeat (refine ⟨obx, ?_⟩)); (first | refine ⟨by rfl, ?_⟩ | skip); exact hK _ (by simp only [go_sem, hO]) (by simp only [go_sem] <;> rfl)) ?_
     refine cl_ret ?_
     simp only [go_sem, h0, h1, h2]
     first | (unfold wantsK; simp only [hat]; simp_all [noR]; done) | (unfold wantsK; simp only [hat]; rcases hbk : bkAt x.bk (r.so, s.le) with _ | j <;> simp_all [allR, noR]; done)
    ·repeat refine sq ?_
     refine rx hΓ [3,5,7,8,10,68] [[3, 0],[5, 0],[7, 0],[8, 0]] (fun K' hK => by simp only [go_sem]; (repeat (refine ⟨obx, ?_⟩)); exact hK _ (by simp only [go_sem, hO]) (by simp only [go_sem] <;> rfl)) ?_
     refine cnd (fun hb => ?_) fun hb => ?_
     ·repeat refine sq ?_
      refine dx hΓ hP [[], [], [1], [1, 2], [0], u5] [4,5] [[5, 0]] (by kernel_rfl) (fun K' hK => by simp only [go_sem]; (repeat (refine ⟨obx, ?_⟩)); (first | refine ⟨by rfl, ?_⟩ | skip); exact hK _ (by simp only [go_sem, hO]) (by simp only [go_sem] <;> rfl)) ?_
      refine cl_ret ?_
      simp only [go_sem, h0, h1, h2]
      first | (unfold wantsK; simp only [hat]; simp_all [allR]; done) | (unfold wantsK; simp only [hat]; rcases hbk : bkAt x.bk (r.so, s.le) with _ | j <;> simp_all [allR, noR]; done)
     ·repeat refine sq ?_
      refine rx hΓ [3,5,7,10,76] [[3, 0],[5, 0],[7, 0]] (fun K' hK => by simp only [go_sem]; (repeat (refine ⟨obx, ?_⟩)); exact hK _ (by simp only [go_sem, hO]) (by simp only [go_sem] <;> rfl)) ?_
      refine cnd (fun hb => ?_) fun hb => ?_
      ·repeat refine sq ?_
       refine dx hΓ hP [[], [], [1], [1, 2], [1, 2, 3], [0], u6] [4,5] [[5, 0]] (by kernel_rfl) (fun K' hK => by simp only [go_sem]; (repeat (refine ⟨obx, ?_⟩)); (first | refine ⟨by rfl, ?_⟩ | skip); exact hK _ (by simp only [go_sem, hO]) (by simp only [go_sem] <;> rfl)) ?_
       refine cl_ret ?_
       simp only [go_sem, h0, h1, h2]
       first | (unfold wantsK; simp only [hat]; simp_all [allR]; done) | (unfold wantsK; simp only [hat]; rcases hbk : bkAt x.bk (r.so, s.le) with _ | j <;> simp_all [allR, noR]; done)
      ·refine cl_skip ?_
       refine cl_nil ?_
       simp only [go_sem]
       refine cl_keep [5,7] [[5, 0],[7, 0]] ?_ ?_
       ·simp only [go_sem, hO]
       simp only [go_sem]
       repeat refine sq ?_
       refine dx hΓ hP [[], [], [0, 1]] [4,5] [[5, 0]] (by kernel_rfl) (fun K' hK => by simp only [go_sem]; (repeat (refine ⟨obx, ?_⟩)); (first | refine ⟨by rfl, ?_⟩ | skip); exact hK _ (by simp only [go_sem, hO]) (by simp only [go_sem] <;> rfl)) ?_
       refine cl_ret ?_
       simp only [go_sem, h0, h1, h2]
       first | (unfold wantsK; simp only [hat]; simp_all [allR]; done) | (unfold wantsK; simp only [hat]; rcases hbk : bkAt x.bk (r.so, s.le) with _ | j <;> simp_all [allR, noR]; done)
 ·repeat refine sq ?_
  refine rx hΓ [0,3,5,6,7,8,9] [[3, 0],[5, 0],[6, 0],[7, 0],[8, 0]] (fun K' hK => by simp only [go_sem, h0, h1, h2, hat, rdO_some, Option.isSome_some]; (repeat (refine ⟨obx, ?_⟩)); exact hK _ (by simp only [go_sem, hO]) (by simp only [go_sem] <;> rfl)) ?_
  repeat refine sq ?_
  refine dx hΓ hP [[], [0], [0, 1], [0, 1, 2], [], [4], [], [6], [4, 5, 6, 7], u9, u10, u11, u11, u12, u14] [3,5,6,7,8,9,10,11] [[3, 0],[5, 0],[6, 0],[7, 0],[8, 0]] (by kernel_rfl) (fun K' hK => by simp only [go_sem, h0, h1, mget_bk]; (repeat (refine ⟨obx, ?_⟩)); (first | refine ⟨by rfl, ?_⟩ | skip); exact hK _ (by simp only [go_sem, hO]) (by simp only [go_sem] <;> rfl)) ?_
  repeat refine sq ?_
  refine cl_block ?_
  repeat refine sq ?_
  refine rx hΓ [3,5,6,7,8,9,10,11,39] [[3, 0],[5, 0],[6, 0],[7, 0],[8, 0]] (fun K' hK => by simp only [go_sem]; (repeat (refine ⟨obx, ?_⟩)); exact hK _ (by simp only [go_sem, hO]) (by simp only [go_sem] <;> rfl)) ?_
  refine cnd (fun hb => ?_) fun hb => ?_
  ·refine cl_skip ?_
   refine cnd (fun hb => ?_) fun hb => ?_
   ·repeat refine sq ?_
    refine dx hΓ hP [[], [], [0, 1]] [4,5] [[5, 0]] (by kernel_rfl) (fun K' hK => by simp only [go_sem]; (repeat (refine ⟨obx, ?_⟩)); (first | refine ⟨by rfl, ?_⟩ | skip); exact hK _ (by simp only [go_sem, hO]) (by simp only [go_sem] <;> rfl)) ?_
    refine cl_ret ?_
    simp only [go_sem, h0, h1, h2]
    first | (unfold wantsK; simp only [hat]; simp_all [allR]; done) | (unfold wantsK; simp only [hat]; rcases hbk : bkAt x.bk (r.so, s.le) with _ | j <;> simp_all [allR, noR]; done)
   ·repeat refine sq ?_
    refine rx hΓ [3,5,7,8,10,60] [[3, 0],[5, 0],[7, 0],[8, 0]] (fun K' hK => by simp only [go_sem]; (repeat (refine ⟨obx, ?_⟩)); exact hK _ (by simp only [go_sem, hO]) (by simp only [go_sem] <;> rfl)) ?_
    refine cnd (fun hb => ?_) fun hb => ?_
    ·repeat refine sq ?_
     refine dx hΓ hP [[], [], [0, 1]] [4,5] [[5, 0]] (by kernel_rfl) (fun K' hK => by simp only [go_sem]; (repeat (refine ⟨obx, ?_⟩)); (first | refine ⟨by rfl, ?_⟩ | skip); exact hK _ (by simp only [go_sem, hO]) (by simp only [go_sem] <;> rfl)) ?_
     refine cl_ret ?_
     simp only [go_sem, h0, h1, h2]
     first | (unfold wantsK; simp only [hat]; simp_all [allR]; done) | (unfold wantsK; simp only [hat]; rcases hbk : bkAt x.bk (r.so, s.le) with _ | j <;> simp_all [allR, noR]; done)
    ·repeat refine sq ?_
     refine rx hΓ [3,5,7,8,10,68] [[3, 0],[5, 0],[7, 0],[8, 0]] (fun K' hK => by simp only [go_sem]; (repeat (refine ⟨obx, ?_⟩)); exact hK _ (by simp only [go_sem, hO]) (by simp only [go_sem] <;> rfl)) ?_
     refine cnd (fun hb => ?_) fun hb => ?_
     ·repeat refine sq ?_
      refine dx hΓ hP [[], [], [1], [1, 2], [0], u5] [4,5] [[5, 0]] (by kernel_rfl) (fun K' hK => by simp only [go_sem]; (repeat (refine ⟨obx, ?_⟩)); (first | refine ⟨by rfl, ?_⟩ | skip); exact hK _ (by simp only [go_sem, hO]) (by simp only [go_sem] <;> rfl)) ?_
      refine cl_ret ?_
      simp only [go_sem, h0, h1, h2]
      first | (unfold wantsK; simp only [hat]; simp_all [allR]; done) | (unfold wantsK; simp only [hat]; rcases hbk : bkAt x.bk (r.so, s.le) with _ | j <;> simp_all [allR, noR]; done)
     ·repeat refine sq ?_
      refine rx hΓ [3,5,7,10,76] [[3, 0],[5, 0],[7, 0]] (fun K' hK => by simp only [go_sem]; (repeat (refine ⟨obx, ?_⟩)); exact hK _ (by simp only [go_sem, hO]) (by simp only [go_sem] <;> rfl)) ?_
      refine cnd (fun hb => ?_) fun hb => ?_
      ·repeat refine sq ?_
       refine dx hΓ hP [[], [], [1], [1, 2], [1, 2, 3], [0], u6] [4,5] [[5, 0]] (by kernel_rfl) (fun K' hK => by simp only [go_sem]; (repeat (refine ⟨obx, ?_⟩)); (first | refine ⟨by rfl, ?_⟩ | skip); exact hK _ (by simp only [go_sem, hO]) (by simp only [go_sem] <;> rfl)) ?_
       refine cl_ret ?_
       simp only [go_sem, h0, h1, h2]
       first | (unfold wantsK; simp only [hat]; simp_all [allR]; done) | (unfold wantsK; simp only [hat]; rcases hbk : bkAt x.bk (r.so, s.le) with _ | j <;> simp_all [allR, noR]; done)
      ·refine cl_skip ?_
       refine cl_nil ?_
       simp only [go_sem]
       refine cl_keep [5,7] [[5, 0],[7, 0]] ?_ ?_
       ·simp only [go_sem, hO]
       simp only [go_sem]
       repeat refine sq ?_
       refine dx hΓ hP [[], [], [0, 1]] [4,5] [[5, 0]] (by kernel_rfl) (fun K' hK => by simp only [go_sem]; (repeat (refine ⟨obx, ?_⟩)); (first | refine ⟨by rfl, ?_⟩ | skip); exact hK _ (by simp only [go_sem, hO]) (by simp only [go_sem] <;> rfl)) ?_
       refine cl_ret ?_
       simp only [go_sem, h0, h1, h2]
       first | (unfold wantsK; simp only [hat]; simp_all [allR]; done) | (unfold wantsK; simp only [hat]; rcases hbk : bkAt x.bk (r.so, s.le) with _ | j <;> simp_all [allR, noR]; done)
  ·refine rx hΓ [3,5,6,7,8,9,10,11,39] [[3, 0],[5, 0],[6, 0],[7, 0],[8, 0]] (fun K' hK => by simp only [go_sem]; (repeat (refine ⟨obx, ?_⟩)); exact hK _ (by simp only [go_sem, hO]) (by simp only [go_sem] <;> rfl)) ?_
   refine cnd (fun hb => ?_) fun hb => ?_
   ·repeat refine sq ?_
    refine dx hΓ hP [[], [], [0, 1]] [4,5] [[5, 0]] (by kernel_rfl) (fun K' hK => by simp only [go_sem]; (repeat (refine ⟨obx, ?_⟩)); (first | refine ⟨by rfl, ?_⟩ | skip); exact hK _ (by simp only [go_sem, hO]) (by simp only [go_sem] <;> rfl)) ?_
    refine cl_ret ?_
    simp only [go_sem, h0, h1, h2]
    first | (unfold wantsK; simp only [hat]; simp_all [allR]; done) | (unfold wantsK; simp only [hat]; rcases hbk : bkAt x.bk (r.so, s.le) with _ | j <;> simp_all [allR, noR]; done)
   ·repeat refine sq ?_
    refine rx hΓ [3,5,7,8,10,60] [[3, 0],[5, 0],[7, 0],[8, 0]] (fun K' hK => by simp only [go_sem]; (repeat (refine ⟨obx, ?_⟩)); exact hK _ (by simp only [go_sem, hO]) (by simp only [go_sem] <;> rfl)) ?_
    refine cnd (fun hb => ?_) fun hb => ?_
    ·repeat refine sq ?_
     refine dx hΓ hP [[], [], [0, 1]] [4,5] [[5, 0]] (by kernel_rfl) (fun K' hK => by simp only [go_sem]; (repeat (refine ⟨obx, ?_⟩)); (first | refine ⟨by rfl, ?_⟩ | skip); exact hK _ (by simp only [go_sem, hO]) (by simp only [go_sem] <;> rfl)) ?_
     refine cl_ret ?_
     simp only [go_sem, h0, h1, h2]
     first | (unfold wantsK; simp only [hat]; simp_all [noR]; done) | (unfold wantsK; simp only [hat]; rcases hbk : bkAt x.bk (r.so, s.le) with _ | j <;> simp_all [allR, noR]; done)
    ·repeat refine sq ?_
     refine rx hΓ [3,5,7,8,10,68] [[3, 0],[5, 0],[7, 0],[8, 0]] (fun K' hK => by simp only [go_sem]; (repeat (refine ⟨obx, ?_⟩)); exact hK _ (by simp only [go_sem, hO]) (by simp only [go_sem] <;> rfl)) ?_
     refine cnd (fun hb => ?_) fun hb => ?_
     ·repeat refine sq ?_
      refine dx hΓ hP [[], [], [1], [1, 2], [0], u5] [4,5] [[5, 0]] (by kernel_rfl) (fun K' hK => by simp only [go_sem]; (repeat (refine ⟨obx, ?_⟩)); (first | refine ⟨by rfl, ?_⟩ | skip); exact hK _ (by simp only [go_sem, hO]) (by simp only [go_sem] <;> rfl)) ?_
      refine cl_ret ?_
      simp only [go_sem, h0, h1, h2]
      first | (unfold wantsK; simp only [hat]; simp_all [allR, noR]; done) | (unfold wantsK; simp only [hat]; rcases hbk : bkAt x.bk (r.so, s.le) with _ | j <;> simp_all [allR]; done)
     ·repeat refine sq ?_
      refine rx hΓ [3,5,7,10,76] [[3, 0],[5, 0],[7, 0]] (fun K' hK => by simp only [go_sem]; (repeat (refine ⟨obx, ?_⟩)); exact hK _ (by simp only [go_sem, hO]) (by simp only [go_sem] <;> rfl)) ?_
      refine cnd (fun hb => ?_) fun hb => ?_
      ·repeat refine sq ?_
       refine dx hΓ hP [[], [], [1], [1, 2], [1, 2, 3], [0], u6] [4,5] [[5, 0]] (by kernel_rfl) (fun K' hK => by simp only [go_sem]; (repeat (refine ⟨obx, ?_⟩)); (first | refine ⟨by rfl, ?_⟩ | skip); exact hK _ (by simp only [go_sem, hO]) (by simp only [go_sem] <;> rfl)) ?_
       refine cl_ret ?_
       simp only [go_sem, h0, h1, h2]
       first | (unfold wantsK; simp only [hat]; simp_all [allR]; done) | (unfold wantsK; simp only [hat]; rcases hbk : bkAt x.bk (r.so, s.le) with _ | j <;> simp_all [allR]; done)
      ·refine cl_skip ?_
       refine cl_nil ?_
       simp only [go_sem]
       refine cl_keep [5,7] [[5, 0],[7, 0]] ?_ ?_
       ·simp only [go_sem, hO]
       simp only [go_sem]
       repeat refine sq ?_
       refine dx hΓ hP [[], [], [0, 1]] [4,5] [[5, 0]] (by kernel_rfl) (fun K' hK => by simp only [go_sem]; (repeat (refine ⟨obx, ?_⟩)); (first | refine ⟨by rfl, ?_⟩ | skip); exact hK _ (by simp only [go_sem, hO]) (by simp only [go_sem] <;> rfl)) ?_
       refine cl_ret ?_
       simp only [go_sem, h0, h1, h2]
       first | (unfold wantsK; simp only [hat]; simp_all [noR]; done) | (unfold wantsK; simp only [hat]; rcases hbk : bkAt x.bk (r.so, s.le) with _ | j <;> simp_all [noR]; done)
end
noncomputable section
theorem all_take {α : Type} {p : α → Bool} {l : List α} {i : Nat} (h : i < l.length) : (l.take (i + 1)).all p = ((l.take i).all p && p l[i]) := by
 rw [List.take_add_one, List.getElem?_eq_getElem h, List.all_append]
 simp
theorem fitD_succ {x : Vw} {d : Ds} {l : List Sig} {i : Nat} (h : i < l.length) : fitD x d (l.take (i + 1)) = fitStep x (fitD x d (l.take i)) l[i] := by
 unfold fitD
 rw [List.take_add_one, List.getElem?_eq_getElem h, List.foldl_append]
 rfl
theorem wants_ds (x : Vw) (d : Ds) (s : Sig) : wantsK ⟨x.l, x.rs, x.ts, x.bk, d⟩ s = wantsK x s := rfl
theorem VOk.ds {x : Vw} (h : VOk x) (d : Ds) : VOk ⟨x.l, x.rs, x.ts, x.bk, d⟩ := ⟨h.ok, h.bk, h.rs, h.rn, h.tn, h.ts⟩
theorem nar_ds (x : Vw) (d : Ds) (i : Int) (r : Rg) : narD ⟨x.l, x.rs, x.ts, x.bk, d⟩ i r = nar d i r := rfl
theorem OutC_21 {H H' : Name → Option O} {es0 : List (V × V)} (hH' : upd H [2, 1] (some (.map 0 es0)) = H') (hO2 : ∀ hs es, OutC [0] (domOf [0] hs) (fun nm => if nm = [2, 1] then some (.map 0 es) else H nm) = True) :
  (∀ hs, OutC [0] (domOf [0] hs) H' = True) ∧ ∀ hs es, OutC [0] (domOf [0] hs) (fun nm => if nm = [2, 1] then some (.map 0 es) else H' nm) = True := by
 refine ⟨fun hs => by rw [← hH']; exact hO2 hs es0, fun hs es => ?_⟩
 have e : (fun nm => if nm = [2, 1] then some (.map 0 es) else H' nm) = fun nm => if nm = [2, 1] then some (.map 0 es) else H nm := by
  funext nm
  rw [← hH']
  by_cases e : nm = [2, 1]
  ·simp [e]
  ·simp [upd_ne _ _ _ e, e]
 rw [e]; exact hO2 hs es
theorem upd_own {α β : Type} [DecidableEq α] {f : α → β} {a : α} {b : β} (h : f a = b) : upd f a b = f := by
 funext x
 by_cases e : x = a
 ·subst e; rw [upd_same, h]
 ·rw [upd_ne _ _ _ e]
def rngB (d : Ds) (i : Int) : Bool := decide ((dsAt d i).1 ≤ (dsAt d i).2)
def K27 : List (Nat × Spec) := [(187, S187), (165, S165)]
theorem K27_sound : KS K27 := tc k187 <| tc k165 <| tn
attribute [go_sem] K27
def V128 : VSpec := v1 (iSl iS) (fun x l => ((VOk x ∧ x.rs.Nodup) ∧ l.length ≤ 60) ∧ ∀ s ∈ l, sigD s) (fun x l => .v (.bool (fitB x l))) (some fun x l => fitD x x.ds l)
def S128 : Spec := V128.toSpec
attribute [go_sem] V128 S128
set_option maxHeartbeats 8000000 in
theorem k128 : SSound Tryz.prog 128 S128 := by
 refine vw1 (rs := [.tmp 4]) Tryz.func128 Tryz.ntmps128 (by rfl) (by kernel_rfl) (by decide) (fun _ _ => by first | rfl | simp [D.clos, D.closL, rdO_clos]) ⟨_, rfl, lb rfl, fun x l hp H h0 h1 h2 hO hO2 => ?_⟩
 simp only [iS, iSl, boxV, argsD, List.map_cons, List.map_nil, Nat.zero_add, Option.map_some] at h0 ⊢
 have hΓ := K27_sound
 obtain ⟨⟨⟨hv, hnd⟩, hln⟩, hsd⟩ := hp
 have hll : l.length ≤ maxLen := by unfold maxLen; omega
 have htl : x.ts.length ≤ maxLen := by have := hv.tn; unfold maxLen; omega
 have hO3 : ∀ hs es, OutC [0] (domOf [0] hs) (upd H [2, 1] (some (.map 0 es))) = True := hO2
 repeat refine sq ?_
 refine rx hΓ [0,1] [] (fun K' hK => by simp only [go_sem]; (repeat (refine ⟨obx, ?_⟩)); exact hK _ (by simp only [go_sem, hO]) (by simp only [go_sem] <;> rfl)) ?_
 repeat refine sq ?_
 refine rx hΓ [0,1,5] [] (fun K' hK => by simp only [go_sem]; (repeat (refine ⟨obx, ?_⟩)); exact hK _ (by simp only [go_sem, hO]) (by simp only [go_sem] <;> rfl)) ?_
 repeat refine sq ?_
 refine rx hΓ [0,1,5,6] [] (fun K' hK => by simp only [go_sem]; (repeat (refine ⟨obx, ?_⟩)); exact hK _ (by simp only [go_sem, hO]) (by simp only [go_sem] <;> rfl)) ?_
 repeat refine sq ?_
 refine rx hΓ [0,5,6,16,17,18] [] (fun K' hK => by simp only [go_sem]; (repeat (refine ⟨obx, ?_⟩)); exact hK _ (by simp only [go_sem, hO]) (by simp only [go_sem] <;> rfl)) ?_
 refine cl_block ?_
 refine cl_loopH (fun s : Nat => upd H [2, 1] (some (.map 0 (encDs (fitD x x.ds (l.take s)))))) (fun s : Nat => [(18, ⟨true, .v (vInt s)⟩), (5, ⟨true, .v (.bool ((l.take s).all (mayS x)))⟩)]) (fun s => []) (fun s => s ≤ l.length) (fun s => l.length - s) 0 ?_ ?_ ?_ ?_ ?_
 ·exact Nat.zero_le _
 ·congr 1; exact upd_own h2
 ·rfl
 ·rfl
 rintro i hi
 generalize hH' : upd H [2, 1] (some (.map 0 (encDs (fitD x x.ds (l.take i))))) = H'
 have h0 := (show H' [0, 1] = H [0, 1] by rw [← hH', upd_ne _ _ _ (by decide)]).trans h0
 have h1 := (show H' [1, 1] = H [1, 1] by rw [← hH', upd_ne _ _ _ (by decide)]).trans h1
 have h2 : H' [2, 1] = some (.map 0 (encDs (fitD x x.ds (l.take i)))) := by rw [← hH', upd_same]
 obtain ⟨hO, hO2⟩ := OutC_21 hH' hO2
 have hO3 : ∀ hs es, OutC [0] (domOf [0] hs) (upd H' [2, 1] (some (.map 0 es))) = True := hO2
 simp only [go_sem]
 repeat refine sq ?_
 refine rx hΓ [0,5,6,16,17,18,19] [] (fun K' hK => by simp only [go_sem]; (repeat (refine ⟨obx, ?_⟩)); exact hK _ (by simp only [go_sem, hO]) (by simp only [go_sem] <;> rfl)) ?_
 repeat refine sq ?_
 refine cnd (fun hb => ?_) fun hb => ?_
 ·have hlt : i < l.length := by simpa using hb
  have hlt' : (i : Int) < l.length := by omega
  clear hb
  have hs1 := hsd l[i] (List.getElem_mem hlt)
  refine cl_skip ?_
  repeat refine sq ?_
  refine cl_block ?_
  repeat refine sq ?_
  refine rx hΓ [0,5,6,8,16,17,18] [[8, 0]] (fun K' hK => by simp only [go_sem, map_getD hlt, tnI, nnI, hlt']; (repeat (refine ⟨obx, ?_⟩)); exact hK _ (by simp only [go_sem, hO]) (by simp only [go_sem] <;> rfl)) ?_
  repeat refine sq ?_
  refine rx hΓ [0,5,6,9,10,16,17,18] [[10, 0]] (fun K' hK => by simp only [go_sem, h0, h1, h2, wants_ds]; (repeat (refine ⟨by first | exact obx | exact ⟨⟨hv.ds _, hnd⟩, hs1⟩, ?_⟩)); exact hK _ (by simp only [go_sem, hO]) (by simp only [go_sem] <;> rfl)) ?_
  repeat refine sq ?_
  refine rx hΓ [0,5,6,9,10,16,17,18,29] [[10, 0]] (fun K' hK => by simp only [go_sem]; (repeat (refine ⟨obx, ?_⟩)); exact hK _ (by simp only [go_sem, hO]) (by simp only [go_sem] <;> rfl)) ?_
  refine cnd (fun hb => ?_) fun hb => ?_
  ·have hw1 : (wantsK x l[i]).1 ≥ 0 := by simpa using hb
   have hA : (l.take (i + 1)).all (mayS x) = (l.take i).all (mayS x) := by rw [all_take hlt]; simp [mayS, hw1]
   have hF : fitD x x.ds (l.take (i + 1)) = nar (fitD x x.ds (l.take i)) (wantsK x l[i]).1 (wantsK x l[i]).2 := by rw [fitD_succ hlt, fitStep, if_pos hw1]
   refine cl_r hΓ fun K' hK => ?_
   simp only [go_sem, h0, h1, h2, nar_ds]
   repeat (refine ⟨obx, ?_⟩)
   refine hK _ ?_
   clear K' hK
   simp only [go_sem]
   refine cl_keep [0,5,6,16,17,18] [] ?_ ?_
   ·simp only [go_sem, hO3]
   simp only [go_sem]
   refine cl_r hΓ fun K' hK => ?_
   simp only [go_sem]
   repeat (refine ⟨obx, ?_⟩)
   refine hK _ ?_
   clear K' hK
   simp only [go_sem]
   refine ⟨i + 1, hlt, by (show l.length - (i + 1) < l.length - i; omega), ?_⟩
   refine weak_eq [0,5,6,16,17,18] [] ?_ ?_
   ·simp only [go_sem, wrap_succ hlt hll, csI, hO2]
   ·simp only [go_sem, wrap_succ hlt hll, csI, hA, hF]
    all_goals first | (rw [← hH']; done) | (congr 1; funext nm; rw [← hH']; by_cases e : nm = [2, 1] <;> simp [e, upd_same, upd_ne])
  ·repeat refine sq ?_
   have hw1 : ¬ (wantsK x l[i]).1 ≥ 0 := by simpa using hb
   have hF : fitD x x.ds (l.take (i + 1)) = fitD x x.ds (l.take i) := by rw [fitD_succ hlt, fitStep, if_neg hw1]
   refine rx hΓ [0,5,6,16,17,18,38] [] (fun K' hK => by simp only [go_sem]; (repeat (refine ⟨obx, ?_⟩)); exact hK _ (by simp only [go_sem, hO]) (by simp only [go_sem] <;> rfl)) ?_
   refine cnd (fun hb => ?_) fun hb => ?_
   ·have hA : (l.take (i + 1)).all (mayS x) = false := by rw [all_take hlt]; simp [mayS, hw1]; intro _; simpa using hb
    refine cl_r hΓ fun K' hK => ?_
    simp only [go_sem]
    repeat (refine ⟨obx, ?_⟩)
    refine hK _ ?_
    clear K' hK
    simp only [go_sem]
    refine cl_keep [0,5,6,16,17,18] [] ?_ ?_
    ·simp only [go_sem, hO]
    simp only [go_sem]
    refine cl_r hΓ fun K' hK => ?_
    simp only [go_sem]
    repeat (refine ⟨obx, ?_⟩)
    refine hK _ ?_
    clear K' hK
    simp only [go_sem]
    refine ⟨i + 1, hlt, by (show l.length - (i + 1) < l.length - i; omega), ?_⟩
    refine weak_eq [0,5,6,16,17,18] [] ?_ ?_
    ·simp only [go_sem, wrap_succ hlt hll, csI, hO]
    ·simp only [go_sem, wrap_succ hlt hll, csI, hA, hF]
     all_goals first | (rw [← hH']; done) | (congr 1; funext nm; rw [← hH']; by_cases e : nm = [2, 1] <;> simp [e, upd_same, upd_ne])
   ·have hA : (l.take (i + 1)).all (mayS x) = (l.take i).all (mayS x) := by rw [all_take hlt]; simp [mayS, hw1]; intro _; simpa using hb
    refine cl_skip ?_
    refine cl_nil ?_
    simp only [go_sem]
    refine cl_keep [0,5,6,16,17,18] [] ?_ ?_
    ·simp only [go_sem, hO]
    simp only [go_sem]
    refine cl_r hΓ fun K' hK => ?_
    simp only [go_sem]
    repeat (refine ⟨obx, ?_⟩)
    refine hK _ ?_
    clear K' hK
    simp only [go_sem]
    refine ⟨i + 1, hlt, by (show l.length - (i + 1) < l.length - i; omega), ?_⟩
    refine weak_eq [0,5,6,16,17,18] [] ?_ ?_
    ·simp only [go_sem, wrap_succ hlt hll, csI, hO]
    ·simp only [go_sem, wrap_succ hlt hll, csI, hA, hF]
     all_goals first | (rw [← hH']; done) | (congr 1; funext nm; rw [← hH']; by_cases e : nm = [2, 1] <;> simp [e, upd_same, upd_ne])
 ·have hge : i = l.length := by
   have : ¬ (i : Int) < l.length := by simpa using hb
   omega
  clear hb
  subst hge
  refine cl_exit ?_
  simp only [go_sem]
  refine cl_keep [0,5] [] ?_ ?_
  ·simp only [go_sem, hO]
  simp only [go_sem]
  repeat refine sq ?_
  refine rx hΓ [0,5,43,44,45] [] (fun K' hK => by simp only [go_sem, h0]; (repeat (refine ⟨obx, ?_⟩)); exact hK _ (by simp only [go_sem, hO]) (by simp only [go_sem] <;> rfl)) ?_
  refine cl_block ?_
  refine cl_loop'  (fun s : Nat => [(45, ⟨true, .v (vInt s)⟩), (5, ⟨true, .v (.bool ((x.ts.take s).all (rngB (fitD x x.ds (l.take l.length))) && (l.take l.length).all (mayS x)))⟩)]) (fun s => []) (fun s => s ≤ x.ts.length) (fun s => x.ts.length - s) 0 ?_ ?_ ?_ ?_
  ·exact Nat.zero_le _
  ·rfl
  ·rfl
  rintro i1 hi
  generalize hB : ((x.ts.take i1).all (rngB (fitD x x.ds (l.take l.length))) && (l.take l.length).all (mayS x)) = B
  simp only [go_sem]
  repeat refine sq ?_
  refine rx hΓ [0,5,43,44,45,46] [] (fun K' hK => by simp only [go_sem]; (repeat (refine ⟨obx, ?_⟩)); exact hK _ (by simp only [go_sem, hO]) (by simp only [go_sem] <;> rfl)) ?_
  repeat refine sq ?_
  refine cnd (fun hb => ?_) fun hb => ?_
  ·have hlt1 : i1 < x.ts.length := by simpa using hb
   have hlt1' : (i1 : Int) < x.ts.length := by omega
   clear hb
   have hA : ((x.ts.take (i1 + 1)).all (rngB (fitD x x.ds (l.take l.length))) && (l.take l.length).all (mayS x)) = (B && decide ((dsAt (fitD x x.ds (l.take l.length)) x.ts[i1]).1 ≤ (dsAt (fitD x x.ds (l.take l.length)) x.ts[i1]).2)) := by
    rw [← hB, all_take hlt1, Bool.and_assoc, Bool.and_assoc, Bool.and_comm (rngB _ _)]; rfl
   refine cl_skip ?_
   repeat refine sq ?_
   refine cl_block ?_
   repeat refine sq ?_
   refine rx hΓ [0,5,12,43,44,45] [] (fun K' hK => by simp only [go_sem, map_getD hlt1, tnI, nnI, hlt1']; (repeat (refine ⟨obx, ?_⟩)); exact hK _ (by simp only [go_sem, hO]) (by simp only [go_sem] <;> rfl)) ?_
   repeat refine sq ?_
   refine rx hΓ [0,5,13,43,44,45] [[13, 0]] (fun K' hK => by simp only [go_sem, h0, h2, mget_ds]; (repeat (refine ⟨obx, ?_⟩)); exact hK _ (by simp only [go_sem, hO]) (by simp only [go_sem] <;> rfl)) ?_
   refine cl_r hΓ fun K' hK => ?_
   simp only [go_sem]
   repeat (refine ⟨obx, ?_⟩)
   refine hK _ ?_
   clear K' hK
   simp only [go_sem]
   refine cl_keep [0,5,43,44,45] [] ?_ ?_
   ·simp only [go_sem, hO]
   simp only [go_sem]
   refine cl_r hΓ fun K' hK => ?_
   simp only [go_sem]
   repeat (refine ⟨obx, ?_⟩)
   refine hK _ ?_
   clear K' hK
   simp only [go_sem]
   refine ⟨i1 + 1, hlt1, by (show x.ts.length - (i1 + 1) < x.ts.length - i1; omega), ?_⟩
   refine weak_eq [0,5,43,44,45] [] ?_ ?_ <;> simp only [go_sem, wrap_succ hlt1 htl, csI, hO, hA]
  ·have hge1 : i1 = x.ts.length := by
    have : ¬ (i1 : Int) < x.ts.length := by simpa using hb
    omega
   clear hb
   subst hge1
   refine cl_exit ?_
   simp only [go_sem]
   refine cl_keep [5] [] ?_ ?_
   ·simp only [go_sem, hO]
   simp only [go_sem]
   repeat refine sq ?_
   refine rx hΓ [4] [] (fun K' hK => by simp only [go_sem]; (repeat (refine ⟨obx, ?_⟩)); exact hK _ (by simp only [go_sem, hO]) (by simp only [go_sem] <;> rfl)) ?_
   refine cl_ret ?_
   simp only [go_sem, h0, h1, h2]
   rw [← hB]; simp only [List.take_length]; exact ⟨by unfold fitB fineD; rw [Bool.and_comm]; rfl, trivial⟩
end
open Go
structure Ro (α : Type) where
 m : Nat
 fam : α → List Name → List O
 args : α → List Name → List D
 ok : α → Prop
 val : α → D
structure Ro.Ok {α : Type} (r : Ro α) : Prop where
 len : ∀ a Ls, Ls.length = r.m → (r.fam a Ls).length = r.m
 renF : ∀ a f Ls, Ls.length = r.m → (r.fam a Ls).map (O.ren f) = r.fam a (Ls.map f)
 renA : ∀ a f Ls, Ls.length = r.m → D.renL f (r.args a Ls) = r.args a (Ls.map f)
 reach : ∀ a Ls obj, Ls.length = r.m → Ls.Nodup → objAll obj Ls (r.fam a Ls) → reach obj (r.args a Ls) = Ls
 closF : ∀ a dom Ls, Ls.length = r.m → (∀ x ∈ Ls, dom x = true) → ∀ o ∈ r.fam a Ls, O.clos dom o = true
 closA : ∀ a dom Ls, Ls.length = r.m → (∀ x ∈ Ls, dom x = true) → D.closL dom (r.args a Ls) = true
 det : ∀ a b, r.ok a → r.ok b → r.fam a (LR r.m) = r.fam b (LR r.m) → r.args a (LR r.m) = r.args b (LR r.m) → r.val a = r.val b
 vcl : ∀ a dom, D.clos dom (r.val a) = true
 vren : ∀ a f, (r.val a).ren f = r.val a
variable {α : Type}
noncomputable def Ro.c (r : Ro α) : CSpec where
 pre := fun os ds => ∃ a, r.ok a ∧ os = r.fam a (LR r.m) ∧ ds = r.args a (LR r.m)
 out := fun os ds => ⟨[], [], by classical exact if h : ∃ a, r.ok a ∧ os = r.fam a (LR r.m) ∧ ds = r.args a (LR r.m) then r.val h.choose else .any⟩
theorem Ro.c_out {r : Ro α} (hr : r.Ok) {a : α} (ha : r.ok a) : r.c.out (r.fam a (LR r.m)) (r.args a (LR r.m)) = ⟨[], [], r.val a⟩ := by
 have h : ∃ b, r.ok b ∧ r.fam a (LR r.m) = r.fam b (LR r.m) ∧ r.args a (LR r.m) = r.args b (LR r.m) := ⟨a, ha, rfl, rfl⟩
 have e : r.val h.choose = r.val a := (hr.det _ _ ha h.choose_spec.1 h.choose_spec.2.1 h.choose_spec.2.2).symm
 simp only [Ro.c]
 rw [dif_pos h, e]
theorem Ro.c_app {r : Ro α} (hr : r.Ok) {a : α} (ha : r.ok a) {obj : Name → Option O} {t : Name} {Ls : List Name} (hl : Ls.length = r.m) (hn : Ls.Nodup) (hF : objAll obj Ls (r.fam a Ls)) :
  r.c.toSpec.app obj t (r.args a Ls) = ⟨True, r.val a, obj⟩ := by
 have hreach := hr.reach a Ls obj hl hn hF
 have hcan : Ls.map (cin Ls) = LR r.m := by rw [cin_all hn, hl]
 have e1 : cOs obj (r.args a Ls) = r.fam a (LR r.m) := by
  unfold cOs
  rw [hreach]
  have hF' := hF
  rw [objAll_iff] at hF'
  have : Ls.map (canonO Ls obj) = (r.fam a Ls).map (O.ren (cin Ls)) := by
   refine List.ext_getElem (by simp [hr.len _ _ hl, hl]) fun i h1 h2 => ?_
   have h3 : i < Ls.length := by simpa using h1
   have h4 : i < (r.fam a Ls).length := by rw [hr.len _ _ hl, ← hl]; exact h3
   have h5 := congrArg (fun l => l[i]?) hF'
   have h6 : obj Ls[i] = some (r.fam a Ls)[i] := by simpa [h3, h4] using h5
   simp only [List.getElem_map, canonO, h6]
  rw [this, hr.renF _ _ _ hl, hcan]
 have e2 : cDs obj (r.args a Ls) = r.args a (LR r.m) := by
  unfold cDs
  rw [hreach, hr.renA _ _ _ hl, hcan]
 have hin : ∀ x ∈ Ls, inL Ls x = true := fun x hx => inL_iff.2 hx
 have hsh : shut obj Ls = true := by
  unfold shut
  rw [List.all_eq_true]
  intro x hx
  obtain ⟨i, hi, rfl⟩ := List.getElem_of_mem hx
  have hF' := hF
  rw [objAll_iff] at hF'
  have h4 : i < (r.fam a Ls).length := by rw [hr.len _ _ hl, ← hl]; exact hi
  have h5 := congrArg (fun l => l[i]?) hF'
  have h6 : obj Ls[i] = some (r.fam a Ls)[i] := by simpa [hi, h4] using h5
  rw [h6]
  exact hr.closF _ _ _ hl hin _ (List.getElem_mem h4)
 have hpre : r.c.pre (r.fam a (LR r.m)) (r.args a (LR r.m)) := ⟨a, ha, rfl, rfl⟩
 simp only [CSpec.toSpec, e1, e2, hreach, Ro.c_out hr ha, hsh, hr.closA _ _ _ hl hin, fresh, List.all_nil, Bool.and_self, hpre, and_self, putN, putU, hr.vren]
def retRo (P : Program) (rs : List ResultVar) (v : D) (H : Name → Option O) (e : Exit) (σ : S) : Prop :=
 (e = .normal ∨ e = .ret) ∧ (resAll P σ rs).ok ∧ (resAll P σ rs).d = v ∧ ∀ i, σ.obj [i, 1] = H [i, 1]
theorem objsOk_nil {σ : S} : ∀ {os : List O} {k : Nat}, (∀ i (h : i < os.length), σ.obj [k + i, 1] = some os[i]) → objsOk σ [] k os
 | [], _, _ => trivial
 | o :: r, k, h => by
  refine ⟨by have := h 0 (by simp); simp only [Nat.add_zero, List.getElem_cons_zero] at this; exact this, objsOk_nil fun i hi => ?_⟩
  have := h (i + 1) (by simpa using hi)
  rw [show k + 1 + i = k + (i + 1) by omega]
  simpa using this
theorem Ro.sound {P : Program} {r : Ro α} (hr : r.Ok) {f : FuncId} {fn : Func} {nt : Nat} {rs : List ResultVar} (hf : P.funcs[f]? = some fn) (hnt : fn.ntmps = nt) (hrs : fn.results.toList = rs) (hn : (fn.name == "runtime.NumGoroutine") = false) (hy : f < 1000000000)
  (hw : ∃ c, fn.body = some c ∧ ∀ a, r.ok a → (r.args a (LR r.m)).length ≤ nt ∧ CL P [c] (mkS nt [0] (outH (r.fam a (LR r.m))) (argsD 0 (r.args a (LR r.m))) []) (retRo P rs (r.val a) (outH (r.fam a (LR r.m))))) : SSound P f r.c.toSpec := by
 obtain ⟨c, hc, hw⟩ := hw
 refine csound hf hc hnt hrs (enter_of hf hc hn) (Nat.ne_of_lt (show f < yid from hy)) ?_
 rintro os ds ⟨a, ha, rfl, rfl⟩
 obtain ⟨hl, h⟩ := hw a ha
 refine ⟨hl, ?_⟩
 rw [Ro.c_out hr ha]
 refine CW.mono (cl_of h) ?_
 rintro e σ ⟨he, h1, h2, h3⟩
 have fin : (resAll P σ rs).ok ∧ (resAll P σ rs).d = r.val a ∧ endC (r.fam a (LR r.m)) ⟨[], [], r.val a⟩ σ := by
  refine ⟨h1, h2, objsOk_nil fun i hi => ?_, trivial, ?_⟩
  ·rw [Nat.zero_add, h3]
   show (r.fam a (LR r.m))[i]? = _
   rw [List.getElem?_eq_getElem hi]
  ·simp [hr.vcl, distinct]
 rcases he with rfl | rfl
 ·exact fin
 ·exact fin
theorem Ro.outC {r : Ro α} (hr : r.Ok) (a : α) : ∀ hs, OutC [0] (domOf [0] hs) (outH (r.fam a (LR r.m))) = True := fun hs => eq_true (outC_outs (fun o ho dom hd => hr.closF a dom _ (LR_len _) (fun x hx => by
 obtain ⟨i, _, rfl⟩ := List.mem_map.1 hx
 exact hd i) o ho) hs)
set_option maxHeartbeats 8000000
set_option maxRecDepth 10000
noncomputable section
attribute [go_sem] retRo
theorem names4 {Ls : List Name} (h : Ls.length = 4) : ∃ a b c d, Ls = [a, b, c, d] := by
 match Ls, h with
 | [a, b, c, d], _ => exact ⟨a, b, c, d, rfl⟩
def gBox (x : Vw) (nr nb nd : Name) : O := .box [.v (encLp x.l), .v (.sl (x.rs.map encR)), .msl nr x.ts.length, .map nb, .map nd]
def gFam (x : Vw) (Ls : List Name) : List O := [gBox x (Ls.getD 1 []) (Ls.getD 2 []) (Ls.getD 3 []), .arr 1 (x.ts.map vInt), .map 2 (encBk x.bk), .map 0 (encDs x.ds)]
theorem gBox_rs {x y : Vw} {a b c : Name} (h : gBox x a b c = gBox y a b c) : x.rs = y.rs := by
 simp only [gBox, O.box.injEq, List.cons.injEq, D.v.injEq, V.sl.injEq] at h
 have := congrArg (List.map decR) h.2.1
 rwa [decR_map, decR_map] at this
def rcRo : Ro (Vw × Int) where
 m := 4
 fam := fun a Ls => gFam a.1 Ls
 args := fun a Ls => [.ref (Ls.getD 0 []) 0, .v (vInt a.2)]
 ok := fun _ => True
 val := fun a => .tup [rdO (rcOf a.1.rs a.2), .v (.bool (rcOf a.1.rs a.2).isSome)]
theorem rdO_ren (o : Option Rec) (f : Name → Name) : (rdO o).ren f = rdO o := by cases o <;> rfl
theorem rcRo_ok : rcRo.Ok where
 len := fun _ _ _ => rfl
 renF := fun a f Ls h => by obtain ⟨a, b, c, d, rfl⟩ := names4 h; rfl
 renA := fun a f Ls h => by obtain ⟨a, b, c, d, rfl⟩ := names4 h; rfl
 reach := fun x Ls obj h hnd hF => by
  obtain ⟨a, b, c, d, rfl⟩ := names4 h
  obtain ⟨h1, h2, h3, h4, _⟩ := hF
  have en : namesL (rcRo.args x [a, b, c, d]) = [a] := rfl
  unfold Go.Eng.reach
  rw [en]
  show reachL obj (2993 + 1 + 1 + 1 + 1 + 1 + 1 + 1) _ [] = _
  simp only [List.nodup_cons, List.mem_cons, List.not_mem_nil, or_false, not_or, not_false_eq_true, List.nodup_nil, and_true] at hnd
  obtain ⟨⟨a1, a2, a3⟩, ⟨b1, b2⟩, c1⟩ := hnd
  simp [reachL, inL_iff, h1, h2, h3, h4, namesO, namesL, namesD, gBox, Ne.symm a1, Ne.symm a2, Ne.symm a3, Ne.symm b1, Ne.symm b2, Ne.symm c1]
 closF := fun x dom Ls h hd o ho => by
  obtain ⟨a, b, c, d, rfl⟩ := names4 h
  have h1 := hd b (by simp)
  have h2 := hd c (by simp)
  have h3 := hd d (by simp)
  simp only [rcRo, gFam, List.mem_cons, List.not_mem_nil, or_false] at ho
  rcases ho with rfl | rfl | rfl | rfl <;> simp [O.clos, D.closL, D.clos, gBox, h1, h2, h3]
 closA := fun x dom Ls h hd => by
  obtain ⟨a, b, c, d, rfl⟩ := names4 h
  have h1 := hd a (by simp)
  simp [rcRo, D.closL, D.clos, h1]
 det := fun a b _ _ h1 h2 => by
  have e1 : a.1.rs = b.1.rs := gBox_rs (List.cons.inj h1).1
  have e2 : a.2 = b.2 := by
   have := (List.cons.inj (List.cons.inj h2).2).1
   simpa [vInt] using this
  simp only [rcRo, e1, e2]
 vcl := fun a dom => by simp [rcRo, D.clos, D.closL, rdO_clos]
 vren := fun a f => by simp [rcRo, D.ren, D.renL, rdO_ren]
def S77m : Spec := rcRo.c.toSpec
theorem k77m : SSound Tryz.prog 77 S77m := by
 refine Ro.sound rcRo_ok (rs := [.cell 4 36, .tmp 5]) Tryz.func77 Tryz.ntmps77 (by rfl) (by kernel_rfl) (by decide) ⟨_, rfl, ?_⟩
 rintro ⟨x, s⟩ _
 refine ⟨lb rfl, ?_⟩
 have hΓ := K16_sound
 have hO := Ro.outC rcRo_ok (x, s)
 have h0 : outH (rcRo.fam (x, s) (LR rcRo.m)) [0, 1] = some (gBox x [1, 1] [2, 1] [3, 1]) := rfl
 generalize outH (rcRo.fam (x, s) (LR rcRo.m)) = H at *
 have ha : rcRo.args (x, s) (LR rcRo.m) = [.ref [0, 1] 0, .v (vInt s)] := rfl
 have hv : rcRo.val (x, s) = .tup [rdO (rcOf x.rs s), .v (.bool (rcOf x.rs s).isSome)] := rfl
 rw [ha, hv]
 simp only [gBox, argsD, Nat.zero_add] at h0 ⊢
 repeat refine sq ?_
 refine rx hΓ [0,3,4] [[3, 0],[4, 0]] (fun K' hK => by simp only [go_sem]; (repeat (refine ⟨obx, ?_⟩)); exact hK _ (by simp only [go_sem, hO]) (by simp only [go_sem] <;> rfl)) ?_
 repeat refine sq ?_
 refine rx hΓ [0,4,6] [[4, 0]] (fun K' hK => by simp only [go_sem, h0, or_true]; (repeat (refine ⟨obx, ?_⟩)); exact hK _ (by simp only [go_sem, hO]) (by simp only [go_sem] <;> rfl)) ?_
 repeat refine sq ?_
 refine rx hΓ [0,4,6,14] [[4, 0]] (fun K' hK => by simp only [go_sem]; (repeat (refine ⟨obx, ?_⟩)); exact hK _ (by simp only [go_sem, hO]) (by simp only [go_sem] <;> rfl)) ?_
 refine cnd (fun hb => ?_) fun hb => ?_
 ·repeat refine sq ?_
  have e : rcOf x.rs s = none := rcOf_none (by simpa using hb)
  refine rx hΓ [4,5] [[4, 0]] (fun K' hK => by simp only [go_sem]; (repeat (refine ⟨obx, ?_⟩)); exact hK _ (by simp only [go_sem, hO]) (by simp only [go_sem] <;> rfl)) ?_
  refine cl_ret ?_
  simp only [go_sem]
  rw [e]; exact ⟨.inr trivial, rfl⟩
 ·obtain ⟨i, hi, e1, e⟩ := rcOf_some (by simpa using hb)
  have hi' : (i : Int) < x.rs.length := by omega
  rw [e1]
  refine cl_skip ?_
  repeat refine sq ?_
  refine rx hΓ [4,5] [[4, 0]] (fun K' hK => by simp only [go_sem, h0, map_getD hi, tnI, nnI, hi']; (repeat (refine ⟨obx, ?_⟩)); exact hK _ (by simp only [go_sem, hO]) (by simp only [go_sem] <;> rfl)) ?_
  refine cl_ret ?_
  simp only [go_sem]
  rw [e]; exact ⟨.inr trivial, rfl⟩
def ptrR (r : Rec) : V := .ptr [vInt r.so, vInt r.bo, vInt r.pa, .sl (r.lv.map vInt), vInt r.da, vInt r.kn, vInt r.un]
theorem ptrR_inj {a b : Rec} (h : ptrR a = ptrR b) : a = b := by
 refine rdRc_inj ?_
 obtain ⟨a1, a2, a3, al, a4, a5, a6⟩ := a
 obtain ⟨b1, b2, b3, bl, b4, b5, b6⟩ := b
 simp only [ptrR, V.ptr.injEq, List.cons.injEq, and_true] at h
 simp only [rdRc, D.agg.injEq, List.cons.injEq, D.v.injEq, and_true]
 exact h
def takB (bk : Bk) (r : Rec) (f : Int) : Bool := (bkAt bk (r.so, f)).isSome || !r.lv.contains f
def vbRo {β : Type} (ar : β → Rec → Name → List D) (ok : β → Prop) (val : Bk → Rec → β → V) : Ro (Vw × Rec × β) where
 m := 5
 fam := fun a Ls => .box [.ref (Ls.getD 1 []) 0] :: gFam a.1 (Ls.drop 1)
 args := fun a Ls => ar a.2.2 a.2.1 (Ls.getD 0 [])
 ok := fun a => ok a.2.2
 val := fun a => .v (val a.1.bk a.2.1 a.2.2)
theorem vbRo_ok {β : Type} {ar : β → Rec → Name → List D} {ok : β → Prop} {val : Bk → Rec → β → V} (h1 : ∀ b r n, namesL (ar b r n) = [n]) (h2 : ∀ f b r n, D.renL f (ar b r n) = ar b r (f n)) (h3 : ∀ dom b r n, dom n = true → D.closL dom (ar b r n) = true)
  (h4 : ∀ b r b' r' n, ar b r n = ar b' r' n → b = b' ∧ r = r') : (vbRo ar ok val).Ok where
 len := fun _ _ _ => rfl
 renF := fun a f Ls h => by obtain ⟨a, b, c, d, e, rfl⟩ := names5 h; rfl
 renA := fun a f Ls h => by obtain ⟨a, b, c, d, e, rfl⟩ := names5 h; exact h2 _ _ _ _
 reach := fun x Ls obj h hnd hF => by
  obtain ⟨a, b, c, d, e, rfl⟩ := names5 h
  obtain ⟨k1, k2, k3, k4, k5, _⟩ := hF
  have en : namesL ((vbRo ar ok val).args x [a, b, c, d, e]) = [a] := h1 _ _ _
  unfold Go.Eng.reach
  rw [en]
  show reachL obj (2993 + 1 + 1 + 1 + 1 + 1 + 1 + 1) _ [] = _
  simp only [List.nodup_cons, List.mem_cons, List.not_mem_nil, or_false, not_or, not_false_eq_true, List.nodup_nil, and_true] at hnd
  obtain ⟨⟨a1, a2, a3, a4⟩, ⟨b1, b2, b3⟩, ⟨c1, c2⟩, d1⟩ := hnd
  simp [reachL, inL_iff, k1, k2, k3, k4, k5, namesO, namesL, namesD, gBox, Ne.symm a1, Ne.symm a2, Ne.symm a3, Ne.symm a4, Ne.symm b1, Ne.symm b2, Ne.symm b3, Ne.symm c1, Ne.symm c2, Ne.symm d1]
 closF := fun x dom Ls h hd o ho => by
  obtain ⟨a, b, c, d, e, rfl⟩ := names5 h
  have h1 := hd b (by simp)
  have h2 := hd c (by simp)
  have h3 := hd d (by simp)
  have h4 := hd e (by simp)
  simp only [vbRo, gFam, List.drop_succ_cons, List.drop_zero, List.mem_cons, List.not_mem_nil, or_false] at ho
  rcases ho with rfl | rfl | rfl | rfl | rfl <;> simp [O.clos, D.closL, D.clos, gBox, h1, h2, h3, h4]
 closA := fun x dom Ls h hd => by
  obtain ⟨a, b, c, d, e, rfl⟩ := names5 h
  exact h3 _ _ _ _ (hd a (by simp))
 det := fun a b _ _ k1 k2 => by
  have e1 : a.1.bk = b.1.bk := by
   have := (List.cons.inj (List.cons.inj (List.cons.inj (List.cons.inj k1).2).2).2).1
   simp only [O.map.injEq, true_and] at this
   have := congrArg decBk this
   rwa [decBk_enc, decBk_enc] at this
  obtain ⟨e2, e3⟩ := h4 _ _ _ _ _ k2
  simp only [vbRo, e1, e2, e3]
 vcl := fun _ _ => rfl
 vren := fun _ _ => rfl
def tkRo : Ro (Vw × Rec × Int) := vbRo (fun f r n => [.v (vInt f), .ref n 0, .v (ptrR r)]) (fun _ => True) (fun bk r f => .bool (takB bk r f))
theorem tkRo_ok : tkRo.Ok := vbRo_ok (fun _ _ _ => rfl) (fun _ _ _ _ => rfl) (fun dom b r n h => by simp [D.closL, D.clos, h]) (fun b r b' r' n h => by
 simp only [List.cons.injEq, D.v.injEq, and_true, true_and] at h
 exact ⟨by simpa [vInt] using h.1, ptrR_inj h.2⟩)
def S163m : Spec := tkRo.c.toSpec
def K28a : List (Nat × Spec) := [(108, S108)]
theorem K28a_sound : KS K28a := tc s108.sound <| tn
attribute [go_sem] K28a
theorem k163m : SSound Tryz.prog 163 S163m := by
 refine Ro.sound tkRo_ok (rs := [.tmp 4]) Tryz.func163 Tryz.ntmps163 (by rfl) (by kernel_rfl) (by decide) ⟨_, rfl, ?_⟩
 rintro ⟨x, r, f⟩ _
 refine ⟨lb rfl, ?_⟩
 have hΓ := K28a_sound
 have hP := mixedK
 have hO := Ro.outC tkRo_ok (x, r, f)
 have h0 : outH (tkRo.fam (x, r, f) (LR tkRo.m)) [0, 1] = some (.box [.ref [1, 1] 0]) := rfl
 have h1 : outH (tkRo.fam (x, r, f) (LR tkRo.m)) [1, 1] = some (gBox x [2, 1] [3, 1] [4, 1]) := rfl
 have h3 : outH (tkRo.fam (x, r, f) (LR tkRo.m)) [3, 1] = some (.map 2 (encBk x.bk)) := rfl
 generalize outH (tkRo.fam (x, r, f) (LR tkRo.m)) = H at *
 have ha : tkRo.args (x, r, f) (LR tkRo.m) = [.v (vInt f), .ref [0, 1] 0, .v (ptrR r)] := rfl
 have hv : tkRo.val (x, r, f) = .v (.bool (takB x.bk r f)) := rfl
 rw [ha, hv]
 simp only [gBox, argsD, Nat.zero_add, ptrR] at h1 ⊢
 repeat refine sq ?_
 refine rx hΓ [0,1,2] [] (fun K' hK => by simp only [go_sem]; (repeat (refine ⟨obx, ?_⟩)); exact hK _ (by simp only [go_sem, hO]) (by simp only [go_sem] <;> rfl)) ?_
 repeat refine sq ?_
 refine dx hΓ hP [[], [0], [0, 1], [0, 1, 2], [], [4], [], [4, 5, 6], u8, u9, u10, u10, u11, u13] [0,2,6] [] (by kernel_rfl) (fun K' hK => by simp only [go_sem, h0, h1, h3, mget_bk]; (repeat (refine ⟨obx, ?_⟩)); (first | refine ⟨by rfl, ?_⟩ | skip); exact hK _ (by simp only [go_sem, hO]) (by simp only [go_sem] <;> rfl)) ?_
 repeat refine sq ?_
 refine rx hΓ [4] [] (fun K' hK => by simp only [go_sem]; (repeat (refine ⟨obx, ?_⟩)); exact hK _ (by simp only [go_sem, hO]) (by simp only [go_sem] <;> rfl)) ?_
 refine cl_ret ?_
 simp only [go_sem]
 exact ⟨.inr trivial, by unfold takB; cases bkAt x.bk (r.so, f) <;> rfl⟩
def cfRo (v : Bk → Rec → List Int → V) : Ro (Vw × Rec × List Int) := vbRo (fun l r n => [.v (.sl (l.map vInt)), .clo (.func 163) [] [.ref n 0, .v (ptrR r)]]) (fun l => l.length ≤ maxLen) v
theorem cfRo_ok (v : Bk → Rec → List Int → V) : (cfRo v).Ok := vbRo_ok (fun _ _ _ => rfl) (fun _ _ _ _ => rfl) (fun dom b r n h => by simp [D.closL, D.clos, h]) (fun b r b' r' n h => by
 simp only [List.cons.injEq, D.v.injEq, D.clo.injEq, V.sl.injEq, and_true, true_and] at h
 refine ⟨?_, ptrR_inj h.2⟩
 have := congrArg (List.map decI) h.1
 rwa [decI_map, decI_map] at this)
def ixV (bk : Bk) (r : Rec) (l : List Int) : V := vInt (idxF (takB bk r) l)
def cfV (bk : Bk) (r : Rec) (l : List Int) : V := .bool (l.any (takB bk r))
def S192m : Spec := (cfRo ixV).c.toSpec
def S160m : Spec := (cfRo cfV).c.toSpec
def K28b : FuncId → Option Spec := fun f => if f = 163 then some S163m else none
theorem K28b_sound : ∀ f s, K28b f = some s → SSound Tryz.prog f s := fun f s h => by
 unfold K28b at h
 split at h
 ·rename_i e; cases h; subst e; exact k163m
 ·cases h
theorem K28b_163 : K28b 163 = some S163m := rfl
theorem k192m : SSound Tryz.prog 192 S192m := by
 refine Ro.sound (cfRo_ok ixV) (rs := [.tmp 4]) Tryz.func192 Tryz.ntmps192 (by rfl) (by kernel_rfl) (by decide) ⟨_, rfl, ?_⟩
 rintro ⟨x, r, l⟩ hl
 replace hl : l.length ≤ maxLen := hl
 refine ⟨lb rfl, ?_⟩
 have hΓ := K28b_sound
 have hO := Ro.outC (cfRo_ok ixV) (x, r, l)
 have hall : objAll (outH ((cfRo ixV).fam (x, r, l) (LR (cfRo ixV).m))) (LR 5) ((cfRo ixV).fam (x, r, l) (LR 5)) := ⟨rfl, rfl, rfl, rfl, rfl, trivial⟩
 generalize outH ((cfRo ixV).fam (x, r, l) (LR (cfRo ixV).m)) = H at *
 have hcall : ∀ (F : Name → Option O) (t : Name) (f : Int), S163m.app (fun nm => if own [0] nm = true then F nm else H nm) t [.v (vInt f), .ref [0, 1] 0, .v (ptrR r)] = ⟨True, .v (.bool (takB x.bk r f)), fun nm => if own [0] nm = true then F nm else H nm⟩ := fun F t f => Ro.c_app tkRo_ok (a := (x, r, f)) trivial (t := t) (obj := fun nm => if own [0] nm = true then F nm else H nm) (Ls := LR 5) rfl (LR_nodup 5) (objAll_agr hall fun y hy => by
  obtain ⟨i, _, rfl⟩ := List.mem_map.1 hy
  simp [own_out01])
 have ha : (cfRo ixV).args (x, r, l) (LR (cfRo ixV).m) = [.v (.sl (l.map vInt)), .clo (.func 163) [] [.ref [0, 1] 0, .v (ptrR r)]] := rfl
 have hv : (cfRo ixV).val (x, r, l) = .v (vInt (idxF (takB x.bk r) l)) := rfl
 rw [ha, hv]
 simp only [argsD, Nat.zero_add]
 repeat refine sq ?_
 refine rx hΓ [0,1] [] (fun K' hK => by simp only [go_sem]; (repeat (refine ⟨obx, ?_⟩)); exact hK _ (by simp only [go_sem, hO]) (by simp only [go_sem] <;> rfl)) ?_
 repeat refine sq ?_
 refine rx hΓ [0,1,7,8] [] (fun K' hK => by simp only [go_sem]; (repeat (refine ⟨obx, ?_⟩)); exact hK _ (by simp only [go_sem, hO]) (by simp only [go_sem] <;> rfl)) ?_
 refine cl_block ?_
 refine cl_loop'  (fun s : Nat => [(8, ⟨true, .v (vInt s)⟩)]) (fun s => []) (fun s => s ≤ l.length ∧ ∀ k (h : k < l.length), k < s → takB x.bk r l[k] = false) (fun s => l.length - s) 0 ?_ ?_ ?_ ?_
 ·exact ⟨Nat.zero_le _, by simp⟩
 ·rfl
 ·rfl
 rintro i ⟨hi, hR⟩
 simp only [go_sem]
 repeat refine sq ?_
 refine rx hΓ [0,1,7,8,9] [] (fun K' hK => by simp only [go_sem]; (repeat (refine ⟨obx, ?_⟩)); exact hK _ (by simp only [go_sem, hO]) (by simp only [go_sem] <;> rfl)) ?_
 repeat refine sq ?_
 refine cnd (fun hb => ?_) fun hb => ?_
 ·have hlt : i < l.length := by simpa using hb
  have hlt' : (i : Int) < l.length := by omega
  clear hb
  refine cl_skip ?_
  repeat refine sq ?_
  refine cl_block ?_
  repeat refine sq ?_
  refine rx hΓ [0,1,5,7,8] [] (fun K' hK => by simp only [go_sem, hlt']; (repeat (refine ⟨obx, ?_⟩)); exact hK _ (by simp only [go_sem, hO]) (by simp only [go_sem] <;> rfl)) ?_
  repeat refine sq ?_
  refine rx hΓ [0,1,5,7,8,16] [] (fun K' hK => by simp only [go_sem, map_getD hlt, tnI, nnI, hlt', K28b_163, hcall]; (repeat (refine ⟨obx, ?_⟩)); exact hK _ (by simp only [go_sem, hO]) (by simp only [go_sem] <;> rfl)) ?_
  refine cnd (fun hb => ?_) fun hb => ?_
  ·repeat refine sq ?_
   refine rx hΓ [4] [] (fun K' hK => by simp only [go_sem]; (repeat (refine ⟨obx, ?_⟩)); exact hK _ (by simp only [go_sem, hO]) (by simp only [go_sem] <;> rfl)) ?_
   refine cl_ret ?_
   simp only [go_sem]
   rw [idxF_at (p := takB x.bk r) hlt (by simpa using hb) hR]; exact ⟨.inr trivial, rfl⟩
  ·refine cl_skip ?_
   refine cl_nil ?_
   simp only [go_sem]
   refine cl_keep [0,1,7,8] [] ?_ ?_
   ·simp only [go_sem, hO]
   simp only [go_sem]
   refine cl_r hΓ fun K' hK => ?_
   simp only [go_sem]
   repeat (refine ⟨obx, ?_⟩)
   refine hK _ ?_
   clear K' hK
   simp only [go_sem]
   refine ⟨i + 1, ⟨hlt, ?_⟩, by (show l.length - (i + 1) < l.length - i; omega), ?_⟩
   ·intro k hk hki
    rcases Nat.lt_succ_iff_lt_or_eq.1 hki with h5 | rfl
    ·exact hR k hk h5
    ·simpa using hb
   refine weak_eq [0,1,7,8] [] ?_ ?_ <;> simp only [go_sem, wrap_succ hlt hl, csI, hO]
 ·have hge : i = l.length := by
   have : ¬ (i : Int) < l.length := by simpa using hb
   omega
  clear hb
  subst hge
  refine cl_exit ?_
  simp only [go_sem]
  refine cl_keep [] [] ?_ ?_
  ·simp only [go_sem, hO]
  simp only [go_sem]
  repeat refine sq ?_
  refine rx hΓ [4] [] (fun K' hK => by simp only [go_sem]; (repeat (refine ⟨obx, ?_⟩)); exact hK _ (by simp only [go_sem, hO]) (by simp only [go_sem] <;> rfl)) ?_
  refine cl_ret ?_
  simp only [go_sem]
  rw [idxF_none (p := takB x.bk r) fun k hk => hR k hk hk]; exact ⟨.inr trivial, rfl⟩
def K28c : FuncId → Option Spec := fun f => if f = 192 then some S192m else none
theorem K28c_sound : ∀ f s, K28c f = some s → SSound Tryz.prog f s := fun f s h => by
 unfold K28c at h
 split at h
 ·rename_i e; cases h; subst e; exact k192m
 ·cases h
theorem K28c_192 : K28c 192 = some S192m := rfl
theorem k160m : SSound Tryz.prog 160 S160m := by
 refine Ro.sound (cfRo_ok cfV) (rs := [.tmp 4]) Tryz.func160 Tryz.ntmps160 (by rfl) (by kernel_rfl) (by decide) ⟨_, rfl, ?_⟩
 rintro ⟨x, r, l⟩ hl
 replace hl : l.length ≤ maxLen := hl
 refine ⟨lb rfl, ?_⟩
 have hΓ := K28c_sound
 have hO := Ro.outC (cfRo_ok cfV) (x, r, l)
 have hall : objAll (outH ((cfRo cfV).fam (x, r, l) (LR (cfRo cfV).m))) (LR 5) ((cfRo cfV).fam (x, r, l) (LR 5)) := ⟨rfl, rfl, rfl, rfl, rfl, trivial⟩
 generalize outH ((cfRo cfV).fam (x, r, l) (LR (cfRo cfV).m)) = H at *
 have hcall : ∀ (F : Name → Option O) (t : Name), S192m.app (fun nm => if own [0] nm = true then F nm else H nm) t [.v (.sl (l.map vInt)), .clo (.func 163) [] [.ref [0, 1] 0, .v (ptrR r)]] = ⟨True, .v (vInt (idxF (takB x.bk r) l)), fun nm => if own [0] nm = true then F nm else H nm⟩ := fun F t => Ro.c_app (cfRo_ok ixV) (a := (x, r, l)) hl (t := t) (obj := fun nm => if own [0] nm = true then F nm else H nm) (Ls := LR 5) rfl (LR_nodup 5) (objAll_agr hall fun y hy => by
  obtain ⟨i, _, rfl⟩ := List.mem_map.1 hy
  simp [own_out01])
 have ha : (cfRo cfV).args (x, r, l) (LR (cfRo cfV).m) = [.v (.sl (l.map vInt)), .clo (.func 163) [] [.ref [0, 1] 0, .v (ptrR r)]] := rfl
 have hv : (cfRo cfV).val (x, r, l) = .v (.bool (l.any (takB x.bk r))) := rfl
 rw [ha, hv]
 simp only [argsD, Nat.zero_add]
 repeat refine sq ?_
 refine rx hΓ [0,1] [] (fun K' hK => by simp only [go_sem]; (repeat (refine ⟨obx, ?_⟩)); exact hK _ (by simp only [go_sem, hO]) (by simp only [go_sem] <;> rfl)) ?_
 repeat refine sq ?_
 refine rx hΓ [4] [] (fun K' hK => by simp only [go_sem, K28c_192, hcall, idxF_ge]; (repeat (refine ⟨obx, ?_⟩)); exact hK _ (by simp only [go_sem, hO]) (by simp only [go_sem] <;> rfl)) ?_
 refine cl_ret ?_
 simp only [go_sem]
 first | exact .inr trivial | exact ⟨.inr trivial, rfl⟩
end
theorem bkAt_set (b : Bk) (q p : Int × Int) (i : Int) : bkAt (bkSet b q i) p = if q = p then some i else bkAt b p := by
 induction b with
 | nil => rfl
 | cons e r ih =>
  obtain ⟨k, j⟩ := e
  simp only [bkSet]
  by_cases h : k = q
  ·rw [if_pos h]
   subst h
   simp only [bkAt]
   split <;> rfl
  ·rw [if_neg h]
   simp only [bkAt, ih]
   by_cases h2 : k = p
   ·subst h2
    rw [if_pos rfl, if_pos rfl, if_neg (fun e => h e.symm)]
   ·rw [if_neg h2, if_neg h2]
theorem bkAt_all (so i : Int) (lv : List Int) (b : Bk) (s f : Int) : bkAt (bkAll b so i lv) (s, f) = if s = so ∧ f ∈ lv then some i else bkAt b (s, f) := by
 induction lv generalizing b with
 | nil => simp [bkAll]
 | cons a r ih =>
  show bkAt (bkAll (bkSet b (so, a) i) so i r) (s, f) = _
  rw [ih, bkAt_set]
  by_cases h1 : s = so
  ·subst h1
   by_cases h2 : f ∈ r
   ·simp [h2]
   ·by_cases h3 : a = f
    ·subst h3; simp [h2]
    ·have h4 : ¬ f = a := fun e => h3 e.symm
     simp [h2, h3, h4]
  ·have h4 : ¬ (so, a) = (s, f) := fun e => h1 (by cases e; rfl)
   simp [h1, h4]
theorem newB_rc {k : Int} {rs : List Rec} {bk : Bk} {x : Ret} {r : Rec} (h : newB k rs bk x = some r) : rcOf rs x.re = some r ∧ countsB x.kn x.un k = true ∧ ¬ maxI x.lo (r.da + 1) > x.hi ∧ x.lv.any (takB bk r) = false := by
 unfold newB at h
 split at h
 ·cases h
 ·rename_i q hq
  split at h
  ·rename_i hc
   cases h
   simp only [Bool.and_eq_true, Bool.not_eq_true', Bool.or_eq_false_iff, decide_eq_false_iff_not] at hc
   exact ⟨hq, hc.1, hc.2.1, hc.2.2⟩
  ·cases h
theorem newB_no {k : Int} {rs : List Rec} {bk : Bk} {x : Ret} (h : rcOf rs x.re = none) : newB k rs bk x = none := by
 unfold newB; rw [h]
theorem newB_no1 {k : Int} {rs : List Rec} {bk : Bk} {x : Ret} {r : Rec} (h : rcOf rs x.re = some r) (hc : countsB x.kn x.un k = false) : newB k rs bk x = none := by
 unfold newB; rw [h]; simp [hc]
theorem newB_no2 {k : Int} {rs : List Rec} {bk : Bk} {x : Ret} {r : Rec} (h : rcOf rs x.re = some r) (hc : (decide (maxI x.lo (r.da + 1) > x.hi) || x.lv.any (takB bk r)) = true) : newB k rs bk x = none := by
 unfold newB; rw [h]
 have hc' : (decide (maxI x.lo (r.da + 1) > x.hi) || x.lv.any fun f => (bkAt bk (r.so, f)).isSome || !r.lv.contains f) = true := hc
 simp only [hc', Bool.not_true, Bool.and_false, Bool.false_eq_true, if_false]
theorem newB_yes {k : Int} {rs : List Rec} {bk : Bk} {x : Ret} {r : Rec} (h : rcOf rs x.re = some r) (h1 : countsB x.kn x.un k = true) (hc : (decide (maxI x.lo (r.da + 1) > x.hi) || x.lv.any (takB bk r)) = false) : newB k rs bk x = some r := by
 unfold newB; rw [h]
 have hc' : (decide (maxI x.lo (r.da + 1) > x.hi) || x.lv.any fun f => (bkAt bk (r.so, f)).isSome || !r.lv.contains f) = false := hc
 simp only [hc', h1, Bool.not_false, Bool.and_true, if_true]
theorem lkTo_no {l : Led} {k : Int} {i : Nat} (h : newB k (recsK l k) (lkTo l k i).bk (tsAt l i) = none) : lkTo l k (i + 1) = lkTo l k i := by
 show lkStep l k (lkTo l k i) i = _
 unfold lkStep
 rw [(lkTo_fix l k i).2, h]
theorem lkTo_yes {l : Led} {k : Int} {i : Nat} {r : Rec} (h : newB k (recsK l k) (lkTo l k i).bk (tsAt l i) = some r) : lkTo l k (i + 1) =
  { lkTo l k i with bk := bkAll (lkTo l k i).bk r.so i (tsAt l i).lv, ts := (lkTo l k i).ts ++ [(i : Int)], ds := dsSet (lkTo l k i).ds i (maxI (tsAt l i).lo (r.da + 1), (tsAt l i).hi) } := by
 show lkStep l k (lkTo l k i) i = _
 have h' : newB k (lkTo l k i).rs (lkTo l k i).bk (tsAt l i) = some r := by rw [(lkTo_fix l k i).2]; exact h
 unfold lkStep
 rw [h']
structure LkOk (l : Led) (k : Int) (i : Nat) : Prop where
 bk : ∀ q j, bkAt (lkTo l k i).bk q = some j → 0 ≤ j ∧ j < l.ts.length
 tn : (lkTo l k i).ts.length ≤ i
 ts : ∀ j ∈ (lkTo l k i).ts, (0 ≤ j ∧ j < l.ts.length) ∧ ∃ r, rcOf (recsK l k) (tsAt l j.toNat).re = some r
theorem lkTo_ok (l : Led) (k : Int) : ∀ i, i ≤ l.ts.length → LkOk l k i
 | 0, _ => ⟨fun q j (h : none = some j) => (by cases h), Nat.le_refl 0, fun j (h : j ∈ ([] : List Int)) => (by cases h)⟩
 | i + 1, hi => by
  have ih := lkTo_ok l k i (by omega)
  cases hn : newB k (recsK l k) (lkTo l k i).bk (tsAt l i) with
  | none =>
   have e := lkTo_no hn
   exact ⟨by rw [e]; exact ih.bk, by rw [e]; exact Nat.le_succ_of_le ih.tn, by rw [e]; exact ih.ts⟩
  | some r =>
   have e := lkTo_yes hn
   refine ⟨?_, ?_, ?_⟩
   ·rintro ⟨s, f⟩ j h
    rw [e] at h
    simp only [bkAt_all] at h
    split at h
    ·cases h; omega
    ·exact ih.bk _ _ h
   ·rw [e]
    have := ih.tn
    simp; omega
   ·intro j hj
    rw [e] at hj
    rcases List.mem_append.1 hj with hj | hj
    ·exact ih.ts j hj
    ·simp only [List.mem_singleton] at hj
     subst hj
     exact ⟨by omega, r, by rw [Int.toNat_natCast]; exact (newB_rc hn).1⟩
theorem rcOf_mem {rs : List Rec} {s : Int} {r : Rec} (h : rcOf rs s = some r) : r ∈ rs ∧ r.so = s := by
 unfold rcOf at h
 exact ⟨List.mem_of_find?_eq_some h, by simpa using List.find?_some h⟩
theorem recsK_rec {l : Led} (h : OkL l) (k : Int) : ∀ r ∈ recsK l k, recB r = true := fun r hr => h.recs r ((List.mem_filter.1 hr).1)
theorem recsK_len {l : Led} (h : OkL l) (k : Int) : (recsK l k).length ≤ 60 := Nat.le_trans (List.length_filter_le _ _) h.rsn
theorem recsK_nodup {l : Led} (h : OkL l) (k : Int) : (recsK l k).Nodup := by
 refine List.Nodup.sublist List.filter_sublist ?_
 have hs : srt Rec.so l.rs := okL_srt (allB_iff.1 h.rs)
 rw [List.nodup_iff_pairwise_ne, List.pairwise_iff_getElem]
 intro i j hi hj hij e
 have := hs i j hi hj hij
 rw [e] at this
 omega
theorem lookV_ok {l : Led} (h : OkL l) (k : Int) : VOk (lookV l k) ∧ (lookV l k).rs.Nodup := by
 have hk := lkTo_ok l k l.ts.length (Nat.le_refl _)
 obtain ⟨e1, e2⟩ := lkTo_fix l k l.ts.length
 refine ⟨⟨?_, ?_, ?_, ?_, ?_, ?_⟩, ?_⟩
 ·show OkL (lkTo l k l.ts.length).l; rw [e1]; exact h
 ·show ∀ q i, bkAt (lkTo l k l.ts.length).bk q = some i → 0 ≤ i ∧ i < (lkTo l k l.ts.length).l.ts.length
  rw [e1]; exact hk.bk
 ·show ∀ r ∈ (lkTo l k l.ts.length).rs, _; rw [e2]; exact recsK_rec h k
 ·show (lkTo l k l.ts.length).rs.length ≤ 60; rw [e2]; exact recsK_len h k
 ·exact Nat.le_trans hk.tn h.tsn
 ·show ∀ i ∈ (lkTo l k l.ts.length).ts, 0 ≤ i ∧ i < (lkTo l k l.ts.length).l.ts.length
  rw [e1]; exact fun i hi => (hk.ts i hi).1
 ·show (lkTo l k l.ts.length).rs.Nodup; rw [e2]; exact recsK_nodup h k
noncomputable section
theorem filter_succ {α : Type} {p : α → Bool} {l : List α} {i : Nat} (h : i < l.length) : ((l.take (i + 1)).filter p) = (l.take i).filter p ++ (if p l[i] = true then [l[i]] else []) := take_filter_succ h
def K29 : FuncId → Option Spec := fun f => if f = 77 then some S77m else if f = 160 then some S160m else if f = 162 then some S162 else if f = 164 then some S164 else none
theorem K29_sound : ∀ f s, K29 f = some s → SSound Tryz.prog f s := fun f s h => by
 unfold K29 at h
 split at h
 ·rename_i e; cases h; subst e; exact k77m
 ·split at h
  ·rename_i e; cases h; subst e; exact k160m
  ·split at h
   ·rename_i e; cases h; subst e; exact k162
   ·split at h
    ·rename_i e; cases h; subst e; exact k164
    ·cases h
@[go_sem] theorem K29_77 : K29 77 = some S77m := rfl
@[go_sem] theorem K29_160 : K29 160 = some S160m := rfl
@[go_sem] theorem K29_162 : K29 162 = some S162 := rfl
@[go_sem] theorem K29_164 : K29 164 = some S164 := rfl
def rsTo (l : Led) (k : Int) (s : Nat) : List Rec := (l.rs.take s).filter fun r => countsB r.kn r.un k
theorem rsTo_all (l : Led) (k : Int) : rsTo l k l.rs.length = recsK l k := by unfold rsTo recsK; rw [List.take_length]
theorem rsTo_yes {l : Led} {k : Int} {i : Nat} (h : i < l.rs.length) (hc : countsB l.rs[i].kn l.rs[i].un k = true) : rsTo l k (i + 1) = rsTo l k i ++ [l.rs[i]] := by
 unfold rsTo; rw [filter_succ h, if_pos hc]
theorem rsTo_no {l : Led} {k : Int} {i : Nat} (h : i < l.rs.length) (hc : countsB l.rs[i].kn l.rs[i].un k = false) : rsTo l k (i + 1) = rsTo l k i := by
 unfold rsTo; rw [filter_succ h, if_neg (by rw [hc]; decide)]; simp
theorem rsTo_len (l : Led) (k : Int) (i : Nat) : (rsTo l k i).length ≤ l.rs.length := Nat.le_trans (List.length_filter_le _ _) (by simp; omega)
attribute [go_sem] objAll
def K29b : List (Nat × Spec) := [(77, S77), (164, S164), (165, S165)]
theorem K29b_sound : KS K29b := tc k77 <| tc k164 <| tc k165 <| tn
attribute [go_sem] K29b
theorem lkLp_caps (l : Led) (k i j : Int) (n : Nat) (x : Vw) (r : Rec) (lv : List Int) : CapsOk (lkLp l k i j n x r lv) (capsW 4 r.pa lv) where
 ren := fun f Ls h => by obtain ⟨a, b, c, d, e, rfl⟩ := names5 h; rfl
 clo := fun dom Ls h hd => by
  obtain ⟨a, b, c, d, e, rfl⟩ := names5 h
  have h4 := hd e (by simp)
  simp [D.closL, D.clos, h4, capsW]
 reach := fun Ls s obj R q h hnd hF h0 => by
  obtain ⟨a, b, c, d, e, rfl⟩ := names5 h
  obtain ⟨h1, h2, h3, h4, h5, _⟩ := hF
  have en : namesL (((lkLp l k i j n x r lv).env [a, b, c, d, e]).map (·.d)) = [a, e] := rfl
  have ec : namesL (capsW 4 r.pa lv [a, b, c, d, e]) = [e] := rfl
  rw [ec]
  show reachL obj (q + 90 + 1 + 1 + 1 + 1 + 1 + 1 + 1 + 1 + 1 + 1 + 1) _ [] = _
  simp only [List.nodup_cons, List.mem_cons, List.not_mem_nil, or_false, not_or, not_false_eq_true, List.nodup_nil, and_true] at hnd
  obtain ⟨⟨r1, r2, r3, r4, r5⟩, ⟨a1, a2, a3, a4⟩, ⟨b1, b2, b3⟩, ⟨c1, c2⟩, e1⟩ := hnd
  simp [reachL, inL_iff, h0, h1, h2, h3, h4, h5, Lp.rc, namesO, en, namesL, namesD, boxV, Ne.symm r1, Ne.symm r2, Ne.symm r3, Ne.symm r4, Ne.symm r5, Ne.symm a1, Ne.symm a2, Ne.symm a3, Ne.symm a4, Ne.symm b1, Ne.symm b2, Ne.symm b3, Ne.symm c1, Ne.symm c2, Ne.symm e1]
theorem bkAll_succ (b : Bk) (so i : Int) {lv : List Int} {s : Nat} (h : s < lv.length) : bkAll b so i (lv.take (s + 1)) = bkSet (bkAll b so i (lv.take s)) (so, lv[s]) i := by
 unfold bkAll
 rw [List.take_add_one, List.getElem?_eq_getElem h, List.foldl_append]
 rfl
def N76 : NSpec := n2 iLp iI (fun l _ => OkL l) (fun l k => [([26, 0], boxV (lookV l k) [23, 0] [24, 0]), ([23, 0], .map 2 (encBk (lookV l k).bk)), ([24, 0], .map 0 (encDs (lookV l k).ds))]) (fun _ _ => .ref [26, 0] 0)
def S76 : Spec := N76.toSpec
attribute [go_sem] N76 S76
set_option maxHeartbeats 16000000 in
theorem k76 : SSound Tryz.prog 76 S76 := by
 refine nsound (nt := 181) (rs := [.tmp 4]) Tryz.func76 rfl (by rfl) (by kernel_rfl) (by kernel_rfl) (by decide) ?_
 intro xs hp
 obtain ⟨l, k, rfl, hp, hg1, hg2⟩ := n2_elim hp
 replace hg1 : N76.new _ = _ := hg1
 replace hg2 : N76.d _ = _ := hg2
 rw [hg1, hg2]
 clear hg1 hg2
 refine ⟨lb rfl, ?_⟩
 have hP := mixedK
 simp only [iI, iLp, encLp, List.map_cons, List.map_nil, argsD, Nat.zero_add]
 have hΓ := K29_sound
 have hlr : l.rs.length ≤ maxLen := by have := hp.rsn; unfold maxLen; omega
 have hlt_ : l.ts.length ≤ maxLen := by have := hp.tsn; unfold maxLen; omega
 repeat refine sq ?_
 refine rsx hΓ [0,1] [] ?_
 repeat refine sq ?_
 refine rsx hΓ [0,1,5] [[5, 0],[23, 0],[24, 0],[26, 0],[49, 0],[124, 0]] ?_
 refine cl_weakM (weakM_ghostI [26, 0] [49, 0] 1 7 _ rfl rfl rfl [0,1,5] [[5, 0],[23, 0],[24, 0],[26, 0],[49, 0],[124, 0]] ?_ rfl) ?_
 ·simp only [go_sem, List.set_cons_succ, List.set_cons_zero]
 simp only [go_sem, List.set_cons_succ, List.set_cons_zero]
 refine cl_weakM (weakM_ghostI [26, 0] [124, 0] 2 1 _ rfl rfl rfl [0,1,5] [[5, 0],[23, 0],[24, 0],[26, 0],[49, 0],[124, 0]] ?_ rfl) ?_
 ·simp only [go_sem, List.set_cons_succ, List.set_cons_zero]
 simp only [go_sem, List.set_cons_succ, List.set_cons_zero]
 repeat refine sq ?_
 refine rsx hΓ [0,1,5,30,31,32] [[5, 0],[23, 0],[24, 0],[26, 0],[49, 0],[124, 0]] ?_
 refine cl_block ?_
 refine cl_loop'  (fun s : Nat => [(32, ⟨true, .v (vInt s)⟩)]) (fun s => [([26, 0], .box [.v (encLp l), .msl [49, 0] (rsTo l k s).length, .msl [124, 0] 0, .map [23, 0], .map [24, 0]]), ([49, 0], .arr 7 ((rsTo l k s).map encR))]) (fun s => s ≤ l.rs.length) (fun s => l.rs.length - s) 0 ?_ ?_ ?_ ?_
 ·exact Nat.zero_le _
 ·rfl
 ·rfl
 rintro i hi
 simp only [go_sem]
 repeat refine sq ?_
 refine rsx hΓ [0,1,5,30,31,32,33] [[5, 0],[23, 0],[24, 0],[26, 0],[49, 0],[124, 0]] ?_
 repeat refine sq ?_
 refine cnd (fun hb => ?_) fun hb => ?_
 ·have hlt : i < l.rs.length := by simpa using hb
  have hlt' : (i : Int) < l.rs.length := by omega
  clear hb
  have hrl := rsTo_len l k i
  have hrn := hp.rsn
  refine cl_skip ?_
  repeat refine sq ?_
  refine cl_block ?_
  repeat refine sq ?_
  refine rx hΓ [0,1,5,7,30,31,32] [[5, 0],[7, 0],[23, 0],[24, 0],[26, 0],[49, 0],[124, 0]] (fun K' hK => by simp only [go_sem, map_getD hlt, tnI, nnI, hlt']; exact fnx) ?_
  repeat refine sq ?_
  refine rsx hΓ [0,1,5,7,30,31,32,41] [[5, 0],[7, 0],[23, 0],[24, 0],[26, 0],[49, 0],[124, 0]] ?_
  refine cnd (fun hb => ?_) fun hb => ?_
  ·have hT := rsTo_yes hlt hb
   refine cl_d hΓ hP [[], [], [1], [1, 2], [1, 2, 3], [], [5], [1, 2, 3, 4, 5, 6], u8, u9, u10] (by kernel_rfl) fun K' hK => ?_
   simp only [go_sem]
   repeat (refine ⟨obx, ?_⟩)
   first | refine ⟨by rfl, ?_⟩ | skip
   refine hK _ ?_
   clear K' hK
   simp only [go_sem]
   refine kp [0,1,5,30,31,32] [[5, 0],[23, 0],[24, 0],[26, 0],[49, 0],[124, 0]] ?_
   refine cl_r hΓ fun K' hK => ?_
   simp only [go_sem]
   repeat (refine ⟨obx, ?_⟩)
   refine hK _ ?_
   clear K' hK
   simp only [go_sem]
   refine ⟨i + 1, hlt, by (show l.rs.length - (i + 1) < l.rs.length - i; omega), ?_⟩
   refine weak_eq [0,1,5,30,31,32] [[5, 0],[23, 0],[24, 0],[26, 0],[49, 0],[124, 0]] ?_ ?_ <;> simp only [go_sem, wrap_succ hlt hlr, csI, hT, List.map_append, List.map_cons, List.map_nil, List.length_append, List.length_cons, List.length_nil]
  ·have hT := rsTo_no hlt hb
   refine cl_skip ?_
   refine cl_nil ?_
   simp only [go_sem]
   refine kp [0,1,5,30,31,32] [[5, 0],[23, 0],[24, 0],[26, 0],[49, 0],[124, 0]] ?_
   refine cl_r hΓ fun K' hK => ?_
   simp only [go_sem]
   repeat (refine ⟨obx, ?_⟩)
   refine hK _ ?_
   clear K' hK
   simp only [go_sem]
   refine ⟨i + 1, hlt, by (show l.rs.length - (i + 1) < l.rs.length - i; omega), ?_⟩
   refine weak_eq [0,1,5,30,31,32] [[5, 0],[23, 0],[24, 0],[26, 0],[49, 0],[124, 0]] ?_ ?_ <;> simp only [go_sem, wrap_succ hlt hlr, csI, hT, List.map_cons, List.map_nil]
 ·have hge : i = l.rs.length := by
   have : ¬ (i : Int) < l.rs.length := by simpa using hb
   omega
  clear hb
  subst hge
  refine cl_exit ?_
  simp only [go_sem]
  refine kp [0,1,5] [[5, 0],[23, 0],[24, 0],[26, 0],[49, 0],[124, 0]] ?_
  simp only [rsTo_all]
  repeat refine sq ?_
  refine rsx hΓ [0,1,5,56,57,58] [[5, 0],[23, 0],[24, 0],[26, 0],[49, 0],[124, 0]] ?_
  refine cl_weakM (weakM_frzI [26, 0] [49, 0] 1 _ _ _ _ rfl rfl rfl (by first | rfl | (simp only [List.length_map]; done)) [0,1,5,56,57,58] [[5, 0],[23, 0],[24, 0],[26, 0],[49, 0],[124, 0]] ?_ rfl) ?_
  ·simp only [go_sem, List.set_cons_succ, List.set_cons_zero]
  simp only [go_sem, List.set_cons_succ, List.set_cons_zero]
  refine cl_block ?_
  refine cl_loop'  (fun s : Nat => [(58, ⟨true, .v (vInt s)⟩)]) (fun s => [([26, 0], .box [.v (encLp l), .v (.sl ((recsK l k).map encR)), .msl [124, 0] (lkTo l k s).ts.length, .map [23, 0], .map [24, 0]]), ([124, 0], .arr 1 ((lkTo l k s).ts.map vInt)), ([23, 0], .map 2 (encBk (lkTo l k s).bk)), ([24, 0], .map 0 (encDs (lkTo l k s).ds))]) (fun s => s ≤ l.ts.length) (fun s => l.ts.length - s) 0 ?_ ?_ ?_ ?_
  ·exact Nat.zero_le _
  ·rfl
  ·rfl
  rintro i1 hi
  simp only [go_sem]
  repeat refine sq ?_
  refine rsx hΓ [0,1,5,56,57,58,59] [[5, 0],[23, 0],[24, 0],[26, 0],[49, 0],[124, 0]] ?_
  repeat refine sq ?_
  refine cnd (fun hb => ?_) fun hb => ?_
  ·have hlt1 : i1 < l.ts.length := by simpa using hb
   have hlt1' : (i1 : Int) < l.ts.length := by omega
   clear hb
   have hx : tsAt l i1 = l.ts[i1] := tsAt_at hlt1
   obtain ⟨e1, e2⟩ := lkTo_fix l k i1
   have hk := lkTo_ok l k i1 (Nat.le_of_lt hlt1)
   have htb := hp.rets hlt1
   rw [hx] at htb
   have hlv := (retB_lf htb).2
   have hlm : l.ts[i1].lv.length ≤ maxLen := by unfold maxLen; omega
   have htn := hk.tn
   have htsn := hp.tsn
   have hrc : ∀ (obj : Name → Option O) (t : Name), obj [26, 0] = some (.box [.v (encLp l), .v (.sl ((recsK l k).map encR)), .msl [124, 0] (lkTo l k i1).ts.length, .map [23, 0], .map [24, 0]]) → obj [124, 0] = some (.arr 1 ((lkTo l k i1).ts.map vInt)) → obj [23, 0] = some (.map 2 (encBk (lkTo l k i1).bk)) → obj [24, 0] = some (.map 0 (encDs (lkTo l k i1).ds)) →
     S77m.app obj t [.ref [26, 0] 0, .v (vInt l.ts[i1].re)] = ⟨True, .tup [rdO (rcOf (recsK l k) l.ts[i1].re), .v (.bool (rcOf (recsK l k) l.ts[i1].re).isSome)], obj⟩ := fun obj t h1 h2 h3 h4 => by
    have := Ro.c_app rcRo_ok (a := (lkTo l k i1, l.ts[i1].re)) trivial (t := t) (obj := obj) (Ls := [[26, 0], [124, 0], [23, 0], [24, 0]]) rfl (by decide) (by show objAll obj _ (gFam (lkTo l k i1) _); simp only [gFam, gBox, e1, e2]; exact ⟨h1, h2, h3, h4, trivial⟩)
    refine this.trans ?_
    show (⟨True, .tup [rdO (rcOf (lkTo l k i1).rs l.ts[i1].re), .v (.bool (rcOf (lkTo l k i1).rs l.ts[i1].re).isSome)], obj⟩ : R) = _
    rw [e2]
   have hcf : ∀ (r : Rec) (obj : Name → Option O) (t : Name), obj [5, 0] = some (.box [.ref [26, 0] 0]) → obj [26, 0] = some (.box [.v (encLp l), .v (.sl ((recsK l k).map encR)), .msl [124, 0] (lkTo l k i1).ts.length, .map [23, 0], .map [24, 0]]) → obj [124, 0] = some (.arr 1 ((lkTo l k i1).ts.map vInt)) → obj [23, 0] = some (.map 2 (encBk (lkTo l k i1).bk)) → obj [24, 0] = some (.map 0 (encDs (lkTo l k i1).ds)) →
     S160m.app obj t [.v (.sl (l.ts[i1].lv.map vInt)), .clo (.func 163) [] [.ref [5, 0] 0, .v (.ptr [vInt r.so, vInt r.bo, vInt r.pa, .sl (r.lv.map vInt), vInt r.da, vInt r.kn, vInt r.un])]] = ⟨True, .v (.bool (l.ts[i1].lv.any (takB (lkTo l k i1).bk r))), obj⟩ := fun r obj t h0 h1 h2 h3 h4 => by
    have := Ro.c_app (cfRo_ok cfV) (a := (lkTo l k i1, r, l.ts[i1].lv)) hlm (t := t) (obj := obj) (Ls := [[5, 0], [26, 0], [124, 0], [23, 0], [24, 0]]) rfl (by decide) (by
     show objAll obj _ (.box [.ref [26, 0] 0] :: gFam (lkTo l k i1) [[26, 0], [124, 0], [23, 0], [24, 0]])
     simp only [gFam, gBox, e1, e2]; exact ⟨h0, h1, h2, h3, h4, trivial⟩)
    exact this
   refine cl_skip ?_
   repeat refine sq ?_
   refine cl_block ?_
   repeat refine sq ?_
   refine rx hΓ [0,1,5,8,9,56,57,58] [[5, 0],[9, 0],[23, 0],[24, 0],[26, 0],[49, 0],[124, 0]] (fun K' hK => by simp only [go_sem, map_getD hlt1, tnI, nnI, hlt1']; exact fnx) ?_
   rcases hro : rcOf (recsK l k) l.ts[i1].re with _ | r
   ·have hnx : lkTo l k (i1 + 1) = lkTo l k i1 := lkTo_no (newB_no (by rw [hx]; exact hro))
    repeat refine sq ?_
    refine rx hΓ [0,1,5,8,9,10,11,56,57,58] [[5, 0],[9, 0],[10, 0],[23, 0],[24, 0],[26, 0],[49, 0],[124, 0]] (fun K' hK => by simp only [go_sem]; rw [hrc _ _ rfl rfl rfl rfl]; simp only [go_sem, hro, rdO_none, Option.isSome_none]; exact fnx) ?_
    refine cl_weakM (weakM_frzk 10 (.ref [10, 0] 0) (by simp only [go_sem]) (by simp only [go_sem]) [0,1,5,8,9,10,11,56,57,58] [[5, 0],[9, 0],[10, 0],[23, 0],[24, 0],[26, 0],[49, 0],[124, 0]] ?_ rfl) ?_
    ·simp only [go_sem]
    simp only [go_sem]
    repeat refine sq ?_
    refine rsx hΓ [0,1,5,8,9,10,56,57,58,80] [[5, 0],[9, 0],[10, 0],[23, 0],[24, 0],[26, 0],[49, 0],[124, 0]] ?_
    refine cnd (fun hb => ?_) fun hb => ?_
    ·refine cl_exit ?_
     simp only [go_sem]
     refine kp [0,1,5,56,57,58] [[5, 0],[23, 0],[24, 0],[26, 0],[49, 0],[124, 0]] ?_
     refine cl_r hΓ fun K' hK => ?_
     simp only [go_sem]
     repeat (refine ⟨obx, ?_⟩)
     refine hK _ ?_
     clear K' hK
     simp only [go_sem]
     refine ⟨i1 + 1, hlt1, by (show l.ts.length - (i1 + 1) < l.ts.length - i1; omega), ?_⟩
     refine weak_eq [0,1,5,56,57,58] [[5, 0],[23, 0],[24, 0],[26, 0],[49, 0],[124, 0]] ?_ ?_ <;> simp only [go_sem, wrap_succ hlt1 hlt_, csI, hnx]
    ·cases hb
   ·obtain ⟨hrm, hrs⟩ := rcOf_mem hro
    have hrb := recsK_rec hp k r hrm
    have hwd := wrap_day (recB_da hrb)
    repeat refine sq ?_
    refine rx hΓ [0,1,5,8,9,10,11,56,57,58] [[5, 0],[9, 0],[10, 0],[23, 0],[24, 0],[26, 0],[49, 0],[124, 0]] (fun K' hK => by simp only [go_sem]; rw [hrc _ _ rfl rfl rfl rfl]; simp only [go_sem, hro, rdO_some, Option.isSome_some]; exact fnx) ?_
    refine cl_weakM (weakM_frzk 10 (.ref [10, 0] 0) (by simp only [go_sem]) (by simp only [go_sem]) [0,1,5,8,9,10,11,56,57,58] [[5, 0],[9, 0],[10, 0],[23, 0],[24, 0],[26, 0],[49, 0],[124, 0]] ?_ rfl) ?_
    ·simp only [go_sem]
    simp only [go_sem]
    repeat refine sq ?_
    refine rsx hΓ [0,1,5,8,9,10,56,57,58,80] [[5, 0],[9, 0],[10, 0],[23, 0],[24, 0],[26, 0],[49, 0],[124, 0]] ?_
    refine cnd (fun hb => ?_) fun hb => ?_
    ·have hnx : lkTo l k (i1 + 1) = lkTo l k i1 := lkTo_no (newB_no1 (by rw [hx]; exact hro) (by rw [hx]; simpa using hb))
     refine cl_exit ?_
     simp only [go_sem]
     refine kp [0,1,5,56,57,58] [[5, 0],[23, 0],[24, 0],[26, 0],[49, 0],[124, 0]] ?_
     refine cl_r hΓ fun K' hK => ?_
     simp only [go_sem]
     repeat (refine ⟨obx, ?_⟩)
     refine hK _ ?_
     clear K' hK
     simp only [go_sem]
     refine ⟨i1 + 1, hlt1, by (show l.ts.length - (i1 + 1) < l.ts.length - i1; omega), ?_⟩
     refine weak_eq [0,1,5,56,57,58] [[5, 0],[23, 0],[24, 0],[26, 0],[49, 0],[124, 0]] ?_ ?_ <;> simp only [go_sem, wrap_succ hlt1 hlt_, csI, hnx]
    ·have hcn : countsB l.ts[i1].kn l.ts[i1].un k = true := by simpa using hb
     refine cl_skip ?_
     repeat refine sq ?_
     refine rx hΓ [0,1,5,8,9,10,12,56,57,58] [[5, 0],[9, 0],[10, 0],[23, 0],[24, 0],[26, 0],[49, 0],[124, 0]] (fun K' hK => by simp only [go_sem, hwd]; exact fnx) ?_
     obtain ⟨fs, hfs⟩ : ∃ fs, maxI l.ts[i1].lo (r.da + 1) = fs := ⟨_, rfl⟩
     have hfs' := hfs
     unfold maxI at hfs'
     rw [hfs']
     repeat refine sq ?_
     refine rsx hΓ [0,1,5,8,9,10,12,13,56,57,58] [[5, 0],[9, 0],[10, 0],[23, 0],[24, 0],[26, 0],[49, 0],[124, 0]] ?_
     repeat refine sq ?_
     refine rx hΓ [0,1,5,8,9,10,12,56,57,58,99] [[5, 0],[9, 0],[10, 0],[23, 0],[24, 0],[26, 0],[49, 0],[124, 0]] (fun K' hK => by simp only [go_sem]; rw [hcf r _ _ rfl rfl rfl rfl rfl]; simp only [go_sem]; exact fnx) ?_
     refine cnd (fun hb => ?_) fun hb => ?_
     ·have hnx : lkTo l k (i1 + 1) = lkTo l k i1 := lkTo_no (newB_no2 (by rw [hx]; exact hro) (by rw [hx, hfs]; exact hb))
      refine cl_exit ?_
      simp only [go_sem]
      refine kp [0,1,5,56,57,58] [[5, 0],[23, 0],[24, 0],[26, 0],[49, 0],[124, 0]] ?_
      refine cl_r hΓ fun K' hK => ?_
      simp only [go_sem]
      repeat (refine ⟨obx, ?_⟩)
      refine hK _ ?_
      clear K' hK
      simp only [go_sem]
      refine ⟨i1 + 1, hlt1, by (show l.ts.length - (i1 + 1) < l.ts.length - i1; omega), ?_⟩
      refine weak_eq [0,1,5,56,57,58] [[5, 0],[23, 0],[24, 0],[26, 0],[49, 0],[124, 0]] ?_ ?_ <;> simp only [go_sem, wrap_succ hlt1 hlt_, csI, hnx]
     ·have hnx := lkTo_yes (newB_yes (k := k) (rs := recsK l k) (bk := (lkTo l k i1).bk) (x := tsAt l i1) (r := r) (by rw [hx]; exact hro) (by rw [hx]; exact hcn) (by rw [hx, hfs]; exact hb))
      rw [hx, hfs] at hnx
      refine cl_skip ?_
      repeat refine sq ?_
      refine rsx hΓ [0,1,5,8,9,10,12,56,57,58,101,102,103] [[5, 0],[9, 0],[10, 0],[23, 0],[24, 0],[26, 0],[49, 0],[124, 0]] ?_
      refine cl_block ?_
      refine cl_loop'  (fun s : Nat => [(103, ⟨true, .v (vInt s)⟩)]) (fun s => [([23, 0], .map 2 (encBk (bkAll (lkTo l k i1).bk r.so i1 (l.ts[i1].lv.take s))))]) (fun s => s ≤ l.ts[i1].lv.length) (fun s => l.ts[i1].lv.length - s) 0 ?_ ?_ ?_ ?_
      ·exact Nat.zero_le _
      ·rfl
      ·rfl
      rintro i2 hi
      simp only [go_sem]
      repeat refine sq ?_
      refine rsx hΓ [0,1,5,8,9,10,12,56,57,58,101,102,103,104] [[5, 0],[9, 0],[10, 0],[23, 0],[24, 0],[26, 0],[49, 0],[124, 0]] ?_
      repeat refine sq ?_
      refine cnd (fun hb => ?_) fun hb => ?_
      ·have hlt2 : i2 < l.ts[i1].lv.length := by simpa using hb
       have hlt2' : (i2 : Int) < l.ts[i1].lv.length := by omega
       clear hb
       have hB2 := bkAll_succ (lkTo l k i1).bk r.so i1 hlt2
       refine cl_skip ?_
       repeat refine sq ?_
       refine cl_block ?_
       repeat refine sq ?_
       refine rx hΓ [0,1,5,8,9,10,12,15,56,57,58,101,102,103] [[5, 0],[9, 0],[10, 0],[23, 0],[24, 0],[26, 0],[49, 0],[124, 0]] (fun K' hK => by simp only [go_sem, tnI, nnI, map_getD hlt2, tnI, nnI, hlt2']; exact fnx) ?_
       refine cl_d hΓ hP [[], [0], [0, 1], [0, 1, 2], [], [4], [], [4, 5, 6], [], u9] (by kernel_rfl) fun K' hK => ?_
       simp only [go_sem, mset_bk]
       repeat (refine ⟨obx, ?_⟩)
       first | refine ⟨by rfl, ?_⟩ | skip
       refine hK _ ?_
       clear K' hK
       simp only [go_sem]
       refine kp [0,1,5,8,9,10,12,56,57,58,101,102,103] [[5, 0],[9, 0],[10, 0],[23, 0],[24, 0],[26, 0],[49, 0],[124, 0]] ?_
       refine cl_r hΓ fun K' hK => ?_
       simp only [go_sem]
       repeat (refine ⟨obx, ?_⟩)
       refine hK _ ?_
       clear K' hK
       simp only [go_sem]
       refine ⟨i2 + 1, hlt2, by (show l.ts[i1].lv.length - (i2 + 1) < l.ts[i1].lv.length - i2; omega), ?_⟩
       refine weak_eq [0,1,5,8,9,10,12,56,57,58,101,102,103] [[5, 0],[9, 0],[10, 0],[23, 0],[24, 0],[26, 0],[49, 0],[124, 0]] ?_ ?_ <;> simp only [go_sem, wrap_succ hlt2 hlm, csI, hB2]
      ·have hge2 : i2 = l.ts[i1].lv.length := by
        have : ¬ (i2 : Int) < l.ts[i1].lv.length := by simpa using hb
        omega
       clear hb
       subst hge2
       refine cl_exit ?_
       simp only [go_sem]
       refine kp [0,1,5,8,9,12,56,57,58] [[5, 0],[9, 0],[23, 0],[24, 0],[26, 0],[49, 0],[124, 0]] ?_
       repeat refine sq ?_
       refine dx hΓ hP [[], [], [1], [1, 2], [1, 2, 3], [], [5], [1, 2, 3, 4, 5, 6], u8, u9, u10] [0,1,5,8,9,12,56,57,58] [[5, 0],[9, 0],[23, 0],[24, 0],[26, 0],[49, 0],[124, 0]] (by kernel_rfl) (fun K' hK => by simp only [go_sem, Option.isSome_some]; exact fdx) ?_
       refine cl_d hΓ hP [[], [0], [0, 1], [0, 1, 2], [], [], [], [6], [6, 7], [5, 6, 7, 8], u10] (by kernel_rfl) fun K' hK => ?_
       simp only [go_sem, mset_ds]
       repeat (refine ⟨obx, ?_⟩)
       first | refine ⟨by rfl, ?_⟩ | skip
       refine hK _ ?_
       clear K' hK
       simp only [go_sem]
       refine kp [0,1,5,56,57,58] [[5, 0],[23, 0],[24, 0],[26, 0],[49, 0],[124, 0]] ?_
       refine cl_r hΓ fun K' hK => ?_
       simp only [go_sem]
       repeat (refine ⟨obx, ?_⟩)
       refine hK _ ?_
       clear K' hK
       simp only [go_sem]
       refine ⟨i1 + 1, hlt1, by (show l.ts.length - (i1 + 1) < l.ts.length - i1; omega), ?_⟩
       refine weak_eq [0,1,5,56,57,58] [[5, 0],[23, 0],[24, 0],[26, 0],[49, 0],[124, 0]] ?_ ?_ <;> simp only [go_sem, wrap_succ hlt1 hlt_, csI, hnx, List.take_length, List.map_append, List.map_cons, List.map_nil, List.length_append, List.length_cons, List.length_nil]
  ·have hge1 : i1 = l.ts.length := by
    have : ¬ (i1 : Int) < l.ts.length := by simpa using hb
    omega
   clear hb
   subst hge1
   refine cl_exit ?_
   simp only [go_sem]
   refine kp [0,5] [[5, 0],[23, 0],[24, 0],[26, 0],[49, 0],[124, 0]] ?_
   have hk := lkTo_ok l k l.ts.length (Nat.le_refl _)
   obtain ⟨e1, e2⟩ := lkTo_fix l k l.ts.length
   have hΓ := K29b_sound
   have htl3 : (lkTo l k l.ts.length).ts.length ≤ maxLen := Nat.le_trans hk.tn hlt_
   refine cl_weakM (weakM_frzI [26, 0] [124, 0] 2 _ _ _ _ rfl rfl rfl (by first | rfl | (simp only [List.length_map]; done)) [0,5] [[5, 0],[23, 0],[24, 0],[26, 0],[49, 0],[124, 0]] ?_ rfl) ?_
   ·simp only [go_sem, List.set_cons_succ, List.set_cons_zero]
   simp only [go_sem, List.set_cons_succ, List.set_cons_zero]
   repeat refine sq ?_
   refine rsx hΓ [0,5,141,142,143] [[5, 0],[23, 0],[24, 0],[26, 0],[49, 0],[124, 0]] ?_
   refine cl_block ?_
   refine cl_loop'  (fun s : Nat => [(143, ⟨true, .v (vInt s)⟩)]) (fun s => [([24, 0], .map 0 (encDs (lk3 l (recsK l k) (lkTo l k l.ts.length).ts (lkTo l k l.ts.length).ds s)))]) (fun s => s ≤ (lkTo l k l.ts.length).ts.length) (fun s => (lkTo l k l.ts.length).ts.length - s) 0 ?_ ?_ ?_ ?_
   ·exact Nat.zero_le _
   ·rfl
   ·rfl
   rintro i3 hi
   simp only [go_sem]
   repeat refine sq ?_
   refine rsx hΓ [0,5,141,142,143,144] [[5, 0],[23, 0],[24, 0],[26, 0],[49, 0],[124, 0]] ?_
   repeat refine sq ?_
   refine cnd (fun hb => ?_) fun hb => ?_
   ·have hlt3 : i3 < (lkTo l k l.ts.length).ts.length := by simpa using hb
    have hlt3' : (i3 : Int) < (lkTo l k l.ts.length).ts.length := by omega
    clear hb
    obtain ⟨⟨hj0, hj1⟩, r, hrr⟩ := hk.ts (lkTo l k l.ts.length).ts[i3] (List.getElem_mem hlt3)
    have htv := tsV_at hj0 hj1
    have hD : lk3 l (recsK l k) (lkTo l k l.ts.length).ts (lkTo l k l.ts.length).ds (i3 + 1) = nrL (lk3 l (recsK l k) (lkTo l k l.ts.length).ts (lkTo l k l.ts.length).ds i3) (lkTo l k l.ts.length).ts[i3] r.da (withK (recsK l k) r.pa (tsAt l (lkTo l k l.ts.length).ts[i3].toNat).lv) := by
     show nrL _ ((lkTo l k l.ts.length).ts.getD i3 0) (rcD (recsK l k) (tsAt l ((lkTo l k l.ts.length).ts.getD i3 0).toNat).re).da (withK _ (rcD (recsK l k) (tsAt l ((lkTo l k l.ts.length).ts.getD i3 0).toNat).re).pa _) = _
     rw [getD_at hlt3]; unfold rcD; rw [hrr]; rfl
    refine cl_skip ?_
    repeat refine sq ?_
    refine cl_block ?_
    repeat refine sq ?_
    refine rx hΓ [0,5,17,141,142,143] [[5, 0],[17, 0],[23, 0],[24, 0],[26, 0],[49, 0],[124, 0]] (fun K' hK => by simp only [go_sem, map_getD hlt3, tnI, nnI, hlt3']; exact fnx) ?_
    refine cl_weakM (weakM_frzk 17 (.ref [17, 0] 0) (by simp only [go_sem]) (by simp only [go_sem]) [0,5,17,141,142,143] [[5, 0],[17, 0],[23, 0],[24, 0],[26, 0],[49, 0],[124, 0]] ?_ rfl) ?_
    ·simp only [go_sem]
    simp only [go_sem]
    repeat refine sq ?_
    refine dx hΓ hP [[], [0], [0, 1], [0, 1, 2], [], u5, u6, [], u8] [0,5,17,18,141,142,143] [[5, 0],[17, 0],[18, 0],[23, 0],[24, 0],[26, 0],[49, 0],[124, 0]] (by kernel_rfl) (fun K' hK => by simp only [go_sem, htv, hj0, hj1]; exact fdx) ?_
    refine cl_weakM (weakM_frzk 18 (.ref [18, 0] 0) (by simp only [go_sem]) (by simp only [go_sem]) [0,5,17,18,141,142,143] [[5, 0],[17, 0],[18, 0],[23, 0],[24, 0],[26, 0],[49, 0],[124, 0]] ?_ rfl) ?_
    ·simp only [go_sem]
    simp only [go_sem]
    repeat refine sq ?_
    refine rx hΓ [0,5,17,18,19,141,142,143] [[5, 0],[17, 0],[18, 0],[19, 0],[23, 0],[24, 0],[26, 0],[49, 0],[124, 0]] (fun K' hK => by simp only [go_sem, hrr, rdO_some, Option.isSome_some]; exact fnx) ?_
    refine cl_weakM (weakM_frzk 19 (.ref [19, 0] 0) (by simp only [go_sem]) (by simp only [go_sem]) [0,5,17,18,19,141,142,143] [[5, 0],[17, 0],[18, 0],[19, 0],[23, 0],[24, 0],[26, 0],[49, 0],[124, 0]] ?_ rfl) ?_
    ·simp only [go_sem]
    simp only [go_sem]
    repeat refine sq ?_
    refine rsx hΓ [0,5,17,19,141,142,143,166] [[5, 0],[17, 0],[19, 0],[23, 0],[24, 0],[26, 0],[49, 0],[124, 0],[3, 0, 166, 0]] ?_
    refine cl_block ?_
    have hnd := recsK_nodup hp k
    have hok := lkLp_ok  l k (lkTo l k l.ts.length).ts[i3] (i3 : Nat) (lkTo l k l.ts.length).ts.length ⟨l, recsK l k, (lkTo l k l.ts.length).ts, (lkTo l k l.ts.length).bk, lk3 l (recsK l k) (lkTo l k l.ts.length).ts (lkTo l k l.ts.length).ds i3⟩ r (tsAt l (lkTo l k l.ts.length).ts[i3].toNat).lv hnd
    have hit : SSound Tryz.prog 193 ((lkLp l k (lkTo l k l.ts.length).ts[i3] (i3 : Nat) (lkTo l k l.ts.length).ts.length ⟨l, recsK l k, (lkTo l k l.ts.length).ts, (lkTo l k l.ts.length).bk, lk3 l (recsK l k) (lkTo l k l.ts.length).ts (lkTo l k l.ts.length).ds i3⟩ r (tsAt l (lkTo l k l.ts.length).ts[i3].toNat).lv).itC (capsW 4 r.pa (tsAt l (lkTo l k l.ts.length).ts[i3].toNat).lv)).toSpec := s193 hok (fun _ => rfl) (lkLp_y  l k (lkTo l k l.ts.length).ts[i3] (i3 : Nat) (lkTo l k l.ts.length).ts.length ⟨l, recsK l k, (lkTo l k l.ts.length).ts, (lkTo l k l.ts.length).bk, lk3 l (recsK l k) (lkTo l k l.ts.length).ts (lkTo l k l.ts.length).ds i3⟩ r (tsAt l (lkTo l k l.ts.length).ts[i3].toNat).lv hnd) (recsK_rec hp k) (recsK_len hp k) rfl (fun _ => rfl) (j := 4) (jc := 1) (show 4 < 5 by decide) rfl rfl
    refine cl_iterC hok (lkLp_caps  l k (lkTo l k l.ts.length).ts[i3] (i3 : Nat) (lkTo l k l.ts.length).ts.length ⟨l, recsK l k, (lkTo l k l.ts.length).ts, (lkTo l k l.ts.length).bk, lk3 l (recsK l k) (lkTo l k l.ts.length).ts (lkTo l k l.ts.length).ds i3⟩ r (tsAt l (lkTo l k l.ts.length).ts[i3].toNat).lv) (f := 193) 200 201 (Ls := [[5, 0], [26, 0], [23, 0], [24, 0], [3, 0, 166, 0]]) rfl rfl (by decide) hit rfl rfl rfl rfl rfl rfl (by decide) (show ([200, 0] : Name) ∉ [[5, 0], [26, 0], [23, 0], [24, 0], [3, 0, 166, 0]] by decide) ⟨rfl, rfl, rfl, rfl, rfl, trivial⟩ fun o => ?_
    obtain ⟨g1, g2⟩ := Lp.go_e (r := (lkLp l k (lkTo l k l.ts.length).ts[i3] (i3 : Nat) (lkTo l k l.ts.length).ts.length ⟨l, recsK l k, (lkTo l k l.ts.length).ts, (lkTo l k l.ts.length).bk, lk3 l (recsK l k) (lkTo l k l.ts.length).ts (lkTo l k l.ts.length).ds i3⟩ r (tsAt l (lkTo l k l.ts.length).ts[i3].toNat).lv)) (fun _ => rfl)
    have g3 : (lkLp l k (lkTo l k l.ts.length).ts[i3] (i3 : Nat) (lkTo l k l.ts.length).ts.length ⟨l, recsK l k, (lkTo l k l.ts.length).ts, (lkTo l k l.ts.length).bk, lk3 l (recsK l k) (lkTo l k l.ts.length).ts (lkTo l k l.ts.length).ds i3⟩ r (tsAt l (lkTo l k l.ts.length).ts[i3].toNat).lv).fam [[5, 0], [26, 0], [23, 0], [24, 0], [3, 0, 166, 0]] (lkLp l k (lkTo l k l.ts.length).ts[i3] (i3 : Nat) (lkTo l k l.ts.length).ts.length ⟨l, recsK l k, (lkTo l k l.ts.length).ts, (lkTo l k l.ts.length).bk, lk3 l (recsK l k) (lkTo l k l.ts.length).ts (lkTo l k l.ts.length).ds i3⟩ r (tsAt l (lkTo l k l.ts.length).ts[i3].toNat).lv).e = [.box [.ref [26, 0] 0], boxV ⟨l, recsK l k, (lkTo l k l.ts.length).ts, (lkTo l k l.ts.length).bk, lk3 l (recsK l k) (lkTo l k l.ts.length).ts (lkTo l k l.ts.length).ds i3⟩ [23, 0] [24, 0], .map 2 (encBk (lkTo l k l.ts.length).bk), .map 0 (encDs (lk3 l (recsK l k) (lkTo l k l.ts.length).ts (lkTo l k l.ts.length).ds (i3 + 1))), .box [.ref [26, 0] 0]] := by
     rw [g1, hD, ← List.take_length (l := withK (recsK l k) r.pa (tsAt l (lkTo l k l.ts.length).ts[i3].toNat).lv)]
     rfl
    rw [g2, g3]
    simp only [pdK, thenK]
    refine cl_nil ?_
    show CL Tryz.prog (_ :: _) _ _
    refine cl_keep [0,5,141,142,143] [[5, 0],[23, 0],[24, 0],[26, 0],[49, 0],[124, 0]] ?_ ?_
    ·simp only [go_sem, setLs]
    simp only [go_sem, setLs]
    refine cl_r hΓ fun K' hK => ?_
    simp only [go_sem]
    repeat (refine ⟨obx, ?_⟩)
    refine hK _ ?_
    clear K' hK
    simp only [go_sem]
    refine ⟨i3 + 1, hlt3, by (show (lkTo l k l.ts.length).ts.length - (i3 + 1) < (lkTo l k l.ts.length).ts.length - i3; omega), ?_⟩
    refine weak_eq [0,5,141,142,143] [[5, 0],[23, 0],[24, 0],[26, 0],[49, 0],[124, 0]] ?_ ?_ <;> simp only [go_sem, wrap_succ hlt3 htl3, csI]
   ·have hge3 : i3 = (lkTo l k l.ts.length).ts.length := by
     have : ¬ (i3 : Int) < (lkTo l k l.ts.length).ts.length := by simpa using hb
     omega
    clear hb
    subst hge3
    refine cl_exit ?_
    simp only [go_sem]
    refine kp [5] [[5, 0],[23, 0],[24, 0],[26, 0],[49, 0],[124, 0]] ?_
    repeat refine sq ?_
    refine rsx hΓ [4] [[23, 0],[24, 0],[26, 0],[49, 0],[124, 0]] ?_
    refine cl_ret ?_
    simp only [go_sem]
    rw [show (lookV l k).l = l from e1, show (lookV l k).rs = recsK l k from e2]; first | exact ⟨rfl, rfl, rfl⟩ | exact ⟨rfl, rfl, rfl, trivial⟩ | exact ⟨⟨rfl, rfl, rfl⟩, rfl⟩ | trace_state
end
set_option maxHeartbeats 8000000
noncomputable section
def daysE (l : Led) (ds : List Int) : Int := if chkI l = 0 then errI (!ds.any fun d => !dayB d) 6 else chkI l
theorem pG_days : pG (161, []) = fun n => !dayB n := rfl
theorem okG_days : okG (161, []) := .inl rfl
def K30a : List (Nat × Spec) := [(37, S37), (160, S160)]
theorem K30a_sound : KS K30a := tc s37.sound <| tc k160 <| tn
attribute [go_sem] K30a
@[go_sem] def P75 : PSpec := p2 iL iIs (fun _ _ => True) (fun l ds => vInt (daysE l ds)) true
@[go_sem] def S75 : Spec := P75.toSpec
theorem s75 : PSound Tryz.prog 75 P75 := by
 refine wd2 (rs := [.tmp 4]) Tryz.func75 Tryz.ntmps75 fun l ds hp hw => ?_
 simp only [iIs, iL, encL] at hw ⊢
 have hΓ := K30a_sound
 repeat refine sq ?_
 refine rsx hΓ [1,2] [[2, 0]] ?_
 refine cl_weakM (weakM_frzk 2 (.ref [2, 0] 0) (by simp only [go_sem]) (by simp only [go_sem]) [1,2] [[2, 0]] ?_ rfl) ?_
 ·simp only [go_sem]
 simp only [go_sem]
 repeat refine sq ?_
 refine rsx hΓ [1,5] [] ?_
 repeat refine sq ?_
 refine rsx hΓ [1,5,9] [] ?_
 refine cnd (fun hb => ?_) fun hb => ?_
 ·repeat refine sq ?_
  have hc : ¬ chkI l = 0 := by simpa using hb
  unfold daysE; rw [if_neg hc]
  refine rsx hΓ [4] [] ?_
  refine cl_ret ?_
  simp only [go_sem]
  all_goals exact fzI
 ·have hc : chkI l = 0 := by simpa using hb
  unfold daysE; rw [if_pos hc]
  refine cl_skip ?_
  repeat refine sq ?_
  refine rx hΓ [12] [] (fun K' hK => by simp only [go_sem, okG_days, pG_days]; exact fnx) ?_
  refine cnd (fun hb => ?_) fun hb => ?_
  ·repeat refine sq ?_
   rw [show (ds.any fun d => !dayB d) = true from hb]
   refine rsx hΓ [4] [] ?_
   refine cl_ret ?_
   simp only [go_sem]
   all_goals exact fzI
  ·rw [show (ds.any fun d => !dayB d) = false from hb]
   refine cl_skip ?_
   repeat refine sq ?_
   refine rsx hΓ [4] [] ?_
   refine cl_ret ?_
   simp only [go_sem]
   all_goals exact fzI
def K30b : List (Nat × Spec) := [(76, S76), (128, S128)]
attribute [go_sem] K30b
def vNew (x : Vw) (t : Name) : List (Name × O) := [(26 :: 0 :: t, boxV x (23 :: 0 :: t) (24 :: 0 :: t)), (23 :: 0 :: t, .map 2 (encBk x.bk)), (24 :: 0 :: t, .map 0 (encDs x.ds))]
def agN : Option (Int × Int) → Vw → List (Name × O)
 | none, x => vNew x [11, 0]
 | some _, _ => []
def agRes : Option (Int × Int) → D
 | none => .tup [.ref [26, 0, 11, 0] 0, .v (vInt 0)]
 | some _ => .tup [.v .nilp, .v (vInt 25)]
attribute [go_sem] vNew
theorem agN_none (x : Vw) : agN none x = vNew x [11, 0] := rfl
theorem agN_some (p : Int × Int) (x : Vw) : agN (some p) x = [] := rfl
theorem agRes_none : agRes none = .tup [.ref [26, 0, 11, 0] 0, .v (vInt 0)] := rfl
theorem agRes_some (p : Int × Int) : agRes (some p) = .tup [.v .nilp, .v (vInt 25)] := rfl
theorem rdP_some (p : Int × Int) : rdP (some p) = .tup [.v (.sl [vInt p.1, vInt p.2]), .v (.bool true)] := rfl
theorem rdP_none : rdP none = .tup [.nilsl, .v (.bool false)] := rfl
def K30c : List (Nat × Spec) := [(76, S76), (120, S120)]
theorem K30c_sound : KS K30c := tc k76 <| tc k120 <| tn
attribute [go_sem] K30c
def N121 : NSpec := n2 iLp iI (fun l _ => OkL l) (fun l k => agN (pairK (lookV l k)) (lookV l k)) (fun l k => agRes (pairK (lookV l k)))
def S121 : Spec := N121.toSpec
attribute [go_sem] N121 S121
theorem k121 : SSound Tryz.prog 121 S121 := by
 refine nsound (nt := 19) (rs := [.tmp 4, .tmp 5]) Tryz.func121 rfl (by rfl) (by kernel_rfl) (by kernel_rfl) (by decide) ?_
 intro xs hp
 obtain ⟨l, k, rfl, hp, hg1, hg2⟩ := n2_elim hp
 replace hg1 : N121.new _ = _ := hg1
 replace hg2 : N121.d _ = _ := hg2
 rw [hg1, hg2]
 clear hg1 hg2
 refine ⟨lb rfl, ?_⟩
 simp only [iI, iLp, encLp, List.map_cons, List.map_nil, argsD, Nat.zero_add]
 have hΓ := K30c_sound
 repeat refine sq ?_
 refine rsx hΓ [0,1] [] ?_
 repeat refine sq ?_
 refine rsx hΓ [6] [[26, 0, 11, 0],[23, 0, 11, 0],[24, 0, 11, 0]] ?_
 rcases hpk : pairK (lookV l k) with _ | p
 ·repeat refine sq ?_
  refine rx hΓ [6,8] [[26, 0, 11, 0],[23, 0, 11, 0],[24, 0, 11, 0]] (fun K' hK => by simp only [go_sem, hpk, rdP_none]; (repeat (refine ⟨by first | exact obx | exact (lookV_ok hp k).1, ?_⟩)); exact fn0) ?_
  repeat refine sq ?_
  refine rsx hΓ [6,17] [[26, 0, 11, 0],[23, 0, 11, 0],[24, 0, 11, 0]] ?_
  refine cnd (fun hb => ?_) fun hb => ?_
  ·cases hb
  ·refine cl_skip ?_
   repeat refine sq ?_
   refine rsx hΓ [4,5] [[26, 0, 11, 0],[23, 0, 11, 0],[24, 0, 11, 0]] ?_
   refine cl_ret ?_
   simp only [go_sem, agN_none, agRes_none]
   all_goals first | done | rfl | trace_state
 ·repeat refine sq ?_
  refine rx hΓ [6,8] [[26, 0, 11, 0],[23, 0, 11, 0],[24, 0, 11, 0]] (fun K' hK => by simp only [go_sem, hpk, rdP_some]; (repeat (refine ⟨by first | exact obx | exact (lookV_ok hp k).1, ?_⟩)); exact fn0) ?_
  repeat refine sq ?_
  refine rsx hΓ [6,17] [[26, 0, 11, 0],[23, 0, 11, 0],[24, 0, 11, 0]] ?_
  refine cnd (fun hb => ?_) fun hb => ?_
  ·repeat refine sq ?_
   refine rsx hΓ [4,5] [[26, 0, 11, 0],[23, 0, 11, 0],[24, 0, 11, 0]] ?_
   refine cl_ret ?_
   simp only [go_sem, agN_some, agRes_some]
   all_goals first | done | rfl | trace_state
  ·cases hb
theorem sgK_ok {l : Led} (h : OkL l) (k : Int) : (sgK l k).length ≤ 60 ∧ ∀ s ∈ sgK l k, sigD s := by
 refine ⟨Nat.le_trans (List.length_filter_le _ _) h.ssn, fun s hs => ?_⟩
 obtain ⟨j, hj, rfl⟩ := List.getElem_of_mem (List.mem_filter.1 hs).1
 have := allB_at h.ss hj
 unfold sigB at this
 simp only [Bool.and_eq_true] at this
 have hd := this.1.2
 unfold dayB inI at hd
 simp at hd
 exact hd
def svK (x : Vw) (k : Int) : Vw := { x with ds := fitD x x.ds (sgK x.l k) }
def soN : Option (Int × Int) → Bool → Vw → Int → List (Name × O)
 | none, true, x, k => vNew (svK x k) [11, 0, 11, 0]
 | _, _, _, _ => []
def soE : Option (Int × Int) → Bool → Int
 | some _, _ => 25
 | none, false => 27
 | none, true => 0
def soR : Option (Int × Int) → Bool → D
 | some _, _ => .tup [.v .nilp, .v (vInt 25)]
 | none, false => .tup [.v .nilp, .v (vInt 27)]
 | none, true => .tup [.ref [26, 0, 11, 0, 11, 0] 0, .v (vInt 0)]
theorem soN_ok (x : Vw) (k : Int) : soN none true x k = vNew (svK x k) [11, 0, 11, 0] := rfl
theorem soN_no (x : Vw) (k : Int) : soN none false x k = [] := rfl
theorem soN_dbl (p : Int × Int) (b : Bool) (x : Vw) (k : Int) : soN (some p) b x k = [] := by cases b <;> rfl
theorem soR_ok : soR none true = .tup [.ref [26, 0, 11, 0, 11, 0] 0, .v (vInt 0)] := rfl
theorem soR_no : soR none false = .tup [.v .nilp, .v (vInt 27)] := rfl
theorem soR_dbl (p : Int × Int) (b : Bool) : soR (some p) b = .tup [.v .nilp, .v (vInt 25)] := by cases b <;> rfl
def K30d : List (Nat × Spec) := [(121, S121), (122, S122), (128, S128)]
theorem K30d_sound : KS K30d := tc k121 <| tc k122 <| tc k128 <| tn
attribute [go_sem] K30d
def N78 : NSpec := n2 iLp iI (fun l _ => OkL l) (fun l k => soN (pairK (lookV l k)) (fitB (lookV l k) (sgK (lookV l k).l k)) (lookV l k) k) (fun l k => soR (pairK (lookV l k)) (fitB (lookV l k) (sgK (lookV l k).l k)))
def S78 : Spec := N78.toSpec
attribute [go_sem] N78 S78
theorem k78 : SSound Tryz.prog 78 S78 := by
 refine nsound (nt := 24) (rs := [.tmp 4, .tmp 5]) Tryz.func78 rfl (by rfl) (by kernel_rfl) (by kernel_rfl) (by decide) ?_
 intro xs hp
 obtain ⟨l, k, rfl, hp, hg1, hg2⟩ := n2_elim hp
 replace hg1 : N78.new _ = _ := hg1
 replace hg2 : N78.d _ = _ := hg2
 rw [hg1, hg2]
 clear hg1 hg2
 refine ⟨lb rfl, ?_⟩
 simp only [iI, iLp, encLp, List.map_cons, List.map_nil, argsD, Nat.zero_add]
 have hΓ := K30d_sound
 obtain ⟨hv, hnd⟩ := lookV_ok hp k
 obtain ⟨hs1, hs2⟩ := sgK_ok hv.ok k
 repeat refine sq ?_
 refine rsx hΓ [0,1] [] ?_
 rcases hpk : pairK (lookV l k) with _ | p
 ·repeat refine sq ?_
  refine rx hΓ [1,6,7] [[26, 0, 11, 0, 11, 0],[23, 0, 11, 0, 11, 0],[24, 0, 11, 0, 11, 0]] (fun K' hK => by simp only [go_sem, hpk, agN_none, agRes_none]; exact fnx) ?_
  repeat refine sq ?_
  refine rsx hΓ [1,6,7,15] [[26, 0, 11, 0, 11, 0],[23, 0, 11, 0, 11, 0],[24, 0, 11, 0, 11, 0]] ?_
  refine cnd (fun hb => ?_) fun hb => ?_
  ·cases hb
  ·refine cl_skip ?_
   repeat refine sq ?_
   refine rx hΓ [6,22] [[26, 0, 11, 0, 11, 0],[23, 0, 11, 0, 11, 0],[24, 0, 11, 0, 11, 0]] (fun K' hK => by simp only [go_sem]; (repeat (refine ⟨by first | exact obx | exact hv.ok.ssn | exact ⟨⟨⟨hv, hnd⟩, hs1⟩, hs2⟩, ?_⟩)); exact fn0) ?_
   refine cnd (fun hb => ?_) fun hb => ?_
   ·repeat refine sq ?_
    have hf : fitB (lookV l k) (sgK (lookV l k).l k) = false := by simpa using hb
    refine rsx hΓ [4,5] [[26, 0, 11, 0, 11, 0],[23, 0, 11, 0, 11, 0],[24, 0, 11, 0, 11, 0]] ?_
    refine cl_ret ?_
    simp only [go_sem]
    all_goals first | done | rfl | (rw [hf]; simp only [go_sem, soN_no, soR_no]; done) | trace_state
   ·have hf : fitB (lookV l k) (sgK (lookV l k).l k) = true := by simpa using hb
    refine cl_skip ?_
    repeat refine sq ?_
    refine rsx hΓ [4,5] [[26, 0, 11, 0, 11, 0],[23, 0, 11, 0, 11, 0],[24, 0, 11, 0, 11, 0]] ?_
    refine cl_ret ?_
    simp only [go_sem]
    all_goals first | done | rfl | (rw [hf]; simp only [go_sem, soN_ok, soR_ok, svK]; done) | trace_state
 ·repeat refine sq ?_
  refine rx hΓ [1,6,7] [[26, 0, 11, 0, 11, 0],[23, 0, 11, 0, 11, 0],[24, 0, 11, 0, 11, 0]] (fun K' hK => by simp only [go_sem, hpk, agN_some, agRes_some]; exact fnx) ?_
  repeat refine sq ?_
  refine rsx hΓ [1,6,7,15] [[26, 0, 11, 0, 11, 0],[23, 0, 11, 0, 11, 0],[24, 0, 11, 0, 11, 0]] ?_
  refine cnd (fun hb => ?_) fun hb => ?_
  ·repeat refine sq ?_
   refine rsx hΓ [4,5] [[26, 0, 11, 0, 11, 0],[23, 0, 11, 0, 11, 0],[24, 0, 11, 0, 11, 0]] ?_
   refine cl_ret ?_
   simp only [go_sem, soN_dbl, soR_dbl]
   all_goals first | done | rfl | (rw [hf]; simp only [go_sem, soN_ok, soN_no, soR_ok, soR_no, svK]; done) | trace_state
  ·cases hb
end
noncomputable section
theorem lookV_l (l : Led) (k : Int) : (lookV l k).l = l := (lkTo_fix l k l.ts.length).1
theorem daysE_ok {l : Led} {ds : List Int} (h : daysE l ds = 0) : OkL l ∧ ∀ d ∈ ds, dayB d = true := by
 unfold daysE at h
 split at h
 ·rename_i hc
  refine ⟨?_, ?_⟩
  ·refine Classical.byContradiction fun hn => ?_
   rw [chkI_bad hn] at hc; cases hc
  ·unfold errI at h
   split at h
   ·rename_i hd
    intro d hdm
    have : (ds.any fun d => !dayB d) = false := by simpa using hd
    rw [List.any_eq_false] at this
    have := this d hdm
    simpa using this
   ·cases h
 ·rename_i hc; exact (hc h).elim
def soAt (l : Led) (i : Int) : Int := (tsAt l i.toNat).so
def soundB (l : Led) (k : Int) : Bool := (pairK (lookV l k)).isNone && fitB (lookV l k) (sgK (lookV l k).l k)
def K31 : List (Nat × Spec) := [(75, S75), (76, S76), (120, S120), (121, S121), (122, S122), (128, S128), (77, S77), (129, S129)]
attribute [go_sem] K31
end
set_option maxHeartbeats 8000000
noncomputable section
def roK (l : Led) (s k : Int) : Option Int := (lookV l k).ts.find? fun i => soAt l i == s
def roE (l : Led) (s k : Int) : Int := if daysE l [k] = 0 then errI (roK l s k).isSome 3 else daysE l [k]
def roI (l : Led) (s k : Int) : Int := if daysE l [k] = 0 then (roK l s k).getD 0 else 0
def K32a : List (Nat × Spec) := [(75, S75), (76, S76)]
theorem K32a_sound : KS K32a := tc s75.sound <| tc k76 <| tn
attribute [go_sem] K32a
@[go_sem] def P97 : PSpec := p3 iL iI iI (fun _ _ _ => True) (fun l s k => .tup [vInt (roI l s k), vInt (roE l s k)]) true
@[go_sem] def S97 : Spec := P97.toSpec
theorem s97 : PSound Tryz.prog 97 P97 := by
 refine wd3 (rs := [.tmp 6, .tmp 7]) Tryz.func97 Tryz.ntmps97 fun l so k hp hw => ?_
 simp only [iI, iL, encL] at hw ⊢
 have hΓ := K32a_sound
 repeat refine sq ?_
 refine rsx hΓ [1,2,3] [[3, 0]] ?_
 refine cl_weakM (weakM_frzk 3 (.ref [3, 0] 0) (by simp only [go_sem]) (by simp only [go_sem]) [1,2,3] [[3, 0]] ?_ rfl) ?_
 ·simp only [go_sem]
 simp only [go_sem]
 repeat refine sq ?_
 refine rsx hΓ [1,2,3,8] [[3, 0]] ?_
 repeat refine sq ?_
 refine rsx hΓ [1,2,3,8,16] [[3, 0]] ?_
 refine cnd (fun hb => ?_) fun hb => ?_
 ·repeat refine sq ?_
  have hc : ¬ daysE l [k] = 0 := by simpa using hb
  unfold roI roE; rw [if_neg hc, if_neg hc]
  refine rsx hΓ [6,7] [] ?_
  refine cl_ret ?_
  simp only [go_sem]
  all_goals exact fzI
 ·have hc : daysE l [k] = 0 := by simpa using hb
  unfold roI roE; rw [if_pos hc, if_pos hc]
  obtain ⟨hok, _⟩ := daysE_ok hc
  obtain ⟨hv, hnd⟩ := lookV_ok hok k
  have htl : (lookV l k).ts.length ≤ maxLen := by have := hv.tn; unfold maxLen; omega
  refine cl_skip ?_
  repeat refine sq ?_
  refine rsx hΓ [1,3,22,23,24] [[3, 0]] ?_
  refine cl_block ?_
  refine cl_loop'  (fun s : Nat => [(24, ⟨true, .v (vInt s)⟩)]) (fun s => []) (fun s => s ≤ (lookV l k).ts.length ∧ ∀ j (h : j < (lookV l k).ts.length), j < s → (soAt l (lookV l k).ts[j] == so) = false) (fun s => (lookV l k).ts.length - s) 0 ?_ ?_ ?_ ?_
  ·exact ⟨Nat.zero_le _, by simp⟩
  ·rfl
  ·rfl
  rintro i ⟨hi, hR⟩
  simp only [go_sem]
  repeat refine sq ?_
  refine rsx hΓ [1,3,22,23,24,25] [[3, 0]] ?_
  repeat refine sq ?_
  refine cnd (fun hb => ?_) fun hb => ?_
  ·have hlt : i < (lookV l k).ts.length := by simpa using hb
   have hlt' : (i : Int) < (lookV l k).ts.length := by omega
   clear hb
   obtain ⟨hj0, hj1⟩ := hv.ts _ (List.getElem_mem hlt)
   rw [lookV_l] at hj1
   have htv := tsV_at (l := l) hj0 hj1
   refine cl_skip ?_
   repeat refine sq ?_
   refine cl_block ?_
   repeat refine sq ?_
   refine rx hΓ [1,3,10,22,23,24] [[3, 0]] (fun K' hK => by simp only [go_sem, map_getD hlt, tnI, nnI, hlt']; exact fnx) ?_
   repeat refine sq ?_
   refine rx hΓ [1,3,10,22,23,24,35] [[3, 0]] (fun K' hK => by simp only [go_sem, htv, hj0, hj1]; exact fnx) ?_
   refine cnd (fun hb => ?_) fun hb => ?_
   ·repeat refine sq ?_
    refine rsx hΓ [6,7] [] ?_
    refine cl_ret ?_
    simp only [go_sem]
    have e : roK l so k = some (lookV l k).ts[i] := List.find?_eq_some_iff_getElem.2 ⟨hb, i, hlt, rfl, fun j hj => by rw [hR j (by omega) hj]; rfl⟩
    rw [e]; rfl
   ·refine cl_skip ?_
    refine cl_nil ?_
    simp only [go_sem]
    refine kp [1,3,22,23,24] [[3, 0]] ?_
    refine cl_r hΓ fun K' hK => ?_
    simp only [go_sem]
    repeat (refine ⟨obx, ?_⟩)
    refine hK _ ?_
    clear K' hK
    simp only [go_sem]
    refine ⟨i + 1, ⟨hlt, ?_⟩, by (show (lookV l k).ts.length - (i + 1) < (lookV l k).ts.length - i; omega), ?_⟩
    ·intro j hj hji
     rcases Nat.lt_succ_iff_lt_or_eq.1 hji with h5 | rfl
     ·exact hR j hj h5
     ·exact hb
    refine weak_eq [1,3,22,23,24] [[3, 0]] ?_ ?_ <;> simp only [go_sem, wrap_succ hlt htl, csI]
  ·have hge : i = (lookV l k).ts.length := by
    have : ¬ (i : Int) < (lookV l k).ts.length := by simpa using hb
    omega
   clear hb
   subst hge
   refine cl_exit ?_
   simp only [go_sem]
   refine kp [] [] ?_
   repeat refine sq ?_
   refine rsx hΓ [6,7] [] ?_
   refine cl_ret ?_
   simp only [go_sem]
   have e : roK l so k = none := List.find?_eq_none.2 fun y hy => by
    obtain ⟨j, hj, rfl⟩ := List.getElem_of_mem hy
    rw [hR j hj hj]; decide
   rw [e]; rfl
def whK (x : Vw) (pa le day : Int) : List Int := match atK x.rs pa le day with
 | none => [0]
 | some r => match bkAt x.bk (r.so, le) with
  | none => [r.bo]
  | some i => (if (dsAt x.ds i).1 ≤ day then [0] else []) ++ (if (dsAt x.ds i).2 > day then [r.bo] else [])
def K32b : List (Nat × Spec) := [(119, S119)]
theorem K32b_sound : KS K32b := tc k119 <| tn
attribute [go_sem] K32b
def V80 : VSpec := v2 iFo iI (fun x _ _ => VOk x ∧ x.rs.Nodup) (fun x f day => .v (.sl ((whK x f.pa f.le day).map vInt))) none
def S80 : Spec := V80.toSpec
attribute [go_sem] V80 S80
theorem k80 : SSound Tryz.prog 80 S80 := by
 refine vw2 (rs := [.tmp 6]) Tryz.func80 Tryz.ntmps80 (by rfl) (by kernel_rfl) (by decide) (fun _ _ _ => by first | rfl | simp [D.clos, D.closL, rdO_clos]) ⟨_, rfl, lb rfl, fun x f day hp H h0 h1 h2 hO hO2 => ?_⟩
 have hP := mixedK
 simp only [iFo, iI, encFo, boxV, argsD, List.map_cons, List.map_nil, Nat.zero_add, Option.map_none] at h0 ⊢
 have hΓ := K32b_sound
 obtain ⟨pa, le⟩ := f
 have hw1 : whK x pa le day = match atK x.rs pa le day with
  | none => [0]
  | some r => match bkAt x.bk (r.so, le) with
   | none => [r.bo]
   | some i => (if (dsAt x.ds i).1 ≤ day then [0] else []) ++ (if (dsAt x.ds i).2 > day then [r.bo] else []) := rfl
 rw [hw1]
 clear hw1
 repeat refine sq ?_
 refine rx hΓ [0,2,4] [[4, 0]] (fun K' hK => by simp only [go_sem]; (repeat (refine ⟨obx, ?_⟩)); exact hK _ (by simp only [go_sem, hO]) (by simp only [go_sem] <;> rfl)) ?_
 rcases hat : atK x.rs pa le day with _ | r
 ·repeat refine sq ?_
  refine rx hΓ [0,2,4,7,8] [[4, 0],[7, 0]] (fun K' hK => by simp only [go_sem, h0, h1, h2, hat, rdO_none, Option.isSome_none]; (repeat (refine ⟨obx, ?_⟩)); exact hK _ (by simp only [go_sem, hO]) (by simp only [go_sem] <;> rfl)) ?_
  repeat refine sq ?_
  refine rx hΓ [0,2,4,7,20] [[4, 0],[7, 0]] (fun K' hK => by simp only [go_sem]; (repeat (refine ⟨obx, ?_⟩)); exact hK _ (by simp only [go_sem, hO]) (by simp only [go_sem] <;> rfl)) ?_
  refine cnd (fun hb => ?_) fun hb => ?_
  ·repeat refine sq ?_
   refine rx hΓ [6] [[51, 0],[65, 0]] (fun K' hK => by simp only [go_sem]; (repeat (refine ⟨obx, ?_⟩)); exact hK _ (by simp only [go_sem, hO]) (by simp only [go_sem] <;> rfl)) ?_
   refine cl_ret ?_
   simp only [go_sem, h0, h1, h2]
   all_goals first | rfl | (simp only [hbk]; rfl) | (simp_all; done) | trace_state
  ·cases hb
 ·repeat refine sq ?_
  refine rx hΓ [0,2,4,7,8] [[4, 0],[7, 0]] (fun K' hK => by simp only [go_sem, h0, h1, h2, hat, rdO_some, Option.isSome_some]; (repeat (refine ⟨obx, ?_⟩)); exact hK _ (by simp only [go_sem, hO]) (by simp only [go_sem] <;> rfl)) ?_
  repeat refine sq ?_
  refine rx hΓ [0,2,4,7,20] [[4, 0],[7, 0]] (fun K' hK => by simp only [go_sem]; (repeat (refine ⟨obx, ?_⟩)); exact hK _ (by simp only [go_sem, hO]) (by simp only [go_sem] <;> rfl)) ?_
  refine cnd (fun hb => ?_) fun hb => ?_
  ·cases hb
  ·refine cl_skip ?_
   rcases hbk : bkAt x.bk (r.so, le) with _ | j
   ·repeat refine sq ?_
    refine dx hΓ hP [[], [0], [0, 1], [0, 1, 2], [], [4], [], [6], [4, 5, 6, 7], u9, u10, u11, u11, u12, u14] [0,2,7,9,10] [[7, 0]] (by kernel_rfl) (fun K' hK => by simp only [go_sem, h0, h1, mget_bk, hbk, Option.map_none, Option.isSome_none, Option.getD_none]; (repeat (refine ⟨obx, ?_⟩)); (first | refine ⟨by rfl, ?_⟩ | skip); exact hK _ (by simp only [go_sem, hO]) (by simp only [go_sem] <;> rfl)) ?_
    repeat refine sq ?_
    refine rx hΓ [0,2,7,9,36] [[7, 0]] (fun K' hK => by simp only [go_sem]; (repeat (refine ⟨obx, ?_⟩)); exact hK _ (by simp only [go_sem, hO]) (by simp only [go_sem] <;> rfl)) ?_
    refine cnd (fun hb => ?_) fun hb => ?_
    ·repeat refine sq ?_
     refine rx hΓ [6] [[51, 0],[65, 0]] (fun K' hK => by simp only [go_sem, Option.isSome_some]; (repeat (refine ⟨obx, ?_⟩)); exact hK _ (by simp only [go_sem, hO, Option.map_none]) (by simp only [go_sem, Option.map_none] <;> rfl)) ?_
     refine cl_ret ?_
     simp only [go_sem, h0, h1, h2]
     all_goals first | rfl | (simp only [hbk]; rfl) | (simp_all; done) | trace_state
    ·cases hb
   ·repeat refine sq ?_
    refine dx hΓ hP [[], [0], [0, 1], [0, 1, 2], [], [4], [], [6], [4, 5, 6, 7], u9, u10, u11, u11, u12, u14] [0,2,7,9,10] [[7, 0]] (by kernel_rfl) (fun K' hK => by simp only [go_sem, h0, h1, Option.isSome_some, mget_bk, hbk, Option.map_some, Option.isSome_some, Option.getD_some]; (repeat (refine ⟨obx, ?_⟩)); (first | refine ⟨by rfl, ?_⟩ | skip); exact hK _ (by simp only [go_sem, hO, Option.map_some]) (by simp only [go_sem, Option.map_some] <;> rfl)) ?_
    repeat refine sq ?_
    refine rx hΓ [0,2,7,9,36] [[7, 0]] (fun K' hK => by simp only [go_sem]; (repeat (refine ⟨obx, ?_⟩)); exact hK _ (by simp only [go_sem, hO, Option.map_some]) (by simp only [go_sem, Option.map_some] <;> rfl)) ?_
    refine cnd (fun hb => ?_) fun hb => ?_
    ·cases hb
    ·refine cl_skip ?_
     repeat refine sq ?_
     refine rx hΓ [0,2,7,9,11] [[7, 0],[51, 0],[65, 0]] (fun K' hK => by simp only [go_sem]; (repeat (refine ⟨obx, ?_⟩)); exact hK _ (by simp only [go_sem, hO, Option.map_some]) (by simp only [go_sem, Option.map_some] <;> rfl)) ?_
     refine cl_weakM (weakM_ghostk 11 [51, 0] 1 (by simp only [go_sem]) (by simp only [go_sem]) [0,2,7,9,11] [[7, 0],[51, 0],[65, 0]] ?_ rfl) ?_
     ·simp only [go_sem, hO]
     simp only [go_sem]
     repeat refine sq ?_
     refine rx hΓ [0,2,7,9,11,48] [[7, 0],[51, 0],[65, 0]] (fun K' hK => by simp only [go_sem, h0, h2, Option.map_some, mget_ds]; (repeat (refine ⟨obx, ?_⟩)); exact hK _ (by simp only [go_sem, hO, Option.map_some]) (by simp only [go_sem, Option.map_some] <;> rfl)) ?_
     refine cnd (fun hb => ?_) fun hb => ?_
     ·refine rx hΓ [0,2,7,9,11] [[7, 0],[51, 0],[65, 0]] (fun K' hK => by simp only [go_sem, Option.isSome_some, Option.isSome_some]; (repeat (refine ⟨obx, ?_⟩)); exact hK _ (by simp only [go_sem, hO, Option.map_some]) (by simp only [go_sem, Option.map_some] <;> rfl)) ?_
      repeat refine sq ?_
      refine rx hΓ [7,11,60] [[7, 0],[51, 0],[65, 0]] (fun K' hK => by simp only [go_sem, h0, h2, Option.map_some, mget_ds]; (repeat (refine ⟨obx, ?_⟩)); exact hK _ (by simp only [go_sem, hO, Option.map_some]) (by simp only [go_sem, Option.map_some] <;> rfl)) ?_
      refine cnd (fun hb => ?_) fun hb => ?_
      ·refine rx hΓ [11] [[51, 0],[65, 0]] (fun K' hK => by simp only [go_sem, Option.isSome_some, Option.isSome_some]; (repeat (refine ⟨obx, ?_⟩)); exact hK _ (by simp only [go_sem, hO, Option.map_some]) (by simp only [go_sem, Option.map_some] <;> rfl)) ?_
       repeat refine sq ?_
       refine rx hΓ [6] [[51, 0],[65, 0]] (fun K' hK => by simp only [go_sem]; (repeat (refine ⟨obx, ?_⟩)); exact hK _ (by simp only [go_sem, hO, Option.map_some]) (by simp only [go_sem, Option.map_some] <;> rfl)) ?_
       first | refine cl_weakM (weakM_frzk 6 (.msl [51, 0] 2) rfl (by simp only [go_sem]) [6] [] ?_ rfl) ?_ | refine cl_weakM (weakM_frzk 6 (.msl [51, 0] 1) rfl (by simp only [go_sem]) [6] [] ?_ rfl) ?_ | refine cl_weakM (weakM_frzk 6 (.msl [51, 0] 0) rfl (by simp only [go_sem]) [6] [] ?_ rfl) ?_
       ·simp only [go_sem, hO]
       simp only [go_sem]
       refine cl_ret ?_
       simp only [go_sem, h0, h1, h2]
       all_goals first | rfl | (simp only [hbk]; rfl) | (simp_all; done) | trace_state
      ·refine cl_skip ?_
       repeat refine sq ?_
       refine rx hΓ [6] [[51, 0],[65, 0]] (fun K' hK => by simp only [go_sem]; (repeat (refine ⟨obx, ?_⟩)); exact hK _ (by simp only [go_sem, hO, Option.map_some]) (by simp only [go_sem, Option.map_some] <;> rfl)) ?_
       first | refine cl_weakM (weakM_frzk 6 (.msl [51, 0] 2) rfl (by simp only [go_sem]) [6] [] ?_ rfl) ?_ | refine cl_weakM (weakM_frzk 6 (.msl [51, 0] 1) rfl (by simp only [go_sem]) [6] [] ?_ rfl) ?_ | refine cl_weakM (weakM_frzk 6 (.msl [51, 0] 0) rfl (by simp only [go_sem]) [6] [] ?_ rfl) ?_
       ·simp only [go_sem, hO]
       simp only [go_sem]
       refine cl_ret ?_
       simp only [go_sem, h0, h1, h2]
       all_goals first | rfl | (simp only [hbk]; rfl) | (simp_all; done) | trace_state
     ·refine cl_skip ?_
      repeat refine sq ?_
      refine rx hΓ [7,11,60] [[7, 0],[51, 0],[65, 0]] (fun K' hK => by simp only [go_sem, h0, h2, Option.map_some, mget_ds]; (repeat (refine ⟨obx, ?_⟩)); exact hK _ (by simp only [go_sem, hO, Option.map_some]) (by simp only [go_sem, Option.map_some] <;> rfl)) ?_
      refine cnd (fun hb => ?_) fun hb => ?_
      ·refine rx hΓ [11] [[51, 0],[65, 0]] (fun K' hK => by simp only [go_sem, Option.isSome_some, Option.isSome_some]; (repeat (refine ⟨obx, ?_⟩)); exact hK _ (by simp only [go_sem, hO, Option.map_some]) (by simp only [go_sem, Option.map_some] <;> rfl)) ?_
       repeat refine sq ?_
       refine rx hΓ [6] [[51, 0],[65, 0]] (fun K' hK => by simp only [go_sem]; (repeat (refine ⟨obx, ?_⟩)); exact hK _ (by simp only [go_sem, hO, Option.map_some]) (by simp only [go_sem, Option.map_some] <;> rfl)) ?_
       first | refine cl_weakM (weakM_frzk 6 (.msl [51, 0] 2) rfl (by simp only [go_sem]) [6] [] ?_ rfl) ?_ | refine cl_weakM (weakM_frzk 6 (.msl [51, 0] 1) rfl (by simp only [go_sem]) [6] [] ?_ rfl) ?_ | refine cl_weakM (weakM_frzk 6 (.msl [51, 0] 0) rfl (by simp only [go_sem]) [6] [] ?_ rfl) ?_
       ·simp only [go_sem, hO]
       simp only [go_sem]
       refine cl_ret ?_
       simp only [go_sem, h0, h1, h2]
       all_goals first | rfl | (simp only [hbk]; rfl) | (simp_all; done) | trace_state
      ·refine cl_skip ?_
       repeat refine sq ?_
       refine rx hΓ [6] [[51, 0],[65, 0]] (fun K' hK => by simp only [go_sem]; (repeat (refine ⟨obx, ?_⟩)); exact hK _ (by simp only [go_sem, hO, Option.map_some]) (by simp only [go_sem, Option.map_some] <;> rfl)) ?_
       first | refine cl_weakM (weakM_frzk 6 (.msl [51, 0] 2) rfl (by simp only [go_sem]) [6] [] ?_ rfl) ?_ | refine cl_weakM (weakM_frzk 6 (.msl [51, 0] 1) rfl (by simp only [go_sem]) [6] [] ?_ rfl) ?_ | refine cl_weakM (weakM_frzk 6 (.msl [51, 0] 0) rfl (by simp only [go_sem]) [6] [] ?_ rfl) ?_
       ·simp only [go_sem, hO]
       simp only [go_sem]
       refine cl_ret ?_
       simp only [go_sem, h0, h1, h2]
       all_goals first | rfl | (simp only [hbk]; rfl) | (simp_all; done) | trace_state
end
end Go.Eng
