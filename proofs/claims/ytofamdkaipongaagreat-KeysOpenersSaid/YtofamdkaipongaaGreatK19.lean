import Derived.Test.YtofamdkaipongaaGreatK18
/- Texts KW91 to KW105. -/
set_option linter.all false
namespace Go.Eng
open Go Go.Proofs
set_option maxRecDepth 10000
theorem OutC_ifu3 (p : Name) (dom : Name → Bool) (F H : Name → Option O) (x y z : Name) (o q r : Option O) :
  OutC p dom (upd (upd (upd (fun nm => if own p nm = true then F nm else H nm) x o) y q) z r) = OutC p dom (upd (upd (upd H x o) y q) z r) :=
 OutC_congr fun nm hn => upd_cong (upd_cong (upd_cong (by simp [hn])))
theorem mkS_ifu3 (n : Nat) (p : Name) (F H : Name → Option O) (x y z : Name) (o q r : Option O) (l : List (Nat × E)) (h : List (Name × O)) :
  mkS n p (upd (upd (upd (fun nm => if own p nm = true then F nm else H nm) x o) y q) z r) l h = mkS n p (upd (upd (upd H x o) y q) z r) l h :=
 mkS_same fun nm hn => upd_cong (upd_cong (upd_cong (by simp [hn])))
theorem three_names {Ls : List Name} (h : Ls.length = 3) : ∃ a b c, Ls = [a, b, c] := by
 match Ls, h with
 | [a, b, c], _ => exact ⟨a, b, c, rfl⟩
def threeW (c : List Deed) (day : Int) (k : Nat) : List Sta := [wX c day k, wY c day k, wZ c day k]
def badW (c : List Deed) (day : Int) (ps : List Int) (k : Nat) : Bool := !threeB (threeW c day k) ps || (threeW c day k).any fun x => (offA c day x false).2
def holdW (c : List Deed) (day : Int) (ps : List Int) (k : Nat) : Int := if threeB (threeW c day k) ps then (((threeW c day k).find? fun x => (offA c day x false).2).getD zeroS).h else 0
def unFam (c : List Deed) (day : Int) (ps : List Int) (s : Nat) : List O :=
 match s with
 | 0 => [.box cells0, .box [.v (vInt 0)], .box [.v (.bool false)]]
 | k + 1 => if badW c day ps k then [.box (cellsW (wA c day k) (wB c day k) (wC c day k) 0 0 0 (wX c day k) (wY c day k) (wZ c day k)), .box [.v (vInt (holdW c day ps k))], .box [.v (.bool true)]] else [.box cells0, .box [.v (vInt 0)], .box [.v (.bool false)]]
def enU (c : List Deed) (day : Int) (ps : List Int) (a b d : Name) : List E :=
 (List.range 38).map (ofL eAny [(2, ⟨true, .v (.ptr [.sl (c.map encD), vInt day])⟩), (3, ⟨true, .v (.ptr [.sl (ps.map vInt)])⟩), (4, ⟨true, .ref a 0⟩), (5, ⟨true, .ref b 0⟩), (6, ⟨true, .ref d 0⟩), (13, ⟨true, .v (.clo (.func 177) [] [.ptr [.sl (c.map encD), vInt day]])⟩)])
noncomputable def cdU : Array Tmp × Code × Code := rngOf Tryz.f128
noncomputable def unLp (c : List Deed) (day : Int) (ps : List Int) : Lp where
 m := 3
 env := fun Ls => enU c day ps (Ls.getD 0 []) (Ls.getD 1 []) (Ls.getD 2 [])
 fam := fun _ s => unFam c day ps s
 ps := cdU.1.toList
 asg := cdU.2.1
 body := cdU.2.2
 n := wN c day
 vals := wVals c day
 st := fun k => if badW c day ps k then some .ret else none
 fu := 100
theorem unFam_cases (c : List Deed) (day : Int) (ps : List Int) (s : Nat) : ∃ (a b d p q r : Int) (x y z : Sta) (h : Int) (t : Bool), unFam c day ps s = [.box (cellsW a b d p q r x y z), .box [.v (vInt h)], .box [.v (.bool t)]] := by
 cases s with
 | zero => exact ⟨_, _, _, _, _, _, _, _, _, _, _, rfl⟩
 | succ s =>
  simp only [unFam]
  split
  ·exact ⟨_, _, _, _, _, _, _, _, _, _, _, rfl⟩
  ·exact ⟨_, _, _, _, _, _, _, _, _, _, _, rfl⟩
theorem unLp_ok (c : List Deed) (day : Int) (ps : List Int) : (unLp c day ps).Ok where
 len := fun Ls s _ => by obtain ⟨a, b, d, p, q, r, x, y, z, u, t, h⟩ := unFam_cases c day ps s; simp only [unLp, h]; rfl
 renE := fun f Ls h => by obtain ⟨a, b, d, rfl⟩ := three_names h; rfl
 renF := fun f Ls s h => by obtain ⟨a, b, d, p, q, r, x, y, z, u, t, h⟩ := unFam_cases c day ps s; simp only [unLp, h]; rfl
 reach := fun Ls s obj acc k h hn hd hF => by
  obtain ⟨a, b, d, rfl⟩ := three_names h
  obtain ⟨a', b', d', p, q, r, x, y, z, u, t, hf⟩ := unFam_cases c day ps s
  simp only [unLp, hf] at hF
  obtain ⟨h1, h2, h3, _⟩ := hF
  simp only [List.nodup_cons, List.mem_cons, List.not_mem_nil, or_false, not_or, List.nodup_nil, and_true, not_false_eq_true] at hn
  obtain ⟨⟨hab, had⟩, hbd⟩ := hn
  show reachL obj (k + 100) _ acc = _
  have e : namesL (((unLp c day ps).env [a, b, d]).map (·.d)) = [a, b, d] := rfl
  rw [e, show k + 100 = (k + 97) + 1 + 1 + 1 by omega, reachL_new (hd a (by simp)) h1]
  have h4 : b ∉ acc ++ [a] := by simp only [List.mem_append, List.mem_singleton, not_or]; exact ⟨hd b (by simp), fun e => hab e.symm⟩
  show reachL obj (k + 97 + 1 + 1) [b, d] _ = _
  rw [reachL_new h4 h2]
  have h5 : d ∉ acc ++ [a] ++ [b] := by simp only [List.mem_append, List.mem_singleton, not_or]; exact ⟨⟨hd d (by simp), fun e => had e.symm⟩, fun e => hbd e.symm⟩
  show reachL obj (k + 97 + 1) [d] _ = _
  rw [reachL_new h5 h3]
  show reachL obj (k + 96 + 1) [] _ = _
  simp [reachL]
 closE := fun dom Ls h hd => by
  obtain ⟨a, b, d, rfl⟩ := three_names h
  have h1 := hd a (by simp)
  have h2 := hd b (by simp)
  have h3 := hd d (by simp)
  simp [unLp, enU, List.range, List.range.loop, ofL, D.closL, D.clos, eAny, h1, h2, h3]
 closF := fun dom Ls s h hd o ho => by
  obtain ⟨a', b', d', p, q, r, x, y, z, u, t, hf⟩ := unFam_cases c day ps s
  simp only [unLp, hf, List.mem_cons, List.not_mem_nil, or_false] at ho
  rcases ho with rfl | rfl | rfl <;> rfl
 psz := fun Ls h => by rfl
 args := fun s => by rfl
 fuel := (show (100 : Nat) ≤ 2000 by decide)
 vnam := fun _ => rfl
 vcl := fun _ _ => rfl
 vren := fun _ _ => rfl
 inj := wVals_inj
theorem hit_at {f : Sta → Int × Bool} {L : List Sta} {i : Nat} (hi : i < L.length) (hz : ∀ j, j < i → (f (L.getD j zeroS)).2 = false) (h : (f (L.getD i zeroS)).2 = true) :
  L.find? (fun x => (f x).2) = some (L.getD i zeroS) ∧ L.any (fun x => (f x).2) = true := by
 have hg : ∀ j (hj : j < L.length), L.getD j zeroS = L[j] := fun j hj => by rw [List.getD_eq_getElem?_getD, List.getElem?_eq_getElem hj]; rfl
 rw [hg i hi] at h ⊢
 refine ⟨?_, List.any_eq_true.2 ⟨_, List.getElem_mem hi, h⟩⟩
 rw [List.find?_eq_some_iff_getElem]
 refine ⟨h, i, hi, rfl, fun j hj => ?_⟩
 have h2 := hz j hj
 rw [hg j (by omega)] at h2
 rw [h2]
 rfl
theorem no_hit {f : Sta → Int × Bool} {L : List Sta} (hz : ∀ j, j < L.length → (f (L.getD j zeroS)).2 = false) : L.any (fun x => (f x).2) = false := by
 rw [List.any_eq_false]
 intro x hx
 obtain ⟨j, hj, rfl⟩ := List.mem_iff_getElem.1 hx
 have := hz j hj
 rw [List.getD_eq_getElem?_getD, List.getElem?_eq_getElem hj, Option.getD_some] at this
 rw [this]
 decide
set_option maxHeartbeats 16000000 in
theorem unLp_y {c : List Deed} (hl60 : c.length ≤ 60) (hkc : ∀ d ∈ c, kindOk d) (day : Int) (ps : List Int) : SSound Tryz.prog yid (unLp c day ps).y.toSpec := by
 refine Lp.y_sound (unLp_ok c day ps) fun k hk hj => ?_
 have hΓ := K89_sound
 have hP := mixedK
 have hst : (unLp c day ps).st k = if badW c day ps k then some .ret else none := rfl
 have hf1 : (unLp c day ps).fam (LR 3) (k + 1) = if badW c day ps k then [.box (cellsW (wA c day k) (wB c day k) (wC c day k) 0 0 0 (wX c day k) (wY c day k) (wZ c day k)), .box [.v (vInt (holdW c day ps k))], .box [.v (.bool true)]] else [.box cells0, .box [.v (vInt 0)], .box [.v (.bool false)]] := rfl
 have hf0 : (unLp c day ps).fam (LR 3) k = [.box cells0, .box [.v (vInt 0)], .box [.v (.bool false)]] := by
  cases k with
  | zero => rfl
  | succ s =>
   have h1 : (if badW c day ps s then some Code.ret else none) = none := hj s (by omega)
   have h2 : badW c day ps s = false := by
    cases hg : badW c day ps s with
    | false => rfl
    | true => rw [hg] at h1; cases h1
   show unFam c day ps (s + 1) = _
   simp only [unFam, h2]
   rfl
 have hvl : (unLp c day ps).vals k = [wayD (wA c day k) (wB c day k) (wC c day k) (wX c day k) (wY c day k) (wZ c day k)] := rfl
 have hm : (unLp c day ps).m = 3 := rfl
 have hen : (unLp c day ps).env (LR 3) = enU c day ps [0, 1] [1, 1] [2, 1] := rfl
 have hcd : cdU = (_, _, _) := rfl
 have hps : (unLp c day ps).ps = [14] := rfl
 have hasg : (unLp c day ps).asg = cdU.2.1 := rfl
 have hbody : (unLp c day ps).body = cdU.2.2 := rfl
 obtain ⟨f, hf⟩ : ∃ f : Sta → Int × Bool, ∀ x, f x = offA c day x false := ⟨_, fun _ => rfl⟩
 have hgd : badW c day ps k = (!threeB [wX c day k, wY c day k, wZ c day k] ps || [wX c day k, wY c day k, wZ c day k].any fun x => (f x).2) := by simp only [hf]; rfl
 have hhd : holdW c day ps k = if threeB [wX c day k, wY c day k, wZ c day k] ps then (([wX c day k, wY c day k, wZ c day k].find? fun x => (f x).2).getD zeroS).h else 0 := by simp only [hf]; rfl
 rw [hm, hf0, hf1, hst, hvl, hen, hps, hasg, hbody, hcd]
 dsimp only
 generalize badW c day ps k = gd at hgd ⊢
 generalize holdW c day ps k = hd at hhd ⊢
 generalize wA c day k = wa at *
 generalize wB c day k = wb at *
 generalize wC c day k = wc at *
 generalize wX c day k = x at *
 generalize wY c day k = y at *
 generalize wZ c day k = z at *
 clear hf0 hf1 hst hvl hm hen hps hasg hbody hj hk hcd
 have hF : objAll (outH [.box cells0, .box [.v (vInt 0)], .box [.v (.bool false)]]) (LR 3) [.box cells0, .box [.v (vInt 0)], .box [.v (.bool false)]] := outH_all
 have hO : ∀ hs, OutC [0] (domOf [0] hs) (outH [.box cells0, .box [.v (vInt 0)], .box [.v (.bool false)]]) = True := fun hs => eq_true (outC_outs (fun o ho dom hd => by
  simp only [List.mem_cons, List.not_mem_nil, or_false] at ho
  rcases ho with rfl | rfl | rfl <;> rfl) hs)
 generalize outH [.box cells0, .box [.v (vInt 0)], .box [.v (.bool false)]] = H at hF hO ⊢
 obtain ⟨hH0, hH1, hH2, _⟩ := hF
 have hoff := fun (obj : Name → Option O) (t : Name) (x1 x2 : Int) (x3 : Bool) => (sOff_app (obj := obj) (t := t) (day := day) (pe := x1) (inn := false) hl60 hkc).trans (show _ = (⟨True, .v (.tup [vInt (f ⟨x1, x2, x3⟩).1, .bool (f ⟨x1, x2, x3⟩).2]), obj⟩ : R) by rw [hf]; rfl)
 clear hf
 obtain ⟨x1, x2, x3⟩ := x
 obtain ⟨y1, y2, y3⟩ := y
 obtain ⟨z1, z2, z3⟩ := z
 simp only [wayD, cellsW, cells0, zeroS] at *
 have hzs : (⟨0, 0, false⟩ : Sta) = zeroS := rfl
 rw [hzs] at hhd
 refine cw_weak (weak_to 38 [0] H [(2, ⟨true, .v (.ptr [.sl (c.map encD), vInt day])⟩), (3, ⟨true, .v (.ptr [.sl (ps.map vInt)])⟩), (4, ⟨true, .ref [0, 1] 0⟩), (5, ⟨true, .ref [1, 1] 0⟩), (6, ⟨true, .ref [2, 1] 0⟩), (14, ⟨true, .agg [.v (vInt wa), .v (vInt wb), .v (vInt wc), .v (vInt 0), .v (vInt 0), .v (vInt 0), .v (vInt x1), .v (vInt x2), .v (.bool x3), .v (vInt y1), .v (vInt y2), .v (.bool y3), .v (vInt z1), .v (vInt z2), .v (.bool z3)]⟩)] [] rfl rfl (fun _ _ => rfl) ?_ (by simp) ?_ ?_) ?_
 ·intro q hq
  simp only [List.mem_cons, List.not_mem_nil, or_false] at hq
  rcases hq with rfl | rfl | rfl | rfl | rfl | rfl <;> rfl
 ·simp [D.clos, D.closL, domOf, own]
 ·rw [hO]; trivial
 refine cl_of ?_
 refine cl_r hΓ fun K' hK => ?_
 simp only [go_sem, tp152, tz152]
 refine ⟨Nat.le_refl _, ?_⟩
 refine hK _ ?_
 clear K' hK
 refine (cw_keep [2, 3, 4, 5, 6, 7] [[7, 0]] ?_ ?_ : CW _ _ _ _)
 ·simp only [go_sem, hO]
 refine cl_of ?_
 simp only [go_sem]
 refine cl_block ?_
 repeat refine sq ?_
 refine cl_rs hΓ [2,4,5,6,7,18] [[7, 0]] fun K' hK => ?_
 simp only [go_sem, hO, sThree_app]
 repeat refine ⟨ob, ?_⟩
 refine hK _ ?_ ?_ <;> clear K' hK <;> simp only [go_sem, hO, sThree_app]
 obtain ⟨L, hL⟩ : ∃ L : List Sta, L = [⟨x1, x2, x3⟩, ⟨y1, y2, y3⟩, ⟨z1, z2, z3⟩] := ⟨_, rfl⟩
 rw [← hL] at hgd hhd ⊢
 have hLl : L.length = 3 := by rw [hL]; rfl
 repeat refine sq ?_
 have hO2 : ∀ hs a b, OutC [0] (domOf [0] hs) (upd (upd (upd H [0, 1] (some (.box [D.v (vInt wa), .v (vInt wb), .v (vInt wc), .v (vInt 0), .v (vInt 0), .v (vInt 0), .v (vInt x1), .v (vInt x2), .v (.bool x3), .v (vInt y1), .v (vInt y2), .v (.bool y3), .v (vInt z1), .v (vInt z2), .v (.bool z3)]))) [1, 1] (some (.box [.v a]))) [2, 1] (some (.box [.v b]))) = True := fun hs a b => eq_true (OutC_set rfl (OutC_set rfl (OutC_set rfl ((hO hs).symm ▸ trivial))))
 refine cl_cond rfl rfl (fun hb => ?_) fun hb => ?_
 ·have h3 : threeB L ps = false := by simpa using hb
  have hg0 : gd = true := by rw [hgd, h3]; rfl
  have hd0 : hd = 0 := by rw [hhd, h3]; rfl
  subst hg0 hd0
  simp only [if_true]
  repeat refine sq ?_
  refine cl_rs hΓ [] [] fun K' hK => ?_
  simp only [go_sem, hO2, hH0, hH1, hH2, OutC_ifu3, mkS_ifu3]
  repeat refine ⟨ob, ?_⟩
  refine hK _ ?_ ?_ <;> clear K' hK <;> simp only [go_sem, hO2, hH0, hH1, hH2, OutC_ifu3, mkS_ifu3]
  refine cl_ret ?_
  exact ⟨rfl, rfl, rfl, rfl, trivial⟩
 have h3 : threeB L ps = true := by simpa using hb
 rw [h3, Bool.not_true, Bool.false_or] at hgd
 rw [h3, if_pos rfl] at hhd
 repeat refine sq ?_
 refine cl_skip ?_
 repeat refine sq ?_
 refine cl_rs hΓ [2,4,5,6,7,21,22] [[7, 0]] fun K' hK => ?_
 simp only [go_sem, hO, tp150, tf152_2]
 repeat refine ⟨ob, ?_⟩
 refine hK _ ?_ ?_ <;> clear K' hK <;> simp only [go_sem, hO, tp150, tf152_2]
 repeat refine sq ?_
 refine cl_block ?_
 repeat refine sq ?_
 refine cl_loop' (fun s : Nat => [(22, ⟨true, .v (vInt s)⟩)]) (fun s => []) (fun s => s ≤ 3 ∧ ∀ j, j < s → (f (L.getD j zeroS)).2 = false) (fun s => 3 - s) 0 ?_ ?_ ?_ ?_
 ·exact ⟨Nat.zero_le _, fun j hj => by omega⟩
 ·rfl
 ·rfl
 rintro i ⟨hi, hz⟩
 simp only [go_sem]
 repeat refine sq ?_
 refine cl_rs hΓ [2,4,5,6,7,21,22,23] [[7, 0]] fun K' hK => ?_
 simp only [go_sem, hO]
 repeat refine ⟨ob, ?_⟩
 refine hK _ ?_ ?_ <;> clear K' hK <;> simp only [go_sem, hO]
 repeat refine sq ?_
 refine cl_cond rfl rfl (fun hb => ?_) fun hb => ?_
 ·have hlt : i < 3 := by
   have : (i : Int) < 3 := by simpa using hb
   omega
  have hws : IntKind.i64.wrap ((i : Int) + 1) = ((i + 1 : Nat) : Int) := wrap_succ (n := 3) hlt (by unfold maxLen; omega)
  clear hb
  repeat refine sq ?_
  refine cl_skip ?_
  repeat refine sq ?_
  refine cl_block ?_
  repeat refine sq ?_
  obtain ⟨h, n, o, hs⟩ : ∃ h n o, L.getD i zeroS = ⟨h, n, o⟩ := ⟨_, _, _, rfl⟩
  have hi3 : i = 0 ∨ i = 1 ∨ i = 2 := by omega
  refine cl_rw hΓ (mkS 38 [0] H [(2, ⟨true, .v (.ptr [.sl (c.map encD), vInt day])⟩), (4, ⟨true, .ref [0, 1] 0⟩), (5, ⟨true, .ref [1, 1] 0⟩), (6, ⟨true, .ref [2, 1] 0⟩), (7, ⟨true, .ref [7, 0] 0⟩), (9, ⟨true, .ref [9, 0] 0⟩), (21, ⟨true, .agg [.v (vInt x1), .v (vInt x2), .v (.bool x3), .v (vInt y1), .v (vInt y2), .v (.bool y3), .v (vInt z1), .v (vInt z2), .v (.bool z3)]⟩), (22, ⟨true, .v (vInt i)⟩)] [([7, 0], .box [.v (vInt wa), .v (vInt wb), .v (vInt wc), .v (vInt 0), .v (vInt 0), .v (vInt 0), .v (vInt x1), .v (vInt x2), .v (.bool x3), .v (vInt y1), .v (vInt y2), .v (.bool y3), .v (vInt z1), .v (vInt z2), .v (.bool z3)]), ([9, 0], .box [.v (vInt h), .v (vInt n), .v (.bool o)])]) ?_ fun K' hK => ?_
  rotate_left
  ·have h3 : (i : Int) < 3 := by omega
   clear hgd hhd hz
   rcases hi3 with rfl | rfl | rfl
   all_goals
    rw [hL] at hs
    simp only [List.getD_cons_zero, List.getD_cons_succ, Sta.mk.injEq] at hs
    obtain ⟨rfl, rfl, rfl⟩ := hs
    simp only [go_sem, tz137, tp137, Nat.reduceLeDiff, Nat.le_refl, Int.toNat_natCast, Int.natCast_nonneg, h3]
    repeat refine ⟨ob, ?_⟩
    refine hK _ (weakM_keep [2, 4, 5, 6, 7, 9, 21, 22] [[7, 0], [9, 0]] ?_ ?_)
    ·simp only [go_sem, hO]
    ·simp only [go_sem]
  have ho := fun (obj : Name → Option O) (t : Name) => hoff obj t h n o
  repeat refine sq ?_
  refine cl_rs hΓ [2,4,5,6,7,9,11,21,22] [[7, 0],[9, 0]] fun K' hK => ?_
  simp only [go_sem, hO, ho]
  repeat refine ⟨ob, ?_⟩
  refine hK _ ?_ ?_ <;> clear K' hK <;> simp only [go_sem, hO, ho]
  repeat refine sq ?_
  refine cl_rs hΓ [2,4,5,6,7,9,21,22,32] [[7, 0],[9, 0]] fun K' hK => ?_
  simp only [go_sem, hO]
  repeat refine ⟨ob, ?_⟩
  refine hK _ ?_ ?_ <;> clear K' hK <;> simp only [go_sem, hO]
  repeat refine sq ?_
  refine cl_cond rfl rfl (fun hb => ?_) fun hb => ?_
  ·have h5 : (f (L.getD i zeroS)).2 = true := by rw [hs]; simpa using hb
   obtain ⟨h6, h7⟩ := hit_at (f := f) (by rw [hLl]; exact hlt) hz h5
   have hg0 : gd = true := by rw [hgd, h7]
   have hd0 : hd = h := by rw [hhd, h6, Option.getD_some, hs]
   subst hg0 hd0
   simp only [if_true]
   repeat refine sq ?_
   refine cl_ds hΓ hP [[], [], [1], [0], [0, 1, 2, 3], [0, 1, 2, 3, 4]] [] [] (by kernel_rfl) fun K' hK => ?_
   simp only [go_sem, hO2, hH0, hH1, hH2, OutC_ifu3, mkS_ifu3]
   refine ⟨by decide, by decide, by decide, by decide, by decide, by rfl, ?_⟩
   refine hK _ ?_ ?_
   ·simp only [go_sem, hO2, OutC_ifu3]
   simp only [go_sem, hH0, hH1, hH2, mkS_ifu3]
   refine cl_ret ?_
   exact ⟨rfl, rfl, rfl, rfl, trivial⟩
  ·have h5 : (f (L.getD i zeroS)).2 = false := by rw [hs]; simpa using hb
   refine cl_skip ?_
   refine cl_nil ?_
   show CL Tryz.prog (_ :: _) _ _
   repeat refine sq ?_
   refine cl_r hΓ fun K' hK => ?_
   simp only [go_sem]
   repeat refine ⟨ob, ?_⟩
   refine hK _ ?_
   clear K' hK
   simp only [go_sem]
   refine ⟨i + 1, ⟨by omega, fun j hj => ?_⟩, by omega, ?_⟩
   ·rcases Nat.lt_succ_iff_lt_or_eq.1 hj with h1 | h1
    ·exact hz j h1
    ·subst h1; exact h5
   refine weak_eq [2,4,5,6,7,21,22] [[7, 0]] ?_ ?_
   ·simp only [go_sem, hO, hws, Int.natCast_add, Int.natCast_one]
   ·simp only [go_sem, hO, hws, Int.natCast_add, Int.natCast_one]
 ·have hge : i = 3 := by
   have : ¬ (i : Int) < 3 := by simpa using hb
   omega
  subst hge
  clear hb
  have hg0 : gd = false := by rw [hgd]; exact no_hit (f := f) fun j hj => hz j (by rw [hLl] at hj; exact hj)
  subst hg0
  simp only [Bool.false_eq_true, if_false]
  repeat refine sq ?_
  refine cl_exit ?_
  simp only [go_sem]
  refine cl_nil ?_
  exact ⟨rfl, hH0, hH1, hH2, trivial⟩
def unW (c : List Deed) (day : Int) (ps : List Int) : V × Int × Bool := match (List.range (wN c day)).find? (badW c day ps) with
 | some k => (encW (wA c day k) (wB c day k) (wC c day k) 0 0 0 (wX c day k) (wY c day k) (wZ c day k), holdW c day ps k, true)
 | none => (encW 0 0 0 0 0 0 zeroS zeroS zeroS, 0, false)
theorem unLp_end (c : List Deed) (day : Int) (ps : List Int) : ∃ (a b d p q r : Int) (x y z : Sta) (h : Int) (t : Bool),
  (unLp c day ps).fam [] (unLp c day ps).e = [.box (cellsW a b d p q r x y z), .box [.v (vInt h)], .box [.v (.bool t)]] ∧
  (unLp c day ps).pd = (if t then some .ret else none) ∧ unW c day ps = (encW a b d p q r x y z, h, t) ∧ (t = false → unW c day ps = (encW 0 0 0 0 0 0 zeroS zeroS zeroS, 0, false)) := by
 have hst : ∀ s, (unLp c day ps).st s = if badW c day ps s then some .ret else none := fun _ => rfl
 have hso : ∀ s, ((unLp c day ps).st s).isSome = badW c day ps s := fun s => by
  rw [hst]
  cases badW c day ps s <;> rfl
 have hfm : ∀ s, (unLp c day ps).fam [] s = unFam c day ps s := fun _ => rfl
 unfold Lp.e Lp.pd unW
 rw [find_congr hso]
 have hn : (unLp c day ps).n = wN c day := rfl
 rw [hn]
 cases hf : (List.range (wN c day)).find? (badW c day ps) with
 | none =>
  refine ⟨0, 0, 0, 0, 0, 0, zeroS, zeroS, zeroS, 0, false, ?_, rfl, rfl, fun _ => rfl⟩
  dsimp only
  rw [hfm]
  cases hl : wN c day with
  | zero => rfl
  | succ s =>
   have := List.find?_eq_none.1 hf s (List.mem_range.2 (by omega))
   simp only [unFam, if_neg this]
   rfl
 | some k =>
  have hg : badW c day ps k = true := List.find?_some hf
  refine ⟨_, _, _, _, _, _, _, _, _, _, true, ?_, ?_, rfl, fun h => by cases h⟩
  ·dsimp only
   rw [hfm]
   simp only [unFam, hg, if_true]
  ·dsimp only
   rw [hst, hg]
def pUn : PSpec := ⟨fun xs => ∃ (c : List Deed) (day : Int) (ps : List Int), xs = [.agg [.sl (c.map encD), vInt day], .sl (ps.map vInt)] ∧ c.length ≤ 60 ∧ ∀ d ∈ c, kindOk d,
 fun xs => match xs with | [.agg [.sl c, .int _ day], .sl ps] => .tup [(unW (c.map decD) day (ps.map decI)).1, vInt (unW (c.map decD) day (ps.map decI)).2.1, .bool (unW (c.map decD) day (ps.map decI)).2.2] | _ => .bool false, true⟩
theorem pUn_fn (c : List Deed) (day : Int) (ps : List Int) : pUn.fn [.agg [.sl (c.map encD), vInt day], .sl (ps.map vInt)] = .tup [(unW c day ps).1, vInt (unW c day ps).2.1, .bool (unW c day ps).2.2] := by
 simp only [pUn, decD_map, decI_map]
theorem unW_unit (c : List Deed) (day : Int) (ps : List Int) : ∃ (a b d p q r : Int) (x y z : Sta), (unW c day ps).1 = encW a b d p q r x y z := by
 unfold unW
 split
 ·exact ⟨_, _, _, _, _, _, _, _, _, rfl⟩
 ·exact ⟨_, _, _, _, _, _, _, _, _, rfl⟩
set_option maxHeartbeats 8000000 in
theorem s128 : PSound Tryz.prog 128 pUn := by
 refine psoundB (rs := [.cell 4 152, .cell 5 3, .cell 6 4]) Tryz.func128 Tryz.ntmps128 (by rfl) (by kernel_rfl) (by decide) (by rintro _ xs ⟨c, day, ps, rfl, _⟩; rw [pUn_fn]; obtain ⟨a, b, d, p, q, r, x, y, z, h⟩ := unW_unit c day ps; rw [h]; rfl) ⟨_, rfl, ?_⟩
 rintro xs ⟨c, day, ps, rfl, hl, hk⟩ hw
 refine ⟨lb rfl, ?_⟩
 rw [pUn_fn]
 obtain ⟨Γ, hΓ, h158, h177⟩ : ∃ Γ : FuncId → Option Spec, (∀ f s, Γ f = some s → SSound Tryz.prog f s) ∧ Γ 158 = some sWays ∧ Γ 177 = some ((unLp c day ps).it [.ptr [.sl (c.map encD), vInt day]]).toSpec := by
  refine ⟨fun f => match f with | 158 => some sWays | 177 => some ((unLp c day ps).it [.ptr [.sl (c.map encD), vInt day]]).toSpec | _ => none, ?_, rfl, rfl⟩
  intro f s h
  dsimp only at h
  split at h
  ·cases h; exact s158.sound
  ·cases h; exact iter177 (unLp_ok c day ps) (show (100 : Nat) ≤ 1900 by decide) (unLp_y hl hk day ps) hl hk day rfl (fun i j l _ hj hl' => wVals_at hj hl')
  ·cases h
 have hP := mixedK
 repeat refine sq ?_
 refine rx hΓ [2,3,4,5,6] [[2, 0],[3, 0],[4, 0],[5, 0],[6, 0]] (fun K' hK => by simp only [go_sem, tz152, tz4, tz3]; exact fin) ?_
 repeat refine sq ?_
 refine rx hΓ [2,3,4,5,6,13] [[2, 0],[3, 0],[4, 0],[5, 0],[6, 0]] (fun K' hK => by simp only [go_sem, h158, sWays_app]; exact fin) ?_
 refine cl_weakM (σ' := mkS 38 [0] (fun _ => none) [(2, ⟨true, .v (.ptr [.sl (c.map encD), vInt day])⟩), (3, ⟨true, .ref [3, 0] 0⟩), (4, ⟨true, .ref [4, 0] 0⟩), (5, ⟨true, .ref [5, 0] 0⟩), (6, ⟨true, .ref [6, 0] 0⟩), (13, ⟨true, .v (.clo (.func 177) [] [.ptr [.sl (c.map encD), vInt day]])⟩)] [([3, 0], .box [.v (.sl (ps.map vInt))]), ([4, 0], .box cells0), ([5, 0], .box [.v (vInt 0)]), ([6, 0], .box [.v (.bool false)])]) (weakM_frzk 2 (.ref [2, 0] 0) (by simp only [go_sem]) (by simp only [go_sem]) [2, 3, 4, 5, 6, 13] [[3, 0],[4, 0],[5, 0],[6, 0]] ?_ ?_) ?_
 ·simp only [go_sem]
 ·simp only [go_sem]
  rfl
 refine cl_weakM (σ' := mkS 38 [0] (fun _ => none) [(2, ⟨true, .v (.ptr [.sl (c.map encD), vInt day])⟩), (3, ⟨true, .v (.ptr [.sl (ps.map vInt)])⟩), (4, ⟨true, .ref [4, 0] 0⟩), (5, ⟨true, .ref [5, 0] 0⟩), (6, ⟨true, .ref [6, 0] 0⟩), (13, ⟨true, .v (.clo (.func 177) [] [.ptr [.sl (c.map encD), vInt day]])⟩)] [([4, 0], .box cells0), ([5, 0], .box [.v (vInt 0)]), ([6, 0], .box [.v (.bool false)])]) (weakM_frzk 3 (.ref [3, 0] 0) (by simp only [go_sem]) (by simp only [go_sem]) [2, 3, 4, 5, 6, 13] [[4, 0],[5, 0],[6, 0]] ?_ ?_) ?_
 ·simp only [go_sem]
  try rfl
 ·simp only [go_sem]
 repeat refine sq ?_
 refine cl_block ?_
 repeat refine sq ?_
 refine cl_iter hΓ (unLp_ok c day ps) 30 31 (f := 177) (Ls := [[4, 0], [5, 0], [6, 0]]) rfl rfl (by decide) h177 rfl rfl rfl rfl rfl rfl (by decide) (show ([30, 0] : Name) ∉ [[4, 0], [5, 0], [6, 0]] by decide) ⟨rfl, rfl, rfl, trivial⟩ fun o => ?_
 obtain ⟨a, b, d, p, q, r, ⟨x1, x2, x3⟩, ⟨y1, y2, y3⟩, ⟨z1, z2, z3⟩, h, t, hfe, hpd, hW, hW0⟩ := unLp_end c day ps
 have hfe' : (unLp c day ps).fam [[4, 0], [5, 0], [6, 0]] (unLp c day ps).e = _ := hfe
 rw [hpd, hfe']
 simp only [cellsW]
 cases t with
 | true =>
  rw [hW]
  show blockK 0 _ .ret _
  simp only [go_sem, setLs, pdK, encW, tz152, tp152, Nat.reduceLeDiff, Nat.le_refl]
 | false =>
  rw [hW0 rfl]
  have hpn : (if false = true then some Code.ret else none) = none := rfl
  rw [hpn]
  simp only [pdK, thenK]
  refine cl_nil ?_
  show CL Tryz.prog (_ :: _) _ _
  refine cl_keep [4,5,6] [[4, 0],[5, 0],[6, 0]] ?_ ?_ <;> simp only [go_sem, setLs]
  repeat refine sq ?_
  refine rx hΓ [4,5,6] [[4, 0],[5, 0],[6, 0]] (fun K' hK => by simp only [go_sem, tz152]; exact fin) ?_
  refine cl_ret ?_
  simp only [go_sem, encW, tz152, tp152, zeroS, Nat.reduceLeDiff, Nat.le_refl]
def ansW (c : List Deed) (day : Int) (ps : List Int) : Int := if !(unW c day ps).2.2 then 1 else if !(lawW c day ps).2 then 0 else 2
noncomputable def sLaw : Spec := pLaw.toSpec
theorem sLaw_app {obj : Name → Option O} {t : Name} {c : List Deed} {day : Int} {ps : List Int} (hl : c.length ≤ 60) (hk : ∀ d ∈ c, kindOk d) :
  sLaw.app obj t [.agg [.v (.sl (c.map encD)), .v (vInt day)], .v (.sl (ps.map vInt))] = ⟨True, .v (.tup [(lawW c day ps).1, .bool (lawW c day ps).2]), obj⟩ := by
 simp only [sLaw, PSpec.toSpec, frz_op (r := [.v (.sl (ps.map vInt))]) (xs := [.sl (ps.map vInt)]) (obj := obj) (by simp [frzL, frz]), pLaw_fn]
 simp only [pLaw, if_true]
 congr 1
 simp only [eq_iff_iff, iff_true]
 exact ⟨trivial, c, day, ps, rfl, hl, hk⟩
noncomputable def sUn : Spec := pUn.toSpec
theorem sUn_app {obj : Name → Option O} {t : Name} {c : List Deed} {day : Int} {ps : List Int} (hl : c.length ≤ 60) (hk : ∀ d ∈ c, kindOk d) :
  sUn.app obj t [.agg [.v (.sl (c.map encD)), .v (vInt day)], .v (.sl (ps.map vInt))] = ⟨True, .v (.tup [(unW c day ps).1, vInt (unW c day ps).2.1, .bool (unW c day ps).2.2]), obj⟩ := by
 simp only [sUn, PSpec.toSpec, frz_op (r := [.v (.sl (ps.map vInt))]) (xs := [.sl (ps.map vInt)]) (obj := obj) (by simp [frzL, frz]), pUn_fn]
 simp only [pUn, if_true]
 congr 1
 simp only [eq_iff_iff, iff_true]
 exact ⟨trivial, c, day, ps, rfl, hl, hk⟩
def pAnsW : PSpec := ⟨fun xs => ∃ (c : List Deed) (day : Int) (ps : List Int), xs = [.agg [.sl (c.map encD), vInt day], .sl (ps.map vInt)] ∧ c.length ≤ 60 ∧ ∀ d ∈ c, kindOk d,
 fun xs => match xs with | [.agg [.sl c, .int _ day], .sl ps] => vInt (ansW (c.map decD) day (ps.map decI)) | _ => .bool false, true⟩
theorem pAnsW_fn (c : List Deed) (day : Int) (ps : List Int) : pAnsW.fn [.agg [.sl (c.map encD), vInt day], .sl (ps.map vInt)] = vInt (ansW c day ps) := by
 simp only [pAnsW, decD_map, decI_map]
noncomputable def K92 : FuncId → Option Spec := fun f => match f with
 | 127 => some sLaw
 | 128 => some sUn
 | _ => none
theorem K92_sound : ∀ f s, K92 f = some s → SSound Tryz.prog f s := by
 intro f s h
 unfold K92 at h
 split at h
 ·cases h; exact s127.sound
 ·cases h; exact s128.sound
 ·cases h
@[go_sem] theorem K92_127 : K92 127 = some sLaw := rfl
@[go_sem] theorem K92_128 : K92 128 = some sUn := rfl
set_option maxHeartbeats 4000000 in
theorem s84 : PSound Tryz.prog 84 pAnsW := by
 refine psoundB (rs := [.tmp 4]) Tryz.func84 Tryz.ntmps84 (by rfl) (by kernel_rfl) (by decide) (by rintro _ xs ⟨c, day, ps, rfl, _⟩; rw [pAnsW_fn]; rfl) ⟨_, rfl, ?_⟩
 rintro xs ⟨c, day, ps, rfl, hl, hk⟩ hw
 refine ⟨lb rfl, ?_⟩
 rw [pAnsW_fn]
 obtain ⟨a, b, d, p, q, r, ⟨x1, x2, x3⟩, ⟨y1, y2, y3⟩, ⟨z1, z2, z3⟩, hlw⟩ := encW_unit c day ps
 obtain ⟨a', b', d', p', q', r', ⟨x1', x2', x3'⟩, ⟨y1', y2', y3'⟩, ⟨z1', z2', z3'⟩, hun⟩ := unW_unit c day ps
 simp only [encW] at hlw hun
 have hla := fun (obj : Name → Option O) (t : Name) => sLaw_app (obj := obj) (t := t) (day := day) (ps := ps) hl hk
 have hua := fun (obj : Name → Option O) (t : Name) => sUn_app (obj := obj) (t := t) (day := day) (ps := ps) hl hk
 rw [hlw] at hla
 rw [hun] at hua
 have han : ansW c day ps = if !(unW c day ps).2.2 then 1 else if !(lawW c day ps).2 then 0 else 2 := rfl
 rw [han]
 have hΓ := K92_sound
 have hP := mixedK
 repeat refine sq ?_
 refine rx hΓ [1,2] [[2, 0]] (fun K' hK => by simp only [go_sem, tz152]; exact fin) ?_
 repeat refine sq ?_
 refine rx hΓ [1,2,6] [[2, 0]] (fun K' hK => by simp only [go_sem, tz152, tp152, hla, Nat.reduceLeDiff, Nat.le_refl]; exact fin) ?_
 repeat refine sq ?_
 refine rx hΓ [6,9] [] (fun K' hK => by simp only [go_sem, tz152, tp152, hua, Nat.reduceLeDiff, Nat.le_refl]; exact fin) ?_
 generalize (unW c day ps).2.2 = uu
 generalize (lawW c day ps).2 = ll
 repeat refine sq ?_
 refine cl_block ?_
 repeat refine sq ?_
 refine rs hΓ [6,23] [] ?_
 repeat refine sq ?_
 refine cl_cond rfl rfl (fun hb => ?_) fun hb => ?_
 ·rw [if_pos hb]
  repeat refine sq ?_
  refine rs hΓ [4] [] ?_
  exact rt
 have hb' : ¬ (!uu) = true := by rw [hb]; decide
 rw [if_neg hb']
 repeat refine sq ?_
 refine rs hΓ [26] [] ?_
 repeat refine sq ?_
 refine cl_cond rfl rfl (fun hb => ?_) fun hb => ?_
 ·rw [if_pos hb]
  repeat refine sq ?_
  refine rs hΓ [4] [] ?_
  exact rt
 have hb'' : ¬ (!ll) = true := by rw [hb]; decide
 rw [if_neg hb'']
 refine cl_skip ?_
 refine cl_nil ?_
 show CL Tryz.prog (_ :: _) _ _
 repeat refine sq ?_
 refine rs hΓ [4] [] ?_
 exact rt
noncomputable def openE (l : List Deed) (ps : List Int) (day k : Int) : Int := if checkI l = 0 then (if areB ps = true then daysI l [day, k] else 16) else checkI l
noncomputable def openV (l : List Deed) (ps : List Int) (day k : Int) : V := if openE l ps day k = 0 then .tup [.agg [.sl ((countL l k).map encD), vInt day], vInt 0] else .tup [.agg [.sl [], vInt 0], vInt (openE l ps day k)]
def pLPI (f : List Deed → List Int → Int → Int → V) (fl : Bool) : PSpec := ⟨fun xs => ∃ (l : List Deed) (ps : List Int) (a b : Int), xs = [.sl (l.map encD), .sl (ps.map vInt), vInt a, vInt b], fun xs => match xs with | [.sl l, .sl ps, .int _ a, .int _ b] => f (l.map decD) (ps.map decI) a b | _ => .bool false, fl⟩
theorem pLPI_fn (f : List Deed → List Int → Int → Int → V) (fl : Bool) (l : List Deed) (ps : List Int) (a b : Int) : (pLPI f fl).fn [.sl (l.map encD), .sl (ps.map vInt), vInt a, vInt b] = f l ps a b := by
 simp only [pLPI, decD_map, decI_map]
noncomputable def sLPI (f : List Deed → List Int → Int → Int → V) (fl : Bool) : Spec := (pLPI f fl).toSpec
theorem sLPI_app {f : List Deed → List Int → Int → Int → V} {fl : Bool} {obj : Name → Option O} {t : Name} {l : List Deed} {ps : List Int} {a b : Int} : (sLPI f fl).app obj t [.v (.sl (l.map encD)), .v (.sl (ps.map vInt)), .v (vInt a), .v (vInt b)] = ⟨True, .v (f l ps a b), obj⟩ := by
 simp only [sLPI, PSpec.toSpec, frzL, frz, pLPI_fn, ite_self]
 congr 1
 simp only [eq_iff_iff, iff_true]
 exact ⟨⟨trivial, trivial, trivial, trivial, trivial⟩, l, ps, a, b, rfl⟩
noncomputable def sAre : Spec := (pIs fun l => .bool (areB l)).toSpec
theorem sAre_app {obj : Name → Option O} {t : Name} {l : List Int} : sAre.app obj t [.v (.sl (l.map vInt))] = ⟨True, .v (.bool (areB l)), obj⟩ := by
 simp only [sAre, PSpec.toSpec, frzL, frz, pIs_fn, ite_self]
 simp only [pIs, if_true]
 congr 1
 simp only [eq_iff_iff, iff_true]
 exact ⟨⟨trivial, trivial⟩, l, rfl⟩
noncomputable def K93 : FuncId → Option Spec := fun f => match f with
 | 39 => some sChk
 | 126 => some sAre
 | 70 => some sDaysI
 | 81 => some (sLI okL (fun l k => .sl ((countL l k).map encD)) false)
 | _ => none
theorem K93_sound : ∀ f s, K93 f = some s → SSound Tryz.prog f s := by
 intro f s h
 unfold K93 at h
 split at h
 ·cases h; exact s39'
 ·cases h; exact s126.sound
 ·cases h; exact s70.sound
 ·cases h; exact s81.sound
 ·cases h
@[go_sem] theorem K93_39 : K93 39 = some sChk := rfl
@[go_sem] theorem K93_126 : K93 126 = some sAre := rfl
@[go_sem] theorem K93_70 : K93 70 = some sDaysI := rfl
@[go_sem] theorem K93_81 : K93 81 = some (sLI okL (fun l k => .sl ((countL l k).map encD)) false) := rfl
set_option maxHeartbeats 8000000 in
theorem s82 : PSound Tryz.prog 82 (pLPI openV false) := by
 refine psoundB (rs := [.cell 8 111, .tmp 9]) Tryz.func82 Tryz.ntmps82 (by rfl) (by kernel_rfl) (by decide) (fun h => by cases h) ⟨_, rfl, ?_⟩
 rintro xs ⟨l, ps, day, k, rfl⟩ hw
 refine ⟨lb rfl, ?_⟩
 rw [pLPI_fn]
 have hΓ := K93_sound
 repeat refine sq ?_
 refine rx hΓ [0,1,2,3,8] [[8, 0]] (fun K' hK => by simp only [go_sem, tz111, tp111]; exact fin) ?_
 repeat refine sq ?_
 refine rx hΓ [0,1,2,3,8,10] [[8, 0]] (fun K' hK => by simp only [go_sem, sChk_app]; exact fin) ?_
 repeat refine sq ?_
 refine rs hΓ [0,1,2,3,8,10,15] [[8, 0]] ?_
 repeat refine sq ?_
 refine cl_cond rfl rfl (fun hb => ?_) fun hb => ?_
 ·repeat refine sq ?_
  have hn : ¬ checkI l = 0 := by simpa using hb
  have hv : openV l ps day k = .tup [.agg [.sl [], vInt 0], vInt (checkI l)] := by unfold openV openE; rw [if_neg hn, if_neg hn]
  rw [hv]
  repeat refine sq ?_
  refine rx hΓ [8,9] [[8, 0]] (fun K' hK => by simp only [go_sem, tz111, tp111, Nat.reduceLeDiff, Nat.le_refl]; exact fin) ?_
  refine cl_ret ?_
  simp only [go_sem, tz111, tp111, Nat.reduceLeDiff, Nat.le_refl]
 have hz : checkI l = 0 := by simpa using hb
 repeat refine sq ?_
 refine cl_skip ?_
 repeat refine sq ?_
 refine rx hΓ [0,1,2,3,8,20] [[8, 0]] (fun K' hK => by simp only [go_sem, sAre_app]; exact fin) ?_
 repeat refine sq ?_
 refine cl_cond rfl rfl (fun hb => ?_) fun hb => ?_
 ·repeat refine sq ?_
  have hn : ¬ areB ps = true := by simpa using hb
  have hv : openV l ps day k = .tup [.agg [.sl [], vInt 0], vInt 16] := by unfold openV openE; rw [if_pos hz, if_neg hn, if_neg (by decide)]
  rw [hv]
  repeat refine sq ?_
  refine rx hΓ [8,9] [[8, 0]] (fun K' hK => by simp only [go_sem, tz111, tp111, Nat.reduceLeDiff, Nat.le_refl]; exact fin) ?_
  refine cl_ret ?_
  simp only [go_sem, tz111, tp111, Nat.reduceLeDiff, Nat.le_refl]
 have har : areB ps = true := by simpa using hb
 repeat refine sq ?_
 refine cl_skip ?_
 repeat refine sq ?_
 refine rx hΓ [0,2,3,8,11] [[8, 0]] (fun K' hK => by simp only [go_sem, sDaysI_two]; exact fin) ?_
 repeat refine sq ?_
 refine rs hΓ [0,2,3,8,11,28] [[8, 0]] ?_
 repeat refine sq ?_
 refine cl_cond rfl rfl (fun hb => ?_) fun hb => ?_
 ·repeat refine sq ?_
  have hn : ¬ daysI l [day, k] = 0 := by simpa using hb
  have hv : openV l ps day k = .tup [.agg [.sl [], vInt 0], vInt (daysI l [day, k])] := by unfold openV openE; rw [if_pos hz, if_pos har, if_neg hn]
  rw [hv]
  repeat refine sq ?_
  refine rx hΓ [8,9] [[8, 0]] (fun K' hK => by simp only [go_sem, tz111, tp111, Nat.reduceLeDiff, Nat.le_refl]; exact fin) ?_
  refine cl_ret ?_
  simp only [go_sem, tz111, tp111, Nat.reduceLeDiff, Nat.le_refl]
 have hdz : daysI l [day, k] = 0 := by simpa using hb
 have hok := days_ok hdz
 have hc := fun (obj : Name → Option O) (t : Name) (f : List Deed → Int → V) (fl : Bool) => sLI_app (P := okL) (f := f) (fl := fl) (obj := obj) (t := t) (k := k) hok
 have hv : openV l ps day k = .tup [.agg [.sl ((countL l k).map encD), vInt day], vInt 0] := by unfold openV openE; rw [if_pos hz, if_pos har, if_pos hdz]
 rw [hv]
 repeat refine sq ?_
 refine cl_skip ?_
 repeat refine sq ?_
 refine rx hΓ [8,9] [[8, 0]] (fun K' hK => by simp only [go_sem, tz111, tp111, hc, Nat.reduceLeDiff, Nat.le_refl]; exact fin) ?_
 refine cl_ret ?_
 simp only [go_sem, tz111, tp111, Nat.reduceLeDiff, Nat.le_refl]
noncomputable def sAnsW : Spec := pAnsW.toSpec
theorem sAnsW_app {obj : Name → Option O} {t : Name} {c : List Deed} {day : Int} {ps : List Int} (hl : c.length ≤ 60) (hk : ∀ d ∈ c, kindOk d) :
  sAnsW.app obj t [.agg [.v (.sl (c.map encD)), .v (vInt day)], .v (.sl (ps.map vInt))] = ⟨True, .v (vInt (ansW c day ps)), obj⟩ := by
 simp only [sAnsW, PSpec.toSpec, frz_op (r := [.v (.sl (ps.map vInt))]) (xs := [.sl (ps.map vInt)]) (obj := obj) (by simp [frzL, frz]), pAnsW_fn]
 simp only [pAnsW, if_true]
 congr 1
 simp only [eq_iff_iff, iff_true]
 exact ⟨trivial, c, day, ps, rfl, hl, hk⟩
noncomputable def lwE (l : List Deed) (ps : List Int) (day k : Int) : Int := if openE l ps day k = 0 then (if (confP (countL l k)).isSome then 13 else 0) else openE l ps day k
noncomputable def lwA (l : List Deed) (ps : List Int) (day k : Int) : Int := if lwE l ps day k = 0 then ansW (countL l k) day ps else 0
theorem openE_ok {l : List Deed} {ps : List Int} {day k : Int} (h : openE l ps day k = 0) : checkI l = 0 ∧ areB ps = true ∧ daysI l [day, k] = 0 := by
 unfold openE at h
 by_cases h1 : checkI l = 0
 ·rw [if_pos h1] at h
  by_cases h2 : areB ps = true
  ·rw [if_pos h2] at h; exact ⟨h1, h2, h⟩
  ·rw [if_neg h2] at h; cases h
 ·rw [if_neg h1] at h; exact (h1 h).elim
noncomputable def K94 : FuncId → Option Spec := fun f => match f with
 | 82 => some (sLPI openV false)
 | 83 => some (sLI okL contV false)
 | 84 => some sAnsW
 | _ => none
theorem K94_sound : ∀ f s, K94 f = some s → SSound Tryz.prog f s := by
 intro f s h
 unfold K94 at h
 split at h
 ·cases h; exact s82.sound
 ·cases h; exact s83.sound
 ·cases h; exact s84.sound
 ·cases h
@[go_sem] theorem K94_82 : K94 82 = some (sLPI openV false) := rfl
@[go_sem] theorem K94_83 : K94 83 = some (sLI okL contV false) := rfl
@[go_sem] theorem K94_84 : K94 84 = some sAnsW := rfl
set_option maxHeartbeats 8000000 in
theorem s28 : PSound Tryz.prog 28 (pLPI (fun l ps day k => .tup [vInt (lwA l ps day k), vInt (lwE l ps day k)]) true) := by
 refine psoundB (rs := [.tmp 8, .tmp 9]) Tryz.func28 Tryz.ntmps28 (by rfl) (by kernel_rfl) (by decide) (by rintro _ xs ⟨l, ps, a, b, rfl⟩; rw [pLPI_fn]; rfl) ⟨_, rfl, ?_⟩
 rintro xs ⟨l, ps, day, k, rfl⟩ hw
 refine ⟨lb rfl, ?_⟩
 rw [pLPI_fn]
 have hΓ := K94_sound
 repeat refine sq ?_
 refine rs hΓ [0,1,2,3] [] ?_
 by_cases ho : openE l ps day k = 0
 ·obtain ⟨hz, har, hdz⟩ := openE_ok ho
  have hov : openV l ps day k = .tup [.agg [.sl ((countL l k).map encD), vInt day], vInt 0] := by unfold openV; rw [if_pos ho]
  have hok := days_ok hdz
  have hlen : (countL l k).length ≤ 60 := by have := countL_len l k; have := hok.2.2; omega
  have hkc : ∀ d ∈ countL l k, kindOk d := fun d hd => kind_of (countL_valid hok k d hd)
  have hc := fun (obj : Name → Option O) (t : Name) (f : List Deed → Int → V) (fl : Bool) => sLI_app (P := okL) (f := f) (fl := fl) (obj := obj) (t := t) (k := k) hok
  have haw := fun (obj : Name → Option O) (t : Name) => sAnsW_app (obj := obj) (t := t) (day := day) (ps := ps) hlen hkc
  repeat refine sq ?_
  refine rx hΓ [0,1,3,10,11] [[10, 0]] (fun K' hK => by simp only [go_sem, sLPI_app, hov, tz111, tp111, Nat.reduceLeDiff, Nat.le_refl]; exact fin) ?_
  repeat refine sq ?_
  refine rs hΓ [0,1,3,10,23] [[10, 0]] ?_
  repeat refine sq ?_
  refine cl_cond rfl rfl (fun hb => ?_) fun hb => ?_
  ·simp at hb
  repeat refine sq ?_
  refine cl_skip ?_
  by_cases hcf : (confP (countL l k)).isSome = true
  ·have he : contV l k = .tup [.sl [], vInt 13] := by unfold contV; rw [if_pos hcf]
   have hE : lwE l ps day k = 13 := by unfold lwE; rw [if_pos ho, if_pos hcf]
   have hA : lwA l ps day k = 0 := by unfold lwA; rw [hE]; rfl
   rw [hE, hA]
   repeat refine sq ?_
   refine rx hΓ [1,10,13] [[10, 0]] (fun K' hK => by simp only [go_sem, hc, he]; exact fin) ?_
   repeat refine sq ?_
   refine rs hΓ [1,10,13,32] [[10, 0]] ?_
   repeat refine sq ?_
   refine cl_cond rfl rfl (fun hb => ?_) fun hb => ?_
   ·repeat refine sq ?_
    refine rs hΓ [8,9] [] ?_
    exact rt
   ·simp at hb
  ·have he : contV l k = .tup [.sl ((countL l k).map encD), vInt 0] := by unfold contV; rw [if_neg hcf]
   have hE : lwE l ps day k = 0 := by unfold lwE; rw [if_pos ho, if_neg hcf]
   have hA : lwA l ps day k = ansW (countL l k) day ps := by unfold lwA; rw [hE]; rfl
   rw [hE, hA]
   repeat refine sq ?_
   refine rx hΓ [1,10,13] [[10, 0]] (fun K' hK => by simp only [go_sem, hc, he]; exact fin) ?_
   repeat refine sq ?_
   refine rs hΓ [1,10,13,32] [[10, 0]] ?_
   repeat refine sq ?_
   refine cl_cond rfl rfl (fun hb => ?_) fun hb => ?_
   ·simp at hb
   repeat refine sq ?_
   refine cl_skip ?_
   repeat refine sq ?_
   refine rx hΓ [8,9] [] (fun K' hK => by simp only [go_sem, haw, tz111, tp111]; exact fin) ?_
   exact rt
 ·have hov : openV l ps day k = .tup [.agg [.sl [], vInt 0], vInt (openE l ps day k)] := by unfold openV; rw [if_neg ho]
  have hE : lwE l ps day k = openE l ps day k := by unfold lwE; rw [if_neg ho]
  have hA : lwA l ps day k = 0 := by unfold lwA; rw [hE, if_neg ho]
  rw [hE, hA]
  repeat refine sq ?_
  refine rx hΓ [11] [] (fun K' hK => by simp only [go_sem, sLPI_app, hov, tz111, tp111, Nat.reduceLeDiff, Nat.le_refl]; exact fin) ?_
  repeat refine sq ?_
  refine rs hΓ [11,23] [] ?_
  repeat refine sq ?_
  refine cl_cond rfl rfl (fun hb => ?_) fun hb => ?_
  ·repeat refine sq ?_
   refine rs hΓ [8,9] [] ?_
   exact rt
  ·have hn : openE l ps day k = 0 := by simpa using hb
   exact (ho hn).elim
noncomputable def K95 : FuncId → Option Spec := fun f => match f with
 | 79 => some sIn
 | _ => none
theorem K95_sound : ∀ f s, K95 f = some s → SSound Tryz.prog f s := by
 intro f s h
 unfold K95 at h
 split at h
 ·cases h; exact s79.sound
 ·cases h
@[go_sem] theorem K95_79 : K95 79 = some sIn := rfl
set_option maxHeartbeats 4000000 in
theorem s26 : PSound Tryz.prog 26 (pIs fun l => .bool (areB l)) := by
 refine psoundB (rs := [.tmp 2]) Tryz.func26 Tryz.ntmps26 (by rfl) (by kernel_rfl) (by decide) (by rintro _ xs ⟨l, rfl⟩; rfl) ⟨_, rfl, ?_⟩
 rintro xs ⟨l, rfl⟩ hw
 have hl : l.length ≤ maxLen := by have := hw.1.1; simpa using this
 refine ⟨lb rfl, ?_⟩
 rw [pIs_fn]
 have hΓ := K95_sound
 repeat refine sq ?_
 refine rs hΓ [0] [] ?_
 repeat refine sq ?_
 refine rs hΓ [0,5,6,7] [] ?_
 repeat refine sq ?_
 refine cl_block ?_
 repeat refine sq ?_
 refine cl_loop' (fun s : Nat => [(7, ⟨true, .v (vInt s)⟩)]) (fun s => []) (fun s => s ≤ l.length ∧ persOk l s) (fun s => l.length - s) 0 ?_ ?_ ?_ ?_
 ·exact ⟨Nat.zero_le _, fun j h hj => by omega⟩
 ·rfl
 ·rfl
 rintro i ⟨hi, hz⟩
 simp only [go_sem]
 repeat refine sq ?_
 refine rs hΓ [0,5,6,7,8] [] ?_
 repeat refine sq ?_
 refine cl_cond rfl rfl (fun hb => ?_) fun hb => ?_
 ·have hlt : i < l.length := by simpa using hb
  have hlt' : (i : Int) < l.length := by omega
  clear hb
  repeat refine sq ?_
  refine cl_skip ?_
  repeat refine sq ?_
  refine cl_block ?_
  repeat refine sq ?_
  refine rx hΓ [0,3,4,5,6,7] [] (fun K' hK => by simp only [go_sem, map_getD hlt, Int.toNat_natCast, Int.natCast_nonneg, hlt']; exact fin) ?_
  obtain ⟨c, hc⟩ : ∃ c : Bool, c = (!isPersB l[i] || (decide (0 < i) && decide (l.getD (i - 1) 0 ≥ l[i]))) := ⟨_, rfl⟩
  repeat refine sq ?_
  refine cl_rw hΓ (mkS 32 [0] (fun _ => none) [(0, ⟨true, .v (.sl (l.map vInt))⟩), (5, ⟨true, .v (.sl (l.map vInt))⟩), (6, ⟨true, .v (vInt l.length)⟩), (7, ⟨true, .v (vInt i)⟩), (27, ⟨true, .v (.bool c)⟩)] []) ?_ fun K' hK => ?_
  rotate_left
  ·cases hp : isPersB l[i] with
   | false =>
    have hct : c = true := by rw [hc, hp]; rfl
    simp only [go_sem, sIn_app, (show inI l[i] 1 99 = _ from hp)]
    repeat refine ⟨ob, ?_⟩
    refine hK _ (weakM_keep [0, 5, 6, 7, 27] [] ?_ ?_)
    ·simp only [go_sem]
    ·simp only [go_sem, hct]
   | true =>
    by_cases h0 : i = 0
    ·have hct : c = false := by rw [hc, hp]; simp [h0]
     have e0 : decide ((i : Int) > 0) = false := by simp [h0]
     simp only [go_sem, sIn_app, (show inI l[i] 1 99 = _ from hp), e0]
     repeat refine ⟨ob, ?_⟩
     refine hK _ (weakM_keep [0, 5, 6, 7, 27] [] ?_ ?_)
     ·simp only [go_sem]
     ·simp only [go_sem, hct]
    ·have h1 : i - 1 < l.length := by omega
     have h1' : ((i - 1 : Nat) : Int) < l.length := by omega
     have e0 : decide ((i : Int) > 0) = true := by simp; omega
     have hct : decide (l[i - 1] ≥ l[i]) = c := by rw [hc, hp]; simp [List.getD_eq_getElem?_getD, h1]; intro; omega
     simp only [go_sem, sIn_app, (show inI l[i] 1 99 = _ from hp), e0, wrap_pred h0 (show i ≤ maxLen by omega), map_getD h1, Int.toNat_natCast, Int.natCast_nonneg, h1', hct]
     repeat refine ⟨ob, ?_⟩
     refine hK _ (weakM_keep [0, 5, 6, 7, 27] [] ?_ ?_)
     ·simp only [go_sem]
     ·simp only [go_sem, hct]
  repeat refine sq ?_
  refine cl_cond rfl rfl (fun hb => ?_) fun hb => ?_
  ·repeat refine sq ?_
   refine rs hΓ [2] [] ?_
   refine cl_ret ?_
   simp only [go_sem]
   have hno : ¬ (persOk l l.length ∧ l.length ≤ 12) := by
    rintro ⟨h1, _⟩
    obtain ⟨h2, h3⟩ := h1 i hlt hlt
    rw [hb] at hc
    rw [h2] at hc
    simp only [Bool.not_true, Bool.false_or, Bool.true_eq, Bool.and_eq_true, decide_eq_true_eq] at hc
    have h4 := h3 hc.1
    have h5 : i - 1 < l.length := by omega
    rw [List.getD_eq_getElem?_getD, List.getElem?_eq_getElem h5, Option.getD_some] at hc
    omega
   unfold areB
   simp [hno]
  ·have hnext : persOk l (i + 1) := fun j h hj => by
    rcases Nat.lt_succ_iff_lt_or_eq.1 hj with h1 | h1
    ·exact hz j h h1
    ·subst h1
     rw [hb] at hc
     cases hp : isPersB l[j] with
     | false => rw [hp] at hc; simp at hc
     | true =>
      refine ⟨rfl, fun h0 => ?_⟩
      have h5 : j - 1 < l.length := by omega
      rw [hp, List.getD_eq_getElem?_getD, List.getElem?_eq_getElem h5, Option.getD_some] at hc
      simp [h0] at hc
      exact hc
   clear hb
   repeat refine sq ?_
   refine cl_skip ?_
   refine cl_nil ?_
   simp only [go_sem]
   refine cl_keep [0,5,6,7] [] ?_ ?_ <;> simp only [go_sem]
   repeat refine sq ?_
   refine cl_r hΓ fun K' hK => ?_
   simp only [go_sem]
   repeat refine ⟨ob, ?_⟩
   refine hK _ ?_
   clear K' hK
   simp only [go_sem]
   refine ⟨i + 1, ⟨by omega, hnext⟩, by omega, ?_⟩
   refine weak_eq [0,5,6,7] [] ?_ ?_ <;> simp only [go_sem, wrap_succ hlt hl, Int.natCast_add, Int.natCast_one]
 ·have hge : i = l.length := by
   have : ¬ (i : Int) < l.length := by simpa using hb
   omega
  subst hge
  clear hb
  repeat refine sq ?_
  refine cl_exit ?_
  simp only [go_sem]
  refine cl_keep [0] [] ?_ ?_ <;> simp only [go_sem]
  repeat refine sq ?_
  refine rs hΓ [2] [] ?_
  refine cl_ret ?_
  simp only [go_sem]
  unfold areB
  have : ((l.length : Int) ≤ 12) ↔ l.length ≤ 12 := by omega
  simp [hz, this]
def fW (g : Nat) (s : Sta) : Int := if g = 92 then s.h else s.n
def pWho : PSpec := ⟨fun xs => ∃ (t : List Deed) (day : Int) (g : Nat), xs = [.sl (t.map encD), vInt day, .clo (.func g) [] []] ∧ (g = 92 ∨ g = 93) ∧ t.length ≤ 60 ∧ ∀ d ∈ t, kindOk d, fun xs => match xs with | [.sl t, .int _ day, .clo (.func g) _ _] => .sl ((whoL (fW g) (t.map decD) day).map vInt) | _ => .bool false, false⟩
theorem pWho_fn (t : List Deed) (day : Int) (g : Nat) : pWho.fn [.sl (t.map encD), vInt day, .clo (.func g) [] []] = .sl ((whoL (fW g) t day).map vInt) := by
 simp only [pWho, decD_map]
noncomputable def sWho : Spec := pWho.toSpec
theorem sWho_app {obj : Name → Option O} {tm : Name} {t : List Deed} {day : Int} {g : Nat} (hg : g = 92 ∨ g = 93) (hl : t.length ≤ 60) (hk : ∀ d ∈ t, kindOk d) :
  sWho.app obj tm [.v (.sl (t.map encD)), .v (vInt day), .v (.clo (.func g) [] [])] = ⟨True, .v (.sl ((whoL (fW g) t day).map vInt)), obj⟩ := by
 simp only [sWho, PSpec.toSpec, frzL, frz, pWho_fn, ite_self]
 congr 1
 simp only [eq_iff_iff, iff_true]
 exact ⟨⟨trivial, trivial, trivial, trivial⟩, t, day, g, rfl, hg, hl, hk⟩
@[go_sem] theorem ta123 : tAgg Tryz.prog 123 = some (false, 1) := by kernel_rfl
@[go_sem] theorem ta138 : tAgg Tryz.prog 138 = some (false, 1) := by kernel_rfl
def rngC : Code → Option (Array Tmp × Code × Code)
 | .seq a b => match rngC a with | some x => some x | none => rngC b
 | .block _ b => rngC b
 | .rangeFunc _ ps a b => some (ps, a, b)
 | _ => none
def codeIs (fn : Func) (ps : List Nat) (asg body : Code) : Prop := ∃ p, fn.body.bind rngC = some (p, asg, body) ∧ p.toList = ps
def evW (g : Nat) (c : V) (B : Name) : List E := (List.range 21).map (ofL eAny [(5, ⟨true, .v (.ptr [.clo (.func g) [] []])⟩), (7, ⟨true, .ref B 0⟩), (12, ⟨true, .v c⟩)])
theorem evW_ren (f : Name → Name) (g : Nat) (c : V) (B : Name) : (evW g c B).map (E.ren f) = evW g c (f B) := rfl
def gW (env : List E) : Nat := match (env.getD 5 eAny).d with | .v (.ptr [.clo (.func g) _ _]) => g | _ => 0
theorem gW_ev (g : Nat) (c : V) (B : Name) : gW (evW g c B) = g := rfl
def outW (f : Sta → Int) (L : List V) (s : V) : List Int := match s with | .agg [.int _ h, .int _ n, .bool o] => insI (L.map decI) (f ⟨h, n, o⟩) | _ => []
theorem outW_eq (f : Sta → Int) (l : List Int) (s : Sta) : outW f (l.map vInt) (encS s) = insI l (f s) := by
 simp only [outW, encS, decI_map]
def yW : YSpec where
 pre := fun env ps asg body os ds => ∃ (g : Nat) (c : V) (l : List Int) (n : Int) (s : Sta), (g = 92 ∨ g = 93) ∧ env = evW g c [0, 1] ∧ codeIs Tryz.f91 ps asg body ∧ os = [.box [.msl [1, 1] l.length], .arr 1 (l.map vInt)] ∧ l.Pairwise (· < ·) ∧ l.length < 1000 ∧ ds = [.v (vInt n), .v (encS s)]
 out := fun env _ _ _ os ds => match os, ds with
  | [_, .arr _ L], [_, .v s] => (⟨[(0, .box [.msl [1, 1] (outW (fW (gW env)) L s).length]), (1, .arr 1 ((outW (fW (gW env)) L s).map vInt))], [], .v (.bool true)⟩, none)
  | _, _ => (⟨[], [], .any⟩, none)
theorem yW_out (g : Nat) (c : V) (B : Name) (ps : List Nat) (asg body : Code) (x : O) (y : D) (l : List Int) (s : Sta) :
  yW.out (evW g c B) ps asg body [x, .arr 1 (l.map vInt)] [y, .v (encS s)] = (⟨[(0, .box [.msl [1, 1] (insI l (fW g s)).length]), (1, .arr 1 ((insI l (fW g s)).map vInt))], [], .v (.bool true)⟩, none) := by
 simp only [yW, gW_ev, outW_eq]
noncomputable def sS1 (f : Sta → V) : Spec := (pS1 f).toSpec
theorem sS1_app {f : Sta → V} {obj : Name → Option O} {t : Name} {h n : Int} {o : Bool} : (sS1 f).app obj t [.agg [.v (vInt h), .v (vInt n), .v (.bool o)]] = ⟨True, .v (f ⟨h, n, o⟩), obj⟩ := by
 have e : frzL (frz 6) obj [.agg [.v (vInt h), .v (vInt n), .v (.bool o)]] = ⟨True, [encS ⟨h, n, o⟩], obj⟩ := by
  simp [frzL, frz, D.one, V.one, encS]
 simp only [sS1, PSpec.toSpec, e]
 simp only [pS1, encS, if_true]
 congr 1
 simp only [eq_iff_iff, iff_true]
 exact ⟨trivial, ⟨h, n, o⟩, rfl⟩
noncomputable def K56 : FuncId → Option Spec := fun f => match f with
 | 92 => some (sS1 fun s => vInt s.h)
 | 93 => some (sS1 fun s => vInt s.n)
 | 94 => some sPutI
 | _ => none
theorem K56_sound : ∀ f s, K56 f = some s → SSound Tryz.prog f s := by
 intro f s h
 unfold K56 at h
 split at h
 ·cases h; exact s92.sound
 ·cases h; exact s93.sound
 ·cases h; exact s94
 ·cases h
@[go_sem] theorem K56_94 : K56 94 = some sPutI := rfl
theorem K56_g {g : Nat} (h : g = 92 ∨ g = 93) : K56 g = some (sS1 fun s => vInt (fW g s)) ∧ ¬ g = 1000000000 := by
 rcases h with rfl | rfl
 ·exact ⟨rfl, by decide⟩
 ·exact ⟨rfl, by decide⟩
set_option maxHeartbeats 4000000 in
theorem sYW : SSound Tryz.prog yid yW.toSpec := by
 refine yield_run ?_
 rintro env ps asg body os ds ⟨g, c, l, n, s, hg, rfl, ⟨p, hp, rfl⟩, rfl, hs, hl, rfl⟩ _
 have e : Tryz.f91.body.bind rngC = some (_, _, _) := rfl
 rw [e] at hp
 obtain ⟨rfl, rfl, rfl⟩ : _ ∧ _ ∧ _ := by simpa using hp
 clear hp e
 have hΓ := K56_sound
 have hP := mixedK
 obtain ⟨hk, hy⟩ := K56_g hg
 rw [yW_out]
 generalize hos : [O.box [.msl [1, 1] l.length], .arr 1 (l.map vInt)] = os
 have hO : ∀ hs, OutC [0] (domOf [0] hs) (outH os) = True := by
  subst hos
  refine fun hs => eq_true (outC_outs ?_ hs)
  intro o ho dom hd
  simp only [List.mem_cons, List.not_mem_nil, or_false] at ho
  rcases ho with rfl | rfl
  ·simp [O.clos, D.closL, D.clos, hd]
  ·rfl
 have hH0 : outH os [0, 1] = some (.box [.msl [1, 1] l.length]) := by subst hos; rfl
 have hH1 : outH os [1, 1] = some (.arr 1 (l.map vInt)) := by subst hos; rfl
 obtain ⟨H, hH⟩ : ∃ H, outH os = H := ⟨_, rfl⟩
 rw [hH] at hH0 hH1
 simp only [hH] at hO
 have hE : ∀ o σ, σ.obj [0, 1] = some (.box [.msl [1, 1] (insI l o).length]) → σ.obj [1, 1] = some (.arr 1 ((insI l o).map vInt)) →
   endC os ⟨[(0, .box [.msl [1, 1] (insI l o).length]), (1, .arr 1 ((insI l o).map vInt))], [], .v (.bool true)⟩ σ := by
  intro o σ h1 h2
  subst hos
  refine ⟨⟨h1, h2, trivial⟩, trivial, ?_⟩
  simp [D.clos, D.closL, O.clos, domC, distinct]
 have hput := fun obj t x (ho : obj [1, 1] = _) => sPutI_app (obj := obj) (t := t) (nm := [1, 1]) (k := l.length) (l := l) (x := x) ho rfl hs (by omega)
 obtain ⟨h, n', o⟩ := s
 simp only [encS, hH]
 refine cw_weak (weak_to 21 [0] H [(5, ⟨true, .v (.ptr [.clo (.func g) [] []])⟩), (7, ⟨true, .ref [0, 1] 0⟩), (14, ⟨true, .v (.agg [vInt h, vInt n', .bool o])⟩)] [] rfl rfl (fun _ _ => rfl) ?_ (by simp) ?_ ?_) ?_
 ·intro q hq
  simp only [List.mem_cons, List.not_mem_nil, or_false] at hq
  rcases hq with rfl | rfl | rfl <;> rfl
 ·simp [D.clos, domOf, own]
 ·rw [hO]; trivial
 refine cl_of ?_
 refine cl_r hΓ fun K' hK => ?_
 simp only [go_sem, tp137, tz137]
 refine ⟨Nat.le_refl _, ?_⟩
 refine hK _ ?_
 clear K' hK
 refine (cw_keep [5, 7, 9] [[9, 0]] ?_ ?_ : CW _ _ _ _)
 ·simp only [go_sem, hO]
 refine cl_of ?_
 simp only [go_sem]
 refine cl_block ?_
 repeat refine sq ?_
 refine cl_d hΓ hP [[], [], [], [1, 2], [0, 1, 2, 3], [0, 1, 2, 3, 4]] (by kernel_rfl) fun K' hK => ?_
 simp only [go_sem, hH0, hH1, hk, hy, sS1_app, hput, putI_ins _ hs]
 repeat refine ⟨ob, ?_⟩
 first | refine ⟨by rfl, ?_⟩ | skip
 refine hK _ ?_
 clear K' hK
 simp only [go_sem]
 refine cl_nil ?_
 exact ⟨rfl, hE _ _ rfl rfl⟩
theorem setU3 (obj : Name → Option O) (x y z : O) : setU obj [x, y, z] = upd (upd (upd obj [1, 1] (some y)) [2, 1] (some z)) [0, 1] (some x) := by
 funext nm
 unfold setU
 by_cases h0 : nm = [0, 1]
 ·subst h0; rfl
 by_cases h1 : nm = [1, 1]
 ·subst h1; rfl
 by_cases h2 : nm = [2, 1]
 ·subst h2; rfl
 rw [upd_ne _ _ _ h0, upd_ne _ _ _ h2, upd_ne _ _ _ h1]
 cases hx : isOut nm with
 | false => rw [outH_not hx]
 | true =>
  obtain ⟨i, rfl⟩ := isOut_iff.1 hx
  match i, h0, h1, h2 with
  | 0, h0, _, _ => exact (h0 rfl).elim
  | 1, _, h1, _ => exact (h1 rfl).elim
  | 2, _, _, h2 => exact (h2 rfl).elim
  | _ + 3, _, _, _ => rfl
theorem evW_names (g : Nat) (c : V) (B : Name) (a b : V) : namesL (roots (evW g c B) [.v a, .v b]) = [B] := rfl
theorem evW_names' (g : Nat) (c : V) (B : Name) : namesL ((evW g c B).map (·.d)) = [B] := rfl
theorem evW_cl (dom : Name → Bool) (g : Nat) (c : V) (B : Name) (a b : V) (h : dom B = true) : D.closL dom (roots (evW g c B) [.v a, .v b]) = true := by
 unfold roots evW
 simp [List.range, List.range.loop, ofL, D.closL, D.clos, eAny, h]
theorem reachW {obj : Name → Option O} {B A : Name} {ds : List D} {k : Nat} {sz : Nat} {L : List V} (hn : namesL ds = [B]) (hBA : (B == A) = false) (hB : obj B = some (.box [.msl A k])) (hA : obj A = some (.arr sz L)) : reach obj ds = [B, A] := by
 unfold reach
 rw [hn]
 show reachL obj (2997 + 1 + 1 + 1) [B] [] = [B, A]
 simp only [reachL, inL, List.any_nil, Bool.false_eq_true, if_false, hB, hA, namesO, namesL, namesD, List.nil_append, List.append_nil, List.any_cons, hBA, Bool.or_self, List.cons_append]
def IW (g : Nat) (c : V) (asg body : Code) (l : List Int) : List O := [.loop (evW g c [1, 1]) [13, 14] asg body .ready none, .box [.msl [2, 1] l.length], .arr 1 (l.map vInt)]
theorem yW_app {g : Nat} {c : V} {asg body : Code} {l : List Int} {n : Int} {s : Sta} (hg : g = 92 ∨ g = 93) (hc : codeIs Tryz.f91 [13, 14] asg body) (hs : l.Pairwise (· < ·)) (hl : l.length < 1000)
  (obj : Name → Option O) (tm : Name) (h : ∀ nm, isOut nm = true → obj nm = outH (IW g c asg body l) nm) :
  yW.toSpec.app obj tm [.yld [0, 1], .v (vInt n), .v (encS s)] = ⟨True, .v (.bool true), setU obj (IW g c asg body (insI l (fW g s)))⟩ := by
 have h0 : obj [0, 1] = some (.loop (evW g c [1, 1]) [13, 14] asg body .ready none) := h _ rfl
 have h1 : obj [1, 1] = some (.box [.msl [2, 1] l.length]) := h _ rfl
 have h2 : obj [2, 1] = some (.arr 1 (l.map vInt)) := h _ rfl
 have hr : reach obj (roots (evW g c [1, 1]) [.v (vInt n), .v (encS s)]) = [[1, 1], [2, 1]] := reachW (evW_names g c [1, 1] (vInt n) (encS s)) rfl h1 h2
 have e1 : cOs obj (roots (evW g c [1, 1]) [.v (vInt n), .v (encS s)]) = [.box [.msl [1, 1] l.length], .arr 1 (l.map vInt)] := by
  unfold cOs
  rw [hr]
  simp only [List.map_cons, List.map_nil, canonO, h1, h2, O.ren, D.renL, D.ren]
  rfl
 have e2 : yEnv obj (evW g c [1, 1]) [.v (vInt n), .v (encS s)] = evW g c [0, 1] := by
  unfold yEnv
  rw [hr, evW_ren]
  rfl
 have e3 : yDs obj (evW g c [1, 1]) [.v (vInt n), .v (encS s)] = [.v (vInt n), .v (encS s)] := rfl
 have e4 : yW.o obj (evW g c [1, 1]) [13, 14] asg body [.v (vInt n), .v (encS s)] = (⟨[(0, .box [.msl [1, 1] (insI l (fW g s)).length]), (1, .arr 1 ((insI l (fW g s)).map vInt))], [], .v (.bool true)⟩, none) := by
  unfold YSpec.o
  rw [e1, e2, e3, yW_out]
 have hpre : yW.pre (evW g c [0, 1]) [13, 14] asg body [.box [.msl [1, 1] l.length], .arr 1 (l.map vInt)] [.v (vInt n), .v (encS s)] := ⟨g, c, l, n, s, hg, rfl, hc, rfl, hs, hl, rfl⟩
 have hcl := evW_cl (inL [[1, 1], [2, 1]]) g c [1, 1] (vInt n) (encS s) rfl
 simp only [YSpec.toSpec, h0, e1, e2, e3, e4, hr, hcl]
 have e5 : (shut obj [[1, 1], [2, 1]] && true && fresh obj tm [] && !inL [[1, 1], [2, 1]] [0, 1] && decide ([D.v (vInt n), .v (encS s)].length = [13, 14].length) && [13, 14].all fun p => decide (p < (evW g c [1, 1]).length)) = true := by
  have : shut obj [[1, 1], [2, 1]] = true := by
   simp only [shut, List.all_cons, List.all_nil, h1, h2, O.clos, D.closL, D.clos]
   rfl
  rw [this]
  rfl
 rw [e5]
 unfold IW
 rw [setU3]
 simp only [hpre, and_self, Option.isNone_none, if_true, putN, putU]
 rfl
noncomputable def K57 : FuncId → Option Spec := fun f => match f with
 | 166 => some sMay
 | 167 => some sAft
 | 1000000000 => some yW.toSpec
 | _ => none
theorem K57_sound : ∀ f s, K57 f = some s → SSound Tryz.prog f s := by
 intro f s h
 unfold K57 at h
 split at h
 ·cases h; exact s166.sound
 ·cases h; exact s167.sound
 ·cases h; exact sYW
 ·cases h
theorem IW_clos (g : Nat) (c : V) (asg body : Code) (l : List Int) : ∀ o ∈ IW g c asg body l, ∀ dom : Name → Bool, (∀ i, dom [i, 1] = true) → O.clos dom o = true := by
 intro o ho dom hd
 simp only [IW, List.mem_cons, List.not_mem_nil, or_false] at ho
 rcases ho with rfl | rfl | rfl
 ·simp [O.clos, evW, List.range, List.range.loop, ofL, D.clos, D.closL, eAny, hd]
 ·simp [O.clos, D.closL, D.clos, hd]
 ·rfl
def cW : CSpec where
 pre := fun os ds => ∃ (g : Nat) (c : V) (t : List Deed) (day : Int) (asg body : Code), (g = 92 ∨ g = 93) ∧ codeIs Tryz.f91 [13, 14] asg body ∧ t.length ≤ 60 ∧ (∀ d ∈ t, kindOk d) ∧ os = IW g c asg body [] ∧ ds = [.yld [0, 1], .v (.ptr [.sl (t.map encD)]), .v (.ptr [vInt day])]
 out := fun os ds => match os, ds with
  | [.loop env _ _ _ _ _, _, _], [_, .v (.ptr [.sl l]), .v (.ptr [.int _ day])] => ⟨[(1, .box [.msl [2, 1] (whoL (fW (gW env)) (l.map decD) day).length]), (2, .arr 1 ((whoL (fW (gW env)) (l.map decD) day).map vInt))], [], .tup []⟩
  | _, _ => ⟨[], [], .any⟩
theorem cW_out (g : Nat) (c : V) (asg body : Code) (l : List Int) (t : List Deed) (day : Int) (x : D) : cW.out (IW g c asg body l) [x, .v (.ptr [.sl (t.map encD)]), .v (.ptr [vInt day])] =
  ⟨[(1, .box [.msl [2, 1] (whoL (fW g) t day).length]), (2, .arr 1 ((whoL (fW g) t day).map vInt))], [], .tup []⟩ := by
 simp only [cW, IW, gW_ev, decD_map]
theorem s165W : SSound Tryz.prog 165 cW.toSpec := by
 refine csound (nt := 25) (rs := []) Tryz.func165 rfl (by rfl) (by kernel_rfl) (enter_of Tryz.func165 rfl (by kernel_rfl)) (notYid _ (by decide)) ?_
 rintro os ds ⟨g, c, t, day, asg, body, hg, hc, hl, hk, rfl, rfl⟩
 refine ⟨lb rfl, ?_⟩
 rw [cW_out]
 obtain ⟨c', hc', h⟩ := w165 K57_sound (sY := yW.toSpec) rfl rfl rfl (t := t) (day := day) hl hk (I := fun s => IW g c asg body (whoTo (fW g) t day s)) (b := fun _ => true) (fun _ => rfl) (fun s => IW_clos g c asg body _)
  (fun s _ hm => by simp only [whoTo_next, hm]; rfl)
  (fun s hs hm _ obj tm ho => by
   have h1 := whoTo_ok (fW g) t day s
   have h2 := yW_app (n := s) (s := stA t s) hg hc h1.1 (by omega) obj tm ho
   rw [h2]
   simp only [whoTo_next, hm, if_true])
 have hc2 : ∀ c2, Tryz.f165.body = some c2 → c2 = c' := fun c2 h2 => by rw [h2] at hc'; exact Option.some.inj hc'
 rw [← hc2 _ rfl] at h
 refine CW.mono (cl_of h) ?_
 rintro e σ ⟨he, hob⟩
 have hen : endN (fun s => mayB t s day && !true) (t.length + 1) = t.length + 1 := endN_none fun s _ => by simp
 rw [hen] at hob
 have fin : (resAll Tryz.prog σ []).ok ∧ (resAll Tryz.prog σ []).d = .tup [] ∧ endC (IW g c asg body []) ⟨[(1, .box [.msl [2, 1] (whoL (fW g) t day).length]), (2, .arr 1 ((whoL (fW g) t day).map vInt))], [], .tup []⟩ σ := by
  refine ⟨fun r hr => by simp at hr, rfl, ⟨hob 0, hob 1, hob 2, trivial⟩, trivial, ?_⟩
  simp [D.clos, D.closL, O.clos, domC, distinct, IW]
 rcases he with rfl | rfl
 ·exact fin
 ·exact fin
theorem reachW3 {obj : Name → Option O} {R B A : Name} {ds : List D} {k sz : Nat} {L : List V} {env : List E} {ps : List Nat} {a b : Code} {st : LoopState} {pd : Option Code} (hn : namesL ds = [R]) (hR : obj R = some (.loop env ps a b st pd)) (he : namesL (env.map (·.d)) = [B])
  (hRB : (R == B) = false) (hRA : (R == A) = false) (hBA : (B == A) = false) (hB : obj B = some (.box [.msl A k])) (hA : obj A = some (.arr sz L)) : reach obj ds = [R, B, A] := by
 unfold reach
 rw [hn]
 show reachL obj (2996 + 1 + 1 + 1 + 1) [R] [] = [R, B, A]
 simp only [reachL, inL, List.any_nil, Bool.false_eq_true, if_false, hR, hB, hA, namesO, he, namesL, namesD, List.nil_append, List.append_nil, List.any_cons, hRB, hRA, hBA, Bool.or_self, List.cons_append]
theorem cW_app {g : Nat} {c : V} {t : List Deed} {day : Int} {asg body : Code} (hg : g = 92 ∨ g = 93) (hc : codeIs Tryz.f91 [13, 14] asg body) (hl : t.length ≤ 60) (hk : ∀ d ∈ t, kindOk d) {obj : Name → Option O} {tm R B A : Name}
  (hRB : R ≠ B) (hRA : R ≠ A) (hBA : B ≠ A) (hR : obj R = some (.loop (evW g c B) [13, 14] asg body .ready none)) (hB : obj B = some (.box [.msl A 0])) (hA : obj A = some (.arr 1 [])) :
  cW.toSpec.app obj tm [.yld R, .v (.ptr [.sl (t.map encD)]), .v (.ptr [vInt day])] = ⟨True, .tup [], upd (upd obj B (some (.box [.msl A (whoL (fW g) t day).length]))) A (some (.arr 1 ((whoL (fW g) t day).map vInt)))⟩ := by
 have b1 : (R == B) = false := by simpa using hRB
 have b2 : (R == A) = false := by simpa using hRA
 have b3 : (B == A) = false := by simpa using hBA
 have hr : reach obj [.yld R, .v (.ptr [.sl (t.map encD)]), .v (.ptr [vInt day])] = [R, B, A] := reachW3 rfl hR (evW_names' g c B) b1 b2 b3 hB hA
 have i0 : idx [R, B, A] R = 0 := by simp [idx]
 have i1 : idx [R, B, A] B = 1 := by simp [idx, hRB]
 have i2 : idx [R, B, A] A = 2 := by simp [idx, hRA, hBA]
 have e1 : cOs obj [.yld R, .v (.ptr [.sl (t.map encD)]), .v (.ptr [vInt day])] = IW g c asg body [] := by
  unfold cOs
  rw [hr]
  simp only [List.map_cons, List.map_nil, canonO, hR, hB, hA, O.ren, D.renL, D.ren, evW_ren, cin, i0, i1, i2]
  rfl
 have e2 : cDs obj [.yld R, .v (.ptr [.sl (t.map encD)]), .v (.ptr [vInt day])] = [.yld [0, 1], .v (.ptr [.sl (t.map encD)]), .v (.ptr [vInt day])] := by
  unfold cDs
  rw [hr]
  simp only [D.renL, D.ren, cin, i0]
 have hpre : cW.pre (IW g c asg body []) [.yld [0, 1], .v (.ptr [.sl (t.map encD)]), .v (.ptr [vInt day])] := ⟨g, c, t, day, asg, body, hg, hc, hl, hk, rfl, rfl⟩
 have e3 : (shut obj [R, B, A] && D.closL (inL [R, B, A]) [.yld R, .v (.ptr [.sl (t.map encD)]), .v (.ptr [vInt day])] && fresh obj tm []) = true := by
  have : shut obj [R, B, A] = true := by
   simp [shut, hR, hB, hA, O.clos, D.closL, D.clos, inL, evW, List.range, List.range.loop, ofL, eAny]
  rw [this]
  simp [D.closL, D.clos, inL, fresh]
 simp only [CSpec.toSpec, e1, e2, hr, cW_out, e3, hpre, and_self, putN, putU, D.ren, D.renL, O.ren, cout, List.getD_cons_zero, List.getD_cons_succ]
noncomputable def K65 : FuncId → Option Spec := fun f => match f with
 | 147 => some (sLI (fun _ => True) (fun l k => .clo (.func 165) [] [.ptr [.sl (l.map encD)], .ptr [vInt k]]) false)
 | 165 => some cW.toSpec
 | _ => none
theorem K65_sound : ∀ f s, K65 f = some s → SSound Tryz.prog f s := by
 intro f s h
 unfold K65 at h
 split at h
 ·cases h; exact s147.sound
 ·cases h; exact s165W
 ·cases h
@[go_sem] theorem K65_147 : K65 147 = some (sLI (fun _ => True) (fun l k => .clo (.func 165) [] [.ptr [.sl (l.map encD)], .ptr [vInt k]]) false) := rfl
theorem s91 : PSound Tryz.prog 91 pWho := by
 refine psoundB (rs := [.tmp 6]) Tryz.func91 Tryz.ntmps91 (by rfl) (by kernel_rfl) (by decide) (fun h => by cases h) ⟨_, rfl, ?_⟩
 rintro xs ⟨t, day, g, rfl, hg, hl, hk⟩ hw
 refine ⟨lb rfl, ?_⟩
 rw [pWho_fn]
 have hΓ := K65_sound
 have hst := fun (obj : Name → Option O) (tm : Name) (f : List Deed → Int → V) (fl : Bool) => sLI_app (P := fun _ => True) (f := f) (fl := fl) (obj := obj) (t := tm) (l := t) (k := day) trivial
 repeat refine sq ?_
 refine rs hΓ [0,1,5] [[5, 0]] ?_
 refine cl_weakM (σ' := mkS 21 [0] (fun _ => none) [(0, ⟨true, .v (.sl (t.map encD))⟩), (1, ⟨true, .v (vInt day)⟩), (5, ⟨true, .v (.ptr [.clo (.func g) [] []])⟩)] []) (weakM_frzk 5 (.ref [5, 0] 0) (by simp only [go_sem]) (by simp only [go_sem]) [0, 1, 5] [] ?_ ?_) ?_
 ·simp only [go_sem]
 ·simp only [go_sem]
 repeat refine sq ?_
 refine rs hΓ [0,1,5,7] [[7, 0]] ?_
 repeat refine sq ?_
 refine rx hΓ [5,7,12] [[7, 0]] (fun K' hK => by simp only [go_sem, hst]; exact fin) ?_
 repeat refine sq ?_
 refine cl_block ?_
 repeat refine sq ?_
 refine cl_weakM (σ' := mkS 21 [0] (fun _ => none) [(5, ⟨true, .v (.ptr [.clo (.func g) [] []])⟩), (7, ⟨true, .ref [7, 0] 0⟩), (12, ⟨true, .v (.clo (.func 165) [] [.ptr [.sl (t.map encD)], .ptr [vInt day]])⟩)] [([7, 0], .box [.msl [32, 0] 0]), ([32, 0], .arr 1 [])]) (weakM_ghostB [7, 0] [32, 0] 1 (by simp only [go_sem]) (by simp only [go_sem]) [5, 7, 12] [[7, 0], [32, 0]] ?_ ?_) ?_
 ·simp only [go_sem]
 ·simp only [go_sem]
 have happ := fun (obj : Name → Option O) (asg body : Code) (hc : codeIs Tryz.f91 [13, 14] asg body) => cW_app (c := .clo (.func 165) [] [.ptr [.sl (t.map encD)], .ptr [vInt day]]) (t := t) (day := day) hg hc hl hk (obj := obj) (tm := [31, 0]) (R := [30, 0]) (B := [7, 0]) (A := [32, 0]) (by decide) (by decide) (by decide)
 refine cl_rangeFuncR hΓ 30 31 (f := 165) (s := cW.toSpec) rfl rfl (by decide) rfl rfl (happ _ _ _ ⟨_, rfl, rfl⟩ rfl rfl rfl) rfl ?_
 refine cl_nil ?_
 show CL Tryz.prog (_ :: _) _ _
 refine cl_keep [7] [[7, 0],[32, 0]] ?_ ?_ <;> simp only [go_sem]
 repeat refine sq ?_
 refine rs hΓ [6] [[32, 0]] ?_
 exact rt
theorem insI_has : ∀ {l : List Int} {x y : Int}, y = x ∨ y ∈ l → y ∈ insI l x
 | [], x, y, h => by simpa [insI] using h
 | a :: r, x, y, h => by
  unfold insI
  split
  ·rcases h with rfl | h
   ·exact List.mem_cons_of_mem _ (insI_has (.inl rfl))
   ·rcases List.mem_cons.1 h with rfl | h
    ·simp
    ·exact List.mem_cons_of_mem _ (insI_has (.inr h))
  ·split
   ·rename_i h1 h2
    rcases h with rfl | h
    ·simp; omega
    ·exact h
   ·rcases h with rfl | h
    ·simp
    ·exact List.mem_cons_of_mem _ h
theorem count_ok {l : List Deed} (h : okL l) (k : Int) : okL (countL l k) :=
 ⟨h.1.filter _, fun d hd => h.2.1 d (List.mem_filter.1 hd).1, Nat.le_trans (List.length_filter_le _ _) h.2.2⟩
theorem days_two {l : List Deed} {a b : Int} (h : checkI l = 0) (ha : isDayB a = true) (hb : isDayB b = true) : daysI l [a, b] = 0 := by
 unfold daysI
 rw [if_pos h]
 simp [ha, hb]
noncomputable def gE (c : List Deed) : Int := if (confP c).isSome then 13 else 0
theorem lwE_of {l : List Deed} {ps : List Int} {day k : Int} (h : checkI l = 0) (hp : areB ps = true) (ha : isDayB day = true) (hb : isDayB k = true) : lwE l ps day k = gE (countL l k) := by
 unfold lwE openE
 rw [if_pos h, if_pos hp, days_two h ha hb]
 rfl
theorem lwA_of {l : List Deed} {ps : List Int} {day k : Int} (h : checkI l = 0) (hp : areB ps = true) (ha : isDayB day = true) (hb : isDayB k = true) : lwA l ps day k = if gE (countL l k) = 0 then ansW (countL l k) day ps else 0 := by
 unfold lwA
 rw [lwE_of h hp ha hb]
theorem day_iff {n : Int} : isDayB n = true ↔ 0 ≤ n ∧ n ≤ 100000 := by
 unfold isDayB inI
 simp
structure narD (a b : Deed) : Prop where
 pa : b.pa = a.pa
 no : b.no = a.no
 ki : b.ki = a.ki
 lo : b.lo = a.lo
 pe : b.pe = a.pe
 kn : b.kn = a.kn
 un : b.un = a.un
 d1 : a.dl ≤ b.dl
 d2 : b.dl ≤ b.dh
 d3 : b.dh ≤ a.dh
inductive Nar : List Deed → List Deed → Prop
 | nil : Nar [] []
 | cons {a b l m} : narD a b → Nar l m → Nar (a :: l) (b :: m)
theorem mem_who {f : Sta → Int} {t : List Deed} {day : Int} {x : Int} : x ∈ whoL f t day ↔ ∃ n, n ≤ t.length ∧ mayB t n day = true ∧ x = f (stA t n) := by
 have key : ∀ s, x ∈ whoTo f t day s ↔ ∃ n, n < s ∧ mayB t n day = true ∧ x = f (stA t n) := by
  intro s
  induction s with
  | zero => exact ⟨fun h => (by cases h), fun ⟨n, hn, _⟩ => by omega⟩
  | succ s ih =>
   rw [whoTo_next]
   by_cases hm : mayB t s day = true
   ·rw [if_pos hm]
    constructor
    ·intro h
     rcases mem_insI h with h | h
     ·exact ⟨s, by omega, hm, h⟩
     ·obtain ⟨n, hn, h⟩ := ih.1 h
      exact ⟨n, by omega, h⟩
    ·rintro ⟨n, hn, h1, h2⟩
     refine insI_has ?_
     by_cases hs : n = s
     ·subst hs; exact .inl h2
     ·exact .inr (ih.2 ⟨n, by omega, h1, h2⟩)
   ·rw [if_neg hm, ih]
    constructor
    ·rintro ⟨n, hn, h⟩; exact ⟨n, by omega, h⟩
    ·rintro ⟨n, hn, h⟩
     refine ⟨n, ?_, h⟩
     by_cases hs : n = s
     ·subst hs; exact (hm h.1).elim
     ·omega
 unfold whoL
 rw [key]
 constructor
 ·rintro ⟨n, hn, h⟩; exact ⟨n, by omega, h⟩
 ·rintro ⟨n, hn, h⟩; exact ⟨n, by omega, h⟩
def mayP (t : List Deed) (day : Int) (s : Sta) : Prop := ∃ n, n ≤ t.length ∧ mayB t n day = true ∧ s = stA t n
theorem sT_may {c : List Deed} {l day : Int} {i : Nat} (h : i < nT c l day) : mayP (thrL c l 0) day (sT c l day i) := by
 have hm : kT c l day i ∈ mayL (thrL c l 0) day ((thrL c l 0).length + 1) := by
  unfold kT
  unfold nT at h
  rw [List.getD_eq_getElem?_getD, List.getElem?_eq_getElem h, Option.getD_some]
  exact List.getElem_mem h
 obtain ⟨h1, h2⟩ := mayL_lt _ hm
 exact ⟨_, by omega, h2, rfl⟩
theorem may_sT {c : List Deed} {l day : Int} {s : Sta} (h : mayP (thrL c l 0) day s) : ∃ i, i < nT c l day ∧ sT c l day i = s := by
 obtain ⟨n, h1, h2, h3⟩ := h
 have hm : n ∈ mayN (thrL c l 0) day := List.mem_filter.2 ⟨List.mem_range.2 (by omega), h2⟩
 obtain ⟨i, hi, e⟩ := List.getElem_of_mem hm
 refine ⟨i, hi, ?_⟩
 unfold sT kT
 rw [List.getD_eq_getElem?_getD, List.getElem?_eq_getElem hi, Option.getD_some, e, h3]
def offP (c : List Deed) (day : Int) (x : Sta) (b : Bool) : Prop := ∃ s, mayP (thrL c 0 x.h) day s ∧ s.o = b
theorem off_iff {c : List Deed} {day : Int} {x : Sta} {b : Bool} : (offA c day x b).2 = true ↔ offP c day x b := by
 unfold offA offFind
 cases hf : (mayN (thrL c 0 x.h) day).find? (fun n => (stA (thrL c 0 x.h) n).o == b) with
 | some n =>
  refine ⟨fun _ => ?_, fun _ => rfl⟩
  have h1 := List.find?_some hf
  obtain ⟨h2, h3⟩ := mayL_lt _ (List.mem_of_find?_eq_some hf)
  exact ⟨_, ⟨n, by omega, h3, rfl⟩, by simpa using h1⟩
 | none =>
  refine ⟨fun h => (by cases h), ?_⟩
  rintro ⟨s, ⟨n, h1, h2, rfl⟩, h4⟩
  have := List.find?_eq_none.1 hf n (List.mem_filter.2 ⟨List.mem_range.2 (by omega), h2⟩)
  simp [h4] at this
def lawP (c : List Deed) (day : Int) (ps : List Int) : Prop := ∃ x y z, mayP (thrL c 1 0) day x ∧ mayP (thrL c 2 0) day y ∧ mayP (thrL c 3 0) day z ∧ threeB [x, y, z] ps = true ∧ ∀ s ∈ [x, y, z], offP c day s true
def unP (c : List Deed) (day : Int) (ps : List Int) : Prop := ∃ x y z, mayP (thrL c 1 0) day x ∧ mayP (thrL c 2 0) day y ∧ mayP (thrL c 3 0) day z ∧ (threeB [x, y, z] ps = false ∨ ∃ s ∈ [x, y, z], offP c day s false)
theorem way_of {c : List Deed} {day : Int} {x y z : Sta} (h1 : mayP (thrL c 1 0) day x) (h2 : mayP (thrL c 2 0) day y) (h3 : mayP (thrL c 3 0) day z) : ∃ k, k < wN c day ∧ wX c day k = x ∧ wY c day k = y ∧ wZ c day k = z := by
 obtain ⟨i, hi, e1⟩ := may_sT h1
 obtain ⟨j, hj, e2⟩ := may_sT h2
 obtain ⟨l, hl, e3⟩ := may_sT h3
 obtain ⟨g1, g2, g3⟩ := w_split (i := i) hj hl rfl
 refine ⟨i * (nT c 2 day * nT c 3 day) + j * nT c 3 day + l, ?_, ?_, ?_, ?_⟩
 ·unfold wN
  have : j * nT c 3 day + nT c 3 day ≤ nT c 2 day * nT c 3 day := by
   have := Nat.mul_le_mul_right (nT c 3 day) hj
   rw [Nat.succ_mul] at this
   exact this
  have : i * (nT c 2 day * nT c 3 day) + nT c 2 day * nT c 3 day ≤ nT c 1 day * (nT c 2 day * nT c 3 day) := by
   have := Nat.mul_le_mul_right (nT c 2 day * nT c 3 day) hi
   rw [Nat.succ_mul] at this
   exact this
  omega
 ·unfold wX wi; rw [g3, e1]
 ·unfold wY wj; rw [g2, e2]
 ·unfold wZ wl; rw [g1, e3]
theorem law_iff {c : List Deed} {day : Int} {ps : List Int} : (lawW c day ps).2 = true ↔ lawP c day ps := by
 have hg : ∀ k, goodW c day ps k = true ↔ threeB [wX c day k, wY c day k, wZ c day k] ps = true ∧ ∀ s ∈ [wX c day k, wY c day k, wZ c day k], offP c day s true := fun k => by
  unfold goodW
  simp only [Bool.and_eq_true, List.forall_mem_cons, off_iff]
  constructor
  ·rintro ⟨⟨⟨h1, h2⟩, h3⟩, h4⟩; exact ⟨h1, h2, h3, h4, fun _ h => by cases h⟩
  ·rintro ⟨h1, h2, h3, h4, _⟩; exact ⟨⟨⟨h1, h2⟩, h3⟩, h4⟩
 unfold lawW
 cases hf : (List.range (wN c day)).find? (goodW c day ps) with
 | some k =>
  refine ⟨fun _ => ?_, fun _ => rfl⟩
  obtain ⟨h1, h2, h3⟩ := w_lt (List.mem_range.1 (List.mem_of_find?_eq_some hf))
  exact ⟨_, _, _, sT_may h1, sT_may h2, sT_may h3, (hg k).1 (List.find?_some hf)⟩
 | none =>
  refine ⟨fun h => (Bool.false_ne_true h).elim, ?_⟩
  rintro ⟨x, y, z, h1, h2, h3, h4⟩
  obtain ⟨k, hk, rfl, rfl, rfl⟩ := way_of h1 h2 h3
  exact (List.find?_eq_none.1 hf k (List.mem_range.2 hk) ((hg k).2 h4)).elim
theorem un_iff {c : List Deed} {day : Int} {ps : List Int} : (unW c day ps).2.2 = true ↔ unP c day ps := by
 have hg : ∀ k, badW c day ps k = true ↔ threeB [wX c day k, wY c day k, wZ c day k] ps = false ∨ ∃ s ∈ [wX c day k, wY c day k, wZ c day k], offP c day s false := fun k => by
  unfold badW
  rw [Bool.or_eq_true, Bool.not_eq_true', List.any_eq_true]
  exact or_congr Iff.rfl (exists_congr fun s => and_congr Iff.rfl off_iff)
 unfold unW
 cases hf : (List.range (wN c day)).find? (badW c day ps) with
 | some k =>
  refine ⟨fun _ => ?_, fun _ => rfl⟩
  obtain ⟨h1, h2, h3⟩ := w_lt (List.mem_range.1 (List.mem_of_find?_eq_some hf))
  exact ⟨_, _, _, sT_may h1, sT_may h2, sT_may h3, (hg k).1 (List.find?_some hf)⟩
 | none =>
  refine ⟨fun h => (Bool.false_ne_true h).elim, ?_⟩
  rintro ⟨x, y, z, h1, h2, h3, h4⟩
  obtain ⟨k, hk, rfl, rfl, rfl⟩ := way_of h1 h2 h3
  exact (List.find?_eq_none.1 hf k (List.mem_range.2 hk) ((hg k).2 h4)).elim
theorem mayP_some {l : List Deed} (h : okL l) {k : Int} (hn : ¬ (confP (countL l k)).isSome = true) {day : Int} (h0 : 0 ≤ day) :
  (∀ lock, 1 ≤ lock → ∃ s, mayP (thrL (countL l k) lock 0) day s) ∧ ∀ pe, ∃ s, mayP (thrL (countL l k) 0 pe) day s := by
 constructor
 ·intro lock hl
  obtain ⟨n, h1, h2⟩ := lock_some h hn hl h0
  exact ⟨_, n, h1, h2, rfl⟩
 ·intro pe
  obtain ⟨n, h1, h2⟩ := pers_some h hn (pe := pe) h0
  exact ⟨_, n, h1, h2, rfl⟩
theorem law_or_un {l : List Deed} (h : okL l) {k : Int} (hn : ¬ (confP (countL l k)).isSome = true) {day : Int} (h0 : 0 ≤ day) (ps : List Int) : lawP (countL l k) day ps ∨ unP (countL l k) day ps := by
 obtain ⟨h1, h2⟩ := mayP_some h hn h0
 obtain ⟨x, hx⟩ := h1 1 (by decide)
 obtain ⟨y, hy⟩ := h1 2 (by decide)
 obtain ⟨z, hz⟩ := h1 3 (by decide)
 cases ht : threeB [x, y, z] ps with
 | false => exact .inr ⟨x, y, z, hx, hy, hz, .inl ht⟩
 | true =>
  by_cases ha : ∀ s ∈ [x, y, z], offP (countL l k) day s true
  ·exact .inl ⟨x, y, z, hx, hy, hz, ht, ha⟩
  ·refine .inr ⟨x, y, z, hx, hy, hz, .inr ?_⟩
   have : ∃ s ∈ [x, y, z], ¬ offP (countL l k) day s true := by
    by_cases hc : ∃ s ∈ [x, y, z], ¬ offP (countL l k) day s true
    ·exact hc
    ·exact (ha fun s hs => Classical.byContradiction fun hb => hc ⟨s, hs, hb⟩).elim
   obtain ⟨s, hs, hb⟩ := this
   obtain ⟨w, hw⟩ := h2 s.h
   refine ⟨s, hs, w, hw, ?_⟩
   cases hwo : w.o with
   | false => rfl
   | true => exact (hb ⟨w, hw, hwo⟩).elim
theorem ans_if {c : List Deed} {day : Int} {ps : List Int} : (ansW c day ps = 1 ↔ ¬ unP c day ps) ∧ (ansW c day ps = 0 ↔ unP c day ps ∧ ¬ lawP c day ps) ∧ (ansW c day ps = 2 ↔ unP c day ps ∧ lawP c day ps) := by
 rw [← law_iff, ← un_iff]
 unfold ansW
 cases (unW c day ps).2.2 <;> cases (lawW c day ps).2 <;> simp
theorem same_sym {x y : Deed} (hs : sameThB x y = true) (hx : isDeedB x = true) (hy : isDeedB y = true) : sameThB y x = true := by
 have k1 := valid_kind hx
 have k2 := valid_kind hy
 unfold sameThB at hs ⊢
 rcases k1 with ⟨k1, k3, _⟩ | ⟨k1, k3⟩ <;> rcases k2 with ⟨k2, k4, _⟩ | ⟨k2, k4⟩ <;> simp [k1, k2] at hs ⊢
 ·exact hs.symm
 ·omega
 ·exact hs.symm
set_option maxHeartbeats 2000000 in
theorem s62 : PSound Tryz.prog 62 (pLV fun l v => .bool (l.any fun x => x == v)) := by
 refine psoundB (rs := [.tmp 4]) Tryz.func62 Tryz.ntmps62 (by rfl) (by kernel_rfl) (by decide) (by rintro _ xs ⟨l, v, rfl⟩; rfl) ⟨_, rfl, ?_⟩
 rintro xs ⟨l, v, rfl⟩ hw
 have hl : l.length ≤ maxLen := by have := hw.1.1; simpa using this
 refine ⟨lb rfl, ?_⟩
 rw [pLV_fn]
 have hΓ := K0n_sound
 repeat refine sq ?_
 refine rs hΓ [0,1] [] ?_
 repeat refine sq ?_
 refine rs hΓ [0,1,7,8,9] [] ?_
 repeat refine sq ?_
 refine cl_block ?_
 repeat refine sq ?_
 refine cl_loop' (fun s : Nat => [(9, ⟨true, .v (vInt s)⟩)]) (fun s => []) (fun s => s ≤ l.length ∧ ∀ j (h : j < l.length), j < s → (l[j] == v) = false) (fun s => l.length - s) 0 ?_ ?_ ?_ ?_
 ·exact ⟨Nat.zero_le _, fun j h hj => by omega⟩
 ·rfl
 ·rfl
 rintro i ⟨hi, hz⟩
 simp only [go_sem]
 repeat refine sq ?_
 refine rs hΓ [0,1,7,8,9,10] [] ?_
 repeat refine sq ?_
 refine cl_cond rfl rfl (fun hb => ?_) fun hb => ?_
 ·have hlt : i < l.length := by simpa using hb
  have hlt' : (i : Int) < l.length := by omega
  clear hb
  repeat refine sq ?_
  refine cl_skip ?_
  repeat refine sq ?_
  refine cl_block ?_
  repeat refine sq ?_
  refine rx hΓ [0,1,6,7,8,9] [] (fun K' hK => by simp only [go_sem, map_getD hlt, Int.toNat_natCast, Int.natCast_nonneg, hlt']; exact fin) ?_
  repeat refine sq ?_
  refine rs hΓ [0,1,6,7,8,9,15] [] ?_
  repeat refine sq ?_
  refine cl_cond rfl rfl (fun hb => ?_) fun hb => ?_
  ·repeat refine sq ?_
   refine rs hΓ [4] [] ?_
   refine cl_ret ?_
   simp only [go_sem]
   have : (l.any fun x => x == v) = true := List.any_eq_true.2 ⟨_, List.getElem_mem hlt, hb⟩
   rw [this]
  ·have hn : (l[i] == v) = false := hb
   clear hb
   repeat refine sq ?_
   refine cl_skip ?_
   refine cl_nil ?_
   simp only [go_sem]
   refine cl_keep [0,1,7,8,9] [] ?_ ?_ <;> simp only [go_sem]
   repeat refine sq ?_
   refine cl_r hΓ fun K' hK => ?_
   simp only [go_sem]
   repeat refine ⟨ob, ?_⟩
   refine hK _ ?_
   clear K' hK
   simp only [go_sem]
   refine ⟨i + 1, ⟨by omega, fun j h hj => ?_⟩, by omega, ?_⟩
   ·rcases Nat.lt_succ_iff_lt_or_eq.1 hj with h1 | h1
    ·exact hz j h h1
    ·subst h1; exact hn
   refine weak_eq [0,1,7,8,9] [] ?_ ?_ <;> simp only [go_sem, wrap_succ hlt hl, Int.natCast_add, Int.natCast_one]
 ·have hge : i = l.length := by
   have : ¬ (i : Int) < l.length := by simpa using hb
   omega
  subst hge
  clear hb
  repeat refine sq ?_
  refine cl_exit ?_
  simp only [go_sem]
  refine cl_keep [] [] ?_ ?_ <;> simp only [go_sem]
  repeat refine sq ?_
  refine rs hΓ [4] [] ?_
  refine cl_ret ?_
  simp only [go_sem]
  have : (l.any fun x => x == v) = false := by
   rw [List.any_eq_false]
   intro x hx
   obtain ⟨j, hj, rfl⟩ := List.getElem_of_mem hx
   rw [hz j hj hj]
   exact Bool.false_ne_true
  rw [this]
def hapL (p : Deed → Bool) (c : List Deed) (ds : List Int) (day : Int) : List Deed := ((c.zip ds).filter fun x => p x.1 && decide (x.2 ≤ day)).map (·.1)
def thenS (c : List Deed) (ds : List Int) (lo pe day : Int) : Sta := (hapL (fun d => isOfB d lo pe) c ds day).foldl (fun s d => doS d.ki s d.pe) zeroS
def wasB (c : List Deed) (ds : List Int) (ps : List Int) (day : Int) : Bool :=
 threeB [thenS c ds 1 0 day, thenS c ds 2 0 day, thenS c ds 3 0 day] ps && [thenS c ds 1 0 day, thenS c ds 2 0 day, thenS c ds 3 0 day].all fun s => (thenS c ds 0 s.h day).o
theorem getD_at {α : Type} {l : List α} {d : α} {i : Nat} (h : i < l.length) : l.getD i d = l[i] := by simp [List.getD_eq_getElem?_getD, h]
def thenT (c : List Deed) (ds : List Int) (lo pe day : Int) (s : Nat) : Sta := thenS (c.take s) (ds.take s) lo pe day
theorem zip_take' {α β : Type} (c : List α) (ds : List β) (s : Nat) : (c.take s).zip (ds.take s) = (c.zip ds).take s := by
 rw [List.zip_eq_zipWith, List.zip_eq_zipWith, List.take_zipWith]
theorem thenT_next {c : List Deed} {ds : List Int} {lo pe day : Int} {s : Nat} (h : s < c.length) (h' : s < ds.length) :
  thenT c ds lo pe day (s + 1) = if isOfB c[s] lo pe && decide (ds[s] ≤ day) then doS c[s].ki (thenT c ds lo pe day s) c[s].pe else thenT c ds lo pe day s := by
 unfold thenT thenS hapL
 rw [zip_take', zip_take', List.take_add_one, List.getElem?_eq_getElem (by rw [List.length_zip]; omega), List.filter_append, List.map_append, List.foldl_append]
 simp only [List.getElem_zip, Option.toList_some, List.filter_cons, List.filter_nil]
 split <;> rfl
theorem thenT_all {c : List Deed} {ds : List Int} (h : ds.length = c.length) (lo pe day : Int) : thenT c ds lo pe day c.length = thenS c ds lo pe day := by
 unfold thenT
 rw [List.take_length, ← h, List.take_length]
def pThen : PSpec := ⟨fun xs => ∃ (c : List Deed) (day : Int) (ds : List Int) (lo pe : Int), xs = [.agg [.sl (c.map encD), vInt day], .sl (ds.map vInt), vInt lo, vInt pe] ∧ ds.length = c.length ∧ c.length ≤ 60 ∧ ∀ d ∈ c, kindOk d,
 fun xs => match xs with | [.agg [.sl c, .int _ day], .sl ds, .int _ lo, .int _ pe] => encS (thenS (c.map decD) (ds.map decI) lo pe day) | _ => .bool false, true⟩
theorem pThen_fn (c : List Deed) (day : Int) (ds : List Int) (lo pe : Int) : pThen.fn [.agg [.sl (c.map encD), vInt day], .sl (ds.map vInt), vInt lo, vInt pe] = encS (thenS c ds lo pe day) := by
 simp only [pThen, decD_map, decI_map]
noncomputable def sThen : Spec := pThen.toSpec
theorem sThen_app {obj : Name → Option O} {t : Name} {c : List Deed} {day : Int} {ds : List Int} {lo pe : Int} (h : ds.length = c.length) (hl : c.length ≤ 60) (hk : ∀ d ∈ c, kindOk d) :
  sThen.app obj t [.agg [.v (.sl (c.map encD)), .v (vInt day)], .v (.sl (ds.map vInt)), .v (vInt lo), .v (vInt pe)] = ⟨True, .v (encS (thenS c ds lo pe day)), obj⟩ := by
 simp only [sThen, PSpec.toSpec, frz_op (r := [.v (.sl (ds.map vInt)), .v (vInt lo), .v (vInt pe)]) (xs := [.sl (ds.map vInt), vInt lo, vInt pe]) (obj := obj) (by simp [frzL, frz]), pThen_fn]
 simp only [pThen, if_true]
 congr 1
 simp only [eq_iff_iff, iff_true]
 exact ⟨trivial, c, day, ds, lo, pe, rfl, h, hl, hk⟩
noncomputable def K100 : FuncId → Option Spec := fun f => match f with
 | 144 => some (sDII fun d k j => .bool (isOfB d k j))
 | f => K45 f
theorem K100_sound : ∀ f s, K100 f = some s → SSound Tryz.prog f s := by
 intro f s h
 unfold K100 at h
 split at h
 ·cases h; exact s144.sound
 ·exact K45_sound _ _ h
@[go_sem] theorem K100_144 : K100 144 = some (sDII fun d k j => .bool (isOfB d k j)) := rfl
@[go_sem] theorem K100_156 : K100 156 = some sDoes := rfl
theorem does_at2 {k : Int} (h : 1 ≤ k ∧ k ≤ 6) : ∃ g, mget doesM (vInt k) = some (.clo (.func g) [] []) ∧ K100 g = some (sSt (doS k)) ∧ ¬ g = 1000000000 := by
 obtain ⟨h1, h2⟩ := h
 have : k = 1 ∨ k = 2 ∨ k = 3 ∨ k = 4 ∨ k = 5 ∨ k = 6 := by omega
 rcases this with rfl | rfl | rfl | rfl | rfl | rfl
 ·exact ⟨170, rfl, rfl, by decide⟩
 ·exact ⟨171, rfl, rfl, by decide⟩
 ·exact ⟨172, rfl, rfl, by decide⟩
 ·exact ⟨173, rfl, rfl, by decide⟩
 ·exact ⟨174, rfl, rfl, by decide⟩
 ·exact ⟨175, rfl, rfl, by decide⟩
set_option maxHeartbeats 16000000 in
theorem s121 : PSound Tryz.prog 121 pThen := by
 refine psoundB (rs := [.cell 8 137]) Tryz.func121 Tryz.ntmps121 (by rfl) (by kernel_rfl) (by decide) (by rintro _ xs ⟨c, day, ds, lo, pe, rfl, _⟩; rfl) ⟨_, rfl, ?_⟩
 rintro xs ⟨c, day, ds, lo, pe, rfl, hds, hc60, hk⟩ hw
 refine ⟨lb rfl, ?_⟩
 rw [pThen_fn, ← thenT_all hds]
 have hΓ := K100_sound
 have hP := mixedK
 have hcm : c.length ≤ maxLen := by unfold maxLen; omega
 repeat refine sq ?_
 refine rx hΓ [1,2,3,4,8] [[4, 0],[8, 0]] (fun K' hK => by simp only [go_sem, tz137]; exact fin) ?_
 repeat refine sq ?_
 refine rx hΓ [1,2,3,4,8,9] [[4, 0],[8, 0],[9, 0]] (fun K' hK => by simp only [go_sem, tz137]; exact fin) ?_
 repeat refine sq ?_
 refine rx hΓ [1,2,3,4,8,9,10] [[4, 0],[8, 0],[9, 0],[1, 0, 13, 0]] (fun K' hK => by simp only [go_sem, sDoes_app]; exact fin) ?_
 repeat refine sq ?_
 refine rs hΓ [1,2,3,4,8,9,10,15,16,17] [[4, 0],[8, 0],[9, 0],[1, 0, 13, 0]] ?_
 repeat refine sq ?_
 refine cl_block ?_
 repeat refine sq ?_
 refine cl_loop' (fun s : Nat => [(17, ⟨true, .v (vInt s)⟩)]) (fun s => [([9, 0], .box [.v (vInt (thenT c ds lo pe day s).h), .v (vInt (thenT c ds lo pe day s).n), .v (.bool (thenT c ds lo pe day s).o)])]) (fun s => s ≤ c.length) (fun s => c.length - s) 0 ?_ ?_ ?_ ?_
 ·exact Nat.zero_le _
 ·rfl
 ·rfl
 rintro i hi
 simp only [go_sem]
 repeat refine sq ?_
 refine rs hΓ [1,2,3,4,8,9,10,15,16,17,18] [[4, 0],[8, 0],[9, 0],[1, 0, 13, 0]] ?_
 repeat refine sq ?_
 refine cl_cond rfl rfl (fun hb => ?_) fun hb => ?_
 ·have hlt : i < c.length := by simpa using hb
  have hlt' : (i : Int) < c.length := by omega
  clear hb
  repeat refine sq ?_
  refine cl_skip ?_
  repeat refine sq ?_
  refine cl_block ?_
  repeat refine sq ?_
  have hd : i < ds.length := by omega
  have hd' : (i : Int) < ds.length := by omega
  have hnx := thenT_next (lo := lo) (pe := pe) (day := day) hlt hd
  repeat refine sq ?_
  refine rx hΓ [1,2,3,4,8,9,10,11,12,15,16,17] [[4, 0],[8, 0],[9, 0],[12, 0],[1, 0, 13, 0]] (fun K' hK => by simp only [go_sem, map_getD hlt, Int.toNat_natCast, Int.natCast_nonneg, hlt']; exact fin) ?_
  have hcc := fun (g : Deed → Int → Int → V) (obj : Name → Option O) (t : Name) (n m : Int) => sDII_app (g := g) (obj := obj) (t := t) (k := n) (j := m) (d := c[i]) (dx := rdD c[i]) rfl
  unfold rdD at hcc
  obtain ⟨T, hT⟩ : ∃ T, T = thenT c ds lo pe day i := ⟨_, rfl⟩
  rw [← hT] at hnx ⊢
  repeat refine sq ?_
  refine cl_dw hΓ hP [[], [], [], [0, 1, 2], [0, 1, 2, 3], [0, 1, 2, 3, 4], [0, 1, 2, 3, 4], [0, 1, 2, 3, 4, 5, 6], [0, 1, 2, 3, 4, 5, 6, 7], [0, 1, 2, 3, 4], [0, 1, 2, 3, 4, 9], [0, 1, 2, 3, 4, 5, 6, 7, 8, 9, 10], [0, 1, 2, 3, 4, 5, 6, 7, 8, 9, 10, 11]] (mkS 45 [0] (fun _ => none) [(1, ⟨true, .v (.sl (ds.map vInt))⟩), (2, ⟨true, .v (vInt lo)⟩), (3, ⟨true, .v (vInt pe)⟩), (4, ⟨true, .ref [4, 0] 0⟩), (8, ⟨true, .ref [8, 0] 0⟩), (9, ⟨true, .ref [9, 0] 0⟩), (10, ⟨true, .map [1, 0, 13, 0]⟩), (12, ⟨true, .ref [12, 0] 0⟩), (15, ⟨true, .v (.sl (c.map encD))⟩), (16, ⟨true, .v (vInt c.length)⟩), (17, ⟨true, .v (vInt i)⟩), (34, ⟨true, .v (.bool (isOfB c[i] lo pe && decide (ds[i] ≤ day)))⟩)]
   [([4, 0], .box [.v (.sl (c.map encD)), .v (vInt day)]), ([8, 0], .box [.v (vInt 0), .v (vInt 0), .v (.bool false)]), ([9, 0], .box [.v (vInt T.h), .v (vInt T.n), .v (.bool T.o)]), ([12, 0], .box (rdD c[i]).cells), ([1, 0, 13, 0], .map 0 doesM)]) (by kernel_rfl) ?_ fun K' hK => ?_
  rotate_left
  ·cases hq : isOfB c[i] lo pe with
   | true =>
    simp only [go_sem, hcc, hq, map_getD hd, Int.toNat_natCast, Int.natCast_nonneg, hd']
    repeat refine ⟨ob, ?_⟩
    first | refine ⟨by rfl, ?_⟩ | skip
    refine hK _ (weakM_keep [1,2,3,4,8,9,10,12,15,16,17,34] [[4, 0],[8, 0],[9, 0],[12, 0],[1, 0, 13, 0]] ?_ ?_)
    ·simp only [go_sem]
    ·simp only [go_sem, rdD, Bool.true_and, hq]
   | false =>
    simp only [go_sem, hcc, hq]
    repeat refine ⟨ob, ?_⟩
    first | refine ⟨by rfl, ?_⟩ | skip
    refine hK _ (weakM_keep [1,2,3,4,8,9,10,12,15,16,17,34] [[4, 0],[8, 0],[9, 0],[12, 0],[1, 0, 13, 0]] ?_ ?_)
    ·simp only [go_sem]
    ·simp only [go_sem, rdD, Bool.false_and, hq]
  simp only [go_sem, rdD]
  repeat refine sq ?_
  refine cl_cond rfl rfl (fun hb => ?_) fun hb => ?_
  ·rw [if_pos hb] at hnx
   obtain ⟨g, hg1, hg2, hg3⟩ := does_at2 (hk _ (List.getElem_mem hlt))
   repeat refine sq ?_
   refine cl_r hΓ fun K' hK => ?_
   simp only [go_sem, tz185, hg1, hg2, hg3, keyIs, Option.getD_some, sSt_app, encS]
   repeat refine ⟨ob, ?_⟩
   refine hK _ ?_
   clear K' hK
   simp only [go_sem]
   refine cl_keep [1,2,3,4,8,9,10,15,16,17] [[4, 0],[8, 0],[9, 0],[1, 0, 13, 0]] ?_ ?_ <;> simp only [go_sem]
   repeat refine sq ?_
   refine cl_r hΓ fun K' hK => ?_
   simp only [go_sem]
   repeat refine ⟨ob, ?_⟩
   refine hK _ ?_
   clear K' hK
   simp only [go_sem]
   refine ⟨i + 1, hlt, (show c.length - (i + 1) < c.length - i by omega), ?_⟩
   rw [hnx]
   refine weak_eq [1,2,3,4,8,9,10,15,16,17] [[4, 0],[8, 0],[9, 0],[1, 0, 13, 0]] ?_ ?_ <;> simp only [go_sem, wrap_succ hlt hcm, Int.natCast_add, Int.natCast_one]
  ·rw [if_neg (by simp [hb])] at hnx
   repeat refine sq ?_
   refine cl_skip ?_
   refine cl_nil ?_
   simp only [go_sem]
   refine cl_keep [1,2,3,4,8,9,10,15,16,17] [[4, 0],[8, 0],[9, 0],[1, 0, 13, 0]] ?_ ?_ <;> simp only [go_sem]
   repeat refine sq ?_
   refine cl_r hΓ fun K' hK => ?_
   simp only [go_sem]
   repeat refine ⟨ob, ?_⟩
   refine hK _ ?_
   clear K' hK
   simp only [go_sem]
   refine ⟨i + 1, hlt, (show c.length - (i + 1) < c.length - i by omega), ?_⟩
   rw [hnx]
   refine weak_eq [1,2,3,4,8,9,10,15,16,17] [[4, 0],[8, 0],[9, 0],[1, 0, 13, 0]] ?_ ?_ <;> simp only [go_sem, wrap_succ hlt hcm, Int.natCast_add, Int.natCast_one]
 ·have hge : i = c.length := by
   have : ¬ (i : Int) < c.length := by simpa using hb
   omega
  subst hge
  clear hb
  repeat refine sq ?_
  refine cl_exit ?_
  simp only [go_sem]
  refine cl_keep [8,9] [[8, 0],[9, 0]] ?_ ?_ <;> simp only [go_sem]
  repeat refine sq ?_
  refine rx hΓ [8] [[8, 0]] (fun K' hK => by simp only [go_sem, tp137, Nat.reduceLeDiff, Nat.le_refl]; exact fin) ?_
  refine cl_ret ?_
  simp only [go_sem, encS]
  all_goals first | done | rfl | exact ⟨by decide, rfl⟩ | exact ⟨by decide, trivial⟩ | decide
def cntB (s k : Nat) (v : Bool) : Bool := if k < s then v else false
@[go_sem] theorem cntB_0 (k : Nat) (v : Bool) : cntB 0 k v = false := rfl
@[go_sem] theorem cntB_10 (v : Bool) : cntB 1 0 v = v := rfl
@[go_sem] theorem cntB_11 (v : Bool) : cntB 1 1 v = false := rfl
@[go_sem] theorem cntB_12 (v : Bool) : cntB 1 2 v = false := rfl
@[go_sem] theorem cntB_20 (v : Bool) : cntB 2 0 v = v := rfl
@[go_sem] theorem cntB_21 (v : Bool) : cntB 2 1 v = v := rfl
@[go_sem] theorem cntB_22 (v : Bool) : cntB 2 2 v = false := rfl
@[go_sem] theorem cntB_30 (v : Bool) : cntB 3 0 v = v := rfl
@[go_sem] theorem cntB_31 (v : Bool) : cntB 3 1 v = v := rfl
@[go_sem] theorem cntB_32 (v : Bool) : cntB 3 2 v = v := rfl
noncomputable def trE (l : List Deed) (ps ds : List Int) (day k : Int) : Int := if openE l ps day k = 0 then (if trueB q1 (countL l k) ds then 0 else 17) else openE l ps day k
noncomputable def trA (l : List Deed) (ps ds : List Int) (day k : Int) : Bool := if trE l ps ds day k = 0 then wasB (countL l k) ds ps day else false
def pTrue (f : List Deed → List Int → List Int → Int → Int → V) : PSpec := ⟨fun xs => ∃ (l : List Deed) (ps ds : List Int) (a b : Int), xs = [.sl (l.map encD), .sl (ps.map vInt), .sl (ds.map vInt), vInt a, vInt b], fun xs => match xs with | [.sl l, .sl ps, .sl ds, .int _ a, .int _ b] => f (l.map decD) (ps.map decI) (ds.map decI) a b | _ => .bool false, true⟩
theorem pTrue_fn (f : List Deed → List Int → List Int → Int → Int → V) (l : List Deed) (ps ds : List Int) (a b : Int) : (pTrue f).fn [.sl (l.map encD), .sl (ps.map vInt), .sl (ds.map vInt), vInt a, vInt b] = f l ps ds a b := by
 simp only [pTrue, decD_map, decI_map]
noncomputable def sTrue (f : List Deed → List Int → List Int → Int → Int → V) : Spec := (pTrue f).toSpec
theorem sTrue_app {f : List Deed → List Int → List Int → Int → Int → V} {obj : Name → Option O} {t : Name} {l : List Deed} {ps ds : List Int} {a b : Int} : (sTrue f).app obj t [.v (.sl (l.map encD)), .v (.sl (ps.map vInt)), .v (.sl (ds.map vInt)), .v (vInt a), .v (vInt b)] = ⟨True, .v (f l ps ds a b), obj⟩ := by
 simp only [sTrue, PSpec.toSpec, frzL, frz, pTrue_fn, ite_self]
 simp only [pTrue, if_true]
 congr 1
 simp only [eq_iff_iff, iff_true]
 exact ⟨⟨trivial, trivial, trivial, trivial, trivial, trivial⟩, l, ps, ds, a, b, rfl⟩
noncomputable def K101 : FuncId → Option Spec := fun f => match f with
 | 82 => some (sLPI openV false)
 | 118 => some (sDays2 fun c ds => .bool (trueB q1 c ds))
 | 121 => some sThen
 | 122 => some sThree
 | _ => none
theorem K101_sound : ∀ f s, K101 f = some s → SSound Tryz.prog f s := by
 intro f s h
 unfold K101 at h
 split at h
 ·cases h; exact s82.sound
 ·cases h; exact s118.sound
 ·cases h; exact s121.sound
 ·cases h; exact s122.sound
 ·cases h
@[go_sem] theorem K101_82 : K101 82 = some (sLPI openV false) := rfl
@[go_sem] theorem K101_118 : K101 118 = some (sDays2 fun c ds => .bool (trueB q1 c ds)) := rfl
@[go_sem] theorem K101_121 : K101 121 = some sThen := rfl
@[go_sem] theorem K101_122 : K101 122 = some sThree := rfl
set_option maxHeartbeats 16000000 in
theorem s60 : PSound Tryz.prog 60 (pTrue fun l ps ds day k => .tup [.bool (trA l ps ds day k), vInt (trE l ps ds day k)]) := by
 refine psoundB (rs := [.tmp 10, .tmp 11]) Tryz.func60 Tryz.ntmps60 (by rfl) (by kernel_rfl) (by decide) (by rintro _ xs ⟨l, ps, ds, a, b, rfl⟩; rw [pTrue_fn]; rfl) ⟨_, rfl, ?_⟩
 rintro xs ⟨l, ps, ds, day, k, rfl⟩ hw
 refine ⟨lb rfl, ?_⟩
 rw [pTrue_fn]
 have hΓ := K101_sound
 repeat refine sq ?_
 refine rs hΓ [0,1,2,3,4] [] ?_
 by_cases ho : openE l ps day k = 0
 rotate_left
 ·have hov : openV l ps day k = .tup [.agg [.sl [], vInt 0], vInt (openE l ps day k)] := by unfold openV; rw [if_neg ho]
  have het : trE l ps ds day k = openE l ps day k := by unfold trE; rw [if_neg ho]
  have hA : trA l ps ds day k = false := by unfold trA; rw [het, if_neg ho]
  rw [het, hA]
  repeat refine sq ?_
  refine rx hΓ [13] [] (fun K' hK => by simp only [go_sem, sLPI_app, hov, tz111, tp111, Nat.reduceLeDiff, Nat.le_refl]; exact fin) ?_
  repeat refine sq ?_
  refine rs hΓ [13,28] [] ?_
  repeat refine sq ?_
  refine cl_cond rfl rfl (fun hb => ?_) fun hb => ?_
  ·repeat refine sq ?_
   refine rs hΓ [10,11] [] ?_
   exact rt
  ·exact (ho (by simpa using hb)).elim
 obtain ⟨hz, har, hdz⟩ := openE_ok ho
 have hov : openV l ps day k = .tup [.agg [.sl ((countL l k).map encD), vInt day], vInt 0] := by unfold openV; rw [if_pos ho]
 have hok := days_ok hdz
 have hc60 : (countL l k).length ≤ 60 := by have := countL_len l k; have := hok.2.2; omega
 have hkc : ∀ d ∈ countL l k, kindOk d := fun d hd => kind_of (countL_valid hok k d hd)
 have het : trE l ps ds day k = if trueB q1 (countL l k) ds then 0 else 17 := by unfold trE; rw [if_pos ho]
 obtain ⟨c, hcd⟩ : ∃ c, c = countL l k := ⟨_, rfl⟩
 rw [← hcd] at hov hc60 hkc het
 repeat refine sq ?_
 refine rx hΓ [1,2,12,13] [[12, 0]] (fun K' hK => by simp only [go_sem, sLPI_app, hov, tz111, tp111, Nat.reduceLeDiff, Nat.le_refl]; exact fin) ?_
 repeat refine sq ?_
 refine rs hΓ [1,2,12,13,28] [[12, 0]] ?_
 repeat refine sq ?_
 refine cl_cond rfl rfl (fun hb => ?_) fun hb => ?_
 ·simp at hb
 repeat refine sq ?_
 refine cl_skip ?_
 repeat refine sq ?_
 refine rx hΓ [1,2,12,34] [[12, 0]] (fun K' hK => by simp only [go_sem, sDays2_app]; exact fin) ?_
 repeat refine sq ?_
 refine cl_cond rfl rfl (fun hb => ?_) fun hb => ?_
 ·have ht : trueB q1 c ds = false := by simpa using hb
  have hA : trA l ps ds day k = false := by unfold trA; rw [het, ht]; rfl
  rw [hA, het, ht]
  repeat refine sq ?_
  refine rs hΓ [10,11] [] ?_
  exact rt
 have ht : trueB q1 c ds = true := by simpa using hb
 have hds : ds.length = c.length := by
  unfold trueB at ht
  simp only [decide_eq_true_eq] at ht
  exact ht.1
 have hA : trA l ps ds day k = wasB c ds ps day := by unfold trA; rw [het, if_pos ht, if_pos rfl, ← hcd]
 rw [hA, het, if_pos ht]
 clear hb ht
 repeat refine sq ?_
 refine cl_skip ?_
 have hth := fun (obj : Name → Option O) (t : Name) (lo pe : Int) => sThen_app (obj := obj) (t := t) (day := day) (ds := ds) (lo := lo) (pe := pe) hds hc60 hkc
 obtain ⟨x, hx⟩ : ∃ x, x = thenS c ds 1 0 day := ⟨_, rfl⟩
 obtain ⟨y, hy⟩ : ∃ x, x = thenS c ds 2 0 day := ⟨_, rfl⟩
 obtain ⟨z, hz⟩ : ∃ x, x = thenS c ds 3 0 day := ⟨_, rfl⟩
 obtain ⟨L, hL⟩ : ∃ L : List Sta, L = [x, y, z] := ⟨_, rfl⟩
 have hwas : wasB c ds ps day = (threeB L ps && L.all fun s => (thenS c ds 0 s.h day).o) := by unfold wasB; rw [hL, hx, hy, hz]
 rw [hwas]
 repeat refine sq ?_
 refine rx hΓ [1,2,12,14] [[12, 0],[14, 0]] (fun K' hK => by simp only [go_sem, tz152]; exact fin) ?_
 repeat refine sq ?_
 refine rs hΓ [1,2,12,14,35] [[12, 0],[14, 0]] ?_
 repeat refine sq ?_
 refine cl_block ?_
 repeat refine sq ?_
 refine cl_loop' (fun s : Nat => [(35, ⟨true, .v (vInt s)⟩)]) (fun s => [([14, 0], .box [.v (vInt 0), .v (vInt 0), .v (vInt 0), .v (vInt 0), .v (vInt 0), .v (vInt 0), .v (vInt (cnt s 0 x.h)), .v (vInt (cnt s 0 x.n)), .v (.bool (cntB s 0 x.o)), .v (vInt (cnt s 1 y.h)), .v (vInt (cnt s 1 y.n)), .v (.bool (cntB s 1 y.o)), .v (vInt (cnt s 2 z.h)), .v (vInt (cnt s 2 z.n)), .v (.bool (cntB s 2 z.o))])]) (fun s => s ≤ 3) (fun s => 3 - s) 0 ?_ ?_ ?_ ?_
 ·exact Nat.zero_le _
 ·rfl
 ·rfl
 intro i hi
 simp only [go_sem]
 repeat refine sq ?_
 refine rs hΓ [1,2,12,14,35,36] [[12, 0],[14, 0]] ?_
 repeat refine sq ?_
 refine cl_cond rfl rfl (fun hb => ?_) fun hb => ?_
 ·have hlt : i < 3 := by
   have : (i : Int) < 3 := by simpa using hb
   omega
  have hws : IntKind.i64.wrap ((i : Int) + 1) = ((i + 1 : Nat) : Int) := wrap_succ (n := 3) hlt (by unfold maxLen; omega)
  clear hb
  repeat refine sq ?_
  refine cl_skip ?_
  repeat refine sq ?_
  refine cl_block ?_
  repeat refine sq ?_
  have hi3 : i = 0 ∨ i = 1 ∨ i = 2 := by omega
  have h3 : (i : Int) < 3 := by omega
  repeat refine sq ?_
  refine rs hΓ [1,2,12,14,15,35] [[12, 0],[14, 0]] ?_
  obtain ⟨h, n, o, hs⟩ : ∃ h n o, thenS c ds ((i + 1 : Nat) : Int) 0 day = ⟨h, n, o⟩ := ⟨_, _, _, rfl⟩
  have hti := fun (obj : Name → Option O) (t : Name) => hth obj t ((i + 1 : Nat) : Int) 0
  simp only [hs, encS] at hti
  repeat refine sq ?_
  refine cl_rwE hΓ (mkS 66 [0] (fun _ => none) [(1, ⟨true, .v (.sl (ps.map vInt))⟩), (2, ⟨true, .v (.sl (ds.map vInt))⟩), (12, ⟨true, .ref [12, 0] 0⟩), (14, ⟨true, .ref [14, 0] 0⟩), (35, ⟨true, .v (vInt i)⟩)] [([12, 0], .box [.v (.sl (c.map encD)), .v (vInt day)]), ([14, 0], .box [.v (vInt 0), .v (vInt 0), .v (vInt 0), .v (vInt 0), .v (vInt 0), .v (vInt 0), .v (vInt (cnt (i + 1) 0 x.h)), .v (vInt (cnt (i + 1) 0 x.n)), .v (.bool (cntB (i + 1) 0 x.o)), .v (vInt (cnt (i + 1) 1 y.h)), .v (vInt (cnt (i + 1) 1 y.n)), .v (.bool (cntB (i + 1) 1 y.o)), .v (vInt (cnt (i + 1) 2 z.h)), .v (vInt (cnt (i + 1) 2 z.n)), .v (.bool (cntB (i + 1) 2 z.o))])]) (fun _ h => h) ?_ fun K' hK => ?_
  rotate_left
  ·rcases hi3 with rfl | rfl | rfl
   all_goals
    first
     | (have e : (⟨h, n, o⟩ : Sta) = x := by rw [hx, ← hs]; rfl)
     | (have e : (⟨h, n, o⟩ : Sta) = y := by rw [hy, ← hs]; rfl)
     | (have e : (⟨h, n, o⟩ : Sta) = z := by rw [hz, ← hs]; rfl)
    subst e
    simp only [go_sem, hws, hti, tf152_2, tr150, tp137, Nat.reduceLeDiff, Nat.le_refl, Int.toNat_natCast, Int.natCast_nonneg, h3]
    repeat refine ⟨ob, ?_⟩
    refine hK _ (weakM_keep [1,2,12,14,35] [[12, 0],[14, 0]] ?_ ?_)
    ·simp only [go_sem]
    ·simp only [go_sem, Nat.reduceAdd]
  repeat refine sq ?_
  refine cl_r hΓ fun K' hK => ?_
  simp only [go_sem]
  repeat refine ⟨ob, ?_⟩
  refine hK _ ?_
  clear K' hK
  simp only [go_sem]
  refine ⟨i + 1, by omega, by omega, ?_⟩
  refine weak_eq [1,2,12,14,35] [[12, 0],[14, 0]] ?_ ?_ <;> simp only [go_sem, hws, Int.natCast_add, Int.natCast_one]
 have hge : i = 3 := by
  have : ¬ (i : Int) < 3 := by simpa using hb
  omega
 subst hge
 clear hb
 repeat refine sq ?_
 refine cl_exit ?_
 simp only [go_sem]
 refine cl_keep [1,2,12,14] [[12, 0],[14, 0]] ?_ ?_ <;> simp only [go_sem]
 repeat refine sq ?_
 refine rx hΓ [2,12,14,16] [[12, 0],[14, 0]] (fun K' hK => by simp only [go_sem, sThree_app]; exact fin) ?_
 rw [show threeB [⟨x.h, x.n, x.o⟩, ⟨y.h, y.n, y.o⟩, ⟨z.h, z.n, z.o⟩] ps = threeB L ps by rw [hL]]
 generalize threeB L ps = b0
 repeat refine sq ?_
 refine rx hΓ [2,12,16,51,52] [[12, 0]] (fun K' hK => by simp only [go_sem, tp150, tf152_2, tr150]; exact fin) ?_
 have hL3 : L.length = 3 := by rw [hL]; rfl
 repeat refine sq ?_
 refine cl_block ?_
 repeat refine sq ?_
 refine cl_loop' (fun s : Nat => [(16, ⟨true, .v (.bool (b0 && (L.take s).all fun s => (thenS c ds 0 s.h day).o))⟩), (52, ⟨true, .v (vInt s)⟩)]) (fun s => []) (fun s => s ≤ 3) (fun s => 3 - s) 0 ?_ ?_ ?_ ?_
 ·exact Nat.zero_le _
 ·simp only [List.take_zero, List.all_nil, Bool.and_true]
  rfl
 ·rfl
 intro i hi
 simp only [go_sem]
 repeat refine sq ?_
 refine rs hΓ [2,12,16,51,52,53] [[12, 0]] ?_
 repeat refine sq ?_
 refine cl_cond rfl rfl (fun hb => ?_) fun hb => ?_
 ·have hlt : i < 3 := by
   have : (i : Int) < 3 := by simpa using hb
   omega
  have hws : IntKind.i64.wrap ((i : Int) + 1) = ((i + 1 : Nat) : Int) := wrap_succ (n := 3) hlt (by unfold maxLen; omega)
  clear hb
  repeat refine sq ?_
  refine cl_skip ?_
  repeat refine sq ?_
  refine cl_block ?_
  repeat refine sq ?_
  have hi3 : i = 0 ∨ i = 1 ∨ i = 2 := by omega
  have h3 : (i : Int) < 3 := by omega
  obtain ⟨h, n, o, hs⟩ : ∃ h n o, L.getD i zeroS = ⟨h, n, o⟩ := ⟨_, _, _, rfl⟩
  have hnx : ((L.take (i + 1)).all fun s => (thenS c ds 0 s.h day).o) = (((L.take i).all fun s => (thenS c ds 0 s.h day).o) && (thenS c ds 0 h day).o) := by
   have e : L[i]'(by omega) = ⟨h, n, o⟩ := by rw [← hs, getD_at (by omega : i < L.length)]
   rw [List.take_add_one, List.getElem?_eq_getElem (by omega : i < L.length), e, List.all_append]
   simp
  generalize ((L.take i).all fun s => (thenS c ds 0 s.h day).o) = b1 at hnx ⊢
  have hb1 : ∀ b : Bool, (b0 && b1 && b) = (b0 && (b1 && b)) := fun b => Bool.and_assoc ..
  obtain ⟨bb, hbb⟩ : ∃ bb, bb = (b0 && b1) := ⟨_, rfl⟩
  rw [← hbb] at hb1 ⊢
  refine cl_rw hΓ (mkS 66 [0] (fun _ => none) [(2, ⟨true, .v (.sl (ds.map vInt))⟩), (12, ⟨true, .ref [12, 0] 0⟩), (16, ⟨true, .v (.bool bb)⟩), (18, ⟨true, .ref [18, 0] 0⟩), (51, ⟨true, .agg [.v (vInt x.h), .v (vInt x.n), .v (.bool x.o), .v (vInt y.h), .v (vInt y.n), .v (.bool y.o), .v (vInt z.h), .v (vInt z.n), .v (.bool z.o)]⟩), (52, ⟨true, .v (vInt i)⟩)] [([12, 0], .box [.v (.sl (c.map encD)), .v (vInt day)]), ([18, 0], .box [.v (vInt h), .v (vInt n), .v (.bool o)])]) ?_ fun K' hK => ?_
  rotate_left
  ·rcases hi3 with rfl | rfl | rfl
   all_goals
    rw [hL] at hs
    simp only [List.getD_cons_zero, List.getD_cons_succ, Sta.mk.injEq] at hs
    obtain ⟨rfl, rfl, rfl⟩ := hs
    simp only [go_sem, tz137, tp137, Nat.reduceLeDiff, Nat.le_refl, Int.toNat_natCast, Int.natCast_nonneg, h3]
    repeat refine ⟨ob, ?_⟩
    refine hK _ (weakM_keep [2,12,16,18,51,52] [[12, 0], [18, 0]] ?_ ?_)
    ·simp only [go_sem]
    ·simp only [go_sem]
  have hti := fun (obj : Name → Option O) (t : Name) => hth obj t 0 h
  obtain ⟨h', n', o', hs'⟩ : ∃ h' n' o', thenS c ds 0 h day = ⟨h', n', o'⟩ := ⟨_, _, _, rfl⟩
  simp only [hs', encS] at hti hnx
  repeat refine sq ?_
  refine cl_rwE hΓ (mkS 66 [0] (fun _ => none) [(2, ⟨true, .v (.sl (ds.map vInt))⟩), (12, ⟨true, .ref [12, 0] 0⟩), (16, ⟨true, .v (.bool (b0 && (b1 && o')))⟩), (51, ⟨true, .agg [.v (vInt x.h), .v (vInt x.n), .v (.bool x.o), .v (vInt y.h), .v (vInt y.n), .v (.bool y.o), .v (vInt z.h), .v (vInt z.n), .v (.bool z.o)]⟩), (52, ⟨true, .v (vInt i)⟩)] [([12, 0], .box [.v (.sl (c.map encD)), .v (vInt day)])]) (fun _ h => h) ?_ fun K' hK => ?_
  rotate_left
  ·rw [← hb1 o'] at hK
   cases bb
   ·simp only [go_sem]
    repeat refine ⟨ob, ?_⟩
    refine hK _ (weakM_keep [2,12,16,51,52] [[12, 0]] ?_ ?_)
    ·simp only [go_sem]
    ·simp only [go_sem, Bool.false_and]
   ·simp only [go_sem, hti]
    repeat refine ⟨ob, ?_⟩
    refine hK _ (weakM_keep [2,12,16,51,52] [[12, 0]] ?_ ?_)
    ·simp only [go_sem]
    ·simp only [go_sem, Bool.true_and]
  repeat refine sq ?_
  refine cl_r hΓ fun K' hK => ?_
  simp only [go_sem]
  repeat refine ⟨ob, ?_⟩
  refine hK _ ?_
  clear K' hK
  simp only [go_sem]
  refine ⟨i + 1, by omega, by omega, ?_⟩
  rw [hnx]
  refine weak_eq [2,12,16,51,52] [[12, 0]] ?_ ?_ <;> simp only [go_sem, hws, Int.natCast_add, Int.natCast_one]
 have hge : i = 3 := by
  have : ¬ (i : Int) < 3 := by simpa using hb
  omega
 subst hge
 clear hb
 repeat refine sq ?_
 refine cl_exit ?_
 simp only [go_sem]
 refine cl_keep [16] [] ?_ ?_ <;> simp only [go_sem]
 rw [List.take_of_length_le (by omega : L.length ≤ 3)]
 repeat refine sq ?_
 refine rs hΓ [10,11] [] ?_
 exact rt
theorem cl_condJ {P : Program} {c : Operand} {x y c2 : Code} {r : List Code} {σ : S} {K : Exit → S → Prop} {b : Bool} (τ : S) (hc : opC σ c = true) (hd : opD σ c = .v (.bool b))
  (ht : b = true → CL P [x] σ (thenK (fun σ' => WeakM σ' τ) K)) (hf : b = false → CL P [y] σ (thenK (fun σ' => WeakM σ' τ) K)) (h : CL P (c2 :: r) τ K) : CL P (.cond c x y :: c2 :: r) σ K := by
 have key : ∀ z, CL P [z] σ (thenK (fun σ' => WeakM σ' τ) K) → CL P (z :: c2 :: r) σ K := fun z hz =>
  CW.mono (cl_of hz) fun e σ' hk => by
   cases e with
   | normal => exact cl_weakM hk h
   | _ => exact hk
 exact cl_cond hc hd (fun hb => key x (ht hb)) fun hb => key y (hf hb)
def pkM (t : List Deed) (many day : Int) (from_ : Int) (i : Nat) : Int := if (t.getD i zeroD).dl > from_ then (t.getD i zeroD).dl else from_
def pkF (t : List Deed) (many day : Int) : Nat → Int
 | 0 => 0
 | i + 1 => if many ≤ i then (if day + 1 > pkM t many day (pkF t many day i) i then day + 1 else pkM t many day (pkF t many day i) i) else pkM t many day (pkF t many day i) i
def pickL (t : List Deed) (many day : Int) : List Int := (List.range t.length).map fun i => pkF t many day (i + 1)
def pPk (f : List Deed → Int → Int → List Int) : PSpec := ⟨fun xs => ∃ (t : List Deed) (m day : Int), xs = [.sl (t.map encD), vInt m, vInt day] ∧ t.length ≤ 60 ∧ 0 ≤ day ∧ day ≤ 100000, fun xs => match xs with | [.sl t, .int _ m, .int _ day] => .sl ((f (t.map decD) m day).map vInt) | _ => .bool false, false⟩
theorem pPk_fn (f : List Deed → Int → Int → List Int) (t : List Deed) (m day : Int) : (pPk f).fn [.sl (t.map encD), vInt m, vInt day] = .sl ((f t m day).map vInt) := by
 simp only [pPk, decD_map]
set_option maxHeartbeats 8000000 in
theorem s161 : PSound Tryz.prog 161 (pPk pickL) := by
 refine psoundB (rs := [.tmp 6]) Tryz.func161 Tryz.ntmps161 (by rfl) (by kernel_rfl) (by decide) (fun h => by cases h) ⟨_, rfl, ?_⟩
 rintro xs ⟨t, many, day, rfl, hl, hd0, hd1⟩ hw
 refine ⟨lb rfl, ?_⟩
 rw [pPk_fn]
 have hΓ := @no_sound Tryz.prog
 have hlm : t.length ≤ maxLen := by unfold maxLen; omega
 have hwd : IntKind.i64.wrap (day + 1) = day + 1 := wrap_i64 (by omega) (by omega)
 repeat refine sq ?_
 refine cl_rs hΓ [0,1,2] [] fun K' hK => ?_
 simp only [go_sem]
 repeat refine ⟨ob, ?_⟩
 refine hK _ ?_ ?_ <;> clear K' hK <;> simp only [go_sem]
 repeat refine sq ?_
 refine cl_rs hΓ [0,1,2,7] [] fun K' hK => ?_
 simp only [go_sem]
 repeat refine ⟨ob, ?_⟩
 refine hK _ ?_ ?_ <;> clear K' hK <;> simp only [go_sem]
 refine cl_weakM (σ' := mkS 36 [0] (fun _ => none) [(0, ⟨true, .v (.sl (t.map encD))⟩), (1, ⟨true, .v (vInt many)⟩), (2, ⟨true, .v (vInt day)⟩), (7, ⟨true, .msl [33, 0] 0⟩)] [([33, 0], .arr 1 [])]) (weakM_ghostk 7 [33, 0] 1 (by simp only [go_sem]) (by simp only [go_sem]) [0, 1, 2, 7] [[33, 0]] ?_ ?_) ?_
 ·simp only [go_sem]
 ·simp only [go_sem]
 repeat refine sq ?_
 refine cl_rs hΓ [0,1,2,7,8] [[33, 0]] fun K' hK => ?_
 simp only [go_sem]
 repeat refine ⟨ob, ?_⟩
 refine hK _ ?_ ?_ <;> clear K' hK <;> simp only [go_sem]
 repeat refine sq ?_
 refine cl_rs hΓ [1,2,7,8,11,12,13] [[33, 0]] fun K' hK => ?_
 simp only [go_sem, te116]
 repeat refine ⟨ob, ?_⟩
 refine hK _ ?_ ?_ <;> clear K' hK <;> simp only [go_sem, te116]
 repeat refine sq ?_
 refine cl_block ?_
 repeat refine sq ?_
 refine cl_loop' (fun s : Nat => [(7, ⟨true, .msl [33, 0] s⟩), (8, ⟨true, .v (vInt (pkF t many day s))⟩), (13, ⟨true, .v (vInt s)⟩)]) (fun s => [([33, 0], .arr 1 (((List.range s).map fun i => pkF t many day (i + 1)).map vInt))]) (fun s => s ≤ t.length) (fun s => t.length - s) 0 ?_ ?_ ?_ ?_
 ·exact Nat.zero_le _
 ·rfl
 ·rfl
 rintro i hi
 simp only [go_sem]
 repeat refine sq ?_
 refine cl_rs hΓ [1,2,7,8,11,12,13,14] [[33, 0]] fun K' hK => ?_
 simp only [go_sem]
 repeat refine ⟨ob, ?_⟩
 refine hK _ ?_ ?_ <;> clear K' hK <;> simp only [go_sem]
 repeat refine sq ?_
 refine cl_cond rfl rfl (fun hb => ?_) fun hb => ?_
 ·have hlt : i < t.length := by simpa using hb
  have hlt' : (i : Int) < t.length := by omega
  clear hb
  repeat refine sq ?_
  refine cl_skip ?_
  repeat refine sq ?_
  refine cl_block ?_
  repeat refine sq ?_
  have hpm : pkM t many day (pkF t many day i) i = if t[i].dl > pkF t many day i then t[i].dl else pkF t many day i := by unfold pkM; rw [getD_at hlt]
  repeat refine sq ?_
  refine cl_rs hΓ [1,2,7,8,9,10,11,12,13] [[10, 0],[33, 0]] fun K' hK => ?_
  simp only [go_sem, map_getD hlt, Int.toNat_natCast, Int.natCast_nonneg, hlt']
  repeat refine ⟨ob, ?_⟩
  refine hK _ ?_ ?_ <;> clear K' hK <;> simp only [go_sem, map_getD hlt, Int.toNat_natCast, Int.natCast_nonneg, hlt']
  repeat refine sq ?_
  refine cl_rs hΓ [1,2,7,8,9,11,12,13] [[33, 0]] fun K' hK => ?_
  simp only [go_sem, ← hpm]
  repeat refine ⟨ob, ?_⟩
  refine hK _ ?_ ?_ <;> clear K' hK <;> simp only [go_sem, ← hpm]
  repeat refine sq ?_
  refine cl_rs hΓ [1,2,7,8,9,11,12,13,25] [[33, 0]] fun K' hK => ?_
  simp only [go_sem]
  repeat refine ⟨ob, ?_⟩
  refine hK _ ?_ ?_ <;> clear K' hK <;> simp only [go_sem]
  obtain ⟨x, hx⟩ : ∃ x, x = pkF t many day (i + 1) := ⟨_, rfl⟩
  have hx' := hx
  simp only [pkF] at hx'
  repeat refine sq ?_
  refine cl_condJ (mkS 36 [0] (fun _ => none) [(1, ⟨true, .v (vInt many)⟩), (2, ⟨true, .v (vInt day)⟩), (7, ⟨true, .msl [33, 0] i⟩), (8, ⟨true, .v (vInt x)⟩), (11, ⟨true, .v (.sl (t.map encD))⟩), (12, ⟨true, .v (vInt t.length)⟩), (13, ⟨true, .v (vInt i)⟩)] [([33, 0], .arr 1 (((List.range i).map fun i => pkF t many day (i + 1)).map vInt))]) rfl rfl (fun hb => ?_) (fun hb => ?_) ?_
  ·have hb' : many ≤ i := by simpa using hb
   rw [if_pos hb'] at hx'
   repeat refine sq ?_
   refine cl_r hΓ fun K' hK => ?_
   simp only [go_sem, hwd, ← hx']
   repeat refine ⟨ob, ?_⟩
   refine hK _ ?_
   clear K' hK
   refine weakM_keep [1,2,7,8,11,12,13] [[33, 0]] ?_ ?_
   ·simp only [go_sem]
   ·simp only [go_sem]
  ·have hb' : ¬ many ≤ i := by simpa using hb
   rw [if_neg hb'] at hx'
   refine cl_skip ?_
   refine cl_nil ?_
   rw [← hx']
   refine weakM_keep [1,2,7,8,11,12,13] [[33, 0]] ?_ ?_
   ·simp only [go_sem]
   ·simp only [go_sem]
  repeat refine sq ?_
  refine cl_r hΓ fun K' hK => ?_
  simp only [go_sem, te39, tz3]
  repeat' apply And.intro
  all_goals first | rfl | omega | exact Int.le_refl _ | exact Bool.or_not_self _ | exact Bool.not_or_self _ | exact enc_okI _ | exact enc_ok _ | exact fun x hx => (enc_okI _ x hx).1 | exact fun x hx => (enc_ok _ x hx).1 | (simp only [List.length_take, List.length_append, List.length_map, List.length_drop, List.length_cons, List.length_nil]; done) | (simp only [List.length_take, List.length_append, List.length_map, List.length_drop, List.length_cons, List.length_nil]; omega) | (simp only [List.length_take, List.length_append, List.length_map, List.length_drop, List.length_cons, List.length_nil, maxLen]; omega) | (exact fun _ => by decide) | (exact fun h => ⟨h, by decide⟩) | (simp only [decide_eq_true_eq]; omega) | (simp only [List.length_range, List.length_map, List.length_cons, List.length_nil]; done) | (simp only [List.length_range, List.length_map, List.length_cons, List.length_nil]; omega) | (simp only [List.length_range, List.length_map, List.length_cons, List.length_nil, maxLen]; omega) | skip
  refine hK _ ?_
  clear K' hK
  simp only [go_sem]
  refine cl_keep [1,2,7,8,11,12,13] [[33, 0]] ?_ ?_
  ·simp only [go_sem]
  simp only [go_sem]
  repeat refine sq ?_
  refine cl_r hΓ fun K' hK => ?_
  simp only [go_sem]
  repeat refine ⟨ob, ?_⟩
  refine hK _ ?_
  clear K' hK
  simp only [go_sem]
  refine ⟨i + 1, hlt, (show t.length - (i + 1) < t.length - i by omega), ?_⟩
  rw [← hx]
  refine weak_eq [1,2,7,8,11,12,13] [[33, 0]] ?_ ?_
  ·simp only [go_sem]
  ·simp only [go_sem, wrap_succ hlt hlm, Int.natCast_add, Int.natCast_one, List.range_succ, List.map_append, List.length_range]
   all_goals simp [← hx]
 ·have hge : i = t.length := by
   have : ¬ (i : Int) < t.length := by simpa using hb
   omega
  subst hge
  clear hb
  repeat refine sq ?_
  refine cl_exit ?_
  simp only [go_sem]
  refine cl_keep [7] [[33, 0]] ?_ ?_
  ·simp only [go_sem]
  simp only [go_sem]
  repeat refine sq ?_
  refine cl_rs hΓ [6] [[33, 0]] fun K' hK => ?_
  simp only [go_sem]
  repeat refine ⟨ob, ?_⟩
  refine hK _ ?_ ?_ <;> clear K' hK <;> simp only [go_sem]
  refine cl_ret ?_
  simp only [go_sem]
  all_goals simp [pickL]
def wrT (c : List Deed) (lo pe : Int) (q out : List Int) : Nat → List Int × Nat
 | 0 => (out, 0)
 | s + 1 => if isOfB (c.getD s zeroD) lo pe then ((wrT c lo pe q out s).1.set s (q.getD (wrT c lo pe q out s).2 0), (wrT c lo pe q out s).2 + 1) else wrT c lo pe q out s
theorem wrT_len (c : List Deed) (lo pe : Int) (q out : List Int) : ∀ s, (wrT c lo pe q out s).1.length = out.length
 | 0 => rfl
 | s + 1 => by
  unfold wrT
  split
  ·simp [wrT_len c lo pe q out s]
  ·exact wrT_len c lo pe q out s
theorem wrT_cnt (c : List Deed) (lo pe : Int) (q out : List Int) : ∀ s, s ≤ c.length → (wrT c lo pe q out s).2 = ((c.take s).filter fun d => isOfB d lo pe).length
 | 0, _ => rfl
 | s + 1, h => by
  have ih := wrT_cnt c lo pe q out s (by omega)
  have hs : s < c.length := by omega
  rw [List.take_add_one, List.getElem?_eq_getElem hs, List.filter_append]
  unfold wrT
  rw [getD_at hs]
  split
  ·rename_i hq; simp [ih, hq]
  ·rename_i hq; simp [ih, hq]
theorem cnt_lt {c : List Deed} {p : Deed → Bool} {s : Nat} (h : s < c.length) (hp : p c[s] = true) : ((c.take s).filter p).length < (c.filter p).length := by
 have e : c = c.take s ++ c[s] :: c.drop (s + 1) := by rw [List.getElem_cons_drop h, List.take_append_drop]
 have h2 : (c.filter p).length = ((c.take s ++ c[s] :: c.drop (s + 1)).filter p).length := by rw [← e]
 rw [h2, List.filter_append, List.length_append, List.filter_cons, if_pos hp, List.length_cons]
 omega
def wrL (c : List Deed) (lo pe : Int) (q out : List Int) : List Int := (wrT c lo pe q out c.length).1
def wrC : CSpec where
 pre := fun os ds => ∃ (c : List Deed) (day lo pe : Int) (q out : List Int), os = [.arr 1 (out.map vInt)] ∧ ds = [.agg [.v (.sl (c.map encD)), .v (vInt day)], .msl [0, 1] out.length, .v (vInt lo), .v (vInt pe), .v (.sl (q.map vInt))] ∧ out.length = c.length ∧ q.length = (thrL c lo pe).length ∧ c.length ≤ 60
 out := fun os ds => match os, ds with
  | [.arr _ o], [.agg [.v (.sl c), _], _, .v (.int _ lo), .v (.int _ pe), .v (.sl q)] => ⟨[(0, .arr 1 ((wrL (c.map decD) lo pe (q.map decI) (o.map decI)).map vInt))], [], .tup []⟩
  | _, _ => ⟨[], [], .any⟩
noncomputable def K105 : FuncId → Option Spec := fun f => match f with
 | 144 => some (sDII fun d k j => .bool (isOfB d k j))
 | _ => none
theorem K105_sound : ∀ f s, K105 f = some s → SSound Tryz.prog f s := by
 intro f s h
 unfold K105 at h
 split at h
 ·cases h; exact s144.sound
 ·cases h
@[go_sem] theorem K105_144 : K105 144 = some (sDII fun d k j => .bool (isOfB d k j)) := rfl
set_option maxHeartbeats 16000000 in
theorem s160 : SSound Tryz.prog 160 wrC.toSpec := by
 refine csound (nt := 35) (rs := []) Tryz.func160 rfl (by rfl) (by kernel_rfl) (enter_of Tryz.func160 rfl (by kernel_rfl)) (notYid _ (by decide)) ?_
 rintro os ds ⟨c, day, lo, pe, q, out, rfl, rfl, ho, hD, hc60⟩
 refine ⟨lb rfl, ?_⟩
 have hout : wrC.out [.arr 1 (out.map vInt)] [.agg [.v (.sl (c.map encD)), .v (vInt day)], .msl [0, 1] out.length, .v (vInt lo), .v (vInt pe), .v (.sl (q.map vInt))] = ⟨[(0, .arr 1 ((wrL c lo pe q out).map vInt))], [], .tup []⟩ := by
  simp only [wrC, decD_map, decI_map]
 rw [hout]
 refine cl_of ?_
 have hΓ := K105_sound
 obtain ⟨H, hH, hH1, hO1, hO2⟩ := outH_one 1 (out.map vInt)
 have hO3 : ∀ hs sz' L', OutC [0] (domOf [0] hs) (fun nm => if nm = [0, 1] then some (.arr sz' L') else H nm) = True := hO2
 have hU : ∀ a b, upd (fun nm => if nm = [0, 1] then a else H nm) [0, 1] b = fun nm => if nm = [0, 1] then b else H nm := fun a b => by
  funext nm
  by_cases h : nm = [0, 1]
  ·subst h; rw [upd_same, if_pos rfl]
  ·rw [upd_ne _ _ _ h, if_neg h, if_neg h]
 rw [← hH]
 have hcm : c.length ≤ maxLen := by unfold maxLen; omega
 repeat refine sq ?_
 refine cl_rs hΓ [1,2,3,4,5] [[5, 0]] fun K' hK => ?_
 simp only [go_sem, hO1]
 repeat refine ⟨ob, ?_⟩
 refine hK _ ?_ ?_ <;> clear K' hK <;> simp only [go_sem, hO1]
 repeat refine sq ?_
 refine cl_rs hΓ [1,2,3,4,5,10] [[5, 0]] fun K' hK => ?_
 simp only [go_sem, hO1]
 repeat refine ⟨ob, ?_⟩
 refine hK _ ?_ ?_ <;> clear K' hK <;> simp only [go_sem, hO1]
 repeat refine sq ?_
 refine cl_rs hΓ [1,2,3,4,10,14,15,16] [] fun K' hK => ?_
 simp only [go_sem, hO1]
 repeat refine ⟨ob, ?_⟩
 refine hK _ ?_ ?_ <;> clear K' hK <;> simp only [go_sem, hO1]
 repeat refine sq ?_
 refine cl_block ?_
 repeat refine sq ?_
 refine cl_loopH (fun s : Nat => upd H [0, 1] (some (.arr 1 ((wrT c lo pe q out s).1.map vInt)))) (fun s => [(10, ⟨true, .v (vInt (wrT c lo pe q out s).2)⟩), (16, ⟨true, .v (vInt s)⟩)]) (fun s => []) (fun s => s ≤ c.length) (fun s => c.length - s) 0 (Nat.zero_le _) ?_ rfl rfl ?_
 ·have e : upd H [0, 1] (some (.arr 1 ((wrT c lo pe q out 0).1.map vInt))) = H := by
   have := upd_id H [0, 1]
   rw [hH1] at this
   exact this
  rw [e]
 intro i hi
 have hwl := wrT_len c lo pe q out i
 have hwc := wrT_cnt c lo pe q out i hi
 have hnx : wrT c lo pe q out (i + 1) = if isOfB (c.getD i zeroD) lo pe then ((wrT c lo pe q out i).1.set i (q.getD (wrT c lo pe q out i).2 0), (wrT c lo pe q out i).2 + 1) else wrT c lo pe q out i := rfl
 generalize hw : wrT c lo pe q out i = w at *
 simp only [go_sem]
 repeat refine sq ?_
 refine cl_rs hΓ [1,2,3,4,10,14,15,16,17] [] fun K' hK => ?_
 simp only [go_sem, hO2, hO3]
 repeat refine ⟨ob, ?_⟩
 refine hK _ ?_ ?_ <;> clear K' hK <;> simp only [go_sem, hO2, hO3]
 repeat refine sq ?_
 refine cl_cond rfl rfl (fun hb => ?_) fun hb => ?_
 ·have hlt : i < c.length := by simpa using hb
  have hlt' : (i : Int) < c.length := by omega
  rw [getD_at hlt] at hnx
  clear hb
  repeat refine sq ?_
  refine cl_skip ?_
  repeat refine sq ?_
  refine cl_block ?_
  repeat refine sq ?_
  refine cl_rs hΓ [1,2,3,4,10,11,12,14,15,16] [[12, 0]] fun K' hK => ?_
  simp only [go_sem, hO2, hO3, map_getD hlt, Int.toNat_natCast, Int.natCast_nonneg, hlt']
  repeat refine ⟨ob, ?_⟩
  refine hK _ ?_ ?_ <;> clear K' hK <;> simp only [go_sem, hO2, hO3, map_getD hlt, Int.toNat_natCast, Int.natCast_nonneg, hlt']
  have hcc := fun (g : Deed → Int → Int → V) (obj : Name → Option O) (t : Name) (n m : Int) => sDII_app (g := g) (obj := obj) (t := t) (k := n) (j := m) (d := c[i]) (dx := rdD c[i]) rfl
  unfold rdD at hcc
  repeat refine sq ?_
  refine cl_rs hΓ [1,2,3,4,10,11,14,15,16,24] [] fun K' hK => ?_
  simp only [go_sem, hO2, hO3, hcc]
  repeat refine ⟨ob, ?_⟩
  refine hK _ ?_ ?_ <;> clear K' hK <;> simp only [go_sem, hO2, hO3, hcc]
  repeat refine sq ?_
  refine cl_cond rfl rfl (fun hb => ?_) fun hb => ?_
  ·rw [if_pos hb] at hnx
   have hk : w.2 < q.length := by
    rw [hD, hwc]
    exact cnt_lt (p := fun d => isOfB d lo pe) hlt hb
   have hk' : (w.2 : Int) < q.length := by omega
   have hio : i < w.1.length := by omega
   have hio' : (i : Int) < (out.length : Int) := by omega
   have hwo : w.1.length = out.length := hwl
   rw [getD_at hk] at hnx
   have hset : (w.1.map vInt).set i (vInt q[w.2]) = (w.1.set i q[w.2]).map vInt := by rw [List.map_set]
   have hk60 : w.2 ≤ 60 := by
    have h1 := List.length_filter_le (fun d => isOfB d lo pe) (c.take i)
    simp at h1
    omega
   have hwk : IntKind.i64.wrap ((w.2 : Int) + 1) = ((w.2 + 1 : Nat) : Int) := wrap_i64 (by omega) (by omega)
   repeat refine sq ?_
   refine cl_rs hΓ [1,2,3,4,10,14,15,16] [] fun K' hK => ?_
   simp only [go_sem, hO2, hO3, map_getD hk, Int.toNat_natCast, Int.natCast_nonneg, hk', hio', hwo, List.length_map, hU, hset]
   repeat refine ⟨ob, ?_⟩
   refine hK _ ?_ ?_ <;> clear K' hK <;> simp only [go_sem, hO2, hO3, map_getD hk, Int.toNat_natCast, Int.natCast_nonneg, hk', hio', hwo, List.length_map, hU, hset]
   repeat refine sq ?_
   refine cl_r hΓ fun K' hK => ?_
   simp only [go_sem, hO2, hO3]
   repeat refine ⟨ob, ?_⟩
   refine hK _ ?_
   clear K' hK
   simp only [go_sem]
   refine cl_keep [1,2,3,4,10,14,15,16] [] ?_ ?_
   ·simp only [go_sem, hO2, hO3]
   simp only [go_sem, hO2, hO3]
   repeat refine sq ?_
   refine cl_r hΓ fun K' hK => ?_
   simp only [go_sem]
   repeat refine ⟨ob, ?_⟩
   refine hK _ ?_
   clear K' hK
   simp only [go_sem]
   refine ⟨i + 1, hlt, (show c.length - (i + 1) < c.length - i by omega), ?_⟩
   rw [hnx]
   refine weak_eq [1,2,3,4,10,14,15,16] [] ?_ ?_
   ·simp only [go_sem, hO2, hO3]
   ·simp only [go_sem, hO2, hO3, wrap_succ hlt hcm, Int.natCast_add, Int.natCast_one, hwk]
    rfl
  ·rw [if_neg (by simp [hb])] at hnx
   repeat refine sq ?_
   refine cl_skip ?_
   refine cl_nil ?_
   simp only [go_sem]
   refine cl_keep [1,2,3,4,10,14,15,16] [] ?_ ?_
   ·simp only [go_sem, hO2, hO3]
   simp only [go_sem, hO2, hO3]
   repeat refine sq ?_
   refine cl_r hΓ fun K' hK => ?_
   simp only [go_sem]
   repeat refine ⟨ob, ?_⟩
   refine hK _ ?_
   clear K' hK
   simp only [go_sem]
   refine ⟨i + 1, hlt, (show c.length - (i + 1) < c.length - i by omega), ?_⟩
   rw [hnx]
   refine weak_eq [1,2,3,4,10,14,15,16] [] ?_ ?_
   ·simp only [go_sem, hO2, hO3]
   ·simp only [go_sem, hO2, hO3, wrap_succ hlt hcm, Int.natCast_add, Int.natCast_one]
    rfl
 ·have hge : i = c.length := by
   have : ¬ (i : Int) < c.length := by simpa using hb
   omega
  subst hge
  clear hb
  repeat refine sq ?_
  refine cl_exit ?_
  simp only [go_sem]
  refine cl_nil ?_
  have hf : wrL c lo pe q out = w.1 := by unfold wrL; rw [hw]
  rw [hf]
  refine ⟨fun r hr => by simp at hr, rfl, ⟨?_, trivial⟩, trivial, ?_⟩
  ·simp [mkS, own]
   rfl
  ·simp [D.clos, D.closL, O.clos, domC, distinct]
theorem wr_app {obj : Name → Option O} {t nm : Name} {c : List Deed} {day lo pe : Int} {q out : List Int} (ho : obj nm = some (.arr 1 (out.map vInt))) (h1 : out.length = c.length) (h2 : q.length = (thrL c lo pe).length) (h3 : c.length ≤ 60) :
  wrC.toSpec.app obj t [.agg [.v (.sl (c.map encD)), .v (vInt day)], .msl nm out.length, .v (vInt lo), .v (vInt pe), .v (.sl (q.map vInt))] = ⟨True, .tup [], upd obj nm (some (.arr 1 ((wrL c lo pe q out).map vInt)))⟩ := by
 have hr : reach obj [.agg [.v (.sl (c.map encD)), .v (vInt day)], .msl nm out.length, .v (vInt lo), .v (vInt pe), .v (.sl (q.map vInt))] = [nm] := by
  unfold reach
  show reachL obj (2999 + 1) [nm] [] = [nm]
  simp only [reachL, inL, List.any_nil, Bool.false_eq_true, if_false, ho, namesO, List.nil_append]
 have i0 : idx [nm] nm = 0 := by simp [idx]
 have e1 : cOs obj [.agg [.v (.sl (c.map encD)), .v (vInt day)], .msl nm out.length, .v (vInt lo), .v (vInt pe), .v (.sl (q.map vInt))] = [.arr 1 (out.map vInt)] := by
  unfold cOs
  rw [hr]
  simp only [List.map_cons, List.map_nil, canonO, ho, O.ren]
 have e2 : cDs obj [.agg [.v (.sl (c.map encD)), .v (vInt day)], .msl nm out.length, .v (vInt lo), .v (vInt pe), .v (.sl (q.map vInt))] = [.agg [.v (.sl (c.map encD)), .v (vInt day)], .msl [0, 1] out.length, .v (vInt lo), .v (vInt pe), .v (.sl (q.map vInt))] := by
  unfold cDs
  rw [hr]
  simp only [D.renL, D.ren, cin, i0]
 have hout : wrC.out [.arr 1 (out.map vInt)] [.agg [.v (.sl (c.map encD)), .v (vInt day)], .msl [0, 1] out.length, .v (vInt lo), .v (vInt pe), .v (.sl (q.map vInt))] = ⟨[(0, .arr 1 ((wrL c lo pe q out).map vInt))], [], .tup []⟩ := by
  simp only [wrC, decD_map, decI_map]
 have hpre : wrC.pre [.arr 1 (out.map vInt)] [.agg [.v (.sl (c.map encD)), .v (vInt day)], .msl [0, 1] out.length, .v (vInt lo), .v (vInt pe), .v (.sl (q.map vInt))] := ⟨c, day, lo, pe, q, out, rfl, rfl, h1, h2, h3⟩
 have e3 : (shut obj [nm] && D.closL (inL [nm]) [.agg [.v (.sl (c.map encD)), .v (vInt day)], .msl nm out.length, .v (vInt lo), .v (vInt pe), .v (.sl (q.map vInt))] && fresh obj t []) = true := by
  simp [shut, ho, O.clos, D.closL, D.clos, inL, fresh]
 simp only [CSpec.toSpec, e1, e2, hr, hout, e3, hpre, and_self, putN, putU, D.ren, D.renL, O.ren, cout, List.getD_cons_zero]
end Go.Eng
