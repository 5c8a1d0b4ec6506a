import Derived.Test.YtepaolcgegdpoaaGreatK6
/- Texts LV to LW24. -/
set_option linter.all false
namespace Go.Eng
open Go Go.Proofs
structure Vw where
 l : Led
 rs : List Rec
 ts : List Int
 bk : List ((Int × Int) × Int)
 ds : List (Int × (Int × Int))
 deriving Inhabited
def encBk (b : List ((Int × Int) × Int)) : List (V × V) := b.map fun q => (.agg [vInt q.1.1, vInt q.1.2], vInt q.2)
def decK : V → Int × Int
 | .agg [.int _ a, .int _ b] => (a, b)
 | _ => (0, 0)
def decBk (es : List (V × V)) : List ((Int × Int) × Int) := es.map fun q => (decK q.1, decI q.2)
def encDs (d : List (Int × (Int × Int))) : List (V × V) := d.map fun q => (vInt q.1, .agg [vInt q.2.1, vInt q.2.2])
def decDs (es : List (V × V)) : List (Int × (Int × Int)) := es.map fun q => (decI q.1, decK q.2)
@[go_sem] theorem decBk_enc (b : List ((Int × Int) × Int)) : decBk (encBk b) = b := by
 unfold decBk encBk
 rw [List.map_map]
 exact List.map_id _
@[go_sem] theorem decDs_enc (b : List (Int × (Int × Int))) : decDs (encDs b) = b := by
 unfold decDs encDs
 rw [List.map_map]
 exact List.map_id _
def boxV (x : Vw) (nb nd : Name) : O := .box [.v (encLp x.l), .v (.sl (x.rs.map encR)), .v (.sl (x.ts.map vInt)), .map nb, .map nd]
def decVw (lp : V) (rs ts : List V) (eb ed : List (V × V)) : Vw := ⟨decLp lp, rs.map decR, ts.map decI, decBk eb, decDs ed⟩
theorem decVw_enc (x : Vw) : decVw (encLp x.l) (x.rs.map encR) (x.ts.map vInt) (encBk x.bk) (encDs x.ds) = x := by
 obtain ⟨⟨p, r, t, s⟩, rs, ts, bk, ds⟩ := x
 simp only [decVw, encLp, decLp, decP_map, decR_map, decT_map, decS_map, decI_map, decBk_enc, decDs_enc]
def getV (obj : Name → Option O) (nv : Name) : Option (Name × Name × Vw) := match obj nv with
 | some (.box [.v lp, .v (.sl rs), .v (.sl ts), .map nb, .map nd]) => match obj nb, obj nd with
  | some (.map 2 eb), some (.map 0 ed) => some (nb, nd, decVw lp rs ts eb ed)
  | _, _ => none
 | _ => none
def okV (obj : Name → Option O) (nv nb nd : Name) (x : Vw) : Prop :=
 obj nv = some (boxV x nb nd) ∧ obj nb = some (.map 2 (encBk x.bk)) ∧ obj nd = some (.map 0 (encDs x.ds)) ∧ (nv == nb) = false ∧ (nv == nd) = false ∧ (nb == nd) = false
structure VSpec where
 pre : Vw → List V → Prop
 val : Vw → List V → D
 wr : Option (Vw → List V → List (Int × (Int × Int)))
def VSpec.app (s : VSpec) (obj : Name → Option O) (t : Name) (ds : List D) : R := match ds with
 | .ref nv 0 :: r => match getV obj nv, asVs r with
  | some (nb, nd, x), some xs => ⟨okV obj nv nb nd x ∧ s.pre x xs, (s.val x xs).ren (cout [nv, nb, nd] t), match s.wr with | none => obj | some f => upd obj nd (some (.map 0 (encDs (f x xs))))⟩
  | _, _ => .bad obj
 | _ => .bad obj
def VSpec.foot (_ : VSpec) (obj : Name → Option O) (_ : Name) (ds : List D) : List Name := match ds with
 | .ref nv _ :: _ => nv :: (match obj nv with | some (.box [_, _, _, .map nb, .map nd]) => [nb, nd] | _ => [])
 | _ => []
def VSpec.toSpec (s : VSpec) : Spec := ⟨s.app, s.foot, s.foot⟩
theorem VSpec.near (s : VSpec) : s.toSpec.Near := by
 refine near_fw fun obj obj2 t ds ha => ?_
 match ds with
 | .ref nv off :: r =>
  have h1 : obj2 nv = obj nv := ha nv (by simp [VSpec.foot])
  refine ⟨by simp only [VSpec.foot, h1], ?_⟩
  cases off with
  | succ k => exact .none _ ha
  | zero =>
   have hno : Like (R.bad obj) (R.bad obj2) obj obj2 (s.foot obj t (.ref nv 0 :: r)) := .none _ ha
   by_cases hg : ∃ a b c nb nd, obj nv = some (.box [a, b, c, .map nb, .map nd])
   ·obtain ⟨a, b, c, nb, nd, hb⟩ := hg
    have hb2 : obj2 nb = obj nb := ha nb (by simp [VSpec.foot, hb])
    have hd2 : obj2 nd = obj nd := ha nd (by simp [VSpec.foot, hb])
    have hgv : getV obj2 nv = getV obj nv := by
     unfold getV
     rw [h1, hb]
     split <;> first | rfl | (rename_i e; cases e; rw [hb2, hd2])
    have hnd : ∀ nb' nd' x, getV obj nv = some (nb', nd', x) → nb' = nb ∧ nd' = nd := by
     intro nb' nd' x h
     unfold getV at h
     rw [hb] at h
     split at h
     ·rename_i e
      cases e
      split at h
      ·cases h; exact ⟨rfl, rfl⟩
      ·cases h
     ·cases h
    show Like (s.app obj t (.ref nv 0 :: r)) (s.app obj2 t (.ref nv 0 :: r)) obj obj2 _
    unfold VSpec.app
    simp only [hgv]
    split
    ·rename_i nb' nd' x xs hx hxs
     obtain ⟨rfl, rfl⟩ := hnd _ _ _ hx
     have hok : okV obj2 nv nb' nd' x = okV obj nv nb' nd' x := by unfold okV; rw [h1, hb2, hd2]
     rw [hok]
     cases s.wr with
     | none => exact .none _ ha
     | some f => exact .one (by simp [VSpec.foot, hb]) ha
    ·exact hno
   ·have e1 : getV obj nv = none := by
     unfold getV
     split
     ·rename_i h; exact (hg ⟨_, _, _, _, _, h⟩).elim
     ·rfl
    have e2 : getV obj2 nv = none := by
     unfold getV
     rw [h1]
     split
     ·rename_i h; exact (hg ⟨_, _, _, _, _, h⟩).elim
     ·rfl
    show Like (s.app obj t (.ref nv 0 :: r)) (s.app obj2 t (.ref nv 0 :: r)) obj obj2 _
    unfold VSpec.app
    simp only [e1, e2]
    exact hno
 | [] => exact ⟨rfl, .none _ ha⟩
 | .v _ :: _ => exact ⟨rfl, .none _ ha⟩
 | .nilsl :: _ => exact ⟨rfl, .none _ ha⟩
 | .nilmap :: _ => exact ⟨rfl, .none _ ha⟩
 | .msl _ _ :: _ => exact ⟨rfl, .none _ ha⟩
 | .aref _ _ _ _ :: _ => exact ⟨rfl, .none _ ha⟩
 | .map _ :: _ => exact ⟨rfl, .none _ ha⟩
 | .yld _ :: _ => exact ⟨rfl, .none _ ha⟩
 | .clo _ _ _ :: _ => exact ⟨rfl, .none _ ha⟩
 | .agg _ :: _ => exact ⟨rfl, .none _ ha⟩
 | .tup _ :: _ => exact ⟨rfl, .none _ ha⟩
 | .any :: _ => exact ⟨rfl, .none _ ha⟩
def VSpec.c (s : VSpec) : CSpec where
 pre := fun os ds => ∃ (x : Vw) (xs : List V), os = [boxV x [1, 1] [2, 1], .map 2 (encBk x.bk), .map 0 (encDs x.ds)] ∧ ds = .ref [0, 1] 0 :: xs.map .v ∧ s.pre x xs
 out := fun os ds => match os, ds with
  | [.box [.v lp, .v (.sl rs), .v (.sl ts), _, _], .map _ eb, .map _ ed], _ :: r => match asVs r with
   | some xs => ⟨match s.wr with | none => [] | some f => [(2, .map 0 (encDs (f (decVw lp rs ts eb ed) xs)))], [], s.val (decVw lp rs ts eb ed) xs⟩
   | none => ⟨[], [], .any⟩
  | _, _ => ⟨[], [], .any⟩
theorem VSpec.c_out (s : VSpec) (x : Vw) (xs : List V) : s.c.out [boxV x [1, 1] [2, 1], .map 2 (encBk x.bk), .map 0 (encDs x.ds)] (.ref [0, 1] 0 :: xs.map .v) =
  ⟨match s.wr with | none => [] | some f => [(2, .map 0 (encDs (f x xs)))], [], s.val x xs⟩ := by
 simp only [VSpec.c, boxV, asVs_map, decVw_enc]
theorem reach_view {obj : Name → Option O} {nv nb nd : Name} {x : Vw} (h : okV obj nv nb nd x) (xs : List V) : reach obj (.ref nv 0 :: xs.map .v) = [nv, nb, nd] := by
 obtain ⟨h1, h2, h3, h4, h5, h6⟩ := h
 unfold reach
 have e : namesL (.ref nv 0 :: xs.map .v) = [nv] := by simp only [namesL, namesD, namesL_v, List.append_nil]
 rw [e]
 show reachL obj (2996 + 1 + 1 + 1 + 1) [nv] [] = [nv, nb, nd]
 simp only [reachL, inL, List.any_nil, Bool.false_eq_true, if_false, h1, boxV, namesO, namesL, namesD, List.nil_append, List.append_nil, List.any_cons, h4, h5, h6, Bool.or_false, h2, h3, List.cons_append]
theorem VSpec.sound {P : Program} {f : FuncId} {s : VSpec} (h : SSound P f s.c.toSpec) (hne : f ≠ yid) : SSound P f s.toSpec := by
 refine ssound_eq h s.near hne fun obj t ds hok => ?_
 have hok' : (s.app obj t ds).ok := hok
 show ∃ ds', _ ∧ _ ∧ _ ∧ _ = (s.app obj t ds).d ∧ _ = (s.app obj t ds).obj
 unfold VSpec.app at hok' ⊢
 split at hok'
 ·rename_i nv r
  split at hok'
  ·rename_i nb nd x xs hgx hxs
   obtain ⟨hv, hp⟩ := hok'
   have hlen := asVs_len hxs
   have hv' := hv
   obtain ⟨h1, h2, h3, h4, h5, h6⟩ := hv'
   have n4 : nv ≠ nb := by simpa using h4
   have n5 : nv ≠ nd := by simpa using h5
   have n6 : nb ≠ nd := by simpa using h6
   have hr := reach_view hv xs
   have i0 : idx [nv, nb, nd] nv = 0 := by simp [idx]
   have i1 : idx [nv, nb, nd] nb = 1 := by simp [idx, n4]
   have i2 : idx [nv, nb, nd] nd = 2 := by simp [idx, n5, n6]
   have e1 : cOs obj (.ref nv 0 :: xs.map .v) = [boxV x [1, 1] [2, 1], .map 2 (encBk x.bk), .map 0 (encDs x.ds)] := by
    unfold cOs
    rw [hr]
    simp only [List.map_cons, List.map_nil, canonO, h1, h2, h3, boxV, O.ren, D.renL, D.ren, cin, i1, i2]
   have e2 : cDs obj (.ref nv 0 :: xs.map .v) = .ref [0, 1] 0 :: xs.map .v := by
    unfold cDs
    rw [hr]
    simp only [D.renL, D.ren, cin, i0, renL_v]
   have e5 : (shut obj [nv, nb, nd] && D.closL (inL [nv, nb, nd]) (.ref nv 0 :: xs.map .v) && fresh obj t []) = true := by
    simp [shut, h1, h2, h3, boxV, O.clos, D.closL, D.clos, inL, fresh, closL_v]
   refine ⟨.ref nv 0 :: xs.map .v, by simpa using hlen, fun φ m us hl hr' i a b => ?_, ?_⟩
   ·cases i with
    | zero => exact hr' 0 (by simp) b
    | succ i =>
     simp only [List.length_cons, List.length_map] at a
     simp only [List.getElem_cons_succ, List.getElem_map]
     exact .v _ _ (asVs_rep hxs i (by omega) (by omega) _ (by have := hr' (i + 1) (by simp; omega) b; simpa using this))
   ·have e4 : s.c.pre [boxV x [1, 1] [2, 1], .map 2 (encBk x.bk), .map 0 (encDs x.ds)] (.ref [0, 1] 0 :: xs.map .v) := ⟨x, xs, rfl, rfl, hp⟩
    simp only [CSpec.toSpec, e1, e2, hr, s.c_out, e4, e5, and_self, putN]
    refine ⟨trivial, trivial, ?_⟩
    cases s.wr with
    | none => rfl
    | some f => simp only [putU, O.ren, List.getD_cons_zero, List.getD_cons_succ]
  ·exact hok'.elim
 ·exact hok'.elim
def retV (P : Program) (rs : List ResultVar) (x : Vw) (d : D) (w : Option (List (Int × (Int × Int)))) : Exit → S → Prop
 | .normal, σ => (resAll P σ rs).ok ∧ (resAll P σ rs).d = d ∧ σ.obj [0, 1] = some (boxV x [1, 1] [2, 1]) ∧ σ.obj [1, 1] = some (.map 2 (encBk x.bk)) ∧ σ.obj [2, 1] = some (.map 0 (encDs (w.getD x.ds)))
 | .ret, σ => (resAll P σ rs).ok ∧ (resAll P σ rs).d = d ∧ σ.obj [0, 1] = some (boxV x [1, 1] [2, 1]) ∧ σ.obj [1, 1] = some (.map 2 (encBk x.bk)) ∧ σ.obj [2, 1] = some (.map 0 (encDs (w.getD x.ds)))
 | _, _ => False
theorem vsound {P : Program} {f : FuncId} {fn : Func} {nt : Nat} {rs : List ResultVar} {s : VSpec} (hf : P.funcs[f]? = some fn) (hnt : fn.ntmps = nt) (hrs : fn.results.toList = rs) (hn : (fn.name == "runtime.NumGoroutine") = false) (hy : f < 1000000000) (hcl : ∀ x xs, s.pre x xs → D.clos (fun _ => false) (s.val x xs) = true)
  (hb : ∃ c, fn.body = some c ∧ ∀ x xs, s.pre x xs → xs.length + 1 ≤ nt ∧ ∀ H : Name → Option O, H [0, 1] = some (boxV x [1, 1] [2, 1]) → H [1, 1] = some (.map 2 (encBk x.bk)) → H [2, 1] = some (.map 0 (encDs x.ds)) →
   (∀ hs, OutC [0] (domOf [0] hs) H = True) → (∀ hs es, OutC [0] (domOf [0] hs) (fun nm => if nm = [2, 1] then some (.map 0 es) else H nm) = True) →
   CL P [c] (mkS nt [0] H (argsD 0 (.ref [0, 1] 0 :: xs.map .v)) []) (retV P rs x (s.val x xs) (s.wr.map fun f => f x xs))) : SSound P f s.toSpec := by
 obtain ⟨c, hc, h⟩ := hb
 have hne : f ≠ yid := Nat.ne_of_lt (show f < yid from hy)
 refine VSpec.sound (csound hf hc hnt hrs (enter_of hf hc hn) hne ?_) hne
 rintro os ds ⟨x, xs, rfl, rfl, hp⟩
 obtain ⟨h1, h2⟩ := h x xs hp
 refine ⟨by simpa using h1, ?_⟩
 have hO : ∀ hs, OutC [0] (domOf [0] hs) (outH [boxV x [1, 1] [2, 1], .map 2 (encBk x.bk), .map 0 (encDs x.ds)]) := fun hs => outC_outs (by
  intro o ho dom hd
  simp only [List.mem_cons, List.not_mem_nil, or_false] at ho
  rcases ho with rfl | rfl | rfl
  ·simp [boxV, O.clos, D.closL, D.clos, hd]
  ·rfl
  ·rfl) hs
 have := h2 (outH [boxV x [1, 1] [2, 1], .map 2 (encBk x.bk), .map 0 (encDs x.ds)]) rfl rfl rfl (fun hs => eq_true (hO hs)) (fun hs es => eq_true (OutC_set (nm := [2, 1]) (o := .map 0 es) rfl (hO hs)))
 refine CW.mono (cl_of this) fun e σ hk => ?_
 rw [s.c_out]
 have key : (resAll P σ rs).ok ∧ (resAll P σ rs).d = s.val x xs ∧ σ.obj [0, 1] = some (boxV x [1, 1] [2, 1]) ∧ σ.obj [1, 1] = some (.map 2 (encBk x.bk)) ∧ σ.obj [2, 1] = some (.map 0 (encDs ((s.wr.map fun f => f x xs).getD x.ds))) →
   (resAll P σ rs).ok ∧ (resAll P σ rs).d = s.val x xs ∧ endC [boxV x [1, 1] [2, 1], .map 2 (encBk x.bk), .map 0 (encDs x.ds)] ⟨match s.wr with | none => [] | some f => [(2, .map 0 (encDs (f x xs)))], [], s.val x xs⟩ σ := by
  rintro ⟨k1, k2, k3, k4, k5⟩
  refine ⟨k1, k2, ?_⟩
  have hd := clos_imp (dom := fun _ => false) (dom' := domC 3 []) (fun _ h => by cases h) _ (hcl x xs hp)
  cases hw : s.wr with
  | none =>
   rw [hw] at k5
   refine ⟨⟨k3, k4, k5, trivial⟩, trivial, ?_⟩
   show (D.clos (domC 3 []) (s.val x xs) && _ && _ && _) = true
   rw [hd]; rfl
  | some f =>
   rw [hw] at k5
   refine ⟨⟨k3, k4, k5, trivial⟩, trivial, ?_⟩
   show (D.clos (domC 3 []) (s.val x xs) && _ && _ && _) = true
   rw [hd]; rfl
 cases e with
 | normal => exact key hk
 | ret => exact key hk
 | _ => exact hk.elim
def v0  (p : Vw → Prop) (g : Vw → D) (w : Option (Vw → List (Int × (Int × Int)))) : VSpec :=
 ⟨fun x xs => match xs with | [] => p x  | _ => False, fun x xs => match xs with | [] => g x  | _ => .any, w.map fun w x xs => match xs with | [] => w x  | _ => []⟩
theorem v0_elim  {p : Vw → Prop} {g : Vw → D} {w : Option (Vw → List (Int × (Int × Int)))} {x : Vw} {xs : List V} (h : (v0  p g w).pre x xs) :
  xs = [] ∧ p x  ∧ (v0  p g w).val x xs = g x  ∧ ((v0  p g w).wr.map fun f => f x xs) = w.map fun w => w x  := by
 unfold v0 at h
 simp only at h
 split at h
 ·exact ⟨rfl, h, rfl, by cases w <;> rfl⟩
 ·exact h.elim
def v1 {α : Type} (A : En α) (p : Vw → α → Prop) (g : Vw → α → D) (w : Option (Vw → α → List (Int × (Int × Int)))) : VSpec :=
 ⟨fun x xs => match xs with | [a] => A.enc (A.dec a) = a ∧ p x (A.dec a) | _ => False, fun x xs => match xs with | [a] => g x (A.dec a) | _ => .any, w.map fun w x xs => match xs with | [a] => w x (A.dec a) | _ => []⟩
theorem v1_elim {α : Type} {A : En α} {p : Vw → α → Prop} {g : Vw → α → D} {w : Option (Vw → α → List (Int × (Int × Int)))} {x : Vw} {xs : List V} (h : (v1 A p g w).pre x xs) :
  ∃ a, xs = [A.enc a] ∧ p x a ∧ (v1 A p g w).val x xs = g x a ∧ ((v1 A p g w).wr.map fun f => f x xs) = w.map fun w => w x a := by
 unfold v1 at h
 simp only at h
 split at h
 ·exact ⟨_, by rw [h.1], h.2, rfl, by cases w <;> rfl⟩
 ·exact h.elim
def v2 {α β : Type} (A : En α) (B : En β) (p : Vw → α → β → Prop) (g : Vw → α → β → D) (w : Option (Vw → α → β → List (Int × (Int × Int)))) : VSpec :=
 ⟨fun x xs => match xs with | [a, b] => A.enc (A.dec a) = a ∧ B.enc (B.dec b) = b ∧ p x (A.dec a) (B.dec b) | _ => False, fun x xs => match xs with | [a, b] => g x (A.dec a) (B.dec b) | _ => .any, w.map fun w x xs => match xs with | [a, b] => w x (A.dec a) (B.dec b) | _ => []⟩
theorem v2_elim {α β : Type} {A : En α} {B : En β} {p : Vw → α → β → Prop} {g : Vw → α → β → D} {w : Option (Vw → α → β → List (Int × (Int × Int)))} {x : Vw} {xs : List V} (h : (v2 A B p g w).pre x xs) :
  ∃ a b, xs = [A.enc a, B.enc b] ∧ p x a b ∧ (v2 A B p g w).val x xs = g x a b ∧ ((v2 A B p g w).wr.map fun f => f x xs) = w.map fun w => w x a b := by
 unfold v2 at h
 simp only at h
 split at h
 ·exact ⟨_, _, by rw [h.1, h.2.1], h.2.2, rfl, by cases w <;> rfl⟩
 ·exact h.elim
def v3 {α β γ : Type} (A : En α) (B : En β) (C : En γ) (p : Vw → α → β → γ → Prop) (g : Vw → α → β → γ → D) (w : Option (Vw → α → β → γ → List (Int × (Int × Int)))) : VSpec :=
 ⟨fun x xs => match xs with | [a, b, c] => A.enc (A.dec a) = a ∧ B.enc (B.dec b) = b ∧ C.enc (C.dec c) = c ∧ p x (A.dec a) (B.dec b) (C.dec c) | _ => False, fun x xs => match xs with | [a, b, c] => g x (A.dec a) (B.dec b) (C.dec c) | _ => .any, w.map fun w x xs => match xs with | [a, b, c] => w x (A.dec a) (B.dec b) (C.dec c) | _ => []⟩
section
variable {P : Program} {f : FuncId} {fn : Func} {nt : Nat} {rs : List ResultVar}
theorem vw0  {p : Vw → Prop} {g : Vw → D} {w : Option (Vw → List (Int × (Int × Int)))} (hf : P.funcs[f]? = some fn) (hnt : fn.ntmps = nt) (hrs : fn.results.toList = rs) (hn : (fn.name == "runtime.NumGoroutine") = false) (hy : f < 1000000000) (hcl : ∀ x , D.clos (fun _ => false) (g x ) = true)
  (hb : ∃ cc, fn.body = some cc ∧ 1 ≤ nt ∧ ∀ x , p x  → ∀ H : Name → Option O, H [0, 1] = some (boxV x [1, 1] [2, 1]) → H [1, 1] = some (.map 2 (encBk x.bk)) → H [2, 1] = some (.map 0 (encDs x.ds)) →
   (∀ hs, OutC [0] (domOf [0] hs) H = True) → (∀ hs es, OutC [0] (domOf [0] hs) (fun nm => if nm = [2, 1] then some (.map 0 es) else H nm) = True) →
   CL P [cc] (mkS nt [0] H (argsD 0 (.ref [0, 1] 0 :: [].map .v)) []) (retV P rs x (g x ) (w.map fun w => w x ))) : SSound P f (v0  p g w).toSpec := by
 obtain ⟨cc, hc, h1, h⟩ := hb
 refine vsound hf hnt hrs hn hy (fun x xs hp => by
  obtain ⟨rfl, _, hg, _⟩ := v0_elim hp
  rw [hg]; exact hcl x ) ⟨cc, hc, fun x xs hp => ?_⟩
 obtain ⟨rfl, hp, hg, hw⟩ := v0_elim hp
 rw [hg, hw]
 exact ⟨h1, h x  hp⟩
theorem vw1 {α : Type} {A : En α} {p : Vw → α → Prop} {g : Vw → α → D} {w : Option (Vw → α → List (Int × (Int × Int)))} (hf : P.funcs[f]? = some fn) (hnt : fn.ntmps = nt) (hrs : fn.results.toList = rs) (hn : (fn.name == "runtime.NumGoroutine") = false) (hy : f < 1000000000) (hcl : ∀ x a, D.clos (fun _ => false) (g x a) = true)
  (hb : ∃ cc, fn.body = some cc ∧ 2 ≤ nt ∧ ∀ x a, p x a → ∀ H : Name → Option O, H [0, 1] = some (boxV x [1, 1] [2, 1]) → H [1, 1] = some (.map 2 (encBk x.bk)) → H [2, 1] = some (.map 0 (encDs x.ds)) →
   (∀ hs, OutC [0] (domOf [0] hs) H = True) → (∀ hs es, OutC [0] (domOf [0] hs) (fun nm => if nm = [2, 1] then some (.map 0 es) else H nm) = True) →
   CL P [cc] (mkS nt [0] H (argsD 0 (.ref [0, 1] 0 :: [A.enc a].map .v)) []) (retV P rs x (g x a) (w.map fun w => w x a))) : SSound P f (v1 A p g w).toSpec := by
 obtain ⟨cc, hc, h1, h⟩ := hb
 refine vsound hf hnt hrs hn hy (fun x xs hp => by
  obtain ⟨a, rfl, _, hg, _⟩ := v1_elim hp
  rw [hg]; exact hcl x a) ⟨cc, hc, fun x xs hp => ?_⟩
 obtain ⟨a, rfl, hp, hg, hw⟩ := v1_elim hp
 rw [hg, hw]
 exact ⟨h1, h x a hp⟩
theorem vw2 {α β : Type} {A : En α} {B : En β} {p : Vw → α → β → Prop} {g : Vw → α → β → D} {w : Option (Vw → α → β → List (Int × (Int × Int)))} (hf : P.funcs[f]? = some fn) (hnt : fn.ntmps = nt) (hrs : fn.results.toList = rs) (hn : (fn.name == "runtime.NumGoroutine") = false) (hy : f < 1000000000) (hcl : ∀ x a b, D.clos (fun _ => false) (g x a b) = true)
  (hb : ∃ cc, fn.body = some cc ∧ 3 ≤ nt ∧ ∀ x a b, p x a b → ∀ H : Name → Option O, H [0, 1] = some (boxV x [1, 1] [2, 1]) → H [1, 1] = some (.map 2 (encBk x.bk)) → H [2, 1] = some (.map 0 (encDs x.ds)) →
   (∀ hs, OutC [0] (domOf [0] hs) H = True) → (∀ hs es, OutC [0] (domOf [0] hs) (fun nm => if nm = [2, 1] then some (.map 0 es) else H nm) = True) →
   CL P [cc] (mkS nt [0] H (argsD 0 (.ref [0, 1] 0 :: [A.enc a, B.enc b].map .v)) []) (retV P rs x (g x a b) (w.map fun w => w x a b))) : SSound P f (v2 A B p g w).toSpec := by
 obtain ⟨cc, hc, h1, h⟩ := hb
 refine vsound hf hnt hrs hn hy (fun x xs hp => by
  obtain ⟨a, b, rfl, _, hg, _⟩ := v2_elim hp
  rw [hg]; exact hcl x a b) ⟨cc, hc, fun x xs hp => ?_⟩
 obtain ⟨a, b, rfl, hp, hg, hw⟩ := v2_elim hp
 rw [hg, hw]
 exact ⟨h1, h x a b hp⟩
end
attribute [go_sem] v0 v1 v2 v3 retV Option.map_some Option.map_none Option.getD_some Option.getD_none
attribute [go_sem] VSpec.toSpec VSpec.app getV okV boxV decVw
noncomputable section
def K16 : List (Nat × Spec) := [(166, S166)]
theorem K16_sound : KS K16 := tc s166.sound <| tn
attribute [go_sem] K16
def zeroR : Rec := ⟨0, 0, 0, [], 0, 0, 0⟩
def rdRc (r : Rec) : D := .agg [.v (vInt r.so), .v (vInt r.bo), .v (vInt r.pa), .v (.sl (r.lv.map vInt)), .v (vInt r.da), .v (vInt r.kn), .v (vInt r.un)]
attribute [go_sem] rdRc
def rdO : Option Rec → D
 | some r => rdRc r
 | none => .agg [.v (vInt 0), .v (vInt 0), .v (vInt 0), .nilsl, .v (vInt 0), .v (vInt 0), .v (vInt 0)]
theorem rdO_clos (r : Option Rec) (p : Name → Bool) : D.clos p (rdO r) = true := by cases r <;> rfl
def rcOf (l : List Rec) (s : Int) : Option Rec := l.find? fun r => r.so == s
theorem rcOf_none {l : List Rec} {s : Int} (h : idxF (fun x => x.so == s) l < 0) : rcOf l s = none := by
 unfold rcOf
 rw [List.find?_eq_none]
 intro x hx hp
 unfold idxF at h
 rw [if_pos (List.any_eq_true.2 ⟨x, hx, hp⟩)] at h
 omega
theorem rcOf_some {l : List Rec} {s : Int} (h : ¬ idxF (fun x => x.so == s) l < 0) : ∃ (i : Nat) (hi : i < l.length), idxF (fun x => x.so == s) l = i ∧ rcOf l s = some l[i] := by
 unfold idxF at h ⊢
 split at h
 ·rename_i hany
  have hlt : l.findIdx (fun x => x.so == s) < l.length := List.findIdx_lt_length_of_exists (by obtain ⟨x, hx, hp⟩ := List.any_eq_true.1 hany; exact ⟨x, hx, hp⟩)
  rw [if_pos hany]
  refine ⟨_, hlt, rfl, ?_⟩
  unfold rcOf
  rw [List.find?_eq_some_iff_getElem]
  exact ⟨List.findIdx_getElem (w := hlt), _, hlt, rfl, fun j hj => by simpa using List.not_of_lt_findIdx hj⟩
 ·omega
def V77 : VSpec := v1 iI (fun _ _ => True) (fun x s => .tup [rdO (rcOf x.rs s), .v (.bool (rcOf x.rs s).isSome)]) none
def S77 : Spec := V77.toSpec
attribute [go_sem] V77 S77
set_option maxHeartbeats 4000000 in
theorem k77 : SSound Tryz.prog 77 S77 := by
 refine vw1 (rs := [.cell 4 36, .tmp 5]) Tryz.func77 Tryz.ntmps77 (by rfl) (by kernel_rfl) (by decide) (fun _ _ => by first | rfl | exact rdO_clos _ _ | simp [D.clos, D.closL, rdO_clos]) ⟨_, rfl, lb rfl, fun x s hp H h0 h1 h2 hO hO2 => ?_⟩
 simp only [iI, boxV, argsD, List.map_cons, List.map_nil, Nat.zero_add, Option.map_none] at h0 ⊢
 have hΓ := K16_sound
 repeat refine sq ?_
 refine rx hΓ [0,3,4] [[3, 0],[4, 0]] (fun K' hK => by simp only [go_sem]; (repeat (refine ⟨obx, ?_⟩)); exact hK _ (by simp only [go_sem, hO]) (by simp only [go_sem] <;> rfl)) ?_
 repeat refine sq ?_
 refine rx hΓ [0,4,6] [[4, 0]] (fun K' hK => by simp only [go_sem, h0, or_true]; (repeat (refine ⟨obx, ?_⟩)); exact hK _ (by simp only [go_sem, hO]) (by simp only [go_sem] <;> rfl)) ?_
 repeat refine sq ?_
 refine rx hΓ [0,4,6,14] [[4, 0]] (fun K' hK => by simp only [go_sem]; (repeat (refine ⟨obx, ?_⟩)); exact hK _ (by simp only [go_sem, hO]) (by simp only [go_sem] <;> rfl)) ?_
 refine cnd (fun hb => ?_) fun hb => ?_
 ·repeat refine sq ?_
  have e : rcOf x.rs s = none := rcOf_none (by simpa using hb)
  refine rx hΓ [4,5] [[4, 0]] (fun K' hK => by simp only [go_sem]; (repeat (refine ⟨obx, ?_⟩)); exact hK _ (by simp only [go_sem, hO]) (by simp only [go_sem] <;> rfl)) ?_
  refine cl_ret ?_
  simp only [go_sem, h0, h1, h2]
  rw [e]; rfl
 ·obtain ⟨i, hi, e1, e⟩ := rcOf_some (by simpa using hb)
  have hi' : (i : Int) < x.rs.length := by omega
  rw [e1]
  refine cl_skip ?_
  repeat refine sq ?_
  refine rx hΓ [4,5] [[4, 0]] (fun K' hK => by simp only [go_sem, h0, map_getD hi, tnI, nnI, hi']; (repeat (refine ⟨obx, ?_⟩)); exact hK _ (by simp only [go_sem, hO]) (by simp only [go_sem] <;> rfl)) ?_
  refine cl_ret ?_
  simp only [go_sem, h0, h1, h2]
  rw [e]; rfl
end
noncomputable section
structure Rg where
 (lo hi : Int)
 deriving Inhabited, DecidableEq
def encRg (r : Rg) : V := .agg [vInt r.lo, vInt r.hi]
def decRg : V → Rg
 | .agg [.int _ a, .int _ b] => ⟨a, b⟩
 | _ => default
def iRg : En Rg := ⟨encRg, decRg⟩
attribute [go_sem] encRg decRg iRg
@[go_sem] theorem etaRg (p : Rg) : (⟨p.lo, p.hi⟩ : Rg) = p := rfl
def dsAt : List (Int × (Int × Int)) → Int → Int × Int
 | [], _ => (0, 0)
 | (k, d) :: r, i => if k = i then d else dsAt r i
def dsSet : List (Int × (Int × Int)) → Int → Int × Int → List (Int × (Int × Int))
 | [], i, d => [(i, d)]
 | (k, e) :: r, i, d => if k = i then (i, d) :: r else (k, e) :: dsSet r i d
theorem mget_ds (d : List (Int × (Int × Int))) (i : Int) : (mget (encDs d) (vInt i)).getD (.agg [vInt 0, vInt 0]) = .agg [vInt (dsAt d i).1, vInt (dsAt d i).2] := by
 induction d with
 | nil => rfl
 | cons q r ih =>
  obtain ⟨k, e⟩ := q
  show (if keq (vInt k) (vInt i) = true then some (V.agg [vInt e.1, vInt e.2]) else mget (encDs r) (vInt i)).getD _ = _
  by_cases h : k = i
  ·subst h; simp [keq, dsAt]
  ·have h' : (k == i) = false := by simpa using h
   simp only [keq, h', Bool.false_eq_true, if_false, dsAt, h]
   exact ih
theorem mset_ds (d : List (Int × (Int × Int))) (i a b : Int) : mset (encDs d) (vInt i) (.agg [vInt a, vInt b]) = encDs (dsSet d i (a, b)) := by
 induction d with
 | nil => rfl
 | cons q r ih =>
  obtain ⟨k, e⟩ := q
  show (if keq (vInt k) (vInt i) = true then (vInt i, V.agg [vInt a, vInt b]) :: encDs r else (vInt k, V.agg [vInt e.1, vInt e.2]) :: mset (encDs r) (vInt i) (.agg [vInt a, vInt b])) = _
  by_cases h : k = i
  ·subst h; simp [keq, dsSet, encDs]
  ·have h' : (k == i) = false := by simpa using h
   simp only [keq, h', Bool.false_eq_true, if_false, dsSet, h, ih]
   rfl
def maxI (a b : Int) : Int := if b > a then b else a
def minI (a b : Int) : Int := if b < a then b else a
def narD (x : Vw) (i : Int) (r : Rg) : List (Int × (Int × Int)) := dsSet x.ds i (maxI (dsAt x.ds i).1 r.lo, minI (dsAt x.ds i).2 r.hi)
def V165 : VSpec := v2 iI iRg (fun _ _ _ => True) (fun _ _ _ => .tup []) (some narD)
def S165 : Spec := V165.toSpec
attribute [go_sem] V165 S165
set_option maxHeartbeats 4000000 in
theorem k165 : SSound Tryz.prog 165 S165 := by
 refine vw2 (rs := []) Tryz.func165 Tryz.ntmps165 (by rfl) (by kernel_rfl) (by decide) (fun _ _ _ => by first | rfl | simp [D.clos, D.closL, rdO_clos]) ⟨_, rfl, lb rfl, fun x i r hp H h0 h1 h2 hO hO2 => ?_⟩
 have hP := mixedK
 simp only [iI, iRg, encRg, boxV, argsD, List.map_cons, List.map_nil, Nat.zero_add, Option.map_some] at h0 ⊢
 have hΓ := @no_sound Tryz.prog
 repeat refine sq ?_
 refine rx hΓ [0,1,5] [[5, 0]] (fun K' hK => by simp only [go_sem]; (repeat (refine ⟨obx, ?_⟩)); exact hK _ (by simp only [go_sem, hO]) (by simp only [go_sem] <;> rfl)) ?_
 repeat refine sq ?_
 refine rx hΓ [0,1,5,6] [[5, 0],[6, 0]] (fun K' hK => by simp only [go_sem, h0, h2, mget_ds]; (repeat (refine ⟨obx, ?_⟩)); exact hK _ (by simp only [go_sem, hO]) (by simp only [go_sem] <;> rfl)) ?_
 refine cl_d hΓ hP [[], [0], [0, 1], [0, 1, 2], [], [], [5], [], [7], [5, 6, 7, 8], [], [10], [], [12], [10, 11, 12, 13], [5, 6, 7, 8, 9, 10, 11, 12, 13, 14], u16] (by kernel_rfl) fun K' hK => ?_
 simp only [go_sem, h0, h2, mset_ds]
 repeat (refine ⟨obx, ?_⟩)
 first | refine ⟨by rfl, ?_⟩ | skip
 refine hK _ ?_
 clear K' hK
 simp only [go_sem]
 exact ⟨h0, h1, rfl⟩
end
def recsK (l : Led) (k : Int) : List Rec := l.rs.filter fun r => countsB r.kn r.un k
def sgK (l : Led) (k : Int) : List Sig := l.ss.filter fun s => countsB s.kn s.un k
def hitB (pa : Int) (lv : List Int) (r : Rec) : Bool := r.pa == pa && r.lv.any fun n => lv.contains n
def withK (rs : List Rec) (pa : Int) (lv : List Int) : List Rec := rs.filter (hitB pa lv)
abbrev Bk := List ((Int × Int) × Int)
abbrev Ds := List (Int × (Int × Int))
def bkAt : Bk → Int × Int → Option Int
 | [], _ => none
 | (k, i) :: r, q => if k = q then some i else bkAt r q
def bkSet : Bk → Int × Int → Int → Bk
 | [], q, i => [(q, i)]
 | (k, e) :: r, q, i => if k = q then (q, i) :: r else (k, e) :: bkSet r q i
theorem keq_pair (a b c d : Int) : keq (.agg [vInt a, vInt b]) (.agg [vInt c, vInt d]) = decide ((a, b) = (c, d)) := by
 show (a == c && b == d) = _
 by_cases h1 : a = c <;> by_cases h2 : b = d <;> simp [h1, h2]
theorem mget_bk (b : Bk) (p f : Int) : mget (encBk b) (.agg [vInt p, vInt f]) = (bkAt b (p, f)).map vInt := by
 induction b with
 | nil => rfl
 | cons q r ih =>
  obtain ⟨⟨k1, k2⟩, i⟩ := q
  show (if keq (.agg [vInt k1, vInt k2]) (.agg [vInt p, vInt f]) = true then some (vInt i) else mget (encBk r) (.agg [vInt p, vInt f])) = _
  rw [ih, keq_pair]
  simp only [bkAt]
  by_cases h : (k1, k2) = (p, f)
  ·rw [if_pos h, if_pos (by simpa using h)]; rfl
  ·rw [if_neg h, if_neg (by simpa using h)]
theorem mset_bk (b : Bk) (p f i : Int) : mset (encBk b) (.agg [vInt p, vInt f]) (vInt i) = encBk (bkSet b (p, f) i) := by
 induction b with
 | nil => rfl
 | cons q r ih =>
  obtain ⟨⟨k1, k2⟩, e⟩ := q
  show (if keq (.agg [vInt k1, vInt k2]) (.agg [vInt p, vInt f]) = true then (V.agg [vInt p, vInt f], vInt i) :: encBk r else (.agg [vInt k1, vInt k2], vInt e) :: mset (encBk r) (.agg [vInt p, vInt f]) (vInt i)) = _
  rw [ih, keq_pair]
  simp only [bkSet]
  by_cases h : (k1, k2) = (p, f)
  ·rw [if_pos h, if_pos (by simpa using h)]; rfl
  ·rw [if_neg h, if_neg (by simpa using h)]; rfl
def nar (d : Ds) (i : Int) (r : Rg) : Ds := dsSet d i (maxI (dsAt d i).1 r.lo, minI (dsAt d i).2 r.hi)
def tsAt (l : Led) (i : Nat) : Ret := l.ts.getD i default
def newB (k : Int) (rs : List Rec) (bk : Bk) (x : Ret) : Option Rec := match rcOf rs x.re with
 | none => none
 | some r => if countsB x.kn x.un k && !(decide (maxI x.lo (r.da + 1) > x.hi) || x.lv.any fun f => (bkAt bk (r.so, f)).isSome || !r.lv.contains f) then some r else none
def bkAll (b : Bk) (so : Int) (i : Int) (lv : List Int) : Bk := lv.foldl (fun b f => bkSet b (so, f) i) b
def lkStep (l : Led) (k : Int) (v : Vw) (i : Nat) : Vw := match newB k v.rs v.bk (tsAt l i) with
 | none => v
 | some r => { v with bk := bkAll v.bk r.so i (tsAt l i).lv, ts := v.ts ++ [(i : Int)], ds := dsSet v.ds i (maxI (tsAt l i).lo (r.da + 1), (tsAt l i).hi) }
def lkTo (l : Led) (k : Int) : Nat → Vw
 | 0 => ⟨l, recsK l k, [], [], []⟩
 | s + 1 => lkStep l k (lkTo l k s) s
def rcD (rs : List Rec) (s : Int) : Rec := (rcOf rs s).getD zeroR
def nrL (d : Ds) (i da : Int) (os : List Rec) : Ds := os.foldl (fun d o => if o.da > da then nar d i ⟨0, o.da⟩ else d) d
def lk3 (l : Led) (rs : List Rec) (ts : List Int) (d : Ds) : Nat → Ds
 | 0 => d
 | j + 1 => nrL (lk3 l rs ts d j) (ts.getD j 0) (rcD rs (tsAt l (ts.getD j 0).toNat).re).da (withK rs (rcD rs (tsAt l (ts.getD j 0).toNat).re).pa (tsAt l (ts.getD j 0).toNat).lv)
def lookV (l : Led) (k : Int) : Vw := { lkTo l k l.ts.length with ds := lk3 l (recsK l k) (lkTo l k l.ts.length).ts (lkTo l k l.ts.length).ds (lkTo l k l.ts.length).ts.length }
theorem lkStep_fix (l : Led) (k : Int) (v : Vw) (i : Nat) : (lkStep l k v i).l = v.l ∧ (lkStep l k v i).rs = v.rs := by
 unfold lkStep
 split <;> exact ⟨rfl, rfl⟩
theorem lkTo_fix (l : Led) (k : Int) (i : Nat) : (lkTo l k i).l = l ∧ (lkTo l k i).rs = recsK l k := by
 induction i with
 | zero => exact ⟨rfl, rfl⟩
 | succ i ih =>
  have := lkStep_fix l k (lkTo l k i) i
  exact ⟨this.1.trans ih.1, this.2.trans ih.2⟩
def dblA (x : Vw) (a b : Rec) : Bool := a.lv.any fun f => (a.pa == b.pa && b.lv.contains f) && (a.da == b.da || match bkAt x.bk (a.so, f) with
 | none => true
 | some i => decide (maxI (tsAt x.l i.toNat).lo (a.da + 1) > b.da))
def dblB (x : Vw) (a b : Rec) : Bool := if a.da > b.da then dblA x b a else dblA x a b
def pairAt (x : Vw) (i : Nat) : Option (Int × Int) := ((x.rs.drop (i + 1)).find? (dblB x (x.rs.getD i zeroR))).map fun b => ((x.rs.getD i zeroR).so, b.so)
def pairK (x : Vw) : Option (Int × Int) := (List.range x.rs.length).findSome? (pairAt x)
def atStep (day : Int) (o : Option Rec) (r : Rec) : Option Rec := if decide (r.da ≤ day) && (o.isNone || decide (r.da ≥ (o.getD zeroR).da)) then some r else o
def atK (rs : List Rec) (pa le day : Int) : Option Rec := (withK rs pa [le]).foldl (atStep day) none
def allR : Rg := ⟨0, 100000⟩
def noR : Rg := ⟨1, 0⟩
def wantsK (x : Vw) (s : Sig) : Int × Rg := match atK x.rs s.pa s.le s.da with
 | none => if s.pe = 0 then (-1, allR) else (-1, noR)
 | some r => match bkAt x.bk (r.so, s.le) with
  | none => if s.pe = r.bo then (-1, allR) else (-1, noR)
  | some i => if s.pe = 0 then (i, ⟨0, s.da⟩) else if s.pe = r.bo then (i, ⟨s.da + 1, 100000⟩) else (-1, noR)
def fitStep (x : Vw) (d : Ds) (s : Sig) : Ds := if (wantsK x s).1 ≥ 0 then nar d (wantsK x s).1 (wantsK x s).2 else d
def fitD (x : Vw) (d : Ds) (l : List Sig) : Ds := l.foldl (fitStep x) d
def mayS (x : Vw) (s : Sig) : Bool := decide ((wantsK x s).1 ≥ 0) || !decide ((wantsK x s).2.lo > (wantsK x s).2.hi)
def fineD (ts : List Int) (d : Ds) : Bool := ts.all fun i => decide ((dsAt d i).1 ≤ (dsAt d i).2)
def fitB (x : Vw) (l : List Sig) : Bool := l.all (mayS x) && fineD x.ts (fitD x x.ds l)
open Go
def objAll (obj : Name → Option O) : List Name → List O → Prop
 | [], [] => True
 | x :: xs, o :: os => obj x = some o ∧ objAll obj xs os
 | _, _ => False
theorem objAll_iff {obj : Name → Option O} : ∀ {Ls : List Name} {F : List O}, objAll obj Ls F ↔ Ls.map obj = F.map some
 | [], [] => by simp [objAll]
 | x :: xs, o :: os => by simp only [objAll, List.map_cons, List.cons.injEq, objAll_iff]
 | [], _ :: _ => by simp [objAll]
 | _ :: _, [] => by simp [objAll]
theorem objAll_agr {obj obj2 : Name → Option O} {Ls : List Name} {F : List O} (h : objAll obj Ls F) (ha : ∀ x ∈ Ls, obj2 x = obj x) : objAll obj2 Ls F := by
 rw [objAll_iff] at h ⊢
 rw [← h]
 exact List.map_congr_left ha
theorem objAll_get {obj : Name → Option O} : ∀ {Ls : List Name} {F : List O}, objAll obj Ls F → ∀ i (h : i < Ls.length) (h' : i < F.length), obj Ls[i] = some F[i]
 | _ :: _, _ :: _, h, 0, _, _ => h.1
 | _ :: _, _ :: _, h, i + 1, h1, h2 => by
  simp only [List.getElem_cons_succ]
  exact objAll_get h.2 i (by simpa using h1) (by simpa using h2)
def pdK (K : Exit → S → Prop) (σ : S) : Option Code → Prop
 | none => K .normal σ
 | some .ret => K .ret σ
 | some (.exit id) => K (.exit id) σ
 | _ => False
theorem leftK_of {K : Exit → S → Prop} {obj : Name → Option O} {nm : Name} {σ : S} {env : List E} {ps : List Nat} {a b : Code} (pd : Option Code) (h : obj nm = some (.loop env ps a b (if pd.isNone then .ready else .done) pd))
  (hK : pdK K σ pd) : leftK K obj nm σ := by
 unfold leftK
 rw [h]
 rcases pd with _ | c
 ·exact hK
 ·cases c <;> first | exact hK.elim | exact hK
def LR (m : Nat) : List Name := (List.range m).map fun i => [i, 1]
def LI (m : Nat) : List Name := (List.range m).map fun i => [i + 1, 1]
theorem LR_len (m : Nat) : (LR m).length = m := by simp [LR]
theorem LI_len (m : Nat) : (LI m).length = m := by simp [LI]
theorem LR_nodup (m : Nat) : (LR m).Nodup := by
 unfold LR
 exact List.Pairwise.map _ (fun a b h => by simpa using h) List.nodup_range
theorem cin_all {Ls : List Name} (hn : Ls.Nodup) : Ls.map (cin Ls) = LR Ls.length := by
 refine List.ext_getElem (by simp [LR]) fun i h1 h2 => ?_
 simp only [List.getElem_map, LR, List.getElem_range, cin]
 rw [idx_at hn (by simpa using h1)]
theorem cin_next {R : Name} {Ls : List Name} (hn : Ls.Nodup) (hR : R ∉ Ls) : Ls.map (cin (R :: Ls)) = LI Ls.length := by
 refine List.ext_getElem (by simp [LI]) fun i h1 h2 => ?_
 simp only [List.getElem_map, LI, List.getElem_range, cin]
 have h3 : i < Ls.length := by simpa using h1
 have h4 := idx_at (L := R :: Ls) (List.nodup_cons.2 ⟨hR, hn⟩) (i := i + 1) (by simp; omega)
 simp only [List.getElem_cons_succ] at h4
 rw [h4]
theorem cout_all (Ls : List Name) (t : Name) : (LR Ls.length).map (cout Ls t) = Ls := by
 refine List.ext_getElem (by simp [LR]) fun i h1 h2 => ?_
 simp only [List.getElem_map, LR, List.getElem_range, cout]
 exact getD_mem h2
theorem cout_next (R : Name) (Ls : List Name) (t : Name) : (LI Ls.length).map (cout (R :: Ls) t) = Ls := by
 refine List.ext_getElem (by simp [LI]) fun i h1 h2 => ?_
 simp only [List.getElem_map, LI, List.getElem_range, cout]
 rw [getD_mem (by simpa using h2)]
 simp
def setLs : List Name → List O → (Name → Option O) → (Name → Option O)
 | x :: xs, o :: os, obj => setLs xs os (upd obj x (some o))
 | _, _, obj => obj
theorem setLs_ne : ∀ {Ls : List Name} {F : List O} {obj : Name → Option O} {x : Name}, x ∉ Ls → setLs Ls F obj x = obj x
 | [], _, _, _, _ => by simp [setLs]
 | _ :: _, [], _, _, _ => by simp [setLs]
 | y :: ys, o :: os, obj, x, h => by
  simp only [List.mem_cons, not_or] at h
  simp only [setLs]
  rw [setLs_ne h.2, upd_ne _ _ _ h.1]
theorem setLs_all : ∀ {Ls : List Name} {F : List O} {obj : Name → Option O}, Ls.Nodup → Ls.length = F.length → objAll (setLs Ls F obj) Ls F
 | [], [], _, _, _ => trivial
 | [], _ :: _, _, _, h => by simp at h
 | _ :: _, [], _, _, h => by simp at h
 | y :: ys, o :: os, obj, hn, h => by
  rw [List.nodup_cons] at hn
  refine ⟨?_, setLs_all (obj := upd obj y (some o)) hn.2 (by simpa using h)⟩
  simp only [setLs]
  rw [setLs_ne hn.1, upd_same]
def upds : Nat → List O → List (Nat × O)
 | _, [] => []
 | k, o :: r => (k, o) :: upds (k + 1) r
theorem putU_upds {t : Name} {L : List Name} : ∀ {Ls : List Name} {k : Nat} {F : List O} {obj : Name → Option O}, Ls.length = F.length → (∀ i (h : i < Ls.length), L.getD (k + i) [] = Ls[i]) →
  putU L t (upds k F) obj = setLs Ls (F.map (O.ren (cout L t))) obj
 | [], k, [], obj, _, _ => rfl
 | [], k, _ :: _, obj, h, _ => by simp at h
 | _ :: _, k, [], obj, h, _ => by simp at h
 | x :: xs, k, o :: os, obj, h, hL => by
  simp only [upds, putU, List.map_cons, setLs]
  have h0 := hL 0 (by simp)
  simp only [Nat.add_zero, List.getElem_cons_zero] at h0
  rw [h0]
  exact putU_upds (by simpa using h) fun i hi => by
   have := hL (i + 1) (by simpa using hi)
   rw [show k + 1 + i = k + (i + 1) by omega]
   simpa using this
theorem lastU_other : ∀ {F : List O} {k i : Nat} {o : O}, i < k → lastU (upds k F) i o = o
 | [], k, i, o, _ => rfl
 | f :: r, k, i, o, h => by
  simp only [upds, lastU]
  rw [if_neg (by omega)]
  exact lastU_other (by omega)
theorem objsOk_upds {σ : S} : ∀ {F os : List O} {k : Nat} {u : List (Nat × O)}, F.length = os.length → (∀ i, k ≤ i → ∀ o, lastU u i o = lastU (upds k F) i o) →
  (∀ i (h : i < F.length), σ.obj [k + i, 1] = some F[i]) → objsOk σ u k os
 | [], [], _, _, _, _, _ => trivial
 | [], _ :: _, _, _, h, _, _ => by simp at h
 | _ :: _, [], _, _, h, _, _ => by simp at h
 | f :: fs, o :: os, k, u, h, hu, hs => by
  refine ⟨?_, objsOk_upds (F := fs) (by simpa using h) (fun i hi x => ?_) fun i hi => ?_⟩
  ·have h0 := hs 0 (by simp)
   simp only [Nat.add_zero, List.getElem_cons_zero] at h0
   rw [h0, hu k (Nat.le_refl _) o]
   simp only [upds, lastU, if_true]
   rw [lastU_other (by omega)]
  ·rw [hu i (by omega) x]
   simp only [upds, lastU]
   rw [if_neg (by omega)]
  ·have := hs (i + 1) (by simpa using hi)
   rw [show k + 1 + i = k + (i + 1) by omega]
   simpa using this
structure Lp where
 m : Nat
 env : List Name → List E
 fam : List Name → Nat → List O
 ps : List Nat
 asg : Code
 body : Code
 n : Nat
 vals : Nat → List D
 st : Nat → Option Code
 fu : Nat
structure Lp.Ok (r : Lp) : Prop where
 len : ∀ Ls s, Ls.length = r.m → (r.fam Ls s).length = r.m
 renE : ∀ f Ls, Ls.length = r.m → (r.env Ls).map (E.ren f) = r.env (Ls.map f)
 renF : ∀ f Ls s, Ls.length = r.m → (r.fam Ls s).map (O.ren f) = r.fam (Ls.map f) s
 reach : ∀ Ls s obj acc k, Ls.length = r.m → Ls.Nodup → (∀ x ∈ Ls, x ∉ acc) → objAll obj Ls (r.fam Ls s) → reachL obj (k + r.fu) (namesL ((r.env Ls).map (·.d))) acc = acc ++ Ls
 closE : ∀ dom Ls, Ls.length = r.m → (∀ x ∈ Ls, dom x = true) → D.closL dom ((r.env Ls).map (·.d)) = true
 closF : ∀ dom Ls s, Ls.length = r.m → (∀ x ∈ Ls, dom x = true) → ∀ o ∈ r.fam Ls s, O.clos dom o = true
 psz : ∀ Ls, Ls.length = r.m → (r.ps.all fun p => decide (p < (r.env Ls).length)) = true
 args : ∀ s, (r.vals s).length = r.ps.length
 fuel : r.fu ≤ 2000
 vnam : ∀ s, namesL (r.vals s) = []
 vcl : ∀ s dom, D.closL dom (r.vals s) = true
 vren : ∀ s f, D.renL f (r.vals s) = r.vals s
 inj : ∀ s s', s < r.n → s' < r.n → r.vals s = r.vals s' → s = s'
theorem names_vals (a : List D) : ∀ vs : List V, namesL (a ++ vs.map D.v) = namesL a := by
 intro vs
 have h0 : ∀ vs : List V, namesL (vs.map D.v) = [] := by
  intro vs
  induction vs with
  | nil => rfl
  | cons x r ih => simp only [List.map_cons, namesL, namesD, List.nil_append, ih]
 induction a with
 | nil => simpa [namesL] using h0 vs
 | cons x r ih => simp only [List.cons_append, namesL, ih]
theorem closL_vals (dom : Name → Bool) (vs : List V) : ∀ a : List D, D.closL dom (a ++ vs.map D.v) = D.closL dom a := by
 have h0 : ∀ vs : List V, D.closL dom (vs.map D.v) = true := by
  intro vs
  induction vs with
  | nil => rfl
  | cons x r ih => simp only [List.map_cons, D.closL, D.clos, ih, Bool.and_self]
 intro a
 induction a with
 | nil => simpa [D.closL] using h0 vs
 | cons x r ih => simp only [List.cons_append, D.closL, ih]
theorem renL_vals (f : Name → Name) (vs : List V) : D.renL f (vs.map D.v) = vs.map D.v := by
 induction vs with
 | nil => rfl
 | cons x r ih => simp only [List.map_cons, D.renL, D.ren, ih]
theorem names_app (a b : List D) : namesL (a ++ b) = namesL a ++ namesL b := by
 induction a with
 | nil => rfl
 | cons x r ih => simp only [List.cons_append, namesL, ih, List.append_assoc]
theorem closL_app (dom : Name → Bool) (a b : List D) : D.closL dom (a ++ b) = (D.closL dom a && D.closL dom b) := by
 induction a with
 | nil => simp [D.closL]
 | cons x r ih => simp only [List.cons_append, D.closL, ih, Bool.and_assoc]
noncomputable def Lp.y (r : Lp) : YSpec where
 pre := fun env ps asg body os ds => ∃ s, s < r.n ∧ (∀ j, j < s → r.st j = none) ∧ env = r.env (LR r.m) ∧ ps = r.ps ∧ asg = r.asg ∧ body = r.body ∧ os = r.fam (LR r.m) s ∧ ds = r.vals s
 out := fun _ _ _ _ _ ds => by
  classical exact if h : ∃ s, s < r.n ∧ ds = r.vals s then (⟨upds 0 (r.fam (LR r.m) (h.choose + 1)), [], .v (.bool true)⟩, r.st h.choose) else (⟨[], [], .any⟩, none)
theorem Lp.y_out {r : Lp} (hr : r.Ok) {s : Nat} (hs : s < r.n) (env : List E) (ps : List Nat) (asg body : Code) (os : List O) :
  r.y.out env ps asg body os (r.vals s) = (⟨upds 0 (r.fam (LR r.m) (s + 1)), [], .v (.bool true)⟩, r.st s) := by
 have h : ∃ s', s' < r.n ∧ r.vals s = r.vals s' := ⟨s, hs, rfl⟩
 have e : h.choose = s := (hr.inj _ _ hs h.choose_spec.1 h.choose_spec.2).symm
 simp only [Lp.y]
 rw [dif_pos h, e]
def retL (m : Nat) (F : List O) (p : Option Code) : Exit → S → Prop
 | .normal, σ => p = none ∧ objAll σ.obj (LR m) F
 | .ret, σ => p = some .ret ∧ objAll σ.obj (LR m) F
 | .exit id, σ => p = some (.exit id) ∧ objAll σ.obj (LR m) F
 | _, _ => False
theorem endC_of {os F : List O} {σ : S} {m : Nat} (h1 : os.length = m) (h2 : F.length = m) (hc : ∀ dom : Name → Bool, (∀ x ∈ LR m, dom x = true) → ∀ o ∈ F, O.clos dom o = true) (h : objAll σ.obj (LR m) F) :
  endC os ⟨upds 0 F, [], .v (.bool true)⟩ σ := by
 have hget : ∀ i (hi : i < F.length), σ.obj [i, 1] = some F[i] := by
  rw [objAll_iff] at h
  intro i hi
  have h3 := congrArg (fun l => l[i]?) h
  have hi' : i < m := by omega
  simpa [LR, hi, hi'] using h3
 refine ⟨objsOk_upds (F := F) (by omega) (fun i _ o => rfl) fun i hi => by rw [Nat.zero_add]; exact hget i hi, trivial, ?_⟩
 have hdom : ∀ x ∈ LR m, domC os.length [] x = true := by
  intro x hx
  obtain ⟨i, hi, rfl⟩ := List.mem_map.1 hx
  have := List.mem_range.1 hi
  simp [domC]
  omega
 have hall : ∀ (F' : List O) (k : Nat), (∀ o ∈ F', O.clos (domC os.length []) o = true) → k + F'.length ≤ os.length → ((upds k F').all fun x => O.clos (domC os.length []) x.2 && decide (x.1 < os.length)) = true := by
  intro F'
  induction F' with
  | nil => intros; rfl
  | cons f fs ih =>
   intro k hf hk
   simp only [List.length_cons] at hk
   simp only [upds, List.all_cons, Bool.and_eq_true, decide_eq_true_eq]
   exact ⟨⟨hf f (by simp), by omega⟩, by have := ih (k + 1) (fun o ho => hf o (by simp [ho])) (by omega); simpa using this⟩
 have := hall F 0 (hc _ hdom) (by omega)
 simp only [D.clos, this, List.all_nil, List.map_nil, distinct, Bool.and_self]
theorem Lp.y_sound {P : Program} {r : Lp} (hr : r.Ok) (h : ∀ s, s < r.n → (∀ j, j < s → r.st j = none) →
   CW P r.asg ⟨(r.env (LR r.m)).length, setP (envF (r.env (LR r.m))) r.ps (r.vals s), outH (r.fam (LR r.m) s), [0], 0⟩ (onlyK fun σ1 => CW P r.body σ1 (retL r.m (r.fam (LR r.m) (s + 1)) (r.st s)))) : SSound P yid r.y.toSpec := by
 refine yield_run ?_
 rintro env ps asg body os ds ⟨s, hs, hj, rfl, rfl, rfl, rfl, rfl, rfl⟩ _
 rw [Lp.y_out hr hs]
 refine CW.mono (h s hs hj) fun e σ hk => ?_
 cases e with
 | normal =>
  refine CW.mono hk fun e σ hk => ?_
  have fin : objAll σ.obj (LR r.m) (r.fam (LR r.m) (s + 1)) → endC (r.fam (LR r.m) s) ⟨upds 0 (r.fam (LR r.m) (s + 1)), [], .v (.bool true)⟩ σ :=
   endC_of (hr.len _ _ (LR_len _)) (hr.len _ _ (LR_len _)) fun dom hd => hr.closF dom _ _ (LR_len _) hd
  cases e with
  | normal => exact ⟨hk.1, fin hk.2⟩
  | ret => exact ⟨hk.1, fin hk.2⟩
  | exit id => exact ⟨hk.1, fin hk.2⟩
  | goto l => exact hk.elim
  | panic c => exact hk.elim
  | outgrown => exact hk.elim
 | ret => exact hk.elim
 | exit id => exact hk.elim
 | goto l => exact hk.elim
 | panic c => exact hk.elim
 | outgrown => exact hk.elim
def Lp.rc (r : Lp) (Ls : List Name) (st : LoopState) (pd : Option Code) : O := .loop (r.env Ls) r.ps r.asg r.body st pd
theorem Lp.y_app {r : Lp} (hr : r.Ok) {s : Nat} (hs : s < r.n) (hj : ∀ j, j < s → r.st j = none) {obj : Name → Option O} {t R : Name} {Ls : List Name} (hl : Ls.length = r.m) (hn : Ls.Nodup) (hR : R ∉ Ls)
  (h0 : obj R = some (r.rc Ls .ready none)) (hF : objAll obj Ls (r.fam Ls s)) :
  r.y.toSpec.app obj t (.yld R :: r.vals s) = ⟨True, .v (.bool (r.st s).isNone), upd (setLs Ls (r.fam Ls (s + 1)) obj) R (some (r.rc Ls (if (r.st s).isNone then .ready else .done) (r.st s)))⟩ := by
 have hreach : reach obj (roots (r.env Ls) (r.vals s)) = Ls := by
  unfold reach roots
  rw [names_app, hr.vnam, List.append_nil]
  have := hr.reach Ls s obj [] (3000 - r.fu) hl hn (fun _ _ => by simp) hF
  rwa [show 3000 - r.fu + r.fu = 3000 by have := hr.fuel; omega] at this
 have e1 : cOs obj (roots (r.env Ls) (r.vals s)) = r.fam (LR r.m) s := by
  unfold cOs
  rw [hreach]
  have : Ls.map (canonO Ls obj) = (r.fam Ls s).map (O.ren (cin Ls)) := by
   rw [objAll_iff] at hF
   refine List.ext_getElem (by simp [hr.len _ _ hl, hl]) fun i h1 h2 => ?_
   have h3 : i < Ls.length := by simpa using h1
   have h4 : i < (r.fam Ls s).length := by rw [hr.len _ _ hl, ← hl]; exact h3
   have h5 := congrArg (fun l => l[i]?) hF
   have h6 : obj Ls[i] = some (r.fam Ls s)[i] := by simpa [h3, h4] using h5
   simp only [List.getElem_map, canonO, h6]
  rw [this, hr.renF _ _ _ hl, cin_all hn, hl]
 have e2 : yEnv obj (r.env Ls) (r.vals s) = r.env (LR r.m) := by
  unfold yEnv
  rw [hreach, hr.renE _ _ hl, cin_all hn, hl]
 have e3 : yDs obj (r.env Ls) (r.vals s) = r.vals s := by
  unfold yDs
  exact hr.vren s _
 have e4 : r.y.o obj (r.env Ls) r.ps r.asg r.body (r.vals s) = (⟨upds 0 (r.fam (LR r.m) (s + 1)), [], .v (.bool true)⟩, r.st s) := by
  unfold YSpec.o
  rw [e1, e2, e3, Lp.y_out hr hs]
 have hpre : r.y.pre (r.env (LR r.m)) r.ps r.asg r.body (r.fam (LR r.m) s) (r.vals s) := ⟨s, hs, hj, rfl, rfl, rfl, rfl, rfl, rfl⟩
 have hcl : D.closL (inL Ls) (roots (r.env Ls) (r.vals s)) = true := by
  unfold roots
  rw [closL_app, hr.vcl, Bool.and_true]
  exact hr.closE _ _ hl fun x hx => inL_iff.2 hx
 have hsh : shut obj Ls = true := by
  unfold shut
  rw [List.all_eq_true]
  intro x hx
  obtain ⟨i, hi, rfl⟩ := List.getElem_of_mem hx
  rw [objAll_iff] at hF
  have h4 : i < (r.fam Ls s).length := by rw [hr.len _ _ hl, ← hl]; exact hi
  have h5 := congrArg (fun l => l[i]?) hF
  have h6 : obj Ls[i] = some (r.fam Ls s)[i] := by simpa [hi, h4] using h5
  rw [h6]
  exact hr.closF _ _ _ hl (fun x hx => inL_iff.2 hx) _ (List.getElem_mem h4)
 have hnR : inL Ls R = false := by
  cases h : inL Ls R with
  | false => rfl
  | true => exact (hR (inL_iff.1 h)).elim
 have hp : putU Ls t (upds 0 (r.fam (LR r.m) (s + 1))) obj = setLs Ls (r.fam Ls (s + 1)) obj := by
  rw [putU_upds (Ls := Ls) (by rw [hr.len _ _ (LR_len _), hl]) fun i hi => by rw [Nat.zero_add]; exact getD_mem hi, hr.renF _ _ _ (LR_len _)]
  have : (LR r.m).map (cout Ls t) = Ls := by rw [← hl]; exact cout_all Ls t
  rw [this]
 unfold Lp.rc at h0
 simp only [YSpec.toSpec, h0, e1, e2, e3, e4, hreach, hcl, hsh, hnR, fresh, List.all_nil, Bool.and_self, Bool.not_false, hr.args, decide_true, hr.psz Ls hl, hpre, putN, hp, and_self]
 rfl
def Lp.e (r : Lp) : Nat := match (List.range r.n).find? (fun s => (r.st s).isSome) with | some s => s + 1 | none => r.n
def Lp.pd (r : Lp) : Option Code := match (List.range r.n).find? (fun s => (r.st s).isSome) with | some s => r.st s | none => none
def Lp.fin (r : Lp) (Ls : List Name) : O := r.rc Ls (if r.pd.isNone then .ready else .done) r.pd
def Lp.it (r : Lp) (caps : List V) : CSpec where
 pre := fun os ds => os = r.rc (LI r.m) .ready none :: r.fam (LI r.m) 0 ∧ ds = .yld [0, 1] :: caps.map .v
 out := fun _ _ => ⟨(0, r.fin (LI r.m)) :: upds 1 (r.fam (LI r.m) r.e), [], .tup []⟩
theorem Lp.it_app {r : Lp} (hr : r.Ok) {caps : List V} {obj : Name → Option O} {t R : Name} {Ls : List Name} (hl : Ls.length = r.m) (hn : Ls.Nodup) (hR : R ∉ Ls)
  (h0 : obj R = some (r.rc Ls .ready none)) (hF : objAll obj Ls (r.fam Ls 0)) :
  (r.it caps).toSpec.app obj t (.yld R :: caps.map .v) = ⟨True, .tup [], setLs Ls (r.fam Ls r.e) (upd obj R (some (r.fin Ls)))⟩ := by
 have hnn : (R :: Ls).Nodup := List.nodup_cons.2 ⟨hR, hn⟩
 have hreach : reach obj (.yld R :: caps.map .v) = R :: Ls := by
  have h1 : namesL (.yld R :: caps.map .v) = [R] := by
   have := names_vals [.yld R] caps
   simpa [namesL, namesD] using this
  unfold reach
  rw [h1]
  show reachL obj (2999 + 1) [R] [] = R :: Ls
  unfold Lp.rc at h0
  simp only [reachL, inL, List.any_nil, Bool.false_eq_true, if_false, h0, namesO, List.append_nil, List.nil_append]
  have := hr.reach Ls 0 obj [R] (2999 - r.fu) hl hn (fun x hx => by simp only [List.mem_singleton]; rintro rfl; exact hR hx) hF
  rw [show 2999 - r.fu + r.fu = 2999 by have := hr.fuel; omega] at this
  simpa using this
 have hcanon : ∀ s, objAll obj Ls (r.fam Ls s) → Ls.map (canonO (R :: Ls) obj) = (r.fam Ls s).map (O.ren (cin (R :: Ls))) := by
  intro s hF
  rw [objAll_iff] at hF
  refine List.ext_getElem (by simp [hr.len _ _ hl, hl]) fun i h1 h2 => ?_
  have h3 : i < Ls.length := by simpa using h1
  have h4 : i < (r.fam Ls s).length := by rw [hr.len _ _ hl, ← hl]; exact h3
  have h5 := congrArg (fun l => l[i]?) hF
  have h6 : obj Ls[i] = some (r.fam Ls s)[i] := by simpa [h3, h4] using h5
  simp only [List.getElem_map, canonO, h6]
 have e1 : cOs obj (.yld R :: caps.map .v) = r.rc (LI r.m) .ready none :: r.fam (LI r.m) 0 := by
  unfold cOs
  rw [hreach, List.map_cons, hcanon 0 hF, hr.renF _ _ _ hl, cin_next hn hR, hl]
  congr 1
  unfold Lp.rc at h0 ⊢
  simp only [canonO, h0, O.ren]
  rw [hr.renE _ _ hl, cin_next hn hR, hl]
 have e2 : cDs obj (.yld R :: caps.map .v) = .yld [0, 1] :: caps.map .v := by
  unfold cDs
  rw [hreach]
  simp only [D.renL, D.ren, renL_vals, cin, idx, if_true]
 have hpre : (r.it caps).pre (r.rc (LI r.m) .ready none :: r.fam (LI r.m) 0) (.yld [0, 1] :: caps.map .v) := ⟨rfl, rfl⟩
 have hout : ∀ os ds, (r.it caps).out os ds = ⟨(0, r.fin (LI r.m)) :: upds 1 (r.fam (LI r.m) r.e), [], .tup []⟩ := fun _ _ => rfl
 have hinL : ∀ x ∈ Ls, inL (R :: Ls) x = true := fun x hx => inL_iff.2 (List.mem_cons_of_mem _ hx)
 have hsh : shut obj (R :: Ls) = true := by
  unfold shut
  rw [List.all_eq_true]
  intro x hx
  rcases List.mem_cons.1 hx with rfl | hx
  ·rw [h0]
   unfold Lp.rc
   exact hr.closE _ _ hl hinL
  obtain ⟨i, hi, rfl⟩ := List.getElem_of_mem hx
  rw [objAll_iff] at hF
  have h4 : i < (r.fam Ls 0).length := by rw [hr.len _ _ hl, ← hl]; exact hi
  have h5 := congrArg (fun l => l[i]?) hF
  have h6 : obj Ls[i] = some (r.fam Ls 0)[i] := by simpa [hi, h4] using h5
  rw [h6]
  exact hr.closF _ _ _ hl hinL _ (List.getElem_mem h4)
 have hcl : D.closL (inL (R :: Ls)) (.yld R :: caps.map .v) = true := by
  have := closL_vals (inL (R :: Ls)) caps [.yld R]
  simp only [List.singleton_append] at this
  rw [this]
  simp [D.closL, D.clos, inL]
 have hp : ∀ obj', putU (R :: Ls) t (upds 1 (r.fam (LI r.m) r.e)) obj' = setLs Ls (r.fam Ls r.e) obj' := by
  intro obj'
  rw [putU_upds (Ls := Ls) (by rw [hr.len _ _ (LI_len _), hl]) fun i hi => by
   rw [Nat.add_comm, List.getD_cons_succ]; exact getD_mem hi, hr.renF _ _ _ (LI_len _)]
  have : (LI r.m).map (cout (R :: Ls) t) = Ls := by rw [← hl]; exact cout_next R Ls t
  rw [this]
 have hf : O.ren (cout (R :: Ls) t) (r.fin (LI r.m)) = r.fin Ls := by
  unfold Lp.fin Lp.rc
  simp only [O.ren]
  rw [hr.renE _ _ (LI_len _)]
  have : (LI r.m).map (cout (R :: Ls) t) = Ls := by rw [← hl]; exact cout_next R Ls t
  rw [this]
 simp only [CSpec.toSpec, e1, e2, hreach, hout, hsh, hcl, fresh, List.all_nil, Bool.and_self, hpre, and_self, putN, putU, List.getD_cons_zero, hf, hp, D.ren, D.renL]
theorem Lp.it_end {P : Program} {r : Lp} (hr : r.Ok) {σ : S} (h0 : σ.obj [0, 1] = some (r.fin (LI r.m))) (h1 : objAll σ.obj (LI r.m) (r.fam (LI r.m) r.e)) :
  (resAll P σ []).ok ∧ (resAll P σ []).d = .tup [] ∧ endC (r.rc (LI r.m) .ready none :: r.fam (LI r.m) 0) ⟨(0, r.fin (LI r.m)) :: upds 1 (r.fam (LI r.m) r.e), [], .tup []⟩ σ := by
 have hl0 := hr.len (LI r.m) 0 (LI_len _)
 have hle := hr.len (LI r.m) r.e (LI_len _)
 have hget : ∀ i (hi : i < (r.fam (LI r.m) r.e).length), σ.obj [1 + i, 1] = some (r.fam (LI r.m) r.e)[i] := by
  intro i hi
  have h3 := objAll_get h1 i (by rw [LI_len]; omega) hi
  rw [Nat.add_comm]
  simpa only [LI, List.getElem_map, List.getElem_range] using h3
 have hdom : ∀ x ∈ LI r.m, domC (r.m + 1) [] x = true := by
  intro x hx
  obtain ⟨i, hi, rfl⟩ := List.mem_map.1 hx
  have := List.mem_range.1 hi
  simp [domC]
  omega
 refine ⟨fun x hx => by simp at hx, rfl, ⟨⟨?_, objsOk_upds (F := r.fam (LI r.m) r.e) (by omega) (fun i hi o => by simp only [lastU]; rw [if_neg (by omega)]) hget⟩, trivial, ?_⟩⟩
 ·simp only [lastU, if_true]
  rw [h0, lastU_other (by omega)]
 have hall : ∀ (F' : List O) (k : Nat), (∀ o ∈ F', O.clos (domC (r.m + 1) []) o = true) → k + F'.length ≤ r.m + 1 → ((upds k F').all fun x => O.clos (domC (r.m + 1) []) x.2 && decide (x.1 < r.m + 1)) = true := by
  intro F'
  induction F' with
  | nil => intros; rfl
  | cons f fs ih =>
   intro k hf hk
   simp only [List.length_cons] at hk
   simp only [upds, List.all_cons, Bool.and_eq_true, decide_eq_true_eq]
   exact ⟨⟨hf f (by simp), by omega⟩, by have := ih (k + 1) (fun o ho => hf o (by simp [ho])) (by omega); simpa using this⟩
 have h5 := hall (r.fam (LI r.m) r.e) 1 (hr.closF _ _ _ (LI_len _) hdom) (by omega)
 have h6 : O.clos (domC (r.m + 1) []) (r.fin (LI r.m)) = true := hr.closE _ _ (LI_len _) hdom
 have hlen : (r.rc (LI r.m) .ready none :: r.fam (LI r.m) 0).length = r.m + 1 := by rw [List.length_cons, hl0]
 have h7 : D.clos (domC (r.m + 1) []) (.tup []) = true := rfl
 simp only [hlen, h7, List.all_cons, h6, h5, List.all_nil, List.map_nil, distinct, Bool.and_self, Bool.true_and, Bool.and_true]
 simp
theorem cl_iter {P : Program} {Γ : FuncId → Option Spec} (hΓ : ∀ f s, Γ f = some s → SSound P f s) {r : Lp} (hr : r.Ok) {caps : List V} {g : Operand} {ps : Array Tmp} {asg body : Code} {σ : S} {rest : List Code} {K : Exit → S → Prop} (k k' : Nat) {f : FuncId} {Ls : List Name}
  (hc : opC σ g = true) (hg : opD σ g = .v (.clo (.func f) [] caps)) (hne : f ≠ yid) (hs : Γ f = some (r.it caps).toSpec) (hnew : σ.obj (k :: σ.pre) = none)
  (he : (List.range σ.nt).map σ.env = r.env Ls) (hps : ps.toList = r.ps) (ha : asg = r.asg) (hb : body = r.body) (hl : Ls.length = r.m) (hn : Ls.Nodup) (hR : (k :: σ.pre) ∉ Ls) (hF : objAll σ.obj Ls (r.fam Ls 0))
  (hK : ∀ o : O, pdK (thenK (fun σ' => CL P rest σ' K) K) { σ with obj := upd (setLs Ls (r.fam Ls r.e) σ.obj) (k :: σ.pre) (some o) } r.pd) : CL P (.rangeFunc g ps asg body :: rest) σ K := by
 subst ha
 subst hb
 generalize hRn : k :: σ.pre = R at *
 have hagr : ∀ x ∈ Ls, (upd σ.obj R (some (r.rc Ls .ready none))) x = σ.obj x := fun x hx => upd_ne _ _ _ (by rintro rfl; exact hR hx)
 have happ := Lp.it_app hr (caps := caps) (t := k' :: σ.pre) hl hn hR (upd_same σ.obj R (some (r.rc Ls .ready none))) (objAll_agr hF hagr)
 have hrec : O.loop ((List.range σ.nt).map σ.env) ps.toList r.asg r.body .ready none = r.rc Ls .ready none := by unfold Lp.rc; rw [he, hps]
 have hargs : clArgs (opD σ g) [.yld R] = .yld R :: caps.map .v := by rw [hg]; rfl
 have hfn : clFn (opD σ g) = some f := by rw [hg]; simp [clFn, hne]
 have hswap : ∀ (F : List O) (obj : Name → Option O) (a b : Option O), upd (setLs Ls F (upd obj R a)) R b = upd (setLs Ls F obj) R b := by
  intro F obj a b
  funext x
  by_cases h : x = R
  ·subst h; rw [upd_same, upd_same]
  ·rw [upd_ne _ _ _ h, upd_ne _ _ _ h]
   have : ∀ (Ls : List Name) (F : List O) (o1 o2 : Name → Option O), o1 x = o2 x → setLs Ls F o1 x = setLs Ls F o2 x := by
    intro Ls
    induction Ls with
    | nil => intro F o1 o2 h; simpa [setLs] using h
    | cons y ys ih =>
     intro F o1 o2 h
     cases F with
     | nil => simpa [setLs] using h
     | cons f fs =>
      simp only [setLs]
      refine ih fs _ _ ?_
      by_cases e : x = y
      ·subst e; rw [upd_same, upd_same]
      ·rw [upd_ne _ _ _ e, upd_ne _ _ _ e, h]
   exact this Ls F _ _ (upd_ne _ _ _ h)
 refine cl_rangeFunc hΓ k k' hc hfn hne hs (by rw [hRn]; exact hnew) ?_ ?_
 ·rw [hRn, hargs, hrec, happ]; trivial
 ·rw [hRn, hargs, hrec, happ]
  have hfin : setLs Ls (r.fam Ls r.e) (upd (upd σ.obj R (some (r.rc Ls .ready none))) R (some (r.fin Ls))) R = some (r.fin Ls) := by rw [setLs_ne hR, upd_same]
  have hsp : spent (setLs Ls (r.fam Ls r.e) (upd (upd σ.obj R (some (r.rc Ls .ready none))) R (some (r.fin Ls)))) R =
    upd (setLs Ls (r.fam Ls r.e) σ.obj) R (some (r.rc Ls .exhausted r.pd)) := by
   unfold spent
   rw [hfin]
   unfold Lp.fin Lp.rc
   simp only [hswap]
  refine leftK_of r.pd hfin ?_
  rw [hsp]
  exact hK (r.rc Ls .exhausted r.pd)
structure CapsOk (r : Lp) (caps : List Name → List D) : Prop where
 ren : ∀ f Ls, Ls.length = r.m → D.renL f (caps Ls) = caps (Ls.map f)
 clo : ∀ dom Ls, Ls.length = r.m → (∀ x ∈ Ls, dom x = true) → D.closL dom (caps Ls) = true
 reach : ∀ Ls s obj R k, Ls.length = r.m → (R :: Ls).Nodup → objAll obj Ls (r.fam Ls s) → obj R = some (r.rc Ls .ready none) → reachL obj (k + r.fu + 1) (R :: namesL (caps Ls)) [] = R :: Ls
def Lp.itC (r : Lp) (caps : List Name → List D) : CSpec where
 pre := fun os ds => os = r.rc (LI r.m) .ready none :: r.fam (LI r.m) 0 ∧ ds = .yld [0, 1] :: caps (LI r.m)
 out := fun _ _ => ⟨(0, r.fin (LI r.m)) :: upds 1 (r.fam (LI r.m) r.e), [], .tup []⟩
theorem Lp.itC_app {r : Lp} (hr : r.Ok) {caps : List Name → List D} (hcp : CapsOk r caps) {obj : Name → Option O} {t R : Name} {Ls : List Name} (hl : Ls.length = r.m) (hn : Ls.Nodup) (hR : R ∉ Ls)
  (h0 : obj R = some (r.rc Ls .ready none)) (hF : objAll obj Ls (r.fam Ls 0)) :
  (r.itC caps).toSpec.app obj t (.yld R :: caps Ls) = ⟨True, .tup [], setLs Ls (r.fam Ls r.e) (upd obj R (some (r.fin Ls)))⟩ := by
 have hnn : (R :: Ls).Nodup := List.nodup_cons.2 ⟨hR, hn⟩
 have hreach : reach obj (.yld R :: caps Ls) = R :: Ls := by
  unfold reach
  have := hcp.reach Ls 0 obj R (2999 - r.fu) hl hnn hF h0
  rw [show 2999 - r.fu + r.fu + 1 = 3000 by have := hr.fuel; omega] at this
  exact this
 have hcanon : ∀ s, objAll obj Ls (r.fam Ls s) → Ls.map (canonO (R :: Ls) obj) = (r.fam Ls s).map (O.ren (cin (R :: Ls))) := by
  intro s hF
  rw [objAll_iff] at hF
  refine List.ext_getElem (by simp [hr.len _ _ hl, hl]) fun i h1 h2 => ?_
  have h3 : i < Ls.length := by simpa using h1
  have h4 : i < (r.fam Ls s).length := by rw [hr.len _ _ hl, ← hl]; exact h3
  have h5 := congrArg (fun l => l[i]?) hF
  have h6 : obj Ls[i] = some (r.fam Ls s)[i] := by simpa [h3, h4] using h5
  simp only [List.getElem_map, canonO, h6]
 have e1 : cOs obj (.yld R :: caps Ls) = r.rc (LI r.m) .ready none :: r.fam (LI r.m) 0 := by
  unfold cOs
  rw [hreach, List.map_cons, hcanon 0 hF, hr.renF _ _ _ hl, cin_next hn hR, hl]
  congr 1
  unfold Lp.rc at h0 ⊢
  simp only [canonO, h0, O.ren]
  rw [hr.renE _ _ hl, cin_next hn hR, hl]
 have e2 : cDs obj (.yld R :: caps Ls) = .yld [0, 1] :: caps (LI r.m) := by
  unfold cDs
  rw [hreach]
  simp only [D.renL, D.ren, hcp.ren _ _ hl]
  rw [cin_next hn hR, hl]
  simp only [cin, idx, if_true]
 have hpre : (r.itC caps).pre (r.rc (LI r.m) .ready none :: r.fam (LI r.m) 0) (.yld [0, 1] :: caps (LI r.m)) := ⟨rfl, rfl⟩
 have hout : ∀ os ds, (r.itC caps).out os ds = ⟨(0, r.fin (LI r.m)) :: upds 1 (r.fam (LI r.m) r.e), [], .tup []⟩ := fun _ _ => rfl
 have hinL : ∀ x ∈ Ls, inL (R :: Ls) x = true := fun x hx => inL_iff.2 (List.mem_cons_of_mem _ hx)
 have hsh : shut obj (R :: Ls) = true := by
  unfold shut
  rw [List.all_eq_true]
  intro x hx
  rcases List.mem_cons.1 hx with rfl | hx
  ·rw [h0]
   unfold Lp.rc
   exact hr.closE _ _ hl hinL
  obtain ⟨i, hi, rfl⟩ := List.getElem_of_mem hx
  rw [objAll_iff] at hF
  have h4 : i < (r.fam Ls 0).length := by rw [hr.len _ _ hl, ← hl]; exact hi
  have h5 := congrArg (fun l => l[i]?) hF
  have h6 : obj Ls[i] = some (r.fam Ls 0)[i] := by simpa [hi, h4] using h5
  rw [h6]
  exact hr.closF _ _ _ hl hinL _ (List.getElem_mem h4)
 have hcl : D.closL (inL (R :: Ls)) (.yld R :: caps Ls) = true := by
  show (inL (R :: Ls) R && D.closL _ _) = true
  rw [hcp.clo _ _ hl hinL]
  simp [inL]
 have hp : ∀ obj', putU (R :: Ls) t (upds 1 (r.fam (LI r.m) r.e)) obj' = setLs Ls (r.fam Ls r.e) obj' := by
  intro obj'
  rw [putU_upds (Ls := Ls) (by rw [hr.len _ _ (LI_len _), hl]) fun i hi => by
   rw [Nat.add_comm, List.getD_cons_succ]; exact getD_mem hi, hr.renF _ _ _ (LI_len _)]
  have : (LI r.m).map (cout (R :: Ls) t) = Ls := by rw [← hl]; exact cout_next R Ls t
  rw [this]
 have hf : O.ren (cout (R :: Ls) t) (r.fin (LI r.m)) = r.fin Ls := by
  unfold Lp.fin Lp.rc
  simp only [O.ren]
  rw [hr.renE _ _ (LI_len _)]
  have : (LI r.m).map (cout (R :: Ls) t) = Ls := by rw [← hl]; exact cout_next R Ls t
  rw [this]
 simp only [CSpec.toSpec, e1, e2, hreach, hout, hsh, hcl, fresh, List.all_nil, Bool.and_self, hpre, and_self, putN, putU, List.getD_cons_zero, hf, hp, D.ren, D.renL]
theorem cl_iterC {P : Program} {r : Lp} (hr : r.Ok) {caps : List Name → List D} (hcp : CapsOk r caps) {g : Operand} {ps : Array Tmp} {asg body : Code} {σ : S} {rest : List Code} {K : Exit → S → Prop} (k k' : Nat) {f : FuncId} {Ls : List Name}
  (hc : opC σ g = true) (hg : opD σ g = .clo (.func f) [] (caps Ls)) (hne : f ≠ yid) (hs : SSound P f (r.itC caps).toSpec) (hnew : σ.obj (k :: σ.pre) = none)
  (he : (List.range σ.nt).map σ.env = r.env Ls) (hps : ps.toList = r.ps) (ha : asg = r.asg) (hb : body = r.body) (hl : Ls.length = r.m) (hn : Ls.Nodup) (hR : (k :: σ.pre) ∉ Ls) (hF : objAll σ.obj Ls (r.fam Ls 0))
  (hK : ∀ o : O, pdK (thenK (fun σ' => CL P rest σ' K) K) { σ with obj := upd (setLs Ls (r.fam Ls r.e) σ.obj) (k :: σ.pre) (some o) } r.pd) : CL P (.rangeFunc g ps asg body :: rest) σ K := by
 subst ha
 subst hb
 generalize hRn : k :: σ.pre = R at *
 have hagr : ∀ x ∈ Ls, (upd σ.obj R (some (r.rc Ls .ready none))) x = σ.obj x := fun x hx => upd_ne _ _ _ (by rintro rfl; exact hR hx)
 have happ := Lp.itC_app hr hcp (t := k' :: σ.pre) hl hn hR (upd_same σ.obj R (some (r.rc Ls .ready none))) (objAll_agr hF hagr)
 have hrec : O.loop ((List.range σ.nt).map σ.env) ps.toList r.asg r.body .ready none = r.rc Ls .ready none := by unfold Lp.rc; rw [he, hps]
 have hargs : clArgs (opD σ g) [.yld R] = .yld R :: caps Ls := by rw [hg]; rfl
 have hfn : clFn (opD σ g) = some f := by rw [hg]; simp [clFn, hne]
 have hswap : ∀ (F : List O) (obj : Name → Option O) (a b : Option O), upd (setLs Ls F (upd obj R a)) R b = upd (setLs Ls F obj) R b := by
  intro F obj a b
  funext x
  by_cases h : x = R
  ·subst h; rw [upd_same, upd_same]
  ·rw [upd_ne _ _ _ h, upd_ne _ _ _ h]
   have : ∀ (Ls : List Name) (F : List O) (o1 o2 : Name → Option O), o1 x = o2 x → setLs Ls F o1 x = setLs Ls F o2 x := by
    intro Ls
    induction Ls with
    | nil => intro F o1 o2 h; simpa [setLs] using h
    | cons y ys ih =>
     intro F o1 o2 h
     cases F with
     | nil => simpa [setLs] using h
     | cons f fs =>
      simp only [setLs]
      refine ih fs _ _ ?_
      by_cases e : x = y
      ·subst e; rw [upd_same, upd_same]
      ·rw [upd_ne _ _ _ e, upd_ne _ _ _ e, h]
   exact this Ls F _ _ (upd_ne _ _ _ h)
 refine cl_rangeFunc (Γ := fun x => if x = f then some (r.itC caps).toSpec else none) (fun x s hx => by
  split at hx
  ·rename_i e; cases hx; subst e; exact hs
  ·cases hx) k k' hc hfn hne (if_pos rfl) (by rw [hRn]; exact hnew) ?_ ?_
 ·rw [hRn, hargs, hrec, happ]; trivial
 ·rw [hRn, hargs, hrec, happ]
  have hfin : setLs Ls (r.fam Ls r.e) (upd (upd σ.obj R (some (r.rc Ls .ready none))) R (some (r.fin Ls))) R = some (r.fin Ls) := by rw [setLs_ne hR, upd_same]
  have hsp : spent (setLs Ls (r.fam Ls r.e) (upd (upd σ.obj R (some (r.rc Ls .ready none))) R (some (r.fin Ls)))) R =
    upd (setLs Ls (r.fam Ls r.e) σ.obj) R (some (r.rc Ls .exhausted r.pd)) := by
   unfold spent
   rw [hfin]
   unfold Lp.fin Lp.rc
   simp only [hswap]
  refine leftK_of r.pd hfin ?_
  rw [hsp]
  exact hK (r.rc Ls .exhausted r.pd)
theorem weakM_frzB {σ : S} (b nm : Name) (i k sz : Nat) (cs : List D) (L : List V) (hb : σ.obj b = some (.box cs)) (hi : cs[i]? = some (.msl nm k)) (hn : σ.obj nm = some (.arr sz L)) (hk : k = L.length) :
  WeakM σ ⟨σ.nt, σ.env, upd (upd σ.obj nm (some (.farr sz L))) b (some (.box (cs.set i (.v (.sl L))))), σ.pre, σ.base⟩ := by
 intro G φ m a w hC
 have hne : b ≠ nm := fun e => by subst e; rw [hb] at hn; cases hn
 obtain ⟨h1, h2, h3, us, T, f, h4, h5, h6, h7⟩ := hC.objs b _ hb
 obtain ⟨hil, hie⟩ := List.getElem?_eq_some_iff.1 hi
 have h0 : i < us.size := by omega
 have h8 := h7 i hil h0
 rw [hie] at h8
 have hfr : frz 6 σ.obj (.msl nm k) = ⟨k = L.length, .sl L, upd σ.obj nm (some (.farr sz L))⟩ := by simp only [frz, hn]
 obtain ⟨m2, k1, k2, k3, k4, _⟩ := frz_ok 6 _ _ _ _ _ _ hC _ _ h8 (by rw [hfr]; exact hk)
 rw [hfr] at k2 k3 k4
 simp only at k2 k3 k4
 have hb' : (upd σ.obj nm (some (.farr sz L))) b = some (.box cs) := by rw [upd_ne _ _ _ hne]; exact hb
 have hx2 := Ext.same (φ := φ) (o' := .box (cs.set i (.v (.sl L)))) hb' rfl rfl
 have hx2' := hx2
 rw [upd_id] at hx2'
 refine ⟨_, m2, k2.chg (w' := w) b (.box (cs.set i (.v (.sl L)))) _ hx2 ⟨rfl, rfl, rfl, Nat.le_refl _⟩ (fun _ _ _ => rfl) (fun _ => .inr ⟨⟨_, hb', rfl, h2⟩, rfl⟩) ?_⟩
 rw [upd_id]
 refine ⟨h1, h2, fun d hd => ?_, us, T, f, h4, h5, by simpa using h6, fun j hj hj' => ?_⟩
 ·rcases List.mem_or_eq_of_mem_set hd with h | h
  ·exact h3 d h
  ·subst h; rfl
 ·simp only [List.length_set] at hj
  rw [List.getElem_set]
  by_cases hij : i = j
  ·subst hij
   rw [if_pos rfl]
   exact .v _ _ k4
  ·rw [if_neg hij]
   exact ((h7 j hj hj').ext k1 k3).ext (Mem.le_refl m2) hx2'
theorem weakM_frzI {σ τ : S} (b nm : Name) (i k sz : Nat) (cs : List D) (L : List V) (hb : σ.obj b = some (.box cs)) (hi : cs[i]? = some (.msl nm k)) (hn : σ.obj nm = some (.arr sz L)) (hk : k = L.length) (ks : List Nat) (ns : List Name)
  (h : clS ks ns ⟨σ.nt, σ.env, upd (upd σ.obj nm (some (.farr sz L))) b (some (.box (cs.set i (.v (.sl L))))), σ.pre, σ.base⟩)
  (hk' : keepS ks ns ⟨σ.nt, σ.env, upd (upd σ.obj nm (some (.farr sz L))) b (some (.box (cs.set i (.v (.sl L))))), σ.pre, σ.base⟩ = τ) : WeakM σ τ :=
 (weakM_frzB b nm i k sz cs L hb hi hn hk).trans (weakM_keep ks ns h hk')
set_option maxHeartbeats 8000000
noncomputable section
@[go_sem] def P184 : PSpec := p2 iIs iI (fun _ _ => True) (fun l v => vInt (idxF (fun x => v == x) l)) true
@[go_sem] def S184 : Spec := P184.toSpec
theorem s184 : PSound Tryz.prog 184 P184 := by
 refine wd2 (rs := [.tmp 4]) Tryz.func184 Tryz.ntmps184 fun l v hp hw => ?_
 simp only [iI, iIs] at hw ⊢
 have hΓ := @no_sound Tryz.prog
 have hl : l.length ≤ maxLen := by have := hw.1.1; simpa using this
 repeat refine sq ?_
 refine rsx hΓ [0,1] [] ?_
 repeat refine sq ?_
 refine rsx hΓ [0,1,7,8] [] ?_
 refine cl_block ?_
 refine cl_loop'  (fun s : Nat => [(8, ⟨true, .v (vInt s)⟩)]) (fun s => []) (fun s => s ≤ l.length ∧ ∀ k (h : k < l.length), k < s → (fun x : Int => v == x) l[k] = false) (fun s => l.length - s) 0 ?_ ?_ ?_ ?_
 ·exact ⟨Nat.zero_le _, by simp⟩
 ·rfl
 ·rfl
 rintro i ⟨hi, hR⟩
 simp only [go_sem]
 repeat refine sq ?_
 refine rsx hΓ [0,1,7,8,9] [] ?_
 repeat refine sq ?_
 refine cnd (fun hb => ?_) fun hb => ?_
 ·have hlt : i < l.length := by simpa using hb
  have hlt' : (i : Int) < l.length := by omega
  clear hb
  refine cl_skip ?_
  repeat refine sq ?_
  refine cl_block ?_
  repeat refine sq ?_
  refine rx hΓ [0,1,5,7,8] [] (fun K' hK => by simp only [go_sem, hlt']; exact fnx) ?_
  repeat refine sq ?_
  refine rx hΓ [0,1,5,7,8,16] [] (fun K' hK => by simp only [go_sem, map_getD hlt, tnI, nnI, hlt']; exact fnx) ?_
  refine cnd (fun hb => ?_) fun hb => ?_
  ·repeat refine sq ?_
   refine rsx hΓ [4] [] ?_
   refine cl_ret ?_
   simp only [go_sem]
   rw [idxF_at (p := fun x => v == x) hlt (by simpa using hb) hR]
  ·refine cl_skip ?_
   refine cl_nil ?_
   simp only [go_sem]
   refine kp [0,1,7,8] [] ?_
   refine cl_r hΓ fun K' hK => ?_
   simp only [go_sem]
   repeat (refine ⟨obx, ?_⟩)
   refine hK _ ?_
   clear K' hK
   simp only [go_sem]
   refine ⟨i + 1, ⟨hlt, ?_⟩, by (show l.length - (i + 1) < l.length - i; omega), ?_⟩
   ·intro k hk hki
    rcases Nat.lt_succ_iff_lt_or_eq.1 hki with h5 | rfl
    ·exact hR k hk h5
    ·simpa using hb
   refine weak_eq [0,1,7,8] [] ?_ ?_ <;> simp only [go_sem, wrap_succ hlt hl, csI]
 ·have hge : i = l.length := by
   have : ¬ (i : Int) < l.length := by simpa using hb
   omega
  clear hb
  subst hge
  refine cl_exit ?_
  simp only [go_sem]
  refine kp [] [] ?_
  repeat refine sq ?_
  refine rsx hΓ [4] [] ?_
  refine cl_ret ?_
  simp only [go_sem]
  rw [idxF_none (p := fun x => v == x) fun k hk => hR k hk hk]
def K18a : List (Nat × Spec) := [(184, S184)]
theorem K18a_sound : KS K18a := tc s184.sound <| tn
attribute [go_sem] K18a
theorem any_contains (l : List Int) (v : Int) : (l.any fun x => v == x) = l.contains v := (List.contains_eq_any_beq (l := l) (a := v)).symm
@[go_sem] def P108 : PSpec := p2 iIs iI (fun _ _ => True) (fun l v => .bool (l.contains v)) true
@[go_sem] def S108 : Spec := P108.toSpec
theorem s108 : PSound Tryz.prog 108 P108 := by
 refine wd2 (rs := [.tmp 4]) Tryz.func108 Tryz.ntmps108 fun l v hp hw => ?_
 simp only [iI, iIs] at hw ⊢
 have hΓ := K18a_sound
 repeat refine sq ?_
 refine rsx hΓ [0,1] [] ?_
 repeat refine sq ?_
 refine rx hΓ [4] [] (fun K' hK => by simp only [go_sem, idxF_ge, any_contains]; exact fnx) ?_
 refine cl_ret ?_
 simp only [go_sem]
 all_goals exact fzI
def K18b : List (Nat × Spec) := [(108, S108), (150, S150)]
theorem K18b_sound : KS K18b := tc s108.sound <| tc s150.sound <| tn
attribute [go_sem] K18b
def iPIs : En (List Int) := ⟨fun l => .ptr [.sl (l.map vInt)], fun v => match v with | .ptr [.sl l] => l.map decI | _ => []⟩
attribute [go_sem] iPIs
@[go_sem] def P194 : PSpec := p2 iI iPIs (fun _ _ => True) (fun n l => .bool (l.contains n)) true
@[go_sem] def S194 : Spec := P194.toSpec
theorem s194 : PSound Tryz.prog 194 P194 := by
 refine wd2 (rs := [.tmp 3]) Tryz.func194 Tryz.ntmps194 fun n l hp hw => ?_
 simp only [iI, iPIs] at hw ⊢
 have hΓ := K18b_sound
 repeat refine sq ?_
 refine rsx hΓ [0,1] [] ?_
 repeat refine sq ?_
 refine rsx hΓ [3] [] ?_
 refine cl_ret ?_
 simp only [go_sem]
 all_goals exact fzI
@[go_sem] def P161 : PSpec := p1 iI (fun _ => True) (fun n => .bool (!dayB n)) true
@[go_sem] def S161 : Spec := P161.toSpec
theorem s161 : PSound Tryz.prog 161 P161 := by
 refine wd1 (rs := [.tmp 2]) Tryz.func161 Tryz.ntmps161 fun n hp hw => ?_
 simp only [iI] at hw ⊢
 have hΓ := K18b_sound
 repeat refine sq ?_
 refine rsx hΓ [0] [] ?_
 repeat refine sq ?_
 refine rsx hΓ [2] [] ?_
 refine cl_ret ?_
 simp only [go_sem]
 all_goals exact fzI
@[go_sem] def P185 : PSpec := p1 iI (fun _ => True) (fun n => .bool (!dayB n)) true
@[go_sem] def S185 : Spec := P185.toSpec
theorem s185 : PSound Tryz.prog 185 P185 := by
 refine wd1 (rs := [.tmp 2]) Tryz.func185 Tryz.ntmps185 fun n hp hw => ?_
 simp only [iI] at hw ⊢
 have hΓ := K18b_sound
 repeat refine sq ?_
 refine rsx hΓ [0] [] ?_
 repeat refine sq ?_
 refine rsx hΓ [2] [] ?_
 refine cl_ret ?_
 simp only [go_sem]
 all_goals exact fzI
def iGc : En (Nat × List V) := ⟨fun g => .clo (.func g.1) [] g.2, fun v => match v with | .clo (.func g) _ cs => (g, cs) | _ => (0, [])⟩
def pG : Nat × List V → Int → Bool
 | (194, [.ptr [.sl l]]), x => (l.map decI).contains x
 | _, x => !dayB x
def okG (g : Nat × List V) : Prop := g = (161, []) ∨ g = (185, []) ∨ ∃ lv : List Int, g = (194, [.ptr [.sl (lv.map vInt)]])
def K18c : List (Nat × Spec) := [(194, S194), (161, S161), (185, S185)]
theorem K18c_sound : KS K18c := tc s194.sound <| tc s161.sound <| tc s185.sound <| tn
attribute [go_sem] K18c
def K18e : FuncId → Option Spec := tbl K18c
theorem K18e_sound : ∀ f s, K18e f = some s → SSound Tryz.prog f s := K18c_sound
theorem okG_app {g : Nat × List V} (h : okG g) : ∃ s, K18e g.1 = some s ∧ (¬ g.1 = 1000000000) ∧ ∀ obj t x, s.app obj t (.v (vInt x) :: g.2.map .v) = ⟨True, .v (.bool (pG g x)), obj⟩ := by
 rcases h with rfl | rfl | ⟨lv, rfl⟩
 ·exact ⟨S161, rfl, by decide, fun obj t x => by simp only [go_sem, List.map_nil]; rfl⟩
 ·exact ⟨S185, rfl, by decide, fun obj t x => by simp only [go_sem, List.map_nil]; rfl⟩
 ·exact ⟨S194, rfl, (show ¬ (194 : Nat) = 1000000000 by decide), fun obj t x => by simp only [go_sem, List.map_cons, List.map_nil, decI_map, pG]⟩
@[go_sem] def P192 : PSpec := p2 iIs iGc (fun _ g => okG g) (fun l g => vInt (idxF (pG g) l)) true
@[go_sem] def S192 : Spec := P192.toSpec
theorem s192 : PSound Tryz.prog 192 P192 := by
 refine wd2 (rs := [.tmp 4]) Tryz.func192 Tryz.ntmps192 fun l g hp hw => ?_
 simp only [iGc, iIs] at hw ⊢
 have hΓ := K18e_sound
 have hl : l.length ≤ maxLen := by have := hw.1.1; simpa using this
 obtain ⟨s_, hs, hy, ha⟩ := okG_app hp
 repeat refine sq ?_
 refine rsx hΓ [0,1] [] ?_
 repeat refine sq ?_
 refine rsx hΓ [0,1,7,8] [] ?_
 refine cl_block ?_
 refine cl_loop'  (fun s : Nat => [(8, ⟨true, .v (vInt s)⟩)]) (fun s => []) (fun s => s ≤ l.length ∧ ∀ k (h : k < l.length), k < s → pG g l[k] = false) (fun s => l.length - s) 0 ?_ ?_ ?_ ?_
 ·exact ⟨Nat.zero_le _, by simp⟩
 ·rfl
 ·rfl
 rintro i ⟨hi, hR⟩
 simp only [go_sem]
 repeat refine sq ?_
 refine rsx hΓ [0,1,7,8,9] [] ?_
 repeat refine sq ?_
 refine cnd (fun hb => ?_) fun hb => ?_
 ·have hlt : i < l.length := by simpa using hb
  have hlt' : (i : Int) < l.length := by omega
  clear hb
  refine cl_skip ?_
  repeat refine sq ?_
  refine cl_block ?_
  repeat refine sq ?_
  refine rx hΓ [0,1,5,7,8] [] (fun K' hK => by simp only [go_sem, hlt']; exact fnx) ?_
  repeat refine sq ?_
  refine rx hΓ [0,1,5,7,8,16] [] (fun K' hK => by simp only [go_sem, map_getD hlt, tnI, nnI, hlt', hs, hy, ha]; exact fnx) ?_
  refine cnd (fun hb => ?_) fun hb => ?_
  ·repeat refine sq ?_
   refine rsx hΓ [4] [] ?_
   refine cl_ret ?_
   simp only [go_sem]
   rw [idxF_at (p := pG g) hlt (by simpa using hb) hR]
  ·refine cl_skip ?_
   refine cl_nil ?_
   simp only [go_sem]
   refine kp [0,1,7,8] [] ?_
   refine cl_r hΓ fun K' hK => ?_
   simp only [go_sem]
   repeat (refine ⟨obx, ?_⟩)
   refine hK _ ?_
   clear K' hK
   simp only [go_sem]
   refine ⟨i + 1, ⟨hlt, ?_⟩, by (show l.length - (i + 1) < l.length - i; omega), ?_⟩
   ·intro k hk hki
    rcases Nat.lt_succ_iff_lt_or_eq.1 hki with h5 | rfl
    ·exact hR k hk h5
    ·simpa using hb
   refine weak_eq [0,1,7,8] [] ?_ ?_ <;> simp only [go_sem, wrap_succ hlt hl, csI]
 ·have hge : i = l.length := by
   have : ¬ (i : Int) < l.length := by simpa using hb
   omega
  clear hb
  subst hge
  refine cl_exit ?_
  simp only [go_sem]
  refine kp [] [] ?_
  repeat refine sq ?_
  refine rsx hΓ [4] [] ?_
  refine cl_ret ?_
  simp only [go_sem]
  rw [idxF_none (p := pG g) fun k hk => hR k hk hk]
def K18d : List (Nat × Spec) := [(192, S192)]
theorem K18d_sound : KS K18d := tc s192.sound <| tn
attribute [go_sem] K18d
@[go_sem] def P160 : PSpec := p2 iIs iGc (fun _ g => okG g) (fun l g => .bool (l.any (pG g))) true
@[go_sem] def S160 : Spec := P160.toSpec
theorem s160 : PSound Tryz.prog 160 P160 := by
 refine wd2 (rs := [.tmp 4]) Tryz.func160 Tryz.ntmps160 fun l g hp hw => ?_
 simp only [iGc, iIs] at hw ⊢
 have hΓ := K18d_sound
 repeat refine sq ?_
 refine rsx hΓ [0,1] [] ?_
 repeat refine sq ?_
 refine rx hΓ [4] [] (fun K' hK => by simp only [go_sem, idxF_ge]; exact fnx) ?_
 refine cl_ret ?_
 simp only [go_sem]
 all_goals exact fzI
theorem k160 : SSound Tryz.prog 160 S160 := s160.sound
end
noncomputable section
structure VOk (x : Vw) : Prop where
 ok : OkL x.l
 bk : ∀ q i, bkAt x.bk q = some i → 0 ≤ i ∧ i < x.l.ts.length
 rs : ∀ r ∈ x.rs, recB r = true
 rn : x.rs.length ≤ 60
 tn : x.ts.length ≤ 60
 ts : ∀ i ∈ x.ts, 0 ≤ i ∧ i < x.l.ts.length
theorem recB_lf {r : Rec} (h : recB r = true) : 0 < r.lv.length ∧ r.lv.length ≤ 30 := by
 unfold recB at h
 simp only [Bool.and_eq_true] at h
 exact ⟨(leavesB_iff.1 h.1.1.2).1, (leavesB_iff.1 h.1.1.2).2.1⟩
theorem recB_da {r : Rec} (h : recB r = true) : 0 ≤ r.da ∧ r.da ≤ 100000 := by
 unfold recB at h
 simp only [Bool.and_eq_true] at h
 have := h.1.2
 unfold dayB inI at this
 simpa using this
theorem retB_lf {r : Ret} (h : retB r = true) : 0 < r.lv.length ∧ r.lv.length ≤ 30 := by
 unfold retB at h
 simp only [Bool.and_eq_true] at h
 exact ⟨(leavesB_iff.1 h.1.1.1.2).1, (leavesB_iff.1 h.1.1.1.2).2.1⟩
theorem wrap_day {d : Int} (h : 0 ≤ d ∧ d ≤ 100000) : IntKind.i64.wrap (d + 1) = d + 1 := wrap_i64 (by omega) (by omega)
theorem tsAt_at {l : Led} {i : Nat} (h : i < l.ts.length) : tsAt l i = l.ts[i] := by unfold tsAt; exact getD_at h
theorem OkL.recs {l : Led} (h : OkL l) : ∀ r ∈ l.rs, recB r = true := fun r hr => by
 obtain ⟨j, hj, rfl⟩ := List.getElem_of_mem hr
 exact allB_at h.rs hj
theorem OkL.rets {l : Led} (h : OkL l) {i : Nat} (hi : i < l.ts.length) : retB (tsAt l i) = true := by
 rw [tsAt_at hi]
 exact allB_at h.ts hi
def dblL (x : Vw) (a b : Rec) (f : Int) : Bool := (a.pa == b.pa && b.lv.contains f) && (a.da == b.da || match bkAt x.bk (a.so, f) with
 | none => true
 | some i => decide (maxI (tsAt x.l i.toNat).lo (a.da + 1) > b.da))
theorem dblA_eq (x : Vw) (a b : Rec) : dblA x a b = a.lv.any (dblL x a b) := rfl
theorem any_hit {α : Type} {p : α → Bool} {l : List α} {i : Nat} (h : i < l.length) (hp : p l[i] = true) : l.any p = true := List.any_eq_true.2 ⟨_, List.getElem_mem h, hp⟩
theorem any_miss {α : Type} {p : α → Bool} {l : List α} (h : ∀ k (hk : k < l.length), p l[k] = false) : l.any p = false := by
 rw [List.any_eq_false]
 intro x hx
 obtain ⟨k, hk, rfl⟩ := List.getElem_of_mem hx
 rw [h k hk]; decide
theorem tsV_at {l : Led} {i : Int} (h0 : 0 ≤ i) (h : i < l.ts.length) : (l.ts.map encT).getD i.toNat default = encT (tsAt l i.toNat) := by
 have h' : i.toNat < l.ts.length := by omega
 rw [map_getD h', tsAt_at h']
def lo2 (a b : Rec) : Rec := if a.da > b.da then b else a
def hi2 (a b : Rec) : Rec := if a.da > b.da then a else b
theorem dblB_eq (x : Vw) (a b : Rec) : dblB x a b = dblA x (lo2 a b) (hi2 a b) := by
 unfold dblB lo2 hi2
 split <;> rfl
theorem lo2_ok {a b : Rec} (ha : recB a = true) (hb : recB b = true) : recB (lo2 a b) = true ∧ recB (hi2 a b) = true := by
 unfold lo2 hi2
 split
 ·exact ⟨hb, ha⟩
 ·exact ⟨ha, hb⟩
def cellsR (r : Rec) : List D := [.v (vInt r.so), .v (vInt r.bo), .v (vInt r.pa), .v (.sl (r.lv.map vInt)), .v (vInt r.da), .v (vInt r.kn), .v (vInt r.un)]
attribute [go_sem] cellsR
def K19 : List (Nat × Spec) := [(108, S108)]
theorem K19_sound : KS K19 := tc s108.sound <| tn
attribute [go_sem] K19
def V129 : VSpec := v2 iR iR (fun x a b => VOk x ∧ recB a = true ∧ recB b = true) (fun x a b => .v (.bool (dblB x a b))) none
def S129 : Spec := V129.toSpec
attribute [go_sem] V129 S129
set_option maxHeartbeats 8000000 in
theorem k129 : SSound Tryz.prog 129 S129 := by
 refine vw2 (rs := [.tmp 6]) Tryz.func129 Tryz.ntmps129 (by rfl) (by kernel_rfl) (by decide) (fun _ _ _ => by first | rfl | simp [D.clos, D.closL, rdO_clos]) ⟨_, rfl, lb rfl, fun x a b hp H h0 h1 h2 hO hO2 => ?_⟩
 have hP := mixedK
 simp only [iR, encR, boxV, argsD, List.map_cons, List.map_nil, Nat.zero_add, Option.map_none] at h0 ⊢
 have hΓ := K19_sound
 obtain ⟨hv, ha, hb_⟩ := hp
 rw [dblB_eq]
 obtain ⟨hp1, hp2⟩ := lo2_ok ha hb_
 repeat refine sq ?_
 refine rx hΓ [0,4,5] [[4, 0],[5, 0]] (fun K' hK => by simp only [go_sem]; (repeat (refine ⟨obx, ?_⟩)); exact hK _ (by simp only [go_sem, hO]) (by simp only [go_sem] <;> rfl)) ?_
 repeat refine sq ?_
 refine rx hΓ [0,4,5,15] [[4, 0],[5, 0]] (fun K' hK => by simp only [go_sem]; (repeat (refine ⟨obx, ?_⟩)); exact hK _ (by simp only [go_sem, hO]) (by simp only [go_sem] <;> rfl)) ?_
 refine cl_condJ (mkS 80 [0] H [(0, ⟨true, .ref [0, 1] 0⟩), (4, ⟨true, .ref [4, 0] 0⟩), (5, ⟨true, .ref [5, 0] 0⟩)] [([4, 0], .box (cellsR (lo2 a b))), ([5, 0], .box (cellsR (hi2 a b)))]) rfl rfl (fun hb => ?_) (fun hb => ?_) ?_
 ·rw [show lo2 a b = b from if_pos (by simpa using hb), show hi2 a b = a from if_pos (by simpa using hb)]
  refine cl_r hΓ fun K' hK => ?_
  simp only [go_sem]
  repeat (refine ⟨obx, ?_⟩)
  refine hK _ ?_
  clear K' hK
  simp only [go_sem]
  refine weakM_keep [0,4,5] [[4, 0],[5, 0]] ?_ ?_
  ·simp only [go_sem, hO]
  ·simp only [go_sem]
 ·rw [show lo2 a b = a from if_neg (by simpa using hb), show hi2 a b = b from if_neg (by simpa using hb)]
  refine cl_skip ?_
  refine cl_nil ?_
  simp only [go_sem]
  refine weakM_keep [0,4,5] [[4, 0],[5, 0]] ?_ ?_
  ·simp only [go_sem, hO]
  ·simp only [go_sem]
 generalize lo2 a b = p at *
 generalize hi2 a b = q at *
 have hl : p.lv.length ≤ maxLen := by have := (recB_lf hp1).2; unfold maxLen; omega
 repeat refine sq ?_
 refine rx hΓ [0,4,5,19,20,21] [[4, 0],[5, 0]] (fun K' hK => by simp only [go_sem]; (repeat (refine ⟨obx, ?_⟩)); exact hK _ (by simp only [go_sem, hO]) (by simp only [go_sem] <;> rfl)) ?_
 refine cl_block ?_
 refine cl_loop'  (fun s : Nat => [(21, ⟨true, .v (vInt s)⟩)]) (fun s => []) (fun s => s ≤ p.lv.length ∧ ∀ k (h : k < p.lv.length), k < s → dblL x p q p.lv[k] = false) (fun s => p.lv.length - s) 0 ?_ ?_ ?_ ?_
 ·exact ⟨Nat.zero_le _, by simp⟩
 ·rfl
 ·rfl
 rintro i ⟨hi, hR⟩
 simp only [go_sem]
 repeat refine sq ?_
 refine rx hΓ [0,4,5,19,20,21,22] [[4, 0],[5, 0]] (fun K' hK => by simp only [go_sem]; (repeat (refine ⟨obx, ?_⟩)); exact hK _ (by simp only [go_sem, hO]) (by simp only [go_sem] <;> rfl)) ?_
 repeat refine sq ?_
 refine cnd (fun hb => ?_) fun hb => ?_
 ·have hlt : i < p.lv.length := by simpa using hb
  have hlt' : (i : Int) < p.lv.length := by omega
  clear hb
  have hwd := wrap_day (recB_da hp1)
  refine cl_skip ?_
  repeat refine sq ?_
  refine cl_block ?_
  repeat refine sq ?_
  refine rx hΓ [0,4,5,8,19,20,21] [[4, 0],[5, 0]] (fun K' hK => by simp only [go_sem, map_getD hlt, tnI, nnI, hlt']; (repeat (refine ⟨obx, ?_⟩)); exact hK _ (by simp only [go_sem, hO]) (by simp only [go_sem] <;> rfl)) ?_
  repeat refine sq ?_
  refine rx hΓ [0,4,5,8,19,20,21,36] [[4, 0],[5, 0]] (fun K' hK => by simp only [go_sem]; (repeat (refine ⟨obx, ?_⟩)); exact hK _ (by simp only [go_sem, hO]) (by simp only [go_sem] <;> rfl)) ?_
  refine cnd (fun hb => ?_) fun hb => ?_
  ·refine cl_exit ?_
   simp only [go_sem]
   refine cl_keep [0,4,5,19,20,21] [[4, 0],[5, 0]] ?_ ?_
   ·simp only [go_sem, hO]
   simp only [go_sem]
   refine cl_r hΓ fun K' hK => ?_
   simp only [go_sem]
   repeat (refine ⟨obx, ?_⟩)
   refine hK _ ?_
   clear K' hK
   simp only [go_sem]
   refine ⟨i + 1, ⟨hlt, ?_⟩, by (show p.lv.length - (i + 1) < p.lv.length - i; omega), ?_⟩
   ·intro k hk hki
    rcases Nat.lt_succ_iff_lt_or_eq.1 hki with h5 | rfl
    ·exact hR k hk h5
    ·unfold dblL; grind
   refine weak_eq [0,4,5,19,20,21] [[4, 0],[5, 0]] ?_ ?_ <;> simp only [go_sem, wrap_succ hlt hl, csI, hO]
  ·refine cl_skip ?_
   rcases hbk : bkAt x.bk (p.so, p.lv[i]) with _ | j
   ·repeat refine sq ?_
    refine dx hΓ hP [[], [0], [0, 1], [0, 1, 2], [], [4], [], [4, 5, 6], u8, u9, u10, u10, u11, u13] [0,4,5,9,10,19,20,21] [[4, 0],[5, 0]] (by kernel_rfl) (fun K' hK => by simp only [go_sem, h0, h1, mget_bk, hbk, Option.map_none, Option.isSome_none, Option.getD_none]; (repeat (refine ⟨obx, ?_⟩)); (first | refine ⟨by rfl, ?_⟩ | skip); exact hK _ (by simp only [go_sem, hO]) (by simp only [go_sem] <;> rfl)) ?_
    repeat refine sq ?_
    refine dx hΓ hP [[], [0], [], [2], u4, u5, u6, u7, u8, u9, u10, u11, u12, u13, u14, u15, u16, u10, u18, u19, u20, u21, u10, [0, 1, 2, 3, 4, 5, 6, 7, 8, 9, 22], [0, 1, 2, 3, 4, 5, 6, 7, 8, 9, 22, 23], u25, u10, [0, 1, 2, 3, 4, 5, 6, 7, 8, 9, 26], u28, u29] [0,4,5,19,20,21,78] [[4, 0],[5, 0]] (by kernel_rfl) (fun K' hK => by simp only [go_sem, h0]; (repeat (refine ⟨obx, ?_⟩)); (first | refine ⟨by rfl, ?_⟩ | skip); exact hK _ (by simp only [go_sem, hO]) (by simp only [go_sem] <;> rfl)) ?_
    refine cnd (fun hb => ?_) fun hb => ?_
    ·repeat refine sq ?_
     refine rx hΓ [6] [] (fun K' hK => by simp only [go_sem]; (repeat (refine ⟨obx, ?_⟩)); exact hK _ (by simp only [go_sem, hO]) (by simp only [go_sem] <;> rfl)) ?_
     refine cl_ret ?_
     simp only [go_sem, h0, h1, h2]
     rw [dblA_eq, any_hit hlt (by unfold dblL; rw [hbk]; grind [maxI])]
    ·refine cl_skip ?_
     refine cl_nil ?_
     simp only [go_sem]
     refine cl_keep [0,4,5,19,20,21] [[4, 0],[5, 0]] ?_ ?_
     ·simp only [go_sem, hO]
     simp only [go_sem]
     refine cl_r hΓ fun K' hK => ?_
     simp only [go_sem]
     repeat (refine ⟨obx, ?_⟩)
     refine hK _ ?_
     clear K' hK
     simp only [go_sem]
     refine ⟨i + 1, ⟨hlt, ?_⟩, by (show p.lv.length - (i + 1) < p.lv.length - i; omega), ?_⟩
     ·intro k hk hki
      rcases Nat.lt_succ_iff_lt_or_eq.1 hki with h5 | rfl
      ·exact hR k hk h5
      ·unfold dblL; rw [hbk]; grind [maxI]
     refine weak_eq [0,4,5,19,20,21] [[4, 0],[5, 0]] ?_ ?_ <;> simp only [go_sem, wrap_succ hlt hl, csI, hO]
   ·obtain ⟨hj0, hj1⟩ := hv.bk _ _ hbk
    have htv := tsV_at hj0 hj1
    repeat refine sq ?_
    refine dx hΓ hP [[], [0], [0, 1], [0, 1, 2], [], [4], [], [4, 5, 6], u8, u9, u10, u10, u11, u13] [0,4,5,9,10,19,20,21] [[4, 0],[5, 0]] (by kernel_rfl) (fun K' hK => by simp only [go_sem, h0, h1, mget_bk, hbk, Option.map_some, Option.isSome_some, Option.getD_some]; (repeat (refine ⟨obx, ?_⟩)); (first | refine ⟨by rfl, ?_⟩ | skip); exact hK _ (by simp only [go_sem, hO, Option.map_some]) (by simp only [go_sem, Option.map_some] <;> rfl)) ?_
    repeat refine sq ?_
    refine dx hΓ hP [[], [0], [], [2], u4, u5, u6, u7, u8, u9, u10, u11, u12, u13, u14, u15, u16, u10, u18, u19, u20, u21, u10, [0, 1, 2, 3, 4, 5, 6, 7, 8, 9, 22], [0, 1, 2, 3, 4, 5, 6, 7, 8, 9, 22, 23], u25, u10, [0, 1, 2, 3, 4, 5, 6, 7, 8, 9, 26], u28, u29] [0,4,5,19,20,21,78] [[4, 0],[5, 0]] (by kernel_rfl) (fun K' hK => by simp only [go_sem, h0, htv, hj0, hj1, hwd]; (repeat (refine ⟨obx, ?_⟩)); (first | refine ⟨by rfl, ?_⟩ | skip); exact hK _ (by simp only [go_sem, hO, Option.map_some]) (by simp only [go_sem, Option.map_some] <;> rfl)) ?_
    refine cnd (fun hb => ?_) fun hb => ?_
    ·repeat refine sq ?_
     refine rx hΓ [6] [] (fun K' hK => by simp only [go_sem]; (repeat (refine ⟨obx, ?_⟩)); exact hK _ (by simp only [go_sem, hO]) (by simp only [go_sem] <;> rfl)) ?_
     refine cl_ret ?_
     simp only [go_sem, h0, h1, h2]
     rw [dblA_eq, any_hit hlt (by unfold dblL; rw [hbk]; grind [maxI])]
    ·refine cl_skip ?_
     refine cl_nil ?_
     simp only [go_sem]
     refine cl_keep [0,4,5,19,20,21] [[4, 0],[5, 0]] ?_ ?_
     ·simp only [go_sem, hO]
     simp only [go_sem]
     refine cl_r hΓ fun K' hK => ?_
     simp only [go_sem]
     repeat (refine ⟨obx, ?_⟩)
     refine hK _ ?_
     clear K' hK
     simp only [go_sem]
     refine ⟨i + 1, ⟨hlt, ?_⟩, by (show p.lv.length - (i + 1) < p.lv.length - i; omega), ?_⟩
     ·intro k hk hki
      rcases Nat.lt_succ_iff_lt_or_eq.1 hki with h5 | rfl
      ·exact hR k hk h5
      ·unfold dblL; rw [hbk]; grind [maxI]
     refine weak_eq [0,4,5,19,20,21] [[4, 0],[5, 0]] ?_ ?_ <;> simp only [go_sem, wrap_succ hlt hl, csI, hO]
 ·have hge : i = p.lv.length := by
   have : ¬ (i : Int) < p.lv.length := by simpa using hb
   omega
  clear hb
  subst hge
  refine cl_exit ?_
  simp only [go_sem]
  refine cl_keep [] [] ?_ ?_
  ·simp only [go_sem, hO]
  simp only [go_sem]
  repeat refine sq ?_
  refine rx hΓ [6] [] (fun K' hK => by simp only [go_sem]; (repeat (refine ⟨obx, ?_⟩)); exact hK _ (by simp only [go_sem, hO]) (by simp only [go_sem] <;> rfl)) ?_
  refine cl_ret ?_
  simp only [go_sem, h0, h1, h2]
  rw [dblA_eq, any_miss fun k hk => hR k hk hk]
end
noncomputable section
@[go_sem] theorem etaVw (x : Vw) : (⟨x.l, x.rs, x.ts, x.bk, x.ds⟩ : Vw) = x := rfl
def rdP : Option (Int × Int) → D
 | some p => .tup [.v (.sl [vInt p.1, vInt p.2]), .v (.bool true)]
 | none => .tup [.nilsl, .v (.bool false)]
theorem rdP_clos (r : Option (Int × Int)) (p : Name → Bool) : D.clos p (rdP r) = true := by cases r <;> rfl
theorem pairAt_none {x : Vw} {i : Nat} (h : i < x.rs.length) (hn : ∀ k (hk : k < (x.rs.drop (i + 1)).length), dblB x x.rs[i] (x.rs.drop (i + 1))[k] = false) : pairAt x i = none := by
 unfold pairAt
 have e : (x.rs.drop (i + 1)).find? (dblB x x.rs[i]) = none := List.find?_eq_none.2 fun y hy => by
  obtain ⟨k, hk, rfl⟩ := List.getElem_of_mem hy
  rw [hn k hk]; decide
 rw [getD_at h, e]
 rfl
theorem pairAt_some {x : Vw} {i k : Nat} (h : i < x.rs.length) (hk : k < (x.rs.drop (i + 1)).length) (hn : ∀ j (hj : j < (x.rs.drop (i + 1)).length), j < k → dblB x x.rs[i] (x.rs.drop (i + 1))[j] = false) (hb : dblB x x.rs[i] (x.rs.drop (i + 1))[k] = true) :
  pairAt x i = some (x.rs[i].so, (x.rs.drop (i + 1))[k].so) := by
 unfold pairAt
 have e : (x.rs.drop (i + 1)).find? (dblB x x.rs[i]) = some (x.rs.drop (i + 1))[k] := List.find?_eq_some_iff_getElem.2 ⟨hb, k, hk, rfl, fun j hj => by rw [hn j (by omega) hj]; rfl⟩
 rw [getD_at h, e]
 rfl
theorem pairK_some {x : Vw} {i : Nat} {p : Int × Int} (h : i < x.rs.length) (hn : ∀ k, k < i → pairAt x k = none) (hp : pairAt x i = some p) : pairK x = some p := by
 unfold pairK
 rw [List.findSome?_eq_some_iff]
 refine ⟨List.range i, i, (List.range' (i + 1) (x.rs.length - (i + 1))), ?_, hp, fun a ha => hn a (List.mem_range.1 ha)⟩
 rw [List.range_eq_range', List.range_eq_range']
 have : x.rs.length = i + (1 + (x.rs.length - (i + 1))) := by omega
 conv => lhs; rw [this]
 rw [← List.range'_append_1, ← List.range'_append_1, Nat.zero_add]
 rfl
theorem pairK_none {x : Vw} (hn : ∀ k, k < x.rs.length → pairAt x k = none) : pairK x = none := by
 unfold pairK
 rw [List.findSome?_eq_none_iff]
 exact fun a ha => hn a (List.mem_range.1 ha)
def K20 : List (Nat × Spec) := [(129, S129)]
theorem K20_sound : KS K20 := tc k129 <| tn
attribute [go_sem] K20
def V120 : VSpec := v0 (fun x => VOk x) (fun x => rdP (pairK x)) none
def S120 : Spec := V120.toSpec
attribute [go_sem] V120 S120
set_option maxHeartbeats 8000000 in
theorem k120 : SSound Tryz.prog 120 S120 := by
 refine vw0 (rs := [.tmp 2, .tmp 3]) Tryz.func120 Tryz.ntmps120 (by rfl) (by kernel_rfl) (by decide) (fun _ => by first | rfl | exact rdP_clos _ _ | simp [D.clos, D.closL, rdO_clos]) ⟨_, rfl, lb rfl, fun x hp H h0 h1 h2 hO hO2 => ?_⟩
 simp only [boxV, argsD, List.map_nil, Nat.zero_add, Option.map_none] at h0 ⊢
 have hΓ := K20_sound
 have hrl : x.rs.length ≤ maxLen := by have := hp.rn; unfold maxLen; omega
 repeat refine sq ?_
 refine rx hΓ [0] [] (fun K' hK => by simp only [go_sem]; (repeat (refine ⟨obx, ?_⟩)); exact hK _ (by simp only [go_sem, hO]) (by simp only [go_sem] <;> rfl)) ?_
 repeat refine sq ?_
 refine rx hΓ [0,11,12,13] [] (fun K' hK => by simp only [go_sem, h0]; (repeat (refine ⟨obx, ?_⟩)); exact hK _ (by simp only [go_sem, hO]) (by simp only [go_sem] <;> rfl)) ?_
 refine cl_block ?_
 refine cl_loop'  (fun s : Nat => [(13, ⟨true, .v (vInt s)⟩)]) (fun s => []) (fun s => s ≤ x.rs.length ∧ ∀ k, k < s → pairAt x k = none) (fun s => x.rs.length - s) 0 ?_ ?_ ?_ ?_
 ·exact ⟨Nat.zero_le _, by simp⟩
 ·rfl
 ·rfl
 rintro i ⟨hi, hR⟩
 simp only [go_sem]
 repeat refine sq ?_
 refine rx hΓ [0,11,12,13,14] [] (fun K' hK => by simp only [go_sem]; (repeat (refine ⟨obx, ?_⟩)); exact hK _ (by simp only [go_sem, hO]) (by simp only [go_sem] <;> rfl)) ?_
 repeat refine sq ?_
 refine cnd (fun hb => ?_) fun hb => ?_
 ·have hlt : i < x.rs.length := by simpa using hb
  have hlt' : (i : Int) < x.rs.length := by omega
  clear hb
  have hwi : IntKind.i64.wrap ((i : Int) + 1) = ((i + 1 : Nat) : Int) := wrap_succ hlt hrl
  have hdl : x.rs.length - (i + 1) ≤ maxLen := by omega
  have htk : List.take (x.rs.length - (i + 1)) ((x.rs.drop (i + 1)).map encR) = (x.rs.drop (i + 1)).map encR := List.take_of_length_le (by simp)
  have hr1 := hp.rs x.rs[i] (List.getElem_mem hlt)
  refine cl_skip ?_
  repeat refine sq ?_
  refine cl_block ?_
  repeat refine sq ?_
  refine rx hΓ [0,4,5,11,12,13] [[5, 0]] (fun K' hK => by simp only [go_sem, map_getD hlt, tnI, nnI, hlt']; (repeat (refine ⟨obx, ?_⟩)); exact hK _ (by simp only [go_sem, hO]) (by simp only [go_sem] <;> rfl)) ?_
  repeat refine sq ?_
  refine rx hΓ [0,5,11,12,13,24,25,26] [[5, 0]] (fun K' hK => by simp only [go_sem, h0, tnI, nnI, hwi, ← List.map_drop, htk]; (repeat (refine ⟨by first | exact obx | exact ⟨by omega, Int.le_refl _, fun y hy => (okR _ y hy).1⟩, ?_⟩)); exact hK _ (by simp only [go_sem, hO]) (by simp only [go_sem] <;> rfl)) ?_
  refine cl_block ?_
  refine cl_loop'  (fun s : Nat => [(26, ⟨true, .v (vInt s)⟩)]) (fun s => []) (fun s => s ≤ (x.rs.drop (i + 1)).length ∧ ∀ k (hk : k < (x.rs.drop (i + 1)).length), k < s → dblB x x.rs[i] (x.rs.drop (i + 1))[k] = false) (fun s => (x.rs.drop (i + 1)).length - s) 0 ?_ ?_ ?_ ?_
  ·exact ⟨Nat.zero_le _, by simp⟩
  ·rfl
  ·rfl
  rintro i1 ⟨hi, hR⟩
  simp only [go_sem]
  repeat refine sq ?_
  refine rx hΓ [0,5,11,12,13,24,25,26,27] [[5, 0]] (fun K' hK => by simp only [go_sem]; (repeat (refine ⟨obx, ?_⟩)); exact hK _ (by simp only [go_sem, hO]) (by simp only [go_sem] <;> rfl)) ?_
  repeat refine sq ?_
  refine cnd (fun hb => ?_) fun hb => ?_
  ·have hlt1 : i1 < (x.rs.drop (i + 1)).length := by simpa using hb
   have hlt1' : (i1 : Int) < (x.rs.drop (i + 1)).length := by omega
   clear hb
   have hr2 := hp.rs (x.rs.drop (i + 1))[i1] (List.mem_of_mem_drop (List.getElem_mem hlt1))
   refine cl_skip ?_
   repeat refine sq ?_
   refine cl_block ?_
   repeat refine sq ?_
   refine rx hΓ [0,5,7,11,12,13,24,25,26] [[5, 0],[7, 0]] (fun K' hK => by simp only [go_sem, tnI, nnI, map_getD hlt1, tnI, nnI, hlt1']; (repeat (refine ⟨obx, ?_⟩)); exact hK _ (by simp only [go_sem, hO]) (by simp only [go_sem] <;> rfl)) ?_
   repeat refine sq ?_
   refine rx hΓ [0,5,7,11,12,13,24,25,26,33] [[5, 0],[7, 0]] (fun K' hK => by simp only [go_sem, h0, h1, h2]; (repeat (refine ⟨obx, ?_⟩)); exact hK _ (by simp only [go_sem, hO]) (by simp only [go_sem] <;> rfl)) ?_
   refine cnd (fun hb => ?_) fun hb => ?_
   ·repeat refine sq ?_
    refine rx hΓ [2,3] [] (fun K' hK => by simp only [go_sem]; (repeat (refine ⟨obx, ?_⟩)); exact hK _ (by simp only [go_sem, hO]) (by simp only [go_sem] <;> rfl)) ?_
    refine cl_ret ?_
    simp only [go_sem, h0, h1, h2]
    rw [pairK_some hlt (by assumption) (pairAt_some hlt hlt1 hR (by simpa using hb))]; rfl
   ·refine cl_skip ?_
    refine cl_nil ?_
    simp only [go_sem]
    refine cl_keep [0,5,11,12,13,24,25,26] [[5, 0]] ?_ ?_
    ·simp only [go_sem, hO]
    simp only [go_sem]
    refine cl_r hΓ fun K' hK => ?_
    simp only [go_sem]
    repeat (refine ⟨obx, ?_⟩)
    refine hK _ ?_
    clear K' hK
    simp only [go_sem]
    refine ⟨i1 + 1, ⟨hlt1, ?_⟩, by (show (x.rs.drop (i + 1)).length - (i1 + 1) < (x.rs.drop (i + 1)).length - i1; omega), ?_⟩
    ·intro k hk hki
     rcases Nat.lt_succ_iff_lt_or_eq.1 hki with h5 | rfl
     ·exact hR k hk h5
     ·simpa using hb
    refine weak_eq [0,5,11,12,13,24,25,26] [[5, 0]] ?_ ?_ <;> simp only [go_sem, wrap_succ hlt1 (by rw [List.length_drop]; omega : (x.rs.drop (i + 1)).length ≤ maxLen), csI, hO]
  ·have hge1 : i1 = (x.rs.drop (i + 1)).length := by
    have : ¬ (i1 : Int) < (x.rs.drop (i + 1)).length := by simpa using hb
    omega
   clear hb
   subst hge1
   refine cl_exit ?_
   simp only [go_sem]
   refine cl_keep [0,11,12,13] [] ?_ ?_
   ·simp only [go_sem, hO]
   simp only [go_sem]
   refine cl_r hΓ fun K' hK => ?_
   simp only [go_sem]
   repeat (refine ⟨obx, ?_⟩)
   refine hK _ ?_
   clear K' hK
   simp only [go_sem]
   refine ⟨i + 1, ⟨hlt, ?_⟩, by (show x.rs.length - (i + 1) < x.rs.length - i; omega), ?_⟩
   ·intro k hk
    rcases Nat.lt_succ_iff_lt_or_eq.1 hk with h5 | rfl
    ·exact (by assumption : ∀ k, k < i → pairAt x k = none) k h5
    ·exact pairAt_none hlt fun j hj => hR j hj hj
   refine weak_eq [0,11,12,13] [] ?_ ?_ <;> simp only [go_sem, wrap_succ hlt hrl, csI, hO]
 ·have hge : i = x.rs.length := by
   have : ¬ (i : Int) < x.rs.length := by simpa using hb
   omega
  clear hb
  subst hge
  refine cl_exit ?_
  simp only [go_sem]
  refine cl_keep [] [] ?_ ?_
  ·simp only [go_sem, hO]
  simp only [go_sem]
  repeat refine sq ?_
  refine rx hΓ [2,3] [] (fun K' hK => by simp only [go_sem]; (repeat (refine ⟨obx, ?_⟩)); exact hK _ (by simp only [go_sem, hO]) (by simp only [go_sem] <;> rfl)) ?_
  refine cl_ret ?_
  simp only [go_sem, h0, h1, h2]
  rw [pairK_none hR]; rfl
end
def setU (obj : Name → Option O) (L : List O) : Name → Option O := fun nm => match outH L nm with | some o => some o | none => obj nm
theorem setU_out {L1 L2 : List O} (h : L2.length = L1.length) : setU (outH L1) L2 = outH L2 := by
 funext nm
 unfold setU
 cases hx : isOut nm with
 | false => rw [outH_not hx, outH_not hx]
 | true =>
  obtain ⟨i, rfl⟩ := isOut_iff.1 hx
  simp only [outH]
  by_cases hi : i < L2.length
  ·rw [List.getElem?_eq_getElem hi]
  ·rw [List.getElem?_eq_none (by omega), List.getElem?_eq_none (by omega)]
theorem mkS_setU (n : Nat) (p : Name) (F H : Name → Option O) (L : List O) (l : List (Nat × E)) (h : List (Name × O)) :
  mkS n p (setU (fun nm => if own p nm = true then F nm else H nm) L) l h = mkS n p (setU H L) l h :=
 mkS_same fun nm hn => by unfold setU; simp [hn]
theorem OutC_setU (p : Name) (dom : Name → Bool) (F H : Name → Option O) (L : List O) :
  OutC p dom (setU (fun nm => if own p nm = true then F nm else H nm) L) = OutC p dom (setU H L) := by
 have e : ∀ nm, own p nm = false → setU (fun nm => if own p nm = true then F nm else H nm) L nm = setU H L nm := fun nm hn => by unfold setU; simp [hn]
 exact propext ⟨fun k nm q hn h => k nm q hn (by rw [e nm hn]; exact h), fun k nm q hn h => k nm q hn (by rw [← e nm hn]; exact h)⟩
def Lp.I (r : Lp) (s : Nat) : List O := r.rc (LI r.m) .ready none :: r.fam (LI r.m) s
theorem Lp.I_len {r : Lp} (hr : r.Ok) (s : Nat) : (r.I s).length = r.m + 1 := by unfold Lp.I; rw [List.length_cons, hr.len _ _ (LI_len _)]
theorem Lp.I_clos {r : Lp} (hr : r.Ok) (s : Nat) : ∀ o ∈ r.I s, ∀ dom : Name → Bool, (∀ i, dom [i, 1] = true) → O.clos dom o = true := by
 intro o ho dom hd
 have hd' : ∀ x ∈ LI r.m, dom x = true := fun x hx => by
  obtain ⟨i, _, rfl⟩ := List.mem_map.1 hx
  exact hd _
 rcases List.mem_cons.1 ho with rfl | ho
 ·exact hr.closE _ _ (LI_len _) hd'
 ·exact hr.closF _ _ _ (LI_len _) hd' _ ho
theorem Lp.y_setU {r : Lp} (hr : r.Ok) (hst : ∀ j, r.st j = none) {s : Nat} (hs : s < r.n) (obj : Name → Option O) (tm : Name) (ho : ∀ nm, isOut nm = true → obj nm = outH (r.I s) nm) :
  r.y.toSpec.app obj tm (.yld [0, 1] :: r.vals s) = ⟨True, .v (.bool true), setU obj (r.I (s + 1))⟩ := by
 have hLn : (LI r.m).Nodup := List.Pairwise.map _ (fun a b h => by simpa using h) List.nodup_range
 have hRn : ([0, 1] : Name) ∉ LI r.m := fun h => by
  obtain ⟨i, _, hi⟩ := List.mem_map.1 h
  simp at hi
 have h0 : obj [0, 1] = some (r.rc (LI r.m) .ready none) := by
  rw [ho _ rfl]; rfl
 have hF : objAll obj (LI r.m) (r.fam (LI r.m) s) := by
  rw [objAll_iff]
  refine List.ext_getElem (by rw [List.length_map, List.length_map, LI_len, hr.len _ _ (LI_len _)]) fun i h3 h4 => ?_
  simp only [List.getElem_map, LI, List.getElem_range]
  rw [ho _ rfl]
  simp only [Lp.I, outH, List.getElem?_cons_succ]
  have h5 : i < (r.fam (LI r.m) s).length := by simpa using h4
  rw [List.getElem?_eq_getElem h5]
  rfl
 have happ := Lp.y_app hr hs (fun j _ => hst j) (t := tm) (LI_len _) hLn hRn h0 hF
 rw [happ, hst s]
 simp only [Option.isNone_none, if_true]
 congr 1
 funext nm
 have hlen := hr.len (LI r.m) (s + 1) (LI_len _)
 by_cases hR : nm = [0, 1]
 ·subst hR
  rw [upd_same]
  rfl
 ·rw [upd_ne _ _ _ hR]
  unfold setU
  cases hx : isOut nm with
  | false =>
   rw [outH_not hx, setLs_ne]
   intro hm2
   obtain ⟨i, _, rfl⟩ := List.mem_map.1 hm2
   cases hx
  | true =>
   obtain ⟨i, rfl⟩ := isOut_iff.1 hx
   have hall := setLs_all (obj := obj) (F := r.fam (LI r.m) (s + 1)) hLn (by rw [LI_len, hlen])
   match i, hR with
   | 0, hR => exact (hR rfl).elim
   | i + 1, _ =>
    simp only [Lp.I, outH, List.getElem?_cons_succ]
    by_cases hi : i < r.m
    ·have h6 := objAll_get hall i (by rw [LI_len]; exact hi) (by rw [hlen]; exact hi)
     simp only [LI, List.getElem_map, List.getElem_range] at h6
     rw [show (r.fam (LI r.m) (s + 1))[i]? = some (r.fam (LI r.m) (s + 1))[i] from List.getElem?_eq_getElem (by rw [hlen]; exact hi)]
     exact h6
    ·rw [List.getElem?_eq_none (by rw [hlen]; omega), setLs_ne]
     intro hm2
     obtain ⟨j, hj2, hj3⟩ := List.mem_map.1 hm2
     have := List.mem_range.1 hj2
     simp at hj3
     omega
theorem Lp.go_e {r : Lp} (hst : ∀ j, r.st j = none) : r.e = r.n ∧ r.pd = none := by
 have : (List.range r.n).find? (fun s => (r.st s).isSome) = none := List.find?_eq_none.2 fun s _ => by rw [hst s]; decide
 unfold Lp.e Lp.pd
 rw [this]
 exact ⟨rfl, rfl⟩
theorem Lp.go_end {P : Program} {r : Lp} (hr : r.Ok) (hst : ∀ j, r.st j = none) {σ : S} (hob : ∀ i, σ.obj [i, 1] = outH (r.I r.n) [i, 1]) :
  (resAll P σ []).ok ∧ (resAll P σ []).d = .tup [] ∧ endC (r.rc (LI r.m) .ready none :: r.fam (LI r.m) 0) ⟨(0, r.fin (LI r.m)) :: upds 1 (r.fam (LI r.m) r.e), [], .tup []⟩ σ := by
 obtain ⟨e1, e2⟩ := Lp.go_e hst
 refine Lp.it_end hr ?_ ?_
 ·rw [hob]
  unfold Lp.fin
  rw [e2]
  rfl
 ·rw [objAll_iff, e1]
  refine List.ext_getElem (by rw [List.length_map, List.length_map, LI_len, hr.len _ _ (LI_len _)]) fun i h3 h4 => ?_
  simp only [List.getElem_map, LI, List.getElem_range]
  rw [hob]
  simp only [Lp.I, outH, List.getElem?_cons_succ]
  have h5 : i < (r.fam (LI r.m) r.n).length := by simpa using h4
  rw [List.getElem?_eq_getElem h5]
  rfl
theorem Lp.itC_sound {P : Program} {r : Lp} (hr : r.Ok) (hst : ∀ j, r.st j = none) {caps : List Name → List D} {f : FuncId} {fn : Func} {nt : Nat} (hf : P.funcs[f]? = some fn) (hnt : fn.ntmps = nt) (hrs : fn.results.toList = []) (hn : (fn.name == "runtime.NumGoroutine") = false) (hy : f < 1000000000)
  (hw : ∃ c, fn.body = some c ∧ (caps (LI r.m)).length + 1 ≤ nt ∧ CL P [c] (mkS nt [0] (outH (r.I 0)) (argsD 0 (.yld [0, 1] :: caps (LI r.m))) []) (fun e σ => (e = .normal ∨ e = .ret) ∧ ∀ i, σ.obj [i, 1] = outH (r.I r.n) [i, 1])) : SSound P f (r.itC caps).toSpec := by
 obtain ⟨c, hc, hl, hw⟩ := hw
 refine csound hf hc hnt hrs (enter_of hf hc hn) (Nat.ne_of_lt (show f < yid from hy)) ?_
 rintro os ds ⟨rfl, rfl⟩
 refine ⟨by simpa using hl, CW.mono (cl_of hw) ?_⟩
 rintro e σ ⟨he, hob⟩
 rcases he with rfl | rfl
 ·exact Lp.go_end hr hst hob
 ·exact Lp.go_end hr hst hob
theorem Lp.it_sound {P : Program} {r : Lp} (hr : r.Ok) (hst : ∀ j, r.st j = none) {caps : List V} {f : FuncId} {fn : Func} {nt : Nat} (hf : P.funcs[f]? = some fn) (hnt : fn.ntmps = nt) (hrs : fn.results.toList = []) (hn : (fn.name == "runtime.NumGoroutine") = false) (hy : f < 1000000000)
  (hw : ∃ c, fn.body = some c ∧ caps.length + 1 ≤ nt ∧ CL P [c] (mkS nt [0] (outH (r.I 0)) (argsD 0 (.yld [0, 1] :: caps.map .v)) []) (fun e σ => (e = .normal ∨ e = .ret) ∧ ∀ i, σ.obj [i, 1] = outH (r.I r.n) [i, 1])) : SSound P f (r.it caps).toSpec := by
 obtain ⟨c, hc, hl, hw⟩ := hw
 refine csound hf hc hnt hrs (enter_of hf hc hn) (Nat.ne_of_lt (show f < yid from hy)) ?_
 rintro os ds ⟨rfl, rfl⟩
 refine ⟨by simpa using hl, CW.mono (cl_of hw) ?_⟩
 rintro e σ ⟨he, hob⟩
 rcases he with rfl | rfl
 ·exact Lp.go_end hr hst hob
 ·exact Lp.go_end hr hst hob
noncomputable section
def withA (obj : Name → Option O) (t : Name) : List D → R
 | [.ref nv 0, .v (.int .i64 pa), .v (.sl lv)] => match getV obj nv with
  | some (nb, nd, x) => ⟨okV obj nv nb nd x ∧ obj (3 :: 0 :: t) = none, .clo (.func 193) [] [.ref (3 :: 0 :: t) 0, .v (.ptr [vInt pa]), .v (.ptr [.sl lv])], upd obj (3 :: 0 :: t) (some (.box [.ref nv 0]))⟩
  | _ => .bad obj
 | _ => .bad obj
def withF (obj : Name → Option O) (t : Name) : List D → List Name
 | .ref nv _ :: _ => (3 :: 0 :: t) :: nv :: (match obj nv with | some (.box [_, _, _, .map nb, .map nd]) => [nb, nd] | _ => [])
 | _ => []
def withS : Spec := ⟨withA, withF, withF⟩
theorem getV_agr {obj obj2 : Name → Option O} {nv : Name} (h1 : obj2 nv = obj nv) (h2 : ∀ nm ∈ (match obj nv with | some (.box [_, _, _, .map nb, .map nd]) => [nb, nd] | _ => []), obj2 nm = obj nm) : getV obj2 nv = getV obj nv := by
 unfold getV
 rw [h1]
 split
 ·rename_i lp rs ts nb nd h
  rw [h] at h2
  rw [h2 nb (by simp), h2 nd (by simp)]
 ·rfl
theorem getV_names {obj : Name → Option O} {nv nb nd : Name} {x : Vw} (h : getV obj nv = some (nb, nd, x)) : (match obj nv with | some (.box [_, _, _, .map nb, .map nd]) => [nb, nd] | _ => []) = [nb, nd] := by
 unfold getV at h
 split at h
 ·rename_i e
  split at h
  ·cases h; rw [e]
  ·cases h
 ·cases h
theorem withS_near : withS.Near := by
 refine near_fw fun obj obj2 t ds ha => ?_
 unfold withF at ha ⊢
 split
 ·rename_i nv off r
  simp only at ha
  have h1 : obj2 nv = obj nv := ha nv (by simp)
  have hg := getV_agr h1 fun nm hn => ha nm (by simp [hn])
  refine ⟨by rw [h1], ?_⟩
  unfold withA
  split
  ·rename_i nv' pa lv e
   cases e
   simp only [hg]
   split
   ·rename_i nb nd x hx
    have hnm := getV_names hx
    rw [hnm] at ha ⊢
    have hok : okV obj2 nv nb nd x = okV obj nv nb nd x := by unfold okV; rw [h1, ha nb (by simp), ha nd (by simp)]
    rw [hok, ha (3 :: 0 :: t) (by simp)]
    exact .one (by simp) ha
   ·exact .none _ ha
  ·exact .none _ ha
 ·refine ⟨rfl, ?_⟩
  rename_i hds
  unfold withA
  split
  ·exact (hds _ _ _ rfl).elim
  ·exact .none _ (fun _ h => by cases h)
attribute [go_sem] withS withA
def withC : CSpec where
 pre := fun os ds => ∃ (x : Vw) (pa : Int) (lv : List V), os = [boxV x [1, 1] [2, 1], .map 2 (encBk x.bk), .map 0 (encDs x.ds)] ∧ ds = [.ref [0, 1] 0, .v (vInt pa), .v (.sl lv)]
 out := fun _ ds => match ds with
  | [_, .v p, .v l] => ⟨[], [([3, 0], .box [.ref [0, 1] 0])], .clo (.func 193) [] [.ref [3, 0] 0, .v (.ptr [p]), .v (.ptr [l])]⟩
  | _ => ⟨[], [], .any⟩
theorem withS_sound {f : FuncId} (h : SSound Tryz.prog f withC.toSpec) (hne : f ≠ yid) : SSound Tryz.prog f withS := by
 refine ssound_eq h withS_near hne fun obj t ds hok => ?_
 change (withA obj t ds).ok at hok
 refine ⟨ds, rfl, fun _ _ _ _ h => h, ?_⟩
 show _ ∧ _ = (withA obj t ds).d ∧ _ = (withA obj t ds).obj
 unfold withA at hok ⊢
 split at hok
 ·rename_i nv pa lv
  split at hok
  ·rename_i nb nd x hgx
   obtain ⟨hv, hfr⟩ := hok
   have hv' := hv
   obtain ⟨h1, h2, h3, h4, h5, h6⟩ := hv'
   have n4 : nv ≠ nb := by simpa using h4
   have n5 : nv ≠ nd := by simpa using h5
   have n6 : nb ≠ nd := by simpa using h6
   have hr := reach_view hv [vInt pa, .sl lv]
   simp only [List.map_cons, List.map_nil] at hr
   have i0 : idx [nv, nb, nd] nv = 0 := by simp [idx]
   have i1 : idx [nv, nb, nd] nb = 1 := by simp [idx, n4]
   have i2 : idx [nv, nb, nd] nd = 2 := by simp [idx, n5, n6]
   have e1 : cOs obj [.ref nv 0, .v (vInt pa), .v (.sl lv)] = [boxV x [1, 1] [2, 1], .map 2 (encBk x.bk), .map 0 (encDs x.ds)] := by
    unfold cOs
    rw [hr]
    simp only [List.map_cons, List.map_nil, canonO, h1, h2, h3, boxV, O.ren, D.renL, D.ren, cin, i1, i2]
   have e2 : cDs obj [.ref nv 0, .v (vInt pa), .v (.sl lv)] = [.ref [0, 1] 0, .v (vInt pa), .v (.sl lv)] := by
    unfold cDs
    rw [hr]
    simp only [D.renL, D.ren, cin, i0]
   have e5 : (shut obj [nv, nb, nd] && D.closL (inL [nv, nb, nd]) [.ref nv 0, .v (vInt pa), .v (.sl lv)] && fresh obj t [([3, 0], .box [.ref [0, 1] 0])]) = true := by
    simp [shut, h1, h2, h3, boxV, O.clos, D.closL, D.clos, inL, fresh, hfr]
   have e4 : withC.pre [boxV x [1, 1] [2, 1], .map 2 (encBk x.bk), .map 0 (encDs x.ds)] [.ref [0, 1] 0, .v (vInt pa), .v (.sl lv)] := ⟨x, pa, lv, rfl, rfl⟩
   have e6 : ∀ os, withC.out os [.ref [0, 1] 0, .v (vInt pa), .v (.sl lv)] = ⟨[], [([3, 0], .box [.ref [0, 1] 0])], .clo (.func 193) [] [.ref [3, 0] 0, .v (.ptr [vInt pa]), .v (.ptr [.sl lv])]⟩ := fun _ => rfl
   have e2' : cDs obj [.ref nv 0, .v (V.int .i64 pa), .v (.sl lv)] = [.ref [0, 1] 0, .v (vInt pa), .v (.sl lv)] := e2
   have e1' : cOs obj [.ref nv 0, .v (V.int .i64 pa), .v (.sl lv)] = _ := e1
   have hr' : reach obj [.ref nv 0, .v (V.int .i64 pa), .v (.sl lv)] = _ := hr
   have e5' : (shut obj [nv, nb, nd] && D.closL (inL [nv, nb, nd]) [.ref nv 0, .v (V.int .i64 pa), .v (.sl lv)] && fresh obj t [([3, 0], .box [.ref [0, 1] 0])]) = true := e5
   simp only [CSpec.toSpec, e1', e2', hr', e6, e4, e5', and_self, putN, putU]
   exact ⟨trivial, rfl, rfl⟩
  ·exact hok.elim
 ·exact hok.elim
def S164 : Spec := withS
attribute [go_sem] S164
set_option maxHeartbeats 4000000 in
theorem k164 : SSound Tryz.prog 164 S164 := by
 refine withS_sound ?_ (notYid _ (by decide))
 refine csound (nt := 8) (rs := [.tmp 6]) Tryz.func164 rfl (by rfl) (by kernel_rfl) (enter_of Tryz.func164 rfl (by kernel_rfl)) (notYid _ (by decide)) ?_
 rintro os ds ⟨x, pa, lv, rfl, rfl⟩
 refine ⟨lb rfl, ?_⟩
 have hout : ∀ os, withC.out os [.ref [0, 1] 0, .v (vInt pa), .v (.sl lv)] = ⟨[], [([3, 0], .box [.ref [0, 1] 0])], .clo (.func 193) [] [.ref [3, 0] 0, .v (.ptr [vInt pa]), .v (.ptr [.sl lv])]⟩ := fun _ => rfl
 rw [hout]
 refine cl_of ?_
 have hΓ := @no_sound Tryz.prog
 have hO : ∀ hs, OutC [0] (domOf [0] hs) (outH [boxV x [1, 1] [2, 1], .map 2 (encBk x.bk), .map 0 (encDs x.ds)]) = True := fun hs => eq_true (outC_outs (by
  intro o ho dom hd
  simp only [List.mem_cons, List.not_mem_nil, or_false] at ho
  rcases ho with rfl | rfl | rfl
  ·simp [boxV, O.clos, D.closL, D.clos, hd]
  ·rfl
  ·rfl) hs)
 have h0 : outH [boxV x [1, 1] [2, 1], .map 2 (encBk x.bk), .map 0 (encDs x.ds)] [0, 1] = some (boxV x [1, 1] [2, 1]) := rfl
 have h1 : outH [boxV x [1, 1] [2, 1], .map 2 (encBk x.bk), .map 0 (encDs x.ds)] [1, 1] = some (.map 2 (encBk x.bk)) := rfl
 have h2 : outH [boxV x [1, 1] [2, 1], .map 2 (encBk x.bk), .map 0 (encDs x.ds)] [2, 1] = some (.map 0 (encDs x.ds)) := rfl
 generalize outH [boxV x [1, 1] [2, 1], .map 2 (encBk x.bk), .map 0 (encDs x.ds)] = H at *
 repeat refine sq ?_
 refine rx hΓ [3,4,5] [[3, 0],[4, 0],[5, 0]] (fun K' hK => by simp only [go_sem]; (repeat (refine ⟨obx, ?_⟩)); exact hK _ (by simp only [go_sem, hO]) (by simp only [go_sem] <;> rfl)) ?_
 refine cl_weakM (weakM_frzk 4 (.ref [4, 0] 0) (by simp only [go_sem]) (by simp only [go_sem]) [3,4,5] [[3, 0],[4, 0],[5, 0]] ?_ rfl) ?_
 ·simp only [go_sem, hO]
 simp only [go_sem]
 refine cl_weakM (weakM_frzk 5 (.ref [5, 0] 0) (by simp only [go_sem]) (by simp only [go_sem]) [3,4,5] [[3, 0]] ?_ rfl) ?_
 ·simp only [go_sem, hO]
 simp only [go_sem]
 repeat refine sq ?_
 refine rx hΓ [6] [[3, 0],[4, 0],[5, 0]] (fun K' hK => by simp only [go_sem]; (repeat (refine ⟨obx, ?_⟩)); exact hK _ (by simp only [go_sem, hO]) (by simp only [go_sem] <;> rfl)) ?_
 refine cl_ret ?_
 simp only [go_sem]
 exact ⟨⟨h0, h1, h2⟩, rfl⟩
end
attribute [go_sem] iGc
theorem pG_with (lv : List Int) : pG (194, [.ptr [.sl (lv.map vInt)]]) = fun n => lv.contains n := by
 funext n
 simp only [pG, decI_map]
set_option maxHeartbeats 8000000 in
theorem w193 {sY : Spec} (hY : SSound Tryz.prog yid sY) {x : Vw} {nb nd : Name} {pa : Int} {lv : List Int} {ia ic : Nat} {I : Nat → List O} (hv : ∀ r ∈ x.rs, recB r = true) (hrn : x.rs.length ≤ 60)
  (hI : ∀ s, (I s).length = (I 0).length) (hc : ∀ s, ∀ o ∈ I s, ∀ dom : Name → Bool, (∀ i, dom [i, 1] = true) → O.clos dom o = true)
  (ha : outH (I 0) [ia, 1] = some (.box [.ref [ic, 1] 0])) (hx : outH (I 0) [ic, 1] = some (boxV x nb nd))
  (hst : ∀ s (h : s < x.rs.length), hitB pa lv x.rs[s] = false → I (s + 1) = I s)
  (hap : ∀ s (h : s < x.rs.length), hitB pa lv x.rs[s] = true → ∀ obj tm, (∀ nm, isOut nm = true → obj nm = outH (I s) nm) → sY.app obj tm [.yld [0, 1], rdRc x.rs[s]] = ⟨True, .v (.bool true), setU obj (I (s + 1))⟩) :
  ∃ c', Tryz.f193.body = some c' ∧ CL Tryz.prog [c'] (mkS 33 [0] (outH (I 0)) [(0, ⟨true, .yld [0, 1]⟩), (1, ⟨true, .ref [ia, 1] 0⟩), (2, ⟨true, .v (.ptr [vInt pa])⟩), (3, ⟨true, .v (.ptr [.sl (lv.map vInt)])⟩)] [])
   (fun e σ => (e = .normal ∨ e = .ret) ∧ ∀ i, σ.obj [i, 1] = outH (I x.rs.length) [i, 1]) := by
 refine ⟨_, rfl, ?_⟩
 obtain ⟨Γ, hΓ, hg1, hg2⟩ : ∃ Γ : FuncId → Option Spec, (∀ f s, Γ f = some s → SSound Tryz.prog f s) ∧ Γ 160 = some S160 ∧ Γ 1000000000 = some sY := by
  refine ⟨fun f => if f = 160 then some S160 else if f = 1000000000 then some sY else none, fun f s h => ?_, rfl, rfl⟩
  dsimp only at h
  split at h
  ·rename_i e; cases h; subst e; exact k160
  ·split at h
   ·rename_i e; cases h; subst e; exact hY
   ·cases h
 have hO : ∀ s hs, OutC [0] (domOf [0] hs) (outH (I s)) = True := fun s hs => eq_true (outC_outs (hc s) hs)
 have hset : ∀ s, setU (outH (I s)) (I (s + 1)) = outH (I (s + 1)) := fun s => setU_out ((hI _).trans (hI s).symm)
 obtain ⟨H, hH⟩ : ∃ H : Nat → Name → Option O, ∀ s, outH (I s) = H s := ⟨_, fun _ => rfl⟩
 simp only [hH] at hO hset hap ha hx ⊢
 simp only [boxV] at hx
 have hrl : x.rs.length ≤ maxLen := by unfold maxLen; omega
 repeat refine sq ?_
 refine rx hΓ [0,2,3,10,11,12] [] (fun K' hK => by simp only [go_sem, ha, hx]; (repeat (refine ⟨obx, ?_⟩)); exact hK _ (by simp only [go_sem, hO]) (by simp only [go_sem] <;> rfl)) ?_
 refine cl_block ?_
 refine cl_loop (fun s : Nat => mkS 33 [0] (H s) [(0, ⟨true, .yld [0, 1]⟩), (2, ⟨true, .v (.ptr [vInt pa])⟩), (3, ⟨true, .v (.ptr [.sl (lv.map vInt)])⟩), (10, ⟨true, .v (.sl (x.rs.map encR))⟩), (11, ⟨true, .v (vInt x.rs.length)⟩), (12, ⟨true, .v (vInt s)⟩)] [])
  (fun s => s ≤ x.rs.length) (fun s => x.rs.length - s) 0 (Nat.zero_le _) (Weak.refl _) ?_
 rintro i hi
 repeat refine sq ?_
 refine rx hΓ [0,2,3,10,11,12,13] [] (fun K' hK => by simp only [go_sem]; (repeat (refine ⟨obx, ?_⟩)); exact hK _ (by simp only [go_sem, hO]) (by simp only [go_sem] <;> rfl)) ?_
 repeat refine sq ?_
 refine cnd (fun hb => ?_) fun hb => ?_
 ·have hlt : i < x.rs.length := by simpa using hb
  have hlt' : (i : Int) < x.rs.length := by omega
  have hws : IntKind.i64.wrap ((i : Int) + 1) = ((i + 1 : Nat) : Int) := wrap_succ hlt hrl
  clear hb
  have hlf := recB_lf (hv x.rs[i] (List.getElem_mem hlt))
  refine cl_skip ?_
  repeat refine sq ?_
  refine cl_block ?_
  repeat refine sq ?_
  refine rx hΓ [0,2,3,6,10,11,12] [[6, 0]] (fun K' hK => by simp only [go_sem, map_getD hlt, tnI, nnI, hlt']; (repeat (refine ⟨obx, ?_⟩)); exact hK _ (by simp only [go_sem, hO]) (by simp only [go_sem] <;> rfl)) ?_
  have hend : (if hitB pa lv x.rs[i] = true then H (i + 1) else H i) = H (i + 1) := by
   split
   ·rfl
   ·rename_i h; rw [← hH, ← hH, hst i hlt (by simpa using h)]
  by_cases hpa : x.rs[i].pa = pa
  ·have hpd : (x.rs[i].pa == pa) = true := by simp [hpa]
   cases hany : x.rs[i].lv.any fun n => lv.contains n with
   | true =>
    have hhit : hitB pa lv x.rs[i] = true := by unfold hitB; rw [hany]; simp [hpa]
    have hap2 := fun (F : Name → Option O) (tm : Name) => hap i hlt hhit (fun nm => if own [0] nm = true then F nm else H i nm) tm fun nm hn => by
     obtain ⟨k, rfl⟩ := isOut_iff.1 hn
     simp [own_out01]
    simp only [rdRc] at hap2
    repeat refine sq ?_
    refine rx hΓ [0,2,3,10,11,12,31] [] (fun K' hK => by simp only [go_sem, hg1, hg2, hpd, pG_with, hany, hap2, Bool.not_true]; (repeat (refine ⟨by first | exact obx | exact ⟨trivial, .inr (.inr ⟨_, rfl⟩)⟩ | exact .inr (.inr ⟨_, rfl⟩), ?_⟩)); exact hK _ (by simp only [go_sem, hO, OutC_setU, hset]) (by simp only [go_sem, mkS_setU, hset] <;> rfl)) ?_
    refine cnd (fun hb => ?_) fun hb => ?_
    ·cases hb
    refine cl_skip ?_
    refine cl_nil ?_
    simp only [go_sem]
    refine cl_keep [0,2,3,10,11,12] [] ?_ ?_
    ·simp only [go_sem, hO]
    simp only [go_sem]
    refine cl_r hΓ fun K' hK => ?_
    simp only [go_sem]
    repeat (refine ⟨obx, ?_⟩)
    refine hK _ ?_
    clear K' hK
    simp only [go_sem]
    refine ⟨i + 1, hlt, by omega, ?_⟩
    refine weak_eq [0,2,3,10,11,12] [] ?_ ?_ <;> simp only [go_sem, hO, hws, csI]
   | false =>
    have hhit : hitB pa lv x.rs[i] = false := by unfold hitB; rw [hany]; simp
    have hHe : H (i + 1) = H i := by rw [← hH, ← hH, hst i hlt hhit]
    repeat refine sq ?_
    refine rx hΓ [0,2,3,10,11,12,31] [] (fun K' hK => by simp only [go_sem, hg1, hg2, hpd, pG_with, hany]; (repeat (refine ⟨by first | exact obx | exact ⟨trivial, .inr (.inr ⟨_, rfl⟩)⟩ | exact .inr (.inr ⟨_, rfl⟩), ?_⟩)); exact hK _ (by simp only [go_sem, hO]) (by simp only [go_sem] <;> rfl)) ?_
    refine cnd (fun hb => ?_) fun hb => ?_
    ·cases hb
    refine cl_skip ?_
    refine cl_nil ?_
    simp only [go_sem]
    refine cl_keep [0,2,3,10,11,12] [] ?_ ?_
    ·simp only [go_sem, hO]
    simp only [go_sem]
    refine cl_r hΓ fun K' hK => ?_
    simp only [go_sem]
    repeat (refine ⟨obx, ?_⟩)
    refine hK _ ?_
    clear K' hK
    simp only [go_sem]
    refine ⟨i + 1, hlt, by omega, ?_⟩
    rw [hHe]
    refine weak_eq [0,2,3,10,11,12] [] ?_ ?_ <;> simp only [go_sem, hO, hws, csI]
  ·have hpd : (x.rs[i].pa == pa) = false := by simp [hpa]
   have hhit : hitB pa lv x.rs[i] = false := by unfold hitB; simp [hpa]
   have hHe : H (i + 1) = H i := by rw [← hH, ← hH, hst i hlt hhit]
   repeat refine sq ?_
   refine rx hΓ [0,2,3,10,11,12,31] [] (fun K' hK => by simp only [go_sem, hg1, hg2, hpd]; (repeat (refine ⟨obx, ?_⟩)); exact hK _ (by simp only [go_sem, hO]) (by simp only [go_sem] <;> rfl)) ?_
   refine cnd (fun hb => ?_) fun hb => ?_
   ·cases hb
   refine cl_skip ?_
   refine cl_nil ?_
   simp only [go_sem]
   refine cl_keep [0,2,3,10,11,12] [] ?_ ?_
   ·simp only [go_sem, hO]
   simp only [go_sem]
   refine cl_r hΓ fun K' hK => ?_
   simp only [go_sem]
   repeat (refine ⟨obx, ?_⟩)
   refine hK _ ?_
   clear K' hK
   simp only [go_sem]
   refine ⟨i + 1, hlt, by omega, ?_⟩
   rw [hHe]
   refine weak_eq [0,2,3,10,11,12] [] ?_ ?_ <;> simp only [go_sem, hO, hws, csI]
 ·have hge : i = x.rs.length := by
   have : ¬ (i : Int) < x.rs.length := by simpa using hb
   omega
  subst hge
  clear hb
  refine cl_exit ?_
  simp only [go_sem]
  refine cl_nil ?_
  simp only [go_sem]
  first | exact .inl trivial | exact ⟨by simp, fun k => by simp [own_out01]⟩
set_option maxRecDepth 10000
noncomputable section
theorem take_filter_succ {α : Type} {p : α → Bool} {l : List α} {s : Nat} (h : s < l.length) : ((l.take (s + 1)).filter p) = (l.take s).filter p ++ (if p l[s] = true then [l[s]] else []) := by
 rw [List.take_add_one, List.getElem?_eq_getElem h, List.filter_append]
 simp only [Option.toList_some, List.filter_cons, List.filter_nil]
theorem filter_at {α : Type} {p : α → Bool} {l : List α} {s : Nat} {z : α} (h : s < l.length) (hp : p l[s] = true) : ((l.take s).filter p).length < (l.filter p).length ∧ (l.filter p).getD ((l.take s).filter p).length z = l[s] := by
 have e : l.filter p = (l.take s).filter p ++ (l[s] :: (l.drop (s + 1)).filter p) := by
  conv => lhs; rw [← List.take_append_drop s l, List.filter_append, List.drop_eq_getElem_cons h, List.filter_cons, if_pos hp]
 refine ⟨?_, ?_⟩
 ·rw [e, List.length_append, List.length_cons]; omega
 ·rw [e]; simp [List.getD]
def capsW (j : Nat) (pa : Int) (lv : List Int) (Ls : List Name) : List D := [.ref (Ls.getD j []) 0, .v (.ptr [vInt pa]), .v (.ptr [.sl (lv.map vInt)])]
theorem s193 {r : Lp} (hr : r.Ok) (hst : ∀ j, r.st j = none) (hy : SSound Tryz.prog yid r.y.toSpec) {x : Vw} {nb nd : Name} {pa : Int} {lv : List Int} {j jc : Nat} (hv : ∀ q ∈ x.rs, recB q = true) (hrn : x.rs.length ≤ 60)
  (hn : r.n = (withK x.rs pa lv).length) (hvals : ∀ s, r.vals s = [rdRc ((withK x.rs pa lv).getD s zeroR)]) (hj : j < r.m) (ha : outH (r.I 0) [j + 1, 1] = some (.box [.ref [jc + 1, 1] 0])) (hx : outH (r.I 0) [jc + 1, 1] = some (boxV x nb nd)) :
  SSound Tryz.prog 193 (r.itC (capsW j pa lv)).toSpec := by
 have hcs : capsW j pa lv (LI r.m) = [.ref [j + 1, 1] 0, .v (.ptr [vInt pa]), .v (.ptr [.sl (lv.map vInt)])] := by
  unfold capsW
  have : (LI r.m).getD j [] = [j + 1, 1] := by simp [LI, hj]
  rw [this]
 obtain ⟨c, hc, h⟩ := w193 hy (x := x) (nb := nb) (nd := nd) (pa := pa) (lv := lv) (ia := j + 1) (ic := jc + 1) (I := fun s => r.I ((x.rs.take s).filter (hitB pa lv)).length) hv hrn
  (fun s => by rw [Lp.I_len hr, Lp.I_len hr]) (fun s => Lp.I_clos hr _) (by simpa using ha) (by simpa using hx)
  (fun s hs hh => by rw [take_filter_succ hs, hh]; simp)
  (fun s hs hh obj tm ho => by
   obtain ⟨h1, h2⟩ := filter_at (z := zeroR) hs hh
   have := Lp.y_setU hr hst (s := ((x.rs.take s).filter (hitB pa lv)).length) (by rw [hn]; exact h1) obj tm ho
   rw [hvals] at this
   unfold withK at this
   rw [h2] at this
   rw [this, take_filter_succ hs, hh]
   simp)
 refine Lp.itC_sound hr hst Tryz.func193 Tryz.ntmps193 (by rfl) (by kernel_rfl) (by decide) ⟨c, hc, by rw [hcs]; exact lb rfl, ?_⟩
 rw [hcs]
 have h0 : r.I ((x.rs.take 0).filter (hitB pa lv)).length = r.I 0 := by simp
 have h9 : r.I ((x.rs.take x.rs.length).filter (hitB pa lv)).length = r.I r.n := by rw [List.take_length, hn]; rfl
 simp only [h0, h9] at h
 exact h
theorem rdRc_inj {a b : Rec} (h : rdRc a = rdRc b) : a = b := by
 obtain ⟨a1, a2, a3, al, a4, a5, a6⟩ := a
 obtain ⟨b1, b2, b3, bl, b4, b5, b6⟩ := b
 simp only [rdRc, D.agg.injEq, List.cons.injEq, D.v.injEq, vInt, V.int.injEq, V.sl.injEq, true_and, and_true] at h
 obtain ⟨rfl, rfl, rfl, hl, rfl, rfl, rfl⟩ := h
 have := congrArg (List.map decI) hl
 have e : ∀ l : List Int, (l.map fun n => V.int .i64 n).map decI = l := fun l => decI_map l
 rw [e, e] at this
 rw [this]
theorem vals_injR {l : List Rec} (hn : l.Nodup) : ∀ s s', s < l.length → s' < l.length → ([rdRc (l.getD s zeroR)] : List D) = [rdRc (l.getD s' zeroR)] → s = s' := by
 intro s s' h h' e
 have e1 := rdRc_inj (List.cons.inj e).1
 rw [getD_at h, getD_at h'] at e1
 exact (List.getElem_inj hn).1 e1
def rngD : Code → Option (Array Tmp × Code × Code)
 | .seq a b => match rngD a with | some x => some x | none => rngD b
 | .block _ b => rngD b
 | .loop b => rngD b
 | .cond _ a b => match rngD a with | some x => some x | none => rngD b
 | .rangeFunc _ ps a b => some (ps, a, b)
 | _ => none
def rngOf (fn : Func) : Array Tmp × Code × Code := ((fn.body.bind rngD).getD (#[], .skip, .skip))
theorem names5 {Ls : List Name} (h : Ls.length = 5) : ∃ a b c d e, Ls = [a, b, c, d, e] := by
 match Ls, h with
 | [a, b, c, d, e], _ => exact ⟨a, b, c, d, e, rfl⟩
theorem names7 {Ls : List Name} (h : Ls.length = 7) : ∃ a b c d e f g, Ls = [a, b, c, d, e, f, g] := by
 match Ls, h with
 | [a, b, c, d, e, f, g], _ => exact ⟨a, b, c, d, e, f, g, rfl⟩
def lkLp (l : Led) (k i j : Int) (n : Nat) (x : Vw) (r : Rec) (lv : List Int) : Lp where
 m := 5
 env := fun Ls => (List.range 181).map (ofL eAny [(0, ⟨true, .v (encLp l)⟩), (5, ⟨true, .ref (Ls.getD 0 []) 0⟩), (17, ⟨true, .v (.ptr [vInt i])⟩), (19, ⟨true, .v (.ptr [vInt r.so, vInt r.bo, vInt r.pa, .sl (r.lv.map vInt), vInt r.da, vInt r.kn, vInt r.un])⟩), (141, ⟨true, .v (.sl (x.ts.map vInt))⟩), (142, ⟨true, .v (vInt n)⟩), (143, ⟨true, .v (vInt j)⟩), (166, ⟨true, .clo (.func 193) [] (capsW 4 r.pa lv Ls)⟩)])
 fam := fun Ls s => [.box [.ref (Ls.getD 1 []) 0], boxV x (Ls.getD 2 []) (Ls.getD 3 []), .map 2 (encBk x.bk), .map 0 (encDs (nrL x.ds i r.da ((withK x.rs r.pa lv).take s))), .box [.ref (Ls.getD 1 []) 0]]
 ps := (rngOf Tryz.f76).1.toList
 asg := (rngOf Tryz.f76).2.1
 body := (rngOf Tryz.f76).2.2
 n := (withK x.rs r.pa lv).length
 vals := fun s => [rdRc ((withK x.rs r.pa lv).getD s zeroR)]
 st := fun _ => none
 fu := 100
theorem lkLp_ok (l : Led) (k i j : Int) (n : Nat) (x : Vw) (r : Rec) (lv : List Int) (hn : x.rs.Nodup) : (lkLp l k i j n x r lv).Ok where
 len := fun Ls s _ => rfl
 renE := fun f Ls h => by obtain ⟨a, b, c, d, e, rfl⟩ := names5 h; rfl
 renF := fun f Ls s h => by obtain ⟨a, b, c, d, e, rfl⟩ := names5 h; rfl
 reach := fun Ls s obj acc q h hnd hd hF => by
  obtain ⟨a, b, c, d, e, rfl⟩ := names5 h
  obtain ⟨h1, h2, h3, h4, h5, _⟩ := hF
  have en : namesL (((lkLp l k i j n x r lv).env [a, b, c, d, e]).map (·.d)) = [a, e] := rfl
  rw [en]
  show reachL obj (q + 91 + 1 + 1 + 1 + 1 + 1 + 1 + 1 + 1 + 1) _ acc = _
  simp only [List.mem_cons, List.not_mem_nil, or_false, forall_eq_or_imp, forall_eq] at hd
  obtain ⟨d1, d2, d3, d4, d5⟩ := hd
  simp only [List.nodup_cons, List.mem_cons, List.not_mem_nil, or_false, not_or, not_false_eq_true, List.nodup_nil, and_true] at hnd
  obtain ⟨⟨a1, a2, a3, a4⟩, ⟨b1, b2, b3⟩, ⟨c1, c2⟩, e1⟩ := hnd
  simp [reachL, inL_iff, h1, h2, h3, h4, h5, namesO, namesL, namesD, boxV, d1, d2, d3, d4, d5, Ne.symm a1, Ne.symm a2, Ne.symm a3, Ne.symm a4, Ne.symm b1, Ne.symm b2, Ne.symm b3, Ne.symm c1, Ne.symm c2, Ne.symm e1]
 closE := fun dom Ls h hd => by
  obtain ⟨a, b, c, d, e, rfl⟩ := names5 h
  have h1 := hd a (by simp)
  have h2 := hd e (by simp)
  simp [lkLp, List.range, List.range.loop, ofL, D.closL, D.clos, eAny, h1, h2, capsW]
 closF := fun dom Ls s h hd o ho => by
  obtain ⟨a, b, c, d, e, rfl⟩ := names5 h
  have h1 := hd b (by simp)
  have h2 := hd c (by simp)
  have h3 := hd d (by simp)
  simp only [lkLp, List.mem_cons, List.not_mem_nil, or_false] at ho
  rcases ho with rfl | rfl | rfl | rfl | rfl <;> simp [O.clos, D.closL, D.clos, boxV, h1, h2, h3]
 psz := fun Ls h => by rfl
 args := fun s => by rfl
 fuel := (show (100 : Nat) ≤ 2000 by decide)
 vnam := fun _ => rfl
 vcl := fun _ _ => rfl
 vren := fun _ _ => rfl
 inj := vals_injR (hn.filter _)
def K23 : List (Nat × Spec) := [(165, S165)]
theorem K23_sound : KS K23 := tc k165 <| tn
attribute [go_sem] K23
theorem nrL_succ (d : Ds) (i da : Int) {os : List Rec} {s : Nat} (h : s < os.length) : nrL d i da (os.take (s + 1)) = if os[s].da > da then nar (nrL d i da (os.take s)) i ⟨0, os[s].da⟩ else nrL d i da (os.take s) := by
 unfold nrL
 rw [List.take_add_one, List.getElem?_eq_getElem h, List.foldl_append]
 rfl
set_option maxHeartbeats 4000000 in
theorem lkLp_y (l : Led) (k i j : Int) (n : Nat) (x : Vw) (r : Rec) (lv : List Int) (hn : x.rs.Nodup) : SSound Tryz.prog yid (lkLp l k i j n x r lv).y.toSpec := by
 refine Lp.y_sound (lkLp_ok l k i j n x r lv hn) fun s hs _ => ?_
 have hΓ := K23_sound
 have hs' : s < (withK x.rs r.pa lv).length := hs
 have hf0 : (lkLp l k i j n x r lv).fam (LR 5) s = [.box [.ref [1, 1] 0], boxV x [2, 1] [3, 1], .map 2 (encBk x.bk), .map 0 (encDs (nrL x.ds i r.da ((withK x.rs r.pa lv).take s))), .box [.ref [1, 1] 0]] := rfl
 have hf1 : (lkLp l k i j n x r lv).fam (LR 5) (s + 1) = [.box [.ref [1, 1] 0], boxV x [2, 1] [3, 1], .map 2 (encBk x.bk), .map 0 (encDs (nrL x.ds i r.da ((withK x.rs r.pa lv).take (s + 1)))), .box [.ref [1, 1] 0]] := rfl
 have hst : (lkLp l k i j n x r lv).st s = none := rfl
 have hv : (lkLp l k i j n x r lv).vals s = [rdRc ((withK x.rs r.pa lv)[s])] := by rw [← getD_at (z := zeroR) hs']; rfl
 have hm : (lkLp l k i j n x r lv).m = 5 := rfl
 rw [hm, hf0, hf1, hst, hv, nrL_succ _ _ _ hs']
 generalize (withK x.rs r.pa lv)[s] = o
 generalize nrL x.ds i r.da ((withK x.rs r.pa lv).take s) = d
 generalize hos : [O.box [.ref [1, 1] 0], boxV x [2, 1] [3, 1], .map 2 (encBk x.bk), .map 0 (encDs d), .box [.ref [1, 1] 0]] = os
 have hO : ∀ hs, OutC [0] (domOf [0] hs) (outH os) = True := by
  subst hos
  refine fun hs => eq_true (outC_outs ?_ hs)
  intro o ho dom hd
  simp only [List.mem_cons, List.not_mem_nil, or_false] at ho
  rcases ho with rfl | rfl | rfl | rfl | rfl <;> simp [O.clos, D.closL, D.clos, boxV, hd]
 have hO2 : ∀ hs es, OutC [0] (domOf [0] hs) (fun nm => if nm = [3, 1] then some (.map 0 es) else outH os nm) = True := fun hs es => eq_true (OutC_set (nm := [3, 1]) (o := .map 0 es) rfl (by rw [hO]; trivial))
 have h0 : outH os [0, 1] = some (.box [.ref [1, 1] 0]) := by subst hos; rfl
 have h1 : outH os [1, 1] = some (boxV x [2, 1] [3, 1]) := by subst hos; rfl
 have h2 : outH os [2, 1] = some (.map 2 (encBk x.bk)) := by subst hos; rfl
 have h3 : outH os [3, 1] = some (.map 0 (encDs d)) := by subst hos; rfl
 have h4 : outH os [4, 1] = some (.box [.ref [1, 1] 0]) := by subst hos; rfl
 generalize hH : outH os = H at *
 clear hos hH
 simp only [boxV] at h1 ⊢
 have hrn : rngOf Tryz.f76 = (_, _, _) := rfl
 refine cw_weak (weak_to 181 [0] H [(5, ⟨true, .ref [0, 1] 0⟩), (17, ⟨true, .v (.ptr [vInt i])⟩), (19, ⟨true, .v (.ptr [vInt r.so, vInt r.bo, vInt r.pa, .sl (r.lv.map vInt), vInt r.da, vInt r.kn, vInt r.un])⟩), (167, ⟨true, rdRc o⟩)] [] rfl rfl (fun _ _ => rfl) ?_ (by simp) ?_ ?_) ?_
 ·intro q hq
  simp only [List.mem_cons, List.not_mem_nil, or_false] at hq
  rcases hq with rfl | rfl | rfl | rfl <;> rfl
 ·simp [D.clos, D.closL, domOf, own, rdRc]
 ·rw [hO]; trivial
 simp only [lkLp, hrn]
 refine cl_of ?_
 refine cl_r hΓ fun K' hK => ?_
 simp only [go_sem]
 repeat (refine ⟨obx, ?_⟩)
 refine hK _ ?_
 clear K' hK
 simp only [go_sem]
 (show CW _ _ _ _)
 refine cl_of ?_
 refine cl_block ?_
 repeat refine sq ?_
 refine rx hΓ [5,17,19,21,172] [[5, 0],[17, 0],[19, 0],[21, 0],[23, 0],[24, 0],[26, 0],[49, 0],[124, 0]] (fun K' hK => by simp only [go_sem]; (repeat (refine ⟨obx, ?_⟩)); exact hK _ (by simp only [go_sem, hO]) (by simp only [go_sem] <;> rfl)) ?_
 refine cnd (fun hb => ?_) fun hb => ?_
 ·refine cl_r hΓ fun K' hK => ?_
  simp only [go_sem, h0, h1, h2, h3]
  repeat (refine ⟨obx, ?_⟩)
  refine hK _ ?_
  clear K' hK
  simp only [go_sem]
  refine cl_nil ?_
  have hb' : o.da > r.da := by simpa using hb
  rw [if_pos hb']
  refine ⟨rfl, ?_⟩
  show objAll _ [[0, 1], [1, 1], [2, 1], [3, 1], [4, 1]] _
  simp only [objAll, go_sem, h0, h1, h2, h3, h4]
  simp [narD, nar]
 ·refine cl_skip ?_
  refine cl_nil ?_
  simp only [go_sem]
  have hb' : ¬ o.da > r.da := by simpa using hb
  rw [if_neg hb']
  refine ⟨rfl, ?_⟩
  show objAll _ [[0, 1], [1, 1], [2, 1], [3, 1], [4, 1]] _
  simp only [objAll, go_sem, h0, h1, h2, h3, h4]
end
noncomputable section
def cellsO : Option Rec → List D
 | some r => cellsR r
 | none => [.v (vInt 0), .v (vInt 0), .v (vInt 0), .nilsl, .v (vInt 0), .v (vInt 0), .v (vInt 0)]
def atTo (rs : List Rec) (pa le day : Int) (s : Nat) : Option Rec := ((withK rs pa [le]).take s).foldl (atStep day) none
theorem atTo_succ {rs : List Rec} {pa le day : Int} {s : Nat} (h : s < (withK rs pa [le]).length) : atTo rs pa le day (s + 1) = atStep day (atTo rs pa le day s) (withK rs pa [le])[s] := by
 unfold atTo
 rw [List.take_add_one, List.getElem?_eq_getElem h, List.foldl_append]
 rfl
theorem atTo_all (rs : List Rec) (pa le day : Int) : atTo rs pa le day (withK rs pa [le]).length = atK rs pa le day := by
 unfold atTo atK
 rw [List.take_length]
def atLp (x : Vw) (pa le day : Int) : Lp where
 m := 7
 env := fun Ls => (List.range 37).map (ofL eAny [(5, ⟨true, .v (.ptr [vInt day])⟩), (6, ⟨true, .ref (Ls.getD 0 []) 0⟩), (8, ⟨true, .ref (Ls.getD 1 []) 0⟩), (9, ⟨true, .ref (Ls.getD 2 []) 0⟩), (17, ⟨true, .clo (.func 193) [] (capsW 3 pa [le] Ls)⟩)])
 fam := fun Ls s => [.box (cellsO none), .box (cellsO (atTo x.rs pa le day s)), .box [.v (.bool (atTo x.rs pa le day s).isSome)], .box [.ref (Ls.getD 4 []) 0], boxV x (Ls.getD 5 []) (Ls.getD 6 []), .map 2 (encBk x.bk), .map 0 (encDs x.ds)]
 ps := (rngOf Tryz.f119).1.toList
 asg := (rngOf Tryz.f119).2.1
 body := (rngOf Tryz.f119).2.2
 n := (withK x.rs pa [le]).length
 vals := fun s => [rdRc ((withK x.rs pa [le]).getD s zeroR)]
 st := fun _ => none
 fu := 100
theorem cellsO_ren (f : Name → Name) (o : Option Rec) : D.renL f (cellsO o) = cellsO o := by cases o <;> rfl
theorem cellsO_names (o : Option Rec) : namesL (cellsO o) = [] := by cases o <;> rfl
theorem cellsO_clos (p : Name → Bool) (o : Option Rec) : D.closL p (cellsO o) = true := by cases o <;> rfl
theorem atLp_ok (x : Vw) (pa le day : Int) (hn : x.rs.Nodup) : (atLp x pa le day).Ok where
 len := fun Ls s _ => rfl
 renE := fun f Ls h => by obtain ⟨a, b, c, d, e, f, g, rfl⟩ := names7 h; rfl
 renF := fun f Ls s h => by
  obtain ⟨a, b, c, d, e, f, g, rfl⟩ := names7 h
  simp only [atLp, List.map_cons, List.map_nil, O.ren, cellsO_ren, D.renL, D.ren, boxV, List.getD_cons_succ, List.getD_cons_zero]
 reach := fun Ls s obj acc q h hnd hd hF => by
  obtain ⟨a, b, c, d, e, f, g, rfl⟩ := names7 h
  obtain ⟨h1, h2, h3, h4, h5, h6, h7, _⟩ := hF
  have en : namesL (((atLp x pa le day).env [a, b, c, d, e, f, g]).map (·.d)) = [a, b, c, d] := rfl
  rw [en]
  show reachL obj (q + 91 + 1 + 1 + 1 + 1 + 1 + 1 + 1 + 1 + 1) _ acc = _
  simp only [List.mem_cons, List.not_mem_nil, or_false, forall_eq_or_imp, forall_eq] at hd
  obtain ⟨d1, d2, d3, d4, d5, d6, d7⟩ := hd
  simp only [List.nodup_cons, List.mem_cons, List.not_mem_nil, or_false, not_or, not_false_eq_true, List.nodup_nil, and_true] at hnd
  obtain ⟨⟨a1, a2, a3, a4, a5, a6⟩, ⟨b1, b2, b3, b4, b5⟩, ⟨c1, c2, c3, c4⟩, ⟨e1, e2, e3⟩, ⟨f1, f2⟩, g1⟩ := hnd
  simp [reachL, inL_iff, h1, h2, h3, h4, h5, h6, h7, namesO, namesL, namesD, boxV, cellsO_names, d1, d2, d3, d4, d5, d6, d7, Ne.symm a1, Ne.symm a2, Ne.symm a3, Ne.symm a4, Ne.symm a5, Ne.symm a6, Ne.symm b1, Ne.symm b2, Ne.symm b3, Ne.symm b4, Ne.symm b5, Ne.symm c1, Ne.symm c2, Ne.symm c3, Ne.symm c4, Ne.symm e1, Ne.symm e2, Ne.symm e3, Ne.symm f1, Ne.symm f2, Ne.symm g1]
 closE := fun dom Ls h hd => by
  obtain ⟨a, b, c, d, e, f, g, rfl⟩ := names7 h
  have h1 := hd a (by simp)
  have h2 := hd b (by simp)
  have h3 := hd c (by simp)
  have h4 := hd d (by simp)
  simp [atLp, List.range, List.range.loop, ofL, D.closL, D.clos, eAny, h1, h2, h3, h4, capsW]
 closF := fun dom Ls s h hd o ho => by
  obtain ⟨a, b, c, d, e, f, g, rfl⟩ := names7 h
  have h1 := hd e (by simp)
  have h2 := hd f (by simp)
  have h3 := hd g (by simp)
  simp only [atLp, List.mem_cons, List.not_mem_nil, or_false] at ho
  rcases ho with rfl | rfl | rfl | rfl | rfl | rfl | rfl <;> simp [O.clos, D.closL, D.clos, boxV, cellsO_clos, h1, h2, h3]
 psz := fun Ls h => by rfl
 args := fun s => by rfl
 fuel := (show (100 : Nat) ≤ 2000 by decide)
 vnam := fun _ => rfl
 vcl := fun _ _ => rfl
 vren := fun _ _ => rfl
 inj := vals_injR (hn.filter _)
theorem atLp_caps (x : Vw) (pa le day : Int) : CapsOk (atLp x pa le day) (capsW 3 pa [le]) where
 ren := fun f Ls h => by obtain ⟨a, b, c, d, e, f, g, rfl⟩ := names7 h; rfl
 clo := fun dom Ls h hd => by
  obtain ⟨a, b, c, d, e, f, g, rfl⟩ := names7 h
  have h4 := hd d (by simp)
  simp [D.closL, D.clos, h4, capsW]
 reach := fun Ls s obj R q h hnd hF h0 => by
  obtain ⟨a, b, c, d, e, f, g, rfl⟩ := names7 h
  obtain ⟨h1, h2, h3, h4, h5, h6, h7, _⟩ := hF
  have en : namesL (((atLp x pa le day).env [a, b, c, d, e, f, g]).map (·.d)) = [a, b, c, d] := rfl
  have ec : namesL (capsW 3 pa [le] [a, b, c, d, e, f, g]) = [d] := rfl
  rw [ec]
  show reachL obj (q + 90 + 1 + 1 + 1 + 1 + 1 + 1 + 1 + 1 + 1 + 1 + 1) _ [] = _
  simp only [List.nodup_cons, List.mem_cons, List.not_mem_nil, or_false, not_or, not_false_eq_true, List.nodup_nil, and_true] at hnd
  obtain ⟨⟨r1, r2, r3, r4, r5, r6, r7⟩, ⟨a1, a2, a3, a4, a5, a6⟩, ⟨b1, b2, b3, b4, b5⟩, ⟨c1, c2, c3, c4⟩, ⟨e1, e2, e3⟩, ⟨f1, f2⟩, g1⟩ := hnd
  simp [reachL, inL_iff, h0, h1, h2, h3, h4, h5, h6, h7, Lp.rc, namesO, en, namesL, namesD, boxV, cellsO_names, Ne.symm r1, Ne.symm r2, Ne.symm r3, Ne.symm r4, Ne.symm r5, Ne.symm r6, Ne.symm r7, Ne.symm a1, Ne.symm a2, Ne.symm a3, Ne.symm a4, Ne.symm a5, Ne.symm a6, Ne.symm b1, Ne.symm b2, Ne.symm b3, Ne.symm b4, Ne.symm b5, Ne.symm c1, Ne.symm c2, Ne.symm c3, Ne.symm c4, Ne.symm e1, Ne.symm e2, Ne.symm e3, Ne.symm f1, Ne.symm f2, Ne.symm g1]
theorem atStep_cond (day : Int) (o : Option Rec) (r : Rec) : atStep day o r = if decide (r.da ≤ day) && (!o.isSome || decide (r.da ≥ (o.getD zeroR).da)) then some r else o := by
 unfold atStep
 cases o <;> rfl
theorem atLp_y (x : Vw) (pa le day : Int) (hn : x.rs.Nodup) : SSound Tryz.prog yid (atLp x pa le day).y.toSpec := by
 refine Lp.y_sound (atLp_ok x pa le day hn) fun s hs _ => ?_
 have hΓ := @no_sound Tryz.prog
 have hs' : s < (withK x.rs pa [le]).length := hs
 have hf0 : (atLp x pa le day).fam (LR 7) s = [.box (cellsO none), .box (cellsO (atTo x.rs pa le day s)), .box [.v (.bool (atTo x.rs pa le day s).isSome)], .box [.ref [4, 1] 0], boxV x [5, 1] [6, 1], .map 2 (encBk x.bk), .map 0 (encDs x.ds)] := rfl
 have hf1 : (atLp x pa le day).fam (LR 7) (s + 1) = [.box (cellsO none), .box (cellsO (atTo x.rs pa le day (s + 1))), .box [.v (.bool (atTo x.rs pa le day (s + 1)).isSome)], .box [.ref [4, 1] 0], boxV x [5, 1] [6, 1], .map 2 (encBk x.bk), .map 0 (encDs x.ds)] := rfl
 have hst : (atLp x pa le day).st s = none := rfl
 have hv : (atLp x pa le day).vals s = [rdRc ((withK x.rs pa [le])[s])] := by rw [← getD_at (z := zeroR) hs']; rfl
 have hm : (atLp x pa le day).m = 7 := rfl
 rw [hm, hf0, hf1, hst, hv, atTo_succ hs', atStep_cond]
 generalize (withK x.rs pa [le])[s] = r
 generalize atTo x.rs pa le day s = o
 obtain ⟨c3, e0, e1⟩ : ∃ c3, (c3 = .nilsl ∨ ∃ l, c3 = .v (.sl l)) ∧ cellsO o = [.v (vInt (o.getD zeroR).so), .v (vInt (o.getD zeroR).bo), .v (vInt (o.getD zeroR).pa), c3, .v (vInt (o.getD zeroR).da), .v (vInt (o.getD zeroR).kn), .v (vInt (o.getD zeroR).un)] := by
  cases o with
  | none => exact ⟨_, .inl rfl, rfl⟩
  | some q => exact ⟨_, .inr ⟨_, rfl⟩, rfl⟩
 have e2 : ∀ p, D.clos p c3 = true := fun p => by rcases e0 with rfl | ⟨l, rfl⟩ <;> rfl
 generalize hos : [O.box (cellsO none), .box (cellsO o), .box [.v (.bool o.isSome)], .box [.ref [4, 1] 0], boxV x [5, 1] [6, 1], .map 2 (encBk x.bk), .map 0 (encDs x.ds)] = os
 have hO : ∀ hs, OutC [0] (domOf [0] hs) (outH os) = True := by
  subst hos
  refine fun hs => eq_true (outC_outs ?_ hs)
  intro o ho dom hd
  simp only [List.mem_cons, List.not_mem_nil, or_false] at ho
  rcases ho with rfl | rfl | rfl | rfl | rfl | rfl | rfl <;> simp [O.clos, D.closL, D.clos, boxV, hd, cellsO_clos]
 have hO2 : ∀ hs cs b, (∀ p, D.closL p cs = true) → OutC [0] (domOf [0] hs) (fun nm => if nm = [2, 1] then some (.box [.v (.bool b)]) else if nm = [1, 1] then some (.box cs) else outH os nm) = True := fun hs cs b hcs =>
  eq_true (OutC_set (nm := [2, 1]) (o := .box [.v (.bool b)]) rfl (OutC_set (nm := [1, 1]) (o := .box cs) (by simp [O.clos, hcs]) (by rw [hO]; trivial)))
 have h0 : outH os [0, 1] = some (.box (cellsO none)) := by subst hos; rfl
 have h1 : outH os [1, 1] = some (.box (cellsO o)) := by subst hos; rfl
 have h2 : outH os [2, 1] = some (.box [.v (.bool o.isSome)]) := by subst hos; rfl
 have h3 : outH os [3, 1] = some (.box [.ref [4, 1] 0]) := by subst hos; rfl
 have h4 : outH os [4, 1] = some (boxV x [5, 1] [6, 1]) := by subst hos; rfl
 have h5 : outH os [5, 1] = some (.map 2 (encBk x.bk)) := by subst hos; rfl
 have h6 : outH os [6, 1] = some (.map 0 (encDs x.ds)) := by subst hos; rfl
 generalize hH : outH os = H at *
 clear hos hH
 rw [e1] at h1
 have hrn : rngOf Tryz.f119 = (_, _, _) := rfl
 refine cw_weak (weak_to 37 [0] H [(5, ⟨true, .v (.ptr [vInt day])⟩), (8, ⟨true, .ref [1, 1] 0⟩), (9, ⟨true, .ref [2, 1] 0⟩), (18, ⟨true, rdRc r⟩)] [] rfl rfl (fun _ _ => rfl) ?_ (by simp) ?_ ?_) ?_
 ·intro q hq
  simp only [List.mem_cons, List.not_mem_nil, or_false] at hq
  rcases hq with rfl | rfl | rfl | rfl <;> rfl
 ·simp [D.clos, D.closL, domOf, own, rdRc]
 ·rw [hO]; trivial
 simp only [atLp, hrn]
 refine cl_of ?_
 refine cl_r hΓ fun K' hK => ?_
 simp only [go_sem]
 repeat (refine ⟨obx, ?_⟩)
 refine hK _ ?_
 clear K' hK
 simp only [go_sem]
 (show CW _ _ _ _)
 refine cl_of ?_
 refine cl_block ?_
 repeat refine sq ?_
 refine rx hΓ [5,8,9,10,33] [[5, 0],[8, 0],[9, 0],[10, 0]] (fun K' hK => by simp only [go_sem, h1, h2]; (repeat (refine ⟨obx, ?_⟩)); exact hK _ (by simp only [go_sem, hO]) (by simp only [go_sem] <;> rfl)) ?_
 refine cnd (fun hb => ?_) fun hb => ?_
 ·refine cl_r hΓ fun K' hK => ?_
  simp only [go_sem, h1, h2]
  repeat (refine ⟨obx, ?_⟩)
  refine hK _ ?_
  clear K' hK
  simp only [go_sem]
  refine cl_nil ?_
  rw [if_pos (by rw [← Bool.and_eq_true]; exact hb)]
  refine ⟨rfl, ?_⟩
  show objAll _ [[0, 1], [1, 1], [2, 1], [3, 1], [4, 1], [5, 1], [6, 1]] _
  simp only [objAll, go_sem, h0, h1, h2, h3, h4, h5, h6]
  simp [cellsO, cellsR]
 ·refine cl_skip ?_
  refine cl_nil ?_
  simp only [go_sem]
  rw [if_neg (by rw [← Bool.and_eq_true, hb]; decide)]
  refine ⟨rfl, ?_⟩
  show objAll _ [[0, 1], [1, 1], [2, 1], [3, 1], [4, 1], [5, 1], [6, 1]] _
  simp only [objAll, go_sem, h0, h1, h2, h3, h4, h5, h6, e1]
  first | done | exact ⟨trivial, trivial⟩
def okOut (p : Name) (H : Name → Option O) : List Name → List O → Prop
 | x :: xs, o :: os => (own p x = true ∨ H x = some o) ∧ okOut p H xs os
 | _, _ => True
theorem setLs_out {p : Name} {H : Name → Option O} {nm : Name} (hn : own p nm = false) : ∀ {Ls : List Name} {F : List O} {obj : Name → Option O}, okOut p H Ls F → obj nm = H nm → setLs Ls F obj nm = H nm
 | [], _, _, _, h => by simpa [setLs] using h
 | x :: xs, [], _, _, h => by simpa [setLs] using h
 | x :: xs, o :: os, obj, hk, h => by
  simp only [setLs]
  refine setLs_out hn hk.2 ?_
  by_cases e : nm = x
  ·subst e
   rw [upd_same]
   rcases hk.1 with h1 | h1
   ·rw [hn] at h1; cases h1
   ·exact h1.symm
  ·rw [upd_ne _ _ _ e]; exact h
def K24 : List (Nat × Spec) := [(164, S164)]
theorem K24_sound : KS K24 := tc k164 <| tn
attribute [go_sem] K24
def V119 : VSpec := v2 iFo iI (fun x _ _ => VOk x ∧ x.rs.Nodup) (fun x f day => .tup [rdO (atK x.rs f.pa f.le day), .v (.bool (atK x.rs f.pa f.le day).isSome)]) none
def S119 : Spec := V119.toSpec
attribute [go_sem] V119 S119
set_option maxHeartbeats 8000000 in
theorem k119 : SSound Tryz.prog 119 S119 := by
 refine vw2 (rs := [.cell 6 36, .tmp 7]) Tryz.func119 Tryz.ntmps119 (by rfl) (by kernel_rfl) (by decide) (fun _ _ _ => by first | rfl | exact rdO_clos _ _ | simp [D.clos, D.closL, rdO_clos]) ⟨_, rfl, lb rfl, fun x f day hp H h0 h1 h2 hO hO2 => ?_⟩
 have hP := mixedK
 simp only [iFo, iI, encFo, boxV, argsD, List.map_cons, List.map_nil, Nat.zero_add, Option.map_none] at h0 ⊢
 have hΓ := K24_sound
 obtain ⟨hv, hnd⟩ := hp
 obtain ⟨pa, le⟩ := f
 repeat refine sq ?_
 refine rx hΓ [0,4,5,6] [[4, 0],[5, 0],[6, 0]] (fun K' hK => by simp only [go_sem]; (repeat (refine ⟨obx, ?_⟩)); exact hK _ (by simp only [go_sem, hO]) (by simp only [go_sem] <;> rfl)) ?_
 refine cl_weakM (weakM_frzk 4 (.ref [4, 0] 0) (by simp only [go_sem]) (by simp only [go_sem]) [0,4,5,6] [[4, 0],[5, 0],[6, 0]] ?_ rfl) ?_
 ·simp only [go_sem, hO]
 simp only [go_sem]
 repeat refine sq ?_
 refine rx hΓ [0,4,5,6,8] [[4, 0],[5, 0],[6, 0],[8, 0]] (fun K' hK => by simp only [go_sem]; (repeat (refine ⟨obx, ?_⟩)); exact hK _ (by simp only [go_sem, hO]) (by simp only [go_sem] <;> rfl)) ?_
 repeat refine sq ?_
 refine rx hΓ [0,4,5,6,8,9] [[4, 0],[5, 0],[6, 0],[8, 0],[9, 0]] (fun K' hK => by simp only [go_sem]; (repeat (refine ⟨obx, ?_⟩)); exact hK _ (by simp only [go_sem, hO]) (by simp only [go_sem] <;> rfl)) ?_
 repeat refine sq ?_
 refine rx hΓ [5,6,8,9,17] [[5, 0],[6, 0],[8, 0],[9, 0],[3, 0, 17, 0]] (fun K' hK => by simp only [go_sem, h0, h1, h2]; (repeat (refine ⟨obx, ?_⟩)); exact hK _ (by simp only [go_sem, hO]) (by simp only [go_sem] <;> rfl)) ?_
 refine cl_weakM (weakM_frzk 5 (.ref [5, 0] 0) (by simp only [go_sem]) (by simp only [go_sem]) [5,6,8,9,17] [[5, 0],[6, 0],[8, 0],[9, 0],[3, 0, 17, 0]] ?_ rfl) ?_
 ·simp only [go_sem, hO]
 simp only [go_sem]
 refine cl_block ?_
 have hit : SSound Tryz.prog 193 ((atLp x pa le day).itC (capsW 3 pa [le])).toSpec := s193 (atLp_ok x pa le day hnd) (fun _ => rfl) (atLp_y x pa le day hnd) hv.rs hv.rn rfl (fun _ => rfl) (j := 3) (jc := 4) (show 3 < 7 by decide) rfl rfl
 refine cl_iterC (atLp_ok x pa le day hnd) (atLp_caps x pa le day) (f := 193) 30 31 (Ls := [[6, 0], [8, 0], [9, 0], [3, 0, 17, 0], [0, 1], [1, 1], [2, 1]]) rfl rfl (by decide) hit rfl rfl rfl rfl rfl rfl (by decide) (show ([30, 0] : Name) ∉ [[6, 0], [8, 0], [9, 0], [3, 0, 17, 0], [0, 1], [1, 1], [2, 1]] by decide) ⟨rfl, rfl, rfl, rfl, h0, h1, h2, trivial⟩ fun o => ?_
 obtain ⟨g1, g2⟩ := Lp.go_e (r := atLp x pa le day) (fun _ => rfl)
 have g3 : (atLp x pa le day).fam [[6, 0], [8, 0], [9, 0], [3, 0, 17, 0], [0, 1], [1, 1], [2, 1]] (atLp x pa le day).e = [.box (cellsO none), .box (cellsO (atK x.rs pa le day)), .box [.v (.bool (atK x.rs pa le day).isSome)], .box [.ref [0, 1] 0], boxV x [1, 1] [2, 1], .map 2 (encBk x.bk), .map 0 (encDs x.ds)] := by
  rw [g1, ← atTo_all]; rfl
 rw [g2, g3]
 simp only [pdK, thenK]
 refine cl_nil ?_
 show CL Tryz.prog (_ :: _) _ _
 obtain ⟨cs, hcs, hcl⟩ : ∃ cs, cs = cellsO (atK x.rs pa le day) ∧ ∀ p, D.closL p cs = true := ⟨_, rfl, fun p => cellsO_clos p _⟩
 refine cl_weakM (Weak.toM (weak_to 37 [0] H [(6, ⟨true, .ref [6, 0] 0⟩), (8, ⟨true, .ref [8, 0] 0⟩), (9, ⟨true, .ref [9, 0] 0⟩)] [([6, 0], .box (cellsO none)), ([8, 0], .box (cellsO (atK x.rs pa le day))), ([9, 0], .box [.v (.bool (atK x.rs pa le day).isSome)])] rfl rfl (fun nm hn => ?_) ?_ ?_ ?_ (by rw [hO]; trivial))) ?_
 ·have e1 : nm ≠ [30, 0] := by rintro rfl; cases hn
  show upd _ [30, 0] _ nm = _
  rw [upd_ne _ _ _ e1]
  exact setLs_out hn ⟨.inl rfl, .inl rfl, .inl rfl, .inl rfl, .inr h0, .inr h1, .inr h2, trivial⟩ (by simp [mkS, hn])
 ·intro q hq
  simp only [List.mem_cons, List.not_mem_nil, or_false] at hq
  rcases hq with rfl | rfl | rfl <;> rfl
 ·intro q hq
  simp only [List.mem_cons, List.not_mem_nil, or_false] at hq
  rcases hq with rfl | rfl | rfl <;> rfl
 ·simp [O.clos, D.closL, D.clos, cellsO_clos, domOf]
 clear hcs hcl
 generalize atK x.rs pa le day = o
 rcases o with _ | r
 ·simp only [cellsO, Option.isSome]
  repeat refine sq ?_
  refine dx hΓ hP [[], [], [0], [0, 1, 2]] [6,7] [[6, 0]] (by kernel_rfl) (fun K' hK => by simp only [go_sem]; (repeat (refine ⟨obx, ?_⟩)); (first | refine ⟨by rfl, ?_⟩ | skip); exact hK _ (by simp only [go_sem, hO]) (by simp only [go_sem] <;> rfl)) ?_
  refine cl_ret ?_
  simp only [go_sem, h0, h1, h2]
  rfl
 ·simp only [cellsO, cellsR, Option.isSome]
  repeat refine sq ?_
  refine dx hΓ hP [[], [], [0], [0, 1, 2]] [6,7] [[6, 0]] (by kernel_rfl) (fun K' hK => by simp only [go_sem]; (repeat (refine ⟨obx, ?_⟩)); (first | refine ⟨by rfl, ?_⟩ | skip); exact hK _ (by simp only [go_sem, hO]) (by simp only [go_sem] <;> rfl)) ?_
  refine cl_ret ?_
  simp only [go_sem, h0, h1, h2]
  rfl
end
end Go.Eng
