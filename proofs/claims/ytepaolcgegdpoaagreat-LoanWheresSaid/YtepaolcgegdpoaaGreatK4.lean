import Derived.Test.YtepaolcgegdpoaaGreatK3
/- Texts EngG to EngZ. -/
set_option linter.all false
namespace Go.Eng
open Go
theorem Like.more {ok ok2 : Prop} {d d2 : D} {o1 o2 obj obj2 : Name → Option O} {wr : List Name} (nm : Name) (x : Option O) (h : Like ⟨ok, d, o1⟩ ⟨ok2, d2, o2⟩ obj obj2 wr) :
  Like ⟨ok, d, upd o1 nm x⟩ ⟨ok2, d2, upd o2 nm x⟩ obj obj2 (nm :: wr) := by
 refine ⟨h.ok, h.d, fun y => ?_, fun y hy => ?_⟩
 ·show upd o2 nm x y = if y ∈ nm :: wr then upd o1 nm x y else obj2 y
  by_cases e : y = nm
  ·subst e; rw [upd_same, if_pos (by simp), upd_same]
  ·rw [upd_ne _ _ _ e, upd_ne _ _ _ e]
   have := h.eff y
   simp only at this
   rw [this]
   by_cases hy : y ∈ wr
   ·rw [if_pos hy, if_pos (List.mem_cons_of_mem _ hy)]
   ·rw [if_neg hy, if_neg (by simp [e, hy])]
 ·simp only [List.mem_cons, not_or] at hy
  show upd o1 nm x y = obj y
  rw [upd_ne _ _ _ hy.1]
  exact h.frame y hy.2
structure YSpec where
 pre : List E → List Nat → Code → Code → List O → List D → Prop
 out : List E → List Nat → Code → Code → List O → List D → Out × Option Code
def roots (env : List E) (ds : List D) : List D := env.map (·.d) ++ ds
def yEnv (obj : Name → Option O) (env : List E) (ds : List D) : List E := env.map (E.ren (cin (reach obj (roots env ds))))
def yDs (obj : Name → Option O) (env : List E) (ds : List D) : List D := D.renL (cin (reach obj (roots env ds))) ds
def YSpec.o (y : YSpec) (obj : Name → Option O) (env : List E) (ps : List Nat) (asg body : Code) (ds : List D) : Out × Option Code :=
 y.out (yEnv obj env ds) ps asg body (cOs obj (roots env ds)) (yDs obj env ds)
def YSpec.toSpec (y : YSpec) : Spec where
 app obj t args := match args with
  | .yld nm :: ds => match obj nm with
   | some (.loop env ps asg body .ready none) =>
    ⟨(shut obj (reach obj (roots env ds)) && D.closL (inL (reach obj (roots env ds))) (roots env ds) && fresh obj t (y.o obj env ps asg body ds).1.new && !inL (reach obj (roots env ds)) nm &&
      decide (ds.length = ps.length) && (ps.all fun p => decide (p < env.length))) = true ∧ y.pre (yEnv obj env ds) ps asg body (cOs obj (roots env ds)) (yDs obj env ds),
     .v (.bool (y.o obj env ps asg body ds).2.isNone),
     upd (putN (reach obj (roots env ds)) t (y.o obj env ps asg body ds).1.new (putU (reach obj (roots env ds)) t (y.o obj env ps asg body ds).1.upd obj)) nm
      (some (.loop env ps asg body (if (y.o obj env ps asg body ds).2.isNone then .ready else .done) (y.o obj env ps asg body ds).2))⟩
   | _ => .bad obj
  | _ => .bad obj
 foot obj t args := match args with
  | .yld nm :: ds => nm :: (match obj nm with
   | some (.loop env ps asg body .ready none) => reach obj (roots env ds) ++ ((y.o obj env ps asg body ds).1.upd.map fun x => (reach obj (roots env ds)).getD x.1 []) ++ (y.o obj env ps asg body ds).1.new.map fun x => x.1 ++ t
   | _ => [])
  | _ => []
 wrt obj t args := match args with
  | .yld nm :: ds => nm :: (match obj nm with
   | some (.loop env ps asg body .ready none) => ((y.o obj env ps asg body ds).1.upd.map fun x => (reach obj (roots env ds)).getD x.1 []) ++ (y.o obj env ps asg body ds).1.new.map fun x => x.1 ++ t
   | _ => [])
  | _ => []
theorem YSpec.near (y : YSpec) : y.toSpec.Near := by
 have oagr : ∀ {obj obj2 : Name → Option O} {env : List E} {ps : List Nat} {asg body : Code} {ds : List D}, Agr (reach obj (roots env ds)) obj obj2 →
   y.o obj2 env ps asg body ds = y.o obj env ps asg body ds ∧ yEnv obj2 env ds = yEnv obj env ds ∧ yDs obj2 env ds = yDs obj env ds := by
  intro obj obj2 env ps asg body ds h
  unfold YSpec.o yEnv yDs
  rw [cOs_agr h, reach_agr h]
  exact ⟨rfl, rfl, rfl⟩
 have split : ∀ {A B C : List Name} {obj obj2 : Name → Option O} {nm : Name}, Agr (nm :: (A ++ B ++ C)) obj obj2 → Agr A obj obj2 ∧ Agr (B ++ C) obj obj2 := by
  intro A B C obj obj2 nm h
  refine ⟨fun x hx => h x ?_, fun x hx => h x ?_⟩
  ·exact List.mem_cons_of_mem _ (List.mem_append_left _ (List.mem_append_left _ hx))
  ·rcases List.mem_append.1 hx with hx | hx
   ·exact List.mem_cons_of_mem _ (List.mem_append_left _ (List.mem_append_right _ hx))
   ·exact List.mem_cons_of_mem _ (List.mem_append_right _ hx)
 have cases_ : ∀ (args : List D), (∃ nm ds, args = .yld nm :: ds) ∨ (∀ obj t, y.toSpec.app obj t args = .bad obj ∧ y.toSpec.foot obj t args = [] ∧ y.toSpec.wrt obj t args = []) := by
  intro args
  rcases args with _ | ⟨d, ds⟩
  ·exact .inr fun _ _ => ⟨rfl, rfl, rfl⟩
  ·cases d with
   | yld nm => exact .inl ⟨nm, ds, rfl⟩
   | _ => exact .inr fun _ _ => ⟨rfl, rfl, rfl⟩
 refine ⟨fun obj obj2 t args h => ?_, fun obj obj2 t args h => ?_, fun obj t args nm' hn => ?_, fun obj obj2 t args h => ?_⟩
 ·rcases cases_ args with ⟨nm, ds, rfl⟩ | hb
  ·simp only [YSpec.toSpec] at h ⊢
   have h0 : obj2 nm = obj nm := h nm (by simp)
   rw [h0]
   split
   ·rename_i env ps asg body ho
    simp only [ho] at h
    obtain ⟨h1, h2⟩ := split h
    obtain ⟨e1, e2, e3⟩ := oagr (ps := ps) (asg := asg) (body := body) h1
    rw [e1, e2, e3, cOs_agr h1, reach_agr h1]
    refine Like.more nm _ (like_put ?_ h2)
    rw [shut_agr h1, fresh_agr fun nm hn => h2 nm (List.mem_append_right _ hn)]
   ·exact .none _ fun x hx => by simp only [List.mem_singleton] at hx; subst hx; exact h0
  ·rw [(hb obj t).1, (hb obj2 t).1, (hb obj t).2.2]
   exact .same rfl rfl rfl rfl
 ·rcases cases_ args with ⟨nm, ds, rfl⟩ | hb
  ·simp only [YSpec.toSpec] at h ⊢
   have h0 : obj2 nm = obj nm := h nm (by simp)
   rw [h0]
   split
   ·rename_i env ps asg body ho
    simp only [ho] at h
    obtain ⟨h1, h2⟩ := split h
    obtain ⟨e1, e2, e3⟩ := oagr (ps := ps) (asg := asg) (body := body) h1
    rw [e1, reach_agr h1]
   ·rfl
  ·rw [(hb obj t).2.1, (hb obj2 t).2.1]
 ·rcases cases_ args with ⟨nm, ds, rfl⟩ | hb
  ·simp only [YSpec.toSpec] at hn ⊢
   rcases List.mem_cons.1 hn with rfl | hn
   ·simp
   ·refine List.mem_cons_of_mem _ ?_
    split at hn
    ·rename_i env ps asg body ho
     try simp only [ho]
     rcases List.mem_append.1 hn with hn | hn
     ·exact List.mem_append_left _ (List.mem_append_right _ hn)
     ·exact List.mem_append_right _ hn
    ·cases hn
  ·rw [(hb obj t).2.2] at hn; cases hn
 ·rcases cases_ args with ⟨nm, ds, rfl⟩ | hb
  ·simp only [YSpec.toSpec] at h ⊢
   have h0 : obj2 nm = obj nm := h nm (by simp)
   rw [h0]
   split
   ·rename_i env ps asg body ho
    simp only [ho] at h
    obtain ⟨h1, h2⟩ := split h
    obtain ⟨e1, e2, e3⟩ := oagr (ps := ps) (asg := asg) (body := body) h1
    rw [e1, reach_agr h1]
   ·rfl
  ·rw [(hb obj t).2.2, (hb obj2 t).2.2]
def envF (env : List E) : Nat → E := fun t => env.getD t eAny
def setP : (Nat → E) → List Nat → List D → (Nat → E)
 | f, p :: ps, d :: ds => setP (upd f p ⟨true, d⟩) ps ds
 | f, _, _ => f
def onlyK (k : S → Prop) : Exit → S → Prop
 | .normal, σ => k σ
 | _, _ => False
def retY (os : List O) (o : Out × Option Code) : Exit → S → Prop
 | .normal, σ => o.2 = none ∧ endC os o.1 σ
 | .ret, σ => o.2 = some .ret ∧ endC os o.1 σ
 | .exit id, σ => o.2 = some (.exit id) ∧ endC os o.1 σ
 | _, _ => False
theorem setP_rep {φ : Name → Loc} {obj : Name → Option O} {m : Mem} {n : Nat} : ∀ (ps : List Nat) (ds : List D) (us : List Value) (f : Nat → E) (tmps : Array Value), tmps.size = n → ps.length = ds.length → ds.length = us.length →
  (∀ p ∈ ps, p < n) → (∀ t, RepE φ obj m (f t) (tmps.getD t undef)) → (∀ i (h : i < ds.length) (h' : i < us.length), RepD φ obj m ds[i] us[i]) →
  (∀ t, RepE φ obj m (setP f ps ds t) (((ps.zip us).foldl (fun tmps (p : Nat × Value) => tmps.setIfInBounds p.1 p.2) tmps).getD t undef)) ∧ ((ps.zip us).foldl (fun tmps (p : Nat × Value) => tmps.setIfInBounds p.1 p.2) tmps).size = n
 | [], ds, us, f, tmps, hs, h1, h2, hp, hf, hr => by
  have : ds = [] := List.eq_nil_of_length_eq_zero (by simpa using h1.symm)
  subst this
  exact ⟨hf, hs⟩
 | p :: ps, [], us, f, tmps, hs, h1, h2, hp, hf, hr => by simp at h1
 | p :: ps, d :: ds, [], f, tmps, hs, h1, h2, hp, hf, hr => by simp at h2
 | p :: ps, d :: ds, u :: us, f, tmps, hs, h1, h2, hp, hf, hr => by
  simp only [List.zip_cons_cons, List.foldl_cons, setP]
  refine setP_rep ps ds us _ _ (by simpa using hs) (by simpa using h1) (by simpa using h2) (fun q hq => hp q (by simp [hq])) (fun t => ?_) fun i a b => by
   have := hr (i + 1) (by simpa using a) (by simpa using b)
   simpa using this
  have hlt : p < tmps.size := by rw [hs]; exact hp p (by simp)
  by_cases ht : t = p
  ·subst ht
   rw [upd_same]
   have e : (tmps.setIfInBounds t u).getD t undef = u := by simp [Array.getD, hlt]
   rw [e]
   unfold RepE
   simp only [if_true]
   exact hr 0 (by simp) (by simp)
  ·rw [upd_ne _ _ _ ht]
   have e : (tmps.setIfInBounds p u).getD t undef = tmps.getD t undef := by
    simp only [Array.getD_eq_getD_getElem?]
    rw [Array.getElem?_setIfInBounds_ne (fun h => ht h.symm)]
   rw [e]; exact hf t
theorem conc_rec {wa wb : World} {m : Mem} {L : List Name} {φ : Name → Loc} {obj : Name → Option O} {l : Nat} {h h'} {φ1 : Name → Loc} {m1 : Mem} {σ1 : S} {a1 : Act} {w1 w2 : World}
  (hC : Conc (ghIn wa m L φ obj (some l) h) φ1 m1 σ1 a1 w1) (hsz : wb.heap.size = wa.heap.size ∧ w2.heap.size = w1.heap.size) (ho : wb.os = w2.os ∧ wb.tape = w2.tape ∧ wb.output = w2.output)
  (hb : ∀ b, b ≠ l → wb.heap[b]? = wa.heap[b]?) (h2 : ∀ b, b ≠ l → w2.heap[b]? = w1.heap[b]?) (hl : wb.heap[l]? = w2.heap[l]?) : Conc (ghIn wb m L φ obj (some l) h') φ1 m1 σ1 a1 w2 := by
 obtain ⟨hnh, r, hr⟩ := h l rfl
 have hlt : l < wa.heap.size := (Array.getElem?_eq_some_iff.1 hr).1
 have hr1 : w1.heap[l]? = some (.loop r) := (hC.fr.block l hlt hnh).trans hr
 constructor
 ·exact hC.tmps
 ·exact hC.size
 ·obtain ⟨ds, k1, k2, k3⟩ := hC.defers
  refine ⟨ds, k1, k2, fun D hD => ?_⟩
  obtain ⟨k4, k5⟩ := k3 D hD
  have hne : D ≠ l := fun e => by subst e; rw [hr1] at k5; cases k5
  exact ⟨by show wb.heap.size ≤ D; rw [hsz.1]; exact k4, (h2 D hne).trans k5⟩
 ·intro nm o hno
  refine (hC.objs nm o hno).ext (Mem.le_refl _) (Ext.refl _ _) fun k1 k2 => h2 _ fun e => ?_
  rcases hC.own nm ⟨o, hno, k1, k2⟩ with h3 | h3
  ·have h4 : wa.heap.size ≤ (φ1 nm).blk := h3
   omega
  ·rw [e] at h3; exact hnh h3
 ·intro b off v hv
  have h3 := hC.mem b off v hv
  rw [cell?_block (h2 b (fun e => by subst e; unfold World.cell? at h3; simp [hr1] at h3))]
  exact h3
 ·exact hC.apart
 ·exact hC.inj
 ·intro nm hh
  rcases hC.own nm hh with h3 | h3
  ·exact .inl (by show wb.heap.size ≤ _; rw [hsz.1]; exact h3)
  ·exact .inr h3
 ·refine ⟨ho.1.symm, ho.2.1.symm, ho.2.2.symm, by show wb.heap.size ≤ _; rw [hsz.1, hsz.2]; exact hC.fr.size, fun b h3 h4 => ?_⟩
  show w2.heap[b]? = wb.heap[b]?
  by_cases e : b = l
  ·subst e; exact hl.symm
  ·rw [h2 b e, hb b e]
   exact hC.fr.block b (by have : b < wb.heap.size := h3; show b < wa.heap.size; omega) h4
 ·intro b off v hv
  rcases hC.fresh b off v hv with h3 | h3 | h3
  ·exact .inl h3
  ·exact .inr (.inl (by show wb.heap.size ≤ _; rw [hsz.1]; exact h3))
  ·exact .inr (.inr h3)
 ·exact hC.kept
theorem canonO_upd {L : List Name} {obj : Name → Option O} {nm : Name} {x : Option O} (h : nm ∉ L) {y : Name} (hy : y ∈ L) : canonO L (upd obj nm x) y = canonO L obj y := by
 unfold canonO
 rw [upd_ne _ _ _ (by rintro rfl; exact h hy)]
theorem objIn_upd {L : List Name} {obj : Name → Option O} {nm : Name} {x : Option O} (h : nm ∉ L) : objIn L (upd obj nm x) = objIn L obj := by
 rw [objIn_outH, objIn_outH]
 congr 1
 exact List.map_congr_left fun y hy => canonO_upd h hy
theorem held_upd {L : List Name} {φ : Name → Loc} {obj : Name → Option O} {nm : Name} {x : Option O} (h : nm ∉ L) : Held L φ (upd obj nm x) = Held L φ obj := by
 funext b
 refine propext ⟨fun ⟨y, h1, ⟨o, h2, h3⟩, h4⟩ => ?_, fun ⟨y, h1, ⟨o, h2, h3⟩, h4⟩ => ?_⟩
 ·rw [upd_ne _ _ _ (by rintro rfl; exact h h1)] at h2
  exact ⟨y, h1, ⟨o, h2, h3⟩, h4⟩
 ·exact ⟨y, h1, ⟨o, by rw [upd_ne _ _ _ (by rintro rfl; exact h h1)]; exact h2, h3⟩, h4⟩
theorem ghIn_upd {w : World} {m : Mem} {L : List Name} {φ : Name → Loc} {obj : Name → Option O} {nm : Name} {x : Option O} {rd : Option Nat} (h : nm ∉ L) {h1} {h2} : ghIn w m L φ (upd obj nm x) rd h1 = ghIn w m L φ obj rd h2 := by
 unfold ghIn
 simp only [objIn_upd h, held_upd h]
theorem yield_run {P : Program} {y : YSpec} (h : ∀ env ps asg body os ds, y.pre env ps asg body os ds → ds.length = ps.length →
      CW P asg ⟨env.length, setP (envF env) ps ds, outH os, [0], 0⟩ (onlyK fun σ1 => CW P body σ1 (retY os (y.out env ps asg body os ds)))) : SSound P yid y.toSpec := by
  refine ⟨y.near, fun e => (e rfl).elim, fun e => (e rfl).elim, fun _ G φ m σ a w hC t nm ds us _ hl hr _ hok o hexec => ?_⟩
  simp only [YSpec.toSpec] at hok ⊢
  split at hok
  case h_2 => exact hok.elim
  rename_i env ps asg body hnm
  try simp only [hnm]
  obtain ⟨hok, hpre⟩ := hok
  simp only [Bool.and_eq_true, Bool.not_eq_true', decide_eq_true_eq] at hok
  obtain ⟨⟨⟨⟨⟨hsh, hcl⟩, hfr⟩, hnL'⟩, hlen⟩, hps⟩ := hok
  have hnL : nm ∉ reach σ.obj (roots env ds) := fun h => by rw [inL_iff.2 h] at hnL'; cases hnL'
  have hnd : (reach σ.obj (roots env ds)).Nodup := reachL_nodup _ _ _ (by simp)
  obtain ⟨_, hnul, r, hr1, hr2, hr3, hr4, hr5, hr6, hr7, hr8⟩ := hC.objs nm _ hnm
  have hlt : (φ nm).blk < w.heap.size := (Array.getElem?_eq_some_iff.1 hr1).1
  have hheld : ¬ Held (reach σ.obj (roots env ds)) φ σ.obj (φ nm).blk := fun ⟨x, k1, k2, k3⟩ => hnL (hC.inj _ _ k2 ⟨_, hnm, rfl, hnul⟩ k3 ▸ k1)
  have hpl : r.params.size = ps.length := by rw [← hr4]; simp
  intro next Q hnext
  rw [hexec, run_yield hr1 (by omega), Oper.uponIn_round]
  refine ⟨fun h => (by simp [fen, Fence.wide] at h), ?_⟩
  rw [hr5, hr6]
  refine roundIn_of_wpIn trivial ?_
  have hclx := hcl
  have hcl1 : ∀ i (h : i < env.length), D.clos (inL (reach σ.obj (roots env ds))) env[i].d = true := fun i hi => by
    have := closL_mem (l := roots env ds) (i := i) (by simp [roots]; omega) hcl
    simp only [roots] at this ⊢
    rw [List.getElem_append_left (by simpa using hi)] at this
    simpa using this
  have hcl2 : ∀ i (h : i < ds.length), D.clos (inL (reach σ.obj (roots env ds))) ds[i] = true := fun i hi => by
    have := closL_mem (l := roots env ds) (i := env.length + i) (by simp [roots]; omega) hcl
    simp only [roots] at this ⊢
    rw [List.getElem_append_right (by simp)] at this
    simpa using this
  obtain ⟨q1, q2⟩ := setP_rep (φ := φIn (reach σ.obj (roots env ds)) φ) (obj := objIn (reach σ.obj (roots env ds)) σ.obj) (m := m) (n := env.length) ps (yDs σ.obj env ds) us.toList (envF (yEnv σ.obj env ds)) r.tmps hr7
    (by simp [yDs, renL_map]; omega) (by simp [yDs, renL_map]; omega) (fun p hp => by have := List.all_eq_true.1 hps p hp; simpa using this)
    (fun t => by
      unfold envF
      by_cases ht : t < env.length
      · have := (hr8 t ht).renx (Mem.le_refl m) renx_in (hcl1 t ht)
        have e : (yEnv σ.obj env ds).getD t eAny = E.ren (cin (reach σ.obj (roots env ds))) env[t] := by
          rw [List.getD_eq_getElem?_getD, List.getElem?_eq_getElem (by simpa [yEnv] using ht)]; simp [yEnv]
        rw [e]; exact this
      · have e : (yEnv σ.obj env ds).getD t eAny = eAny := by
          rw [List.getD_eq_getElem?_getD, List.getElem?_eq_none (by simp [yEnv]; omega)]; rfl
        rw [e]; unfold RepE eAny; simp; exact .any _)
    (fun i a b => by
      simp only [yDs, renL_map, List.length_map] at a
      have := (hr i a (by simpa using b)).renx (Mem.le_refl m) renx_in (hcl2 i a)
      simpa [yDs, renL_map] using this)
  have hin := frame_in hC (L := reach σ.obj (roots env ds)) hnd hsh (rd := some (φ nm).blk) (fun l e => by cases e; exact ⟨hheld, r, hr1⟩) (b0 := 0) (nt := env.length) q2 q1
  have hcw := h _ _ _ _ _ _ hpre (by simp [yDs, renL_map]; omega)
  have hfold : (r.params.zip us).foldl (fun tmps (p : Nat × Value) => tmps.setIfInBounds p.1 p.2) r.tmps = (ps.zip us.toList).foldl (fun tmps (p : Nat × Value) => tmps.setIfInBounds p.1 p.2) r.tmps := by
    rw [← hr4, ← Array.toList_zip, Array.foldl_toList]
  have hel : (yEnv σ.obj env ds).length = env.length := by simp [yEnv]
  rw [hel] at hcw
  rw [objIn_outH] at hin
  have hfold' : (r.params.zip us).foldl (fun tmps (x : Tmp × Value) => match x with | (t, a) => tmps.setIfInBounds t a) r.tmps = (ps.zip us.toList).foldl (fun tmps (p : Nat × Value) => tmps.setIfInBounds p.1 p.2) r.tmps := hfold
  rw [hfold']
  refine wpIn_mono (hcw _ _ m _ w hin) ?_
  rintro e a1 w1 ⟨φ1, m1, σ1, hC1, hK⟩
  cases e with
  | normal =>
    have hr1' : w1.heap[(φ nm).blk]? = some (.loop r) := (hC1.fr.block _ hlt hheld).trans hr1
    have hlt1 := (Array.getElem?_eq_some_iff.1 hr1').1
    refine ⟨_, run_beginRound hr1' hr2, ?_⟩
    have hob : w1.os = w.os ∧ w1.tape = w.tape ∧ w1.output = w.output := ⟨hC1.fr.os, hC1.fr.tape, hC1.fr.output⟩
    have hC2 := conc_rec (wb := w.putObj (φ nm).blk (.loop { r with state := .busy })) (w2 := w1.putObj (φ nm).blk (.loop { r with state := .busy }))
      (h' := fun l e => by cases e; exact ⟨hheld, _, World.putObj_heap_same hlt⟩) hC1 ⟨by simp, by simp⟩ ⟨hob.1.symm, hob.2.1.symm, hob.2.2.symm⟩
      (fun b hb => World.putObj_heap_other hb) (fun b hb => World.putObj_heap_other hb) (by rw [World.putObj_heap_same hlt, World.putObj_heap_same hlt1])
    refine wpIn_mono (hK _ _ m1 _ _ hC2) ?_
    rintro e a3 w3 ⟨φ3, m3, σ3, hC3, hK3⟩
    have hr3' : w3.heap[(φ nm).blk]? = some (.loop { r with state := .busy }) := (hC3.fr.block _ (by show _ < (w.putObj _ _).heap.size; simpa using hlt) hheld).trans (World.putObj_heap_same hlt)
    have hlt3 := (Array.getElem?_eq_some_iff.1 hr3').1
    have fin : ∀ pend : Option Code, (y.o σ.obj env ps asg body ds).2 = pend → endC (cOs σ.obj (roots env ds)) (y.o σ.obj env ps asg body ds).1 σ3 →
        ∃ v w', (Instr.endRound (φ nm).blk pend).run P w3 = .ok v w' ∧ next (a.put o.dst v) w' := by
      intro pend he hE
      refine ⟨_, _, run_endRound pend hr3', ?_⟩
      generalize hrf : ({ r with state := .busy } : Loop) = rb at hr3' ⊢
      let rf : Loop := { r with state := if pend.isNone then .ready else .done, pending := pend }
      have hrf' : ({ rb with state := if pend.isNone then .ready else .done, pending := pend } : Loop) = rf := by rw [← hrf]
      rw [hrf']
      have hC4 := conc_rec (wb := w.putObj (φ nm).blk (.loop rf)) (w2 := w3.putObj (φ nm).blk (.loop rf))
        (h' := fun l e => by cases e; exact ⟨hheld, _, World.putObj_heap_same hlt⟩) hC3 ⟨by simp, by simp⟩
        ⟨(show (w.putObj (φ nm).blk (.loop rf)).os = (w3.putObj (φ nm).blk (.loop rf)).os from hC3.fr.os.symm), (show (w.putObj (φ nm).blk (.loop rf)).tape = (w3.putObj (φ nm).blk (.loop rf)).tape from hC3.fr.tape.symm), (show (w.putObj (φ nm).blk (.loop rf)).output = (w3.putObj (φ nm).blk (.loop rf)).output from hC3.fr.output.symm)⟩
        (fun b hb => by rw [World.putObj_heap_other hb, World.putObj_heap_other hb]) (fun b hb => World.putObj_heap_other hb) (by rw [World.putObj_heap_same hlt, World.putObj_heap_same hlt3])
      have hC' : Conc G φ m { σ with obj := upd σ.obj nm (some (.loop env ps asg body (if pend.isNone then .ready else .done) pend)) } a (w.putObj (φ nm).blk (.loop rf)) := by
        have := hC.chg (w' := w.putObj (φ nm).blk (.loop rf)) nm (.loop env ps asg body (if pend.isNone then .ready else .done) pend) (φ nm) (Ext.same hnm rfl rfl) ⟨rfl, rfl, rfl, by simp⟩
          (fun b _ hb => World.putObj_heap_other (by rcases hb with h | h; · rw [hnul] at h; cases h
                                                     · exact h))
          (fun _ => .inr ⟨⟨_, hnm, rfl, hnul⟩, rfl⟩) (by
            rw [upd_id]
            refine ⟨by assumption, hnul, rf, World.putObj_heap_same hlt, rfl, rfl, hr4, hr5, hr6, hr7, fun i hi => (hr8 i hi).ext (Mem.le_refl m) ?_⟩
            have := Ext.same (φ := φ) (o' := .loop env ps asg body (if pend.isNone then .ready else .done) pend) hnm rfl rfl
            rwa [upd_id] at this)
        rwa [upd_id] at this
      have hL' : shut (upd σ.obj nm (some (.loop env ps asg body (if pend.isNone then .ready else .done) pend))) (reach σ.obj (roots env ds)) = true := by
        rw [shut_agr (obj := σ.obj) fun x hx => upd_ne _ _ _ (by rintro rfl; exact hnL hx)]; exact hsh
      have hcan : (reach σ.obj (roots env ds)).map (canonO (reach σ.obj (roots env ds)) (upd σ.obj nm (some (.loop env ps asg body (if pend.isNone then .ready else .done) pend)))) = cOs σ.obj (roots env ds) :=
        List.map_congr_left fun x hx => canonO_upd hnL hx
      have hE' := endC_in hE
      rw [← hcan] at hE'
      have hnn : ∀ x ∈ (y.o σ.obj env ps asg body ds).1.new, nm ≠ x.1 ++ t := fun x hx e => by
        have := List.all_eq_true.1 hfr x hx
        rw [← e, hnm] at this; cases this
      have hfr' : fresh (upd σ.obj nm (some (.loop env ps asg body (if pend.isNone then .ready else .done) pend))) t (y.o σ.obj env ps asg body ds).1.new = true := by
        rw [fresh_agr (obj := σ.obj) fun x hx => by
          obtain ⟨z, hz, rfl⟩ := List.mem_map.1 hx
          exact upd_ne _ _ _ (hnn z hz).symm]
        exact hfr
      rw [← ghIn_upd (x := some (.loop env ps asg body (if pend.isNone then .ready else .done) pend)) hnL (h1 := fun l e => by
        cases e; rw [held_upd hnL]; exact ⟨hheld, _, World.putObj_heap_same hlt⟩)] at hC4
      obtain ⟨φ', m', k1, k2, k3, k4⟩ := frame_out hC' hnd hL' hC4 hE' hfr'
      refine hnext _ φ' m' _ ?_ (.v _ _ ?_)
      · have : (putN (reach σ.obj (roots env ds)) t (y.o σ.obj env ps asg body ds).1.new (putU (reach σ.obj (roots env ds)) t (y.o σ.obj env ps asg body ds).1.upd (upd σ.obj nm (some (.loop env ps asg body (if pend.isNone then .ready else .done) pend))))) =
          upd (putN (reach σ.obj (roots env ds)) t (y.o σ.obj env ps asg body ds).1.new (putU (reach σ.obj (roots env ds)) t (y.o σ.obj env ps asg body ds).1.upd σ.obj)) nm (some (.loop env ps asg body (if pend.isNone then .ready else .done) pend)) := by
          funext x
          have hu : ((y.o σ.obj env ps asg body ds).1.upd.all fun x => decide (x.1 < (reach σ.obj (roots env ds)).length)) = true := List.all_eq_true.2 fun z hz => by
            have := List.all_eq_true.1 hE'.cu z hz
            simp only [Bool.and_eq_true, List.length_map] at this; exact this.2
          by_cases e : x = nm
          · subst e
            rw [upd_same, putN_ne _ _ hnn, putU_ne _ _ hu hnL, upd_same]
          · rw [upd_ne _ _ _ e]
            rw [putN_eff (y.o σ.obj env ps asg body ds).1.new σ.obj (putU _ _ _ (upd _ _ _)) x, putN_eff (y.o σ.obj env ps asg body ds).1.new σ.obj (putU _ _ _ σ.obj) x]
            by_cases h1 : x ∈ (y.o σ.obj env ps asg body ds).1.new.map (fun x => x.1 ++ t)
            · rw [if_pos h1, if_pos h1]
            · rw [if_neg h1, if_neg h1]
              rw [putU_eff (y.o σ.obj env ps asg body ds).1.upd σ.obj (upd _ _ _) x, putU_eff (y.o σ.obj env ps asg body ds).1.upd σ.obj σ.obj x]
              by_cases h2 : x ∈ (y.o σ.obj env ps asg body ds).1.upd.map (fun x => (reach σ.obj (roots env ds)).getD x.1 [])
              · rw [if_pos h2, if_pos h2]
              · rw [if_neg h2, if_neg h2]; exact upd_ne _ _ _ e
        rw [this] at k2
        rw [he]
        exact k2
      · rw [he]; exact .bool _
    cases e with
    | normal => exact fin none hK3.1 hK3.2
    | ret => exact fin (some .ret) hK3.1 hK3.2
    | exit id => exact fin (some (.exit id)) hK3.1 hK3.2
    | goto l => exact hK3.elim
    | panic ch => exact hK3.elim
    | outgrown => exact hK3.elim
  | ret => exact hK.elim
  | exit id => exact hK.elim
  | goto l => exact hK.elim
  | panic ch => exact hK.elim
  | outgrown => exact hK.elim
theorem conc_def {G : Ghost} {φ : Name → Loc} {m : Mem} {σ : S} {a : Act} {w : World} (hC : Conc G φ m σ a w) :
  Conc G φ m σ { a with defers := [{ target := .collected w.heap.size, args := #[] }] ++ a.defers } (w.alloc (.deferred (some []))) := by
 have hb : ∀ b, b < w.heap.size → (w.alloc (.deferred (some []))).heap[b]? = w.heap[b]? := fun b h => RowKit.Below.heap_alloc w _ b h
 have h := hC.imm (w' := w.alloc (.deferred (some []))) (Mem.le_refl m) ⟨rfl, rfl, rfl, by simp⟩ hb (fun _ _ _ h => .inl h)
 refine ⟨h.tmps, h.size, ?_, h.objs, h.mem, h.apart, h.inj, h.own, h.fr, h.fresh, h.kept⟩
 obtain ⟨ds, h1, h2, h3⟩ := h.defers
 have hlt : ∀ D ∈ ds, D < w.heap.size := fun D hD => by
  obtain ⟨ds', k1, k2, k3⟩ := hC.defers
  have e : ds' = ds := by
   have := k1.symm.trans h1
   have hi : Function.Injective (fun D : Nat => ({ target := .collected D, args := #[] } : Deferred)) := fun x y h => by simpa using h
   exact (List.map_inj_right hi).1 this
  exact (Array.getElem?_eq_some_iff.1 (k3 D (e ▸ hD)).2).1
 refine ⟨w.heap.size :: ds, by rw [h1]; rfl, List.nodup_cons.2 ⟨fun hm => Nat.lt_irrefl _ (hlt _ hm), h2⟩, fun D hD => ?_⟩
 rcases List.mem_cons.1 hD with rfl | hD
 ·exact ⟨hC.fr.size, World.alloc_heap_new w _⟩
 ·exact h3 D hD
def spent (obj : Name → Option O) (nm : Name) : Name → Option O := upd obj nm (match obj nm with
 | some (.loop env ps asg body _ pend) => some (.loop env ps asg body .exhausted pend)
 | o => o)
def leftK (K : Exit → S → Prop) (obj : Name → Option O) (nm : Name) (σ : S) : Prop := match obj nm with
 | some (.loop _ _ _ _ .busy _) => False
 | some (.loop _ _ _ _ _ none) => K .normal σ
 | some (.loop _ _ _ _ _ (some .ret)) => K .ret σ
 | some (.loop _ _ _ _ _ (some (.exit id))) => K (.exit id) σ
 | _ => False
theorem cw_rangeFunc {P : Program} {Γ : FuncId → Option Spec} (hΓ : ∀ f s, Γ f = some s → SSound P f s) {g : Operand} {ps : Array Tmp} {asg body : Code} {σ : S} {K : Exit → S → Prop} (k k' : Nat) {f : FuncId} {s : Spec}
    (hc : opC σ g = true) (hfn : clFn (opD σ g) = some f) (hne : f ≠ yid) (hs : Γ f = some s) (hnew : σ.obj (k :: σ.pre) = none)
    (hok : (s.app (upd σ.obj (k :: σ.pre) (some (.loop ((List.range σ.nt).map σ.env) ps.toList asg body .ready none))) (k' :: σ.pre) (clArgs (opD σ g) [.yld (k :: σ.pre)])).ok)
    (hK : leftK K (s.app (upd σ.obj (k :: σ.pre) (some (.loop ((List.range σ.nt).map σ.env) ps.toList asg body .ready none))) (k' :: σ.pre) (clArgs (opD σ g) [.yld (k :: σ.pre)])).obj (k :: σ.pre)
      { σ with obj := spent (s.app (upd σ.obj (k :: σ.pre) (some (.loop ((List.range σ.nt).map σ.env) ps.toList asg body .ready none))) (k' :: σ.pre) (clArgs (opD σ g) [.yld (k :: σ.pre)])).obj (k :: σ.pre) }) :
    CW P (.rangeFunc g ps asg body) σ K := by
  intro G φ m a w hC
  generalize hnm : k :: σ.pre = nm at *
  generalize hobj1 : upd σ.obj nm (some (.loop ((List.range σ.nt).map σ.env) ps.toList asg body .ready none)) = obj1 at *
  generalize hR : s.app obj1 (k' :: σ.pre) (clArgs (opD σ g) [.yld nm]) = R at *
  have hgr := opD_rep hC hc
  obtain ⟨us, vs, fs, cs, hu, hargs, e1, e2, hr1, hr2⟩ : ∃ (us vs : Array Value) (fs cs : List D), a.eval g = .func (.func f) us vs ∧ (∀ args, clArgs (opD σ g) args = fs ++ args ++ cs) ∧ fs.length = us.size ∧ cs.length = vs.size ∧
      (∀ i (h : i < fs.length) (h' : i < us.size), RepD φ σ.obj m fs[i] us[i]) ∧ (∀ i (h : i < cs.length) (h' : i < vs.size), RepD φ σ.obj m cs[i] vs[i]) := by
    generalize a.eval g = u at *
    generalize opD σ g = d at *
    unfold clFn at hfn
    split at hfn
    · rename_i f' fs cs
      split at hfn
      · cases hfn
      cases hfn
      cases hgr with
      | v _ _ hgr =>
      cases hgr with
      | clo _ _ _ us vs e1 e2 h1 h2 =>
      exact ⟨us, vs, fs.map .v, cs.map .v, rfl, fun _ => rfl, by simpa using e1, by simpa using e2, fun i a b => by simpa using .v _ _ (h1 i (by simpa using a) b), fun i a b => by simpa using .v _ _ (h2 i (by simpa using a) b)⟩
    · rename_i f' fs cs
      split at hfn
      · cases hfn
      cases hfn
      cases hgr with
      | clo _ _ _ us vs e1 e2 h1 h2 => exact ⟨us, vs, fs, cs, rfl, fun _ => rfl, e1, e2, h1, h2⟩
    · cases hfn; exact (hne rfl).elim
    · cases hfn
  refine wpIn_rangeFunc fun fn _ => ?_
  have main : ∀ (W : World) (a' : Act) (D : Nat), Conc G φ m σ a' W → a'.tmps = a.tmps →
      ∃ (d : Deferred) (w₁' : World) (f' : FuncId) (args : Array Value) (w₂ : World),
      (resolve a.eval (rangeCall g W.heap.size) 0).run P (W.alloc (.loop { state := .ready, pending := none, fn, tmps := a.tmps, params := ps, assign := asg, body, defers := D })) = .ok d w₁' ∧
      (invoke d.target d.args).run P w₁' = .ok (.enter f' args) w₂ ∧
      CallsIn (fen G.rd) (0 - 1) P f' args w₂ (rangePost (fen G.rd) 0 P W.heap.size (fun e a' w' => ∃ φ' m' σ', Conc G φ' m' σ' a' w' ∧ K e σ') a') := by
    intro W a' D hC1 hat
    obtain ⟨r, hrr⟩ : ∃ r : Loop, r = { state := .ready, pending := none, fn, tmps := a.tmps, params := ps, assign := asg, body, defers := D } := ⟨_, rfl⟩
    rw [← hrr]
    have hx := Ext.new (φ := φ) hnew ⟨W.heap.size, 0, 0, false, none⟩ (.loop ((List.range σ.nt).map σ.env) ps.toList asg body .ready none)
    have hC2 := hC1.chg (w' := W.alloc (.loop r)) nm (.loop ((List.range σ.nt).map σ.env) ps.toList asg body .ready none) ⟨W.heap.size, 0, 0, false, none⟩ hx ⟨rfl, rfl, rfl, by simp⟩
      (fun b hb _ => RowKit.Below.heap_alloc W _ b hb) (fun _ => .inl (Nat.le_refl _)) ⟨rfl, rfl, r, World.alloc_heap_new W _, by rw [hrr], by rw [hrr], by rw [hrr], by rw [hrr], by rw [hrr], by
        rw [hrr]
        show a.tmps.size = _
        rw [← hat, hC1.size]; simp, fun i hi => by
        simp only [List.getElem_map, List.getElem_range]
        rw [hrr]
        show RepE _ _ m _ (a.tmps.getD i undef)
        rw [← hat]
        exact (hC1.tmps i).ext (Mem.le_refl m) hx⟩
    rw [hobj1] at hC2 hx
    refine ⟨{ target := .fn (.func f) vs, args := us ++ #[.func (.yield W.heap.size) #[] #[]] }, W.alloc (.loop r), f, us ++ #[.func (.yield W.heap.size) #[] #[]] ++ vs, W.alloc (.loop r), ?_, ?_, ?_⟩
    · have hy : a.eval (.const (.func (.yield W.heap.size) #[] #[])) = .func (.yield W.heap.size) #[] #[] := rfl
      simp [resolve, Deferred.ofValue, hu, hy]
    · simp [invoke, (hΓ f s hs).enter hne]
    · refine fen_calls ?_
      have hcall := (hΓ f s hs).calls hne G (upd φ nm ⟨W.heap.size, 0, 0, false, none⟩) m { σ with obj := obj1 } a' (W.alloc (.loop r)) hC2 (k' :: σ.pre) (clArgs (opD σ g) [.yld nm]) (us ++ #[.func (.yield W.heap.size) #[] #[]] ++ vs) ⟨k', rfl⟩
      refine (hcall ?_ ?_ ?_).mono ?_
      · rw [hargs]; simp only [List.length_append, List.length_singleton, Array.size_append, e1, e2]; rfl
      · intro i h1 h2
        simp only [hargs]
        have hyr : RepD (upd φ nm ⟨W.heap.size, 0, 0, false, none⟩) obj1 m (.yld nm) (.func (.yield W.heap.size) #[] #[]) := by
          have := RepD.yld (φ := upd φ nm ⟨W.heap.size, 0, 0, false, none⟩) (obj := obj1) (m := m) nm ⟨_, by rw [← hobj1, upd_same], rfl⟩
          rwa [upd_same] at this
        simp only [hargs, List.length_append, List.length_singleton] at h1
        by_cases k1 : i < fs.length
        · have q1 : i < us.size := by omega
          simp only [List.append_assoc, Array.append_assoc]
          rw [List.getElem_append_left k1, Array.getElem_append_left q1]
          exact (hr1 i k1 q1).ext (Mem.le_refl m) hx
        · by_cases k2 : i = fs.length
          · subst k2
            simp only [List.append_assoc, Array.append_assoc]
            rw [List.getElem_append_right (by omega), Array.getElem_append_right (by omega)]
            simp only [Nat.sub_self, e1, List.cons_append, List.getElem_cons_zero]
            rw [Array.getElem_append_left (by simp)]
            simpa using hyr
          · rw [List.getElem_append_right (by simp; omega), Array.getElem_append_right (by simp; omega)]
            have := (hr2 (i - (fs.length + 1)) (by omega) (by omega)).ext (Mem.le_refl m) hx
            simp only [List.length_append, List.length_singleton, Array.size_append, ← e1]
            exact this
      · show (s.app obj1 _ _).ok
        rw [hR]; exact hok
      · rintro e w3 ⟨v, φ', m', rfl, hC3, _, hx3⟩
        have h9 : s.app obj1 (k' :: σ.pre) (clArgs (opD σ g) [.yld nm]) = R := hR
        have hC3' : Conc G φ' m' { σ with obj := R.obj } a' w3 := by rw [← h9]; exact hC3
        have hx3' : Ext (upd φ nm ⟨W.heap.size, 0, 0, false, none⟩) φ' obj1 R.obj := by rw [← h9]; exact hx3
        have hnm1 : obj1 nm = some (.loop ((List.range σ.nt).map σ.env) ps.toList asg body .ready none) := by rw [← hobj1, upd_same]
        have hloc : φ' nm = ⟨W.heap.size, 0, 0, false, none⟩ := by
          obtain ⟨o', k1, k2⟩ := hx3' nm _ hnm1
          rcases k2 with ⟨_, k2, _⟩ | ⟨n, n', k2, _⟩
          · rw [k2, upd_same]
          · cases k2
        unfold leftK at hK
        have step : ∀ {env' : List E} {ps' : List Nat} {a1 b1 : Code} {st : LoopState} {pend : Option Code}, R.obj nm = some (.loop env' ps' a1 b1 st pend) → st ≠ .busy →
            ∃ w4, (Instr.endLoop W.heap.size).run P w3 = .ok pend w4 ∧ Conc G φ' m' { σ with obj := spent R.obj nm } a' w4 := by
          intro env' ps' a1 b1 st pend ho hst
          obtain ⟨q0, q1, r', q2, q3, q4, q5, q6, q7, q8, q9⟩ := hC3'.objs nm _ ho
          rw [hloc] at q2
          have hend : (Instr.endLoop W.heap.size).run P w3 = .ok pend (w3.putObj W.heap.size (.loop { r' with state := .exhausted })) := by
            rw [run_endLoop (P := P) q2 (by rw [q3]; exact hst), q4]
          refine ⟨_, hend, ?_⟩
          have hlt := (Array.getElem?_eq_some_iff.1 q2).1
          have hsp : spent R.obj nm = upd R.obj nm (some (.loop env' ps' a1 b1 .exhausted pend)) := by unfold spent; rw [ho]
          rw [hsp]
          have := hC3'.chg (w' := w3.putObj W.heap.size (.loop { r' with state := .exhausted })) nm (.loop env' ps' a1 b1 .exhausted pend) (φ' nm) (Ext.same ho rfl rfl) ⟨rfl, rfl, rfl, by simp⟩
            (fun b _ hb => World.putObj_heap_other (by
              rcases hb with h | h
              · rw [q1] at h; cases h
              · rw [hloc] at h; exact h))
            (fun _ => .inr ⟨⟨_, ho, rfl, q1⟩, rfl⟩) (by
              rw [upd_id]
              refine ⟨q0, q1, { r' with state := .exhausted }, by rw [hloc]; exact World.putObj_heap_same hlt, rfl, q4, q5, q6, q7, q8, fun i hi => (q9 i hi).ext (Mem.le_refl _) ?_⟩
              have := Ext.same (φ := φ') (o' := .loop env' ps' a1 b1 .exhausted pend) ho rfl rfl
              rwa [upd_id] at this)
          rw [upd_id] at this
          exact this
        rcases ho : R.obj nm with _ | o
        · rw [ho] at hK; exact hK.elim
        rw [ho] at hK
        cases o with
        | loop env' ps' a1 b1 st pend =>
          have hst : st ≠ .busy := by rintro rfl; exact hK.elim
          obtain ⟨w4, h1, h2⟩ := step ho hst
          refine ⟨pend, w4, h1, ?_⟩
          cases pend with
          | none =>
            refine ⟨φ', m', _, h2, ?_⟩
            cases st <;> first | exact hK | exact (hst rfl).elim
          | some c =>
            cases c with
            | ret => exact wpIn_ret ⟨φ', m', _, h2, by cases st <;> first | exact hK | exact (hst rfl).elim⟩
            | exit id => exact wpIn_exit ⟨φ', m', _, h2, by cases st <;> first | exact hK | exact (hst rfl).elim⟩
            | _ => exfalso; cases st <;> first | exact hK | exact (hst rfl).elim
        | _ => exact hK.elim
  cases hrd : G.rd with
  | none =>
    obtain ⟨d, w₁', f', args, w₂, h1, h2, h3⟩ := main (w.alloc (.deferred (some []))) _ w.heap.size (conc_def hC) rfl
    rw [hrd] at h3
    have hsz : (w.alloc (.deferred (some []))).heap.size = w.heap.size + 1 := by simp
    rw [hsz] at h1 h3
    exact ⟨w.heap.size + 1, [{ target := .collected w.heap.size, args := #[] }], _, d, w₁', f', args, w₂, run_enterLoop_outer _ _ _ _ _, h1, fun _ _ => trivial, h2, fun h => (by simp [fen, Fence.wide] at h), h3⟩
  | some l =>
    obtain ⟨hno, r0, hr0⟩ := G.rdok l hrd
    have hr0' : w.heap[l]? = some (.loop r0) := (hC.fr.block l (Array.getElem?_eq_some_iff.1 hr0).1 hno).trans hr0
    obtain ⟨d, w₁', f', args, w₂, h1, h2, h3⟩ := main w a r0.defers hC rfl
    rw [hrd] at h3
    exact ⟨w.heap.size, [], _, d, w₁', f', args, w₂, run_enterLoop_inner hr0' _ _ _ _ _, h1, fun _ _ => trivial, h2, fun h => (by simp [fen, Fence.wide] at h), h3⟩
theorem cl_rangeFunc {P : Program} {Γ : FuncId → Option Spec} (hΓ : ∀ f s, Γ f = some s → SSound P f s) {g : Operand} {ps : Array Tmp} {asg body : Code} {σ : S} {r : List Code} {K : Exit → S → Prop} (k k' : Nat) {f : FuncId} {s : Spec}
  (hc : opC σ g = true) (hfn : clFn (opD σ g) = some f) (hne : f ≠ yid) (hs : Γ f = some s) (hnew : σ.obj (k :: σ.pre) = none)
  (hok : (s.app (upd σ.obj (k :: σ.pre) (some (.loop ((List.range σ.nt).map σ.env) ps.toList asg body .ready none))) (k' :: σ.pre) (clArgs (opD σ g) [.yld (k :: σ.pre)])).ok)
  (hK : leftK (thenK (fun σ' => CL P r σ' K) K) (s.app (upd σ.obj (k :: σ.pre) (some (.loop ((List.range σ.nt).map σ.env) ps.toList asg body .ready none))) (k' :: σ.pre) (clArgs (opD σ g) [.yld (k :: σ.pre)])).obj (k :: σ.pre)
   { σ with obj := spent (s.app (upd σ.obj (k :: σ.pre) (some (.loop ((List.range σ.nt).map σ.env) ps.toList asg body .ready none))) (k' :: σ.pre) (clArgs (opD σ g) [.yld (k :: σ.pre)])).obj (k :: σ.pre) }) :
  CL P (.rangeFunc g ps asg body :: r) σ K := cw_rangeFunc hΓ k k' hc hfn hne hs hnew hok hK
theorem Weak.refl (σ : S) : Weak σ σ := fun _ φ _ _ _ hC => ⟨φ, hC⟩
theorem Weak.trans {a b c : S} (h : Weak a b) (k : Weak b c) : Weak a c := fun G φ m x w hC => by
 obtain ⟨φ', h'⟩ := h G φ m x w hC
 exact k G φ' m x w h'
theorem weak_eq {σ τ : S} (ks : List Nat) (ns : List Name) (h : clS ks ns σ) (he : keepS ks ns σ = τ) : Weak σ τ := he ▸ weak_keep ks ns h
def setE (l c : List (Nat × E)) : List (Nat × E) := l.map fun q => (q.1, (c.lookup q.1).getD q.2)
def setO (l c : List (Name × O)) : List (Name × O) := l.map fun q => (q.1, (c.lookup q.1).getD q.2)
theorem cl_keep {P : Program} {c : Code} {r : List Code} {σ : S} {K : Exit → S → Prop} (ks : List Nat) (ns : List Name) (h : clS ks ns σ) (hc : CL P (c :: r) (keepS ks ns σ) K) : CL P (c :: r) σ K :=
 cw_weak (weak_keep ks ns h) hc
theorem cl_loop' {P : Program} {c : Code} {r : List Code} {K : Exit → S → Prop} {nt : Nat} {p : Name} {H : Name → Option O} {l : List (Nat × E)} {h : List (Name × O)} {ι : Type}
  (chg : ι → List (Nat × E)) (ochg : ι → List (Name × O)) (R : ι → Prop) (μ : ι → Nat) (i0 : ι) (hR : R i0) (he : setE l (chg i0) = l) (ho : setO h (ochg i0) = h)
  (round : ∀ i, R i → CL P [c] (mkS nt p H (setE l (chg i)) (setO h (ochg i))) (thenK (fun σ' => ∃ i', R i' ∧ μ i' < μ i ∧ Weak σ' (mkS nt p H (setE l (chg i')) (setO h (ochg i')))) K)) :
  CL P (.loop c :: r) (mkS nt p H l h) K := by
 refine cl_loop (fun i => mkS nt p H (setE l (chg i)) (setO h (ochg i))) R μ i0 hR ?_ round
 rw [he, ho]
 exact .refl _
theorem cl_loopH {P : Program} {c : Code} {r : List Code} {K : Exit → S → Prop} {nt : Nat} {p : Name} {H : Name → Option O} {l : List (Nat × E)} {h : List (Name × O)} {ι : Type}
  (Hc : ι → Name → Option O) (chg : ι → List (Nat × E)) (ochg : ι → List (Name × O)) (R : ι → Prop) (μ : ι → Nat) (i0 : ι) (hR : R i0) (hH : mkS nt p (Hc i0) l h = mkS nt p H l h) (he : setE l (chg i0) = l) (ho : setO h (ochg i0) = h)
  (round : ∀ i, R i → CL P [c] (mkS nt p (Hc i) (setE l (chg i)) (setO h (ochg i))) (thenK (fun σ' => ∃ i', R i' ∧ μ i' < μ i ∧ Weak σ' (mkS nt p (Hc i') (setE l (chg i')) (setO h (ochg i')))) K)) :
  CL P (.loop c :: r) (mkS nt p H l h) K := by
 refine cl_loop (fun i => mkS nt p (Hc i) (setE l (chg i)) (setO h (ochg i))) R μ i0 hR ?_ round
 rw [he, ho, hH]
 exact .refl _
attribute [go_sem] setE setO List.lookup_cons List.lookup_nil List.getElem?_toArray List.getElem?_cons_succ List.getElem?_cons_zero beq_true beq_false ite_self Bool.and_self Bool.or_self imp_self Bool.if_true_right Bool.if_false_right Bool.if_true_left Bool.if_false_left Bool.decide_eq_true
attribute [go_sem] retC endC objsOk newsOk distinct lastU domC isOut argsD outH Bool.and_eq_true
def nLe (a b : Nat) : Bool := Nat.ble a b
def nLt (a b : Nat) : Bool := Nat.ble (a + 1) b
def nEq (a b : Nat) : Bool := Nat.beq a b
def iLe (a b : Int) : Bool := match b - a with
 | .ofNat _ => true
 | .negSucc _ => false
def iLt (a b : Int) : Bool := match b - a - 1 with
 | .ofNat _ => true
 | .negSucc _ => false
def oNone {α : Type} : Option α → Bool
 | none => true
 | some _ => false
def oIs : Option Nat → Nat → Bool
 | some a, b => Nat.beq a b
 | none, _ => false
def allSz (sz : Nat) : List V → Bool
 | [] => true
 | x :: r => Nat.beq x.cells.length sz && allSz sz r
def allOk (sz : Nat) : List V → Bool
 | [] => true
 | x :: r => Nat.beq x.cells.length sz && x.okc && allOk sz r
def kEq (a b : IntKind) : Bool := match a, b with
 | .i64, .i64 => true
 | .u8, .u8 => true
 | .u64, .u64 => true
 | .i32, .i32 => true
 | .u32, .u32 => true
 | _, _ => false
def isBoolT (P : Program) (T : TypeId) : Bool := match P.underlying T with
 | some .bool => true
 | _ => false
def isEq : BinOp → Bool
 | .eql => true
 | .neq => true
 | _ => false
def isZeroI : Int → Bool
 | .ofNat 0 => true
 | _ => false
theorem nLe_ok {a b : Nat} (h : nLe a b = true) : a ≤ b := Nat.le_of_ble_eq_true h
theorem nLt_ok {a b : Nat} (h : nLt a b = true) : a < b := Nat.le_of_ble_eq_true h
theorem nEq_ok {a b : Nat} (h : nEq a b = true) : a = b := Nat.eq_of_beq_eq_true h
theorem iLe_ok {a b : Int} (h : iLe a b = true) : a ≤ b := by
 unfold iLe at h
 split at h
 ·rename_i n hn
  have : (0 : Int) ≤ b - a := by rw [hn]; exact Int.natCast_nonneg n
  omega
 ·cases h
theorem iLt_ok {a b : Int} (h : iLt a b = true) : a < b := by
 unfold iLt at h
 split at h
 ·rename_i n hn
  have : (0 : Int) ≤ b - a - 1 := by rw [hn]; exact Int.natCast_nonneg n
  omega
 ·cases h
theorem oNone_ok {α : Type} {o : Option α} (h : oNone o = true) : o = none := by cases o <;> simp_all [oNone]
theorem oIs_ok {o : Option Nat} {b : Nat} (h : oIs o b = true) : o = some b := by
 cases o with
 | none => cases h
 | some a => rw [Nat.eq_of_beq_eq_true h]
theorem allSz_ok {sz : Nat} : ∀ {l : List V}, allSz sz l = true → ∀ x ∈ l, x.cells.length = sz
 | y :: r, h, x, hx => by
  simp only [allSz, Bool.and_eq_true] at h
  rcases List.mem_cons.1 hx with rfl | hx
  ·exact Nat.eq_of_beq_eq_true h.1
  ·exact allSz_ok h.2 x hx
theorem allOk_ok {sz : Nat} : ∀ {l : List V}, allOk sz l = true → ∀ x ∈ l, x.cells.length = sz ∧ x.okc = true
 | y :: r, h, x, hx => by
  simp only [allOk, Bool.and_eq_true] at h
  rcases List.mem_cons.1 hx with rfl | hx
  ·exact ⟨Nat.eq_of_beq_eq_true h.1.1, h.1.2⟩
  ·exact allOk_ok h.2 x hx
theorem kEq_ok {a b : IntKind} (h : kEq a b = true) : a = b := by unfold kEq at h; split at h <;> first | rfl | cases h
theorem isBoolT_ok {P : Program} {T : TypeId} (h : isBoolT P T = true) : P.underlying T = some .bool := by unfold isBoolT at h; split at h <;> first | assumption | cases h
theorem isEq_ok {op : BinOp} (h : isEq op = true) : op = .eql ∨ op = .neq := by cases op <;> first | exact .inl rfl | exact .inr rfl | cases h
theorem isZeroI_ok {n : Int} (h : isZeroI n = false) : n ≠ 0 := by rintro rfl; cases h
section
variable (P : Program) (obj : Name → Option O)
def bLoad (T : TypeId) (x : D) : Bool :=
 match tAgg P T with
 | none => false
 | some (ag, n) => match x with
  | .v (.ptr cs) => match ag with
   | true => nLe n cs.length
   | false => nEq n 1 && nLt 0 cs.length
  | .ref nm off => match obj nm with
   | some (.box cs) => match ag with
    | true => nLe (off + n) cs.length
    | false => nEq n 1 && nLt off cs.length
   | some (.fbox cs) => match ag with
    | true => nLe (off + n) cs.length
    | false => nEq n 1 && nLt off cs.length
   | _ => false
  | .aref nm k i off => match obj nm with
   | some (.arr _ l) => nEq k l.length && nLt i l.length && (match ag with
    | true => nLe (off + n) (l.getD i default).cells.length
    | false => nEq n 1 && nLt off (l.getD i default).cells.length)
   | some (.farr _ l) => nEq k l.length && nLt i l.length && (match ag with
    | true => nLe (off + n) (l.getD i default).cells.length
    | false => nEq n 1 && nLt off (l.getD i default).cells.length)
   | _ => false
  | _ => false
def bFieldAddr (T : TypeId) (f : Nat) (x : D) : Bool :=
 match tField P T f with
 | none => false
 | some (off, n, _) => !nEq n 0 && match x with
  | .v (.ptr cs) => nLe (off + n) cs.length
  | .ref _ _ => true
  | .aref nm k _ _ => match obj nm with
   | some o => oIs o.len? k
   | none => false
  | _ => false
def bIndexAddr (T : TypeId) (x i : D) : Bool :=
 match i with
 | .v (.int _ n) => match x with
  | .v (.sl l) => match tElem P T with
   | some (_, sz, _) => iLe 0 n && iLt n l.length && nEq (l.getD n.toNat default).cells.length sz
   | none => false
  | .msl nm k => match tElem P T with
   | some (_, sz, _) => match obj nm with
    | some (.arr s l) => iLe 0 n && iLt n l.length && nEq k l.length && nEq s sz
    | some (.farr s l) => iLe 0 n && iLt n l.length && nEq k l.length && nEq s sz
    | _ => false
   | none => false
  | .ref _ _ => match tArr P T with
   | some (len, _, _) => iLe 0 n && iLt n len
   | none => false
  | .v (.ptr cs) => match tArr P T with
   | some (len, sz, _) => iLe 0 n && iLt n len && nLe (n.toNat * sz + sz) cs.length
   | none => false
  | _ => false
 | _ => false
def bIntB (op : BinOp) (k k' : IntKind) (b : Int) : Bool :=
 match op with
 | .quo => kEq k k' && !isZeroI b
 | .rem => kEq k k' && !isZeroI b
 | .shl => iLe 0 b
 | .shr => iLe 0 b
 | _ => kEq k k'
def bStrB (op : BinOp) (a b : ByteArray) : Bool :=
 match op with
 | .add => nLe (a.size + b.size) maxLen
 | .eql | .neq | .lss | .leq | .gtr | .geq => true
 | _ => false
def bBin (op : BinOp) (T : TypeId) (x y : D) : Bool :=
 match x, y with
 | .v (.int k _), .v (.int k' b) => bIntB op k k' b
 | .v (.str a), .v (.str b) => bStrB op a b
 | .v (.bool _), .v (.bool _) => isBoolT P T && isEq op
 | _, _ => false
def bEqS (op : BinOp) (T : TypeId) (x y : V) : Bool :=
 match eqV P Op.maxDepth T x y with
 | some _ => !(P.eqGuardType P.depth T) && isEq op
 | none => false
def bNilCmp (op : BinOp) (T : TypeId) (x : D) : Bool :=
 match x with
 | .v (.sl (_ :: _)) => oIs (tLen P T) 0 && isEq op
 | .msl nm (k + 1) => (match obj nm with | some o => oIs o.len? (k + 1) | none => false) && oIs (tLen P T) 0 && isEq op
 | _ => false
def bBin' (op : BinOp) (T : TypeId) (x y : D) (nilc : Bool) : Bool :=
 match nilc with
 | true => bNilCmp P obj op T x
 | false => match asV x, asV y with
  | some (.agg a), some (.agg b) => bEqS P op T (.agg a) (.agg b)
  | _, _ => bBin P op T x y
def bUn (op : UnOp) (x : D) : Bool :=
 match op, x with
 | .not, .v (.bool _) => true
 | .neg, .v (.int _ _) => true
 | _, _ => false
def bConv (src dst : TypeId) (x : D) : Bool :=
 match tInt P dst, x with
 | some _, .v (.int _ _) => (P.underlying src).isSome
 | _, _ => false
def bExtract (x : D) (i : Nat) : Bool :=
 match x with
 | .tup l => nLt i l.length
 | .v (.tup l) => nLt i l.length
 | _ => false
def bNilCheck (x : D) : Bool :=
 match x with
 | .ref _ _ => true
 | .v (.ptr _) => true
 | .aref nm k _ _ => match obj nm with
  | some o => oIs o.len? k
  | none => false
 | _ => false
def bBox (t : Name) (x : D) : Bool := oNone (obj (nmO t)) && x.boxable
def bAlloc (t : Name) (T : TypeId) : Bool := match tZero P T with
 | some z => bBox obj t (ofVal z)
 | none => false
def bBuild (T : TypeId) (parts : List (Nat × D)) : Bool :=
 match tPlaces P T, tZero P T with
 | some ps, some z => match ofVal z with
  | .agg cs => match fillD (fun i => ps[i]?) cs parts with
   | some _ => true
   | none => false
  | _ => false
 | _, _ => false
def bStore (T : TypeId) (x d : D) : Bool :=
 match tAgg P T with
 | none => false
 | some (_, n) => match x with
  | .ref nm off => match obj nm with
   | some (.box cs) => d.boxable && nEq d.cells.length n && nLe (off + n) cs.length
   | _ => false
  | .aref nm k i off => match obj nm with
   | some (.arr sz l) => match asV d with
    | some y => nEq k l.length && nLt i l.length && nEq y.cells.length n && y.okc && nLe (off + n) sz && !nEq sz 0
    | none => false
   | _ => false
  | _ => false
def bMakeMap (t : Name) (T : TypeId) (r : Option D) : Bool :=
 match tMap P T, r with
 | some _, none => oNone (obj (nmO t))
 | _, _ => false
def bMakeSlice (t : Name) (T : TypeId) (l c : D) : Bool :=
 match tElem P T, l, c with
 | some (e, sz, by_), .v (.int _ n), .v (.int _ n') => match (tZero P e).bind fun z => asV (ofVal z) with
  | some zv => iLe n n' && iLe n' n && iLe 0 n && iLe ((by_ : Int) * n) 281474976710656 && iLe n 9223372036854775807 && nEq zv.cells.length sz && zv.okc && !nEq sz 0 && oNone (obj (nmO t))
  | none => false
 | _, _, _ => false
def bLen (T : TypeId) (x : D) : Bool :=
 match tLen P T, x with
 | some 0, .v (.sl _) => true
 | some 0, .nilsl => true
 | some 0, .msl nm k => match obj nm with
  | some o => oIs o.len? k
  | none => false
 | some 1, .v (.str _) => true
 | some 2, .nilmap => true
 | some 2, .map nm => match obj nm with
  | some (.map _ _) => true
  | _ => false
 | _, _ => false
def bSlice (T : TypeId) (x : D) (lo hi mx : Option D) : Bool :=
 match mx with
 | none => match x with
  | .v (.sl l) => match tElem P T, loOf lo, hiOf l.length hi with
   | some (_, sz, _), some i, some j => iLe 0 i && iLe i j && iLe j l.length && allSz sz l
   | _, _, _ => false
  | .nilsl => match tElem P T, loOf lo, hiOf 0 hi with
   | some (_, _, _), some i, some j => isZeroI i && isZeroI j
   | _, _, _ => false
  | .msl nm k => match obj nm, tElem P T, loOf lo, hiOf k hi with
   | some (.arr _ l), some (_, sz, _), some i, some j => nEq k l.length && iLe 0 i && iLe i j && iLe j l.length && allSz sz l
   | some (.farr _ l), some (_, sz, _), some i, some j => nEq k l.length && iLe 0 i && iLe i j && iLe j l.length && allSz sz l
   | _, _, _, _ => false
  | .v (.str s) => match tLen P T, loOf lo, hiOf s.size hi with
   | some 1, some i, some j => iLe 0 i && iLe i j && iLe j s.size
   | _, _, _ => false
  | _ => false
 | some (.v (.int _ 0)) => match tElem P T, loOf lo, hi with
  | some _, some 0, some (.v (.int _ 0)) => match x with
   | .v (.sl _) => true
   | .nilsl => true
   | .msl nm k => match obj nm with
    | some o => oIs o.len? k
    | none => false
   | _ => false
  | _, _, _ => false
 | some _ => false
def bField (T : TypeId) (x : D) (f : Nat) : Bool :=
 match tField P T f with
 | none => false
 | some (off, n, ag) => match x with
  | .agg l => match ag with
   | true => nLe (off + n) l.length
   | false => nLt off l.length
  | .v (.agg l) => match ag with
   | true => nLe (off + n) l.length
   | false => nLt off l.length
  | _ => false
def bIndex (T : TypeId) (x i : D) : Bool :=
 match i with
 | .v (.int _ n) => match x with
  | .v (.str s) => oIs (tLen P T) 1 && iLe 0 n && iLt n s.size
  | .agg l => match tArr P T with
   | some (len, sz, true) => iLe 0 n && iLt n len && nLe (n.toNat * sz + sz) l.length
   | some (len, sz, false) => iLe 0 n && iLt n len && nLt (n.toNat * sz) l.length
   | none => false
  | .v (.agg l) => match tArr P T with
   | some (len, sz, true) => iLe 0 n && iLt n len && nLe (n.toNat * sz + sz) l.length
   | some (len, sz, false) => iLe 0 n && iLt n len && nLt (n.toNat * sz) l.length
   | none => false
  | _ => false
 | _ => false
def bLookup (T : TypeId) (x k : D) : Bool :=
 match tMap P T with
 | some (kd, e) => match (tZero P e).bind fun z => asV (ofVal z), asV k with
  | some _, some kv => match x with
   | .nilmap => nLe kd 2 && keyIs kd kv
   | .map nm => match obj nm with
    | some (.map kd' _) => nLe kd 2 && keyIs kd kv && nEq kd' kd
    | _ => false
   | _ => false
  | _, _ => false
 | none => false
def bMapUpdate (T : TypeId) (x k d : D) : Bool :=
 match tMap P T, x, asV k, asV d with
 | some (kd, _), .map nm, some kv, some _ => match obj nm with
  | some (.map kd' _) => nLe kd 2 && keyIs kd kv && nEq kd' kd
  | _ => false
 | _, _, _, _ => false
def bPick (c : D) : Bool := match c with
 | .v (.bool _) => true
 | _ => false
def bSrc (x : D) : Bool := match x with
 | .v (.sl _) => true
 | .nilsl => true
 | .msl nm k => match obj nm with
  | some (.arr _ l) => nEq k l.length
  | some (.farr _ l) => nEq k l.length
  | _ => false
 | _ => false
def bAppend (t : Name) (T1 T2 : TypeId) (s x : D) : Bool :=
 match tElem P T1, tElem P T2 with
 | some (e, sz, by_), some _ => match tZero P e with
  | some z => match s with
   | .nilsl => bSrc obj x && allOk sz (srcL obj x).2 && nEq z.cells.size sz && nLe ((srcL obj x).2.length * by_) 140737488355328 && nLe (srcL obj x).2.length maxLen && oNone (obj (nmO t))
   | .msl nm k => match obj nm with
    | some (.arr s' l) => bSrc obj x && allOk sz (srcL obj x).2 && nEq z.cells.size sz && nLe ((l.length + (srcL obj x).2.length) * by_) 140737488355328 &&
      nLe (l.length + (srcL obj x).2.length) maxLen && nEq k l.length && nEq s' sz
    | _ => false
   | _ => false
  | none => false
 | _, _ => false
variable {P obj}
theorem nLe_iff {a b : Nat} : nLe a b = true ↔ a ≤ b := ⟨nLe_ok, Nat.ble_eq_true_of_le⟩
theorem nLt_iff {a b : Nat} : nLt a b = true ↔ a < b := ⟨nLt_ok, Nat.ble_eq_true_of_le⟩
theorem nEq_iff {a b : Nat} : nEq a b = true ↔ a = b := ⟨nEq_ok, fun h => by subst h; simp [nEq]⟩
theorem nEq_not {a b : Nat} : nEq a b = false ↔ a ≠ b := by
 rw [← Bool.not_eq_true, nEq_iff]
theorem iLe_iff {a b : Int} : iLe a b = true ↔ a ≤ b := ⟨iLe_ok, fun h => by
 unfold iLe
 split
 ·rfl
 ·rename_i n hn; have := Int.negSucc_lt_zero n; omega⟩
theorem iLt_iff {a b : Int} : iLt a b = true ↔ a < b := ⟨iLt_ok, fun h => by
 unfold iLt
 split
 ·rfl
 ·rename_i n hn; have := Int.negSucc_lt_zero n; omega⟩
theorem isZeroI_iff {n : Int} : isZeroI n = true ↔ n = 0 := ⟨fun h => (by unfold isZeroI at h; split at h <;> first | rfl | cases h), fun h => (by subst h; rfl)⟩
theorem bLoad_ok {T : TypeId} {x : D} (h : bLoad P obj T x = true) : (aLoad P obj T x).ok := by
 unfold bLoad at h
 unfold aLoad
 (repeat' split at h) <;> simp_all [nLe_iff, nLt_iff, nEq_iff, -List.getD_eq_getElem?_getD]
theorem bFieldAddr_ok {T : TypeId} {f : Nat} {x : D} (h : bFieldAddr P obj T f x = true) : (aFieldAddr P obj T f x).ok := by
 unfold bFieldAddr at h
 unfold aFieldAddr
 split at h
 ·cases h
 ·simp only [Bool.and_eq_true, Bool.not_eq_true', nEq_not] at h
  obtain ⟨h1, h⟩ := h
  (repeat' split at h) <;> simp_all [nLe_iff]
  exact oIs_ok h
theorem bIndexAddr_ok {T : TypeId} {x i : D} (h : bIndexAddr P obj T x i = true) : (aIndexAddr P obj T x i).ok := by
 unfold bIndexAddr at h
 unfold aIndexAddr
 (repeat' split at h) <;> simp_all [nLe_iff, nEq_iff, iLe_iff, iLt_iff, -List.getD_eq_getElem?_getD]
theorem bBin_ok {op : BinOp} {T : TypeId} {x y : D} (h : bBin P op T x y = true) : (aBin P obj op T x y).ok := by
 unfold bBin at h
 unfold aBin
 split at h
 ·simp only
  unfold bIntB at h
  unfold bIntOk
  cases op <;> simp only [Bool.and_eq_true, Bool.not_eq_true'] at h ⊢ <;> first
   | exact ⟨kEq_ok h.1, isZeroI_ok h.2⟩
   | exact kEq_ok h
   | exact iLe_ok h
 ·simp only
  unfold bStrB at h
  unfold bStrOk
  cases op <;> simp only at h ⊢ <;> first | exact nLe_ok h | trivial | (cases h; done)
 ·simp only [Bool.and_eq_true] at h
  exact ⟨isBoolT_ok h.1, isEq_ok h.2⟩
 ·cases h
theorem bEqS_ok {op : BinOp} {T : TypeId} {x y : V} (h : bEqS P op T x y = true) : (aEqS P obj op T x y).ok := by
 unfold bEqS at h
 unfold aEqS
 split at h
 ·rename_i b hb
  simp only [Bool.and_eq_true, Bool.not_eq_true'] at h
  rw [hb]
  exact ⟨h.1, isEq_ok h.2⟩
 ·cases h
theorem bNilCmp_ok {op : BinOp} {T : TypeId} {x : D} (h : bNilCmp P obj op T x = true) : (aNilCmp P obj op T x).ok := by
 unfold bNilCmp at h
 unfold aNilCmp
 split at h
 ·simp only [Bool.and_eq_true] at h
  exact ⟨oIs_ok h.1, isEq_ok h.2⟩
 ·rename_i nm k
  simp only [Bool.and_eq_true] at h
  refine ⟨?_, oIs_ok h.1.2, isEq_ok h.2⟩
  have h1 := h.1.1
  split at h1
  ·rename_i o ho; rw [ho]; exact oIs_ok h1
  ·cases h1
 ·cases h
theorem bBin'_ok {op : BinOp} {T : TypeId} {x y : D} {n : Bool} (h : bBin' P obj op T x y n = true) : (aBin' P obj op T x y n).ok := by
 unfold bBin' at h
 unfold aBin'
 cases n with
 | true => exact bNilCmp_ok h
 | false =>
  simp only at h ⊢
  split at h
  ·rename_i h1 h2
   simp only [h1, h2]
   exact bEqS_ok h
  ·rename_i hne
   split
   ·rename_i h1 h2; exact (hne _ _ h1 h2).elim
   ·exact bBin_ok h
theorem bUn_ok {op : UnOp} {x : D} (h : bUn op x = true) : (aUn obj op x).ok := by
 unfold bUn at h
 unfold aUn
 split at h <;> first | trivial | cases h
theorem bConv_ok {s d : TypeId} {x : D} (h : bConv P s d x = true) : (aConv P obj s d x).ok := by
 unfold bConv at h
 unfold aConv
 (repeat' split at h) <;> simp_all
theorem bExtract_ok {x : D} {i : Nat} (h : bExtract x i = true) : (aExtract obj x i).ok := by
 unfold bExtract at h
 unfold aExtract
 split at h <;> simp_all [nLt_iff]
theorem bNilCheck_ok {x : D} (h : bNilCheck obj x = true) : (aNilCheck obj x).ok := by
 unfold bNilCheck at h
 unfold aNilCheck
 (repeat' split at h) <;> simp_all
 exact oIs_ok h
theorem bBox_ok {t : Name} {x : D} (h : bBox obj t x = true) : (aBox obj t x).ok := by
 simp only [bBox, Bool.and_eq_true] at h
 exact ⟨oNone_ok h.1, h.2⟩
theorem bAlloc_ok {t : Name} {T : TypeId} (h : bAlloc P obj t T = true) : (aAlloc P obj t T).ok := by
 unfold bAlloc at h
 unfold aAlloc
 split at h
 ·rename_i z hz; rw [hz]; exact bBox_ok h
 ·cases h
theorem bBuild_ok {T : TypeId} {ps : List (Nat × D)} (h : bBuild P T ps = true) : (aBuild P obj T ps).ok := by
 unfold bBuild at h
 unfold aBuild
 (repeat' split at h) <;> simp_all
theorem bStore_ok {T : TypeId} {x d : D} (h : bStore P obj T x d = true) : (aStore P obj T x d).ok := by
 unfold bStore at h
 unfold aStore
 (repeat' split at h) <;> simp_all [nLe_iff, nLt_iff, nEq_iff, nEq_not]
theorem bMakeMap_ok {t : Name} {T : TypeId} {r : Option D} (h : bMakeMap P obj t T r = true) : (aMakeMap P obj t T r).ok := by
 unfold bMakeMap at h
 unfold aMakeMap
 (repeat' split at h) <;> simp_all
 exact oNone_ok h
theorem bMakeSlice_ok {t : Name} {T : TypeId} {l c : D} (h : bMakeSlice P obj t T l c = true) : (aMakeSlice P obj t T l c).ok := by
 unfold bMakeSlice at h
 unfold aMakeSlice
 split at h
 ·rename_i e sz by_ k n k' n' hT
  rw [hT]
  simp only
  split at h
  ·rename_i zv hz
   simp only [Bool.and_eq_true, Bool.not_eq_true', nEq_not] at h
   obtain ⟨⟨⟨⟨⟨⟨⟨⟨h1, h2⟩, h3⟩, h4⟩, h5⟩, h6⟩, h7⟩, h8⟩, h9⟩ := h
   rw [hz]
   exact ⟨Int.le_antisymm (iLe_ok h2) (iLe_ok h1), iLe_ok h3, iLe_ok h4, iLe_ok h5, nEq_ok h6, h7, h8, oNone_ok h9⟩
  ·cases h
 ·cases h
theorem bLen_ok {T : TypeId} {x : D} (h : bLen P obj T x = true) : (aLen P obj T x).ok := by
 unfold bLen at h
 unfold aLen
 (repeat' split at h) <;> simp_all
 exact oIs_ok h
theorem bSlice_ok {T : TypeId} {x : D} {lo hi mx : Option D} (h : bSlice P obj T x lo hi mx = true) : (aSlice P obj T x lo hi mx).ok := by
 unfold bSlice at h
 unfold aSlice
 split at h
 ·split at h
  ·split at h
   ·rename_i h1 h2 h3
    simp only [Bool.and_eq_true] at h
    simp only [h1, h2, h3]
    exact ⟨iLe_ok h.1.1.1, iLe_ok h.1.1.2, iLe_ok h.1.2, allSz_ok h.2⟩
   ·cases h
  ·split at h
   ·rename_i h1 h2 h3
    simp only [Bool.and_eq_true] at h
    simp only [h1, h2, h3]
    exact ⟨isZeroI_iff.1 h.1, isZeroI_iff.1 h.2⟩
   ·cases h
  ·split at h
   ·rename_i h1 h2 h3 h4
    simp only [Bool.and_eq_true] at h
    simp only [h1, h2, h3, h4]
    exact ⟨nEq_ok h.1.1.1.1, iLe_ok h.1.1.1.2, iLe_ok h.1.1.2, iLe_ok h.1.2, allSz_ok h.2⟩
   ·rename_i h1 h2 h3 h4
    simp only [Bool.and_eq_true] at h
    simp only [h1, h2, h3, h4]
    exact ⟨nEq_ok h.1.1.1.1, iLe_ok h.1.1.1.2, iLe_ok h.1.1.2, iLe_ok h.1.2, allSz_ok h.2⟩
   ·cases h
  ·split at h
   ·rename_i h1 h2 h3
    simp only [Bool.and_eq_true] at h
    simp only [h1, h2, h3]
    exact ⟨iLe_ok h.1.1, iLe_ok h.1.2, iLe_ok h.2⟩
   ·cases h
  ·cases h
 ·split at h
  ·rename_i h1 h2 h3
   split at h
   ·simp only [h2, h3]
   ·simp only [h2, h3]
   ·split at h
    ·rename_i o ho
     simp only [h2, h3, ho]
     exact oIs_ok h
    ·cases h
   ·cases h
  ·cases h
 ·cases h
theorem bField_ok {T : TypeId} {x : D} {f : Nat} (h : bField P T x f = true) : (aField P obj T x f).ok := by
 unfold bField at h
 unfold aField
 (repeat' split at h) <;> simp_all [nLe_iff, nLt_iff]
theorem bIndex_ok {T : TypeId} {x i : D} (h : bIndex P T x i = true) : (aIndex P obj T x i).ok := by
 unfold bIndex at h
 unfold aIndex
 (repeat' split at h) <;> simp_all [nLe_iff, nLt_iff, iLe_iff, iLt_iff]
 exact oIs_ok h.1.1
theorem bLookup_ok {T : TypeId} {x k : D} {c : Bool} (h : bLookup P obj T x k = true) : (aLookup P obj T x k c).ok := by
 unfold bLookup at h
 unfold aLookup
 (repeat' split at h) <;> simp_all [nLe_iff, nEq_iff]
theorem bMapUpdate_ok {T : TypeId} {x k d : D} (h : bMapUpdate P obj T x k d = true) : (aMapUpdate P obj T x k d).ok := by
 unfold bMapUpdate at h
 unfold aMapUpdate
 (repeat' split at h) <;> simp_all [nLe_iff, nEq_iff]
theorem bPick_ok {c x y : D} (h : bPick c = true) : (aPick obj c x y).ok := by
 unfold bPick at h
 unfold aPick
 split at h <;> first | trivial | cases h
theorem bSrc_ok {x : D} (h : bSrc obj x = true) : (srcL obj x).1 := by
 unfold bSrc at h
 unfold srcL
 (repeat' split at h) <;> simp_all [nEq_iff]
theorem bAppend_ok {t : Name} {T1 T2 : TypeId} {s x : D} (h : bAppend P obj t T1 T2 s x = true) : (aAppend P obj t T1 T2 s x).ok := by
 unfold bAppend at h
 unfold aAppend
 split at h
 ·rename_i e sz by_ p h1 h2
  split at h
  ·rename_i z hz
   split at h
   ·simp only [Bool.and_eq_true] at h
    simp only [h1, h2, hz]
    exact ⟨bSrc_ok h.1.1.1.1.1, allOk_ok h.1.1.1.1.2, nEq_ok h.1.1.1.2, nLe_ok h.1.1.2, nLe_ok h.1.2, oNone_ok h.2⟩
   ·split at h
    ·rename_i ho
     simp only [Bool.and_eq_true] at h
     simp only [h1, h2, hz, ho]
     exact ⟨bSrc_ok h.1.1.1.1.1.1, allOk_ok h.1.1.1.1.1.2, nEq_ok h.1.1.1.1.2, nLe_ok h.1.1.1.2, nLe_ok h.1.1.2, nEq_ok h.1.2, nEq_ok h.2⟩
    ·cases h
   ·cases h
  ·cases h
 ·cases h
end
def frzLB (f : (Name → Option O) → D → Bool) (g : (Name → Option O) → D → FR) (obj : Name → Option O) : List D → Bool
 | [] => true
 | d :: r => f obj d && frzLB f g (g obj d).obj r
def frzB : Nat → (Name → Option O) → D → Bool
 | 0, obj, d => match d with
  | .v _ => true
  | .nilsl => true
  | _ => false
 | n + 1, obj, d => match d with
  | .v _ => true
  | .nilsl => true
  | .msl nm k => match obj nm with
   | some (.arr _ l) => decide (k = l.length)
   | some (.farr _ l) => decide (k = l.length)
   | _ => false
  | .ref nm _ => match obj nm with
   | some (.box cs) => frzLB (frzB n) (frz n) obj cs && !inL (fpL (fp n obj) cs) nm
   | some (.fbox _) => true
   | _ => false
  | .agg l => frzLB (frzB n) (frz n) obj l
  | .tup l => frzLB (frzB n) (frz n) obj l
  | .clo _ f c => frzLB (frzB n) (frz n) obj f && frzLB (frzB n) (frz n) (frzL (frz n) obj f).obj c
  | _ => false
theorem frzLB_ok {n : Nat} (ih : ∀ obj d, frzB n obj d = true → (frz n obj d).ok) : ∀ (l : List D) (obj : Name → Option O), frzLB (frzB n) (frz n) obj l = true → (frzL (frz n) obj l).ok
 | [], _, _ => trivial
 | d :: r, obj, h => by
  simp only [frzLB, Bool.and_eq_true] at h
  exact ⟨ih obj d h.1, frzLB_ok ih r _ h.2⟩
theorem frzB_ok : ∀ (n : Nat) (obj : Name → Option O) (d : D), frzB n obj d = true → (frz n obj d).ok
 | 0, obj, d, h => by cases d <;> first | trivial | (simp [frzB] at h)
 | n + 1, obj, d, h => by
  have ih := frzLB_ok (frzB_ok n)
  cases d with
  | v x => trivial
  | nilsl => trivial
  | msl nm k =>
   simp only [frzB] at h
   unfold frz
   rcases ho : obj nm with _ | o
   ·simp [ho] at h
   ·cases o <;> simp [ho] at h ⊢ <;> exact h
  | ref nm off =>
   simp only [frzB] at h
   rcases ho : obj nm with _ | o
   ·simp [ho] at h
   ·cases o with
    | box cs =>
     simp only [ho, Bool.and_eq_true, Bool.not_eq_true'] at h
     simp only [frz, ho]
     refine ⟨ih cs obj h.1, ?_⟩
     have := (frzL_like (frz_like n) cs obj obj (fpL (fp n obj) cs) (fun _ hn => hn) (fun _ _ => rfl)).2.frame nm (fun hn => by rw [inL_iff.2 hn] at h; cases h.2)
     rw [this, ho]
    | fbox cs => simp only [frz, ho]
    | _ => simp [ho] at h
  | agg l => exact ih l obj h
  | tup l => exact ih l obj h
  | clo fn f c =>
   simp only [frzB, Bool.and_eq_true] at h
   exact ⟨ih f obj h.1, ih c _ h.2⟩
  | _ => simp [frzB] at h
def isNil {α : Type} : List α → Bool
 | [] => true
 | _ => false
theorem isNil_iff {α : Type} {l : List α} : isNil l = true ↔ l = [] := by cases l <;> simp [isNil]
def isRange : Nat → List Nat → Bool
 | _, [] => true
 | k, x :: r => nEq x k && isRange (k + 1) r
theorem isRange_ok : ∀ {k : Nat} {l : List Nat}, isRange k l = true → l = List.range' k l.length
 | k, [], _ => rfl
 | k, x :: r, h => by
  simp only [isRange, Bool.and_eq_true] at h
  rw [nEq_ok h.1, List.length_cons, List.range'_succ]
  congr 1
  exact isRange_ok h.2
def buildSliceB (P : Program) (obj : Name → Option O) (T : TypeId) (n : Nat) (parts : List (Nat × D)) : Bool :=
 match tElem P T with
 | some (e, sz, _) => match nEq n 0 && isNil parts with
  | true => (tZero P e).isSome
  | false => frzLB (frzB 4) (frz 4) obj (parts.map fun p => p.2) && isRange 0 (parts.map fun p => p.1) && nEq parts.length n && allOk sz (frzL (frz 4) obj (parts.map fun p => p.2)).xs &&
    nLe (n * sz) 16777216 && !nEq sz 0 && (tZero P e).isSome && nLt 0 n
 | none => false
theorem buildSliceB_ok {P : Program} {obj : Name → Option O} {T : TypeId} {n : Nat} {parts : List (Nat × D)} (h : buildSliceB P obj T n parts = true) : (aBuildSlice P obj T n parts).ok := by
 unfold buildSliceB at h
 unfold aBuildSlice
 split at h
 ·rename_i e sz by_ hT
  rw [hT]
  simp only
  split at h
  ·rename_i hc
   simp only [Bool.and_eq_true, nEq_iff, isNil_iff] at hc
   rw [if_pos hc]; exact h
  ·rename_i hc
   have hc' : ¬ (n = 0 ∧ parts = []) := by
    intro ⟨a, b⟩
    subst a; subst b
    cases hc
   rw [if_neg hc']
   simp only [Bool.and_eq_true, Bool.not_eq_true', nEq_not] at h
   obtain ⟨⟨⟨⟨⟨⟨⟨h1, h2⟩, h2'⟩, h3⟩, h4⟩, h5⟩, h6⟩, h7⟩ := h
   refine ⟨?_, frzLB_ok (frzB_ok 4) _ _ h1, allOk_ok h3, nLe_ok h4, h5, h6, nLt_ok h7⟩
   have := isRange_ok h2
   rw [List.length_map, nEq_ok h2', ← List.range_eq_range'] at this
   exact this
 ·cases h
def builtinB (P : Program) (σ : S) (t : Name) (b : Builtin) (ts : List TypeId) (args : List D) : Bool :=
 match b, ts, args with
 | .len, [T], [x] => bLen P σ.obj T x
 | .append, [T1, T2], [s, x] => bAppend P σ.obj t T1 T2 s x
 | .min, _, [.v (.int _ _), .v (.int _ _)] => true
 | .max, _, [.v (.int _ _), .v (.int _ _)] => true
 | _, _, _ => false
def opB (P : Program) (σ : S) (t : Name) : Op → Bool
 | .move _ => true
 | .assign _ => true
 | .pick c _ _ => bPick (opD σ c)
 | .alloc T => bAlloc P σ.obj t T
 | .box _ x => bBox σ.obj t (opD σ x)
 | .build T ps => bBuild P T (ps.toList.map fun p => (p.1, opD σ p.2))
 | .buildSlice T n ps => buildSliceB P σ.obj T n (ps.toList.map fun p => (p.1, opD σ p.2))
 | .load T x => bLoad P σ.obj T (opD σ x)
 | .store T x d => bStore P σ.obj T (opD σ x) (opD σ d)
 | .nilCheck x => bNilCheck σ.obj (opD σ x)
 | .binOp op T x y _ => bBin' P σ.obj op T (opD σ x) (opD σ y) (isNilC y)
 | .unOp op _ x => bUn op (opD σ x)
 | .convert s d x => bConv P s d (opD σ x)
 | .makeFunc _ _ _ => true
 | .makeMap T r => bMakeMap P σ.obj t T (r.map (opD σ))
 | .makeSlice T l c => bMakeSlice P σ.obj t T (opD σ l) (opD σ c)
 | .slice T x lo hi mx => bSlice P σ.obj T (opD σ x) (lo.map (opD σ)) (hi.map (opD σ)) (mx.map (opD σ))
 | .fieldAddr T x f => bFieldAddr P σ.obj T f (opD σ x)
 | .field T x f => bField P T (opD σ x) f
 | .indexAddr T x i => bIndexAddr P σ.obj T (opD σ x) (opD σ i)
 | .index T x i => bIndex P T (opD σ x) (opD σ i)
 | .lookup T x i _ => bLookup P σ.obj T (opD σ x) (opD σ i)
 | .mapUpdate T x k d => bMapUpdate P σ.obj T (opD σ x) (opD σ k) (opD σ d)
 | .insert T x k d => bMapUpdate P σ.obj T (opD σ x) (opD σ k) (opD σ d)
 | .extract x i => bExtract (opD σ x) i
 | .call ⟨.builtin b, args, ts⟩ => builtinB P σ t b ts.toList (args.toList.map (opD σ))
 | _ => false
theorem builtinB_ok {P : Program} {σ : S} {t : Name} {b : Builtin} {ts : List TypeId} {args : List D} (h : builtinB P σ t b ts args = true) : (aBuiltin P σ t b ts args).ok := by
 unfold builtinB at h
 split at h
 ·exact bLen_ok h
 ·exact bAppend_ok h
 ·trivial
 ·trivial
 ·cases h
theorem opB_ok {P : Program} {Γ : FuncId → Option Spec} {σ : S} {t : Name} {op : Op} (h : opB P σ t op = true) : (aop P Γ σ t op).ok := by
 cases op with
 | call c =>
  obtain ⟨callee, args, ts⟩ := c
  cases callee with
  | value f => cases h
  | builtin b => exact builtinB_ok h
  | invoke => cases h
 | move => trivial
 | assign => trivial
 | makeFunc => trivial
 | pick => exact bPick_ok h
 | alloc => exact bAlloc_ok h
 | box => exact bBox_ok h
 | build => exact bBuild_ok h
 | buildSlice => exact buildSliceB_ok h
 | load => exact bLoad_ok h
 | store => exact bStore_ok h
 | nilCheck => exact bNilCheck_ok h
 | binOp => exact bBin'_ok h
 | unOp => exact bUn_ok h
 | convert => exact bConv_ok h
 | makeMap => exact bMakeMap_ok h
 | makeSlice => exact bMakeSlice_ok h
 | slice => exact bSlice_ok h
 | fieldAddr => exact bFieldAddr_ok h
 | field => exact bField_ok h
 | indexAddr => exact bIndexAddr_ok h
 | index => exact bIndex_ok h
 | lookup => exact bLookup_ok h
 | mapUpdate => exact bMapUpdate_ok h
 | insert => exact bMapUpdate_ok h
 | extract => exact bExtract_ok h
 | _ => cases h
def isCutA (o : Oper) : Option (TypeId × Operand × Operand × Nat) :=
 match o.op with
 | .slice T x (some lo) none none => match o.guard, o.dst with
  | none, some c => some (T, x, lo, c)
  | _, _ => none
 | _ => none
def isCutB (c : Nat) (o : Oper) : Bool :=
 match o.op with
 | .call ⟨.builtin .clear, args, ts⟩ => match args.toList, ts.toList, o.guard, o.dst with
  | [.tmp c'], [_], none, none => Nat.beq c' c
  | _, _, _, _ => false
 | _ => false
def clearT (o : Oper) : TypeId := match o.op with
 | .call ⟨.builtin .clear, _, ts⟩ => ts.getD 0 0
 | _ => 0
def aCut (P : Program) (obj : Name → Option O) (T T2 : TypeId) (x lo : D) : R :=
 match x, lo, tElem P T, tElem P T2 with
 | .msl nm k, .v (.int _ i), some (e, sz, _), some (e2, _, _) => match obj nm, (tZero P e).bind fun z => asV (ofVal z) with
  | some (.arr s l), some zv => ⟨k = l.length ∧ 0 ≤ i ∧ i.toNat < l.length ∧ s = sz ∧ zv.cells.length = sz ∧ zv.okc = true ∧ e2 = e ∧ 0 < sz, .any, upd obj nm (some (.arr sz (l.take i.toNat ++ List.replicate (l.length - i.toNat) zv)))⟩
  | _, _ => .bad obj
 | _, _, _, _ => .bad obj
def cutS (P : Program) (σ : S) (T : TypeId) (x lo : Operand) (c : Nat) (o2 : Oper) : S :=
 { σ with env := upd σ.env c ⟨true, .any⟩, obj := (aCut P σ.obj T (clearT o2) (opD σ x) (opD σ lo)).obj }
inductive RegX (P : Program) (Γ : FuncId → Option Spec) (ops : Array Oper) : List Oper → S → (S → Prop) → Prop
 | nil {σ : S} {K : S → Prop} : K σ → RegX P Γ ops [] σ K
 | step {o : Oper} {r : List Oper} {σ : S} {K : S → Prop} : oblS P Γ ops σ o → RegX P Γ ops r (stepS P Γ ops σ o) K → RegX P Γ ops (o :: r) σ K
 | cut {o o2 : Oper} {r : List Oper} {σ : S} {K : S → Prop} {T : TypeId} {x lo : Operand} {c : Nat} : isCutA o = some (T, x, lo, c) → isCutB c o2 = true → c < σ.nt → opC σ x = true → opC σ lo = true →
   (aCut P σ.obj T (clearT o2) (opD σ x) (opD σ lo)).ok → RegX P Γ ops r (cutS P σ T x lo c o2) K → RegX P Γ ops (o :: o2 :: r) σ K
theorem rep_zeros {m : Mem} {zv : V} {z : Value} {sz : Nat} (h : RepV m zv z) (hs : zv.cells.length = sz) (hpos : 0 < sz) (n k : Nat) (hk : k < n * sz) :
  (Builtin.zeroCells z.cells n)[k]? = z.cells[k % sz]? := by
 have hz : z.cells.size = sz := by rw [← h.cells]; exact hs
 have hm := Nat.mod_lt k hpos
 unfold Builtin.zeroCells
 rw [hz]
 simp only [Array.getElem?_map, Array.getElem?_range, hk, if_true, Option.map_some]
 rw [Array.getElem?_eq_getElem (by omega), getElem!_pos z.cells (k % sz) (by omega)]
theorem cut_get {l : List V} {zv : V} {i q : Nat} (hi : i ≤ l.length) (hq : q < (l.take i ++ List.replicate (l.length - i) zv).length) :
  (q < i ∧ ∃ h : q < l.length, (l.take i ++ List.replicate (l.length - i) zv)[q] = l[q]) ∨ (i ≤ q ∧ q < l.length ∧ (l.take i ++ List.replicate (l.length - i) zv)[q] = zv) := by
 have hlen : (l.take i).length = i := by simp; omega
 have hq' := hq
 simp only [List.length_append, List.length_replicate, hlen] at hq'
 by_cases h1 : q < i
 ·refine .inl ⟨h1, by omega, ?_⟩
  rw [List.getElem_append_left (by omega), List.getElem_take]
 ·refine .inr ⟨by omega, by omega, ?_⟩
  rw [List.getElem_append_right (by omega), List.getElem_replicate]
theorem mul_le_of' {K a b : Nat} (h : a < b) : a * K + K ≤ b * K := by
 have := Nat.mul_le_mul_right K (show a + 1 ≤ b by omega)
 rwa [Nat.add_mul, Nat.one_mul] at this
set_option maxHeartbeats 1000000 in
theorem cut_sound {P : Program} {G : Ghost} {φ : Name → Loc} {m : Mem} {σ : S} {a : Act} {w : World} (hC : Conc G φ m σ a w)
    {ops : Array Oper} {i : Nat} {o o2 : Oper} (hi : ops[i]? = some o) (hi2 : ops[i + 1]? = some o2) {T : TypeId} {x lo : Operand} {c : Nat} (hA : isCutA o = some (T, x, lo, c)) (hB : isCutB c o2 = true) (hc : c < σ.nt)
    (hx : opC σ x = true) (hlo : opC σ lo = true) (hok : (aCut P σ.obj T (clearT o2) (opD σ x) (opD σ lo)).ok) {K : Act → World → Prop} {Q : Exit → Act → World → Prop}
    (hK : ∀ a' w' φ' m', Conc G φ' m' (cutS P σ T x lo c o2) a' w' → K a' w') :
    wpOpIn (fen G.rd) 0 P ops Q i (fun a1 w1 => wpOpIn (fen G.rd) 0 P ops Q (i + 1) K a1 w1) a w := by
  unfold isCutA at hA
  split at hA
  case h_2 => cases hA
  rename_i T0 x0 lo0 hop
  split at hA
  case h_2 => cases hA
  rename_i hg hd
  simp only [Option.some.injEq, Prod.mk.injEq] at hA
  obtain ⟨rfl, rfl, rfl, rfl⟩ := hA
  unfold isCutB at hB
  split at hB
  case h_2 => cases hB
  rename_i args ts hop2
  split at hB
  case h_2 => cases hB
  rename_i c' T2 hargs hts hg2 hd2
  have hcc := Nat.eq_of_beq_eq_true hB
  subst hcc
  have hT2 : clearT o2 = T2 := by
    unfold clearT
    rw [hop2]
    simp only
    have : ts = #[T2] := by rw [← Array.toArray_toList (xs := ts), hts]
    rw [this]; rfl
  have hargs' : args = #[.tmp c'] := by rw [← Array.toArray_toList (xs := args), hargs]
  have hts' : ts = #[T2] := by rw [← Array.toArray_toList (xs := ts), hts]
  rw [hT2] at hok
  have hcutS : cutS P σ T0 x0 lo0 c' o2 = { σ with env := upd σ.env c' ⟨true, .any⟩, obj := (aCut P σ.obj T0 T2 (opD σ x0) (opD σ lo0)).obj } := by unfold cutS; rw [hT2]
  rw [hcutS] at hK
  clear hcutS hB hargs hts hT2
  have rx := opD_rep hC hx
  have rl := opD_rep hC hlo
  unfold aCut at hok hK
  split at hok
  case h_2 => exact hok.elim
  rename_i nm k kd ii e sz by_ e2 sz2 by2 hdx hdl hTE hTE2
  split at hok
  case h_2 => exact hok.elim
  rename_i s l zv hnm hzv
  obtain ⟨h1, h2, h3, h4, h5, h6, h7, hpos⟩ := hok
  subst h7
  subst h4
  obtain ⟨n, rfl⟩ : ∃ n : Nat, ii = (n : Int) := ⟨ii.toNat, by omega⟩
  simp only [hdx, hdl, hTE, hTE2, hnm, hzv, Int.toNat_natCast] at hK h3
  obtain ⟨hu, it, hit, his, _⟩ := tElem_spec hTE
  obtain ⟨hu2, _⟩ := tElem_spec hTE2
  obtain ⟨z, hz, hzz⟩ := Option.bind_eq_some_iff.1 hzv
  have hzr : RepV m zv z := asV_rep (ofVal_rep (φ := φ) (obj := σ.obj) (m := m) z) hzz
  rw [hdx] at rx
  rw [hdl] at rl
  cases rl with
  | v _ _ rl =>
  cases hlv : a.eval lo0 with
  | int kd2 n2 =>
    rw [hlv] at rl
    cases rl
    cases rx with
    | msl _ _ _ hh _ =>
    obtain ⟨oo, nn, hnm', hlen, hk, hval⟩ := hh
    rw [hnm] at hnm'; cases hnm'
    simp only [O.len?, Option.some.injEq] at hlen
    subst hlen
    subst h1
    have hv := hval rfl
    rcases hC.objs nm _ hnm with ⟨_, hlnil⟩ | ⟨g0, g1, g2, g3, g4, us, T', f, g5, g6, g7, g8⟩
    · subst hlnil; simp at h3
    have hv' : a.eval x0 = .slice (some ⟨(φ nm).blk, (φ nm).off, none⟩) l.length (φ nm).cap := by rw [hv]; simp only [Loc.slice, g0]; rfl
    have hblk : (φ nm).blk < w.heap.size := (Array.getElem?_eq_some_iff.1 g5).1
    have hsl : (Instr.sliceAt T0 (.slice (some ⟨(φ nm).blk, (φ nm).off, none⟩) l.length (φ nm).cap) (some (.int kd n)) none none).run P w =
        .ok (.slice (some ⟨(φ nm).blk, (φ nm).off + n * s, none⟩) (l.length - n) ((φ nm).cap - n)) w := by
      have hb := run_bounds (P := P) (φ := φ) (obj := σ.obj) (m := m) (lo := some (.v (.int kd n))) (hi := none) (ulo := some (.int kd n)) (uhi := none) (len := l.length) (cap := (φ nm).cap) (n := 0) (i := n) (j := l.length) true (.v _ _ (.int _ _)) trivial rfl rfl (by omega) (by omega) (by omega) g1 w
      rw [sliceAt_slice hu]
      have hne : ¬ ((φ nm).cap = n) := by omega
      simp [Instr.slice, run_underlying hu, hb, sizeOf, typeInfo, hit, his, hne, addr_add]
    have hnd : ∀ cc, o.op ≠ .defer cc := fun cc h => by rw [hop] at h; cases h
    have hnd2 : ∀ cc, o2.op ≠ .defer cc := fun cc h => by rw [hop2] at h; cases h
    have hw1 : Region.wanted o (yielded ops a.tmps) = true := by unfold Region.wanted; rw [hg]
    have hrun : (execOp a.eval o).run P w = .ok (.value (.slice (some ⟨(φ nm).blk, (φ nm).off + n * s, none⟩) (l.length - n) ((φ nm).cap - n))) w := by
      unfold execOp
      rw [hop]
      simp only [hv', Option.map_some, Option.map_none, hlv, Sem.run_bind, hsl, Result.andThen_ok, Sem.run_pure]
    have key : ∀ KK : Act → World → Prop, KK (a.put (some c') (.slice (some ⟨(φ nm).blk, (φ nm).off + n * s, none⟩) (l.length - n) ((φ nm).cap - n))) w → wpOpIn (fen G.rd) 0 P ops Q i KK a w := by
      intro KK hKK
      unfold wpOpIn
      simp only [hi, hw1, if_true]
      refine ⟨fun _ _ => trivial, ?_⟩
      rw [Oper.semAt_eq _ _ _ hnd, hrun]
      rw [← hd] at hKK
      exact hKK
    refine key _ ?_
    have hC1 := hC.put (t := c') (e := ⟨true, .any⟩) (v := .slice (some ⟨(φ nm).blk, (φ nm).off + n * s, none⟩) (l.length - n) ((φ nm).cap - n)) hc (by unfold RepE; simp; exact .any _)
    have hev : (a.put (some c') (.slice (some ⟨(φ nm).blk, (φ nm).off + n * s, none⟩) (l.length - n) ((φ nm).cap - n))).eval (.tmp c') = .slice (some ⟨(φ nm).blk, (φ nm).off + n * s, none⟩) (l.length - n) ((φ nm).cap - n) := by
      have hs : c' < a.tmps.size := by rw [hC.size]; exact hc
      simp [Act.put, Act.eval, Array.getD, hs]
    generalize hga : a.put (some c') (.slice (some ⟨(φ nm).blk, (φ nm).off + n * s, none⟩) (l.length - n) ((φ nm).cap - n)) = a1 at hC1 hev ⊢
    have hcs : n * s ≤ l.length * s := Nat.mul_le_mul_right _ (by omega)
    have hcap : l.length * s ≤ (φ nm).cap * s := Nat.mul_le_mul_right _ g1
    have hzc : (Builtin.zeroCells z.cells (l.length - n)).toList.length = l.length * s - n * s := by
      have hzs : z.cells.size = s := by rw [← hzr.cells]; exact h5
      simp [Builtin.zeroCells, hzs, Nat.sub_mul]
    obtain ⟨us2, k1, k2, k3⟩ := run_storeCells_run P (φ nm).blk ((φ nm).off + n * s) T' f g6 (Builtin.zeroCells z.cells (l.length - n)).toList 0 us w g5 (by rw [hzc]; omega)
      (fun v hv => by
        obtain ⟨k, hk, rfl⟩ := List.getElem_of_mem hv
        rw [hzc, ← Nat.sub_mul] at hk
        have h0 := rep_zeros hzr h5 hpos (l.length - n) k hk
        have hkz : k % s < z.cells.size := by rw [← hzr.cells, h5]; exact Nat.mod_lt _ hpos
        rw [Array.getElem?_eq_getElem hkz] at h0
        have h1 : (Builtin.zeroCells z.cells (l.length - n)).toList[k] = z.cells[k % s] := by
          have := h0
          rw [← Array.getElem?_toList] at this
          exact (List.getElem?_eq_some_iff.1 this).2
        rw [h1]
        have hkv : k % s < zv.cells.length := by rw [h5]; exact Nat.mod_lt _ hpos
        exact oneC_oneCell' ((hzr.cell (k % s) hkv hkz).one (hzr.ones h6 _ (List.getElem_mem _))))
    simp only [Nat.add_zero] at k2
    have hw2 : Region.wanted o2 (yielded ops a1.tmps) = true := by unfold Region.wanted; rw [hg2]
    show wpOpIn (fen G.rd) 0 P ops Q (i + 1) K a1 w
    unfold wpOpIn
    simp only [hi2, hw2, if_true]
    refine ⟨fun _ _ => trivial, ?_⟩
    rw [Oper.semAt_eq _ _ _ hnd2]
    have hrun2 : (execOp a1.eval o2).run P w = .ok (.value (.tuple #[])) (wset w (φ nm).blk (.cells us2 T' f)) := by
      have hne : l.length - n ≠ 0 := by omega
      unfold execOp
      rw [hop2, hargs', hts']
      simp only [resolve, invoke, builtin, Sem.run_bind, Sem.run_pure, Result.andThen_ok, List.map_toArray, List.map_cons, List.map_nil, hev]
      have hu2' : Sem.run P (underlying T2) w = .ok (TypeDesc.slice e2) w := run_underlying hu2 w
      have hcl : (Builtin.clear_ #[T2] o2.type #[.slice (some ⟨(φ nm).blk, (φ nm).off + n * s, none⟩) (l.length - n) ((φ nm).cap - n)]).run P w = .ok (.tuple #[]) (wset w (φ nm).blk (.cells us2 T' f)) := by
        obtain ⟨q, hq⟩ : ∃ q, l.length - n = q + 1 := ⟨l.length - n - 1, by omega⟩
        rw [hq] at k3 ⊢
        simp [Builtin.clear_, hu2', run_zero hz, k3]
      simp only [hcl, Result.andThen_ok]
    rw [hrun2]
    have hlen' : (l.take n ++ List.replicate (l.length - n) zv).length = l.length := by simp; omega
    have hx' := Ext.same (φ := φ) (o' := .arr s (l.take n ++ List.replicate (l.length - n) zv)) hnm (by simp only [O.len?, hlen']) rfl
    have hfinal := hC1.chg (w' := wset w (φ nm).blk (.cells us2 T' f)) nm (.arr s (l.take n ++ List.replicate (l.length - n) zv)) (φ nm) hx' ⟨rfl, rfl, rfl, by simp [wset]⟩
      (fun b hb hn => wset_ne (by rcases hn with h | h; · rw [g0] at h; cases h
                                  · exact h))
      (fun _ => .inr ⟨⟨_, hnm, rfl, g0⟩, rfl⟩) (by
        refine .inr ⟨g0, by rw [hlen']; exact g1, g2, fun q hq => ?_, fun q hq => ?_, us2, T', f, wset_same hblk, g6, by rw [k1]; exact g7, fun q j hq hj => ?_⟩
        · rcases cut_get (by omega) hq with ⟨_, hq', e3⟩ | ⟨_, _, e3⟩ <;> rw [e3]
          · exact g3 q hq'
          · exact h5
        · rcases cut_get (by omega) hq with ⟨_, hq', e3⟩ | ⟨_, _, e3⟩ <;> rw [e3]
          · exact g4 q hq'
          · exact hzr.ones h6
        · rw [k2, hzc]
          rcases cut_get (by omega) hq with ⟨hqn, hq', e3⟩ | ⟨hqn, hq', e3⟩
          · simp only [e3] at hj ⊢
            have hjs : j < s := by rw [← g3 q hq']; exact hj
            have hm := mul_le_of' (K := s) hqn
            rw [if_neg (by omega)]
            exact g8 q j hq' hj
          · simp only [e3] at hj ⊢
            have hjs : j < s := by rw [← h5]; exact hj
            have hm := mul_le_of' (K := s) hq'
            have hm2 : n * s ≤ q * s := Nat.mul_le_mul_right _ hqn
            rw [if_pos (by omega)]
            refine ⟨z.cells[j]'(by rw [← hzr.cells, h5]; exact hjs), ?_, hzr.cell j hj _⟩
            rw [show (φ nm).off + q * s + j - ((φ nm).off + n * s) = (q - n) * s + j by rw [Nat.sub_mul]; omega, Array.getElem?_toList]
            have hlt : (q - n) * s + j < (l.length - n) * s := by rw [Nat.sub_mul, Nat.sub_mul]; omega
            rw [rep_zeros hzr h5 hpos _ _ hlt]
            have : ((q - n) * s + j) % s = j := by rw [Nat.mul_comm, Nat.mul_add_mod, Nat.mod_eq_of_lt hjs]
            rw [this, Array.getElem?_eq_getElem])
    have hfin := hK _ _ _ m hfinal
    show K (a1.put o2.dst (.tuple #[])) _
    rw [hd2]
    exact hfin
  | _ => rw [hlv] at rl; cases rl
theorem regX_sound {P : Program} {Γ : FuncId → Option Spec} (hΓ : ∀ f s, Γ f = some s → SSound P f s) {G : Ghost} {ops : Array Oper} {Q : Exit → Act → World → Prop} {K : S → Prop} {l : List Oper} {σ : S} (hr : RegX P Γ ops l σ K) :
  ∀ (k : Nat) {φ : Name → Loc} {m : Mem} {a : Act} {w : World}, k + l.length = ops.size → ops.toList.drop k = l → Conc G φ m σ a w →
   (∀ a' w' φ' m' σ', Conc G φ' m' σ' a' w' → K σ' → Q .normal a' w') → wpOpsIn (fen G.rd) 0 P ops Q (List.range' k l.length) a w := by
 have hget : ∀ (k : Nat) (o : Oper) (r : List Oper), ops.toList.drop k = o :: r → ops[k]? = some o ∧ ops.toList.drop (k + 1) = r := by
  intro k o r h
  have h0 : (ops.toList.drop k)[0]? = some o := by rw [h]; rfl
  rw [List.getElem?_drop, Nat.add_zero, Array.getElem?_toList] at h0
  refine ⟨h0, ?_⟩
  have h1 : (ops.toList.drop k).drop 1 = r := by rw [h]; rfl
  rw [List.drop_drop] at h1
  exact h1
 induction hr with
 | nil hk => exact fun k φ m a w _ _ hC hQ => hQ _ _ φ m _ hC hk
 | step h1 _ ih =>
  intro k φ m a w hs hd hC hQ
  obtain ⟨hi, hd'⟩ := hget k _ _ hd
  rw [List.length_cons] at hs ⊢
  rw [List.range'_succ, wpOpsIn_cons]
  exact step_sound hΓ hC hi h1 fun a' w' φ' m' hC' => ih (k + 1) (by omega) hd' hC' hQ
 | cut hA hB hc hx hlo hok _ ih =>
  intro k φ m a w hs hd hC hQ
  obtain ⟨hi, hd'⟩ := hget k _ _ hd
  obtain ⟨hi2, hd2⟩ := hget (k + 1) _ _ hd'
  rw [List.length_cons, List.length_cons] at hs ⊢
  rw [List.range'_succ, wpOpsIn_cons, List.range'_succ]
  rename_i o1 o2 r' _ _ _ _ _ _ _
  have := cut_sound (ops := ops) (Q := Q) hC hi hi2 hA hB hc hx hlo hok (K := fun a' w' => wpOpsIn (fen G.rd) 0 P ops Q (List.range' (k + 1 + 1) r'.length) a' w') fun a' w' φ' m' hC' => ih (k + 2) (by omega) hd2 hC' hQ
  have e : wpOpsIn (fen G.rd) 0 P ops Q ((k + 1) :: List.range' (k + 1 + 1) r'.length) = fun a1 w1 => wpOpIn (fen G.rd) 0 P ops Q (k + 1) (fun a' w' => wpOpsIn (fen G.rd) 0 P ops Q (List.range' (k + 1 + 1) r'.length) a' w') a1 w1 := by
   funext a1 w1
   rw [wpOpsIn_cons]
  rw [e]
  exact this
theorem cw_regionX {P : Program} {Γ : FuncId → Option Spec} (hΓ : ∀ f s, Γ f = some s → SSound P f s) {id : Nat} {ops : Array Oper} {σ : S} {K : Exit → S → Prop}
  (h : RegX P Γ ops ops.toList σ (K .normal)) : CW P (.region id ops false) σ K := by
 intro G φ m a w hC
 refine wpIn_region ?_
 rw [List.range_eq_range']
 have := regX_sound hΓ h 0 (Q := fun e a' w' => ∃ φ' m' σ', Conc G φ' m' σ' a' w' ∧ K e σ') (by simp) (by simp) hC fun a' w' φ' m' σ' hC' hK => ⟨φ', m', σ', hC', hK⟩
 simpa using this
def bCut (P : Program) (obj : Name → Option O) (T T2 : TypeId) (x lo : D) : Bool :=
 match x, lo, tElem P T, tElem P T2 with
 | .msl nm k, .v (.int _ i), some (e, sz, _), some (e2, _, _) => match obj nm, (tZero P e).bind fun z => asV (ofVal z) with
  | some (.arr s l), some zv => nEq k l.length && iLe 0 i && nLt i.toNat l.length && nEq s sz && nEq zv.cells.length sz && zv.okc && nEq e2 e && nLt 0 sz
  | _, _ => false
 | _, _, _, _ => false
theorem bCut_ok {P : Program} {obj : Name → Option O} {T T2 : TypeId} {x lo : D} (h : bCut P obj T T2 x lo = true) : (aCut P obj T T2 x lo).ok := by
 unfold bCut at h
 unfold aCut
 split at h
 ·split at h
  ·simp only [Bool.and_eq_true] at h
   obtain ⟨⟨⟨⟨⟨⟨⟨h1, h2⟩, h3⟩, h4⟩, h5⟩, h6⟩, h7⟩, h8⟩ := h
   exact ⟨nEq_ok h1, iLe_ok h2, nLt_ok h3, nEq_ok h4, nEq_ok h5, h6, nEq_ok h7, nLt_ok h8⟩
  ·cases h
 ·cases h
theorem aCut_frame {P : Program} {obj : Name → Option O} {T T2 : TypeId} {x lo : D} {nm : Name} (h : nm ∉ tops x) : (aCut P obj T T2 x lo).obj nm = obj nm := by
 unfold aCut
 split
 ·split
  ·simp only [tops, List.mem_singleton] at h
   exact upd_ne _ _ _ h
  ·rfl
 ·rfl
noncomputable def lookT (l : List (Name × O)) (nm : Name) : Option O :=
 List.rec (motive := fun _ => Option O) none (fun p _ ih => cond (nmEq p.1 nm) (some p.2) ih) l
theorem lookT_nil (nm : Name) : lookT [] nm = none := rfl
theorem lookT_cons (x : Name) (o : O) (r : List (Name × O)) (nm : Name) : lookT ((x, o) :: r) nm = match nmEq x nm with | true => some o | false => lookT r nm := by
 show cond (nmEq x nm) (some o) (lookT r nm) = _
 cases nmEq x nm <;> rfl
noncomputable def setT (l : List (Name × O)) (nm : Name) (o : O) : List (Name × O) :=
 List.rec (motive := fun _ => List (Name × O)) [(nm, o)] (fun p r ih => cond (nmEq p.1 nm) ((p.1, o) :: r) (p :: ih)) l
theorem setT_nil (nm : Name) (o : O) : setT [] nm o = [(nm, o)] := rfl
theorem setT_cons (x : Name) (o' : O) (r : List (Name × O)) (nm : Name) (o : O) : setT ((x, o') :: r) nm o = match nmEq x nm with | true => (x, o) :: r | false => (x, o') :: setT r nm o := by
 show cond (nmEq x nm) ((x, o) :: r) ((x, o') :: setT r nm o) = _
 cases nmEq x nm <;> rfl
def delT : List (Name × O) → Name → List (Name × O)
 | [], _ => []
 | (x, o') :: r, nm => match nmEq x nm with
  | true => delT r nm
  | false => (x, o') :: delT r nm
noncomputable def applyW : List (Name × O) → List Name → (Name → Option O) → List (Name × O)
 | tbl, [], _ => tbl
 | tbl, nm :: r, f => applyW (match f nm with | some o => setT tbl nm o | none => delT tbl nm) r f
noncomputable def lookE (l : List (Nat × E)) (t : Nat) : E :=
 List.rec (motive := fun _ => E) eAny (fun p _ ih => cond (Nat.beq p.1 t) p.2 ih) l
theorem lookE_nil (t : Nat) : lookE [] t = eAny := rfl
theorem lookE_cons (x : Nat) (e : E) (r : List (Nat × E)) (t : Nat) : lookE ((x, e) :: r) t = match Nat.beq x t with | true => e | false => lookE r t := by
 show cond (Nat.beq x t) e (lookE r t) = _
 cases Nat.beq x t <;> rfl
noncomputable def setE' (l : List (Nat × E)) (t : Nat) (e : E) : List (Nat × E) :=
 List.rec (motive := fun _ => List (Nat × E)) [(t, e)] (fun p r ih => cond (Nat.beq p.1 t) ((p.1, e) :: r) (p :: ih)) l
theorem setE'_nil (t : Nat) (e : E) : setE' [] t e = [(t, e)] := rfl
theorem setE'_cons (x : Nat) (e' : E) (r : List (Nat × E)) (t : Nat) (e : E) : setE' ((x, e') :: r) t e = match Nat.beq x t with | true => (x, e) :: r | false => (x, e') :: setE' r t e := by
 show cond (Nat.beq x t) ((x, e) :: r) ((x, e') :: setE' r t e) = _
 cases Nat.beq x t <;> rfl
theorem lookT_setT : ∀ (tbl : List (Name × O)) (nm : Name) (o : O), lookT (setT tbl nm o) = upd (lookT tbl) nm (some o)
  | [], nm, o => by
    funext y
    simp only [setT_nil, lookT_cons, lookT_nil, upd]
    cases h : nmEq nm y with
    | true => rw [if_pos (nmEq_iff.1 h).symm]
    | false => rw [if_neg (by rintro rfl; rw [nmEq_iff.2 rfl] at h; cases h)]
  | (x, o') :: r, nm, o => by
    funext y
    simp only [setT_cons]
    cases h : nmEq x nm with
    | true =>
      have e := nmEq_iff.1 h
      subst e
      simp only [lookT_cons, upd]
      cases h2 : nmEq x y with
      | true => rw [if_pos (nmEq_iff.1 h2).symm]
      | false => rw [if_neg (by rintro rfl; rw [nmEq_iff.2 rfl] at h2; cases h2)]
    | false =>
      simp only [lookT_cons]
      rw [lookT_setT r nm o]
      simp only [upd, lookT_cons]
      cases h2 : nmEq x y with
      | true =>
        have e := nmEq_iff.1 h2
        subst e
        simp only
        rw [if_neg (by rintro rfl; rw [nmEq_iff.2 rfl] at h; cases h)]
      | false => rfl
theorem lookT_delT : ∀ (tbl : List (Name × O)) (nm : Name), lookT (delT tbl nm) = upd (lookT tbl) nm none
  | [], nm => by funext y; simp only [delT, lookT_nil, upd]; split <;> rfl
  | (x, o') :: r, nm => by
    funext y
    simp only [delT]
    cases h : nmEq x nm with
    | true =>
      have e := nmEq_iff.1 h
      subst e
      simp only
      rw [lookT_delT r x]
      simp only [lookT_cons, upd]
      cases h2 : nmEq x y with
      | true => rw [if_pos (nmEq_iff.1 h2).symm, if_pos (nmEq_iff.1 h2).symm]
      | false => rfl
    | false =>
      simp only [lookT_cons]
      rw [lookT_delT r nm]
      simp only [upd, lookT_cons]
      cases h2 : nmEq x y with
      | true =>
        have e := nmEq_iff.1 h2
        subst e
        simp only
        rw [if_neg (by rintro rfl; rw [nmEq_iff.2 rfl] at h; cases h)]
      | false => rfl
theorem lookT_applyW : ∀ (l : List Name) (tbl : List (Name × O)) (f : Name → Option O) (nm : Name), lookT (applyW tbl l f) nm = if nm ∈ l then f nm else lookT tbl nm
 | [], tbl, f, nm => by simp [applyW]
 | x :: r, tbl, f, nm => by
  simp only [applyW]
  rw [lookT_applyW r _ f nm]
  by_cases h : nm ∈ r
  ·rw [if_pos h, if_pos (by simp [h])]
  ·rw [if_neg h]
   by_cases e : nm = x
   ·subst e
    rw [if_pos (by simp)]
    cases hf : f nm with
    | some o => simp only; rw [lookT_setT, upd_same]
    | none => simp only; rw [lookT_delT, upd_same]
   ·rw [if_neg (by simp [e, h])]
    cases hf : f x with
    | some o => simp only; rw [lookT_setT, upd_ne _ _ _ e]
    | none => simp only; rw [lookT_delT, upd_ne _ _ _ e]
theorem lookE_setE : ∀ (l : List (Nat × E)) (t : Nat) (e : E), lookE (setE' l t e) = upd (lookE l) t e
  | [], t, e => by
    funext y
    simp only [setE'_nil, lookE_cons, lookE_nil, upd]
    cases h : Nat.beq t y with
    | true => rw [if_pos (Nat.eq_of_beq_eq_true h).symm]
    | false => rw [if_neg (fun e => by subst e; simp at h)]
  | (x, e') :: r, t, e => by
    funext y
    simp only [setE'_cons]
    cases h : Nat.beq x t with
    | true =>
      have e2 := Nat.eq_of_beq_eq_true h
      subst e2
      simp only [lookE_cons, upd]
      cases h2 : Nat.beq x y with
      | true => rw [if_pos (Nat.eq_of_beq_eq_true h2).symm]
      | false => rw [if_neg (fun e => by subst e; simp at h2)]
    | false =>
      simp only [lookE_cons]
      rw [lookE_setE r t e]
      simp only [upd, lookE_cons]
      cases h2 : Nat.beq x y with
      | true =>
        have e2 := Nat.eq_of_beq_eq_true h2
        subst e2
        simp only
        rw [if_neg (fun e => by subst e; simp at h)]
      | false => rfl
structure St where
 env : List (Nat × E)
 tbl : List (Name × O)
 base : Nat
 dirty : List Name
noncomputable def St.S (nt : Nat) (st : St) : S := ⟨nt, lookE st.env, lookT st.tbl, [0], st.base⟩
structure RunR where
 d : D
 foot : List Name
 wrt : List Name
 tf : List (Name × O) → List (Name × O)
structure SpecB where
 spec : Spec
 run : (Name → Option O) → Name → List D → Option RunR
 ok : ∀ obj t ds r, run obj t ds = some r → (spec.app obj t ds).ok ∧ (spec.app obj t ds).d = r.d ∧ spec.foot obj t ds = r.foot ∧ spec.wrt obj t ds = r.wrt ∧ ∀ tbl, lookT tbl = obj → lookT (r.tf tbl) = (spec.app obj t ds).obj
noncomputable def ofB (Γ : FuncId → Option SpecB) : FuncId → Option Spec := fun f => (Γ f).map (·.spec)
section
variable (P : Program) (Γ : FuncId → Option SpecB)
noncomputable def gOkB (ops : Array Oper) (σ : S) (o : Oper) : Bool :=
 match o.guard with
 | none => true
 | some (j, _) => match gSlot ops j with
  | some s => (match (σ.env s).d with | .v (.bool _) => true | _ => !(σ.env s).c) && decide (s < σ.nt)
  | none => true
noncomputable def dstB (σ : S) (o : Oper) : Bool := match o.dst with | some t => decide (t < σ.nt) | none => true
theorem gOkB_ok {ops : Array Oper} {σ : S} {o : Oper} (h : gOkB ops σ o = true) : gOk ops σ o := by
 unfold gOkB at h
 unfold gOk
 cases hg : o.guard with
 | none => trivial
 | some p =>
  obtain ⟨j, w⟩ := p
  simp only [hg] at h ⊢
  cases hs : gSlot ops j with
  | none => trivial
  | some s =>
   simp only [hs, Bool.and_eq_true, decide_eq_true_eq] at h ⊢
   refine ⟨?_, h.2⟩
   have h1 := h.1
   unfold eTestOk
   split <;> rename_i hd
   ·trivial
   ·split at h1
    ·rename_i hd2; exact (hd _ hd2).elim
    ·simpa using h1
noncomputable def callRun (σ : S) (t : Name) (f : D) (args : List D) : Option RunR :=
 match (clFn f).bind Γ with
 | some s => s.run σ.obj t (clArgs f args)
 | none => none
noncomputable def rQ (b : Bool) (d : D) (F : List Name) : Option RunR := cond b (some ⟨d, F, [], fun tbl => tbl⟩) none
noncomputable def rW (b : Bool) (r : R) (F W : List Name) : Option RunR := cond b (some ⟨r.d, F, W, fun tbl => applyW tbl W r.obj⟩) none
noncomputable def hLoad (σ : S) (T : TypeId) (x : D) := rQ (bLoad P σ.obj T x) (aLoad P σ.obj T x).d (tops x)
noncomputable def hStore (σ : S) (T : TypeId) (x d : D) := rW (bStore P σ.obj T x d) (aStore P σ.obj T x d) (tops x) (tops x)
noncomputable def hBin (σ : S) (op : BinOp) (T : TypeId) (x y : D) (n : Bool) := rQ (bBin' P σ.obj op T x y n) (aBin' P σ.obj op T x y n).d (tops x)
noncomputable def hUn (σ : S) (op : UnOp) (x : D) := rQ (bUn op x) (aUn σ.obj op x).d []
noncomputable def hPick (σ : S) (c x y : D) := rQ (bPick c) (aPick σ.obj c x y).d []
noncomputable def hAlloc (σ : S) (t : Name) (T : TypeId) := rW (bAlloc P σ.obj t T) (aAlloc P σ.obj t T) [nmO t] [nmO t]
noncomputable def hBox (σ : S) (t : Name) (x : D) := rW (bBox σ.obj t x) (aBox σ.obj t x) [nmO t] [nmO t]
noncomputable def hBuild (σ : S) (T : TypeId) (ps : List (Nat × D)) := rQ (bBuild P T ps) (aBuild P σ.obj T ps).d []
noncomputable def hNil (σ : S) (x : D) := rQ (bNilCheck σ.obj x) (aNilCheck σ.obj x).d (tops x)
noncomputable def hConv (σ : S) (a b : TypeId) (x : D) := rQ (bConv P a b x) (aConv P σ.obj a b x).d []
noncomputable def hMakeMap (σ : S) (t : Name) (T : TypeId) (r : Option D) := rW (bMakeMap P σ.obj t T r) (aMakeMap P σ.obj t T r) [nmO t] [nmO t]
noncomputable def hMakeSlice (σ : S) (t : Name) (T : TypeId) (l c : D) := rW (bMakeSlice P σ.obj t T l c) (aMakeSlice P σ.obj t T l c) [nmO t] [nmO t]
noncomputable def hSlice (σ : S) (T : TypeId) (x : D) (lo hi mx : Option D) := rW (bSlice P σ.obj T x lo hi mx) (aSlice P σ.obj T x lo hi mx) (tops x) (muts σ.obj (tops x))
noncomputable def hFieldAddr (σ : S) (T : TypeId) (f : Nat) (x : D) := rQ (bFieldAddr P σ.obj T f x) (aFieldAddr P σ.obj T f x).d (tops x)
noncomputable def hField (σ : S) (T : TypeId) (x : D) (f : Nat) := rQ (bField P T x f) (aField P σ.obj T x f).d []
noncomputable def hIndexAddr (σ : S) (T : TypeId) (x i : D) := rQ (bIndexAddr P σ.obj T x i) (aIndexAddr P σ.obj T x i).d (tops x)
noncomputable def hIndex (σ : S) (T : TypeId) (x i : D) := rQ (bIndex P T x i) (aIndex P σ.obj T x i).d []
noncomputable def hLookup (σ : S) (T : TypeId) (x i : D) (co : Bool) := rQ (bLookup P σ.obj T x i) (aLookup P σ.obj T x i co).d (tops x)
noncomputable def hMapUpdate (σ : S) (T : TypeId) (x k d : D) := rW (bMapUpdate P σ.obj T x k d) (aMapUpdate P σ.obj T x k d) (tops x) (tops x)
noncomputable def hExtract (σ : S) (x : D) (i : Nat) := rQ (bExtract x i) (aExtract σ.obj x i).d []
noncomputable def hGen (σ : S) (t : Name) (op : Op) : Option RunR := rW (opB P σ t op) (aop P (ofB Γ) σ t op) (footO (ofB Γ) σ t op) (wrtO (ofB Γ) σ t op)
noncomputable def hLen (σ : S) (ts : List TypeId) (xs : List D) : Option RunR := match ts, xs with
 | [T], [x] => rQ (bLen P σ.obj T x) (aLen P σ.obj T x).d (tops x)
 | _, _ => none
noncomputable def hBuiltin (σ : S) (t : Name) (b : Builtin) (args : Array Operand) (ts : Array TypeId) (op : Op) : Option RunR := match b with
 | .len => match args.toList with
  | [x] => hLen P σ ts.toList [opD σ x]
  | _ => none
 | _ => hGen P Γ σ t op
noncomputable def plainRun (σ : S) (t : Name) (op : Op) : Option RunR :=
 match op with
 | .move x => rQ true (opD σ x) []
 | .assign x => rQ true (opD σ x) []
 | .load T x => hLoad P σ T (opD σ x)
 | .store T x d => hStore P σ T (opD σ x) (opD σ d)
 | .binOp o T x y _ => hBin P σ o T (opD σ x) (opD σ y) (isNilC y)
 | .unOp o _ x => hUn σ o (opD σ x)
 | .pick c x y => hPick σ (opD σ c) (opD σ x) (opD σ y)
 | .alloc T => hAlloc P σ t T
 | .box _ x => hBox σ t (opD σ x)
 | .build T ps => hBuild P σ T (ps.toList.map fun p => (p.1, opD σ p.2))
 | .nilCheck x => hNil σ (opD σ x)
 | .convert a b x => hConv P σ a b (opD σ x)
 | .makeMap T r => hMakeMap P σ t T (r.map (opD σ))
 | .makeSlice T l c => hMakeSlice P σ t T (opD σ l) (opD σ c)
 | .slice T x lo hi mx => hSlice P σ T (opD σ x) (lo.map (opD σ)) (hi.map (opD σ)) (mx.map (opD σ))
 | .fieldAddr T x f => hFieldAddr P σ T f (opD σ x)
 | .field T x f => hField P σ T (opD σ x) f
 | .indexAddr T x i => hIndexAddr P σ T (opD σ x) (opD σ i)
 | .index T x i => hIndex P σ T (opD σ x) (opD σ i)
 | .lookup T x i co => hLookup P σ T (opD σ x) (opD σ i) co
 | .mapUpdate T x k d => hMapUpdate P σ T (opD σ x) (opD σ k) (opD σ d)
 | .insert T x k d => hMapUpdate P σ T (opD σ x) (opD σ k) (opD σ d)
 | .extract x i => hExtract σ (opD σ x) i
 | .call ⟨.builtin b, args, ts⟩ => hBuiltin P Γ σ t b args ts op
 | op => hGen P Γ σ t op
noncomputable def opRun (σ : S) (t : Name) (op : Op) : Option RunR :=
 match op with
 | .call ⟨.value f, args, _⟩ => callRun Γ σ t (opD σ f) (args.toList.map (opD σ))
 | op => plainRun P Γ σ t op
variable {P Γ}
def RunOk (σ : S) (r : R) (F W : List Name) (x : RunR) : Prop := r.ok ∧ r.d = x.d ∧ F = x.foot ∧ W = x.wrt ∧ ∀ tbl, lookT tbl = σ.obj → lookT (x.tf tbl) = r.obj
theorem rQ_ok {σ : S} {b : Bool} {r : R} {F : List Name} {x : RunR} (h : rQ b r.d F = some x) (hb : b = true → r.ok) (hfr : r.obj = σ.obj) : RunOk σ r F [] x := by
 cases b with
 | false => cases h
 | true =>
  simp only [rQ, cond_true, Option.some.injEq] at h
  subst h
  exact ⟨hb rfl, rfl, rfl, rfl, fun tbl h => h.trans hfr.symm⟩
theorem rW_ok {σ : S} {b : Bool} {r : R} {F W : List Name} {x : RunR} (h : rW b r F W = some x) (hb : b = true → r.ok) (hfr : ∀ nm, nm ∉ W → r.obj nm = σ.obj nm) : RunOk σ r F W x := by
 cases b with
 | false => cases h
 | true =>
  simp only [rW, cond_true, Option.some.injEq] at h
  subst h
  refine ⟨hb rfl, rfl, rfl, rfl, fun tbl htbl => ?_⟩
  funext nm
  show lookT (applyW tbl W r.obj) nm = _
  rw [lookT_applyW]
  split
  ·rfl
  ·rename_i hn; rw [htbl]; exact (hfr nm hn).symm
theorem plainRun_ok (hN : ∀ f s, ofB Γ f = some s → s.Near) {σ : S} {t : Name} {op : Op} {r : RunR} (h : plainRun P Γ σ t op = some r) :
  RunOk σ (aop P (ofB Γ) σ t op) (footO (ofB Γ) σ t op) (wrtO (ofB Γ) σ t op) r := by
 have hfr := (aop_near (P := P) hN (σ := σ) (σ2 := σ) t op (fun _ _ => rfl) (fun _ _ => rfl)).1.frame
 have hq : wrtO (ofB Γ) σ t op = [] → (aop P (ofB Γ) σ t op).obj = σ.obj := fun e => funext fun nm => hfr nm (by rw [e]; simp)
 have gen : ∀ {x : RunR}, hGen P Γ σ t op = some x → RunOk σ (aop P (ofB Γ) σ t op) (footO (ofB Γ) σ t op) (wrtO (ofB Γ) σ t op) x := fun hx => rW_ok hx opB_ok hfr
 cases op with
 | move x => exact rQ_ok (r := aop P (ofB Γ) σ t (.move x)) h (fun _ => trivial) rfl
 | assign x => exact rQ_ok (r := aop P (ofB Γ) σ t (.assign x)) h (fun _ => trivial) rfl
 | load T x => exact rQ_ok (r := aop P (ofB Γ) σ t (.load T x)) h bLoad_ok (hq rfl)
 | store T x d => exact rW_ok (r := aop P (ofB Γ) σ t (.store T x d)) h bStore_ok hfr
 | binOp o T x y z => exact rQ_ok (r := aop P (ofB Γ) σ t (.binOp o T x y z)) h bBin'_ok (hq rfl)
 | unOp o T x => exact rQ_ok (r := aop P (ofB Γ) σ t (.unOp o T x)) h bUn_ok (hq rfl)
 | pick c x y => exact rQ_ok (r := aop P (ofB Γ) σ t (.pick c x y)) h bPick_ok (hq rfl)
 | alloc T => exact rW_ok (r := aop P (ofB Γ) σ t (.alloc T)) h bAlloc_ok hfr
 | box T x => exact rW_ok (r := aop P (ofB Γ) σ t (.box T x)) h bBox_ok hfr
 | build T ps => exact rQ_ok (r := aop P (ofB Γ) σ t (.build T ps)) h bBuild_ok (hq rfl)
 | nilCheck x => exact rQ_ok (r := aop P (ofB Γ) σ t (.nilCheck x)) h bNilCheck_ok (hq rfl)
 | convert a b x => exact rQ_ok (r := aop P (ofB Γ) σ t (.convert a b x)) h bConv_ok (hq rfl)
 | makeMap T r => exact rW_ok (r := aop P (ofB Γ) σ t (.makeMap T r)) h bMakeMap_ok hfr
 | makeSlice T l c => exact rW_ok (r := aop P (ofB Γ) σ t (.makeSlice T l c)) h bMakeSlice_ok hfr
 | slice T x lo hi mx => exact rW_ok (r := aop P (ofB Γ) σ t (.slice T x lo hi mx)) h bSlice_ok hfr
 | fieldAddr T x f => exact rQ_ok (r := aop P (ofB Γ) σ t (.fieldAddr T x f)) h bFieldAddr_ok (hq rfl)
 | field T x f => exact rQ_ok (r := aop P (ofB Γ) σ t (.field T x f)) h bField_ok (hq rfl)
 | indexAddr T x i => exact rQ_ok (r := aop P (ofB Γ) σ t (.indexAddr T x i)) h bIndexAddr_ok (hq rfl)
 | index T x i => exact rQ_ok (r := aop P (ofB Γ) σ t (.index T x i)) h bIndex_ok (hq rfl)
 | lookup T x i co => exact rQ_ok (r := aop P (ofB Γ) σ t (.lookup T x i co)) h bLookup_ok (hq rfl)
 | mapUpdate T x k d => exact rW_ok (r := aop P (ofB Γ) σ t (.mapUpdate T x k d)) h bMapUpdate_ok hfr
 | insert T x k d => exact rW_ok (r := aop P (ofB Γ) σ t (.insert T x k d)) h bMapUpdate_ok hfr
 | extract x i => exact rQ_ok (r := aop P (ofB Γ) σ t (.extract x i)) h bExtract_ok (hq rfl)
 | call c =>
  obtain ⟨callee, args, ts⟩ := c
  cases callee with
  | value f => exact gen h
  | invoke => exact gen h
  | builtin b =>
   have h' : hBuiltin P Γ σ t b args ts (.call ⟨.builtin b, args, ts⟩) = some r := h
   cases b with
   | len =>
    obtain ⟨args⟩ := args
    obtain ⟨ts⟩ := ts
    simp only [hBuiltin] at h'
    rcases args with _ | ⟨x, _ | _⟩
    ·cases h'
    ·simp only [hLen] at h'
     rcases ts with _ | ⟨T, _ | _⟩
     ·cases h'
     ·exact rQ_ok (r := aop P (ofB Γ) σ t (.call ⟨.builtin .len, ⟨[x]⟩, ⟨[T]⟩⟩)) h' bLen_ok (hq rfl)
     ·cases h'
    ·cases h'
   | _ => exact gen h'
 | _ => exact gen h
theorem opRun_ok (hN : ∀ f s, ofB Γ f = some s → s.Near) {σ : S} {t : Name} {op : Op} {r : RunR} (h : opRun P Γ σ t op = some r) :
  RunOk σ (aop P (ofB Γ) σ t op) (footO (ofB Γ) σ t op) (wrtO (ofB Γ) σ t op) r := by
 unfold opRun at h
 split at h
 ·rename_i f args ts
  unfold callRun at h
  split at h
  ·rename_i s hs
   obtain ⟨g, hg, hs'⟩ := Option.bind_eq_some_iff.1 hs
   have e : (clFn (opD σ f)).bind (ofB Γ) = some s.spec := by rw [hg]; simp [ofB, hs']
   simp only [aop, aCall, footO, wrtO, e]
   obtain ⟨q1, q2, q3, q4, q5⟩ := s.ok _ _ _ _ h
   exact ⟨q1, q2, q3, q4, fun tbl ht => q5 tbl ht⟩
  ·cases h
 ·exact plainRun_ok hN h
variable (P Γ)
noncomputable def stepX (ops : Array Oper) (nt : Nat) (st : St) (o : Oper) : Option (St × List Name × List Name) :=
 match gOkB ops (st.S nt) o && dstB (st.S nt) o with
 | false => none
 | true => match gOf ops (st.S nt) o with
  | true => match opConds (st.S nt) o.op with
   | false => none
   | true => match opRun P Γ (st.S nt) ((st.base + o.dst.getD 0) :: [0]) o.op with
    | none => none
    | some r => some (⟨match o.dst with
     | some t => setE' st.env t ⟨true, r.d⟩
     | none => st.env, r.tf st.tbl, st.base, r.wrt.filter isOut ++ st.dirty⟩, r.foot, r.wrt)
  | false => some (⟨match o.dst with
    | some t => setE' st.env t ⟨false, (aop P (ofB Γ) (st.S nt) ((st.base + t) :: [0]) o.op).d⟩
    | none => st.env, st.tbl, st.base, st.dirty⟩, footO (ofB Γ) (st.S nt) ((st.base + o.dst.getD 0) :: [0]) o.op, wrtO (ofB Γ) (st.S nt) ((st.base + o.dst.getD 0) :: [0]) o.op)
variable {P Γ}
def Inv (os : List O) (st : St) : Prop := ∀ i, [i, 1] ∉ st.dirty → lookT st.tbl [i, 1] = outH os [i, 1]
theorem stepX_ok (hN : ∀ f s, ofB Γ f = some s → s.Near) {ops : Array Oper} {nt : Nat} {st st' : St} {o : Oper} {F W : List Name} (h : stepX P Γ ops nt st o = some (st', F, W)) {os : List O} (hI : Inv os st) :
  oblS P (ofB Γ) ops (st.S nt) o ∧ st'.S nt = stepS P (ofB Γ) ops (st.S nt) o ∧ Inv os st' ∧ footO (ofB Γ) (st.S nt) ((st.base + o.dst.getD 0) :: [0]) o.op = F ∧ wrtO (ofB Γ) (st.S nt) ((st.base + o.dst.getD 0) :: [0]) o.op = W := by
 unfold stepX at h
 cases hob : gOkB ops (st.S nt) o && dstB (st.S nt) o with
 | false => simp [hob] at h
 | true =>
 simp only [hob] at h
 simp only [Bool.and_eq_true] at hob
 have hdst : (match o.dst with | some t => t < (st.S nt).nt | none => True) := by
  have := hob.2
  unfold dstB at this
  split at this <;> simp_all
 cases hg : gOf ops (st.S nt) o with
 | true =>
  simp only [hg] at h
  cases hcd : opConds (st.S nt) o.op with
  | false => simp [hcd] at h
  | true =>
  simp only [hcd] at h
  cases hr : opRun P Γ (st.S nt) ((st.base + o.dst.getD 0) :: [0]) o.op with
  | none => simp [hr] at h
  | some r =>
  simp only [hr, Option.some.injEq, Prod.mk.injEq] at h
  obtain ⟨rfl, rfl, rfl⟩ := h
  obtain ⟨k1, k2, k3, k4, k5⟩ := opRun_ok hN hr
  refine ⟨⟨gOkB_ok hob.1, hdst, fun _ => ⟨hcd, k1⟩⟩, ?_, fun i hi => ?_, k3, k4⟩
  ·unfold stepS St.S
   simp only
   have hg' : gOf ops { nt := nt, env := lookE st.env, obj := lookT st.tbl, pre := [0], base := st.base } o = true := hg
   congr 1
   ·cases hd : o.dst with
    | none => rfl
    | some t =>
     simp only [lookE_setE]
     congr 1
     rw [hd] at k2
     show E.mk true _ = E.mk (gOf ops (st.S nt) o) _
     rw [hg]
     exact congrArg _ k2.symm
   ·rw [if_pos hg']
    exact k5 st.tbl rfl
  ·simp only [List.mem_append, List.mem_filter, not_or, not_and] at hi
   have h1 : [i, 1] ∉ wrtO (ofB Γ) (st.S nt) ((st.base + o.dst.getD 0) :: [0]) o.op := fun hm => hi.1 (k4 ▸ hm) rfl
   have hfr := (aop_near (P := P) hN (σ := st.S nt) (σ2 := st.S nt) ((st.base + o.dst.getD 0) :: [0]) o.op (fun _ _ => rfl) (fun _ _ => rfl)).1.frame _ h1
   show lookT (r.tf st.tbl) [i, 1] = _
   rw [k5 st.tbl rfl, hfr]
   exact hI i hi.2
 | false =>
  simp only [hg, Option.some.injEq, Prod.mk.injEq] at h
  obtain ⟨rfl, rfl, rfl⟩ := h
  refine ⟨⟨gOkB_ok hob.1, hdst, fun h => by rw [hg] at h; cases h⟩, ?_, hI, rfl, rfl⟩
  unfold stepS St.S
  simp only
  have hg' : gOf ops { nt := nt, env := lookE st.env, obj := lookT st.tbl, pre := [0], base := st.base } o = false := hg
  congr 1
  ·cases hd : o.dst with
   | none => rfl
   | some t =>
    simp only [lookE_setE]
    congr 1
    show E.mk false _ = E.mk (gOf ops _ o) _
    rw [hg']
  ·rw [if_neg (by rw [hg']; simp)]
variable (P Γ)
noncomputable def evOps (ops : Array Oper) (nt : Nat) : List Oper → St → Option St
 | [], st => some st
 | o :: r, st => match stepX P Γ ops nt st o with
  | some (st', _, _) => evOps ops nt r st'
  | none => none
noncomputable def evOpsD (ops : Array Oper) (nt : Nat) : Nat → List (List Nat) → List Oper → List Pend → St → Option St
 | _, _, [], L, st => match pairsOk L with
  | true => some st
  | false => none
 | i, az, o :: r, L, st => match stepX P Γ ops nt st o with
  | some (st', F, W) => evOpsD ops nt (i + 1) az.tail r (⟨az.headD [], i, F, W⟩ :: L) st'
  | none => none
noncomputable def cutX (nt : Nat) (st : St) (T : TypeId) (x lo : Operand) (c : Nat) (o2 : Oper) : Option St :=
 match Nat.ble (c + 1) nt && opC (st.S nt) x && opC (st.S nt) lo && bCut P (lookT st.tbl) T (clearT o2) (opD (st.S nt) x) (opD (st.S nt) lo) with
 | true => some ⟨setE' st.env c ⟨true, .any⟩, applyW st.tbl (tops (opD (st.S nt) x)) (aCut P (lookT st.tbl) T (clearT o2) (opD (st.S nt) x) (opD (st.S nt) lo)).obj, st.base, (tops (opD (st.S nt) x)).filter isOut ++ st.dirty⟩
 | false => none
noncomputable def evOpsX (ops : Array Oper) (nt : Nat) : Nat → List Oper → St → Option St
 | 0, _, _ => none
 | _ + 1, [], st => some st
 | n + 1, o :: r, st =>
  match isCutA o, r with
  | some (T, x, lo, c), o2 :: r2 => match isCutB c o2 with
   | true => match cutX P nt st T x lo c o2 with
    | some st' => evOpsX ops nt n r2 st'
    | none => none
   | false => match stepX P Γ ops nt st o with
    | some (st', _, _) => evOpsX ops nt n r st'
    | none => none
  | _, _ => match stepX P Γ ops nt st o with
   | some (st', _, _) => evOpsX ops nt n r st'
   | none => none
noncomputable def cleanE (keep : List Nat) (l : List (Nat × E)) : List (Nat × E) :=
 List.rec (motive := fun _ => List (Nat × E)) [] (fun p _ ih => cond (memI keep p.1) ((p.1, cond p.2.c p.2 ⟨false, .any⟩) :: ih) ih) l
noncomputable def St.next (nt : Nat) (keep : List Nat) (st : St) : St := ⟨cleanE keep st.env, st.tbl, st.base + nt, st.dirty⟩
variable {P Γ}
theorem evOps_ok (hN : ∀ f s, ofB Γ f = some s → s.Near) {ops : Array Oper} {nt : Nat} {os : List O} {K : S → Prop} : ∀ (l : List Oper) {st st' : St}, evOps P Γ ops nt l st = some st' → Inv os st → K (st'.S nt) → Reg P (ofB Γ) ops l (st.S nt) K ∧ Inv os st'
 | [], st, st', h, hI, hK => by
  simp only [evOps, Option.some.injEq] at h
  subst h
  exact ⟨hK, hI⟩
 | o :: r, st, st', h, hI, hK => by
  simp only [evOps] at h
  rcases hs : stepX P Γ ops nt st o with _ | ⟨st1, F, W⟩
  ·simp [hs] at h
  ·simp only [hs] at h
   obtain ⟨h1, h2, h3, _, _⟩ := stepX_ok hN hs hI
   obtain ⟨h4, h5⟩ := evOps_ok hN r h h3 hK
   exact ⟨⟨h1, by rw [← h2]; exact h4⟩, h5⟩
theorem cutX_ok {nt : Nat} {st st' : St} {T : TypeId} {x lo : Operand} {c : Nat} {o2 : Oper} (h : cutX P nt st T x lo c o2 = some st') {os : List O} (hI : Inv os st) :
  c < (st.S nt).nt ∧ opC (st.S nt) x = true ∧ opC (st.S nt) lo = true ∧ (aCut P (st.S nt).obj T (clearT o2) (opD (st.S nt) x) (opD (st.S nt) lo)).ok ∧ st'.S nt = cutS P (st.S nt) T x lo c o2 ∧ Inv os st' := by
 unfold cutX at h
 split at h
 ·rename_i hb
  simp only [Bool.and_eq_true] at hb
  simp only [Option.some.injEq] at h
  subst h
  refine ⟨Nat.le_of_ble_eq_true hb.1.1.1, hb.1.1.2, hb.1.2, bCut_ok hb.2, ?_, fun i hi => ?_⟩
  ·unfold St.S cutS
   simp only [lookE_setE]
   congr 1
   funext nm
   rw [lookT_applyW]
   split
   ·rfl
   ·rename_i hn
    exact (aCut_frame hn).symm
  ·simp only [List.mem_append, List.mem_filter, not_or, not_and] at hi
   show lookT (applyW _ _ _) [i, 1] = _
   rw [lookT_applyW, if_neg (fun hm => hi.1 hm rfl)]
   exact hI i hi.2
 ·cases h
theorem evOpsX_ok (hN : ∀ f s, ofB Γ f = some s → s.Near) {ops : Array Oper} {nt : Nat} {os : List O} {K : S → Prop} : ∀ (n : Nat) (l : List Oper) {st st' : St}, evOpsX P Γ ops nt n l st = some st' → Inv os st → K (st'.S nt) → RegX P (ofB Γ) ops l (st.S nt) K ∧ Inv os st'
 | 0, l, st, st', h, hI, hK => by simp [evOpsX] at h
 | n + 1, [], st, st', h, hI, hK => by
  simp only [evOpsX, Option.some.injEq] at h
  subst h
  exact ⟨.nil hK, hI⟩
 | n + 1, o :: r, st, st', h, hI, hK => by
  have reg : (match stepX P Γ ops nt st o with | some (st', _, _) => evOpsX P Γ ops nt n r st' | none => none) = some st' → RegX P (ofB Γ) ops (o :: r) (st.S nt) K ∧ Inv os st' := by
   intro h
   rcases hs : stepX P Γ ops nt st o with _ | ⟨st1, F, W⟩
   ·simp [hs] at h
   ·simp only [hs] at h
    obtain ⟨h1, h2, h3, _, _⟩ := stepX_ok hN hs hI
    obtain ⟨h4, h5⟩ := evOpsX_ok hN n r h h3 hK
    exact ⟨.step h1 (by rw [← h2]; exact h4), h5⟩
  unfold evOpsX at h
  split at h
  ·rename_i T x lo c o2 r2 hA
   split at h
   ·rename_i hB
    split at h
    ·rename_i st1 hs
     obtain ⟨k1, k2, k3, k4, k5, k6⟩ := cutX_ok hs hI
     obtain ⟨h4, h5⟩ := evOpsX_ok hN n r2 h k6 hK
     exact ⟨.cut hA hB k1 k2 k3 k4 (by rw [← k5]; exact h4), h5⟩
    ·cases h
   ·exact reg h
  ·exact reg h
theorem evOpsD_ok (hN : ∀ f s, ofB Γ f = some s → s.Near) {ops : Array Oper} {nt : Nat} {os : List O} {K : S → Prop} : ∀ (l : List Oper) {i : Nat} {az : List (List Nat)} {L : List Pend} {st st' : St}, evOpsD P Γ ops nt i az l L st = some st' → Inv os st → K (st'.S nt) →
  RegE P (ofB Γ) ops i az l L (st.S nt) K ∧ Inv os st'
 | [], i, az, L, st, st', h, hI, hK => by
  simp only [evOpsD] at h
  cases hp : pairsOk L with
  | false => simp [hp] at h
  | true =>
   simp only [hp, Option.some.injEq] at h
   subst h
   exact ⟨⟨hp, hK⟩, hI⟩
 | o :: r, i, az, L, st, st', h, hI, hK => by
  simp only [evOpsD] at h
  rcases hs : stepX P Γ ops nt st o with _ | ⟨st1, F, W⟩
  ·simp [hs] at h
  ·simp only [hs] at h
   obtain ⟨h1, h2, h3, h6, h7⟩ := stepX_ok hN hs hI
   obtain ⟨h4, h5⟩ := evOpsD_ok hN r h h3 hK
   refine ⟨⟨h1, ?_⟩, h5⟩
   rw [← h2]
   have e1 : footO (ofB Γ) (st.S nt) (((st.S nt).base + o.dst.getD 0) :: (st.S nt).pre) o.op = F := h6
   have e2 : wrtO (ofB Γ) (st.S nt) (((st.S nt).base + o.dst.getD 0) :: (st.S nt).pre) o.op = W := h7
   rw [e1, e2]
   exact h4
theorem cleanE_look (keep : List Nat) : ∀ (l : List (Nat × E)) (t : Nat), lookE (cleanE keep l) t = eAny ∨ lookE (cleanE keep l) t = cond (lookE l t).c (lookE l t) ⟨false, .any⟩
  | [], t => .inl rfl
  | (x, e) :: r, t => by
    have h0 : cleanE keep ((x, e) :: r) = cond (memI keep x) ((x, cond e.c e ⟨false, .any⟩) :: cleanE keep r) (cleanE keep r) := rfl
    rw [h0]
    have ih := cleanE_look keep r t
    simp only [lookE_cons]
    cases hk : memI keep x with
    | true =>
      simp only [cond_true, lookE_cons]
      cases h : Nat.beq x t with
      | true => exact .inr rfl
      | false => exact ih
    | false =>
      simp only [cond_false]
      cases h : Nat.beq x t with
      | true =>
        have e1 := Nat.eq_of_beq_eq_true h
        subst e1
        left
        have key : ∀ l : List (Nat × E), lookE (cleanE keep l) x = eAny := by
          intro l
          induction l with
          | nil => rfl
          | cons p r ih =>
            have h1 : cleanE keep (p :: r) = cond (memI keep p.1) ((p.1, cond p.2.c p.2 ⟨false, .any⟩) :: cleanE keep r) (cleanE keep r) := rfl
            rw [h1]
            cases hp : memI keep p.1 with
            | false => exact ih
            | true =>
              simp only [cond_true, lookE_cons]
              cases hb : Nat.beq p.1 x with
              | true => rw [Nat.eq_of_beq_eq_true hb, hk] at hp; cases hp
              | false => exact ih
        exact key r
      | false => exact ih
theorem next_weak (nt : Nat) (keep : List Nat) (st : St) : Weak (st.S nt) ((st.next nt keep).S nt) := by
 intro G φ m a w hC
 refine ⟨φ, { hC with tmps := fun t => ?_ }⟩
 have := hC.tmps t
 show RepE φ _ m (lookE (cleanE keep st.env) t) _
 rcases cleanE_look keep st.env t with h | h
 ·rw [h]; unfold RepE eAny; simp; exact .any _
 rw [h]
 have h2 : RepE φ (lookT st.tbl) m (lookE st.env t) (a.tmps.getD t undef) := this
 cases hc : (lookE st.env t).c with
 | true => exact h2
 | false =>
  unfold RepE at h2 ⊢
  rw [hc] at h2
  simpa using h2
def slotsO : Oper → List Nat := fun o => o.op.operands.toList.filterMap fun x => match x with | .tmp t => some t | _ => none
def expo : List Nat → List Oper → List Nat
 | _, [] => []
 | defs, o :: r => ((slotsO o).filter fun t => !memI defs t) ++ expo (match o.dst with | some t => t :: defs | none => defs) r
def opdS : Operand → List Nat
 | .tmp t => [t]
 | _ => []
def keeps : Code → List Nat
 | .seq x y => keeps x ++ keeps y
 | .cond g x y => opdS g ++ keeps x ++ keeps y
 | .block _ b => keeps b
 | .loop b => keeps b
 | .scope b => keeps b
 | .region _ ops _ => expo [] ops.toList
 | .rangeFunc g _ a b => opdS g ++ keeps a ++ keeps b
 | _ => []
def dedupI : List Nat → List Nat
 | [] => []
 | x :: r => cond (memI r x) (dedupI r) (x :: dedupI r)
def keepOf (rs : List ResultVar) (c : Code) : List Nat := dedupI (keeps c ++ rs.map fun r => match r with | .tmp t => t | .cell a _ => a)
def ancs : List (List Nat) → List Oper → List (List Nat)
 | acc, [] => acc
 | acc, o :: r => ancs (acc ++ [o.after.toList.foldl (fun l e => match Region.binds .any e with
   | true => if l.contains e.on then l else (acc.getD e.on []).foldl (fun l x => if l.contains x then l else x :: l) (e.on :: l)
   | false => l) []]) r
inductive Ex where
 | normal
 | ret
 | exit (id : Nat)
def Ex.to : Ex → Exit
 | .normal => .normal
 | .ret => .ret
 | .exit id => .exit id
variable (P Γ)
noncomputable def recOf (nt : Nat) (st : St) (ps : Array Tmp) (asg body : Code) : O := .loop ((List.range nt).map (lookE st.env)) ps.toList asg body .ready none
noncomputable def rangeEnd (st : St) (r : RunR) (tbl : List (Name × O)) : Option (Ex × St) :=
 match lookT tbl [st.base, 0] with
 | some (.loop env' ps' a' b' st' pend) =>
  match st' with
  | .busy => none
  | _ => match pend with
   | none => some (.normal, ⟨st.env, setT tbl [st.base, 0] (.loop env' ps' a' b' .exhausted none), st.base + 2, r.wrt.filter isOut ++ st.dirty⟩)
   | some .ret => some (.ret, ⟨st.env, setT tbl [st.base, 0] (.loop env' ps' a' b' .exhausted (some .ret)), st.base + 2, r.wrt.filter isOut ++ st.dirty⟩)
   | some (.exit id) => some (.exit id, ⟨st.env, setT tbl [st.base, 0] (.loop env' ps' a' b' .exhausted (some (.exit id))), st.base + 2, r.wrt.filter isOut ++ st.dirty⟩)
   | _ => none
 | _ => none
noncomputable def evReg (nt : Nat) (keep : List Nat) (ops : Array Oper) (st : St) : Option (Ex × St) := match evOps P Γ ops nt ops.toList st with
 | some st1 => some (.normal, st1.next nt keep)
 | none => match evOpsX P Γ ops nt (ops.size + 1) ops.toList st with
  | some st1 => some (.normal, st1.next nt keep)
  | none => none
noncomputable def evRegD (nt : Nat) (keep : List Nat) (ops : Array Oper) (st : St) : Option (Ex × St) := match P.follows .mixedOrders && statOk ops (ancs [] ops.toList) with
 | true => match evOpsD P Γ ops nt 0 (ancs [] ops.toList) ops.toList [] st with
  | some st1 => some (.normal, st1.next nt keep)
  | none => none
 | false => none
noncomputable def evRange (nt : Nat) (g : Operand) (ps : Array Tmp) (a b : Code) (st : St) : Option (Ex × St) := match clFn (opD (st.S nt) g) with
 | some f => match Γ f with
  | some s =>
   match opC (st.S nt) g && !(Nat.beq f yid) && (lookT st.tbl [st.base, 0]).isNone with
   | true => match s.run (lookT (setT st.tbl [st.base, 0] (recOf nt st ps a b))) [st.base + 1, 0] (clArgs (opD (st.S nt) g) [.yld [st.base, 0]]) with
    | some r => rangeEnd st r (r.tf (setT st.tbl [st.base, 0] (recOf nt st ps a b)))
    | none => none
   | false => none
  | none => none
 | none => none
noncomputable def evCond (nt : Nat) (rec : Code → St → Option (Ex × St)) (g : Operand) (x y : Code) (st : St) : Option (Ex × St) := match opC (st.S nt) g, opD (st.S nt) g with
 | true, .v (.bool b) => cond b (rec x st) (rec y st)
 | _, _ => none
noncomputable def evSeq (rec : Code → St → Option (Ex × St)) (x y : Code) (st : St) : Option (Ex × St) := match rec x st with
 | some (.normal, st1) => rec y st1
 | r => r
noncomputable def evBlock (rec : Code → St → Option (Ex × St)) (id : Nat) (b : Code) (st : St) : Option (Ex × St) := match rec b st with
 | some (.exit id', st1) => cond (Nat.beq id' id) (some (.normal, st1)) (some (.exit id', st1))
 | r => r
noncomputable def evStep (nt : Nat) (keep : List Nat) (rec : Code → St → Option (Ex × St)) (c : Code) (st : St) : Option (Ex × St) :=
 match c with
 | .skip => some (.normal, st)
 | .label _ => some (.normal, st)
 | .scope b => rec b st
 | .seq x y => evSeq rec x y st
 | .cond g x y => evCond nt rec g x y st
 | .block id b => evBlock rec id b st
 | .loop b => evSeq rec b (.loop b) st
 | .exit id => some (.exit id, st)
 | .ret => some (.ret, st)
 | .region _ ops draw => cond draw (evRegD P Γ nt keep ops st) (evReg P Γ nt keep ops st)
 | .rangeFunc g ps a b => evRange Γ nt g ps a b st
 | _ => none
noncomputable def evC (nt : Nat) (keep : List Nat) (n : Nat) : Code → St → Option (Ex × St) :=
 Nat.rec (motive := fun _ => Code → St → Option (Ex × St)) (fun _ _ => none) (fun _ rec => evStep P Γ nt keep rec) n
theorem evC_zero (nt : Nat) (keep : List Nat) (c : Code) (st : St) : evC P Γ nt keep 0 c st = none := rfl
theorem evC_succ (nt : Nat) (keep : List Nat) (n : Nat) (c : Code) (st : St) : evC P Γ nt keep (n + 1) c st = evStep P Γ nt keep (evC P Γ nt keep n) c st := rfl
end
theorem weak_base (σ : S) (b : Nat) : Weak σ { σ with base := b } := fun _ φ _ _ _ hC =>
 ⟨φ, ⟨hC.tmps, hC.size, hC.defers, hC.objs, hC.mem, hC.apart, hC.inj, hC.own, hC.fr, hC.fresh, hC.kept⟩⟩
theorem Weak.refl' (σ : S) : Weak σ σ := fun _ φ _ _ _ hC => ⟨φ, hC⟩
theorem CW.weakK {P : Program} {c : Code} {σ : S} {K : Exit → S → Prop} (h : CW P c σ (fun e σ' => ∃ σ'', Weak σ' σ'' ∧ K e σ'')) : CW P c σ K := by
 intro G φ m a w hC
 refine wpIn_mono (h G φ m a w hC) ?_
 rintro e a' w' ⟨φ', m', σ', h1, σ'', h2, h3⟩
 obtain ⟨φ'', h4⟩ := h2 G φ' m' a' w' h1
 exact ⟨φ'', m', σ'', h4, h3⟩
def At (nt : Nat) (ex : Ex) (st : St) : Exit → S → Prop := fun e σ => e = ex.to ∧ Weak σ (st.S nt)
section
variable {P : Program} {Γ : FuncId → Option SpecB}
theorem near_of (hΓ : ∀ f s, ofB Γ f = some s → SSound P f s) : ∀ f s, ofB Γ f = some s → s.Near := fun f s h => (hΓ f s h).near
theorem evC_ok (hΓ : ∀ f s, ofB Γ f = some s → SSound P f s) {nt : Nat} {keep : List Nat} {os : List O} : ∀ (n : Nat) (c : Code) {st st' : St} {ex : Ex}, evC P Γ nt keep n c st = some (ex, st') → Inv os st →
  CW P c (st.S nt) (At nt ex st') ∧ Inv os st'
 | 0, c, st, st', ex, h, hI => by simp [evC_zero] at h
 | n + 1, c, st, st', ex, h, hI => by
  have hN := near_of hΓ
  rw [evC_succ] at h
  cases c with
  | skip =>
   simp only [evStep, Option.some.injEq, Prod.mk.injEq] at h
   obtain ⟨rfl, rfl⟩ := h
   exact ⟨cw_skip ⟨rfl, .refl' _⟩, hI⟩
  | exit id =>
   simp only [evStep, Option.some.injEq, Prod.mk.injEq] at h
   obtain ⟨rfl, rfl⟩ := h
   exact ⟨cw_exit ⟨rfl, .refl' _⟩, hI⟩
  | ret =>
   simp only [evStep, Option.some.injEq, Prod.mk.injEq] at h
   obtain ⟨rfl, rfl⟩ := h
   exact ⟨cw_ret ⟨rfl, .refl' _⟩, hI⟩
  | seq x y =>
   simp only [evStep, evSeq] at h
   rcases h1 : evC P Γ nt keep n x st with _ | ⟨ex1, st1⟩
   ·simp [h1] at h
   ·rw [h1] at h
    obtain ⟨k1, k2⟩ := evC_ok hΓ n x h1 hI
    cases ex1 with
    | normal =>
     simp only at h
     obtain ⟨k3, k4⟩ := evC_ok hΓ n y h k2
     refine ⟨cw_seq (CW.mono k1 ?_), k4⟩
     rintro e σ' ⟨rfl, hw⟩
     exact cw_weak hw k3
    | ret =>
     simp only [Option.some.injEq, Prod.mk.injEq] at h
     obtain ⟨rfl, rfl⟩ := h
     refine ⟨cw_seq (CW.mono k1 ?_), k2⟩
     rintro e σ' ⟨rfl, hw⟩
     exact ⟨rfl, hw⟩
    | exit id =>
     simp only [Option.some.injEq, Prod.mk.injEq] at h
     obtain ⟨rfl, rfl⟩ := h
     refine ⟨cw_seq (CW.mono k1 ?_), k2⟩
     rintro e σ' ⟨rfl, hw⟩
     exact ⟨rfl, hw⟩
  | cond g x y =>
   simp only [evStep, evCond] at h
   split at h
   ·rename_i b hc hd
    cases b with
    | true =>
     obtain ⟨k1, k2⟩ := evC_ok hΓ n x h hI
     exact ⟨cw_cond hc hd (fun _ => k1) (fun h => by cases h), k2⟩
    | false =>
     obtain ⟨k1, k2⟩ := evC_ok hΓ n y h hI
     exact ⟨cw_cond hc hd (fun h => by cases h) (fun _ => k1), k2⟩
   ·cases h
  | block id b =>
   simp only [evStep, evBlock] at h
   rcases h1 : evC P Γ nt keep n b st with _ | ⟨ex1, st1⟩
   ·simp [h1] at h
   ·rw [h1] at h
    obtain ⟨k1, k2⟩ := evC_ok hΓ n b h1 hI
    cases ex1 with
    | normal =>
     simp only [Option.some.injEq, Prod.mk.injEq] at h
     obtain ⟨rfl, rfl⟩ := h
     refine ⟨cw_block (CW.mono k1 ?_), k2⟩
     rintro e σ' ⟨rfl, hw⟩
     exact ⟨rfl, hw⟩
    | ret =>
     simp only [Option.some.injEq, Prod.mk.injEq] at h
     obtain ⟨rfl, rfl⟩ := h
     refine ⟨cw_block (CW.mono k1 ?_), k2⟩
     rintro e σ' ⟨rfl, hw⟩
     exact ⟨rfl, hw⟩
    | exit id' =>
     simp only at h
     by_cases hid : id' = id
     ·rw [show Nat.beq id' id = true by subst hid; simp] at h
      simp only [cond_true, Option.some.injEq, Prod.mk.injEq] at h
      obtain ⟨rfl, rfl⟩ := h
      refine ⟨cw_block (CW.mono k1 ?_), k2⟩
      rintro e σ' ⟨rfl, hw⟩
      show blockK id _ (.exit id') σ'
      simp only [blockK, if_pos hid]
      exact ⟨rfl, hw⟩
     ·rw [show Nat.beq id' id = false by cases hb : Nat.beq id' id with | false => rfl | true => exact (hid (Nat.eq_of_beq_eq_true hb)).elim] at h
      simp only [cond_false, Option.some.injEq, Prod.mk.injEq] at h
      obtain ⟨rfl, rfl⟩ := h
      refine ⟨cw_block (CW.mono k1 ?_), k2⟩
      rintro e σ' ⟨rfl, hw⟩
      show blockK id _ (.exit id') σ'
      simp only [blockK, if_neg hid]
      exact ⟨rfl, hw⟩
  | loop b =>
   have key : ∀ (j : Nat), j ≤ n + 1 → ∀ (s0 : St), evC P Γ nt keep j (.loop b) s0 = some (ex, st') → Inv os s0 → Inv os st' := by
    intro j
    induction j with
    | zero => intro _ s0 h; simp [evC_zero] at h
    | succ j ih =>
     intro hj s0 h hI0
     rw [evC_succ] at h
     simp only [evStep, evSeq] at h
     rcases h1 : evC P Γ nt keep j b s0 with _ | ⟨ex1, st1⟩
     ·simp [h1] at h
     ·rw [h1] at h
      obtain ⟨_, k2⟩ := evC_ok hΓ j b h1 hI0
      cases ex1 with
      | normal => exact ih (by omega) st1 h k2
      | ret => simp only [Option.some.injEq, Prod.mk.injEq] at h; obtain ⟨_, rfl⟩ := h; exact k2
      | exit id => simp only [Option.some.injEq, Prod.mk.injEq] at h; obtain ⟨_, rfl⟩ := h; exact k2
   refine ⟨cw_loop (ι := Nat × St) (fun i => i.2.S nt) (fun i => i.1 ≤ n + 1 ∧ evC P Γ nt keep i.1 (.loop b) i.2 = some (ex, st') ∧ Inv os i.2) (fun i => i.1) (n + 1, st) ⟨Nat.le_refl _, h, hI⟩ (.refl' _) ?_, key (n + 1) (Nat.le_refl _) st h hI⟩
   rintro ⟨j, s0⟩ ⟨hj, h2, hI0⟩
   cases j with
   | zero => simp [evC_zero] at h2
   | succ j =>
    rw [evC_succ] at h2
    simp only [evStep, evSeq] at h2
    rcases h1 : evC P Γ nt keep j b s0 with _ | ⟨ex1, st1⟩
    ·simp [h1] at h2
    ·rw [h1] at h2
     have hj' : j ≤ n := by simpa using hj
     obtain ⟨k1, k2⟩ := evC_ok hΓ j b h1 hI0
     refine CW.mono k1 ?_
     rintro e σ' ⟨rfl, hw⟩
     cases ex1 with
     | normal => exact ⟨(j, st1), ⟨by simp; omega, h2, k2⟩, Nat.lt_succ_self j, hw⟩
     | ret => simp only [Option.some.injEq, Prod.mk.injEq] at h2; obtain ⟨rfl, rfl⟩ := h2; exact ⟨rfl, hw⟩
     | exit id => simp only [Option.some.injEq, Prod.mk.injEq] at h2; obtain ⟨rfl, rfl⟩ := h2; exact ⟨rfl, hw⟩
  | region id ops draw =>
   cases draw with
   | false =>
    simp only [evStep, cond_false, evReg] at h
    rcases h1 : evOps P Γ ops nt ops.toList st with _ | st1
    ·simp only [h1] at h
     rcases h2 : evOpsX P Γ ops nt (ops.size + 1) ops.toList st with _ | st1
     ·simp [h2] at h
     ·simp only [h2, Option.some.injEq, Prod.mk.injEq] at h
      obtain ⟨rfl, rfl⟩ := h
      have hk := evOpsX_ok hN (ops.size + 1) ops.toList (K := At nt .normal (st1.next nt keep) .normal) h2 hI ⟨rfl, next_weak nt keep st1⟩
      exact ⟨cw_regionX hΓ hk.1, hk.2⟩
    ·simp only [h1, Option.some.injEq, Prod.mk.injEq] at h
     obtain ⟨rfl, rfl⟩ := h
     have hI' := (evOps_ok hN ops.toList (K := fun _ => True) h1 hI trivial).2
     refine ⟨?_, hI'⟩
     have := cw_region (id := id) (l := ops.toList) (σ := st.S nt) (K := At nt .normal (st1.next nt keep)) hΓ fun K' hK' => by
      have := (evOps_ok hN ops.toList (K := K') h1 hI (hK' _ ⟨rfl, next_weak nt keep st1⟩)).1
      simpa using this
     simpa using this
   | true =>
    simp only [evStep, cond_true, evRegD] at h
    split at h
    ·rename_i hs
     simp only [Bool.and_eq_true] at hs
     rcases h1 : evOpsD P Γ ops nt 0 (ancs [] ops.toList) ops.toList [] st with _ | st1
     ·simp [h1] at h
     ·simp only [h1, Option.some.injEq, Prod.mk.injEq] at h
      obtain ⟨rfl, rfl⟩ := h
      have hI' := (evOpsD_ok hN ops.toList (K := fun _ => True) h1 hI trivial).2
      refine ⟨?_, hI'⟩
      have := cw_drawn (id := id) (l := ops.toList) (σ := st.S nt) (K := At nt .normal (st1.next nt keep)) hΓ hs.1 (ancs [] ops.toList) (by simpa using hs.2) fun K' hK' => by
       have := (evOpsD_ok hN ops.toList (K := K') h1 hI (hK' _ ⟨rfl, next_weak nt keep st1⟩)).1
       simpa using this
      simpa using this
    ·cases h
  | rangeFunc g ps a b =>
   simp only [evStep, evRange] at h
   rcases hf : clFn (opD (st.S nt) g) with _ | f
   ·simp [hf] at h
   ·simp only [hf] at h
    rcases hs : Γ f with _ | s
    ·simp [hs] at h
    ·simp only [hs] at h
     split at h
     ·rename_i hck
      simp only [Bool.and_eq_true, Bool.not_eq_true', Option.isNone_iff_eq_none] at hck
      obtain ⟨⟨hc, hne⟩, hnew⟩ := hck
      have hne' : f ≠ yid := fun e => by subst e; simp at hne
      have hs' : ofB Γ f = some s.spec := by simp [ofB, hs]
      have hnear := hN f s.spec hs'
      rcases hr : s.run (lookT (setT st.tbl [st.base, 0] (recOf nt st ps a b))) [st.base + 1, 0] (clArgs (opD (st.S nt) g) [.yld [st.base, 0]]) with _ | r
      ·simp [hr] at h
      ·simp only [hr] at h
       have htb := lookT_setT st.tbl [st.base, 0] (recOf nt st ps a b)
       obtain ⟨q1, q2, q3, q4, q5⟩ := s.ok _ _ _ _ hr
       have q6 := q5 (setT st.tbl [st.base, 0] (recOf nt st ps a b)) rfl
       have hfr := (hnear.like _ (lookT (setT st.tbl [st.base, 0] (recOf nt st ps a b))) [st.base + 1, 0] (clArgs (opD (st.S nt) g) [.yld [st.base, 0]]) (fun _ _ => rfl)).frame
       rw [q4] at hfr
       generalize hT : r.tf (setT st.tbl [st.base, 0] (recOf nt st ps a b)) = T at *
       rw [htb] at q1 q6 hfr
       have hInv : ∀ {env' : List E} {ps' : List Nat} {a' b' : Code} {pend : Option Code}, Inv os ⟨st.env, setT T [st.base, 0] (.loop env' ps' a' b' .exhausted pend), st.base + 2, r.wrt.filter isOut ++ st.dirty⟩ := by
        intro env' ps' a' b' pend i hi
        simp only [List.mem_append, List.mem_filter, not_or, not_and] at hi
        have h1 : [i, 1] ∉ r.wrt := fun hm => hi.1 hm rfl
        show lookT (setT T _ _) [i, 1] = _
        rw [lookT_setT, upd_ne _ _ _ (by intro e; simp at e), q6, hfr _ h1, upd_ne _ _ _ (by intro e; simp at e)]
        exact hI i hi.2
       have hcw : ∀ {K : Exit → S → Prop}, leftK K (lookT T) [st.base, 0] { (st.S nt) with obj := spent (lookT T) [st.base, 0] } → CW P (.rangeFunc g ps a b) (st.S nt) K := by
        intro K hK
        refine cw_rangeFunc hΓ st.base (st.base + 1) hc hf hne' hs' hnew q1 ?_
        rw [q6] at hK
        exact hK
       unfold rangeEnd at h
       rcases ho : lookT T [st.base, 0] with _ | o
       ·simp [ho] at h
       ·rw [ho] at h
        cases o with
        | loop env' ps' a' b' stt pend =>
         have hsp : ∀ pend', pend = pend' → Weak { (st.S nt) with obj := spent (lookT T) [st.base, 0] } (St.S nt ⟨st.env, setT T [st.base, 0] (.loop env' ps' a' b' .exhausted pend'), st.base + 2, r.wrt.filter isOut ++ st.dirty⟩) := by
          rintro pend' rfl
          have e : St.S nt ⟨st.env, setT T [st.base, 0] (.loop env' ps' a' b' .exhausted pend), st.base + 2, r.wrt.filter isOut ++ st.dirty⟩ =
            { ({ (st.S nt) with obj := spent (lookT T) [st.base, 0] } : S) with base := st.base + 2 } := by
           unfold St.S
           simp only [lookT_setT, spent, ho]
          rw [e]
          exact weak_base _ _
         have hlk : ∀ {K : Exit → S → Prop} {σ : S}, stt ≠ .busy → (match pend with | none => K .normal σ | some .ret => K .ret σ | some (.exit id) => K (.exit id) σ | _ => False) → leftK K (lookT T) [st.base, 0] σ := by
          intro K σ hb hm
          unfold leftK
          rw [ho]
          cases pend with
          | none => cases stt <;> first | exact hm | exact (hb rfl).elim
          | some c => cases c <;> first | exact hm.elim | (cases stt <;> first | exact hm | exact (hb rfl).elim)
         have hb : stt ≠ .busy := by rintro rfl; simp at h
         cases pend with
         | none =>
          have h' : some (Ex.normal, (⟨st.env, setT T [st.base, 0] (.loop env' ps' a' b' .exhausted none), st.base + 2, r.wrt.filter isOut ++ st.dirty⟩ : St)) = some (ex, st') := by cases stt <;> first | exact h | exact (hb rfl).elim
          simp only [Option.some.injEq, Prod.mk.injEq] at h'
          obtain ⟨rfl, rfl⟩ := h'
          exact ⟨hcw (hlk hb ⟨rfl, hsp _ rfl⟩), hInv⟩
         | some c =>
          cases c with
          | ret =>
           have h' : some (Ex.ret, (⟨st.env, setT T [st.base, 0] (.loop env' ps' a' b' .exhausted (some .ret)), st.base + 2, r.wrt.filter isOut ++ st.dirty⟩ : St)) = some (ex, st') := by cases stt <;> first | exact h | exact (hb rfl).elim
           simp only [Option.some.injEq, Prod.mk.injEq] at h'
           obtain ⟨rfl, rfl⟩ := h'
           exact ⟨hcw (hlk hb ⟨rfl, hsp _ rfl⟩), hInv⟩
          | exit id =>
           have h' : some (Ex.exit id, (⟨st.env, setT T [st.base, 0] (.loop env' ps' a' b' .exhausted (some (.exit id))), st.base + 2, r.wrt.filter isOut ++ st.dirty⟩ : St)) = some (ex, st') := by cases stt <;> first | exact h | exact (hb rfl).elim
           simp only [Option.some.injEq, Prod.mk.injEq] at h'
           obtain ⟨rfl, rfl⟩ := h'
           exact ⟨hcw (hlk hb ⟨rfl, hsp _ rfl⟩), hInv⟩
          | _ => exfalso; cases stt <;> simp at h
        | _ => simp at h
     ·cases h
  | scope b =>
   simp only [evStep] at h
   obtain ⟨k1, k2⟩ := evC_ok hΓ n b h hI
   exact ⟨cw_scope (fun l σ' h => by cases ex <;> cases h.1) k1, k2⟩
  | label =>
   simp only [evStep, Option.some.injEq, Prod.mk.injEq] at h
   obtain ⟨rfl, rfl⟩ := h
   exact ⟨cw_label ⟨rfl, .refl' _⟩, hI⟩
  | goto => simp [evStep] at h
  | refuse => simp [evStep] at h
end
end Go.Eng
