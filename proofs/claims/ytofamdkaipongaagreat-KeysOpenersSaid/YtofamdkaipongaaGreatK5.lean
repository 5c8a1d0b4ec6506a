import Derived.Test.YtofamdkaipongaaGreatK4
import Derived.Test.YtofamdkaipongaaGreatProg
import Derived.KernelRfl
/- Texts EngV to EngU. -/
set_option linter.all false
namespace Go.Eng
open Go
def initT : Nat → List O → List (Name × O)
 | _, [] => []
 | i, o :: r => ([i, 1], o) :: initT (i + 1) r
theorem initT_look : ∀ (k : Nat) (os : List O) (nm : Name), lookT (initT k os) nm = match nm with | [i, 1] => if k ≤ i then os[i - k]? else none | _ => none
 | k, [], nm => by
  simp only [initT, lookT_cons, lookT_nil]
  split <;> simp
 | k, o :: r, nm => by
  simp only [initT, lookT_cons, lookT_nil]
  cases h : nmEq [k, 1] nm with
  | true =>
   have e := nmEq_iff.1 h
   subst e
   simp
  | false =>
   simp only
   rw [initT_look (k + 1) r nm]
   split
   ·rename_i i
    have hne : i ≠ k := fun e => by subst e; rw [nmEq_iff.2 rfl] at h; cases h
    by_cases h1 : k + 1 ≤ i
    ·rw [if_pos h1, if_pos (by omega)]
     rw [show i - k = (i - (k + 1)) + 1 by omega]; simp
    ·rw [if_neg h1, if_neg (by omega)]
   ·rfl
theorem initT_outH (os : List O) : lookT (initT 0 os) = outH os := by
 funext nm
 rw [initT_look]
 unfold outH
 split <;> simp
def initE : Nat → List D → List (Nat × E)
 | _, [] => []
 | k, d :: r => (k, ⟨true, d⟩) :: initE (k + 1) r
theorem initE_look : ∀ (k : Nat) (ds : List D), lookE (initE k ds) = ofL eAny (argsD k ds)
 | k, [] => rfl
 | k, d :: r => by
  funext t
  simp only [initE, argsD, lookE_cons, ofL]
  rw [initE_look (k + 1) r]
  cases h : Nat.beq k t with
  | true => rw [if_pos (Nat.eq_of_beq_eq_true h).symm]
  | false => rw [if_neg (fun e => by subst e; simp at h)]
section
variable (P : Program)
noncomputable def resB (σ : S) : ResultVar → Bool
 | .tmp t => (σ.env t).c
 | .cell a T => (σ.env a).c && (match (σ.env a).d with | .ref _ _ => true | .v (.ptr _) => true | _ => false) && bLoad P σ.obj T (σ.env a).d
noncomputable def resAllB (σ : S) (rs : List ResultVar) : Bool := match rs with
 | [r] => resB P σ r
 | rs => rs.all (resB P σ)
variable {P}
theorem resB_ok {σ : S} {r : ResultVar} (h : resB P σ r = true) : (resD P σ r).ok := by
 cases r with
 | tmp t => exact h
 | cell a T =>
  simp only [resB, Bool.and_eq_true] at h
  refine ⟨h.1.1, ?_, bLoad_ok h.2⟩
  have := h.1.2
  split at this <;> simp_all
theorem resAllB_ok {σ : S} {rs : List ResultVar} (h : resAllB P σ rs = true) : (resAll P σ rs).ok := by
 unfold resAllB at h
 unfold resAll
 split at h
 ·exact resB_ok h
 ·rename_i hne
  split
  ·rename_i r; exact (hne r rfl).elim
  ·exact fun r hr => resB_ok (List.all_eq_true.1 h r hr)
end
noncomputable def newsOf (tbl : List (Name × O)) : List Name → List (Name × O)
 | [] => []
 | nm :: r => match isOut nm with
  | true => newsOf tbl r
  | false => match lookT tbl nm with
   | some o => (nm, o) :: newsOf tbl r
   | none => newsOf tbl r
noncomputable def updOf (tbl : List (Name × O)) : List Name → List (Nat × O)
 | [] => []
 | nm :: r => match nm with
  | [i, 1] => match lookT tbl [i, 1] with
   | some o => (i, o) :: updOf tbl r
   | none => updOf tbl r
  | _ => updOf tbl r
def dedup : List Name → List Name
 | [] => []
 | x :: r => match inL r x with
  | true => dedup r
  | false => x :: dedup r
noncomputable def endB (n : Nat) (o : Out) (st : St) : Bool :=
 (D.clos (domC n o.new) o.d && (o.upd.all fun x => O.clos (domC n o.new) x.2 && decide (x.1 < n)) && (o.new.all fun x => O.clos (domC n o.new) x.2 && !isOut x.1) && distinct (o.new.map (·.1))) &&
  st.dirty.all fun nm => (lookT st.tbl nm).isSome && isOut nm
noncomputable def finish (os : List O) (st : St) (d : D) : Option Out :=
 let u := updOf st.tbl (dedup st.dirty)
 let o : Out := ⟨u, newsOf st.tbl (reachL (lookT st.tbl) 3000 (namesD d ++ u.flatMap fun x => namesO x.2) []), d⟩
 match endB os.length o st with
 | true => some o
 | false => none
theorem dedup_mem : ∀ {l : List Name} {x : Name}, x ∈ dedup l ↔ x ∈ l
 | [], x => by simp [dedup]
 | y :: r, x => by
  simp only [dedup]
  cases h : inL r y with
  | true =>
   simp only [List.mem_cons]
   rw [dedup_mem]
   refine ⟨.inr, fun hx => ?_⟩
   rcases hx with rfl | hx
   ·exact inL_iff.1 h
   ·exact hx
  | false => simp only [List.mem_cons, dedup_mem]
theorem updOf_mem {tbl : List (Name × O)} : ∀ {l : List Name} {i : Nat} {o : O}, (i, o) ∈ updOf tbl l ↔ [i, 1] ∈ l ∧ lookT tbl [i, 1] = some o
 | [], i, o => by simp [updOf]
 | nm :: r, i, o => by
  have hbr : ∀ (h : ¬ nm = [i, 1]), ((i, o) ∈ updOf tbl (nm :: r) ↔ (i, o) ∈ updOf tbl r) := by
   intro h
   simp only [updOf]
   split
   ·rename_i j
    split
    ·rename_i o' ho
     simp only [List.mem_cons, Prod.mk.injEq]
     refine ⟨fun hx => ?_, .inr⟩
     rcases hx with ⟨rfl, _⟩ | hx
     ·exact (h rfl).elim
     ·exact hx
    ·rfl
   ·rfl
  by_cases h : nm = [i, 1]
  ·subst h
   simp only [updOf]
   cases ho : lookT tbl [i, 1] with
   | none => simp only; rw [updOf_mem]; simp [ho]
   | some o' =>
    simp only [List.mem_cons, Prod.mk.injEq]
    rw [updOf_mem]
    simp only [ho, Option.some.injEq, true_and]
    constructor
    ·rintro (rfl | ⟨_, rfl⟩)
     ·simp
     ·simp
    ·rintro ⟨_, rfl⟩; exact .inl rfl
  ·rw [hbr h, updOf_mem]
   simp only [List.mem_cons]
   exact ⟨fun ⟨a, b⟩ => ⟨.inr a, b⟩, fun ⟨a, b⟩ => ⟨a.resolve_left (fun e => h e.symm), b⟩⟩
theorem newsOf_mem {tbl : List (Name × O)} : ∀ {l : List Name} {x : Name × O}, x ∈ newsOf tbl l → lookT tbl x.1 = some x.2
 | nm :: r, x, h => by
  simp only [newsOf] at h
  split at h
  ·exact newsOf_mem h
  ·split at h
   ·rename_i o ho
    rcases List.mem_cons.1 h with rfl | h
    ·exact ho
    ·exact newsOf_mem h
   ·exact newsOf_mem h
theorem lastU_none : ∀ {l : List (Nat × O)} {i : Nat} {o : O}, (∀ x ∈ l, x.1 ≠ i) → lastU l i o = o
 | [], _, _, _ => rfl
 | (j, o') :: r, i, o, h => by
  simp only [lastU]
  rw [if_neg (h (j, o') (by simp))]
  exact lastU_none fun x hx => h x (by simp [hx])
theorem lastU_some : ∀ {l : List (Nat × O)} {i : Nat} {o o' : O}, (∀ x ∈ l, x.1 = i → x.2 = o') → ((∃ x ∈ l, x.1 = i) ∨ o = o') → lastU l i o = o'
 | [], _, _, _, _, h => by
  rcases h with ⟨x, hx, _⟩ | h
  ·cases hx
  ·exact h
 | (j, q) :: r, i, o, o', h, h' => by
  simp only [lastU]
  refine lastU_some (fun x hx => h x (by simp [hx])) ?_
  by_cases e : j = i
  ·rw [if_pos e]; exact .inr (h (j, q) (by simp) e)
  ·rw [if_neg e]
   rcases h' with ⟨x, hx, hxi⟩ | h'
   ·rcases List.mem_cons.1 hx with rfl | hx
    ·exact (e hxi).elim
    ·exact .inl ⟨x, hx, hxi⟩
   ·exact .inr h'
theorem objsOk_mk {σ : S} {u : List (Nat × O)} : ∀ {l : List O} {k : Nat}, (∀ i (h : i < l.length), σ.obj [k + i, 1] = some (lastU u (k + i) l[i])) → objsOk σ u k l
 | [], _, _ => trivial
 | o :: r, k, h => ⟨h 0 (by simp), objsOk_mk fun i hi => by
   have := h (i + 1) (by simpa using hi)
   rw [show k + (i + 1) = k + 1 + i by omega] at this
   simpa using this⟩
theorem newsOk_mk {σ : S} : ∀ {l : List (Name × O)}, (∀ x ∈ l, σ.obj x.1 = some x.2) → newsOk σ l
 | [], _ => trivial
 | x :: r, h => ⟨h x (by simp), newsOk_mk fun y hy => h y (by simp [hy])⟩
theorem finish_ok {os : List O} {st : St} {d : D} {o : Out} {nt : Nat} (h : finish os st d = some o) (hI : Inv os st) : o.d = d ∧ endC os o (st.S nt) := by
 unfold finish at h
 simp only at h
 split at h
 ·rename_i hb
  simp only [Option.some.injEq] at h
  subst h
  refine ⟨rfl, ?_⟩
  simp only [endB] at hb
  rw [Bool.and_eq_true] at hb
  obtain ⟨hb1, hb2⟩ := hb
  refine ⟨objsOk_mk fun i hi => ?_, newsOk_mk fun x hx => newsOf_mem hx, hb1⟩
  simp only [Nat.zero_add]
  show lookT st.tbl [i, 1] = _
  by_cases hd : [i, 1] ∈ st.dirty
  ·have := List.all_eq_true.1 hb2 _ hd
   simp only [Bool.and_eq_true, Option.isSome_iff_exists] at this
   obtain ⟨o', ho'⟩ := this.1
   rw [ho']
   congr 1
   refine (lastU_some (fun x hx hxi => ?_) (.inl ⟨(i, o'), updOf_mem.2 ⟨dedup_mem.2 hd, ho'⟩, rfl⟩)).symm
   obtain ⟨j, q⟩ := x
   simp only at hxi
   subst hxi
   have := (updOf_mem.1 hx).2
   rw [ho'] at this
   exact (Option.some.inj this).symm
  ·rw [hI i hd]
   rw [lastU_none fun x hx hxi => by
    obtain ⟨j, q⟩ := x
    simp only at hxi
    subst hxi
    exact hd (dedup_mem.1 (updOf_mem.1 hx).1)]
   show os[i]? = _
   rw [List.getElem?_eq_getElem hi]
 ·cases h
section
variable (P : Program) (Γ : FuncId → Option SpecB)
noncomputable def evFn (nt : Nat) (rs : List ResultVar) (c : Code) (fuel : Nat) (os : List O) (ds : List D) : Option Out :=
 match Nat.ble ds.length nt with
 | false => none
 | true => match evC P Γ nt (keepOf rs c) fuel c ⟨initE 0 ds, initT 0 os, 0, []⟩ with
  | none => none
  | some (ex, st) => match ex with
   | .exit _ => none
   | _ => match resAllB P (st.S nt) rs with
    | true => finish os st (resAll P (st.S nt) rs).d
    | false => none
noncomputable def runC (s : CSpec) (run : List O → List D → Option Out) (obj : Name → Option O) (t : Name) (ds : List D) : Option RunR :=
 let L := reach obj ds
 match shut obj L && D.closL (inL L) ds with
 | false => none
 | true => match run (cOs obj ds) (cDs obj ds) with
  | none => none
  | some o => match fresh obj t o.new with
   | false => none
   | true => some ⟨o.d.ren (cout L t), L ++ (o.upd.map fun x => L.getD x.1 []) ++ o.new.map (fun x => x.1 ++ t), (o.upd.map fun x => L.getD x.1 []) ++ o.new.map (fun x => x.1 ++ t),
     fun tbl => o.new.foldl (fun tbl x => setT tbl (x.1 ++ t) (x.2.ren (cout L t))) (o.upd.foldl (fun tbl x => setT tbl (L.getD x.1 []) (x.2.ren (cout L t))) tbl)⟩
theorem look_foldU {L : List Name} {t : Name} : ∀ (l : List (Nat × O)) (tbl : List (Name × O)), lookT (l.foldl (fun tbl x => setT tbl (L.getD x.1 []) (x.2.ren (cout L t))) tbl) = putU L t l (lookT tbl)
 | [], _ => rfl
 | (i, o) :: r, tbl => by
  simp only [List.foldl_cons, putU]
  rw [look_foldU r, lookT_setT]
theorem look_foldN {L : List Name} {t : Name} : ∀ (l : List (Name × O)) (tbl : List (Name × O)), lookT (l.foldl (fun tbl x => setT tbl (x.1 ++ t) (x.2.ren (cout L t))) tbl) = putN L t l (lookT tbl)
 | [], _ => rfl
 | (i, o) :: r, tbl => by
  simp only [List.foldl_cons, putN]
  rw [look_foldN r, lookT_setT]
noncomputable def specC (s : CSpec) (run : List O → List D → Option Out) (h : ∀ os ds o, run os ds = some o → s.pre os ds ∧ s.out os ds = o) : SpecB where
 spec := s.toSpec
 run := runC s run
 ok := by
  intro obj t ds r hr
  unfold runC at hr
  simp only at hr
  split at hr
  ·cases hr
  ·rename_i hsh
   split at hr
   ·cases hr
   ·rename_i o ho
    split at hr
    ·cases hr
    ·rename_i hfr
     simp only [Option.some.injEq] at hr
     subst hr
     obtain ⟨h1, h2⟩ := h _ _ _ ho
     refine ⟨⟨?_, h1⟩, ?_, ?_, ?_, fun tbl htbl => ?_⟩
     ·rw [h2, Bool.and_eq_true]; exact ⟨hsh, hfr⟩
     ·simp only [CSpec.toSpec, h2]
     ·simp only [CSpec.toSpec, h2]
     ·simp only [CSpec.toSpec, h2]
     ·simp only [CSpec.toSpec, h2]
      rw [look_foldN, look_foldU, htbl]
noncomputable def csF (nt : Nat) (rs : List ResultVar) (c : Code) (fuel : Nat) : CSpec := ⟨fun os ds => (evFn P Γ nt rs c fuel os ds).isSome = true, fun os ds => (evFn P Γ nt rs c fuel os ds).getD default⟩
noncomputable def fnB (nt : Nat) (rs : List ResultVar) (c : Code) (fuel : Nat) : SpecB := specC (csF P Γ nt rs c fuel) (evFn P Γ nt rs c fuel) fun os ds o h => by
 simp [csF, h]
variable {P Γ}
theorem fnB_sound (hΓ : ∀ f s, ofB Γ f = some s → SSound P f s) {f : FuncId} {fn : Func} {c : Code} {fuel : Nat} (hf : P.funcs[f]? = some fn) (hb : fn.body = some c)
  (hen : ∀ args w, (callFunc f args).run P w = .ok (.enter f args) w) (hne : f ≠ yid) : SSound P f (fnB P Γ fn.ntmps fn.results.toList c fuel).spec := by
 refine csound hf hb rfl rfl hen hne fun os ds hpre => ?_
 simp only [csF] at hpre ⊢
 rcases ho : evFn P Γ fn.ntmps fn.results.toList c fuel os ds with _ | o
 ·rw [ho] at hpre; cases hpre
 ·simp only [Option.getD_some]
  unfold evFn at ho
  split at ho
  ·cases ho
  ·rename_i hle
   refine ⟨Nat.le_of_ble_eq_true hle, ?_⟩
   split at ho
   ·cases ho
   ·rename_i ex st he
    have hst0 : (St.S fn.ntmps ⟨initE 0 ds, initT 0 os, 0, []⟩) = mkS fn.ntmps [0] (outH os) (argsD 0 ds) [] := by
     rw [mkS_in]
     unfold St.S
     simp only [initE_look, initT_outH]
    have hI0 : Inv os ⟨initE 0 ds, initT 0 os, 0, []⟩ := fun i _ => by show lookT (initT 0 os) _ = _; rw [initT_outH]
    obtain ⟨k1, k2⟩ := evC_ok hΓ fuel c he hI0
    rw [hst0] at k1
    refine CW.weakK (CW.mono k1 ?_)
    rintro e σ' ⟨rfl, hw⟩
    have fin : ∀ (ho : (match resAllB P (st.S fn.ntmps) fn.results.toList with
      | true => finish os st (resAll P (st.S fn.ntmps) fn.results.toList).d
      | false => none) = some o), (resAll P (st.S fn.ntmps) fn.results.toList).ok ∧ (resAll P (st.S fn.ntmps) fn.results.toList).d = o.d ∧ endC os o (st.S fn.ntmps) := by
     intro ho
     split at ho
     ·rename_i hr
      obtain ⟨q1, q2⟩ := finish_ok (nt := fn.ntmps) ho k2
      exact ⟨resAllB_ok hr, q1.symm, q2⟩
     ·cases ho
    cases ex with
    | normal => exact ⟨_, hw, fin ho⟩
    | ret => exact ⟨_, hw, fin ho⟩
    | exit id => cases ho
variable (P Γ)
def envL : Nat → List E → List (Nat × E)
 | _, [] => []
 | k, e :: r => (k, e) :: envL (k + 1) r
noncomputable def setPL : List (Nat × E) → List Nat → List D → List (Nat × E)
 | l, p :: ps, d :: ds => setPL (setE' l p ⟨true, d⟩) ps ds
 | l, _, _ => l
variable {P Γ} in
theorem envL_look : ∀ (k : Nat) (l : List E) (t : Nat), lookE (envL k l) t = if k ≤ t then (l[t - k]?).getD eAny else eAny
 | k, [], t => by simp [envL, lookE_nil]
 | k, e :: r, t => by
  simp only [envL, lookE_cons]
  cases h : Nat.beq k t with
  | true =>
   have e := Nat.eq_of_beq_eq_true h
   subst e
   simp
  | false =>
   have hne : k ≠ t := fun e => by subst e; simp at h
   simp only
   rw [envL_look (k + 1) r t]
   by_cases h1 : k + 1 ≤ t
   ·rw [if_pos h1, if_pos (by omega), show t - k = (t - (k + 1)) + 1 by omega]; simp
   ·rw [if_neg h1, if_neg (by omega)]
variable {P Γ} in
theorem setPL_look : ∀ (ps : List Nat) (ds : List D) (l : List (Nat × E)), lookE (setPL l ps ds) = setP (lookE l) ps ds
 | [], ds, l => by cases ds <;> rfl
 | p :: ps, [], l => rfl
 | p :: ps, d :: ds, l => by
  simp only [setPL, setP]
  rw [setPL_look ps ds, lookE_setE]
noncomputable def evRound (fuel : Nat) (env : List E) (ps : List Nat) (asg body : Code) (os : List O) (ds : List D) : Option (Out × Option Code) :=
 match evC P Γ env.length (keepOf [] (.seq asg body)) fuel asg ⟨setPL (envL 0 env) ps ds, initT 0 os, 0, []⟩ with
 | some (.normal, st1) => match evC P Γ env.length (keepOf [] (.seq asg body)) fuel body st1 with
  | some (ex, st2) => match finish os st2 .any with
   | some o => some (o, match ex with | .normal => none | .ret => some .ret | .exit id => some (.exit id))
   | none => none
  | none => none
 | _ => none
noncomputable def ysF (fuel : Nat) : YSpec := ⟨fun env ps asg body os ds => (evRound P Γ fuel env ps asg body os ds).isSome = true, fun env ps asg body os ds => (evRound P Γ fuel env ps asg body os ds).getD default⟩
noncomputable def runY (fuel : Nat) (obj : Name → Option O) (t : Name) (args : List D) : Option RunR :=
 match args with
 | .yld nm :: ds => match obj nm with
  | some (.loop env ps asg body st pe) => match st, pe with
   | .ready, none =>
    let L := reach obj (roots env ds)
    match shut obj L && D.closL (inL L) (roots env ds) && !inL L nm && decide (ds.length = ps.length) && (ps.all fun p => decide (p < env.length)) with
    | false => none
    | true => match evRound P Γ fuel (yEnv obj env ds) ps asg body (cOs obj (roots env ds)) (yDs obj env ds) with
     | none => none
     | some o => match fresh obj t o.1.new with
      | false => none
      | true => some ⟨.v (.bool o.2.isNone), nm :: (L ++ (o.1.upd.map fun x => L.getD x.1 []) ++ o.1.new.map (fun x => x.1 ++ t)), nm :: ((o.1.upd.map fun x => L.getD x.1 []) ++ o.1.new.map (fun x => x.1 ++ t)),
        fun tbl => setT (o.1.new.foldl (fun tbl x => setT tbl (x.1 ++ t) (x.2.ren (cout L t))) (o.1.upd.foldl (fun tbl x => setT tbl (L.getD x.1 []) (x.2.ren (cout L t))) tbl)) nm
         (.loop env ps asg body (if o.2.isNone then .ready else .done) o.2)⟩
   | _, _ => none
  | _ => none
 | _ => none
noncomputable def yB (fuel : Nat) : SpecB where
 spec := (ysF P Γ fuel).toSpec
 run := runY P Γ fuel
 ok := by
  intro obj t args r hr
  unfold runY at hr
  split at hr
  ·rename_i nm ds
   split at hr
   ·rename_i env ps asg body st pe hnm
    split at hr
    ·simp only at hr
     split at hr
     ·cases hr
     ·rename_i hck
      split at hr
      ·cases hr
      ·rename_i o ho
       split at hr
       ·cases hr
       ·rename_i hfr
        simp only [Option.some.injEq] at hr
        subst hr
        have hyo : (ysF P Γ fuel).o obj env ps asg body ds = o := by simp [YSpec.o, ysF, ho]
        have hpre : (ysF P Γ fuel).pre (yEnv obj env ds) ps asg body (cOs obj (roots env ds)) (yDs obj env ds) := by simp [ysF, ho]
        simp only [Bool.and_eq_true] at hck
        simp only [YSpec.toSpec, hnm, hyo]
        refine ⟨⟨?_, hpre⟩, trivial, trivial, trivial, fun tbl htbl => ?_⟩
        ·simp only [Bool.and_eq_true]
         exact ⟨⟨⟨⟨hck.1.1.1, hfr⟩, hck.1.1.2⟩, hck.1.2⟩, hck.2⟩
        ·rw [lookT_setT, look_foldN, look_foldU, htbl]
    ·cases hr
   ·cases hr
  ·cases hr
variable {P Γ}
theorem yB_sound (hΓ : ∀ f s, ofB Γ f = some s → SSound P f s) (fuel : Nat) : SSound P yid (yB P Γ fuel).spec := by
 refine yield_run fun env ps asg body os ds hpre _ => ?_
 simp only [ysF] at hpre ⊢
 rcases ho : evRound P Γ fuel env ps asg body os ds with _ | o
 ·rw [ho] at hpre; cases hpre
 ·simp only [Option.getD_some]
  unfold evRound at ho
  split at ho
  ·rename_i st1 he1
   have hst0 : (St.S env.length ⟨setPL (envL 0 env) ps ds, initT 0 os, 0, []⟩) = ⟨env.length, setP (envF env) ps ds, outH os, [0], 0⟩ := by
    unfold St.S
    have : lookE (envL 0 env) = envF env := by
     funext t
     rw [envL_look]
     simp [envF, List.getD_eq_getElem?_getD]
    simp only [setPL_look, this, initT_outH]
   have hI0 : Inv os ⟨setPL (envL 0 env) ps ds, initT 0 os, 0, []⟩ := fun i _ => by show lookT (initT 0 os) _ = _; rw [initT_outH]
   obtain ⟨k1, k2⟩ := evC_ok hΓ fuel asg he1 hI0
   rw [hst0] at k1
   refine CW.mono k1 ?_
   rintro e σ1 ⟨rfl, hw1⟩
   split at ho
   ·rename_i ex st2 he2
    obtain ⟨k3, k4⟩ := evC_ok hΓ fuel body he2 k2
    split at ho
    ·rename_i o1 hfin
     simp only [Option.some.injEq] at ho
     subst ho
     obtain ⟨_, q2⟩ := finish_ok (nt := env.length) hfin k4
     refine cw_weak hw1 (CW.weakK (CW.mono k3 ?_))
     rintro e σ2 ⟨rfl, hw2⟩
     refine ⟨_, hw2, ?_⟩
     cases ex with
     | normal => exact ⟨rfl, q2⟩
     | ret => exact ⟨rfl, q2⟩
     | exit id => exact ⟨rfl, q2⟩
    ·cases ho
   ·cases ho
  ·cases ho
variable (P)
def okFn (f : FuncId) (fn : Func) : Bool := !(Nat.beq f yid) && !(fn.name == "runtime.NumGoroutine")
noncomputable def ΓB (base : (FuncId → Option SpecB) → FuncId → Option SpecB) (fuel : Nat) : Nat → FuncId → Option SpecB
 | 0, _ => none
 | n + 1, f => match base (ΓB base fuel n) f with
  | some s => some s
  | none => match Nat.beq f yid with
   | true => some (yB P (ΓB base fuel n) fuel)
   | false => match P.funcs[f]? with
    | none => none
    | some fn => match fn.body with
     | none => none
     | some c => match okFn f fn with
      | true => some (fnB P (ΓB base fuel n) fn.ntmps fn.results.toList c fuel)
      | false => none
variable {P}
theorem enter_of {f : FuncId} {fn : Func} {c : Code} (hf : P.funcs[f]? = some fn) (hb : fn.body = some c) (hn : (fn.name == "runtime.NumGoroutine") = false) : ∀ args w, (callFunc f args).run P w = .ok (.enter f args) w := by
 intro args w
 unfold callFunc
 have hp : (Sem.run P program w) = .ok P w := rfl
 simp only [Sem.run_bind, hp, Result.andThen_ok, hf, hn, hb]
 rfl
theorem ΓB_sound {base : (FuncId → Option SpecB) → FuncId → Option SpecB} {fuel : Nat} (hbase : ∀ Γ : FuncId → Option SpecB, (∀ f s, ofB Γ f = some s → SSound P f s) → ∀ f s, base Γ f = some s → SSound P f s.spec) : ∀ (n : Nat) (f : FuncId) (s : Spec), ofB (ΓB P base fuel n) f = some s → SSound P f s
 | 0, f, s, h => by
  simp [ofB, ΓB] at h
 | n + 1, f, s, h => by
  have ih := ΓB_sound (fuel := fuel) hbase n
  simp only [ofB, ΓB, Option.map_eq_some_iff] at h
  obtain ⟨b, h1, rfl⟩ := h
  split at h1
  ·rename_i s' hs'
   cases h1
   exact hbase _ ih f _ hs'
  ·split at h1
   ·rename_i hy
    cases h1
    have := Nat.eq_of_beq_eq_true hy
    subst this
    exact yB_sound ih fuel
   ·split at h1
    ·cases h1
    ·rename_i fn hfn
     split at h1
     ·cases h1
     ·rename_i c hc
      split at h1
      ·rename_i hok
       cases h1
       simp only [okFn, Bool.and_eq_true, Bool.not_eq_true'] at hok
       exact fnB_sound ih hfn hc (enter_of hfn hc hok.2) (fun e => by rw [e] at hok; simp at hok)
      ·cases h1
end
open Go Go.Proofs
attribute [go_sem] Nat.reduceLT Nat.reduceAdd Nat.reduceEqDiff Nat.reduceSub Nat.reduceMul Nat.reduceBEq reduceIte reduceCtorEq
theorem ob0 {p : Prop} (h : p := by first | exact Bool.or_not_self _ | exact Bool.not_or_self _ | exact fun _ => by decide | exact fun h => ⟨h, by decide⟩ | omega | (simp only [decide_eq_true_eq]; omega) | exact ⟨_, rfl⟩ | exact fun h => ⟨h, _, rfl⟩ | exact ⟨_, _, rfl⟩ | exact fun h => ⟨h, _, _, rfl⟩ | exact fun h => ⟨h, _, _, _, rfl⟩ | exact ⟨_, _, _, _, rfl⟩ | exact fun h => ⟨h, _, _, _, _, rfl⟩ | exact ⟨[_, _], rfl⟩ | (simp; done) | (simp_all; done) | (simp_all; omega)) : p := h
abbrev vInt (n : Int) : V := .int .i64 n
@[go_sem] theorem ta3 : tAgg Tryz.prog 3 = some (false, 1) := by kernel_rfl
@[go_sem] theorem ti3 : tInt Tryz.prog 3 = some .i64 := by kernel_rfl
@[go_sem] theorem tz3 : tZero Tryz.prog 3 = some (.int .i64 0) := by kernel_rfl
@[go_sem] theorem ta4 : tAgg Tryz.prog 4 = some (false, 1) := by kernel_rfl
@[go_sem] theorem tz4 : tZero Tryz.prog 4 = some (.bool false) := by kernel_rfl
@[go_sem] theorem ta22 : tAgg Tryz.prog 22 = some (false, 1) := by kernel_rfl
@[go_sem] theorem te22 : tElem Tryz.prog 22 = some (35, 9, 72) := by kernel_rfl
@[go_sem] theorem tl22 : tLen Tryz.prog 22 = some 0 := by kernel_rfl
@[go_sem] theorem tz22 : tZero Tryz.prog 22 = some (.slice none 0 0) := by kernel_rfl
@[go_sem] theorem ta24 : tAgg Tryz.prog 24 = some (false, 1) := by kernel_rfl
@[go_sem] theorem ti24 : tInt Tryz.prog 24 = some .i64 := by kernel_rfl
@[go_sem] theorem tz24 : tZero Tryz.prog 24 = some (.int .i64 0) := by kernel_rfl
@[go_sem] theorem ta25 : tAgg Tryz.prog 25 = some (false, 1) := by kernel_rfl
@[go_sem] theorem ta31 : tAgg Tryz.prog 31 = some (true, 2) := by kernel_rfl
@[go_sem] theorem tp31 : tPlaces Tryz.prog 31 = some [(0, 1), (1, 1)] := by kernel_rfl
@[go_sem] theorem tz31 : tZero Tryz.prog 31 = some (.agg #[(.int .i64 0), (.int .i64 0)]) := by kernel_rfl
@[go_sem] theorem tf31_0 : tField Tryz.prog 31 0 = some (0, 1, false) := by kernel_rfl
@[go_sem] theorem tf31_1 : tField Tryz.prog 31 1 = some (1, 1, false) := by kernel_rfl
@[go_sem] theorem ta33 : tAgg Tryz.prog 33 = some (true, 2) := by kernel_rfl
@[go_sem] theorem tp33 : tPlaces Tryz.prog 33 = some [(0, 1), (1, 1)] := by kernel_rfl
@[go_sem] theorem tz33 : tZero Tryz.prog 33 = some (.agg #[(.int .i64 0), (.int .i64 0)]) := by kernel_rfl
@[go_sem] theorem tf33_0 : tField Tryz.prog 33 0 = some (0, 1, false) := by kernel_rfl
@[go_sem] theorem tf33_1 : tField Tryz.prog 33 1 = some (1, 1, false) := by kernel_rfl
@[go_sem] theorem ta35 : tAgg Tryz.prog 35 = some (true, 9) := by kernel_rfl
@[go_sem] theorem tp35 : tPlaces Tryz.prog 35 = some [(0, 2), (2, 1), (3, 1), (4, 1), (5, 2), (7, 1), (8, 1)] := by kernel_rfl
@[go_sem] theorem tz35 : tZero Tryz.prog 35 = some (.agg #[(.int .i64 0), (.int .i64 0), (.int .i64 0), (.int .i64 0), (.int .i64 0), (.int .i64 0), (.int .i64 0), (.int .i64 0), (.int .i64 0)]) := by kernel_rfl
@[go_sem] theorem tf35_0 : tField Tryz.prog 35 0 = some (0, 2, true) := by kernel_rfl
@[go_sem] theorem tf35_1 : tField Tryz.prog 35 1 = some (2, 1, false) := by kernel_rfl
@[go_sem] theorem tf35_2 : tField Tryz.prog 35 2 = some (3, 1, false) := by kernel_rfl
@[go_sem] theorem tf35_3 : tField Tryz.prog 35 3 = some (4, 1, false) := by kernel_rfl
@[go_sem] theorem tf35_4 : tField Tryz.prog 35 4 = some (5, 2, true) := by kernel_rfl
@[go_sem] theorem tf35_5 : tField Tryz.prog 35 5 = some (7, 1, false) := by kernel_rfl
@[go_sem] theorem tf35_6 : tField Tryz.prog 35 6 = some (8, 1, false) := by kernel_rfl
@[go_sem] theorem ta36 : tAgg Tryz.prog 36 = some (false, 1) := by kernel_rfl
@[go_sem] theorem tz36 : tZero Tryz.prog 36 = some .nilFunc := by kernel_rfl
@[go_sem] theorem ta39 : tAgg Tryz.prog 39 = some (false, 1) := by kernel_rfl
@[go_sem] theorem te39 : tElem Tryz.prog 39 = some (3, 1, 8) := by kernel_rfl
@[go_sem] theorem tl39 : tLen Tryz.prog 39 = some 0 := by kernel_rfl
@[go_sem] theorem tz39 : tZero Tryz.prog 39 = some (.slice none 0 0) := by kernel_rfl
@[go_sem] theorem ta42 : tAgg Tryz.prog 42 = some (false, 1) := by kernel_rfl
@[go_sem] theorem ta129 : tAgg Tryz.prog 129 = some (false, 1) := by kernel_rfl
@[go_sem] theorem tz129 : tZero Tryz.prog 129 = some .nilFunc := by kernel_rfl
@[go_sem] theorem ta161 : tAgg Tryz.prog 161 = some (false, 1) := by kernel_rfl
@[go_sem] theorem ta0 : tAgg Tryz.prog 0 = some (false, 1) := by kernel_rfl
theorem mixedK : Tryz.prog.follows .mixedOrders = true := by kernel_rfl
theorem psoundB {P : Program} {f : FuncId} {fn : Func} {s : PSpec} {nt : Nat} {rs : List ResultVar} (hf : P.funcs[f]? = some fn) (hnt : fn.ntmps = nt) (hrs : fn.results.toList = rs) (hn : (fn.name == "runtime.NumGoroutine") = false) (hy : f < 1000000000)
  (hfl : s.flat = true → ∀ xs, s.pre xs → (s.fn xs).flat = true)
  (hb : ∃ c, fn.body = some c ∧ ∀ xs, s.pre xs → V.wfL xs → xs.length ≤ nt ∧ CL P [c] (mkS nt [0] (fun _ => none) (argsL 0 xs) []) (retK P rs (s.fn xs))) : PSound P f s := by
 obtain ⟨c, hc, h⟩ := hb
 exact psound hf hc hnt hrs (enter_of hf hc hn) (Nat.ne_of_lt (show f < yid from hy)) hfl fun xs hp hw => ⟨(h xs hp hw).1, cl_of (h xs hp hw).2⟩
theorem lb {a b : Nat} (h : Nat.ble a b = true) : a ≤ b := Nat.le_of_ble_eq_true h
def inI (n lo hi : Int) : Bool := decide (lo ≤ n) && decide (n ≤ hi)
def pIn : PSpec := ⟨fun xs => ∃ a b c, xs = [vInt a, vInt b, vInt c], fun xs => match xs with | [.int _ n, .int _ lo, .int _ hi] => .bool (inI n lo hi) | _ => .bool false, true⟩
theorem pIn_flat : pIn.flat = true → ∀ xs, pIn.pre xs → (pIn.fn xs).flat = true := by
 rintro _ xs ⟨a, b, c, rfl⟩; rfl
def pIB (g : Int → Bool) : PSpec := ⟨fun xs => ∃ a, xs = [vInt a], fun xs => match xs with | [.int _ n] => .bool (g n) | _ => .bool false, true⟩
theorem pIB_flat (g : Int → Bool) : (pIB g).flat = true → ∀ xs, (pIB g).pre xs → ((pIB g).fn xs).flat = true := by
 rintro _ xs ⟨a, rfl⟩; rfl
attribute [go_sem] pIn pIB PSpec.toSpec yid Option.bind_some Option.bind_none
theorem no_sound {P : Program} : ∀ f s, (fun _ => none : FuncId → Option Spec) f = some s → SSound P f s := fun f s h => by cases h
theorem s151 : PSound Tryz.prog 151 pIn := by
 refine psoundB (rs := [.tmp 6]) Tryz.func151 Tryz.ntmps151 (by rfl) (by kernel_rfl) (by decide) pIn_flat ⟨_, rfl, ?_⟩
 rintro xs ⟨n, lo, hi, rfl⟩ _
 refine ⟨lb rfl, ?_⟩
 have hΓ := @no_sound Tryz.prog
 repeat refine sq ?_
 refine cl_rs hΓ [0,1,2] [] fun K' hK => ?_
 simp only [go_sem]
 repeat (refine ⟨ob0, ?_⟩)
 refine hK _ ?_ ?_ <;> clear K' hK <;> simp only [go_sem]
 repeat refine sq ?_
 refine cl_rs hΓ [6] [] fun K' hK => ?_
 simp only [go_sem]
 repeat (refine ⟨ob0, ?_⟩)
 refine hK _ ?_ ?_ <;> clear K' hK <;> simp only [go_sem]
 refine cl_ret ?_
 simp only [go_sem]
 all_goals first | rfl | (simp; done) | (simp_all; done)
theorem s79 : PSound Tryz.prog 79 pIn := by
 refine psoundB (rs := [.tmp 6]) Tryz.func79 Tryz.ntmps79 (by rfl) (by kernel_rfl) (by decide) pIn_flat ⟨_, rfl, ?_⟩
 rintro xs ⟨n, lo, hi, rfl⟩ _
 refine ⟨lb rfl, ?_⟩
 have hΓ := @no_sound Tryz.prog
 repeat refine sq ?_
 refine cl_rs hΓ [0,1,2] [] fun K' hK => ?_
 simp only [go_sem]
 repeat (refine ⟨ob0, ?_⟩)
 refine hK _ ?_ ?_ <;> clear K' hK <;> simp only [go_sem]
 repeat refine sq ?_
 refine cl_rs hΓ [6] [] fun K' hK => ?_
 simp only [go_sem]
 repeat (refine ⟨ob0, ?_⟩)
 refine hK _ ?_ ?_ <;> clear K' hK <;> simp only [go_sem]
 refine cl_ret ?_
 simp only [go_sem]
 all_goals first | rfl | (simp; done) | (simp_all; done)
theorem s150 : PSound Tryz.prog 150 (pIB fun _ => false) := by
 refine psoundB (rs := [.tmp 2]) Tryz.func150 Tryz.ntmps150 (by rfl) (by kernel_rfl) (by decide) (pIB_flat _) ⟨_, rfl, ?_⟩
 rintro xs ⟨n, rfl⟩ _
 refine ⟨lb rfl, ?_⟩
 have hΓ := @no_sound Tryz.prog
 repeat refine sq ?_
 refine cl_rs hΓ [0] [] fun K' hK => ?_
 simp only [go_sem]
 repeat (refine ⟨ob0, ?_⟩)
 refine hK _ ?_ ?_ <;> clear K' hK <;> simp only [go_sem]
 repeat refine sq ?_
 refine cl_rs hΓ [2] [] fun K' hK => ?_
 simp only [go_sem]
 repeat (refine ⟨ob0, ?_⟩)
 refine hK _ ?_ ?_ <;> clear K' hK <;> simp only [go_sem]
 refine cl_ret ?_
 simp only [go_sem]
 all_goals first | rfl | (simp; done) | (simp_all; done)
def K1 : FuncId → Option Spec := fun f => match f with
 | 151 => some pIn.toSpec
 | 79 => some pIn.toSpec
 | 150 => some (pIB fun _ => false).toSpec
 | _ => none
theorem K1_sound : ∀ f s, K1 f = some s → SSound Tryz.prog f s := by
 intro f s h
 unfold K1 at h
 split at h
 ·cases h; exact s151.sound
 ·cases h; exact s79.sound
 ·cases h; exact s150.sound
 ·cases h
@[go_sem] theorem K1_151 : K1 151 = some pIn.toSpec := rfl
@[go_sem] theorem K1_79 : K1 79 = some pIn.toSpec := rfl
@[go_sem] theorem K1_150 : K1 150 = some (pIB fun _ => false).toSpec := rfl
theorem s134 : PSound Tryz.prog 134 (pIB fun n => inI n 0 100000) := by
 refine psoundB (rs := [.tmp 2]) Tryz.func134 Tryz.ntmps134 (by rfl) (by kernel_rfl) (by decide) (pIB_flat _) ⟨_, rfl, ?_⟩
 rintro xs ⟨n, rfl⟩ _
 refine ⟨lb rfl, ?_⟩
 have hΓ := K1_sound
 repeat refine sq ?_
 refine cl_rs hΓ [0] [] fun K' hK => ?_
 simp only [go_sem]
 repeat (refine ⟨ob0, ?_⟩)
 refine hK _ ?_ ?_ <;> clear K' hK <;> simp only [go_sem]
 repeat refine sq ?_
 refine cl_rs hΓ [2] [] fun K' hK => ?_
 simp only [go_sem]
 repeat (refine ⟨ob0, ?_⟩)
 refine hK _ ?_ ?_ <;> clear K' hK <;> simp only [go_sem]
 refine cl_ret ?_
 simp only [go_sem]
 all_goals first | rfl | (simp; done) | (simp_all; done)
theorem s109 : PSound Tryz.prog 109 (pIB fun n => inI n 1 99) := by
 refine psoundB (rs := [.tmp 2]) Tryz.func109 Tryz.ntmps109 (by rfl) (by kernel_rfl) (by decide) (pIB_flat _) ⟨_, rfl, ?_⟩
 rintro xs ⟨n, rfl⟩ _
 refine ⟨lb rfl, ?_⟩
 have hΓ := K1_sound
 repeat refine sq ?_
 refine cl_rs hΓ [0] [] fun K' hK => ?_
 simp only [go_sem]
 repeat (refine ⟨ob0, ?_⟩)
 refine hK _ ?_ ?_ <;> clear K' hK <;> simp only [go_sem]
 repeat refine sq ?_
 refine cl_rs hΓ [2] [] fun K' hK => ?_
 simp only [go_sem]
 repeat (refine ⟨ob0, ?_⟩)
 refine hK _ ?_ ?_ <;> clear K' hK <;> simp only [go_sem]
 refine cl_ret ?_
 simp only [go_sem]
 all_goals first | rfl | (simp; done) | (simp_all; done)
theorem s145 : PSound Tryz.prog 145 (pIB fun n => inI n 1 3) := by
 refine psoundB (rs := [.tmp 2]) Tryz.func145 Tryz.ntmps145 (by rfl) (by kernel_rfl) (by decide) (pIB_flat _) ⟨_, rfl, ?_⟩
 rintro xs ⟨n, rfl⟩ _
 refine ⟨lb rfl, ?_⟩
 have hΓ := K1_sound
 repeat refine sq ?_
 refine cl_rs hΓ [0] [] fun K' hK => ?_
 simp only [go_sem]
 repeat (refine ⟨ob0, ?_⟩)
 refine hK _ ?_ ?_ <;> clear K' hK <;> simp only [go_sem]
 repeat refine sq ?_
 refine cl_rs hΓ [2] [] fun K' hK => ?_
 simp only [go_sem]
 repeat (refine ⟨ob0, ?_⟩)
 refine hK _ ?_ ?_ <;> clear K' hK <;> simp only [go_sem]
 refine cl_ret ?_
 simp only [go_sem]
 all_goals first | rfl | (simp; done) | (simp_all; done)
theorem s25 : PSound Tryz.prog 25 (pIB fun n => inI n 0 100000) := by
 refine psoundB (rs := [.tmp 2]) Tryz.func25 Tryz.ntmps25 (by rfl) (by kernel_rfl) (by decide) (pIB_flat _) ⟨_, rfl, ?_⟩
 rintro xs ⟨n, rfl⟩ _
 refine ⟨lb rfl, ?_⟩
 have hΓ := K1_sound
 repeat refine sq ?_
 refine cl_rs hΓ [0] [] fun K' hK => ?_
 simp only [go_sem]
 repeat (refine ⟨ob0, ?_⟩)
 refine hK _ ?_ ?_ <;> clear K' hK <;> simp only [go_sem]
 repeat refine sq ?_
 refine cl_rs hΓ [2] [] fun K' hK => ?_
 simp only [go_sem]
 repeat (refine ⟨ob0, ?_⟩)
 refine hK _ ?_ ?_ <;> clear K' hK <;> simp only [go_sem]
 refine cl_ret ?_
 simp only [go_sem]
 all_goals first | rfl | (simp; done) | (simp_all; done)
structure Deed where
 pa : Int
 no : Int
 ki : Int
 lo : Int
 pe : Int
 dl : Int
 dh : Int
 kn : Int
 un : Int
def encD (d : Deed) : V := .agg [vInt d.pa, vInt d.no, vInt d.ki, vInt d.lo, vInt d.pe, vInt d.dl, vInt d.dh, vInt d.kn, vInt d.un]
theorem xD {a b c d e f g h i : Int} : ∃ x : Deed, V.agg [vInt a, vInt b, vInt c, vInt d, vInt e, vInt f, vInt g, vInt h, vInt i] = V.agg [vInt x.pa, vInt x.no, vInt x.ki, vInt x.lo, vInt x.pe, vInt x.dl, vInt x.dh, vInt x.kn, vInt x.un] := ⟨⟨a, b, c, d, e, f, g, h, i⟩, rfl⟩
theorem xDD {a b c d e f g h i a' b' c' d' e' f' g' h' i' : Int} : ∃ x y : Deed, V.agg [vInt a, vInt b, vInt c, vInt d, vInt e, vInt f, vInt g, vInt h, vInt i] = V.agg [vInt x.pa, vInt x.no, vInt x.ki, vInt x.lo, vInt x.pe, vInt x.dl, vInt x.dh, vInt x.kn, vInt x.un] ∧ V.agg [vInt a', vInt b', vInt c', vInt d', vInt e', vInt f', vInt g', vInt h', vInt i'] = V.agg [vInt y.pa, vInt y.no, vInt y.ki, vInt y.lo, vInt y.pe, vInt y.dl, vInt y.dh, vInt y.kn, vInt y.un] := ⟨⟨a, b, c, d, e, f, g, h, i⟩, ⟨a', b', c', d', e', f', g', h', i'⟩, rfl, rfl⟩
theorem ob {p : Prop} (h : p := by first | exact Bool.or_not_self _ | exact Bool.not_or_self _ | exact fun _ => by decide | exact fun h => ⟨h, by decide⟩ | omega | (simp only [decide_eq_true_eq]; omega) | exact xD | exact fun h => ⟨h, xD⟩ | exact xDD | exact fun h => ⟨h, xDD⟩ | exact ⟨_, rfl⟩ | exact fun h => ⟨h, _, rfl⟩ | exact ⟨_, _, rfl⟩ | exact fun h => ⟨h, _, _, rfl⟩ | exact fun h => ⟨h, _, _, _, rfl⟩ | exact ⟨_, _, _, _, rfl⟩ | exact fun h => ⟨h, _, _, _, _, rfl⟩ | exact ⟨[_, _], rfl⟩ | (simp; done) | (simp_all; done) | (simp_all; omega)) : p := h
theorem rs {P : Program} {Γ : FuncId → Option Spec} (hΓ : ∀ f s, Γ f = some s → SSound P f s) {id : Nat} {l : List Oper} {c : Code} {r : List Code} {σ τ : S} {K : Exit → S → Prop} (ks : List Nat) (ns : List Name) (h : CL P (c :: r) τ K)
  (h' : ∀ K' : S → Prop, (∀ σ', clS ks ns σ' → keepS ks ns σ' = τ → K' σ') → Reg P Γ l.toArray l σ K' := by intro K' hK; simp only [go_sem]; (repeat (refine ⟨ob, ?_⟩)); exact hK _ (by simp only [go_sem]) (by simp only [go_sem] <;> rfl)) : CL P (.region id l.toArray false :: c :: r) σ K :=
 cl_rs hΓ ks ns fun K' hK => h' K' fun σ' hc he => hK σ' hc (he ▸ h)
theorem kp {P : Program} {c : Code} {r : List Code} {σ τ : S} {K : Exit → S → Prop} (ks : List Nat) (ns : List Name) (hc : CL P (c :: r) τ K) (h : clS ks ns σ := by simp only [go_sem]) (he : keepS ks ns σ = τ := by simp only [go_sem] <;> rfl) : CL P (c :: r) σ K :=
 cl_keep ks ns h (he ▸ hc)
theorem wq {σ τ : S} (ks : List Nat) (ns : List Name) (he : keepS ks ns σ = τ) (h : clS ks ns σ := by simp only [go_sem]) : Weak σ τ := weak_eq ks ns h he
theorem rt {P : Program} {r : List Code} {σ : S} {K : Exit → S → Prop} (h : K .ret σ := by simp only [go_sem]) : CL P (.ret :: r) σ K := cl_ret h
theorem fin {p : Prop} (h : p := by (repeat (refine ⟨ob, ?_⟩)); exact hK _ (by simp only [go_sem]) (by simp only [go_sem] <;> rfl)) : p := h
theorem rx {P : Program} {Γ : FuncId → Option Spec} (hΓ : ∀ f s, Γ f = some s → SSound P f s) {id : Nat} {l : List Oper} {c : Code} {r : List Code} {σ τ : S} {K : Exit → S → Prop} (ks : List Nat) (ns : List Name)
  (h' : ∀ K' : S → Prop, (∀ σ', clS ks ns σ' → keepS ks ns σ' = τ → K' σ') → Reg P Γ l.toArray l σ K') (h : CL P (c :: r) τ K) : CL P (.region id l.toArray false :: c :: r) σ K :=
 cl_rs hΓ ks ns fun K' hK => h' K' fun σ' hc he => hK σ' hc (he ▸ h)
theorem re {P : Program} {Γ : FuncId → Option Spec} (hΓ : ∀ f s, Γ f = some s → SSound P f s) {id : Nat} {l : List Oper} {c : Code} {r : List Code} {σ τ : S} {K K1 : Exit → S → Prop} (ks : List Nat) (ns : List Name) (hn : ∀ σ', CL P (c :: r) σ' K1 → K .normal σ') (h : CL P (c :: r) τ K1)
  (h' : ∀ K' : S → Prop, (∀ σ', clS ks ns σ' → keepS ks ns σ' = τ → K' σ') → Reg P Γ l.toArray l σ K' := by intro K' hK; simp only [go_sem]; exact fin) : CL P [.region id l.toArray false] σ K :=
 cl_r hΓ fun K' hK => h' K' fun σ' hc he => hK σ' (hn σ' (cl_keep ks ns hc (he ▸ h)))
def pD (g : Deed → V) : PSpec := ⟨fun xs => ∃ d, xs = [encD d], fun xs => match xs with | [.agg [.int _ a, .int _ b, .int _ c, .int _ d, .int _ e, .int _ f, .int _ g', .int _ h, .int _ i]] => g ⟨a, b, c, d, e, f, g', h, i⟩ | _ => .bool false, true⟩
theorem pD_flat {g : Deed → V} (hg : ∀ d, (g d).flat = true) : (pD g).flat = true → ∀ xs, (pD g).pre xs → ((pD g).fn xs).flat = true := by
 rintro _ xs ⟨d, rfl⟩; exact hg d
def K2 : FuncId → Option Spec := fun f => match f with
 | 134 => some (pIB fun n => inI n 0 100000).toSpec
 | 109 => some (pIB fun n => inI n 1 99).toSpec
 | 145 => some (pIB fun n => inI n 1 3).toSpec
 | 25 => some (pIB fun n => inI n 0 100000).toSpec
 | f => K1 f
theorem K2_sound : ∀ f s, K2 f = some s → SSound Tryz.prog f s := by
 intro f s h
 unfold K2 at h
 split at h
 ·cases h; exact s134.sound
 ·cases h; exact s109.sound
 ·cases h; exact s145.sound
 ·cases h; exact s25.sound
 ·exact K1_sound _ _ h
@[go_sem] theorem K2_134 : K2 134 = some (pIB fun n => inI n 0 100000).toSpec := rfl
@[go_sem] theorem K2_109 : K2 109 = some (pIB fun n => inI n 1 99).toSpec := rfl
@[go_sem] theorem K2_145 : K2 145 = some (pIB fun n => inI n 1 3).toSpec := rfl
@[go_sem] theorem K2_25 : K2 25 = some (pIB fun n => inI n 0 100000).toSpec := rfl
@[go_sem] theorem K2_151 : K2 151 = some pIn.toSpec := rfl
@[go_sem] theorem K2_79 : K2 79 = some pIn.toSpec := rfl
attribute [go_sem] pD encD
def isDeedB (d : Deed) : Bool :=
 inI d.pa 0 5 && inI d.no 0 9999 && inI d.dl 0 d.dh && inI d.dh 0 100000 && inI d.kn 0 100000 && (d.un == 0 || inI d.un (IntKind.i64.wrap (d.kn + 1)) 100000) &&
  (if d.ki = 1 ∨ d.ki = 2 then d.lo == 0 && inI d.pe 1 99 else if d.ki = 3 ∨ d.ki = 4 then inI d.lo 1 3 && inI d.pe 1 99 else if d.ki = 5 ∨ d.ki = 6 then inI d.lo 1 3 && d.pe == 0 else false)
set_option maxHeartbeats 4000000 in
theorem s97 : PSound Tryz.prog 97 (pD fun d => .bool (isDeedB d)) := by
 refine psoundB (rs := [.tmp 2]) Tryz.func97 Tryz.ntmps97 (by rfl) (by kernel_rfl) (by decide) (pD_flat fun _ => rfl) ⟨_, rfl, ?_⟩
 rintro xs ⟨⟨pa, no, ki, lo, pe, dl, dh, kn, un⟩, rfl⟩ _
 refine ⟨lb rfl, ?_⟩
 have hΓ := K2_sound
 have hP := mixedK
 repeat refine sq ?_
 refine rs hΓ [1] [[1, 0]] ?_
 repeat refine sq ?_
 refine rs hΓ [1,31] [[1, 0]] ?_
 repeat refine sq ?_
 refine cl_cond rfl rfl (fun hb => ?_) fun hb => ?_
 ·repeat refine sq ?_
  refine rs hΓ [2] [] ?_
  refine cl_ret ?_
  simp only [go_sem]
  all_goals first | rfl | (simp; done) | (grind [isDeedB]; done)
 ·repeat refine sq ?_
  refine cl_skip ?_
  repeat refine sq ?_
  refine rs hΓ [1,49] [[1, 0]] ?_
  repeat refine sq ?_
  refine cl_cond rfl rfl (fun hb => ?_) fun hb => ?_
  ·repeat refine sq ?_
   refine rs hΓ [2] [] ?_
   refine cl_ret ?_
   simp only [go_sem]
   all_goals first | rfl | (simp; done) | (grind [isDeedB]; done)
  ·repeat refine sq ?_
   refine cl_skip ?_
   repeat refine sq ?_
   refine rs hΓ [1,51] [[1, 0]] ?_
   repeat refine sq ?_
   refine cl_block ?_
   repeat refine sq ?_
   refine rs hΓ [1,51,52] [[1, 0]] ?_
   repeat refine sq ?_
   refine cl_cond rfl rfl (fun hb => ?_) fun hb => ?_
   ·repeat refine sq ?_
    refine cl_skip ?_
    repeat refine sq ?_
    refine cl_cond rfl rfl (fun hb => ?_) fun hb => ?_
    ·repeat refine sq ?_
     refine rs hΓ [2] [] ?_
     refine cl_ret ?_
     simp only [go_sem]
     all_goals first | rfl | (simp; done) | (grind [isDeedB]; done)
    ·repeat refine sq ?_
     refine rs hΓ [1,51,63] [[1, 0]] ?_
     repeat refine sq ?_
     refine cl_cond rfl rfl (fun hb => ?_) fun hb => ?_
     ·repeat refine sq ?_
      refine cl_skip ?_
      repeat refine sq ?_
      refine cl_cond rfl rfl (fun hb => ?_) fun hb => ?_
      ·repeat refine sq ?_
       refine rs hΓ [2] [] ?_
       refine cl_ret ?_
       simp only [go_sem]
       all_goals first | rfl | (simp; done) | (grind [isDeedB]; done)
      ·repeat refine sq ?_
       refine rs hΓ [1,51,74] [[1, 0]] ?_
       repeat refine sq ?_
       refine cl_cond rfl rfl (fun hb => ?_) fun hb => ?_
       ·repeat refine sq ?_
        refine cl_skip ?_
        repeat refine sq ?_
        refine cl_cond rfl rfl (fun hb => ?_) fun hb => ?_
        ·repeat refine sq ?_
         refine rs hΓ [2] [] ?_
         refine cl_ret ?_
         simp only [go_sem]
         all_goals first | rfl | (simp; done) | (grind [isDeedB]; done)
        ·repeat refine sq ?_
         refine cl_skip ?_
         refine cl_nil ?_
         simp only [go_sem]
         refine cl_keep [] [] ?_ ?_ <;> simp only [go_sem]
         repeat refine sq ?_
         refine rs hΓ [2] [] ?_
         refine cl_ret ?_
         simp only [go_sem]
         all_goals first | rfl | (simp; done) | (grind [isDeedB]; done)
       ·repeat refine sq ?_
        refine rs hΓ [1,74] [[1, 0]] ?_
        repeat refine sq ?_
        refine cl_cond rfl rfl (fun hb => ?_) fun hb => ?_
        ·repeat refine sq ?_
         refine rs hΓ [2] [] ?_
         refine cl_ret ?_
         simp only [go_sem]
         all_goals first | rfl | (simp; done) | (grind [isDeedB]; done)
        ·repeat refine sq ?_
         refine cl_skip ?_
         refine cl_nil ?_
         simp only [go_sem]
         refine cl_keep [] [] ?_ ?_ <;> simp only [go_sem]
         repeat refine sq ?_
         refine rs hΓ [2] [] ?_
         refine cl_ret ?_
         simp only [go_sem]
         all_goals first | rfl | (simp; done) | (grind [isDeedB]; done)
     ·repeat refine sq ?_
      refine rs hΓ [1,51,63] [[1, 0]] ?_
      repeat refine sq ?_
      refine cl_cond rfl rfl (fun hb => ?_) fun hb => ?_
      ·repeat refine sq ?_
       refine rs hΓ [2] [] ?_
       refine cl_ret ?_
       simp only [go_sem]
       all_goals first | rfl | (simp; done) | (grind [isDeedB]; done)
      ·repeat refine sq ?_
       refine rs hΓ [1,51,74] [[1, 0]] ?_
       repeat refine sq ?_
       refine cl_cond rfl rfl (fun hb => ?_) fun hb => ?_
       ·repeat refine sq ?_
        refine cl_skip ?_
        repeat refine sq ?_
        refine cl_cond rfl rfl (fun hb => ?_) fun hb => ?_
        ·repeat refine sq ?_
         refine rs hΓ [2] [] ?_
         refine cl_ret ?_
         simp only [go_sem]
         all_goals first | rfl | (simp; done) | (grind [isDeedB]; done)
        ·repeat refine sq ?_
         refine cl_skip ?_
         refine cl_nil ?_
         simp only [go_sem]
         refine cl_keep [] [] ?_ ?_ <;> simp only [go_sem]
         repeat refine sq ?_
         refine rs hΓ [2] [] ?_
         refine cl_ret ?_
         simp only [go_sem]
         all_goals first | rfl | (simp; done) | (grind [isDeedB]; done)
       ·repeat refine sq ?_
        refine rs hΓ [1,74] [[1, 0]] ?_
        repeat refine sq ?_
        refine cl_cond rfl rfl (fun hb => ?_) fun hb => ?_
        ·repeat refine sq ?_
         refine rs hΓ [2] [] ?_
         refine cl_ret ?_
         simp only [go_sem]
         all_goals first | rfl | (simp; done) | (grind [isDeedB]; done)
        ·repeat refine sq ?_
         refine cl_skip ?_
         refine cl_nil ?_
         simp only [go_sem]
         refine cl_keep [] [] ?_ ?_ <;> simp only [go_sem]
         repeat refine sq ?_
         refine rs hΓ [2] [] ?_
         refine cl_ret ?_
         simp only [go_sem]
         all_goals first | rfl | (simp; done) | (grind [isDeedB]; done)
   ·repeat refine sq ?_
    refine rs hΓ [1,51,52] [[1, 0]] ?_
    repeat refine sq ?_
    refine cl_cond rfl rfl (fun hb => ?_) fun hb => ?_
    ·repeat refine sq ?_
     refine rs hΓ [2] [] ?_
     refine cl_ret ?_
     simp only [go_sem]
     all_goals first | rfl | (simp; done) | (grind [isDeedB]; done)
    ·repeat refine sq ?_
     refine rs hΓ [1,51,63] [[1, 0]] ?_
     repeat refine sq ?_
     refine cl_cond rfl rfl (fun hb => ?_) fun hb => ?_
     ·repeat refine sq ?_
      refine cl_skip ?_
      repeat refine sq ?_
      refine cl_cond rfl rfl (fun hb => ?_) fun hb => ?_
      ·repeat refine sq ?_
       refine rs hΓ [2] [] ?_
       refine cl_ret ?_
       simp only [go_sem]
       all_goals first | rfl | (simp; done) | (grind [isDeedB]; done)
      ·repeat refine sq ?_
       refine rs hΓ [1,51,74] [[1, 0]] ?_
       repeat refine sq ?_
       refine cl_cond rfl rfl (fun hb => ?_) fun hb => ?_
       ·repeat refine sq ?_
        refine cl_skip ?_
        repeat refine sq ?_
        refine cl_cond rfl rfl (fun hb => ?_) fun hb => ?_
        ·repeat refine sq ?_
         refine rs hΓ [2] [] ?_
         refine cl_ret ?_
         simp only [go_sem]
         all_goals first | rfl | (simp; done) | (grind [isDeedB]; done)
        ·repeat refine sq ?_
         refine cl_skip ?_
         refine cl_nil ?_
         simp only [go_sem]
         refine cl_keep [] [] ?_ ?_ <;> simp only [go_sem]
         repeat refine sq ?_
         refine rs hΓ [2] [] ?_
         refine cl_ret ?_
         simp only [go_sem]
         all_goals first | rfl | (simp; done) | (grind [isDeedB]; done)
       ·repeat refine sq ?_
        refine rs hΓ [1,74] [[1, 0]] ?_
        repeat refine sq ?_
        refine cl_cond rfl rfl (fun hb => ?_) fun hb => ?_
        ·repeat refine sq ?_
         refine rs hΓ [2] [] ?_
         refine cl_ret ?_
         simp only [go_sem]
         all_goals first | rfl | (simp; done) | (grind [isDeedB]; done)
        ·repeat refine sq ?_
         refine cl_skip ?_
         refine cl_nil ?_
         simp only [go_sem]
         refine cl_keep [] [] ?_ ?_ <;> simp only [go_sem]
         repeat refine sq ?_
         refine rs hΓ [2] [] ?_
         refine cl_ret ?_
         simp only [go_sem]
         all_goals first | rfl | (simp; done) | (grind [isDeedB]; done)
     ·repeat refine sq ?_
      refine rs hΓ [1,51,63] [[1, 0]] ?_
      repeat refine sq ?_
      refine cl_cond rfl rfl (fun hb => ?_) fun hb => ?_
      ·repeat refine sq ?_
       refine rs hΓ [2] [] ?_
       refine cl_ret ?_
       simp only [go_sem]
       all_goals first | rfl | (simp; done) | (grind [isDeedB]; done)
      ·repeat refine sq ?_
       refine rs hΓ [1,51,74] [[1, 0]] ?_
       repeat refine sq ?_
       refine cl_cond rfl rfl (fun hb => ?_) fun hb => ?_
       ·repeat refine sq ?_
        refine cl_skip ?_
        repeat refine sq ?_
        refine cl_cond rfl rfl (fun hb => ?_) fun hb => ?_
        ·repeat refine sq ?_
         refine rs hΓ [2] [] ?_
         refine cl_ret ?_
         simp only [go_sem]
         all_goals first | rfl | (simp; done) | (grind [isDeedB]; done)
        ·repeat refine sq ?_
         refine cl_skip ?_
         refine cl_nil ?_
         simp only [go_sem]
         refine cl_keep [] [] ?_ ?_ <;> simp only [go_sem]
         repeat refine sq ?_
         refine rs hΓ [2] [] ?_
         refine cl_ret ?_
         simp only [go_sem]
         all_goals first | rfl | (simp; done) | (grind [isDeedB]; done)
       ·repeat refine sq ?_
        refine rs hΓ [1,74] [[1, 0]] ?_
        repeat refine sq ?_
        refine cl_cond rfl rfl (fun hb => ?_) fun hb => ?_
        ·repeat refine sq ?_
         refine rs hΓ [2] [] ?_
         refine cl_ret ?_
         simp only [go_sem]
         all_goals first | rfl | (simp; done) | (grind [isDeedB]; done)
        ·repeat refine sq ?_
         refine cl_skip ?_
         refine cl_nil ?_
         simp only [go_sem]
         refine cl_keep [] [] ?_ ?_ <;> simp only [go_sem]
         repeat refine sq ?_
         refine rs hΓ [2] [] ?_
         refine cl_ret ?_
         simp only [go_sem]
         all_goals first | rfl | (simp; done) | (grind [isDeedB]; done)
def WeakM (σ σ' : S) : Prop :=
 ∀ (G : Ghost) (φ : Name → Loc) (m : Mem) (a : Act) (w : World), Conc G φ m σ a w → ∃ φ' m', Conc G φ' m' σ' a w
theorem Weak.toM {σ σ' : S} (h : Weak σ σ') : WeakM σ σ' := fun G φ m a w hC => by
 obtain ⟨φ', h'⟩ := h G φ m a w hC
 exact ⟨φ', m, h'⟩
theorem WeakM.refl (σ : S) : WeakM σ σ := (Weak.refl σ).toM
theorem WeakM.trans {a b c : S} (h : WeakM a b) (k : WeakM b c) : WeakM a c := fun G φ m x w hC => by
 obtain ⟨φ', m', h'⟩ := h G φ m x w hC
 exact k G φ' m' x w h'
theorem weakM_frz {σ : S} (t : Nat) (d : D) (he : σ.env t = ⟨true, d⟩) (hok : (frz 6 σ.obj d).ok) :
  WeakM σ ⟨σ.nt, upd σ.env t ⟨true, .v (frz 6 σ.obj d).x⟩, (frz 6 σ.obj d).obj, σ.pre, σ.base⟩ := by
 intro G φ m a w hC
 have ht := hC.tmps t
 rw [he] at ht
 unfold RepE at ht
 simp only [if_true] at ht
 obtain ⟨m2, h6, h7, _, h8, _⟩ := frz_ok 6 _ _ _ _ _ _ hC _ _ ht hok
 refine ⟨φ, m2, { h7 with tmps := fun x => ?_ }⟩
 by_cases hxt : x = t
 ·subst hxt
  simp only [upd_same]
  unfold RepE
  simp only [if_true]
  exact .v _ _ h8
 ·have := h7.tmps x
  simp only [upd_ne _ _ _ hxt]
  exact this
theorem cw_weakM {P : Program} {c : Code} {σ σ' : S} {K : Exit → S → Prop} (hw : WeakM σ σ') (h : CW P c σ' K) : CW P c σ K := by
 intro G φ m a w hC
 obtain ⟨φ', m', hC'⟩ := hw G φ m a w hC
 exact h G φ' m' a w hC'
theorem cl_weakM {P : Program} {c : Code} {r : List Code} {σ σ' : S} {K : Exit → S → Prop} (hw : WeakM σ σ') (h : CL P (c :: r) σ' K) : CL P (c :: r) σ K := cw_weakM hw h
theorem cl_rw {P : Program} {Γ : FuncId → Option Spec} (hΓ : ∀ f s, Γ f = some s → SSound P f s) {id : Nat} {l : List Oper} {c : Code} {r : List Code} {σ : S} {K : Exit → S → Prop} (τ : S)
  (h : CL P (c :: r) τ K) (h' : ∀ K' : S → Prop, (∀ σ', WeakM σ' τ → K' σ') → Reg P Γ l.toArray l σ K') : CL P (.region id l.toArray false :: c :: r) σ K :=
 cw_region hΓ fun K' hK => h' K' fun σ' hw => hK σ' (cl_weakM hw h)
theorem cl_dw {P : Program} {Γ : FuncId → Option Spec} (hΓ : ∀ f s, Γ f = some s → SSound P f s) (hP : P.follows .mixedOrders = true) {id : Nat} {l : List Oper} {c : Code} {r : List Code} {σ : S} {K : Exit → S → Prop} (az : List (List Nat)) (τ : S)
  (hs : statOk l.toArray az = true) (h : CL P (c :: r) τ K) (h' : ∀ K' : S → Prop, (∀ σ', WeakM σ' τ → K' σ') → RegE P Γ l.toArray 0 az l [] σ K') : CL P (.region id l.toArray true :: c :: r) σ K :=
 cw_drawn hΓ hP az hs fun K' hK => h' K' fun σ' hw => hK σ' (cl_weakM hw h)
theorem weakM_keep {σ τ : S} (ks : List Nat) (ns : List Name) (h : clS ks ns σ) (he : keepS ks ns σ = τ) : WeakM σ τ := (weak_eq ks ns h he).toM
theorem weakM_frzk {σ τ : S} (t : Nat) (d : D) (he : σ.env t = ⟨true, d⟩) (hok : (frz 6 σ.obj d).ok) (ks : List Nat) (ns : List Name)
  (h : clS ks ns ⟨σ.nt, upd σ.env t ⟨true, .v (frz 6 σ.obj d).x⟩, (frz 6 σ.obj d).obj, σ.pre, σ.base⟩) (hk : keepS ks ns ⟨σ.nt, upd σ.env t ⟨true, .v (frz 6 σ.obj d).x⟩, (frz 6 σ.obj d).obj, σ.pre, σ.base⟩ = τ) : WeakM σ τ :=
 (weakM_frz t d he hok).trans (weakM_keep ks ns h hk)
theorem weakM_ghostk {σ τ : S} (t : Nat) (nm : Name) (sz : Nat) (he : σ.env t = ⟨true, .nilsl⟩) (hn : σ.obj nm = none) (ks : List Nat) (ns : List Name)
  (h : clS ks ns ⟨σ.nt, upd σ.env t ⟨true, .msl nm 0⟩, upd σ.obj nm (some (.arr sz [])), σ.pre, σ.base⟩) (hk : keepS ks ns ⟨σ.nt, upd σ.env t ⟨true, .msl nm 0⟩, upd σ.obj nm (some (.arr sz [])), σ.pre, σ.base⟩ = τ) : WeakM σ τ :=
 (weak_ghost t nm sz he hn).toM.trans (weakM_keep ks ns h hk)
theorem own_out01 (i : Nat) : own [0] [i, 1] = false := by simp [own]
theorem mkS_ifu (n : Nat) (p : Name) (F H : Name → Option O) (x : Name) (o : Option O) (l : List (Nat × E)) (h : List (Name × O)) :
  mkS n p (upd (fun nm => if own p nm = true then F nm else H nm) x o) l h = mkS n p (upd H x o) l h :=
 mkS_same fun nm hn => by
  by_cases e : nm = x
  ·subst e; rw [upd_same, upd_same]
  ·rw [upd_ne _ _ _ e, upd_ne _ _ _ e]; simp [hn]
theorem OutC_ifu (p : Name) (dom : Name → Bool) (F H : Name → Option O) (x : Name) (o : Option O) :
  OutC p dom (upd (fun nm => if own p nm = true then F nm else H nm) x o) = OutC p dom (upd H x o) := by
 have e : ∀ nm, own p nm = false → upd (fun nm => if own p nm = true then F nm else H nm) x o nm = upd H x o nm := fun nm hn => by
  by_cases e : nm = x
  ·subst e; rw [upd_same, upd_same]
  ·rw [upd_ne _ _ _ e, upd_ne _ _ _ e]; simp [hn]
 exact propext ⟨fun k nm q hn h => k nm q hn (by rw [e nm hn]; exact h), fun k nm q hn h => k nm q hn (by rw [← e nm hn]; exact h)⟩
theorem upd_upd {α β : Type} [DecidableEq α] (f : α → β) (a : α) (b c : β) : upd (upd f a b) a c = upd f a c := by
 funext x
 by_cases e : x = a
 ·subst e; rw [upd_same, upd_same]
 ·rw [upd_ne _ _ _ e, upd_ne _ _ _ e, upd_ne _ _ _ e]
theorem outH_one (sz : Nat) (L : List V) : ∃ H, H = outH [.arr sz L] ∧ H [0, 1] = some (.arr sz L) ∧ (∀ hs, OutC [0] (domOf [0] hs) H = True) ∧ ∀ hs sz' L', OutC [0] (domOf [0] hs) (upd H [0, 1] (some (.arr sz' L'))) = True := by
 have h1 : ∀ hs, OutC [0] (domOf [0] hs) (outH [.arr sz L]) := by
  intro hs nm o hn h
  unfold outH at h
  split at h
  ·rename_i i
   cases i with
   | zero => simp at h; subst h; rfl
   | succ i => simp at h
  ·cases h
 exact ⟨_, rfl, rfl, fun hs => eq_true (h1 hs), fun hs sz' L' => eq_true (OutC_set rfl (h1 hs))⟩
theorem beq10 : (([1] : List Nat) == [0]) = false := rfl
theorem beqn0 : (([] : List Nat) == [0]) = false := rfl
theorem toArr_none {α : Type} : (none : Option α).toArray.toList = [] := rfl
theorem toArr_some {α : Type} (a : α) : (some a).toArray.toList = [a] := rfl
theorem toNat0 : Int.toNat 0 = 0 := rfl
theorem take_drop_all {α : Type} (L : List α) (i : Nat) : List.take (L.length - i) (L.drop i) = L.drop i := List.take_of_length_le (by simp)
theorem take_drop_map {α β : Type} (f : α → β) (L : List α) (i : Nat) : List.take (L.length - i) ((L.map f).drop i) = (L.map f).drop i := List.take_of_length_le (by simp)
attribute [go_sem] toArr_none toArr_some toNat0 take_drop_all take_drop_map Nat.sub_zero beq10 beqn0 own_out01 mkS_ifu OutC_ifu upd_upd
end Go.Eng
