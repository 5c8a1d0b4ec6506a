import Derived.Test.YtepaolcgegdpoaaGreatK8
/- Texts LW33 to LW46. -/
set_option linter.all false
namespace Go.Eng
open Go Go.Proofs
set_option maxHeartbeats 8000000
noncomputable section
def eS (l : Led) (k : Int) : Int := soE (pairK (lookV l k)) (fitB (lookV l k) (sgK (lookV l k).l k))
theorem sound_no {l : Led} {k : Int} (h : soundB l k = false) : soN (pairK (lookV l k)) (fitB (lookV l k) (sgK (lookV l k).l k)) (lookV l k) k = [] ∧ soR (pairK (lookV l k)) (fitB (lookV l k) (sgK (lookV l k).l k)) = .tup [.v .nilp, .v (vInt (eS l k))] ∧ (eS l k != 0) = true := by
 unfold soundB at h
 unfold eS
 cases hp : pairK (lookV l k) with
 | some p =>
  cases fitB (lookV l k) (sgK (lookV l k).l k) <;> exact ⟨rfl, rfl, rfl⟩
 | none =>
  rw [hp] at h
  have h2 : fitB (lookV l k) (sgK (lookV l k).l k) = false := by simpa using h
  rw [h2]
  exact ⟨rfl, rfl, rfl⟩
theorem sound_yes {l : Led} {k : Int} (h : soundB l k = true) : soN (pairK (lookV l k)) (fitB (lookV l k) (sgK (lookV l k).l k)) (lookV l k) k = vNew (svK (lookV l k) k) [11, 0, 11, 0] ∧ soR (pairK (lookV l k)) (fitB (lookV l k) (sgK (lookV l k).l k)) = .tup [.ref [26, 0, 11, 0, 11, 0] 0, .v (vInt 0)] ∧ eS l k = 0 := by
 unfold soundB at h
 simp only [Bool.and_eq_true, Option.isNone_iff_eq_none] at h
 unfold eS
 rw [h.1, h.2]
 exact ⟨rfl, rfl, rfl⟩
theorem svK_ok {l : Led} (h : OkL l) (k : Int) : VOk (svK (lookV l k) k) ∧ (svK (lookV l k) k).rs.Nodup := ⟨(lookV_ok h k).1.ds _, (lookV_ok h k).2⟩
def ansP (a b c : Int) : Int := if a = c then 1 else if b < c then 0 else 2
@[go_sem] def P81 : PSpec := p3 iI iI iI (fun _ _ _ => True) (fun a b c => vInt (ansP a b c)) true
@[go_sem] def S81 : Spec := P81.toSpec
theorem s81 : PSound Tryz.prog 81 P81 := by
 refine wd3 (rs := [.tmp 6]) Tryz.func81 Tryz.ntmps81 fun a b c hp hw => ?_
 simp only [iI] at hw ⊢
 have hΓ := @no_sound Tryz.prog
 repeat refine sq ?_
 refine rsx hΓ [0,1,2] [] ?_
 repeat refine sq ?_
 refine cl_block ?_
 repeat refine sq ?_
 refine rsx hΓ [1,2,7] [] ?_
 refine cnd (fun hb => ?_) fun hb => ?_
 ·repeat refine sq ?_
  refine rsx hΓ [6] [] ?_
  refine cl_ret ?_
  simp only [go_sem]
  (unfold ansP; simp_all; done)
 ·repeat refine sq ?_
  refine rsx hΓ [11] [] ?_
  refine cnd (fun hb => ?_) fun hb => ?_
  ·repeat refine sq ?_
   refine rsx hΓ [6] [] ?_
   refine cl_ret ?_
   simp only [go_sem]
   (unfold ansP; simp_all; done)
  ·refine cl_skip ?_
   refine cl_nil ?_
   simp only [go_sem]
   refine kp [] [] ?_
   repeat refine sq ?_
   refine rsx hΓ [6] [] ?_
   refine cl_ret ?_
   simp only [go_sem]
   (unfold ansP; simp_all; done)
def dayRg (l : Led) (s k : Int) : Int × Int := if roE l s k = 0 ∧ soundB l k = true then dsAt (svK (lookV l k) k).ds (roI l s k) else (0, 0)
def dayE (l : Led) (s k : Int) : Int := if roE l s k = 0 then eS l k else roE l s k
theorem roE_ok {l : Led} {s k : Int} (h : roE l s k = 0) : OkL l ∧ dayB k = true := by
 unfold roE at h
 split at h
 ·rename_i hc
  exact ⟨(daysE_ok hc).1, (daysE_ok hc).2 k (by simp)⟩
 ·rename_i hc; exact (hc h).elim
def K33a : List (Nat × Spec) := [(97, S97), (78, S78)]
theorem K33a_sound : KS K33a := tc s97.sound <| tc k78 <| tn
attribute [go_sem] K33a
@[go_sem] def P27 : PSpec := p3 iL iI iI (fun _ _ _ => True) (fun l s k => .tup [.agg [vInt (dayRg l s k).1, vInt (dayRg l s k).2], vInt (dayE l s k)]) true
@[go_sem] def S27 : Spec := P27.toSpec
theorem s27 : PSound Tryz.prog 27 P27 := by
 refine wd3 (rs := [.cell 6 38, .tmp 7]) Tryz.func27 Tryz.ntmps27 fun l so k hp hw => ?_
 simp only [iI, iL, encL] at hw ⊢
 have hΓ := K33a_sound
 repeat refine sq ?_
 refine rsx hΓ [1,2,3,6] [[3, 0],[6, 0]] ?_
 refine cl_weakM (weakM_frzk 3 (.ref [3, 0] 0) (by simp only [go_sem]) (by simp only [go_sem]) [1,2,3,6] [[3, 0],[6, 0]] ?_ rfl) ?_
 ·simp only [go_sem]
 simp only [go_sem]
 repeat refine sq ?_
 refine rsx hΓ [2,3,6,8,9] [[3, 0],[6, 0]] ?_
 repeat refine sq ?_
 refine rsx hΓ [2,3,6,8,9,19] [[3, 0],[6, 0]] ?_
 refine cnd (fun hb => ?_) fun hb => ?_
 ·repeat refine sq ?_
  have hc : ¬ roE l so k = 0 := by simpa using hb
  unfold dayRg dayE; rw [if_neg hc, if_neg (fun h => hc h.1)]
  refine rsx hΓ [6,7] [[6, 0]] ?_
  refine cl_ret ?_
  simp only [go_sem]
  all_goals first | rfl | (rw [hd]; done) | (rw [hd]; rfl) | (rw [hd, q3]; done) | (rw [hd, q3]; rfl) | (rw [q3]; rfl) | (rw [q3]; done) | trace_state
 ·have hc : roE l so k = 0 := by simpa using hb
  obtain ⟨hok, _⟩ := roE_ok hc
  unfold dayE; rw [if_pos hc]
  refine cl_skip ?_
  rcases hsb : soundB l k with _ | _
  ·obtain ⟨q1, q2, q3⟩ := sound_no hsb
   have hd : dayRg l so k = (0, 0) := by unfold dayRg; rw [if_neg (fun h => by rw [hsb] at h; cases h.2)]
   repeat refine sq ?_
   refine rx hΓ [6,8,9,10] [[6, 0],[26, 0, 11, 0, 11, 0, 24, 0],[23, 0, 11, 0, 11, 0, 24, 0],[24, 0, 11, 0, 11, 0, 24, 0]] (fun K' hK => by simp only [go_sem, q1, q2]; exact fnx) ?_
   repeat refine sq ?_
   refine rx hΓ [6,8,9,10,28] [[6, 0],[26, 0, 11, 0, 11, 0, 24, 0],[23, 0, 11, 0, 11, 0, 24, 0],[24, 0, 11, 0, 11, 0, 24, 0]] (fun K' hK => by simp only [go_sem, q3]; exact fnx) ?_
   refine cnd (fun hb => ?_) fun hb => ?_
   ·repeat refine sq ?_
    refine rsx hΓ [6,7] [[6, 0]] ?_
    refine cl_ret ?_
    simp only [go_sem]
    all_goals first | rfl | (rw [hd]; done) | (rw [hd]; rfl) | (rw [hd, q3]; done) | (rw [hd, q3]; rfl) | (rw [q3]; rfl) | (rw [q3]; done) | trace_state
   ·cases hb
  ·obtain ⟨q1, q2, q3⟩ := sound_yes hsb
   have hd : dayRg l so k = dsAt (svK (lookV l k) k).ds (roI l so k) := by unfold dayRg; rw [if_pos ⟨hc, hsb⟩]
   repeat refine sq ?_
   refine rx hΓ [6,8,9,10] [[6, 0],[26, 0, 11, 0, 11, 0, 24, 0],[23, 0, 11, 0, 11, 0, 24, 0],[24, 0, 11, 0, 11, 0, 24, 0]] (fun K' hK => by simp only [go_sem, q1, q2]; exact fnx) ?_
   repeat refine sq ?_
   refine rsx hΓ [6,8,9,10,28] [[6, 0],[26, 0, 11, 0, 11, 0, 24, 0],[23, 0, 11, 0, 11, 0, 24, 0],[24, 0, 11, 0, 11, 0, 24, 0]] ?_
   refine cnd (fun hb => ?_) fun hb => ?_
   ·cases hb
   ·refine cl_skip ?_
    repeat refine sq ?_
    refine rx hΓ [6,7] [[6, 0]] (fun K' hK => by simp only [go_sem, mget_ds]; exact fnx) ?_
    refine cl_ret ?_
    simp only [go_sem]
    all_goals first | rfl | (rw [hd]; done) | (rw [hd]; rfl) | (rw [hd, q3]; done) | (rw [hd, q3]; rfl) | (rw [q3]; rfl) | (rw [q3]; done) | trace_state
def weE (l : Led) (f : Fol) (day k : Int) : Int := if daysE l [day, k] = 0 then (if inI f.le 1 (lvOf l.ps f.pa) = true then eS l k else 26) else daysE l [day, k]
def weL (l : Led) (f : Fol) (day k : Int) : List Int := if weE l f day k = 0 then whK (svK (lookV l k) k) f.pa f.le day else []
def weV (l : Led) (f : Fol) (day k : Int) : V := .tup [.sl ((weL l f day k).map vInt), vInt (weE l f day k)]
theorem OkL.srt {l : Led} (h : OkL l) : Go.Eng.srt Pap.id l.ps := okL_srt (allB_iff.1 h.ps)
def K33b : List (Nat × Spec) := [(75, S75), (79, S79), (96, S96), (78, S78), (80, S80)]
theorem K33b_sound : KS K33b := tc s75.sound <| tc s79.sound <| tc s96.sound <| tc k78 <| tc k80 <| tn
attribute [go_sem] K33b
@[go_sem] def P23 : PSpec := p4 iL iFo iI iI (fun _ _ _ _ => True) (fun l f day k => weV l f day k) false
@[go_sem] def S23 : Spec := P23.toSpec
theorem s23 : PSound Tryz.prog 23 P23 := by
 refine wd4 (rs := [.tmp 8, .tmp 9]) Tryz.func23 Tryz.ntmps23 fun l f day k hp hw => ?_
 have hP := mixedK
 simp only [iFo, iI, iL, encFo, encL] at hw ⊢
 have hΓ := K33b_sound
 unfold weV weL
 repeat refine sq ?_
 refine rsx hΓ [2,3,4,5] [[4, 0],[5, 0]] ?_
 refine cl_weakM (weakM_frzk 4 (.ref [4, 0] 0) (by simp only [go_sem]) (by simp only [go_sem]) [2,3,4,5] [[4, 0],[5, 0]] ?_ rfl) ?_
 ·simp only [go_sem]
 simp only [go_sem]
 repeat refine sq ?_
 refine rsx hΓ [2,3,4,5,10] [[4, 0],[5, 0]] ?_
 repeat refine sq ?_
 refine rsx hΓ [2,3,4,5,10,19] [[4, 0],[5, 0]] ?_
 refine cnd (fun hb => ?_) fun hb => ?_
 ·repeat refine sq ?_
  have hc : ¬ daysE l [day, k] = 0 := by simpa using hb
  have he : weE l f day k = daysE l [day, k] := by unfold weE; rw [if_neg hc]
  rw [he, if_neg hc]
  refine rsx hΓ [8,9] [] ?_
  refine cl_ret ?_
  simp only [go_sem]
  all_goals first | done | rfl | trace_state
 ·have hc : daysE l [day, k] = 0 := by simpa using hb
  obtain ⟨hok, _⟩ := daysE_ok hc
  have hsrt := hok.srt
  refine cl_skip ?_
  repeat refine sq ?_
  refine dx hΓ hP [[], [0], [], [2], [2, 3], u5, u6] [2,3,4,5,27] [[4, 0],[5, 0]] (by kernel_rfl) (fun K' hK => by simp only [go_sem, hsrt]; exact fdx) ?_
  refine cnd (fun hb => ?_) fun hb => ?_
  ·repeat refine sq ?_
   have he : weE l f day k = 26 := by unfold weE; rw [if_pos hc, if_neg (by simpa using hb)]
   rw [he]
   refine rsx hΓ [8,9] [] ?_
   refine cl_ret ?_
   simp only [go_sem]
   all_goals first | done | rfl | trace_state
  ·have he : weE l f day k = eS l k := by unfold weE; rw [if_pos hc, if_pos (by simpa using hb)]
   rw [he]
   refine cl_skip ?_
   rcases hsb : soundB l k with _ | _
   ·obtain ⟨q1, q2, q3⟩ := sound_no hsb
    have q4 : ¬ eS l k = 0 := by simpa using q3
    rw [if_neg q4]
    repeat refine sq ?_
    refine rx hΓ [2,5,11,12] [[5, 0],[26, 0, 11, 0, 11, 0, 30, 0],[23, 0, 11, 0, 11, 0, 30, 0],[24, 0, 11, 0, 11, 0, 30, 0]] (fun K' hK => by simp only [go_sem, q1, q2]; exact fnx) ?_
    repeat refine sq ?_
    refine rx hΓ [2,5,11,12,34] [[5, 0],[26, 0, 11, 0, 11, 0, 30, 0],[23, 0, 11, 0, 11, 0, 30, 0],[24, 0, 11, 0, 11, 0, 30, 0]] (fun K' hK => by simp only [go_sem, q3]; exact fnx) ?_
    refine cnd (fun hb => ?_) fun hb => ?_
    ·repeat refine sq ?_
     refine rsx hΓ [8,9] [] ?_
     refine cl_ret ?_
     simp only [go_sem]
     all_goals first | done | rfl | trace_state
    ·cases hb
   ·obtain ⟨q1, q2, q3⟩ := sound_yes hsb
    obtain ⟨hv, hnd⟩ := svK_ok hok k
    rw [if_pos q3, q3]
    repeat refine sq ?_
    refine rx hΓ [2,5,11,12] [[5, 0],[26, 0, 11, 0, 11, 0, 30, 0],[23, 0, 11, 0, 11, 0, 30, 0],[24, 0, 11, 0, 11, 0, 30, 0]] (fun K' hK => by simp only [go_sem, q1, q2]; exact fnx) ?_
    repeat refine sq ?_
    refine rsx hΓ [2,5,11,12,34] [[5, 0],[26, 0, 11, 0, 11, 0, 30, 0],[23, 0, 11, 0, 11, 0, 30, 0],[24, 0, 11, 0, 11, 0, 30, 0]] ?_
    refine cnd (fun hb => ?_) fun hb => ?_
    ·cases hb
    ·refine cl_skip ?_
     repeat refine sq ?_
     refine rx hΓ [8,9] [] (fun K' hK => by simp only [go_sem]; (repeat (refine ⟨by first | exact obx | exact ⟨hv, hnd⟩, ?_⟩)); exact fn0) ?_
     refine cl_ret ?_
     simp only [go_sem]
     all_goals first | done | rfl | trace_state
end
noncomputable section
def outB (x : Vw) (r : Rec) (day f : Int) : Bool := match bkAt x.bk (r.so, f) with
 | none => true
 | some i => decide ((dsAt x.ds i).1 > day)
def mbB (x : Vw) (r : Rec) (day f : Int) : Bool := match bkAt x.bk (r.so, f) with
 | none => false
 | some i => decide ((dsAt x.ds i).2 > day)
def two (b : Bool) : Int := if b then 2 else 0
def liK (x : Vw) (r : Rec) (day : Int) : Int := if r.da > day then 0 else if r.lv.any (outB x r day) = true then 1 else two (r.lv.any (mbB x r day))
def liE (l : Led) (s day k : Int) : Int := if daysE l [day, k] = 0 then (match rcOf (lookV l k).rs s with | none => 3 | some _ => eS l k) else daysE l [day, k]
def liA (l : Led) (s day k : Int) : Int := if liE l s day k = 0 then (match rcOf (lookV l k).rs s with | none => 0 | some r => liK (svK (lookV l k) k) r day) else 0
theorem any_take {α : Type} {p : α → Bool} {l : List α} {i : Nat} (h : i < l.length) : (l.take (i + 1)).any p = ((l.take i).any p || p l[i]) := by
 rw [List.take_add_one, List.getElem?_eq_getElem h, List.any_append]
 simp
theorem two_or {a b : Bool} : two (a || b) = if b then 2 else two a := by cases a <;> cases b <;> rfl
def K34a : List (Nat × Spec) := [(75, S75), (76, S76), (77, S77), (78, S78)]
theorem K34a_sound : KS K34a := tc s75.sound <| tc k76 <| tc k77 <| tc k78 <| tn
attribute [go_sem] K34a
@[go_sem] def P16 : PSpec := p4 iL iI iI iI (fun _ _ _ _ => True) (fun l s day k => .tup [vInt (liA l s day k), vInt (liE l s day k)]) true
@[go_sem] def S16 : Spec := P16.toSpec
set_option maxHeartbeats 8000000 in
theorem s16 : PSound Tryz.prog 16 P16 := by
 refine wd4 (rs := [.tmp 8, .tmp 9]) Tryz.func16 Tryz.ntmps16 fun l so day k hp hw => ?_
 have hP := mixedK
 simp only [iI, iL, encL] at hw ⊢
 have hΓ := K34a_sound
 repeat refine sq ?_
 refine rsx hΓ [1,2,3,4] [[4, 0]] ?_
 refine cl_weakM (weakM_frzk 4 (.ref [4, 0] 0) (by simp only [go_sem]) (by simp only [go_sem]) [1,2,3,4] [[4, 0]] ?_ rfl) ?_
 ·simp only [go_sem]
 simp only [go_sem]
 repeat refine sq ?_
 refine rsx hΓ [1,2,3,4,10] [[4, 0]] ?_
 repeat refine sq ?_
 refine rsx hΓ [1,2,3,4,10,26] [[4, 0]] ?_
 refine cnd (fun hb => ?_) fun hb => ?_
 ·repeat refine sq ?_
  have hc : ¬ daysE l [day, k] = 0 := by simpa using hb
  have he : liE l so day k = daysE l [day, k] := by unfold liE; rw [if_neg hc]
  have ha : liA l so day k = 0 := by unfold liA; rw [he, if_neg hc]
  rw [he, ha]
  refine rsx hΓ [8,9] [] ?_
  refine cl_ret ?_
  simp only [go_sem]
  all_goals first | rfl | (have e : liK (svK (lookV l k) k) r day = 1 := (by unfold liK; rw [if_neg hnd', if_pos (any_hit hlt (by first | exact ho | (rw [ho]; assumption)))]); rw [e]; done) | (have e : liK (svK (lookV l k) k) r day = B := (by unfold liK; rw [if_neg hnd', if_neg (by rw [any_miss fun j hj => hR j hj hj]; decide), ← hB, List.take_length]); rw [e]; done) | trace_state
 ·have hc : daysE l [day, k] = 0 := by simpa using hb
  obtain ⟨hok, _⟩ := daysE_ok hc
  refine cl_skip ?_
  rcases hra : rcOf (lookV l k).rs so with _ | r
  ·have he : liE l so day k = 3 := by unfold liE; rw [if_pos hc, hra]
   have ha : liA l so day k = 0 := by unfold liA; rw [he, if_neg (by decide)]
   rw [he, ha]
   repeat refine sq ?_
   refine rx hΓ [2,3,4,11,12] [[4, 0],[11, 0]] (fun K' hK => by simp only [go_sem, hra, rdO_none, Option.isSome_none]; exact fnx) ?_
   repeat refine sq ?_
   refine rsx hΓ [2,3,4,11,36] [[4, 0],[11, 0]] ?_
   refine cnd (fun hb => ?_) fun hb => ?_
   ·repeat refine sq ?_
    refine rsx hΓ [8,9] [] ?_
    refine cl_ret ?_
    simp only [go_sem]
    all_goals first | rfl | (have e : liK (svK (lookV l k) k) r day = 1 := (by unfold liK; rw [if_neg hnd', if_pos (any_hit hlt (by first | exact ho | (rw [ho]; assumption)))]); rw [e]; done) | (have e : liK (svK (lookV l k) k) r day = B := (by unfold liK; rw [if_neg hnd', if_neg (by rw [any_miss fun j hj => hR j hj hj]; decide), ← hB, List.take_length]); rw [e]; done) | trace_state
   ·cases hb
  ·have he : liE l so day k = eS l k := by unfold liE; rw [if_pos hc, hra]
   have hrb := (lookV_ok hok k).1.rs r (rcOf_mem hra).1
   have hlm : r.lv.length ≤ maxLen := by have := (recB_lf hrb).2; unfold maxLen; omega
   repeat refine sq ?_
   refine rx hΓ [2,3,4,11,12] [[4, 0],[11, 0]] (fun K' hK => by simp only [go_sem, hra, rdO_some, Option.isSome_some]; exact fnx) ?_
   repeat refine sq ?_
   refine rsx hΓ [2,3,4,11,36] [[4, 0],[11, 0]] ?_
   refine cnd (fun hb => ?_) fun hb => ?_
   ·cases hb
   ·refine cl_skip ?_
    rcases hsb : soundB l k with _ | _
    ·obtain ⟨q1, q2, q3⟩ := sound_no hsb
     have q4 : ¬ eS l k = 0 := by simpa using q3
     have ha : liA l so day k = 0 := by unfold liA; rw [he, if_neg q4]
     rw [he, ha]
     repeat refine sq ?_
     refine rx hΓ [2,11,13,14] [[11, 0],[26, 0, 11, 0, 11, 0, 39, 0],[23, 0, 11, 0, 11, 0, 39, 0],[24, 0, 11, 0, 11, 0, 39, 0]] (fun K' hK => by simp only [go_sem, q1, q2]; exact fnx) ?_
     repeat refine sq ?_
     refine rx hΓ [2,11,13,14,43] [[11, 0],[26, 0, 11, 0, 11, 0, 39, 0],[23, 0, 11, 0, 11, 0, 39, 0],[24, 0, 11, 0, 11, 0, 39, 0]] (fun K' hK => by simp only [go_sem, q3]; exact fnx) ?_
     refine cnd (fun hb => ?_) fun hb => ?_
     ·repeat refine sq ?_
      refine rsx hΓ [8,9] [] ?_
      refine cl_ret ?_
      simp only [go_sem]
      all_goals first | rfl | (have e : liK (svK (lookV l k) k) r day = 1 := (by unfold liK; rw [if_neg hnd', if_pos (any_hit hlt (by first | exact ho | (rw [ho]; assumption)))]); rw [e]; done) | (have e : liK (svK (lookV l k) k) r day = B := (by unfold liK; rw [if_neg hnd', if_neg (by rw [any_miss fun j hj => hR j hj hj]; decide), ← hB, List.take_length]); rw [e]; done) | trace_state
     ·cases hb
    ·obtain ⟨q1, q2, q3⟩ := sound_yes hsb
     obtain ⟨hv, hnd⟩ := svK_ok hok k
     have ha : liA l so day k = liK (svK (lookV l k) k) r day := by unfold liA; rw [he, if_pos q3, hra]
     rw [he, ha, q3]
     repeat refine sq ?_
     refine rx hΓ [2,11,13,14] [[11, 0],[26, 0, 11, 0, 11, 0, 39, 0],[23, 0, 11, 0, 11, 0, 39, 0],[24, 0, 11, 0, 11, 0, 39, 0]] (fun K' hK => by simp only [go_sem, q1, q2]; exact fnx) ?_
     repeat refine sq ?_
     refine rsx hΓ [2,11,13,14,43] [[11, 0],[26, 0, 11, 0, 11, 0, 39, 0],[23, 0, 11, 0, 11, 0, 39, 0],[24, 0, 11, 0, 11, 0, 39, 0]] ?_
     refine cnd (fun hb => ?_) fun hb => ?_
     ·cases hb
     ·refine cl_skip ?_
      repeat refine sq ?_
      refine rsx hΓ [2,11,13,48] [[11, 0],[26, 0, 11, 0, 11, 0, 39, 0],[23, 0, 11, 0, 11, 0, 39, 0],[24, 0, 11, 0, 11, 0, 39, 0]] ?_
      refine cnd (fun hb => ?_) fun hb => ?_
      ·repeat refine sq ?_
       have hk : liK (svK (lookV l k) k) r day = 0 := by unfold liK; rw [if_pos (by simpa using hb)]
       rw [hk]
       refine rsx hΓ [8,9] [] ?_
       refine cl_ret ?_
       simp only [go_sem]
       all_goals first | rfl | (have e : liK (svK (lookV l k) k) r day = 1 := (by unfold liK; rw [if_neg hnd', if_pos (any_hit hlt (by first | exact ho | (rw [ho]; assumption)))]); rw [e]; done) | (have e : liK (svK (lookV l k) k) r day = B := (by unfold liK; rw [if_neg hnd', if_neg (by rw [any_miss fun j hj => hR j hj hj]; decide), ← hB, List.take_length]); rw [e]; done) | trace_state
      ·have hnd' : ¬ r.da > day := by simpa using hb
       refine cl_skip ?_
       repeat refine sq ?_
       refine rsx hΓ [2,11,13,15] [[11, 0],[26, 0, 11, 0, 11, 0, 39, 0],[23, 0, 11, 0, 11, 0, 39, 0],[24, 0, 11, 0, 11, 0, 39, 0]] ?_
       repeat refine sq ?_
       refine rsx hΓ [2,11,13,15,50,51,52] [[11, 0],[26, 0, 11, 0, 11, 0, 39, 0],[23, 0, 11, 0, 11, 0, 39, 0],[24, 0, 11, 0, 11, 0, 39, 0]] ?_
       refine cl_block ?_
       refine cl_loop'  (fun s : Nat => [(52, ⟨true, .v (vInt s)⟩), (15, ⟨true, .v (vInt (two ((r.lv.take s).any (mbB (svK (lookV l k) k) r day))))⟩)]) (fun s => []) (fun s => s ≤ r.lv.length ∧ ∀ j (h : j < r.lv.length), j < s → outB (svK (lookV l k) k) r day r.lv[j] = false) (fun s => r.lv.length - s) 0 ?_ ?_ ?_ ?_
       ·exact ⟨Nat.zero_le _, by simp⟩
       ·rfl
       ·rfl
       rintro i ⟨hi, hR⟩
       generalize hB : two ((r.lv.take i).any (mbB (svK (lookV l k) k) r day)) = B
       simp only [go_sem]
       repeat refine sq ?_
       refine rsx hΓ [2,11,13,15,50,51,52,53] [[11, 0],[26, 0, 11, 0, 11, 0, 39, 0],[23, 0, 11, 0, 11, 0, 39, 0],[24, 0, 11, 0, 11, 0, 39, 0]] ?_
       repeat refine sq ?_
       refine cnd (fun hb => ?_) fun hb => ?_
       ·have hlt : i < r.lv.length := by simpa using hb
        have hlt' : (i : Int) < r.lv.length := by omega
        clear hb
        refine cl_skip ?_
        repeat refine sq ?_
        refine cl_block ?_
        repeat refine sq ?_
        refine rx hΓ [2,11,13,15,17,50,51,52] [[11, 0],[26, 0, 11, 0, 11, 0, 39, 0],[23, 0, 11, 0, 11, 0, 39, 0],[24, 0, 11, 0, 11, 0, 39, 0]] (fun K' hK => by simp only [go_sem, map_getD hlt, tnI, nnI, hlt']; exact fnx) ?_
        rcases hbk : bkAt (svK (lookV l k) k).bk (r.so, r.lv[i]) with _ | j
        ·have ho : outB (svK (lookV l k) k) r day r.lv[i] = true := by unfold outB; rw [hbk]
         repeat refine sq ?_
         refine dx hΓ hP [[], [0], [0, 1], [0, 1, 2], [], [4], [], [4, 5, 6], u8, u9, u10, u10, u11, u13] [2,11,13,15,18,19,50,51,52] [[11, 0],[26, 0, 11, 0, 11, 0, 39, 0],[23, 0, 11, 0, 11, 0, 39, 0],[24, 0, 11, 0, 11, 0, 39, 0]] (by kernel_rfl) (fun K' hK => by simp only [go_sem, mget_bk, hbk, Option.map_none, Option.isSome_none, Option.getD_none]; exact fdx) ?_
         refine cl_block ?_
         repeat refine sq ?_
         refine rsx hΓ [2,11,13,15,18,50,51,52,68] [[11, 0],[26, 0, 11, 0, 11, 0, 39, 0],[23, 0, 11, 0, 11, 0, 39, 0],[24, 0, 11, 0, 11, 0, 39, 0]] ?_
         refine cnd (fun hb => ?_) fun hb => ?_
         ·repeat refine sq ?_
          refine rsx hΓ [8,9] [] ?_
          refine cl_ret ?_
          simp only [go_sem]
          all_goals first | rfl | (have e : liK (svK (lookV l k) k) r day = 1 := (by unfold liK; rw [if_neg hnd', if_pos (any_hit hlt (by first | exact ho | (rw [ho]; assumption)))]); rw [e]; done) | (have e : liK (svK (lookV l k) k) r day = B := (by unfold liK; rw [if_neg hnd', if_neg (by rw [any_miss fun j hj => hR j hj hj]; decide), ← hB, List.take_length]); rw [e]; done) | trace_state
         ·cases hb
        ·have ho : outB (svK (lookV l k) k) r day r.lv[i] = decide ((dsAt (svK (lookV l k) k).ds j).1 > day) := by unfold outB; rw [hbk]
         have hm : two ((r.lv.take (i + 1)).any (mbB (svK (lookV l k) k) r day)) = if decide ((dsAt (svK (lookV l k) k).ds j).2 > day) = true then 2 else B := by
          rw [any_take hlt, two_or, hB]; unfold mbB; rw [hbk]
         repeat refine sq ?_
         refine dx hΓ hP [[], [0], [0, 1], [0, 1, 2], [], [4], [], [4, 5, 6], u8, u9, u10, u10, u11, u13] [2,11,13,15,18,19,50,51,52] [[11, 0],[26, 0, 11, 0, 11, 0, 39, 0],[23, 0, 11, 0, 11, 0, 39, 0],[24, 0, 11, 0, 11, 0, 39, 0]] (by kernel_rfl) (fun K' hK => by simp only [go_sem, Option.isSome_some, mget_bk, hbk, Option.map_some, Option.isSome_some, Option.getD_some]; exact fdx) ?_
         refine cl_block ?_
         repeat refine sq ?_
         refine rx hΓ [2,11,13,15,18,50,51,52,68] [[11, 0],[26, 0, 11, 0, 11, 0, 39, 0],[23, 0, 11, 0, 11, 0, 39, 0],[24, 0, 11, 0, 11, 0, 39, 0]] (fun K' hK => by simp only [go_sem, mget_ds, Option.map_some]; exact fnx) ?_
         refine cnd (fun hb => ?_) fun hb => ?_
         ·repeat refine sq ?_
          refine rsx hΓ [8,9] [] ?_
          refine cl_ret ?_
          simp only [go_sem]
          all_goals first | rfl | (have e : liK (svK (lookV l k) k) r day = 1 := (by unfold liK; rw [if_neg hnd', if_pos (any_hit hlt (by first | exact ho | (rw [ho]; assumption)))]); rw [e]; done) | (have e : liK (svK (lookV l k) k) r day = B := (by unfold liK; rw [if_neg hnd', if_neg (by rw [any_miss fun j hj => hR j hj hj]; decide), ← hB, List.take_length]); rw [e]; done) | trace_state
         ·repeat refine sq ?_
          refine rx hΓ [2,11,13,15,50,51,52,82] [[11, 0],[26, 0, 11, 0, 11, 0, 39, 0],[23, 0, 11, 0, 11, 0, 39, 0],[24, 0, 11, 0, 11, 0, 39, 0]] (fun K' hK => by simp only [go_sem, mget_ds, Option.map_some]; exact fnx) ?_
          refine cnd (fun hb => ?_) fun hb => ?_
          ·rw [if_pos hb] at hm
           refine cl_r hΓ fun K' hK => ?_
           simp only [go_sem]
           repeat (refine ⟨obx, ?_⟩)
           refine hK _ ?_
           clear K' hK
           simp only [go_sem]
           refine kp [2,11,13,15,50,51,52] [[11, 0],[26, 0, 11, 0, 11, 0, 39, 0],[23, 0, 11, 0, 11, 0, 39, 0],[24, 0, 11, 0, 11, 0, 39, 0]] ?_
           refine cl_r hΓ fun K' hK => ?_
           simp only [go_sem]
           repeat (refine ⟨obx, ?_⟩)
           refine hK _ ?_
           clear K' hK
           simp only [go_sem]
           refine ⟨i + 1, ⟨hlt, ?_⟩, by (show r.lv.length - (i + 1) < r.lv.length - i; omega), ?_⟩
           ·intro q hq hqi
            rcases Nat.lt_succ_iff_lt_or_eq.1 hqi with h5 | rfl
            ·exact hR q hq h5
            ·rw [ho]; assumption
           refine weak_eq [2,11,13,15,50,51,52] [[11, 0],[26, 0, 11, 0, 11, 0, 39, 0],[23, 0, 11, 0, 11, 0, 39, 0],[24, 0, 11, 0, 11, 0, 39, 0]] ?_ ?_ <;> simp only [go_sem, wrap_succ hlt hlm, csI, hm]
          ·rw [if_neg (by rw [hb]; decide)] at hm
           refine cl_skip ?_
           refine cl_nil ?_
           simp only [go_sem]
           refine kp [2,11,13,15,50,51,52] [[11, 0],[26, 0, 11, 0, 11, 0, 39, 0],[23, 0, 11, 0, 11, 0, 39, 0],[24, 0, 11, 0, 11, 0, 39, 0]] ?_
           refine cl_r hΓ fun K' hK => ?_
           simp only [go_sem]
           repeat (refine ⟨obx, ?_⟩)
           refine hK _ ?_
           clear K' hK
           simp only [go_sem]
           refine ⟨i + 1, ⟨hlt, ?_⟩, by (show r.lv.length - (i + 1) < r.lv.length - i; omega), ?_⟩
           ·intro q hq hqi
            rcases Nat.lt_succ_iff_lt_or_eq.1 hqi with h5 | rfl
            ·exact hR q hq h5
            ·rw [ho]; assumption
           refine weak_eq [2,11,13,15,50,51,52] [[11, 0],[26, 0, 11, 0, 11, 0, 39, 0],[23, 0, 11, 0, 11, 0, 39, 0],[24, 0, 11, 0, 11, 0, 39, 0]] ?_ ?_ <;> simp only [go_sem, wrap_succ hlt hlm, csI, hm]
       ·have hge : i = r.lv.length := by
         have : ¬ (i : Int) < r.lv.length := by simpa using hb
         omega
        clear hb
        subst hge
        refine cl_exit ?_
        simp only [go_sem]
        refine kp [15] [] ?_
        repeat refine sq ?_
        refine rsx hΓ [8,9] [] ?_
        refine cl_ret ?_
        simp only [go_sem]
        all_goals first | rfl | (have e : liK (svK (lookV l k) k) r day = 1 := (by unfold liK; rw [if_neg hnd', if_pos (any_hit hlt (by first | exact ho | (rw [ho]; assumption)))]); rw [e]; done) | (have e : liK (svK (lookV l k) k) r day = B := (by unfold liK; rw [if_neg hnd', if_neg (by rw [any_miss fun j hj => hR j hj hj]; decide), ← hB, List.take_length]); rw [e]; done) | trace_state
end
noncomputable section
theorem bk_ts (l : Led) (k : Int) : ∀ i, ∀ q j, bkAt (lkTo l k i).bk q = some j → j ∈ (lkTo l k i).ts
 | 0, q, j, (h : none = some j) => by cases h
 | i + 1, (s, f), j, h => by
  have ih := bk_ts l k i
  cases hn : newB k (recsK l k) (lkTo l k i).bk (tsAt l i) with
  | none => rw [lkTo_no hn] at h ⊢; exact ih _ _ h
  | some r =>
   rw [lkTo_yes hn] at h ⊢
   simp only [bkAt_all] at h
   split at h
   ·cases h; simp
   ·exact List.mem_append_left _ (ih _ _ h)
theorem svK_fine {l : Led} {k : Int} (h : soundB l k = true) {q : Int × Int} {j : Int} (hj : bkAt (svK (lookV l k) k).bk q = some j) : (dsAt (svK (lookV l k) k).ds j).1 ≤ (dsAt (svK (lookV l k) k).ds j).2 := by
 unfold soundB fitB at h
 simp only [Bool.and_eq_true] at h
 have hm : j ∈ (lookV l k).ts := bk_ts l k l.ts.length q j hj
 have := List.all_eq_true.1 h.2.2 j hm
 exact of_decide_eq_true this
theorem whK_ne {l : Led} {k : Int} (h : soundB l k = true) (pa le day : Int) : ∃ w0 wr, whK (svK (lookV l k) k) pa le day = w0 :: wr := by
 unfold whK
 split
 ·exact ⟨_, _, rfl⟩
 ·split
  ·exact ⟨_, _, rfl⟩
  ·rename_i r _ i hi
   have := svK_fine h hi
   by_cases h1 : (dsAt (svK (lookV l k) k).ds i).1 ≤ day
   ·rw [if_pos h1]; exact ⟨_, _, rfl⟩
   ·rw [if_neg h1, if_pos (show (dsAt (svK (lookV l k) k).ds i).2 > day by omega)]; exact ⟨_, _, rfl⟩
def cntTo (p : Int → Bool) : Nat → Int
 | 0 => 0
 | s + 1 => cntTo p s + (if p ((s + 1 : Nat) : Int) = true then 1 else 0)
theorem cntTo_le (p : Int → Bool) : ∀ s, 0 ≤ cntTo p s ∧ cntTo p s ≤ s
 | 0 => ⟨Int.le_refl _, Int.le_refl _⟩
 | s + 1 => by
  have := cntTo_le p s
  simp only [cntTo]
  split <;> omega
theorem cntTo_at {p : Int → Bool} {i : Nat} (h : 1 ≤ i) : cntTo p (i + 1 - 1) = cntTo p (i - 1) + (if p i = true then 1 else 0) := by
 obtain ⟨j, rfl⟩ : ∃ j, i = j + 1 := ⟨i - 1, by omega⟩
 rfl
def mayP (x : Vw) (pa day f : Int) : Bool := (whK x pa f day).getD 0 0 == 0
def sureP (x : Vw) (pa day f : Int) : Bool := mayP x pa day f && ((whK x pa f day).length : Int) == 1
theorem lvOf_rng {l : Led} (h : OkL l) (x : Int) : 0 ≤ lvOf l.ps x ∧ lvOf l.ps x ≤ 30 := by
 unfold lvOf
 split
 ·rename_i p hp
  have hm := List.mem_of_find?_eq_some hp
  obtain ⟨j, hj, rfl⟩ := List.getElem_of_mem hm
  have := allB_at h.ps hj
  unfold papB inI at this
  simp at this
  omega
 ·omega
def wlE (l : Led) (pa day k : Int) : Int := if daysE l [day, k] = 0 then (if lvOf l.ps pa = 0 then 26 else eS l k) else daysE l [day, k]
def wlA (l : Led) (pa day k : Int) : Int := if wlE l pa day k = 0 then ansP (cntTo (sureP (svK (lookV l k) k) pa day) (lvOf l.ps pa).toNat) (cntTo (mayP (svK (lookV l k) k) pa day) (lvOf l.ps pa).toNat) (lvOf l.ps pa) else 0
def K35 : List (Nat × Spec) := [(75, S75), (79, S79), (78, S78), (80, S80), (81, S81)]
theorem K35_sound : KS K35 := tc s75.sound <| tc s79.sound <| tc k78 <| tc k80 <| tc s81.sound <| tn
attribute [go_sem] K35
@[go_sem] def P17 : PSpec := p4 iL iI iI iI (fun _ _ _ _ => True) (fun l pa day k => .tup [vInt (wlA l pa day k), vInt (wlE l pa day k)]) true
@[go_sem] def S17 : Spec := P17.toSpec
set_option maxHeartbeats 8000000 in
theorem s17 : PSound Tryz.prog 17 P17 := by
 refine wd4 (rs := [.tmp 8, .tmp 9]) Tryz.func17 Tryz.ntmps17 fun l pa day k hp hw => ?_
 simp only [iI, iL, encL] at hw ⊢
 have hΓ := K35_sound
 repeat refine sq ?_
 refine rsx hΓ [1,2,3,4] [[4, 0]] ?_
 refine cl_weakM (weakM_frzk 4 (.ref [4, 0] 0) (by simp only [go_sem]) (by simp only [go_sem]) [1,2,3,4] [[4, 0]] ?_ rfl) ?_
 ·simp only [go_sem]
 simp only [go_sem]
 repeat refine sq ?_
 refine rsx hΓ [1,2,3,4,10] [[4, 0]] ?_
 repeat refine sq ?_
 refine rsx hΓ [1,2,3,4,10,24] [[4, 0]] ?_
 refine cnd (fun hb => ?_) fun hb => ?_
 ·repeat refine sq ?_
  have hc : ¬ daysE l [day, k] = 0 := by simpa using hb
  have he : wlE l pa day k = daysE l [day, k] := by unfold wlE; rw [if_neg hc]
  have ha : wlA l pa day k = 0 := by unfold wlA; rw [he, if_neg hc]
  rw [he, ha]
  refine rsx hΓ [8,9] [] ?_
  refine cl_ret ?_
  simp only [go_sem]
  all_goals first | rfl | trace_state
 ·have hc : daysE l [day, k] = 0 := by simpa using hb
  obtain ⟨hok, _⟩ := daysE_ok hc
  have hsrt := hok.srt
  refine cl_skip ?_
  repeat refine sq ?_
  refine rx hΓ [1,2,3,4,11] [[4, 0]] (fun K' hK => by simp only [go_sem, hsrt]; exact fnx) ?_
  repeat refine sq ?_
  refine rsx hΓ [1,2,3,4,11,29] [[4, 0]] ?_
  refine cnd (fun hb => ?_) fun hb => ?_
  ·repeat refine sq ?_
   have he : wlE l pa day k = 26 := by unfold wlE; rw [if_pos hc, if_pos (by simpa using hb)]
   have ha : wlA l pa day k = 0 := by unfold wlA; rw [he, if_neg (by decide)]
   rw [he, ha]
   refine rsx hΓ [8,9] [] ?_
   refine cl_ret ?_
   simp only [go_sem]
   all_goals first | rfl | trace_state
  ·have he : wlE l pa day k = eS l k := by unfold wlE; rw [if_pos hc, if_neg (by simpa using hb)]
   refine cl_skip ?_
   rcases hsb : soundB l k with _ | _
   ·obtain ⟨q1, q2, q3⟩ := sound_no hsb
    have q4 : ¬ eS l k = 0 := by simpa using q3
    have ha : wlA l pa day k = 0 := by unfold wlA; rw [he, if_neg q4]
    rw [he, ha]
    repeat refine sq ?_
    refine rx hΓ [1,2,11,12,13] [[26, 0, 11, 0, 11, 0, 32, 0],[23, 0, 11, 0, 11, 0, 32, 0],[24, 0, 11, 0, 11, 0, 32, 0]] (fun K' hK => by simp only [go_sem, q1, q2]; exact fnx) ?_
    repeat refine sq ?_
    refine rx hΓ [1,2,11,12,13,36] [[26, 0, 11, 0, 11, 0, 32, 0],[23, 0, 11, 0, 11, 0, 32, 0],[24, 0, 11, 0, 11, 0, 32, 0]] (fun K' hK => by simp only [go_sem, q3]; exact fnx) ?_
    refine cnd (fun hb => ?_) fun hb => ?_
    ·repeat refine sq ?_
     refine rsx hΓ [8,9] [] ?_
     refine cl_ret ?_
     simp only [go_sem]
     all_goals first | rfl | trace_state
    ·cases hb
   ·obtain ⟨q1, q2, q3⟩ := sound_yes hsb
    obtain ⟨hv, hnd⟩ := svK_ok hok k
    have ha : wlA l pa day k = ansP (cntTo (sureP (svK (lookV l k) k) pa day) (lvOf l.ps pa).toNat) (cntTo (mayP (svK (lookV l k) k) pa day) (lvOf l.ps pa).toNat) (lvOf l.ps pa) := by unfold wlA; rw [he, if_pos q3]
    rw [he, ha, q3]
    obtain ⟨hl0, hl1⟩ := lvOf_rng hok pa
    obtain ⟨nn, hnn⟩ : ∃ nn : Nat, lvOf l.ps pa = nn := ⟨(lvOf l.ps pa).toNat, by omega⟩
    rw [hnn] at hl0 hl1 ⊢
    have hnm : nn + 1 ≤ maxLen := by unfold maxLen; omega
    rw [tnI]
    repeat refine sq ?_
    refine rx hΓ [1,2,11,12,13] [[26, 0, 11, 0, 11, 0, 32, 0],[23, 0, 11, 0, 11, 0, 32, 0],[24, 0, 11, 0, 11, 0, 32, 0]] (fun K' hK => by simp only [go_sem, q1, q2]; exact fnx) ?_
    repeat refine sq ?_
    refine rsx hΓ [1,2,11,12,13,36] [[26, 0, 11, 0, 11, 0, 32, 0],[23, 0, 11, 0, 11, 0, 32, 0],[24, 0, 11, 0, 11, 0, 32, 0]] ?_
    refine cnd (fun hb => ?_) fun hb => ?_
    ·cases hb
    ·refine cl_skip ?_
     repeat refine sq ?_
     refine rsx hΓ [1,2,11,12,14,15] [[26, 0, 11, 0, 11, 0, 32, 0],[23, 0, 11, 0, 11, 0, 32, 0],[24, 0, 11, 0, 11, 0, 32, 0]] ?_
     repeat refine sq ?_
     refine rsx hΓ [1,2,11,12,14,15,16] [[26, 0, 11, 0, 11, 0, 32, 0],[23, 0, 11, 0, 11, 0, 32, 0],[24, 0, 11, 0, 11, 0, 32, 0]] ?_
     refine cl_block ?_
     refine cl_loop'  (fun s : Nat => [(16, ⟨true, .v (vInt s)⟩), (14, ⟨true, .v (vInt (cntTo (sureP (svK (lookV l k) k) pa day) (s - 1)))⟩), (15, ⟨true, .v (vInt (cntTo (mayP (svK (lookV l k) k) pa day) (s - 1)))⟩)]) (fun s => []) (fun s => s ≤ (nn + 1) ∧ 1 ≤ s) (fun s => (nn + 1) - s) 1 ?_ ?_ ?_ ?_
     ·exact ⟨by omega, Nat.le_refl 1⟩
     ·rfl
     ·rfl
     rintro i ⟨hi, hR⟩
     obtain ⟨hS0, hS1⟩ := cntTo_le (sureP (svK (lookV l k) k) pa day) (i - 1)
     obtain ⟨hM0, hM1⟩ := cntTo_le (mayP (svK (lookV l k) k) pa day) (i - 1)
     have hSx := cntTo_at (p := sureP (svK (lookV l k) k) pa day) hR
     have hMx := cntTo_at (p := mayP (svK (lookV l k) k) pa day) hR
     simp only [go_sem]
     repeat refine sq ?_
     refine rsx hΓ [1,2,11,12,14,15,16,40] [[26, 0, 11, 0, 11, 0, 32, 0],[23, 0, 11, 0, 11, 0, 32, 0],[24, 0, 11, 0, 11, 0, 32, 0]] ?_
     refine cnd (fun hb => ?_) fun hb => ?_
     ·have hlt : i < nn + 1 := by
       have : (i : Int) ≤ nn := by simpa using hb
       omega
      obtain ⟨w0, wr, hw0⟩ := whK_ne hsb pa i day
      have hwS : IntKind.i64.wrap (cntTo (sureP (svK (lookV l k) k) pa day) (i - 1) + 1) = cntTo (sureP (svK (lookV l k) k) pa day) (i - 1) + 1 := wrap_i64 (by omega) (by omega)
      have hwM : IntKind.i64.wrap (cntTo (mayP (svK (lookV l k) k) pa day) (i - 1) + 1) = cntTo (mayP (svK (lookV l k) k) pa day) (i - 1) + 1 := wrap_i64 (by omega) (by omega)
      refine cl_skip ?_
      repeat refine sq ?_
      refine cl_block ?_
      repeat refine sq ?_
      refine rx hΓ [1,2,11,12,14,15,16,17] [[26, 0, 11, 0, 11, 0, 32, 0],[23, 0, 11, 0, 11, 0, 32, 0],[24, 0, 11, 0, 11, 0, 32, 0]] (fun K' hK => by simp only [go_sem, hw0]; (repeat (refine ⟨by first | exact obx | exact ⟨hv, hnd⟩, ?_⟩)); exact fn0) ?_
      repeat refine sq ?_
      refine rsx hΓ [1,2,11,12,14,15,16,17,52] [[26, 0, 11, 0, 11, 0, 32, 0],[23, 0, 11, 0, 11, 0, 32, 0],[24, 0, 11, 0, 11, 0, 32, 0]] ?_
      refine cnd (fun hb => ?_) fun hb => ?_
      ·repeat refine sq ?_
       have hm1 : mayP (svK (lookV l k) k) pa day i = true := by unfold mayP; rw [hw0]; simpa using hb
       rw [if_pos hm1] at hMx
       refine rx hΓ [1,2,11,12,14,15,16,17] [[26, 0, 11, 0, 11, 0, 32, 0],[23, 0, 11, 0, 11, 0, 32, 0],[24, 0, 11, 0, 11, 0, 32, 0]] (fun K' hK => by simp only [go_sem, hwM]; exact fnx) ?_
       repeat refine sq ?_
       refine rsx hΓ [1,2,11,12,14,15,16,57] [[26, 0, 11, 0, 11, 0, 32, 0],[23, 0, 11, 0, 11, 0, 32, 0],[24, 0, 11, 0, 11, 0, 32, 0]] ?_
       refine cnd (fun hb => ?_) fun hb => ?_
       ·have hs1 : sureP (svK (lookV l k) k) pa day i = true := by unfold sureP; rw [hm1, hw0]; simpa using hb
        rw [if_pos hs1] at hSx
        refine cl_r hΓ fun K' hK => ?_
        simp only [go_sem, hwS]
        repeat (refine ⟨obx, ?_⟩)
        refine hK _ ?_
        clear K' hK
        simp only [go_sem]
        refine kp [1,2,11,12,14,15,16] [[26, 0, 11, 0, 11, 0, 32, 0],[23, 0, 11, 0, 11, 0, 32, 0],[24, 0, 11, 0, 11, 0, 32, 0]] ?_
        refine cl_r hΓ fun K' hK => ?_
        simp only [go_sem]
        repeat (refine ⟨obx, ?_⟩)
        refine hK _ ?_
        clear K' hK
        simp only [go_sem]
        refine ⟨i + 1, ⟨hlt, ?_⟩, by (show (nn + 1) - (i + 1) < (nn + 1) - i; omega), ?_⟩
        ·omega
        refine weak_eq [1,2,11,12,14,15,16] [[26, 0, 11, 0, 11, 0, 32, 0],[23, 0, 11, 0, 11, 0, 32, 0],[24, 0, 11, 0, 11, 0, 32, 0]] ?_ ?_ <;> simp only [go_sem, wrap_succ hlt hnm, csI, hMx, hSx]
       ·have hs1 : sureP (svK (lookV l k) k) pa day i = false := by unfold sureP; rw [hm1, hw0]; simpa using hb
        rw [if_neg (by rw [hs1]; decide), Int.add_zero] at hSx
        refine cl_skip ?_
        refine cl_nil ?_
        simp only [go_sem]
        refine kp [1,2,11,12,14,15,16] [[26, 0, 11, 0, 11, 0, 32, 0],[23, 0, 11, 0, 11, 0, 32, 0],[24, 0, 11, 0, 11, 0, 32, 0]] ?_
        refine cl_r hΓ fun K' hK => ?_
        simp only [go_sem]
        repeat (refine ⟨obx, ?_⟩)
        refine hK _ ?_
        clear K' hK
        simp only [go_sem]
        refine ⟨i + 1, ⟨hlt, ?_⟩, by (show (nn + 1) - (i + 1) < (nn + 1) - i; omega), ?_⟩
        ·omega
        refine weak_eq [1,2,11,12,14,15,16] [[26, 0, 11, 0, 11, 0, 32, 0],[23, 0, 11, 0, 11, 0, 32, 0],[24, 0, 11, 0, 11, 0, 32, 0]] ?_ ?_ <;> simp only [go_sem, wrap_succ hlt hnm, csI, hMx, hSx]
      ·have hm1 : mayP (svK (lookV l k) k) pa day i = false := by unfold mayP; rw [hw0]; simpa using hb
       have hs1 : sureP (svK (lookV l k) k) pa day i = false := by unfold sureP; rw [hm1]; rfl
       rw [if_neg (by rw [hm1]; decide), Int.add_zero] at hMx
       rw [if_neg (by rw [hs1]; decide), Int.add_zero] at hSx
       refine cl_skip ?_
       refine cl_nil ?_
       simp only [go_sem]
       refine kp [1,2,11,12,14,15,16] [[26, 0, 11, 0, 11, 0, 32, 0],[23, 0, 11, 0, 11, 0, 32, 0],[24, 0, 11, 0, 11, 0, 32, 0]] ?_
       refine cl_r hΓ fun K' hK => ?_
       simp only [go_sem]
       repeat (refine ⟨obx, ?_⟩)
       refine hK _ ?_
       clear K' hK
       simp only [go_sem]
       refine ⟨i + 1, ⟨hlt, ?_⟩, by (show (nn + 1) - (i + 1) < (nn + 1) - i; omega), ?_⟩
       ·omega
       refine weak_eq [1,2,11,12,14,15,16] [[26, 0, 11, 0, 11, 0, 32, 0],[23, 0, 11, 0, 11, 0, 32, 0],[24, 0, 11, 0, 11, 0, 32, 0]] ?_ ?_ <;> simp only [go_sem, wrap_succ hlt hnm, csI, hMx, hSx]
     ·have hge : i = nn + 1 := by
       have : ¬ (i : Int) ≤ nn := by simpa using hb
       omega
      subst hge
      refine cl_exit ?_
      simp only [go_sem]
      refine kp [11,14,15] [] ?_
      repeat refine sq ?_
      refine rsx hΓ [8,9] [] ?_
      refine cl_ret ?_
      simp only [go_sem]
      all_goals first | rfl | trace_state
end
set_option maxHeartbeats 8000000
set_option maxRecDepth 10000
noncomputable section
def pf (p : Pap) : List Fol := (List.range p.lv.toNat).map fun j => ⟨p.id, ((j + 1 : Nat) : Int)⟩
def foTo (l : Led) (i : Nat) : List Fol := (l.ps.take i).flatMap pf
def foK (l : Led) : List Fol := l.ps.flatMap pf
theorem foTo_succ {l : Led} {i : Nat} (h : i < l.ps.length) : foTo l (i + 1) = foTo l i ++ pf l.ps[i] := by
 unfold foTo
 rw [List.take_add_one, List.getElem?_eq_getElem h, List.flatMap_append]
 simp
theorem foTo_all (l : Led) : foTo l l.ps.length = foK l := by unfold foTo foK; rw [List.take_length]
theorem pf_len (p : Pap) : (pf p).length = p.lv.toNat := by simp [pf]
theorem foK_split {l : Led} {i : Nat} (h : i < l.ps.length) : ∃ r, foK l = foTo l i ++ (pf l.ps[i] ++ r) := by
 refine ⟨(l.ps.drop (i + 1)).flatMap pf, ?_⟩
 unfold foK foTo
 conv => lhs; rw [← List.take_append_drop i l.ps, List.flatMap_append, List.drop_eq_getElem_cons h, List.flatMap_cons]
theorem fo_at {l : Led} {i j : Nat} {z : Fol} (h : i < l.ps.length) (hj : j < (l.ps[i]).lv.toNat) : (foTo l i).length + j < (foK l).length ∧ (foK l).getD ((foTo l i).length + j) z = ⟨(l.ps[i]).id, ((j + 1 : Nat) : Int)⟩ := by
 obtain ⟨r, hr⟩ := foK_split h
 have hp := pf_len l.ps[i]
 rw [hr]
 refine ⟨by simp only [List.length_append]; omega, ?_⟩
 rw [List.getD_eq_getElem?_getD, List.getElem?_append_right (by omega), Nat.add_sub_cancel_left, List.getElem?_append_left (by omega)]
 simp [pf, hj]
@[go_sem] def P93 : PSpec := p1 iLp (fun _ => True) (fun l => .clo (.func 182) [] [.ptr [encLp l]]) false
@[go_sem] def S93 : Spec := P93.toSpec
theorem s93 : PSound Tryz.prog 93 P93 := by
 refine wd1 (rs := [.tmp 2]) Tryz.func93 Tryz.ntmps93 fun l hp hw => ?_
 simp only [iLp, encLp] at hw ⊢
 have hΓ := @no_sound Tryz.prog
 repeat refine sq ?_
 refine rsx hΓ [1] [[1, 0]] ?_
 refine cl_weakM (weakM_frzk 1 (.ref [1, 0] 0) (by simp only [go_sem]) (by simp only [go_sem]) [1] [[1, 0]] ?_ rfl) ?_
 ·simp only [go_sem]
 simp only [go_sem]
 repeat refine sq ?_
 refine rsx hΓ [2] [[1, 0]] ?_
 refine cl_ret ?_
 simp only [go_sem]
 all_goals exact fzI
theorem w182 {sY : Spec} (hY : SSound Tryz.prog yid sY) {l : Led} (hok : OkL l) {I : Nat → List O}
  (hI : ∀ s, (I s).length = (I 0).length) (hc : ∀ s, ∀ o ∈ I s, ∀ dom : Name → Bool, (∀ i, dom [i, 1] = true) → O.clos dom o = true)
  (hap : ∀ s, s < (foK l).length → ∀ obj tm, (∀ nm, isOut nm = true → obj nm = outH (I s) nm) → sY.app obj tm [.yld [0, 1], .agg [.v (vInt ((foK l).getD s default).pa), .v (vInt ((foK l).getD s default).le)]] = ⟨True, .v (.bool true), setU obj (I (s + 1))⟩) :
  ∃ c', Tryz.f182.body = some c' ∧ CL Tryz.prog [c'] (mkS 29 [0] (outH (I 0)) [(0, ⟨true, .yld [0, 1]⟩), (1, ⟨true, .v (.ptr [encLp l])⟩)] [])
   (fun e σ => (e = .normal ∨ e = .ret) ∧ ∀ i, σ.obj [i, 1] = outH (I (foK l).length) [i, 1]) := by
 refine ⟨_, rfl, ?_⟩
 obtain ⟨Γ, hΓ, hg2⟩ : ∃ Γ : FuncId → Option Spec, (∀ f s, Γ f = some s → SSound Tryz.prog f s) ∧ Γ 1000000000 = some sY := by
  refine ⟨fun f => if f = 1000000000 then some sY else none, fun f s h => ?_, rfl⟩
  dsimp only at h
  split at h
  ·rename_i e; cases h; subst e; exact hY
  ·cases h
 have hO : ∀ s hs, OutC [0] (domOf [0] hs) (outH (I s)) = True := fun s hs => eq_true (outC_outs (hc s) hs)
 have hset : ∀ s, setU (outH (I s)) (I (s + 1)) = outH (I (s + 1)) := fun s => setU_out ((hI _).trans (hI s).symm)
 obtain ⟨H, hH⟩ : ∃ H : Nat → Name → Option O, ∀ s, outH (I s) = H s := ⟨_, fun _ => rfl⟩
 simp only [hH] at hO hset hap ⊢
 have hpn := hok.psn
 have hpl : l.ps.length ≤ maxLen := by unfold maxLen; omega
 simp only [encLp]
 repeat refine sq ?_
 refine rx hΓ [0,9,10,11] [] (fun K' hK => by simp only [go_sem]; (repeat (refine ⟨obx, ?_⟩)); exact hK _ (by simp only [go_sem, hO]) (by simp only [go_sem] <;> rfl)) ?_
 refine cl_block ?_
 refine cl_loop (fun s : Nat => mkS 29 [0] (H (foTo l s).length) [(0, ⟨true, .yld [0, 1]⟩), (9, ⟨true, .v (.sl (l.ps.map encP))⟩), (10, ⟨true, .v (vInt l.ps.length)⟩), (11, ⟨true, .v (vInt s)⟩)] [])
  (fun s => s ≤ l.ps.length) (fun s => l.ps.length - s) 0 (Nat.zero_le _) (Weak.refl _) ?_
 rintro i hi
 repeat refine sq ?_
 refine rx hΓ [0,9,10,11,12] [] (fun K' hK => by simp only [go_sem]; (repeat (refine ⟨obx, ?_⟩)); exact hK _ (by simp only [go_sem, hO]) (by simp only [go_sem] <;> rfl)) ?_
 repeat refine sq ?_
 refine cnd (fun hb => ?_) fun hb => ?_
 ·have hlt : i < l.ps.length := by simpa using hb
  have hlt' : (i : Int) < l.ps.length := by omega
  have hws : IntKind.i64.wrap ((i : Int) + 1) = ((i + 1 : Nat) : Int) := wrap_succ hlt hpl
  clear hb
  have hpb : 0 ≤ (l.ps[i]).lv ∧ (l.ps[i]).lv ≤ 30 := by
   have := allB_at hok.ps hlt
   unfold papB inI at this
   simp at this
   omega
  obtain ⟨lv, hlv⟩ : ∃ lv : Nat, (l.ps[i]).lv = lv := ⟨(l.ps[i]).lv.toNat, by omega⟩
  have hlt2 : (l.ps[i]).lv.toNat = lv := by omega
  refine cl_skip ?_
  repeat refine sq ?_
  refine cl_block ?_
  repeat refine sq ?_
  refine rx hΓ [0,4,9,10,11] [[4, 0]] (fun K' hK => by simp only [go_sem, map_getD hlt, tnI, nnI, hlt']; (repeat (refine ⟨obx, ?_⟩)); exact hK _ (by simp only [go_sem, hO]) (by simp only [go_sem] <;> rfl)) ?_
  repeat refine sq ?_
  refine rx hΓ [0,4,5,9,10,11] [[4, 0]] (fun K' hK => by simp only [go_sem]; (repeat (refine ⟨obx, ?_⟩)); exact hK _ (by simp only [go_sem, hO]) (by simp only [go_sem] <;> rfl)) ?_
  refine cl_block ?_
  refine cl_loop (fun j : Nat => mkS 29 [0] (H ((foTo l i).length + j)) [(0, ⟨true, .yld [0, 1]⟩), (4, ⟨true, .ref [4, 0] 0⟩), (5, ⟨true, .v (vInt ((j + 1 : Nat) : Int))⟩), (9, ⟨true, .v (.sl (l.ps.map encP))⟩), (10, ⟨true, .v (vInt l.ps.length)⟩), (11, ⟨true, .v (vInt i)⟩)] [([4, 0], .box [.v (vInt (l.ps[i]).id), .v (vInt (l.ps[i]).lv)])])
   (fun j => j ≤ lv) (fun j => lv - j) 0 (Nat.zero_le _) (Weak.refl _) ?_
  rintro j hj
  repeat refine sq ?_
  refine rx hΓ [0,4,5,9,10,11,18] [[4, 0]] (fun K' hK => by simp only [go_sem]; (repeat (refine ⟨obx, ?_⟩)); exact hK _ (by simp only [go_sem, hO]) (by simp only [go_sem] <;> rfl)) ?_
  refine cnd (fun hb => ?_) fun hb => ?_
  ·have hjl : j < lv := by
    have : ((j + 1 : Nat) : Int) ≤ (l.ps[i]).lv := by simpa using hb
    omega
   have hwj : IntKind.i64.wrap (((j + 1 : Nat) : Int) + 1) = ((j + 1 + 1 : Nat) : Int) := wrap_succ (n := 100) (by omega) (by unfold maxLen; omega)
   clear hb
   obtain ⟨hk1, hk2⟩ := fo_at (z := default) hlt (show j < (l.ps[i]).lv.toNat by omega)
   have hap2 := fun (F : Name → Option O) (tm : Name) => hap _ hk1 (fun nm => if own [0] nm = true then F nm else H ((foTo l i).length + j) nm) tm fun nm hn => by
    obtain ⟨k, rfl⟩ := isOut_iff.1 hn
    simp [own_out01]
   rw [hk2] at hap2
   have hs4 : ∀ (obj : Name → Option O) (L : List O), setU obj L [4, 0] = obj [4, 0] := fun _ _ => rfl
   refine cl_skip ?_
   repeat refine sq ?_
   refine cl_block ?_
   repeat refine sq ?_
   refine rx hΓ [0,4,5,9,10,11,27] [[4, 0]] (fun K' hK => by simp only [go_sem, hg2, hap2, Bool.not_true]; (repeat (refine ⟨obx, ?_⟩)); exact hK _ (by simp only [go_sem, hO, hs4, OutC_setU, hset, Bool.not_true]) (by simp only [go_sem, hs4, mkS_setU, hset] <;> rfl)) ?_
   refine cnd (fun hb => ?_) fun hb => ?_
   ·cases hb
   refine cl_skip ?_
   refine cl_nil ?_
   simp only [go_sem]
   refine cl_keep [0,4,5,9,10,11] [[4, 0]] ?_ ?_
   ·simp only [go_sem, hO]
   simp only [go_sem]
   refine cl_r hΓ fun K' hK => ?_
   simp only [go_sem]
   repeat (refine ⟨obx, ?_⟩)
   refine hK _ ?_
   clear K' hK
   simp only [go_sem]
   refine ⟨j + 1, hjl, by omega, ?_⟩
   refine weak_eq [0,4,5,9,10,11] [[4, 0]] ?_ ?_ <;> simp only [go_sem, hO, hwj, Nat.add_assoc]
  ·have hje : j = lv := by
    have : ¬ ((j + 1 : Nat) : Int) ≤ (l.ps[i]).lv := by simpa using hb
    omega
   subst hje
   clear hb
   refine cl_exit ?_
   simp only [go_sem]
   refine cl_keep [0,9,10,11] [] ?_ ?_
   ·simp only [go_sem, hO]
   simp only [go_sem]
   refine cl_r hΓ fun K' hK => ?_
   simp only [go_sem]
   repeat (refine ⟨obx, ?_⟩)
   refine hK _ ?_
   clear K' hK
   simp only [go_sem]
   have hfs : (foTo l (i + 1)).length = (foTo l i).length + j := by rw [foTo_succ hlt, List.length_append, pf_len]; omega
   refine ⟨i + 1, hlt, by omega, ?_⟩
   rw [hfs]
   refine weak_eq [0,9,10,11] [] ?_ ?_ <;> simp only [go_sem, hO, hws, csI]
 ·have hge : i = l.ps.length := by
   have : ¬ (i : Int) < l.ps.length := by simpa using hb
   omega
  subst hge
  clear hb
  refine cl_exit ?_
  simp only [go_sem]
  refine cl_nil ?_
  simp only [go_sem]
  rw [foTo_all]
  first | exact .inl trivial | exact ⟨by simp, fun k => by simp [own_out01]⟩
end
open Go
def p5 {α β γ δ ε : Type} (A : En α) (B : En β) (C : En γ) (D : En δ) (E' : En ε) (p : α → β → γ → δ → ε → Prop) (g : α → β → γ → δ → ε → V) (fl : Bool) : PSpec :=
 ⟨fun xs => match xs with | [x, y, z, u, v] => A.enc (A.dec x) = x ∧ B.enc (B.dec y) = y ∧ C.enc (C.dec z) = z ∧ D.enc (D.dec u) = u ∧ E'.enc (E'.dec v) = v ∧ p (A.dec x) (B.dec y) (C.dec z) (D.dec u) (E'.dec v) | _ => False,
  fun xs => match xs with | [x, y, z, u, v] => g (A.dec x) (B.dec y) (C.dec z) (D.dec u) (E'.dec v) | _ => .bool false, fl⟩
theorem p5_elim {α β γ δ ε : Type} {A : En α} {B : En β} {C : En γ} {D : En δ} {E' : En ε} {p : α → β → γ → δ → ε → Prop} {g : α → β → γ → δ → ε → V} {fl : Bool} {xs : List V} (h : (p5 A B C D E' p g fl).pre xs) :
  ∃ a b c d e, xs = [A.enc a, B.enc b, C.enc c, D.enc d, E'.enc e] ∧ p a b c d e ∧ (p5 A B C D E' p g fl).fn xs = g a b c d e := by
 unfold p5 at h
 simp only at h
 split at h
 ·exact ⟨_, _, _, _, _, by rw [h.1, h.2.1, h.2.2.1, h.2.2.2.1, h.2.2.2.2.1], h.2.2.2.2.2, rfl⟩
 ·exact h.elim
theorem p5_flat {α β γ δ ε : Type} {A : En α} {B : En β} {C : En γ} {D : En δ} {E' : En ε} {p : α → β → γ → δ → ε → Prop} {g : α → β → γ → δ → ε → V} {fl : Bool} (hg : ∀ a b c d e, (g a b c d e).flat = true) :
  (p5 A B C D E' p g fl).flat = true → ∀ xs, (p5 A B C D E' p g fl).pre xs → ((p5 A B C D E' p g fl).fn xs).flat = true := by
 intro _ xs h
 obtain ⟨a, b, c, d, e, _, _, hh⟩ := p5_elim h
 rw [hh]; exact hg _ _ _ _ _
attribute [go_sem] p5
theorem w5 {P : Program} {f : FuncId} {fn : Func} {nt : Nat} {rs : List ResultVar} {α β γ δ ε : Type} {A : En α} {B : En β} {C : En γ} {D : En δ} {E' : En ε} {p : α → β → γ → δ → ε → Prop} {g : α → β → γ → δ → ε → V} {fl : Bool} (hf : P.funcs[f]? = some fn) (hnt : fn.ntmps = nt) (hrs : fn.results.toList = rs) (hn : (fn.name == "runtime.NumGoroutine") = false) (hy : f < 1000000000)
  (hfl : fl = true → ∀ a b c d e, (g a b c d e).flat = true) (hb : ∃ c, fn.body = some c ∧ 5 ≤ nt ∧ ∀ a b d e e', p a b d e e' → V.wfL [A.enc a, B.enc b, C.enc d, D.enc e, E'.enc e'] → CL P [c] (mkS nt [0] (fun _ => none) (argsL 0 [A.enc a, B.enc b, C.enc d, D.enc e, E'.enc e']) []) (retK P rs (g a b d e e'))) : PSound P f (p5 A B C D E' p g fl) := by
 obtain ⟨c, hc, h1, h⟩ := hb
 refine psoundB hf hnt hrs hn hy (fun e => p5_flat (hfl e) e) ⟨c, hc, fun xs hp hw => ?_⟩
 obtain ⟨a, b, d, e, e', rfl, hp, hg⟩ := p5_elim hp
 rw [hg]
 exact ⟨h1, h a b d e e' hp hw⟩
set_option maxHeartbeats 8000000
noncomputable section
theorem s182 {r : Lp} (hr : r.Ok) (hst : ∀ j, r.st j = none) (hy : SSound Tryz.prog yid r.y.toSpec) {l : Led} (hok : OkL l)
  (hn : r.n = (foK l).length) (hvals : ∀ s, r.vals s = [.agg [.v (vInt ((foK l).getD s default).pa), .v (vInt ((foK l).getD s default).le)]]) : SSound Tryz.prog 182 (r.it [.ptr [encLp l]]).toSpec := by
 obtain ⟨c, hc, h⟩ := w182 hy hok (I := r.I) (fun s => by rw [Lp.I_len hr, Lp.I_len hr]) (fun s => Lp.I_clos hr _)
  (fun s hs obj tm ho => by
   have := Lp.y_setU hr hst (s := s) (by rw [hn]; exact hs) obj tm ho
   rw [hvals] at this
   exact this)
 refine Lp.it_sound hr hst Tryz.func182 Tryz.ntmps182 (by rfl) (by kernel_rfl) (by decide) ⟨c, hc, lb rfl, ?_⟩
 rw [hn]
 exact h
theorem cl_iterV {P : Program} {r : Lp} (hr : r.Ok) {caps : List V} {g : Operand} {ps : Array Tmp} {asg body : Code} {σ : S} {rest : List Code} {K : Exit → S → Prop} (k k' : Nat) {f : FuncId} {Ls : List Name}
  (hc : opC σ g = true) (hg : opD σ g = .v (.clo (.func f) [] caps)) (hne : f ≠ yid) (hs : SSound P f (r.it caps).toSpec) (hnew : σ.obj (k :: σ.pre) = none)
  (he : (List.range σ.nt).map σ.env = r.env Ls) (hps : ps.toList = r.ps) (ha : asg = r.asg) (hb : body = r.body) (hl : Ls.length = r.m) (hn : Ls.Nodup) (hR : (k :: σ.pre) ∉ Ls) (hF : objAll σ.obj Ls (r.fam Ls 0))
  (hK : ∀ o : O, pdK (thenK (fun σ' => CL P rest σ' K) K) { σ with obj := upd (setLs Ls (r.fam Ls r.e) σ.obj) (k :: σ.pre) (some o) } r.pd) : CL P (.rangeFunc g ps asg body :: rest) σ K :=
 cl_iter (Γ := fun x => if x = f then some (r.it caps).toSpec else none) (fun x s hx => by
  split at hx
  ·rename_i e; cases hx; subst e; exact hs
  ·cases hx) hr k k' hc hg hne (if_pos rfl) hnew he hps ha hb hl hn hR hF hK
def isW (g : Nat × Int) (w : List Int) : Bool := if g.1 = 105 then (w.length : Int) == 1 && w.getD 0 0 == g.2 else w.contains g.2
def okW (g : Nat × Int) : Prop := g.1 = 105 ∨ g.1 = 107
theorem len1 {l : List Int} (h : ¬ ∃ a, l = [a]) : ((l.length : Int) == 1) = false := by
 match l, h with
 | [], _ => rfl
 | [a], h => exact (h ⟨a, rfl⟩).elim
 | _ :: _ :: r, _ => simp; omega
@[go_sem] def P105 : PSpec := p2 iIs iPi (fun _ _ => True) (fun w p => .bool (isW (105, p) w)) true
@[go_sem] def S105 : Spec := P105.toSpec
theorem s105 : PSound Tryz.prog 105 P105 := by
 refine wd2 (rs := [.tmp 3]) Tryz.func105 Tryz.ntmps105 fun w p hp hw => ?_
 have hP := mixedK
 simp only [iIs, iPi] at hw ⊢
 have hΓ := @no_sound Tryz.prog
 repeat refine sq ?_
 refine rsx hΓ [0,1] [] ?_
 by_cases hl1 : ∃ a, w = [a]
 ·obtain ⟨a, rfl⟩ := hl1
  repeat refine sq ?_
  refine dx hΓ hP [[], [0], [0, 1], [0, 1, 2], u4, u5, u6, u4, u8, u9, u10] [3] [] (by kernel_rfl) (fun K' hK => by simp only [go_sem, Int.cast_ofNat_Int, List.getD_cons_zero, Int.reduceLT]; exact fdx) ?_
  refine cl_ret ?_
  simp only [go_sem]
  first | rfl | (simp [isW, hln]; done) | trace_state
 ·have hln := len1 hl1
  repeat refine sq ?_
  refine dx hΓ hP [[], [0], [0, 1], [0, 1, 2], u4, u5, u6, u4, u8, u9, u10] [3] [] (by kernel_rfl) (fun K' hK => by simp only [go_sem, hln]; exact fdx) ?_
  refine cl_ret ?_
  simp only [go_sem]
  first | rfl | (simp [isW, hln]; done) | trace_state
def K37a : List (Nat × Spec) := [(108, S108)]
theorem K37a_sound : KS K37a := tc s108.sound <| tn
attribute [go_sem] K37a
@[go_sem] def P107 : PSpec := p2 iIs iPi (fun _ _ => True) (fun w p => .bool (isW (107, p) w)) true
@[go_sem] def S107 : Spec := P107.toSpec
theorem s107 : PSound Tryz.prog 107 P107 := by
 refine wd2 (rs := [.tmp 3]) Tryz.func107 Tryz.ntmps107 fun w p hp hw => ?_
 simp only [iIs, iPi] at hw ⊢
 have hΓ := K37a_sound
 repeat refine sq ?_
 refine rsx hΓ [0,1] [] ?_
 repeat refine sq ?_
 refine rsx hΓ [3] [] ?_
 refine cl_ret ?_
 simp only [go_sem]
 all_goals exact fzI
def K37b : List (Nat × Spec) := [(105, S105), (107, S107)]
theorem K37b_sound : KS K37b := tc s105.sound <| tc s107.sound <| tn
attribute [go_sem] K37b
def KW37 : FuncId → Option Spec := tbl K37b
theorem KW37_sound : ∀ f s, KW37 f = some s → SSound Tryz.prog f s := K37b_sound
theorem okW_app {g : Nat × Int} (h : okW g) : ∃ s, KW37 g.1 = some s ∧ (¬ g.1 = 1000000000) ∧ (¬ g.1 = 80) ∧ (∀ obj t (w : List Int), s.app obj t [.v (.sl (w.map vInt)), .v (.ptr [vInt g.2])] = ⟨True, .v (.bool (isW g w)), obj⟩) ∧
  (∀ obj t (w : List Int), s.foot obj t [.v (.sl (w.map vInt)), .v (.ptr [vInt g.2])] = []) ∧ ∀ obj t (w : List Int), s.wrt obj t [.v (.sl (w.map vInt)), .v (.ptr [vInt g.2])] = [] := by
 obtain ⟨g, p⟩ := g
 rcases h with h | h
 ·obtain rfl : g = 105 := h
  exact ⟨S105, rfl, by simp, by simp, fun obj t w => by simp only [go_sem, decI_map], fun _ _ _ => rfl, fun _ _ _ => rfl⟩
 ·obtain rfl : g = 107 := h
  exact ⟨S107, rfl, by simp, by simp, fun obj t w => by simp only [go_sem, decI_map], fun _ _ _ => rfl, fun _ _ _ => rfl⟩
theorem names6 {Ls : List Name} (h : Ls.length = 6) : ∃ a b c d e f, Ls = [a, b, c, d, e, f] := by
 match Ls, h with
 | [a, b, c, d, e, f], _ => exact ⟨a, b, c, d, e, f, rfl⟩
def foP (x : Vw) (g : Nat × Int) (day : Int) (f : Fol) : Bool := isW g (whK x f.pa f.le day)
def ouTo (l : Led) (x : Vw) (g : Nat × Int) (day : Int) (s : Nat) : List Fol := ((foK l).take s).filter (foP x g day)
theorem pf_pa {p : Pap} {f : Fol} (h : f ∈ pf p) : f.pa = p.id := by
 obtain ⟨a, _, rfl⟩ := List.mem_map.1 h
 rfl
theorem pf_nodup (p : Pap) : (pf p).Nodup := by
 unfold pf
 refine List.Pairwise.map _ (fun a b hab e => hab ?_) List.nodup_range
 simp at e
 omega
theorem nodup_fm : ∀ ps : List Pap, ps.Pairwise (fun p q => p.id < q.id) → (ps.flatMap pf).Nodup
 | [], _ => by simp
 | p :: r, h => by
  obtain ⟨h1, h2⟩ := List.pairwise_cons.1 h
  rw [List.flatMap_cons, List.nodup_append]
  refine ⟨pf_nodup p, nodup_fm r h2, fun a ha b hb e => ?_⟩
  subst e
  obtain ⟨q, hq, hb⟩ := List.mem_flatMap.1 hb
  have e1 := pf_pa ha
  have e2 := pf_pa hb
  have := h1 q hq
  omega
theorem foK_nodup {l : Led} (h : OkL l) : (foK l).Nodup := by
 have hs : Go.Eng.srt Pap.id l.ps := h.srt
 exact nodup_fm _ (List.pairwise_iff_getElem.2 fun i j hi hj hij => hs i j hi hj hij)
theorem foK_len {l : Led} (h : OkL l) : (foK l).length ≤ 360 := by
 have hl : ∀ ps : List Pap, (∀ p ∈ ps, p.lv ≤ 30) → (ps.flatMap pf).length ≤ 30 * ps.length := by
  intro ps
  induction ps with
  | nil => intro _; simp
  | cons p r ih =>
   intro hh
   have h1 := hh p (by simp)
   have h2 := ih fun q hq => hh q (by simp [hq])
   rw [List.flatMap_cons, List.length_append, pf_len, List.length_cons]
   omega
 have h1 := hl l.ps fun p hp => by
  obtain ⟨j, hj, rfl⟩ := List.getElem_of_mem hp
  have := allB_at h.ps hj
  unfold papB inI at this
  simp at this
  omega
 have := h.psn
 unfold foK
 omega
def rdFo (f : Fol) : D := .agg [.v (vInt f.pa), .v (vInt f.le)]
theorem foVals_inj {l : List Fol} (hn : l.Nodup) : ∀ s s', s < l.length → s' < l.length → ([rdFo (l.getD s default)] : List D) = [rdFo (l.getD s' default)] → s = s' := by
 intro s s' h h' e
 rw [getD_at h, getD_at h'] at e
 have e1 : l[s] = l[s'] := by
  generalize l[s] = a at e ⊢
  generalize l[s'] = b at e ⊢
  obtain ⟨a1, a2⟩ := a
  obtain ⟨b1, b2⟩ := b
  simp only [rdFo, List.cons.injEq, D.agg.injEq, D.v.injEq, vInt, V.int.injEq, true_and, and_true] at e
  rw [e.1, e.2]
 exact (List.getElem_inj hn).1 e1
def whLp (l : Led) (x : Vw) (g : Nat × Int) (day : Int) : Lp where
 m := 6
 env := fun Ls => (List.range 55).map (ofL eAny [(7, ⟨true, .v (.ptr [vInt day])⟩), (9, ⟨true, .v (.ptr [.clo (.func g.1) [] [.ptr [vInt g.2]]])⟩), (14, ⟨true, .ref (Ls.getD 0 []) 0⟩), (16, ⟨true, .ref (Ls.getD 4 []) 0⟩), (42, ⟨true, .v (.clo (.func 182) [] [.ptr [encLp l]])⟩)])
 fam := fun Ls s => [.box [.ref (Ls.getD 1 []) 0], boxV x (Ls.getD 2 []) (Ls.getD 3 []), .map 2 (encBk x.bk), .map 0 (encDs x.ds), .box [.msl (Ls.getD 5 []) (ouTo l x g day s).length], .arr 2 ((ouTo l x g day s).map encFo)]
 ps := (rngOf Tryz.f104).1.toList
 asg := (rngOf Tryz.f104).2.1
 body := (rngOf Tryz.f104).2.2
 n := (foK l).length
 vals := fun s => [rdFo ((foK l).getD s default)]
 st := fun _ => none
 fu := 100
theorem whLp_ok {l : Led} (hok : OkL l) (x : Vw) (g : Nat × Int) (day : Int) : (whLp l x g day).Ok where
 len := fun Ls s _ => rfl
 renE := fun f Ls h => by obtain ⟨a, b, c, d, e, f, rfl⟩ := names6 h; rfl
 renF := fun f Ls s h => by obtain ⟨a, b, c, d, e, f, rfl⟩ := names6 h; rfl
 reach := fun Ls s obj acc q h hnd hd hF => by
  obtain ⟨a, b, c, d, e, f, rfl⟩ := names6 h
  obtain ⟨h1, h2, h3, h4, h5, h6, _⟩ := hF
  have en : namesL (((whLp l x g day).env [a, b, c, d, e, f]).map (·.d)) = [a, e] := rfl
  rw [en]
  show reachL obj (q + 91 + 1 + 1 + 1 + 1 + 1 + 1 + 1 + 1 + 1) _ acc = _
  simp only [List.mem_cons, List.not_mem_nil, or_false, forall_eq_or_imp, forall_eq] at hd
  obtain ⟨d1, d2, d3, d4, d5, d6⟩ := hd
  simp only [List.nodup_cons, List.mem_cons, List.not_mem_nil, or_false, not_or, not_false_eq_true, List.nodup_nil, and_true] at hnd
  obtain ⟨⟨a1, a2, a3, a4, a5⟩, ⟨b1, b2, b3, b4⟩, ⟨c1, c2, c3⟩, ⟨e1, e2⟩, f1⟩ := hnd
  simp [reachL, inL_iff, h1, h2, h3, h4, h5, h6, namesO, namesL, namesD, boxV, d1, d2, d3, d4, d5, d6, Ne.symm a1, Ne.symm a2, Ne.symm a3, Ne.symm a4, Ne.symm a5, Ne.symm b1, Ne.symm b2, Ne.symm b3, Ne.symm b4, Ne.symm c1, Ne.symm c2, Ne.symm c3, Ne.symm e1, Ne.symm e2, Ne.symm f1]
 closE := fun dom Ls h hd => by
  obtain ⟨a, b, c, d, e, f, rfl⟩ := names6 h
  have h1 := hd a (by simp)
  have h2 := hd e (by simp)
  simp [whLp, List.range, List.range.loop, ofL, D.closL, D.clos, eAny, h1, h2]
 closF := fun dom Ls s h hd o ho => by
  obtain ⟨a, b, c, d, e, f, rfl⟩ := names6 h
  have h1 := hd b (by simp)
  have h2 := hd c (by simp)
  have h3 := hd d (by simp)
  have h4 := hd f (by simp)
  simp only [whLp, List.mem_cons, List.not_mem_nil, or_false] at ho
  rcases ho with rfl | rfl | rfl | rfl | rfl | rfl <;> simp [O.clos, D.closL, D.clos, boxV, h1, h2, h3, h4]
 psz := fun Ls h => by rfl
 args := fun s => by rfl
 fuel := (show (100 : Nat) ≤ 2000 by decide)
 vnam := fun _ => rfl
 vcl := fun _ _ => rfl
 vren := fun _ _ => rfl
 inj := foVals_inj (foK_nodup hok)
theorem ouTo_succ {l : Led} {x : Vw} {g : Nat × Int} {day : Int} {s : Nat} (h : s < (foK l).length) : ouTo l x g day (s + 1) = ouTo l x g day s ++ (if foP x g day (foK l)[s] = true then [(foK l)[s]] else []) := take_filter_succ h
theorem ouTo_len (l : Led) (x : Vw) (g : Nat × Int) (day : Int) (s : Nat) : (ouTo l x g day s).length ≤ (foK l).length := Nat.le_trans (List.length_filter_le _ _) (by simp; omega)
theorem okFo (l : List Fol) : ∀ y ∈ l.map encFo, y.cells.length = 2 ∧ y.okc = true := by
 intro y hy; obtain ⟨x, _, rfl⟩ := List.mem_map.1 hy; exact ⟨rfl, rfl⟩
theorem whLp_y {l : Led} (hok : OkL l) {x : Vw} (hv : VOk x) (hnd : x.rs.Nodup) {g : Nat × Int} (hg : okW g) (day : Int) : SSound Tryz.prog yid (whLp l x g day).y.toSpec := by
 refine Lp.y_sound (whLp_ok hok x g day) fun s hs _ => ?_
 obtain ⟨sG, hG1, hG2, hG3, hG4, hG5, hG6⟩ := okW_app hg
 obtain ⟨Γ, hΓ, hg1, hg2⟩ : ∃ Γ : FuncId → Option Spec, (∀ f s, Γ f = some s → SSound Tryz.prog f s) ∧ Γ g.1 = some sG ∧ Γ 80 = some S80 := by
  refine ⟨fun f => if f = 80 then some S80 else KW37 f, fun f s h => ?_, ?_, rfl⟩
  ·dsimp only at h
   split at h
   ·rename_i e; cases h; subst e; exact k80
   ·exact KW37_sound _ _ h
  ·dsimp only
   rw [if_neg hG3]; exact hG1
 have hP := mixedK
 have hs' : s < (foK l).length := hs
 have hf0 : (whLp l x g day).fam (LR 6) s = [.box [.ref [1, 1] 0], boxV x [2, 1] [3, 1], .map 2 (encBk x.bk), .map 0 (encDs x.ds), .box [.msl [5, 1] (ouTo l x g day s).length], .arr 2 ((ouTo l x g day s).map encFo)] := rfl
 have hf1 : (whLp l x g day).fam (LR 6) (s + 1) = [.box [.ref [1, 1] 0], boxV x [2, 1] [3, 1], .map 2 (encBk x.bk), .map 0 (encDs x.ds), .box [.msl [5, 1] (ouTo l x g day (s + 1)).length], .arr 2 ((ouTo l x g day (s + 1)).map encFo)] := rfl
 have hst : (whLp l x g day).st s = none := rfl
 have hvv : (whLp l x g day).vals s = [rdFo ((foK l)[s])] := by rw [← getD_at (z := default) hs']; rfl
 have hm : (whLp l x g day).m = 6 := rfl
 have hol : (ouTo l x g day s).length ≤ 360 := Nat.le_trans (ouTo_len l x g day s) (foK_len hok)
 rw [hm, hf0, hf1, hst, hvv, ouTo_succ hs']
 generalize (foK l)[s] = fo
 generalize ouTo l x g day s = ou at *
 generalize hos : [O.box [.ref [1, 1] 0], boxV x [2, 1] [3, 1], .map 2 (encBk x.bk), .map 0 (encDs x.ds), .box [.msl [5, 1] ou.length], .arr 2 (ou.map encFo)] = os
 have hO : ∀ hs, OutC [0] (domOf [0] hs) (outH os) = True := by
  subst hos
  refine fun hs => eq_true (outC_outs ?_ hs)
  intro o ho dom hd
  simp only [List.mem_cons, List.not_mem_nil, or_false] at ho
  rcases ho with rfl | rfl | rfl | rfl | rfl | rfl <;> simp [O.clos, D.closL, D.clos, boxV, hd]
 have h0 : outH os [0, 1] = some (.box [.ref [1, 1] 0]) := by subst hos; rfl
 have h1 : outH os [1, 1] = some (boxV x [2, 1] [3, 1]) := by subst hos; rfl
 have h2 : outH os [2, 1] = some (.map 2 (encBk x.bk)) := by subst hos; rfl
 have h3 : outH os [3, 1] = some (.map 0 (encDs x.ds)) := by subst hos; rfl
 have h4 : outH os [4, 1] = some (.box [.msl [5, 1] ou.length]) := by subst hos; rfl
 have h5 : outH os [5, 1] = some (.arr 2 (ou.map encFo)) := by subst hos; rfl
 generalize hH : outH os = H at *
 clear hos hH
 obtain ⟨fp, fl⟩ := fo
 simp only [boxV] at h1 ⊢
 have hrn : rngOf Tryz.f104 = (_, _, _) := rfl
 refine cw_weak (weak_to 55 [0] H [(7, ⟨true, .v (.ptr [vInt day])⟩), (9, ⟨true, .v (.ptr [.clo (.func g.1) [] [.ptr [vInt g.2]]])⟩), (14, ⟨true, .ref [0, 1] 0⟩), (16, ⟨true, .ref [4, 1] 0⟩), (43, ⟨true, rdFo ⟨fp, fl⟩⟩)] [] rfl rfl (fun _ _ => rfl) ?_ (by simp) ?_ ?_) ?_
 ·intro q hq
  simp only [List.mem_cons, List.not_mem_nil, or_false] at hq
  rcases hq with rfl | rfl | rfl | rfl | rfl <;> rfl
 ·simp [D.clos, D.closL, domOf, own, rdFo]
 ·rw [hO]; trivial
 simp only [whLp, hrn, rdFo]
 refine cl_of ?_
 refine cl_r hΓ fun K' hK => ?_
 simp only [go_sem]
 repeat (refine ⟨obx, ?_⟩)
 refine hK _ ?_
 clear K' hK
 simp only [go_sem]
 (show CW _ _ _ _)
 refine cl_of ?_
 refine cl_block ?_
 repeat refine sq ?_
 refine dx hΓ hP [[], [], [], [], [1, 2, 3], u5] [7,9,14,16,17,49] [[7, 0],[9, 0],[14, 0],[16, 0],[17, 0],[53, 0]] (by kernel_rfl) (fun K' hK => by simp only [go_sem, h0, h1, h2, h3, hg1, hg2, hG2, hG4, hG5, hG6, VSpec.foot]; (repeat (refine ⟨by first | exact obx | exact ⟨hv, hnd⟩, ?_⟩)); (first | refine ⟨by rfl, ?_⟩ | skip); exact hK _ (by simp only [go_sem, hO]) (by simp only [go_sem] <;> rfl)) ?_
 refine cnd (fun hb => ?_) fun hb => ?_
 ·refine cl_r hΓ fun K' hK => ?_
  simp only [go_sem, h4, h5]
  repeat (refine ⟨obx, ?_⟩)
  refine hK _ ?_
  clear K' hK
  simp only [go_sem]
  refine cl_nil ?_
  rw [if_pos (show foP x g day ⟨fp, fl⟩ = true from hb)]
  refine ⟨rfl, ?_⟩
  show objAll _ [[0, 1], [1, 1], [2, 1], [3, 1], [4, 1], [5, 1]] _
  simp only [objAll, go_sem, h0, h1, h2, h3, h4, h5, List.map_append, List.map_cons, List.map_nil, List.length_append, List.length_cons, List.length_nil]
 ·refine cl_skip ?_
  refine cl_nil ?_
  simp only [go_sem]
  rw [if_neg (show ¬ foP x g day ⟨fp, fl⟩ = true from fun h => by rw [show foP x g day ⟨fp, fl⟩ = false from hb] at h; cases h), List.append_nil]
  refine ⟨rfl, ?_⟩
  show objAll _ [[0, 1], [1, 1], [2, 1], [3, 1], [4, 1], [5, 1]] _
  simp only [objAll, go_sem, h0, h1, h2, h3, h4, h5]
end
set_option maxHeartbeats 8000000
noncomputable section
def wtE (l : Led) (pe day k : Int) : Int := if chkI l = 0 then (if inI pe 0 99 = true then (if daysE l [day, k] = 0 then eS l k else daysE l [day, k]) else 1) else chkI l
def wtL (l : Led) (pe day k : Int) (g : Nat × Int) : List Fol := if wtE l pe day k = 0 then (foK l).filter (foP (svK (lookV l k) k) g day) else []
theorem ouTo_all (l : Led) (x : Vw) (g : Nat × Int) (day : Int) : ouTo l x g day (foK l).length = (foK l).filter (foP x g day) := by unfold ouTo; rw [List.take_length]
def K38 : List (Nat × Spec) := [(37, S37), (96, S96), (75, S75), (78, S78), (93, S93)]
theorem K38_sound : KS K38 := tc s37.sound <| tc s96.sound <| tc s75.sound <| tc k78 <| tc s93.sound <| tn
attribute [go_sem] K38
@[go_sem] def P104 : PSpec := p5 iL iI iI iI iClo (fun _ _ _ _ g => okW g) (fun l pe day k g => .tup [.sl ((wtL l pe day k g).map encFo), vInt (wtE l pe day k)]) false
@[go_sem] def S104 : Spec := P104.toSpec
theorem s104 : PSound Tryz.prog 104 P104 := by
 refine w5 (rs := [.tmp 10, .tmp 11]) Tryz.func104 Tryz.ntmps104 (by rfl) (by kernel_rfl) (by decide) (fun h => by cases h) ⟨_, rfl, lb rfl, fun l pe day k g hp hw => ?_⟩
 simp only [iClo, iI, iL, encL] at hw ⊢
 have hΓ := K38_sound
 repeat refine sq ?_
 refine rsx hΓ [1,3,5,7,9] [[5, 0],[7, 0],[9, 0]] ?_
 refine cl_weakM (weakM_frzk 5 (.ref [5, 0] 0) (by simp only [go_sem]) (by simp only [go_sem]) [1,3,5,7,9] [[5, 0],[7, 0],[9, 0]] ?_ rfl) ?_
 ·simp only [go_sem]
 simp only [go_sem]
 refine cl_weakM (weakM_frzk 7 (.ref [7, 0] 0) (by simp only [go_sem]) (by simp only [go_sem]) [1,3,5,7,9] [[5, 0],[7, 0],[9, 0]] ?_ rfl) ?_
 ·simp only [go_sem]
 simp only [go_sem]
 refine cl_weakM (weakM_frzk 9 (.ref [9, 0] 0) (by simp only [go_sem]) (by simp only [go_sem]) [1,3,5,7,9] [[5, 0],[7, 0],[9, 0]] ?_ rfl) ?_
 ·simp only [go_sem]
 simp only [go_sem]
 repeat refine sq ?_
 refine rsx hΓ [1,3,5,7,9,12] [[5, 0],[7, 0],[9, 0]] ?_
 repeat refine sq ?_
 refine rsx hΓ [1,3,5,7,9,12,21] [[5, 0],[7, 0],[9, 0]] ?_
 refine cnd (fun hb => ?_) fun hb => ?_
 ·repeat refine sq ?_
  have hc : ¬ chkI l = 0 := by simpa using hb
  have he : wtE l pe day k = chkI l := by unfold wtE; rw [if_neg hc]
  have ha : wtL l pe day k g = [] := by unfold wtL; rw [he, if_neg hc]
  rw [he, ha]
  refine rsx hΓ [10,11] [[53, 0]] ?_
  refine cl_ret ?_
  simp only [go_sem]
  all_goals first | done | rfl | trace_state
 ·have hc : chkI l = 0 := by simpa using hb
  refine cl_skip ?_
  repeat refine sq ?_
  refine rsx hΓ [3,5,7,9,25] [[5, 0],[7, 0],[9, 0]] ?_
  refine cnd (fun hb => ?_) fun hb => ?_
  ·repeat refine sq ?_
   have hpe : ¬ inI pe 0 99 = true := by simpa using hb
   have he : wtE l pe day k = 1 := by unfold wtE; rw [if_pos hc, if_neg hpe]
   have ha : wtL l pe day k g = [] := by unfold wtL; rw [he, if_neg (by decide)]
   rw [he, ha]
   refine rsx hΓ [10,11] [[53, 0]] ?_
   refine cl_ret ?_
   simp only [go_sem]
   all_goals first | done | rfl | trace_state
  ·have hpe : inI pe 0 99 = true := by simpa using hb
   refine cl_skip ?_
   repeat refine sq ?_
   refine rsx hΓ [3,5,7,9,13] [[5, 0],[7, 0],[9, 0]] ?_
   repeat refine sq ?_
   refine rsx hΓ [3,5,7,9,13,32] [[5, 0],[7, 0],[9, 0]] ?_
   refine cnd (fun hb => ?_) fun hb => ?_
   ·repeat refine sq ?_
    have hd : ¬ daysE l [day, k] = 0 := by simpa using hb
    have he : wtE l pe day k = daysE l [day, k] := by unfold wtE; rw [if_pos hc, if_pos hpe, if_neg hd]
    have ha : wtL l pe day k g = [] := by unfold wtL; rw [he, if_neg hd]
    rw [he, ha]
    refine rsx hΓ [10,11] [[53, 0]] ?_
    refine cl_ret ?_
    simp only [go_sem]
    all_goals first | done | rfl | trace_state
   ·have hd : daysE l [day, k] = 0 := by simpa using hb
    have he : wtE l pe day k = eS l k := by unfold wtE; rw [if_pos hc, if_pos hpe, if_pos hd]
    obtain ⟨hok, _⟩ := daysE_ok hd
    refine cl_skip ?_
    rcases hsb : soundB l k with _ | _
    ·obtain ⟨q1, q2, q3⟩ := sound_no hsb
     have q4 : ¬ eS l k = 0 := by simpa using q3
     have ha : wtL l pe day k g = [] := by unfold wtL; rw [he, if_neg q4]
     rw [he, ha]
     repeat refine sq ?_
     refine rx hΓ [5,7,9,14,15] [[5, 0],[7, 0],[9, 0],[14, 0],[26, 0, 11, 0, 11, 0, 36, 0],[23, 0, 11, 0, 11, 0, 36, 0],[24, 0, 11, 0, 11, 0, 36, 0]] (fun K' hK => by simp only [go_sem, q1, q2]; exact fnx) ?_
     repeat refine sq ?_
     refine rx hΓ [5,7,9,14,15,40] [[5, 0],[7, 0],[9, 0],[14, 0],[26, 0, 11, 0, 11, 0, 36, 0],[23, 0, 11, 0, 11, 0, 36, 0],[24, 0, 11, 0, 11, 0, 36, 0]] (fun K' hK => by simp only [go_sem, q3]; exact fnx) ?_
     refine cnd (fun hb => ?_) fun hb => ?_
     ·repeat refine sq ?_
      refine rsx hΓ [10,11] [[53, 0]] ?_
      refine cl_ret ?_
      simp only [go_sem]
      all_goals first | done | rfl | trace_state
     ·cases hb
    ·obtain ⟨q1, q2, q3⟩ := sound_yes hsb
     obtain ⟨hv, hnd⟩ := svK_ok hok k
     have ha : wtL l pe day k g = (foK l).filter (foP (svK (lookV l k) k) g day) := by unfold wtL; rw [he, if_pos q3]
     rw [he, ha, q3]
     repeat refine sq ?_
     refine rx hΓ [5,7,9,14,15] [[5, 0],[7, 0],[9, 0],[14, 0],[26, 0, 11, 0, 11, 0, 36, 0],[23, 0, 11, 0, 11, 0, 36, 0],[24, 0, 11, 0, 11, 0, 36, 0]] (fun K' hK => by simp only [go_sem, q1, q2]; exact fnx) ?_
     repeat refine sq ?_
     refine rsx hΓ [5,7,9,14,15,40] [[5, 0],[7, 0],[9, 0],[14, 0],[26, 0, 11, 0, 11, 0, 36, 0],[23, 0, 11, 0, 11, 0, 36, 0],[24, 0, 11, 0, 11, 0, 36, 0]] ?_
     refine cnd (fun hb => ?_) fun hb => ?_
     ·cases hb
     ·refine cl_skip ?_
      repeat refine sq ?_
      refine rsx hΓ [5,7,9,14,16] [[5, 0],[7, 0],[9, 0],[14, 0],[16, 0],[53, 0],[26, 0, 11, 0, 11, 0, 36, 0],[23, 0, 11, 0, 11, 0, 36, 0],[24, 0, 11, 0, 11, 0, 36, 0]] ?_
      refine cl_weakM (weakM_ghostI [16, 0] [53, 0] 0 2 _ rfl rfl rfl [5,7,9,14,16] [[5, 0],[7, 0],[9, 0],[14, 0],[16, 0],[53, 0],[26, 0, 11, 0, 11, 0, 36, 0],[23, 0, 11, 0, 11, 0, 36, 0],[24, 0, 11, 0, 11, 0, 36, 0]] ?_ rfl) ?_
      ·simp only [go_sem, List.set_cons_zero]
      simp only [go_sem, List.set_cons_zero]
      repeat refine sq ?_
      refine rsx hΓ [7,9,14,16,42] [[7, 0],[9, 0],[14, 0],[16, 0],[53, 0],[26, 0, 11, 0, 11, 0, 36, 0],[23, 0, 11, 0, 11, 0, 36, 0],[24, 0, 11, 0, 11, 0, 36, 0]] ?_
      refine cl_block ?_
      have hit : SSound Tryz.prog 182 ((whLp l (svK (lookV l k) k) g day).it [.ptr [encLp l]]).toSpec := s182 (whLp_ok hok _ g day) (fun _ => rfl) (whLp_y hok hv hnd hp day) hok rfl (fun _ => rfl)
      refine cl_iterV (whLp_ok hok (svK (lookV l k) k) g day) 200 201 (f := 182) (Ls := [[14, 0], [26, 0, 11, 0, 11, 0, 36, 0], [23, 0, 11, 0, 11, 0, 36, 0], [24, 0, 11, 0, 11, 0, 36, 0], [16, 0], [53, 0]]) rfl rfl (by decide) hit rfl rfl rfl rfl rfl rfl (by decide) (show ([200, 0] : Name) ∉ [[14, 0], [26, 0, 11, 0, 11, 0, 36, 0], [23, 0, 11, 0, 11, 0, 36, 0], [24, 0, 11, 0, 11, 0, 36, 0], [16, 0], [53, 0]] by decide) ⟨rfl, rfl, rfl, rfl, rfl, rfl, trivial⟩ fun o => ?_
      obtain ⟨g1, g2⟩ := Lp.go_e (r := whLp l (svK (lookV l k) k) g day) (fun _ => rfl)
      have g3 : (whLp l (svK (lookV l k) k) g day).fam [[14, 0], [26, 0, 11, 0, 11, 0, 36, 0], [23, 0, 11, 0, 11, 0, 36, 0], [24, 0, 11, 0, 11, 0, 36, 0], [16, 0], [53, 0]] (whLp l (svK (lookV l k) k) g day).e = [.box [.ref [26, 0, 11, 0, 11, 0, 36, 0] 0], boxV (svK (lookV l k) k) [23, 0, 11, 0, 11, 0, 36, 0] [24, 0, 11, 0, 11, 0, 36, 0], .map 2 (encBk (svK (lookV l k) k).bk), .map 0 (encDs (svK (lookV l k) k).ds), .box [.msl [53, 0] ((foK l).filter (foP (svK (lookV l k) k) g day)).length], .arr 2 (((foK l).filter (foP (svK (lookV l k) k) g day)).map encFo)] := by
       rw [g1, ← ouTo_all]; rfl
      rw [g2, g3]
      simp only [pdK, thenK]
      refine cl_nil ?_
      show CL Tryz.prog (_ :: _) _ _
      refine cl_keep [16] [[16, 0],[53, 0]] ?_ ?_
      ·simp only [go_sem, setLs]
      simp only [go_sem, setLs]
      repeat refine sq ?_
      refine rsx hΓ [10,11] [[53, 0]] ?_
      refine cl_ret ?_
      simp only [go_sem]
theorem okW_105 (p : Int) : okW (105, p) := .inl rfl
theorem okW_107 (p : Int) : okW (107, p) := .inr rfl
def K38b : List (Nat × Spec) := [(104, S104)]
theorem K38b_sound : KS K38b := tc s104.sound <| tn
attribute [go_sem] K38b
@[go_sem] def P32 : PSpec := p4 iL iI iI iI (fun _ _ _ _ => True) (fun l pe day k => .tup [.sl ((wtL l pe day k (105, pe)).map encFo), vInt (wtE l pe day k)]) false
@[go_sem] def S32 : Spec := P32.toSpec
theorem s32 : PSound Tryz.prog 32 P32 := by
 refine wd4 (rs := [.tmp 8, .tmp 9]) Tryz.func32 Tryz.ntmps32 fun l pe day k hp hw => ?_
 simp only [iI, iL, encL] at hw ⊢
 have hΓ := K38b_sound
 repeat refine sq ?_
 refine rsx hΓ [2,3,4,5] [[4, 0],[5, 0]] ?_
 refine cl_weakM (weakM_frzk 4 (.ref [4, 0] 0) (by simp only [go_sem]) (by simp only [go_sem]) [2,3,4,5] [[4, 0],[5, 0]] ?_ rfl) ?_
 ·simp only [go_sem]
 simp only [go_sem]
 refine cl_weakM (weakM_frzk 5 (.ref [5, 0] 0) (by simp only [go_sem]) (by simp only [go_sem]) [2,3,4,5] [[4, 0],[5, 0]] ?_ rfl) ?_
 ·simp only [go_sem]
 simp only [go_sem]
 repeat refine sq ?_
 refine rx hΓ [8,9] [] (fun K' hK => by simp only [go_sem, okW_105]; exact fnx) ?_
 refine cl_ret ?_
 simp only [go_sem]
 all_goals exact fzI
@[go_sem] def P34 : PSpec := p4 iL iI iI iI (fun _ _ _ _ => True) (fun l pe day k => .tup [.sl ((wtL l pe day k (107, pe)).map encFo), vInt (wtE l pe day k)]) false
@[go_sem] def S34 : Spec := P34.toSpec
theorem s34 : PSound Tryz.prog 34 P34 := by
 refine wd4 (rs := [.tmp 8, .tmp 9]) Tryz.func34 Tryz.ntmps34 fun l pe day k hp hw => ?_
 simp only [iI, iL, encL] at hw ⊢
 have hΓ := K38b_sound
 repeat refine sq ?_
 refine rsx hΓ [2,3,4,5] [[4, 0],[5, 0]] ?_
 refine cl_weakM (weakM_frzk 4 (.ref [4, 0] 0) (by simp only [go_sem]) (by simp only [go_sem]) [2,3,4,5] [[4, 0],[5, 0]] ?_ rfl) ?_
 ·simp only [go_sem]
 simp only [go_sem]
 refine cl_weakM (weakM_frzk 5 (.ref [5, 0] 0) (by simp only [go_sem]) (by simp only [go_sem]) [2,3,4,5] [[4, 0],[5, 0]] ?_ rfl) ?_
 ·simp only [go_sem]
 simp only [go_sem]
 repeat refine sq ?_
 refine rx hΓ [8,9] [] (fun K' hK => by simp only [go_sem, okW_107]; exact fnx) ?_
 refine cl_ret ?_
 simp only [go_sem]
 all_goals exact fzI
end
set_option maxHeartbeats 8000000
noncomputable section
def rxI (l : Led) (so k : Int) : Int := idxF (fun r => r.so == so && countsB r.kn r.un k) l.rs
def isR (so k : Int) (r : Rec) : Bool := r.so == so && countsB r.kn r.un k
theorem rxI_at {l : Led} {so k : Int} {i : Nat} (h : i < l.rs.length) (hp : isR so k l.rs[i] = true) (hn : ∀ j (hj : j < l.rs.length), j < i → isR so k l.rs[j] = false) : rxI l so k = i := idxF_at h hp hn
theorem rxI_no {l : Led} {so k : Int} (hn : ∀ j (hj : j < l.rs.length), j < l.rs.length → isR so k l.rs[j] = false) : rxI l so k = -1 := by
 unfold rxI idxF
 rw [if_neg]
 intro h
 obtain ⟨x, hx, hp⟩ := List.any_eq_true.1 h
 obtain ⟨j, hj, rfl⟩ := List.getElem_of_mem hx
 have := hn j hj hj
 unfold isR at this
 rw [this] at hp
 exact absurd hp (by decide)
def K39 : List (Nat × Spec) := [(157, S157)]
theorem K39_sound : KS K39 := tc s157.sound <| tn
attribute [go_sem] K39
@[go_sem] def P70 : PSpec := p3 iL iI iI (fun l _ _ => l.rs.length ≤ 60) (fun l so k => vInt (rxI l so k)) true
@[go_sem] def S70 : Spec := P70.toSpec
theorem s70 : PSound Tryz.prog 70 P70 := by
 refine wd3 (rs := [.tmp 6]) Tryz.func70 Tryz.ntmps70 fun l so k hp hw => ?_
 simp only [iI, iL, encL] at hw ⊢
 have hΓ := K39_sound
 have hl : l.rs.length ≤ maxLen := by unfold maxLen; omega
 repeat refine sq ?_
 refine rsx hΓ [1,2,3] [[3, 0]] ?_
 repeat refine sq ?_
 refine rsx hΓ [1,2,3,7] [[3, 0]] ?_
 refine cl_block ?_
 refine cl_loop'  (fun s : Nat => [(7, ⟨true, .v (vInt s)⟩)]) (fun s => []) (fun s => s ≤ l.rs.length ∧ ∀ j (hj : j < l.rs.length), j < s → isR so k l.rs[j] = false) (fun s => l.rs.length - s) 0 ?_ ?_ ?_ ?_
 ·exact ⟨Nat.zero_le _, by simp⟩
 ·rfl
 ·rfl
 rintro i ⟨hi, hR⟩
 simp only [go_sem]
 repeat refine sq ?_
 refine rsx hΓ [1,2,3,7,13] [[3, 0]] ?_
 refine cnd (fun hb => ?_) fun hb => ?_
 ·have hlt : i < l.rs.length := by simpa using hb
  have hlt' : (i : Int) < l.rs.length := by omega
  clear hb
  refine cl_skip ?_
  repeat refine sq ?_
  refine cl_block ?_
  repeat refine sq ?_
  refine rx hΓ [1,2,3,7,8] [[3, 0],[8, 0]] (fun K' hK => by simp only [go_sem, map_getD hlt, tnI, nnI, hlt']; exact fnx) ?_
  repeat refine sq ?_
  refine rsx hΓ [1,2,3,7,32] [[3, 0]] ?_
  refine cnd (fun hb => ?_) fun hb => ?_
  ·repeat refine sq ?_
   have e : rxI l so k = i := rxI_at hlt (by unfold isR; simpa using hb) (fun j hj hji => hR j hj hji)
   refine rsx hΓ [6] [] ?_
   refine cl_ret ?_
   simp only [go_sem]
   rw [e]
  ·refine cl_skip ?_
   refine cl_nil ?_
   simp only [go_sem]
   refine kp [1,2,3,7] [[3, 0]] ?_
   refine cl_r hΓ fun K' hK => ?_
   simp only [go_sem]
   repeat (refine ⟨obx, ?_⟩)
   refine hK _ ?_
   clear K' hK
   simp only [go_sem]
   refine ⟨i + 1, ⟨hlt, ?_⟩, by (show l.rs.length - (i + 1) < l.rs.length - i; omega), ?_⟩
   ·intro j hj hji
    rcases Nat.lt_succ_iff_lt_or_eq.1 hji with h5 | rfl
    ·exact hR j hj h5
    ·unfold isR; simpa using hb
   refine weak_eq [1,2,3,7] [[3, 0]] ?_ ?_ <;> simp only [go_sem, wrap_succ hlt hl, csI]
 ·have hge : i = l.rs.length := by
   have : ¬ (i : Int) < l.rs.length := by simpa using hb
   omega
  clear hb
  subst hge
  refine cl_exit ?_
  simp only [go_sem]
  refine kp [] [] ?_
  repeat refine sq ?_
  refine rsx hΓ [6] [] ?_
  refine cl_ret ?_
  simp only [go_sem]
  rw [rxI_no hR]
def earl (t : Ret) (r : Rec) : Int := maxI t.lo (r.da + 1)
def recD (r : Rec) : Prop := 0 ≤ r.da ∧ r.da ≤ 100000
@[go_sem] def P158 : PSpec := p2 iT iR (fun _ r => recD r) (fun t r => vInt (earl t r)) true
@[go_sem] def S158 : Spec := P158.toSpec
theorem s158 : PSound Tryz.prog 158 P158 := by
 refine wd2 (rs := [.tmp 4]) Tryz.func158 Tryz.ntmps158 fun t r hp hw => ?_
 simp only [iR, iT, encR, encT] at hw ⊢
 have hΓ := @no_sound Tryz.prog
 have hwd := wrap_day hp
 repeat refine sq ?_
 refine rsx hΓ [2,3] [[2, 0],[3, 0]] ?_
 repeat refine sq ?_
 refine rx hΓ [4] [] (fun K' hK => by simp only [go_sem, hwd]; exact fnx) ?_
 refine cl_ret ?_
 simp only [go_sem]
 all_goals exact fzI
@[go_sem] def P102 : PSpec := p2 iB iB (fun _ _ => True) (fun a b => vInt (if a then 0 else if b then 1 else 2)) true
@[go_sem] def S102 : Spec := P102.toSpec
theorem s102 : PSound Tryz.prog 102 P102 := by
 refine wd2 (rs := [.tmp 4]) Tryz.func102 Tryz.ntmps102 fun a b hp hw => ?_
 simp only [iB] at hw ⊢
 have hΓ := @no_sound Tryz.prog
 repeat refine sq ?_
 refine rsx hΓ [0,1] [] ?_
 repeat refine sq ?_
 refine rsx hΓ [1,5] [] ?_
 refine cnd (fun hb => ?_) fun hb => ?_
 ·repeat refine sq ?_
  refine rsx hΓ [4] [] ?_
  refine cl_ret ?_
  simp only [go_sem]
  simp_all
 ·refine cl_skip ?_
  repeat refine sq ?_
  refine rsx hΓ [6] [] ?_
  refine cnd (fun hb => ?_) fun hb => ?_
  ·repeat refine sq ?_
   refine rsx hΓ [4] [] ?_
   refine cl_ret ?_
   simp only [go_sem]
   simp_all
  ·refine cl_skip ?_
   repeat refine sq ?_
   refine rsx hΓ [4] [] ?_
   refine cl_ret ?_
   simp only [go_sem]
   simp_all
def askI (l : Led) (ds : List Int) : Int := if okLB l = false then 24 else if ds.all dayB then 0 else 6
def K39b : List (Nat × Spec) := [(69, S69), (154, S154)]
theorem K39b_sound : KS K39b := tc s69.sound <| tc s154.sound <| tn
attribute [go_sem] K39b
@[go_sem] def P98 : PSpec := p2 iL iIs (fun _ ds => ds.length ≤ 60) (fun l ds => vInt (askI l ds)) true
@[go_sem] def S98 : Spec := P98.toSpec
theorem s98 : PSound Tryz.prog 98 P98 := by
 refine wd2 (rs := [.tmp 4]) Tryz.func98 Tryz.ntmps98 fun l ds hp hw => ?_
 simp only [iIs, iL, encL] at hw ⊢
 have hΓ := K39b_sound
 have hl : ds.length ≤ maxLen := by unfold maxLen; omega
 repeat refine sq ?_
 refine rsx hΓ [1,2] [[2, 0]] ?_
 repeat refine sq ?_
 refine rx hΓ [1,8] [] (fun K' hK => by simp only [go_sem, chkI_ne]; exact fnx) ?_
 refine cnd (fun hb => ?_) fun hb => ?_
 ·repeat refine sq ?_
  have ho : okLB l = false := by simpa using hb
  refine rsx hΓ [4] [] ?_
  refine cl_ret ?_
  simp only [go_sem]
  unfold askI; rw [if_pos ho]
 ·have ho : okLB l = true := by simpa using hb
  refine cl_skip ?_
  repeat refine sq ?_
  refine rsx hΓ [1,5] [] ?_
  refine cl_block ?_
  refine cl_loop'  (fun s : Nat => [(5, ⟨true, .v (vInt s)⟩)]) (fun s => []) (fun s => s ≤ ds.length ∧ ∀ j (hj : j < ds.length), j < s → dayB ds[j] = true) (fun s => ds.length - s) 0 ?_ ?_ ?_ ?_
  ·exact ⟨Nat.zero_le _, by simp⟩
  ·rfl
  ·rfl
  rintro i ⟨hi, hR⟩
  simp only [go_sem]
  repeat refine sq ?_
  refine rsx hΓ [1,5,12] [] ?_
  refine cnd (fun hb => ?_) fun hb => ?_
  ·have hlt : i < ds.length := by simpa using hb
   have hlt' : (i : Int) < ds.length := by omega
   clear hb
   refine cl_skip ?_
   repeat refine sq ?_
   refine cl_block ?_
   repeat refine sq ?_
   refine rx hΓ [1,5,20] [] (fun K' hK => by simp only [go_sem, map_getD hlt, tnI, nnI, hlt']; exact fnx) ?_
   refine cnd (fun hb => ?_) fun hb => ?_
   ·repeat refine sq ?_
    have e : askI l ds = 6 := by
     unfold askI
     rw [if_neg (by simp [ho]), if_neg]
     intro h
     have := List.all_eq_true.1 h _ (List.getElem_mem hlt)
     simp [this] at hb
    refine rsx hΓ [4] [] ?_
    refine cl_ret ?_
    simp only [go_sem]
    rw [e]
   ·refine cl_skip ?_
    refine cl_nil ?_
    simp only [go_sem]
    refine kp [1,5] [] ?_
    refine cl_r hΓ fun K' hK => ?_
    simp only [go_sem]
    repeat (refine ⟨obx, ?_⟩)
    refine hK _ ?_
    clear K' hK
    simp only [go_sem]
    refine ⟨i + 1, ⟨hlt, ?_⟩, by (show ds.length - (i + 1) < ds.length - i; omega), ?_⟩
    ·intro j hj hji
     rcases Nat.lt_succ_iff_lt_or_eq.1 hji with h5 | rfl
     ·exact hR j hj h5
     ·simpa using hb
    refine weak_eq [1,5] [] ?_ ?_ <;> simp only [go_sem, wrap_succ hlt hl, csI]
  ·have hge : i = ds.length := by
    have : ¬ (i : Int) < ds.length := by simpa using hb
    omega
   clear hb
   subst hge
   refine cl_exit ?_
   simp only [go_sem]
   refine kp [] [] ?_
   repeat refine sq ?_
   refine rsx hΓ [4] [] ?_
   refine cl_ret ?_
   simp only [go_sem]
   unfold askI; rw [if_neg (by simp [ho]), if_pos (List.all_eq_true.2 fun x hx => by obtain ⟨j, hj, rfl⟩ := List.getElem_of_mem hx; exact hR j hj hj)]
end
noncomputable section
theorem okL_rda {l : Led} (h : OkL l) {r : Rec} (hr : r ∈ l.rs) : recD r := by
 obtain ⟨j, hj, rfl⟩ := List.getElem_of_mem hr
 have := allB_at h.rs hj
 unfold recB at this
 simp only [Bool.and_eq_true] at this
 have hd := this.1.2
 unfold dayB inI at hd
 simp at hd
 exact hd
theorem okL_tlv {l : Led} (h : OkL l) {i : Nat} (hi : i < l.ts.length) : l.ts[i].lv.length ≤ 30 := by
 have := allB_at h.ts hi
 unfold retB at this
 simp only [Bool.and_eq_true] at this
 exact (leavesB_iff.1 this.1.1.1.2).2.1
def rsAt (l : Led) (i : Nat) : Rec := l.rs.getD i zeroR
theorem rx_cases (l : Led) (so k : Int) : rxI l so k = -1 ∨ ∃ j, ∃ h : j < l.rs.length, rxI l so k = (j : Int) ∧ isR so k l.rs[j] = true := by
 unfold rxI idxF
 by_cases h : (l.rs.any fun r => r.so == so && countsB r.kn r.un k) = true
 ·rw [if_pos h]
  have hlt : l.rs.findIdx (fun r => r.so == so && countsB r.kn r.un k) < l.rs.length := List.findIdx_lt_length_of_exists (by obtain ⟨x, hx, hp⟩ := List.any_eq_true.1 h; exact ⟨x, hx, hp⟩)
  exact .inr ⟨_, hlt, rfl, List.findIdx_getElem (w := hlt)⟩
 ·rw [if_neg h]; exact .inl rfl
def tkB (l : Led) (row : List Bool) (x : Ret) (f : Int) (j : Nat) : Bool := !(row.getD j false && (tsAt l j).re == x.re && (tsAt l j).lv.contains f)
def allTo (p : Nat → Bool) (j : Nat) : Bool := (List.range j).all p
def lfB (l : Led) (row : List Bool) (i : Nat) (r : Rec) (x : Ret) (f : Int) : Bool := r.lv.contains f && allTo (tkB l row x f) i
def telB (l : Led) (k : Int) (row : List Bool) (i : Nat) : Bool :=
 if rxI l (tsAt l i).re k < 0 then false else
  (countsB (tsAt l i).kn (tsAt l i).un k && !decide (earl (tsAt l i) (rsAt l (rxI l (tsAt l i).re k).toNat) > (tsAt l i).hi)) &&
   (tsAt l i).lv.all (lfB l row i (rsAt l (rxI l (tsAt l i).re k).toNat) (tsAt l i))
def telR (l : Led) (k : Int) : Nat → List Bool
 | 0 => List.replicate l.ts.length false
 | s + 1 => if telB l k (telR l k s) s = true then (telR l k s).set s true else telR l k s
theorem telR_len (l : Led) (k : Int) (s : Nat) : (telR l k s).length = l.ts.length := by
 induction s with
 | zero => simp [telR]
 | succ s ih => unfold telR; split <;> simp [ih]
theorem telR_hi (l : Led) (k : Int) {s j : Nat} (h : s ≤ j) : (telR l k s).getD j false = false := by
 induction s with
 | zero =>
  simp only [telR, List.getD_eq_getElem?_getD, List.getElem?_replicate]
  split <;> rfl
 | succ s ih =>
  unfold telR
  split
  ·rw [List.getD_eq_getElem?_getD, List.getElem?_set_ne (by omega), ← List.getD_eq_getElem?_getD]; exact ih (by omega)
  ·exact ih (by omega)
theorem telR_set (l : Led) (k : Int) {s : Nat} (h : s < l.ts.length) : (telR l k s).set s (telB l k (telR l k s) s) = telR l k (s + 1) := by
 rw [telR]
 split
 ·rename_i e; rw [e]
 ·rename_i e
  have e2 : telB l k (telR l k s) s = false := by simpa using e
  have e3 := telR_hi l k (Nat.le_refl s)
  rw [List.getD_eq_getElem?_getD, List.getElem?_eq_getElem (by rw [telR_len]; exact h)] at e3
  have e4 : (telR l k s)[s]'(by rw [telR_len]; exact h) = false := e3
  rw [e2, ← e4]
  exact List.set_getElem_self _
theorem telR_no (l : Led) (k : Int) {s : Nat} (e : telB l k (telR l k s) s = false) : telR l k (s + 1) = telR l k s := by
 rw [telR, if_neg (by rw [e]; decide)]
theorem rep0 (l : Led) (k : Int) : List.replicate l.ts.length (V.bool false) = (telR l k 0).map V.bool := by rw [telR, List.map_replicate]
theorem rsAt_at {l : Led} {i : Nat} (h : i < l.rs.length) : rsAt l i = l.rs[i] := by unfold rsAt; rw [List.getD_eq_getElem?_getD, List.getElem?_eq_getElem h]; rfl
theorem map_getDb {L : List Bool} {j : Nat} {d : V} (h : j < L.length) : (L.map V.bool).getD j d = .bool (L.getD j false) := by
 simp [List.getD_eq_getElem?_getD, h]
theorem allTo_succ (p : Nat → Bool) (j : Nat) : allTo p (j + 1) = (allTo p j && p j) := by
 unfold allTo
 rw [List.range_succ, List.all_append]; simp
theorem neg1_lt : decide ((-1 : Int) < 0) = true := rfl
theorem set_mapB (row : List Bool) (i : Nat) (b : Bool) : (row.map V.bool).set i (.bool b) = (row.set i b).map V.bool := List.map_set.symm
def K40 : List (Nat × Spec) := [(70, S70), (157, S157), (158, S158), (15, S15)]
theorem K40_sound : KS K40 := tc s70.sound <| tc s157.sound <| tc s158.sound <| tc s15.sound <| tn
attribute [go_sem] K40
@[go_sem] def P71 : PSpec := p2 iL iI (fun l _ => OkL l) (fun l k => .sl ((telR l k l.ts.length).map .bool)) false
@[go_sem] def S71 : Spec := P71.toSpec
set_option maxHeartbeats 8000000 in
theorem s71 : PSound Tryz.prog 71 P71 := by
 refine wd2 (rs := [.tmp 4]) Tryz.func71 Tryz.ntmps71 fun l k hp hw => ?_
 have hP := mixedK
 simp only [iI, iL, encL] at hw ⊢
 have hΓ := K40_sound
 have hrn := hp.rsn
 have htn := hp.tsn
 have hlt_ : l.ts.length ≤ maxLen := by unfold maxLen; omega
 repeat refine sq ?_
 refine rsx hΓ [1,2] [[2, 0]] ?_
 repeat refine sq ?_
 refine rx hΓ [1,2,5] [[2, 0],[15, 0]] (fun K' hK => by simp only [go_sem, tnI, rep0 l k]; exact fnx) ?_
 repeat refine sq ?_
 refine rsx hΓ [1,2,5,6] [[2, 0],[15, 0]] ?_
 refine cl_block ?_
 refine cl_loop'  (fun s : Nat => [(6, ⟨true, .v (vInt s)⟩)]) (fun s => [([15, 0], .arr 1 ((telR l k s).map .bool))]) (fun s => s ≤ l.ts.length) (fun s => l.ts.length - s) 0 ?_ ?_ ?_ ?_
 ·exact Nat.zero_le _
 ·rfl
 ·rfl
 rintro i hi
 simp only [go_sem]
 repeat refine sq ?_
 refine rsx hΓ [1,2,5,6,20] [[2, 0],[15, 0]] ?_
 refine cnd (fun hb => ?_) fun hb => ?_
 ·have hlt : i < l.ts.length := by simpa using hb
  have hlt' : (i : Int) < l.ts.length := by omega
  clear hb
  have hrl := telR_len l k i
  generalize hrow : telR l k i = row at hrl
  refine cl_skip ?_
  repeat refine sq ?_
  refine cl_block ?_
  repeat refine sq ?_
  refine rx hΓ [1,2,5,6,7] [[2, 0],[7, 0],[15, 0]] (fun K' hK => by simp only [go_sem, map_getD hlt, tnI, nnI, hlt']; exact fnx) ?_
  repeat refine sq ?_
  refine rx hΓ [1,2,5,6,7,8] [[2, 0],[7, 0],[15, 0]] (fun K' hK => by simp only [go_sem, hrn]; exact fnx) ?_
  rcases rx_cases l l.ts[i].re k with hrx | ⟨j0, hj0, hrx, hrp⟩
  ·repeat refine sq ?_
   refine dx hΓ hP [[], [0], [0, 1], [0, 1, 2], u4, [0, 1, 2], [0, 1, 2, 5], [0, 1, 2], u8, u9, u10, u11, u12, u12, [0, 1, 2, 3, 4, 5, 6, 7, 8, 9, 10, 11, 13], u12, [0, 1, 2, 3, 4, 5, 6, 7, 8, 9, 10, 11, 13, 14, 15], [0, 1, 2, 3, 4, 5, 6, 7, 8, 9, 10, 11, 13, 14, 15, 16], u18, u12, [0, 1, 2, 3, 4, 5, 6, 7, 8, 9, 10, 11, 19], [0, 1, 2, 3, 4, 5, 6, 7, 8, 9, 10, 11, 19, 20], u22, u23] [1,2,5,6,7,8,56] [[2, 0],[7, 0],[15, 0]] (by kernel_rfl) (fun K' hK => by simp only [go_sem, hrx, List.length_map]; (repeat (refine ⟨by first | exact obx | exact fun h => ⟨h, okL_rda hp (List.getElem_mem hj0)⟩ | (cases countsB l.ts[i].kn l.ts[i].un k <;> rfl), ?_⟩)); exact fd0) ?_
   refine cnd (fun hb => ?_) fun hb => ?_
   ·have e0 : telR l k (i + 1) = row := by
     rw [telR_no l k (by unfold telB; rw [tsAt_at hlt, hrx]; rfl), hrow]
    refine cl_exit ?_
    simp only [go_sem]
    refine kp [1,2,5,6] [[2, 0],[15, 0]] ?_
    refine cl_r hΓ fun K' hK => ?_
    simp only [go_sem]
    repeat (refine ⟨obx, ?_⟩)
    refine hK _ ?_
    clear K' hK
    simp only [go_sem]
    refine ⟨i + 1, hlt, by (show l.ts.length - (i + 1) < l.ts.length - i; omega), ?_⟩
    refine weak_eq [1,2,5,6] [[2, 0],[15, 0]] ?_ ?_ <;> simp only [go_sem, wrap_succ hlt hlt_, csI, e0]
   ·cases hb
  ·have hjn : decide ((j0 : Int) < 0) = false := by simp
   have hj0' : (j0 : Int) < l.rs.length := by omega
   repeat refine sq ?_
   refine dx hΓ hP [[], [0], [0, 1], [0, 1, 2], u4, [0, 1, 2], [0, 1, 2, 5], [0, 1, 2], u8, u9, u10, u11, u12, u12, [0, 1, 2, 3, 4, 5, 6, 7, 8, 9, 10, 11, 13], u12, [0, 1, 2, 3, 4, 5, 6, 7, 8, 9, 10, 11, 13, 14, 15], [0, 1, 2, 3, 4, 5, 6, 7, 8, 9, 10, 11, 13, 14, 15, 16], u18, u12, [0, 1, 2, 3, 4, 5, 6, 7, 8, 9, 10, 11, 19], [0, 1, 2, 3, 4, 5, 6, 7, 8, 9, 10, 11, 19, 20], u22, u23] [1,2,5,6,7,8,56] [[2, 0],[7, 0],[15, 0]] (by kernel_rfl) (fun K' hK => by simp only [go_sem, tnI, nnI, hrx, map_getD hj0, hjn, List.length_map]; (repeat (refine ⟨by first | exact obx | exact fun h => ⟨h, okL_rda hp (List.getElem_mem hj0)⟩ | (cases countsB l.ts[i].kn l.ts[i].un k <;> rfl), ?_⟩)); exact fd0) ?_
   refine cnd (fun hb => ?_) fun hb => ?_
   ·have e0 : telR l k (i + 1) = row := by
     rw [telR_no l k (by unfold telB; rw [tsAt_at hlt, hrx, if_neg (by omega), tnI, rsAt_at hj0]; simp only [Bool.and_eq_false_iff]; exact .inl (by simpa [Bool.and_eq_false_iff] using hb)), hrow]
    refine cl_exit ?_
    simp only [go_sem]
    refine kp [1,2,5,6] [[2, 0],[15, 0]] ?_
    refine cl_r hΓ fun K' hK => ?_
    simp only [go_sem]
    repeat (refine ⟨obx, ?_⟩)
    refine hK _ ?_
    clear K' hK
    simp only [go_sem]
    refine ⟨i + 1, hlt, by (show l.ts.length - (i + 1) < l.ts.length - i; omega), ?_⟩
    refine weak_eq [1,2,5,6] [[2, 0],[15, 0]] ?_ ?_ <;> simp only [go_sem, wrap_succ hlt hlt_, csI, e0]
   ·have hcu : countsB l.ts[i].kn l.ts[i].un k = true := by cases hcb : countsB l.ts[i].kn l.ts[i].un k with | true => rfl | false => rw [hcb] at hb; simp at hb
    have hea : ¬ earl l.ts[i] l.rs[j0] > l.ts[i].hi := by rw [hcu] at hb; simpa using hb
    have hte : telB l k row i = l.ts[i].lv.all (lfB l row i l.rs[j0] l.ts[i]) := by
     unfold telB
     rw [tsAt_at hlt, hrx, if_neg (by omega), tnI, rsAt_at hj0, hcu, decide_eq_false hea]
     rfl
    have hvl := okL_tlv hp hlt
    have hvm : l.ts[i].lv.length ≤ maxLen := by unfold maxLen; omega
    clear hb
    refine cl_skip ?_
    repeat refine sq ?_
    refine rsx hΓ [1,2,5,6,7,8,9] [[2, 0],[7, 0],[15, 0]] ?_
    repeat refine sq ?_
    refine rsx hΓ [1,2,5,6,7,8,9,10] [[2, 0],[7, 0],[15, 0]] ?_
    refine cl_block ?_
    refine cl_loop'  (fun s : Nat => [(10, ⟨true, .v (vInt s)⟩), (9, ⟨true, .v (.bool ((l.ts[i].lv.take s).all (lfB l row i l.rs[j0] l.ts[i])))⟩)]) (fun s => []) (fun s => s ≤ l.ts[i].lv.length) (fun s => l.ts[i].lv.length - s) 0 ?_ ?_ ?_ ?_
    ·exact Nat.zero_le _
    ·rfl
    ·rfl
    rintro i1 hi
    generalize hB : (l.ts[i].lv.take i1).all (lfB l row i l.rs[j0] l.ts[i]) = B
    simp only [go_sem]
    repeat refine sq ?_
    refine rsx hΓ [1,2,5,6,7,8,9,10,61] [[2, 0],[7, 0],[15, 0]] ?_
    refine cnd (fun hb => ?_) fun hb => ?_
    ·have hlt1 : i1 < l.ts[i].lv.length := by simpa using hb
     have hlt1' : (i1 : Int) < l.ts[i].lv.length := by omega
     clear hb
     have hA : (l.ts[i].lv.take (i1 + 1)).all (lfB l row i l.rs[j0] l.ts[i]) = (allTo (tkB l row l.ts[i] l.ts[i].lv[i1]) i && (B && l.rs[j0].lv.contains l.ts[i].lv[i1])) := by rw [← hB, all_take hlt1, lfB, ← Bool.and_assoc, Bool.and_comm]
     refine cl_skip ?_
     repeat refine sq ?_
     refine cl_block ?_
     repeat refine sq ?_
     refine dx hΓ hP [[], [0], [0, 1], [0, 1, 2], [0, 1], u5, u6, u7, [0, 1], [0, 1, 8], [0, 1], [0, 1, 8, 9, 10], [0, 1, 8, 9, 10, 11], u13, u14, u15] [1,2,5,6,7,8,9,10] [[2, 0],[7, 0],[15, 0]] (by kernel_rfl) (fun K' hK => by simp only [go_sem, tnI, nnI, map_getD hlt1, tnI, nnI, hlt1', map_getD hj0, hj0']; exact fdx) ?_
     repeat refine sq ?_
     refine rsx hΓ [1,2,5,6,7,8,9,10,11] [[2, 0],[7, 0],[15, 0]] ?_
     refine cl_block ?_
     refine cl_loop'  (fun s : Nat => [(11, ⟨true, .v (vInt s)⟩), (9, ⟨true, .v (.bool (allTo (tkB l row l.ts[i] l.ts[i].lv[i1]) s && (B && l.rs[j0].lv.contains l.ts[i].lv[i1])))⟩)]) (fun s => []) (fun s => s ≤ i) (fun s => i - s) 0 ?_ ?_ ?_ ?_
     ·exact Nat.zero_le _
     ·rfl
     ·rfl
     rintro j hi
     generalize hC : (allTo (tkB l row l.ts[i] l.ts[i].lv[i1]) j && (B && l.rs[j0].lv.contains l.ts[i].lv[i1])) = C
     simp only [go_sem]
     repeat refine sq ?_
     refine rsx hΓ [1,2,5,6,7,8,9,10,11,81] [[2, 0],[7, 0],[15, 0]] ?_
     refine cnd (fun hb => ?_) fun hb => ?_
     ·have hlt2 : j < i := by simpa using hb
      have hlt2' : (j : Int) < i := by omega
      clear hb
      have hjt : j < l.ts.length := by omega
      have hjr : j < row.length := by omega
      have hjt' : (j : Int) < l.ts.length := by omega
      have hT : (allTo (tkB l row l.ts[i] l.ts[i].lv[i1]) (j + 1) && (B && l.rs[j0].lv.contains l.ts[i].lv[i1])) = (C && !((row.getD j false && l.ts[j].re == l.ts[i].re) && l.ts[j].lv.contains l.ts[i].lv[i1])) := by
       rw [← hC, allTo_succ, tkB, tsAt_at hjt, Bool.and_right_comm]
      refine cl_skip ?_
      repeat refine sq ?_
      refine cl_block ?_
      refine cl_d hΓ hP [[], [0], [0, 1], [0, 1], u4, u5, u6, u7, u8, u7, u10, u11, u12, u7, [0, 1, 2, 3, 4, 5, 6, 13], u15, u16, u17, u18, u19, u18, u21, u22, u23, u18, [0, 1, 2, 3, 4, 5, 6, 7, 8, 9, 10, 11, 12, 13, 14, 15, 16, 17, 24], u18, [0, 1, 2, 3, 4, 5, 6, 7, 8, 9, 10, 11, 12, 13, 14, 15, 16, 17, 24, 25, 26], [0, 1, 2, 3, 4, 5, 6, 7, 8, 9, 10, 11, 12, 13, 14, 15, 16, 17, 24, 25, 26, 27], u29, u30, u31, u32, u33] (by kernel_rfl) fun K' hK => ?_
      simp only [go_sem, tnI, nnI, tnI, nnI, map_getD hlt1, map_getDb hjr, map_getD hjt, hjt', hlt1', tnI, nnI, List.length_map, Bool.decide_and, Bool.decide_eq_true]
      repeat (refine ⟨obx, ?_⟩)
      first | refine ⟨by rfl, ?_⟩ | skip
      refine hK _ ?_
      clear K' hK
      simp only [go_sem]
      refine kp [1,2,5,6,7,8,9,10,11] [[2, 0],[7, 0],[15, 0]] ?_
      refine cl_r hΓ fun K' hK => ?_
      simp only [go_sem]
      repeat (refine ⟨obx, ?_⟩)
      refine hK _ ?_
      clear K' hK
      simp only [go_sem]
      refine ⟨j + 1, hlt2, by (show i - (j + 1) < i - j; omega), ?_⟩
      refine weak_eq [1,2,5,6,7,8,9,10,11] [[2, 0],[7, 0],[15, 0]] ?_ ?_ <;> simp only [go_sem, wrap_succ hlt2 (by omega), csI, hT]
     ·have hge2 : j = i := by
       have : ¬ (j : Int) < i := by simpa using hb
       omega
      clear hb
      rw [hge2] at hC
      refine cl_exit ?_
      simp only [go_sem]
      refine kp [1,2,5,6,7,8,9,10] [[2, 0],[7, 0],[15, 0]] ?_
      refine cl_r hΓ fun K' hK => ?_
      simp only [go_sem]
      repeat (refine ⟨obx, ?_⟩)
      refine hK _ ?_
      clear K' hK
      simp only [go_sem]
      refine ⟨i1 + 1, hlt1, by (show l.ts[i].lv.length - (i1 + 1) < l.ts[i].lv.length - i1; omega), ?_⟩
      refine weak_eq [1,2,5,6,7,8,9,10] [[2, 0],[7, 0],[15, 0]] ?_ ?_ <;> simp only [go_sem, wrap_succ hlt1 hvm, csI, hA, hC]
    ·have hge1 : i1 = l.ts[i].lv.length := by
      have : ¬ (i1 : Int) < l.ts[i].lv.length := by simpa using hb
      omega
     clear hb
     subst hge1
     refine cl_exit ?_
     simp only [go_sem]
     refine kp [1,2,5,6,9] [[2, 0],[15, 0]] ?_
     have e0 : telR l k (i + 1) = row.set i B := by
      rw [← telR_set l k hlt, hrow, hte, ← hB, List.take_length]
     refine cl_r hΓ fun K' hK => ?_
     simp only [go_sem, tnI, nnI, set_mapB]
     repeat (refine ⟨obx, ?_⟩)
     refine hK _ ?_
     clear K' hK
     simp only [go_sem]
     refine kp [1,2,5,6] [[2, 0],[15, 0]] ?_
     refine cl_r hΓ fun K' hK => ?_
     simp only [go_sem]
     repeat (refine ⟨obx, ?_⟩)
     refine hK _ ?_
     clear K' hK
     simp only [go_sem]
     refine ⟨i + 1, hlt, by (show l.ts.length - (i + 1) < l.ts.length - i; omega), ?_⟩
     refine weak_eq [1,2,5,6] [[2, 0],[15, 0]] ?_ ?_ <;> simp only [go_sem, wrap_succ hlt hlt_, csI, e0]
 ·have hge : i = l.ts.length := by
   have : ¬ (i : Int) < l.ts.length := by simpa using hb
   omega
  clear hb
  subst hge
  refine cl_exit ?_
  simp only [go_sem]
  refine kp [5] [[15, 0]] ?_
  repeat refine sq ?_
  refine rsx hΓ [4] [[15, 0]] ?_
  refine cl_ret ?_
  simp only [go_sem]
  rw [telR_len]
end
noncomputable section
structure RV where
 l : Led
 k : Int
 ts : List Bool
 ds : List Rg
 deriving Inhabited
def encRV (x : RV) : V := .agg [.sl (x.l.ps.map encP), .sl (x.l.rs.map encR), .sl (x.l.ts.map encT), .sl (x.l.ss.map encS), vInt x.k, .sl (x.ts.map .bool), .sl (x.ds.map encRg)]
def decRV : V → RV
 | .agg [.sl a, .sl b, .sl c, .sl d, .int _ k, .sl t, .sl g] => ⟨⟨a.map decP, b.map decR, c.map decT, d.map decS⟩, k, t.map decB, g.map decRg⟩
 | _ => default
theorem decRg_enc (r : Rg) : decRg (encRg r) = r := rfl
@[go_sem] theorem decRg_map (l : List Rg) : (l.map encRg).map decRg = l := map_dec decRg_enc l
def iRV : En RV := ⟨encRV, decRV⟩
attribute [go_sem] encRV decRV iRV encRg decRg
@[go_sem] theorem etaRV (x : RV) : (⟨x.l, x.k, x.ts, x.ds⟩ : RV) = x := rfl
def rtB (x : RV) (so f : Int) (j : Nat) : Bool := (x.ts.getD j false && (tsAt x.l j).re == so) && (tsAt x.l j).lv.contains f
def retI (x : RV) (i : Nat) (f : Int) : Int := if (List.range x.ts.length).any (rtB x (rsAt x.l i).so f) = true then ((List.range x.ts.length).findIdx (rtB x (rsAt x.l i).so f) : Int) else -1
theorem retI_at {x : RV} {i : Nat} {f : Int} {j : Nat} (h : j < x.ts.length) (hp : rtB x (rsAt x.l i).so f j = true) (hn : ∀ m, m < x.ts.length → m < j → rtB x (rsAt x.l i).so f m = false) : retI x i f = j := by
 have := idxF_at (p := rtB x (rsAt x.l i).so f) (l := List.range x.ts.length) (i := j) (by simpa using h) (by simpa using hp) (fun m hm hmj => by simpa using hn m (by simpa using hm) hmj)
 exact this
theorem retI_no {x : RV} {i : Nat} {f : Int} (hn : ∀ m, m < x.ts.length → m < x.ts.length → rtB x (rsAt x.l i).so f m = false) : retI x i f = -1 := by
 unfold retI
 rw [if_neg]
 intro h
 obtain ⟨m, hm, hp⟩ := List.any_eq_true.1 h
 have hm' : m < x.ts.length := by simpa using hm
 rw [hn m hm' hm'] at hp
 exact absurd hp (by decide)
def K41 : List (Nat × Spec) := [(15, S15)]
theorem K41_sound : KS K41 := tc s15.sound <| tn
attribute [go_sem] K41
@[go_sem] def P103 : PSpec := p3 iRV iI iI (fun x a _ => (OkL x.l ∧ x.ts.length = x.l.ts.length) ∧ 0 ≤ a ∧ a < x.l.rs.length) (fun x a f => vInt (retI x a.toNat f)) true
@[go_sem] def S103 : Spec := P103.toSpec
set_option maxHeartbeats 8000000 in
theorem s103 : PSound Tryz.prog 103 P103 := by
 refine wd3 (rs := [.tmp 6]) Tryz.func103 Tryz.ntmps103 fun x a f hp hw => ?_
 have hP := mixedK
 simp only [iI, iRV] at hw ⊢
 have hΓ := K41_sound
 obtain ⟨⟨hok, htl⟩, ha0, ha1⟩ := hp
 have htn := hok.tsn
 have hl : x.ts.length ≤ maxLen := by unfold maxLen; omega
 obtain ⟨n, rfl⟩ : ∃ n : Nat, a = n := ⟨a.toNat, by omega⟩
 have hn : n < x.l.rs.length := by omega
 rw [tnI]
 repeat refine sq ?_
 refine rsx hΓ [1,2,3] [[3, 0]] ?_
 repeat refine sq ?_
 refine rsx hΓ [1,2,3,7] [[3, 0]] ?_
 refine cl_block ?_
 refine cl_loop'  (fun s : Nat => [(7, ⟨true, .v (vInt s)⟩)]) (fun s => []) (fun s => s ≤ x.ts.length ∧ ∀ m, m < x.ts.length → m < s → rtB x (rsAt x.l n).so f m = false) (fun s => x.ts.length - s) 0 ?_ ?_ ?_ ?_
 ·exact ⟨Nat.zero_le _, fun m _ h => by omega⟩
 ·rfl
 ·rfl
 rintro i ⟨hi, hR⟩
 simp only [go_sem]
 repeat refine sq ?_
 refine rsx hΓ [1,2,3,7,12] [[3, 0]] ?_
 refine cnd (fun hb => ?_) fun hb => ?_
 ·have hlt : i < x.ts.length := by simpa using hb
  have hlt' : (i : Int) < x.ts.length := by omega
  clear hb
  have hlx : i < x.l.ts.length := by omega
  have hlx' : (i : Int) < x.l.ts.length := by omega
  have hn' : (n : Int) < x.l.rs.length := by omega
  refine cl_skip ?_
  repeat refine sq ?_
  refine cl_block ?_
  repeat refine sq ?_
  refine dx hΓ hP [[], [0], [], [0, 1, 2], u4, u5, u6, u7, u8, u6, u10, u11, u12, u6, [0, 1, 2, 3, 4, 5, 13], [0, 1, 2, 3, 4, 5, 13, 14], u6, [0, 1, 2, 3, 4, 5, 13, 14, 15, 16], [0, 1, 2, 3, 4, 5, 13, 14, 15, 16, 17], [0, 1, 2, 3, 4, 5, 13, 14, 15, 16, 17, 18], u20, u21, u22, u23, u24, u25, u23, u27, u28, u29, u23, u31, u32] [1,2,3,7,47] [[3, 0]] (by kernel_rfl) (fun K' hK => by simp only [go_sem, map_getDb hlt, map_getD hn, map_getD hlx, hn', hlx', tnI, nnI, hlt', List.length_map]; exact fdx) ?_
  refine cnd (fun hb => ?_) fun hb => ?_
  ·repeat refine sq ?_
   have e : retI x n f = i := retI_at hlt (by unfold rtB; rw [tsAt_at hlx, rsAt_at hn]; simpa using hb) hR
   refine rsx hΓ [6] [] ?_
   refine cl_ret ?_
   simp only [go_sem]
   rw [e]
  ·refine cl_skip ?_
   refine cl_nil ?_
   simp only [go_sem]
   refine kp [1,2,3,7] [[3, 0]] ?_
   refine cl_r hΓ fun K' hK => ?_
   simp only [go_sem]
   repeat (refine ⟨obx, ?_⟩)
   refine hK _ ?_
   clear K' hK
   simp only [go_sem]
   refine ⟨i + 1, ⟨hlt, ?_⟩, by (show x.ts.length - (i + 1) < x.ts.length - i; omega), ?_⟩
   ·intro m hm hmi
    rcases Nat.lt_succ_iff_lt_or_eq.1 hmi with h5 | rfl
    ·exact hR m hm h5
    ·unfold rtB; rw [tsAt_at hlx, rsAt_at hn]; simpa using hb
   refine weak_eq [1,2,3,7] [[3, 0]] ?_ ?_ <;> simp only [go_sem, wrap_succ hlt hl, csI]
 ·have hge : i = x.ts.length := by
   have : ¬ (i : Int) < x.ts.length := by simpa using hb
   omega
  clear hb
  subst hge
  refine cl_exit ?_
  simp only [go_sem]
  refine kp [] [] ?_
  repeat refine sq ?_
  refine rsx hΓ [6] [] ?_
  refine cl_ret ?_
  simp only [go_sem]
  rw [retI_no hR]
end
set_option maxHeartbeats 8000000
noncomputable section
def ofR (k : Int) (f : Fol) (r : Rec) : Bool := (countsB r.kn r.un k && r.pa == f.pa) && r.lv.contains f.le
def K42 : List (Nat × Spec) := [(157, S157), (15, S15)]
theorem K42_sound : KS K42 := tc s157.sound <| tc s15.sound <| tn
attribute [go_sem] K42
@[go_sem] def P188 : PSpec := p3 iRV iI iFo (fun x a _ => 0 ≤ a ∧ a < x.l.rs.length) (fun x a f => .bool (ofR x.k f (rsAt x.l a.toNat))) true
@[go_sem] def S188 : Spec := P188.toSpec
theorem s188 : PSound Tryz.prog 188 P188 := by
 refine wd3 (rs := [.tmp 6]) Tryz.func188 Tryz.ntmps188 fun x a f hp hw => ?_
 simp only [iFo, iI, iRV, encFo] at hw ⊢
 have hΓ := K42_sound
 obtain ⟨ha0, ha1⟩ := hp
 obtain ⟨n, rfl⟩ : ∃ n : Nat, a = n := ⟨a.toNat, by omega⟩
 have hn : n < x.l.rs.length := by omega
 rw [tnI, rsAt_at hn]
 repeat refine sq ?_
 refine rsx hΓ [1,3,5] [[3, 0],[5, 0]] ?_
 repeat refine sq ?_
 refine rx hΓ [3,5,7] [[3, 0],[5, 0],[7, 0]] (fun K' hK => by simp only [go_sem, map_getD hn, tnI, nnI, ha1, List.length_map]; exact fnx) ?_
 repeat refine sq ?_
 refine rx hΓ [6] [] (fun K' hK => by simp only [go_sem, Bool.decide_and, Bool.decide_eq_true]; exact fnx) ?_
 refine cl_ret ?_
 simp only [go_sem]
 rfl
def lastTo (x : RV) (f : Fol) (day : Int) : Nat → Int
 | 0 => -1
 | s + 1 => if ((ofR x.k f (rsAt x.l s) && decide ((rsAt x.l s).da ≤ day)) && (decide (lastTo x f day s < 0) || decide ((rsAt x.l s).da > (rsAt x.l (lastTo x f day s).toNat).da))) = true then (s : Int) else lastTo x f day s
theorem last_cases (x : RV) (f : Fol) (day : Int) (s : Nat) : lastTo x f day s = -1 ∨ ∃ j, j < s ∧ lastTo x f day s = (j : Int) := by
 induction s with
 | zero => exact .inl rfl
 | succ s ih =>
  unfold lastTo
  split
  ·exact .inr ⟨s, by omega, rfl⟩
  ·rcases ih with h | ⟨j, hj, h⟩
   ·exact .inl h
   ·exact .inr ⟨j, by omega, h⟩
def lastI (x : RV) (f : Fol) (day : Int) : Int := lastTo x f day x.l.rs.length
def K42b : List (Nat × Spec) := [(188, S188)]
theorem K42b_sound : KS K42b := tc s188.sound <| tn
attribute [go_sem] K42b
@[go_sem] def P159 : PSpec := p3 iRV iFo iI (fun x _ _ => OkL x.l) (fun x f day => vInt (lastI x f day)) true
@[go_sem] def S159 : Spec := P159.toSpec
theorem s159 : PSound Tryz.prog 159 P159 := by
 refine wd3 (rs := [.tmp 6]) Tryz.func159 Tryz.ntmps159 fun x f day hp hw => ?_
 simp only [iFo, iI, iRV, encFo] at hw ⊢
 have hΓ := K42b_sound
 have hrn := hp.rsn
 have hl : x.l.rs.length ≤ maxLen := by unfold maxLen; omega
 repeat refine sq ?_
 refine rsx hΓ [2,3,4] [[3, 0],[4, 0]] ?_
 repeat refine sq ?_
 refine rsx hΓ [2,3,4,7] [[3, 0],[4, 0]] ?_
 repeat refine sq ?_
 refine rsx hΓ [2,3,4,7,8] [[3, 0],[4, 0]] ?_
 refine cl_block ?_
 refine cl_loop'  (fun s : Nat => [(8, ⟨true, .v (vInt s)⟩), (7, ⟨true, .v (vInt (lastTo x f day s))⟩)]) (fun s => []) (fun s => s ≤ x.l.rs.length) (fun s => x.l.rs.length - s) 0 ?_ ?_ ?_ ?_
 ·exact Nat.zero_le _
 ·rfl
 ·rfl
 rintro i hi
 generalize hL : lastTo x f day i = L
 simp only [go_sem]
 repeat refine sq ?_
 refine rsx hΓ [2,3,4,7,8,15] [[3, 0],[4, 0]] ?_
 refine cnd (fun hb => ?_) fun hb => ?_
 ·have hlt : i < x.l.rs.length := by simpa using hb
  have hlt' : (i : Int) < x.l.rs.length := by omega
  clear hb
  have hc := last_cases x f day i
  rw [hL] at hc
  have ersi := rsAt_at hlt
  have hmx : maxI (-1) 0 = 0 := rfl
  have h0r : 0 < x.l.rs.length := by omega
  have h0r' : (0 : Int) < x.l.rs.length := by omega
  refine cl_skip ?_
  repeat refine sq ?_
  refine cl_block ?_
  repeat refine sq ?_
  refine rx hΓ [2,3,4,7,8,9] [[3, 0],[4, 0]] (fun K' hK => by simp only [go_sem, map_getD hlt, tnI, nnI, hlt']; exact fnx) ?_
  rcases hc with hc | ⟨j, hj, hc⟩
  ·subst hc
   repeat refine sq ?_
   refine rx hΓ [2,3,4,7,8,49] [[3, 0],[4, 0]] (fun K' hK => by simp only [go_sem, tnI, nnI, hlt', tnI, neg1_lt, ersi, Bool.decide_and, Bool.decide_eq_true]; exact fnx) ?_
   refine cnd (fun hb => ?_) fun hb => ?_
   ·have eL : lastTo x f day (i + 1) = (i : Int) := by
     rw [lastTo, hL, ersi, if_pos (by simpa using hb)]
    refine cl_r hΓ fun K' hK => ?_
    simp only [go_sem]
    repeat (refine ⟨obx, ?_⟩)
    refine hK _ ?_
    clear K' hK
    simp only [go_sem]
    refine kp [2,3,4,7,8] [[3, 0],[4, 0]] ?_
    refine cl_r hΓ fun K' hK => ?_
    simp only [go_sem]
    repeat (refine ⟨obx, ?_⟩)
    refine hK _ ?_
    clear K' hK
    simp only [go_sem]
    refine ⟨i + 1, hlt, by (show x.l.rs.length - (i + 1) < x.l.rs.length - i; omega), ?_⟩
    refine weak_eq [2,3,4,7,8] [[3, 0],[4, 0]] ?_ ?_ <;> simp only [go_sem, wrap_succ hlt hl, csI, eL]
   ·have eL : lastTo x f day (i + 1) = -1 := by
     rw [lastTo, hL, ersi, if_neg (by simpa using hb)]
    refine cl_skip ?_
    refine cl_nil ?_
    simp only [go_sem]
    refine kp [2,3,4,7,8] [[3, 0],[4, 0]] ?_
    refine cl_r hΓ fun K' hK => ?_
    simp only [go_sem]
    repeat (refine ⟨obx, ?_⟩)
    refine hK _ ?_
    clear K' hK
    simp only [go_sem]
    refine ⟨i + 1, hlt, by (show x.l.rs.length - (i + 1) < x.l.rs.length - i; omega), ?_⟩
    refine weak_eq [2,3,4,7,8] [[3, 0],[4, 0]] ?_ ?_ <;> simp only [go_sem, wrap_succ hlt hl, csI, eL]
  ·subst hc
   have hjn : decide ((j : Int) < 0) = false := by simp
   have hmj : (if (0 : Int) > (j : Int) then (0 : Int) else (j : Int)) = j := if_neg (by omega)
   have hjl : j < x.l.rs.length := by omega
   have hjl' : (j : Int) < x.l.rs.length := by omega
   repeat refine sq ?_
   refine rx hΓ [2,3,4,7,8,49] [[3, 0],[4, 0]] (fun K' hK => by simp only [go_sem, tnI, nnI, hlt', hmj, hjn, map_getD hjl, hjl', ersi, Bool.decide_and, Bool.decide_eq_true]; exact fnx) ?_
   refine cnd (fun hb => ?_) fun hb => ?_
   ·have eL : lastTo x f day (i + 1) = (i : Int) := by
     rw [lastTo, hL, ersi, tnI, rsAt_at hjl, hjn, Bool.false_or, if_pos (by simpa using hb)]
    refine cl_r hΓ fun K' hK => ?_
    simp only [go_sem]
    repeat (refine ⟨obx, ?_⟩)
    refine hK _ ?_
    clear K' hK
    simp only [go_sem]
    refine kp [2,3,4,7,8] [[3, 0],[4, 0]] ?_
    refine cl_r hΓ fun K' hK => ?_
    simp only [go_sem]
    repeat (refine ⟨obx, ?_⟩)
    refine hK _ ?_
    clear K' hK
    simp only [go_sem]
    refine ⟨i + 1, hlt, by (show x.l.rs.length - (i + 1) < x.l.rs.length - i; omega), ?_⟩
    refine weak_eq [2,3,4,7,8] [[3, 0],[4, 0]] ?_ ?_ <;> simp only [go_sem, wrap_succ hlt hl, csI, eL]
   ·have eL : lastTo x f day (i + 1) = (j : Int) := by
     rw [lastTo, hL, ersi, tnI, rsAt_at hjl, hjn, Bool.false_or, if_neg (by simpa using hb)]
    refine cl_skip ?_
    refine cl_nil ?_
    simp only [go_sem]
    refine kp [2,3,4,7,8] [[3, 0],[4, 0]] ?_
    refine cl_r hΓ fun K' hK => ?_
    simp only [go_sem]
    repeat (refine ⟨obx, ?_⟩)
    refine hK _ ?_
    clear K' hK
    simp only [go_sem]
    refine ⟨i + 1, hlt, by (show x.l.rs.length - (i + 1) < x.l.rs.length - i; omega), ?_⟩
    refine weak_eq [2,3,4,7,8] [[3, 0],[4, 0]] ?_ ?_ <;> simp only [go_sem, wrap_succ hlt hl, csI, eL]
 ·have hge : i = x.l.rs.length := by
   have : ¬ (i : Int) < x.l.rs.length := by simpa using hb
   omega
  clear hb
  subst hge
  refine cl_exit ?_
  simp only [go_sem]
  refine kp [7] [] ?_
  repeat refine sq ?_
  refine rsx hΓ [6] [] ?_
  refine cl_ret ?_
  simp only [go_sem]
  rw [← hL]; rfl
def ssAt (l : Led) (i : Nat) : Sig := l.ss.getD i default
def sgTo (x : RV) : Nat → List Int
 | 0 => []
 | s + 1 => if countsB (ssAt x.l s).kn (ssAt x.l s).un x.k = true then sgTo x s ++ [(s : Int)] else sgTo x s
theorem ssAt_at {l : Led} {i : Nat} (h : i < l.ss.length) : ssAt l i = l.ss[i] := by unfold ssAt; rw [List.getD_eq_getElem?_getD, List.getElem?_eq_getElem h]; rfl
theorem sgTo_len (x : RV) (s : Nat) : (sgTo x s).length ≤ s := by
 induction s with
 | zero => exact Nat.le_refl _
 | succ s ih =>
  unfold sgTo
  split
  ·simp only [List.length_append, List.length_cons, List.length_nil]; omega
  ·omega
def K42c : List (Nat × Spec) := [(157, S157)]
theorem K42c_sound : KS K42c := tc s157.sound <| tn
attribute [go_sem] K42c
@[go_sem] def P135 : PSpec := p1 iRV (fun x => OkL x.l) (fun x => .sl ((sgTo x x.l.ss.length).map vInt)) false
@[go_sem] def S135 : Spec := P135.toSpec
theorem s135 : PSound Tryz.prog 135 P135 := by
 refine wd1 (rs := [.tmp 2]) Tryz.func135 Tryz.ntmps135 fun x hp hw => ?_
 have hP := mixedK
 simp only [iRV] at hw ⊢
 have hΓ := K42c_sound
 have hsn := hp.ssn
 have hl : x.l.ss.length ≤ maxLen := by unfold maxLen; omega
 repeat refine sq ?_
 refine rsx hΓ [1] [[1, 0]] ?_
 repeat refine sq ?_
 refine rsx hΓ [1,3] [[1, 0],[33, 0]] ?_
 refine cl_weakM (weakM_ghostk 3 [33, 0] 1 (by simp only [go_sem]) (by simp only [go_sem]) [1,3] [[1, 0],[33, 0]] ?_ rfl) ?_
 ·simp only [go_sem]
 simp only [go_sem]
 repeat refine sq ?_
 refine rsx hΓ [1,3,4] [[1, 0],[33, 0]] ?_
 refine cl_block ?_
 refine cl_loop'  (fun s : Nat => [(4, ⟨true, .v (vInt s)⟩), (3, ⟨true, .msl [33, 0] (sgTo x s).length⟩)]) (fun s => [([33, 0], .arr 1 ((sgTo x s).map vInt))]) (fun s => s ≤ x.l.ss.length) (fun s => x.l.ss.length - s) 0 ?_ ?_ ?_ ?_
 ·exact Nat.zero_le _
 ·rfl
 ·rfl
 rintro i hi
 simp only [go_sem]
 repeat refine sq ?_
 refine rsx hΓ [1,3,4,10] [[1, 0],[33, 0]] ?_
 refine cnd (fun hb => ?_) fun hb => ?_
 ·have hlt : i < x.l.ss.length := by simpa using hb
  have hlt' : (i : Int) < x.l.ss.length := by omega
  clear hb
  have hsl := sgTo_len x i
  refine cl_skip ?_
  repeat refine sq ?_
  refine cl_block ?_
  repeat refine sq ?_
  refine dx hΓ hP [[], [0], [0, 1], [], u4, u5, u6, [], [7], [7, 8], [], [7, 8, 9, 10], [7, 8, 9, 10, 11], [7, 8, 9, 10, 11, 12], [], [14], u16] [1,3,4,29] [[1, 0],[33, 0]] (by kernel_rfl) (fun K' hK => by simp only [go_sem, map_getD hlt, tnI, nnI, hlt']; exact fdx) ?_
  refine cnd (fun hb => ?_) fun hb => ?_
  ·have eS : sgTo x (i + 1) = sgTo x i ++ [(i : Int)] := by rw [sgTo, ssAt_at hlt, if_pos (by simpa using hb)]
   refine cl_r hΓ fun K' hK => ?_
   simp only [go_sem]
   repeat (refine ⟨obx, ?_⟩)
   refine hK _ ?_
   clear K' hK
   simp only [go_sem]
   refine kp [1,3,4] [[1, 0],[33, 0]] ?_
   refine cl_r hΓ fun K' hK => ?_
   simp only [go_sem]
   repeat (refine ⟨obx, ?_⟩)
   refine hK _ ?_
   clear K' hK
   simp only [go_sem]
   refine ⟨i + 1, hlt, by (show x.l.ss.length - (i + 1) < x.l.ss.length - i; omega), ?_⟩
   refine weak_eq [1,3,4] [[1, 0],[33, 0]] ?_ ?_ <;> simp only [go_sem, wrap_succ hlt hl, csI, eS, List.map_append, List.length_append, List.map_cons, List.map_nil, List.length_cons, List.length_nil]
  ·have eS : sgTo x (i + 1) = sgTo x i := by rw [sgTo, ssAt_at hlt, if_neg (by simpa using hb)]
   refine cl_skip ?_
   refine cl_nil ?_
   simp only [go_sem]
   refine kp [1,3,4] [[1, 0],[33, 0]] ?_
   refine cl_r hΓ fun K' hK => ?_
   simp only [go_sem]
   repeat (refine ⟨obx, ?_⟩)
   refine hK _ ?_
   clear K' hK
   simp only [go_sem]
   refine ⟨i + 1, hlt, by (show x.l.ss.length - (i + 1) < x.l.ss.length - i; omega), ?_⟩
   refine weak_eq [1,3,4] [[1, 0],[33, 0]] ?_ ?_ <;> simp only [go_sem, wrap_succ hlt hl, csI, eS, List.map_cons, List.map_nil]
 ·have hge : i = x.l.ss.length := by
   have : ¬ (i : Int) < x.l.ss.length := by simpa using hb
   omega
  clear hb
  subst hge
  refine cl_exit ?_
  simp only [go_sem]
  refine kp [3] [[33, 0]] ?_
  repeat refine sq ?_
  refine rsx hΓ [2] [[33, 0]] ?_
  refine cl_ret ?_
  simp only [go_sem]
  all_goals exact fzI
end
noncomputable section
def mrB (x : RV) (r : Rec) (lv : List Int) (i : Nat) (j : Nat) : Bool := decide ((rsAt x.l i).da > r.da) && ofR x.k ⟨r.pa, lv.getD j 0⟩ (rsAt x.l i)
def brIn (x : RV) (r : Rec) (lv : List Int) (i : Nat) (hi : Int) : Nat → Int
 | 0 => hi
 | j + 1 => if mrB x r lv i j = true then minI (brIn x r lv i hi j) (rsAt x.l i).da else brIn x r lv i hi j
def brTo (x : RV) (r : Rec) (t : Ret) : Nat → Int
 | 0 => t.hi
 | i + 1 => brIn x r t.lv i (brTo x r t i) t.lv.length
def byR (x : RV) (i : Nat) : Rg := if x.ts.getD i false = true then ⟨earl (tsAt x.l i) (rsAt x.l (rxI x.l (tsAt x.l i).re x.k).toNat), brTo x (rsAt x.l (rxI x.l (tsAt x.l i).re x.k).toNat) (tsAt x.l i) x.l.rs.length⟩ else ⟨0, 100000⟩
def RVok (x : RV) : Prop := OkL x.l ∧ x.ts.length = x.l.ts.length ∧ ∀ i, x.ts.getD i false = true → ¬ rxI x.l (tsAt x.l i).re x.k < 0
theorem mn_eq (a b : Int) : minI a b = if b < a then b else a := rfl
def K43 : List (Nat × Spec) := [(70, S70), (158, S158), (188, S188)]
theorem K43_sound : KS K43 := tc s70.sound <| tc s158.sound <| tc s188.sound <| tn
attribute [go_sem] K43
@[go_sem] def P195 : PSpec := p2 iRV iI (fun x i => RVok x ∧ 0 ≤ i ∧ i < x.l.ts.length) (fun x i => encRg (byR x i.toNat)) false
@[go_sem] def S195 : Spec := P195.toSpec
set_option maxHeartbeats 8000000 in
theorem s195 : PSound Tryz.prog 195 P195 := by
 refine wd2 (rs := [.cell 4 38]) Tryz.func195 Tryz.ntmps195 fun x a hp hw => ?_
 have hP := mixedK
 simp only [iI, iRV] at hw ⊢
 have hΓ := K43_sound
 obtain ⟨⟨hok, htl, hrx0⟩, ha0, ha1⟩ := hp
 have hrn := hok.rsn
 have htn := hok.tsn
 have hl : x.l.rs.length ≤ maxLen := by unfold maxLen; omega
 obtain ⟨n, rfl⟩ : ∃ n : Nat, a = n := ⟨a.toNat, by omega⟩
 have hn : n < x.l.ts.length := by omega
 have hnt : n < x.ts.length := by omega
 have hnt' : (n : Int) < x.ts.length := by omega
 rw [tnI]
 repeat refine sq ?_
 refine rsx hΓ [1,2,4] [[2, 0],[4, 0]] ?_
 repeat refine sq ?_
 refine rx hΓ [1,2,4,15] [[2, 0],[4, 0]] (fun K' hK => by simp only [go_sem, map_getDb hnt, tnI, nnI, hnt', List.length_map]; exact fnx) ?_
 refine cnd (fun hb => ?_) fun hb => ?_
 ·repeat refine sq ?_
  have e : byR x n = ⟨0, 100000⟩ := by unfold byR; rw [if_neg (by simpa using hb)]
  refine rsx hΓ [4] [[4, 0]] ?_
  refine cl_ret ?_
  simp only [go_sem]
  rw [e]
 ·have htr : x.ts.getD n false = true := by simpa using hb
  obtain ⟨q, hq, hrx, -⟩ := (rx_cases x.l x.l.ts[n].re x.k).resolve_left (fun h => hrx0 n htr (by rw [tsAt_at hn, h]; decide))
  have hq' : (q : Int) < x.l.rs.length := by omega
  have hda := okL_rda hok (List.getElem_mem hq)
  have e : byR x n = ⟨earl x.l.ts[n] x.l.rs[q], brTo x x.l.rs[q] x.l.ts[n] x.l.rs.length⟩ := by
   unfold byR; rw [if_pos htr, tsAt_at hn, hrx, tnI, rsAt_at hq]
  have hvl := okL_tlv hok hn
  have hvm : x.l.ts[n].lv.length ≤ maxLen := by unfold maxLen; omega
  refine cl_skip ?_
  repeat refine sq ?_
  refine rx hΓ [2,4,5] [[2, 0],[4, 0],[5, 0]] (fun K' hK => by simp only [go_sem, map_getD hn, tnI, nnI, ha1, List.length_map]; exact fnx) ?_
  repeat refine sq ?_
  refine dx hΓ hP [[], [0], [0, 1], [], [3], [], [5], [], [7], [3, 4, 5, 6, 7, 8], u10, u11, [], u13] [2,4,5,6] [[2, 0],[4, 0],[5, 0],[6, 0]] (by kernel_rfl) (fun K' hK => by simp only [go_sem, hrn, hrx, map_getD hq, hq', tnI, nnI, List.length_map]; exact fdx) ?_
  repeat refine sq ?_
  refine dx hΓ hP [[], [], [0, 1], [], [3], [3, 4], u6, [], u8] [2,4,5,6,7] [[2, 0],[4, 0],[5, 0],[6, 0],[7, 0]] (by kernel_rfl) (fun K' hK => by simp only [go_sem]; (repeat (refine ⟨by first | exact obx | exact hda, ?_⟩)); exact fd0) ?_
  repeat refine sq ?_
  refine rsx hΓ [2,4,5,6,7,8] [[2, 0],[4, 0],[5, 0],[6, 0],[7, 0]] ?_
  refine cl_block ?_
  refine cl_loop'  (fun s : Nat => [(8, ⟨true, .v (vInt s)⟩)]) (fun s => [([7, 0], .box [.v (vInt (earl x.l.ts[n] x.l.rs[q])), .v (vInt (brTo x x.l.rs[q] x.l.ts[n] s))])]) (fun s => s ≤ x.l.rs.length) (fun s => x.l.rs.length - s) 0 ?_ ?_ ?_ ?_
  ·exact Nat.zero_le _
  ·rfl
  ·rfl
  rintro i hi
  generalize hB : brTo x x.l.rs[q] x.l.ts[n] i = B
  simp only [go_sem]
  repeat refine sq ?_
  refine rsx hΓ [2,4,5,6,7,8,47] [[2, 0],[4, 0],[5, 0],[6, 0],[7, 0]] ?_
  refine cnd (fun hb => ?_) fun hb => ?_
  ·have hlt : i < x.l.rs.length := by simpa using hb
   have hlt' : (i : Int) < x.l.rs.length := by omega
   clear hb
   refine cl_skip ?_
   repeat refine sq ?_
   refine cl_block ?_
   repeat refine sq ?_
   refine rx hΓ [2,4,5,6,7,8,9] [[2, 0],[4, 0],[5, 0],[6, 0],[7, 0]] (fun K' hK => by simp only [go_sem, hlt']; exact fnx) ?_
   refine cl_block ?_
   refine cl_loop'  (fun s : Nat => [(9, ⟨true, .v (vInt s)⟩)]) (fun s => [([7, 0], .box [.v (vInt (earl x.l.ts[n] x.l.rs[q])), .v (vInt (brIn x x.l.rs[q] x.l.ts[n].lv i B s))])]) (fun s => s ≤ x.l.ts[n].lv.length) (fun s => x.l.ts[n].lv.length - s) 0 ?_ ?_ ?_ ?_
   ·exact Nat.zero_le _
   ·rfl
   ·rfl
   rintro j hi
   generalize hC : brIn x x.l.rs[q] x.l.ts[n].lv i B j = C
   simp only [go_sem]
   repeat refine sq ?_
   refine rsx hΓ [2,4,5,6,7,8,9,54] [[2, 0],[4, 0],[5, 0],[6, 0],[7, 0]] ?_
   refine cnd (fun hb => ?_) fun hb => ?_
   ·have hlt1 : j < x.l.ts[n].lv.length := by simpa using hb
    have hlt1' : (j : Int) < x.l.ts[n].lv.length := by omega
    clear hb
    have ersi := rsAt_at hlt
    have elv : x.l.ts[n].lv.getD j 0 = x.l.ts[n].lv[j] := by rw [List.getD_eq_getElem?_getD, List.getElem?_eq_getElem hlt1]; rfl
    refine cl_skip ?_
    repeat refine sq ?_
    refine cl_block ?_
    repeat refine sq ?_
    refine dx hΓ hP [[], [0], [0, 1], [], u4, u5, u6, [], [7], u9, u10, u11, u11, u11, [0, 1, 2, 3, 4, 5, 6, 7, 8, 9, 10, 13], u11, [0, 1, 2, 3, 4, 5, 6, 7, 8, 9, 10, 15], u11, [0, 1, 2, 3, 4, 5, 6, 7, 8, 9, 10, 15, 16, 17], [0, 1, 2, 3, 4, 5, 6, 7, 8, 9, 10, 15, 16, 17, 18], [0, 1, 2, 3, 4, 5, 6, 7, 8, 9, 10, 13, 14, 15, 16, 17, 18, 19], u21, u22] [2,4,5,6,7,8,9,79] [[2, 0],[4, 0],[5, 0],[6, 0],[7, 0]] (by kernel_rfl) (fun K' hK => by simp only [go_sem, tnI, nnI, map_getD hlt1, map_getD hlt, tnI, nnI, hlt1', hlt', List.length_map, ersi, Bool.decide_eq_true]; (repeat (refine ⟨by first | exact obx | exact ⟨nnI _, hlt'⟩ | exact fun h => ⟨h, nnI _, hlt'⟩, ?_⟩)); exact fd0) ?_
    refine cnd (fun hb => ?_) fun hb => ?_
    ·have eS : brIn x x.l.rs[q] x.l.ts[n].lv i B (j + 1) = if x.l.rs[i].da < C then x.l.rs[i].da else C := by
      rw [brIn, hC, mrB, ersi, elv, if_pos (by simpa using hb), mn_eq]
     refine cl_d hΓ hP [[], [0], [], [2], [2, 3], [], [2, 3, 4, 5], [2, 3, 4, 5, 6], [2, 3, 4, 5, 6, 7], u9, u10, u11] (by kernel_rfl) fun K' hK => ?_
     simp only [go_sem, tnI, nnI, map_getD hlt, tnI, nnI, hlt', List.length_map]
     repeat (refine ⟨obx, ?_⟩)
     first | refine ⟨by rfl, ?_⟩ | skip
     refine hK _ ?_
     clear K' hK
     simp only [go_sem]
     refine kp [2,4,5,6,7,8,9] [[2, 0],[4, 0],[5, 0],[6, 0],[7, 0]] ?_
     refine cl_r hΓ fun K' hK => ?_
     simp only [go_sem]
     repeat (refine ⟨obx, ?_⟩)
     refine hK _ ?_
     clear K' hK
     simp only [go_sem]
     refine ⟨j + 1, hlt1, by (show x.l.ts[n].lv.length - (j + 1) < x.l.ts[n].lv.length - j; omega), ?_⟩
     refine weak_eq [2,4,5,6,7,8,9] [[2, 0],[4, 0],[5, 0],[6, 0],[7, 0]] ?_ ?_ <;> simp only [go_sem, wrap_succ hlt1 hvm, csI, eS]
    ·have eS : brIn x x.l.rs[q] x.l.ts[n].lv i B (j + 1) = C := by
      rw [brIn, hC, mrB, ersi, elv, if_neg (by simpa using hb)]
     refine cl_skip ?_
     refine cl_nil ?_
     simp only [go_sem]
     refine kp [2,4,5,6,7,8,9] [[2, 0],[4, 0],[5, 0],[6, 0],[7, 0]] ?_
     refine cl_r hΓ fun K' hK => ?_
     simp only [go_sem]
     repeat (refine ⟨obx, ?_⟩)
     refine hK _ ?_
     clear K' hK
     simp only [go_sem]
     refine ⟨j + 1, hlt1, by (show x.l.ts[n].lv.length - (j + 1) < x.l.ts[n].lv.length - j; omega), ?_⟩
     refine weak_eq [2,4,5,6,7,8,9] [[2, 0],[4, 0],[5, 0],[6, 0],[7, 0]] ?_ ?_ <;> simp only [go_sem, wrap_succ hlt1 hvm, csI, eS]
   ·have hge1 : j = x.l.ts[n].lv.length := by
     have : ¬ (j : Int) < x.l.ts[n].lv.length := by simpa using hb
     omega
    clear hb
    rw [hge1] at hC
    refine cl_exit ?_
    simp only [go_sem]
    refine kp [2,4,5,6,7,8] [[2, 0],[4, 0],[5, 0],[6, 0],[7, 0]] ?_
    refine cl_r hΓ fun K' hK => ?_
    simp only [go_sem]
    repeat (refine ⟨obx, ?_⟩)
    refine hK _ ?_
    clear K' hK
    simp only [go_sem]
    refine ⟨i + 1, hlt, by (show x.l.rs.length - (i + 1) < x.l.rs.length - i; omega), ?_⟩
    refine weak_eq [2,4,5,6,7,8] [[2, 0],[4, 0],[5, 0],[6, 0],[7, 0]] ?_ ?_ <;> simp only [go_sem, wrap_succ hlt hl, csI, brTo, hB, hC]
  ·have hge : i = x.l.rs.length := by
    have : ¬ (i : Int) < x.l.rs.length := by simpa using hb
    omega
   clear hb
   subst hge
   refine cl_exit ?_
   simp only [go_sem]
   refine kp [4,7] [[4, 0],[7, 0]] ?_
   repeat refine sq ?_
   refine rsx hΓ [4] [[4, 0]] ?_
   refine cl_ret ?_
   simp only [go_sem]
   simp only [e, hB]
end
noncomputable section
theorem okRg (l : List Rg) : ∀ y ∈ l.map encRg, y.cells.length = 2 ∧ y.okc = true := fun y hy => by
 obtain ⟨a, -, rfl⟩ := List.mem_map.1 hy
 exact ⟨rfl, rfl⟩
theorem lastI_at (x : RV) (f : Fol) (day : Int) : lastI x f day = -1 ∨ ∃ j, j < x.l.rs.length ∧ lastI x f day = (j : Int) := last_cases x f day _
theorem ret_cases (x : RV) (i : Nat) (f : Int) : retI x i f = -1 ∨ ∃ j, j < x.ts.length ∧ retI x i f = (j : Int) := by
 unfold retI
 by_cases h : (List.range x.ts.length).any (rtB x (rsAt x.l i).so f) = true
 ·rw [if_pos h]
  have hlt : (List.range x.ts.length).findIdx (rtB x (rsAt x.l i).so f) < (List.range x.ts.length).length := List.findIdx_lt_length_of_exists (by obtain ⟨y, hy, hp⟩ := List.any_eq_true.1 h; exact ⟨y, hy, hp⟩)
  exact .inr ⟨_, by simpa using hlt, rfl⟩
 ·rw [if_neg h]; exact .inl rfl
def rgAt (d : List Rg) (i : Nat) : Rg := d.getD i default
def nwS (x : RV) (d : List Rg) (s : Sig) : List Rg × Bool :=
 if lastI x ⟨s.pa, s.le⟩ s.da < 0 then (d, s.pe == 0) else
 if retI x (lastI x ⟨s.pa, s.le⟩ s.da).toNat s.le < 0 then (d, s.pe == (rsAt x.l (lastI x ⟨s.pa, s.le⟩ s.da).toNat).bo) else
 if s.pe == (rsAt x.l (lastI x ⟨s.pa, s.le⟩ s.da).toNat).bo then
  (d.set (retI x (lastI x ⟨s.pa, s.le⟩ s.da).toNat s.le).toNat ⟨maxI (rgAt d (retI x (lastI x ⟨s.pa, s.le⟩ s.da).toNat s.le).toNat).lo (s.da + 1), (rgAt d (retI x (lastI x ⟨s.pa, s.le⟩ s.da).toNat s.le).toNat).hi⟩,
   decide (maxI (rgAt d (retI x (lastI x ⟨s.pa, s.le⟩ s.da).toNat s.le).toNat).lo (s.da + 1) ≤ (rgAt d (retI x (lastI x ⟨s.pa, s.le⟩ s.da).toNat s.le).toNat).hi))
 else if s.pe == 0 then
  (d.set (retI x (lastI x ⟨s.pa, s.le⟩ s.da).toNat s.le).toNat ⟨(rgAt d (retI x (lastI x ⟨s.pa, s.le⟩ s.da).toNat s.le).toNat).lo, minI (rgAt d (retI x (lastI x ⟨s.pa, s.le⟩ s.da).toNat s.le).toNat).hi s.da⟩,
   decide ((rgAt d (retI x (lastI x ⟨s.pa, s.le⟩ s.da).toNat s.le).toNat).lo ≤ minI (rgAt d (retI x (lastI x ⟨s.pa, s.le⟩ s.da).toNat s.le).toNat).hi s.da))
 else (d, false)
theorem nw_none {x : RV} {d : List Rg} {s : Sig} (h : lastI x ⟨s.pa, s.le⟩ s.da = -1) : nwS x d s = (d, s.pe == 0) := by unfold nwS; rw [h]; rfl
theorem nw_out {x : RV} {d : List Rg} {s : Sig} {q : Nat} (h : lastI x ⟨s.pa, s.le⟩ s.da = q) (hr : retI x q s.le = -1) : nwS x d s = (d, s.pe == (rsAt x.l q).bo) := by
 unfold nwS; rw [h, if_neg (by omega), tnI, hr]; rfl
theorem nw_me {x : RV} {d : List Rg} {s : Sig} {q j : Nat} (h : lastI x ⟨s.pa, s.le⟩ s.da = q) (hr : retI x q s.le = j) (hm : (s.pe == (rsAt x.l q).bo) = true) :
  nwS x d s = (d.set j ⟨maxI (rgAt d j).lo (s.da + 1), (rgAt d j).hi⟩, decide (maxI (rgAt d j).lo (s.da + 1) ≤ (rgAt d j).hi)) := by
 unfold nwS; rw [h, if_neg (by omega), tnI, hr, if_neg (by omega), if_pos hm]; rfl
theorem nw_in {x : RV} {d : List Rg} {s : Sig} {q j : Nat} (h : lastI x ⟨s.pa, s.le⟩ s.da = q) (hr : retI x q s.le = j) (hm : (s.pe == (rsAt x.l q).bo) = false) (h0 : (s.pe == 0) = true) :
  nwS x d s = (d.set j ⟨(rgAt d j).lo, minI (rgAt d j).hi s.da⟩, decide ((rgAt d j).lo ≤ minI (rgAt d j).hi s.da)) := by
 unfold nwS; rw [h, if_neg (by omega), tnI, hr, if_neg (by omega), if_neg (by rw [hm]; decide), if_pos h0]; rfl
theorem nw_no {x : RV} {d : List Rg} {s : Sig} {q j : Nat} (h : lastI x ⟨s.pa, s.le⟩ s.da = q) (hr : retI x q s.le = j) (hm : (s.pe == (rsAt x.l q).bo) = false) (h0 : (s.pe == 0) = false) : nwS x d s = (d, false) := by
 unfold nwS; rw [h, if_neg (by omega), tnI, hr, if_neg (by omega), if_neg (by rw [hm]; decide), if_neg (by rw [h0]; decide)]
theorem mx_eq (a b : Int) : maxI a b = if b > a then b else a := rfl
theorem rgAt_at {d : List Rg} {j : Nat} (h : j < d.length) : rgAt d j = d[j] := by unfold rgAt; rw [List.getD_eq_getElem?_getD, List.getElem?_eq_getElem h]; rfl
theorem set_rg (d : List Rg) (j : Nat) (a b : Int) : (d.map encRg).set j (.agg [.int .i64 a, .int .i64 b]) = (d.set j ⟨a, b⟩).map encRg := by rw [List.map_set]; rfl
theorem getD_setR {d : List Rg} {j : Nat} {r : Rg} (h : j < d.length) : ((d.set j r).map encRg).getD j default = encRg r := by
 rw [map_getD (by rw [List.length_set]; exact h), List.getElem_set_self]
def K44 : List (Nat × Spec) := [(159, S159), (103, S103)]
theorem K44_sound : KS K44 := tc s159.sound <| tc s103.sound <| tn
attribute [go_sem] K44
@[go_sem] def P196 : PSpec := p3 iRV (iSl iRg) iS (fun x d so => (RVok x ∧ d.length = x.ts.length) ∧ sigD so) (fun x d so => .tup [.sl ((nwS x d so).1.map encRg), .bool (nwS x d so).2]) false
@[go_sem] def S196 : Spec := P196.toSpec
set_option maxHeartbeats 8000000 in
theorem s196 : PSound Tryz.prog 196 P196 := by
 refine wd3 (rs := [.tmp 6, .tmp 7]) Tryz.func196 Tryz.ntmps196 fun x d so hp hw => ?_
 have hP := mixedK
 simp only [iRV, iRg, iS, iSl, encS] at hw ⊢
 have hΓ := K44_sound
 obtain ⟨⟨⟨hok, htl, -⟩, hdl⟩, hsd⟩ := hp
 have hrn := hok.rsn
 have htn := hok.tsn
 have hdm : d.length ≤ maxLen := by unfold maxLen; omega
 have hd60 : d.length ≤ 60 := by omega
 have hwd := wrap_day hsd
 repeat refine sq ?_
 refine rsx hΓ [1,3,5] [[3, 0],[5, 0]] ?_
 repeat refine sq ?_
 refine rx hΓ [3,5,8] [[3, 0],[5, 0],[14, 0]] (fun K' hK => by simp only [go_sem, hdm, List.length_map]; (repeat (refine ⟨by first | exact obx | exact ⟨okRg _, rfl, by omega⟩, ?_⟩)); exact fn0) ?_
 rcases lastI_at x ⟨so.pa, so.le⟩ so.da with hla | ⟨q, hq, hla⟩
 ·repeat refine sq ?_
  refine rx hΓ [3,5,8,9] [[3, 0],[5, 0],[14, 0]] (fun K' hK => by simp only [go_sem, hla]; exact fnx) ?_
  repeat refine sq ?_
  refine rsx hΓ [3,5,8,9,25] [[3, 0],[5, 0],[14, 0]] ?_
  refine cnd (fun hb => ?_) fun hb => ?_
  ·repeat refine sq ?_
   have e := nw_none (d := d) hla
   refine dx hΓ hP [[], [], [1], [1, 2], [0], u5] [6,7] [[14, 0]] (by kernel_rfl) (fun K' hK => by simp only [go_sem]; exact fdx) ?_
   refine cl_ret ?_
   simp only [go_sem]
   first | (rw [e]; done) | (rw [e]; simp only [rgAt_at hjd, mx_eq, mn_eq]; done) | (rw [e]; simp only [rgAt_at hjd, mx_eq, mn_eq]; exact ⟨rfl, List.length_set⟩) | (rw [e]; simp [rgAt_at hjd, mx_eq, mn_eq]; trace_state; done)
  ·cases hb
 ·have hq' : (q : Int) < x.l.rs.length := by omega
  have erq := rsAt_at hq
  repeat refine sq ?_
  refine rx hΓ [3,5,8,9] [[3, 0],[5, 0],[14, 0]] (fun K' hK => by simp only [go_sem, hla]; exact fnx) ?_
  repeat refine sq ?_
  refine rsx hΓ [3,5,8,9,25] [[3, 0],[5, 0],[14, 0]] ?_
  refine cnd (fun hb => ?_) fun hb => ?_
  ·cases hb
  ·refine cl_skip ?_
   rcases ret_cases x q so.le with hre | ⟨j, hj, hre⟩
   ·repeat refine sq ?_
    refine rx hΓ [3,5,8,9,10] [[3, 0],[5, 0],[14, 0]] (fun K' hK => by simp only [go_sem, hre, tnI]; (repeat (refine ⟨by first | exact obx | exact ⟨⟨hok, htl⟩, nnI _, hq'⟩, ?_⟩)); exact fn0) ?_
    repeat refine sq ?_
    refine dx hΓ hP [[], [0], [], [2], [2, 3], [], [2, 3, 4, 5], [2, 3, 4, 5, 6], [2, 3, 4, 5, 6, 7], u9, u10] [5,8,10,11] [[5, 0],[14, 0]] (by kernel_rfl) (fun K' hK => by simp only [go_sem, map_getD hq, hq', tnI, nnI, List.length_map]; exact fdx) ?_
    repeat refine sq ?_
    refine rsx hΓ [5,8,10,11,46] [[5, 0],[14, 0]] ?_
    refine cnd (fun hb => ?_) fun hb => ?_
    ·repeat refine sq ?_
     have e := nw_out (d := d) hla hre
     rw [erq] at e
     refine rsx hΓ [6,7] [[14, 0]] ?_
     refine cl_ret ?_
     simp only [go_sem]
     first | (rw [e]; done) | (rw [e]; simp only [rgAt_at hjd, mx_eq, mn_eq]; done) | (rw [e]; simp only [rgAt_at hjd, mx_eq, mn_eq]; exact ⟨rfl, List.length_set⟩) | (rw [e]; simp [rgAt_at hjd, mx_eq, mn_eq]; trace_state; done)
    ·cases hb
   ·have hjd : j < d.length := by omega
    have hjd' : (j : Int) < d.length := by omega
    repeat refine sq ?_
    refine rx hΓ [3,5,8,9,10] [[3, 0],[5, 0],[14, 0]] (fun K' hK => by simp only [go_sem, hre, tnI]; (repeat (refine ⟨by first | exact obx | exact ⟨⟨hok, htl⟩, nnI _, hq'⟩, ?_⟩)); exact fn0) ?_
    repeat refine sq ?_
    refine dx hΓ hP [[], [0], [], [2], [2, 3], [], [2, 3, 4, 5], [2, 3, 4, 5, 6], [2, 3, 4, 5, 6, 7], u9, u10] [5,8,10,11] [[5, 0],[14, 0]] (by kernel_rfl) (fun K' hK => by simp only [go_sem, map_getD hq, hq', tnI, nnI, List.length_map]; exact fdx) ?_
    repeat refine sq ?_
    refine rsx hΓ [5,8,10,11,46] [[5, 0],[14, 0]] ?_
    refine cnd (fun hb => ?_) fun hb => ?_
    ·cases hb
    ·refine cl_skip ?_
     repeat refine sq ?_
     refine rsx hΓ [5,8,10,49] [[5, 0],[14, 0]] ?_
     refine cnd (fun hb => ?_) fun hb => ?_
     ·have e := nw_me (d := d) hla hre (by rw [erq]; simpa using hb)
      refine dx hΓ hP [[], [], [], [], [2, 3], [2, 3, 4], [2, 3, 4, 5], [], [7], [7, 8], [2, 3, 4, 5, 6, 7, 8, 9], u11, u12, u13] [8,10] [[14, 0]] (by kernel_rfl) (fun K' hK => by simp only [go_sem, hwd, vInt, set_rg, map_getD hjd, hjd', tnI, nnI, List.length_map]; exact fdx) ?_
      repeat refine sq ?_
      refine dx hΓ hP [[], [], [], [1, 2], [1, 2, 3], [1, 2, 3, 4], [], [], [6, 7], [6, 7, 8], [6, 7, 8, 9], [1, 2, 3, 4, 5, 6, 7, 8, 9, 10], [0], u13] [6,7] [[14, 0]] (by kernel_rfl) (fun K' hK => by simp only [go_sem, getD_setR hjd, hjd', tnI, nnI, List.length_map, List.length_set]; exact fdx) ?_
      refine cl_ret ?_
      simp only [go_sem]
      first | (rw [e]; done) | (rw [e]; simp only [rgAt_at hjd, mx_eq]; done) | (rw [e]; simp only [rgAt_at hjd, mx_eq]; exact ⟨rfl, List.length_set⟩) | (rw [e]; simp [rgAt_at hjd, mx_eq]; trace_state; done)
     ·repeat refine sq ?_
      have hm : (so.pe == (rsAt x.l q).bo) = false := by rw [erq]; simpa using hb
      refine rsx hΓ [5,8,10,65] [[5, 0],[14, 0]] ?_
      refine cnd (fun hb => ?_) fun hb => ?_
      ·have e := nw_in (d := d) hla hre hm (by simpa using hb)
       refine dx hΓ hP [[], [], [], [], [2, 3], [2, 3, 4], [2, 3, 4, 5], [], [7], [2, 3, 4, 5, 6, 7, 8], u10, u11, u12] [8,10] [[14, 0]] (by kernel_rfl) (fun K' hK => by simp only [go_sem, vInt, set_rg, map_getD hjd, hjd', tnI, nnI, List.length_map]; exact fdx) ?_
       repeat refine sq ?_
       refine dx hΓ hP [[], [], [], [1, 2], [1, 2, 3], [1, 2, 3, 4], [], [], [6, 7], [6, 7, 8], [6, 7, 8, 9], [1, 2, 3, 4, 5, 6, 7, 8, 9, 10], [0], u13] [6,7] [[14, 0]] (by kernel_rfl) (fun K' hK => by simp only [go_sem, getD_setR hjd, hjd', tnI, nnI, List.length_map, List.length_set]; exact fdx) ?_
       refine cl_ret ?_
       simp only [go_sem]
       first | (rw [e]; done) | (rw [e]; simp only [rgAt_at hjd, mn_eq]; done) | (rw [e]; simp only [rgAt_at hjd, mn_eq]; exact ⟨rfl, List.length_set⟩) | (rw [e]; simp [rgAt_at hjd, mn_eq]; trace_state; done)
      ·repeat refine sq ?_
       have e := nw_no (d := d) hla hre hm (by simpa using hb)
       refine rsx hΓ [6,7] [[14, 0]] ?_
       refine cl_ret ?_
       simp only [go_sem]
       first | (rw [e]; done) | (rw [e]; simp only [rgAt_at hjd, mx_eq, mn_eq]; done) | (rw [e]; simp only [rgAt_at hjd, mx_eq, mn_eq]; exact ⟨rfl, List.length_set⟩) | (rw [e]; simp [rgAt_at hjd, mx_eq, mn_eq]; trace_state; done)
end
noncomputable section
def byTo (x : RV) (s : Nat) : List Rg := (List.range s).map (byR x)
theorem byTo_succ (x : RV) (s : Nat) : byTo x (s + 1) = byTo x s ++ [byR x s] := by unfold byTo; rw [List.range_succ, List.map_append]; rfl
theorem byTo_len (x : RV) (s : Nat) : (byTo x s).length = s := by simp [byTo]
def dyTo (x : RV) (is : List Int) : Nat → List Rg × Bool
 | 0 => (byTo x x.l.ts.length, true)
 | s + 1 => ((nwS x (dyTo x is s).1 (ssAt x.l (is.getD s 0).toNat)).1, (dyTo x is s).2 && (nwS x (dyTo x is s).1 (ssAt x.l (is.getD s 0).toNat)).2)
theorem nwS_len (x : RV) (d : List Rg) (s : Sig) : (nwS x d s).1.length = d.length := by
 unfold nwS
 split
 ·rfl
 ·split
  ·rfl
  ·split
   ·simp
   ·split
    ·simp
    ·rfl
theorem dyTo_len (x : RV) (is : List Int) (s : Nat) : (dyTo x is s).1.length = x.l.ts.length := by
 induction s with
 | zero => exact byTo_len _ _
 | succ s ih => unfold dyTo; rw [nwS_len, ih]
theorem okL_sda {l : Led} (h : OkL l) {i : Nat} (hi : i < l.ss.length) : sigD l.ss[i] := by
 have := allB_at h.ss hi
 unfold sigB at this
 simp only [Bool.and_eq_true] at this
 have hd := this.1.2
 unfold dayB inI at hd
 simp at hd
 exact hd
def K45 : List (Nat × Spec) := [(195, S195), (196, S196)]
theorem K45_sound : KS K45 := tc s195.sound <| tc s196.sound <| tn
attribute [go_sem] K45
@[go_sem] def P183 : PSpec := p2 iRV iIs (fun x is => RVok x ∧ is.length ≤ 60 ∧ ∀ a ∈ is, 0 ≤ a ∧ a < x.l.ss.length) (fun x is => .tup [.sl ((dyTo x is is.length).1.map encRg), .bool (dyTo x is is.length).2]) false
@[go_sem] def S183 : Spec := P183.toSpec
set_option maxHeartbeats 8000000 in
theorem s183 : PSound Tryz.prog 183 P183 := by
 refine wd2 (rs := [.tmp 4, .tmp 5]) Tryz.func183 Tryz.ntmps183 fun x az hp hw => ?_
 have hP := mixedK
 simp only [iIs, iRV] at hw ⊢
 have hΓ := K45_sound
 obtain ⟨hv, hin, his⟩ := hp
 have hok := hv.1
 have hrn := hok.rsn
 have htn := hok.tsn
 have htl := hv.2.1
 have hl : x.l.ts.length ≤ maxLen := by unfold maxLen; omega
 have hli : az.length ≤ maxLen := by unfold maxLen; omega
 repeat refine sq ?_
 refine rsx hΓ [1,2] [[2, 0]] ?_
 repeat refine sq ?_
 refine rsx hΓ [1,2,6] [[2, 0],[25, 0]] ?_
 refine cl_weakM (weakM_ghostk 6 [25, 0] 2 (by simp only [go_sem]) (by simp only [go_sem]) [1,2,6] [[2, 0],[25, 0]] ?_ rfl) ?_
 ·simp only [go_sem]
 simp only [go_sem]
 repeat refine sq ?_
 refine rsx hΓ [1,2,6,7] [[2, 0],[25, 0]] ?_
 refine cl_block ?_
 refine cl_loop'  (fun s : Nat => [(7, ⟨true, .v (vInt s)⟩), (6, ⟨true, .msl [25, 0] (byTo x s).length⟩)]) (fun s => [([25, 0], .arr 2 ((byTo x s).map encRg))]) (fun s => s ≤ x.l.ts.length) (fun s => x.l.ts.length - s) 0 ?_ ?_ ?_ ?_
 ·exact Nat.zero_le _
 ·rfl
 ·rfl
 rintro i hi
 simp only [go_sem]
 repeat refine sq ?_
 refine rsx hΓ [1,2,6,7,17] [[2, 0],[25, 0]] ?_
 refine cnd (fun hb => ?_) fun hb => ?_
 ·have hlt : i < x.l.ts.length := by simpa using hb
  have hlt' : (i : Int) < x.l.ts.length := by omega
  clear hb
  have hbl := byTo_len x i
  refine cl_skip ?_
  repeat refine sq ?_
  refine cl_block ?_
  refine cl_r hΓ fun K' hK => ?_
  simp only [go_sem, tnI, nnI, hlt']
  repeat (refine ⟨by first | exact obx | exact ⟨hv, nnI _, hlt'⟩, ?_⟩)
  refine hK _ ?_
  clear K' hK
  simp only [go_sem]
  refine kp [1,2,6,7] [[2, 0],[25, 0]] ?_
  refine cl_r hΓ fun K' hK => ?_
  simp only [go_sem]
  repeat (refine ⟨obx, ?_⟩)
  refine hK _ ?_
  clear K' hK
  simp only [go_sem]
  refine ⟨i + 1, hlt, by (show x.l.ts.length - (i + 1) < x.l.ts.length - i; omega), ?_⟩
  refine weak_eq [1,2,6,7] [[2, 0],[25, 0]] ?_ ?_ <;> simp only [go_sem, wrap_succ hlt hl, csI, byTo_succ, List.map_append, List.length_append, List.map_cons, List.map_nil, List.length_cons, List.length_nil]
 ·have hge : i = x.l.ts.length := by
   have : ¬ (i : Int) < x.l.ts.length := by simpa using hb
   omega
  clear hb
  subst hge
  refine cl_exit ?_
  simp only [go_sem]
  refine kp [1,2,6] [[2, 0],[25, 0]] ?_
  repeat refine sq ?_
  refine rsx hΓ [1,2,6,8] [[2, 0],[25, 0]] ?_
  refine cl_weakM (weakM_frzk 6 (.msl [25, 0] (byTo x x.l.ts.length).length) (by simp only [go_sem]) (by simp only [go_sem]) [1,2,6,8] [[2, 0]] ?_ rfl) ?_
  ·simp only [go_sem]
  simp only [go_sem]
  repeat refine sq ?_
  refine rsx hΓ [1,2,6,8,9] [[2, 0]] ?_
  refine cl_block ?_
  refine cl_loop'  (fun s : Nat => [(9, ⟨true, .v (vInt s)⟩), (6, ⟨true, .v (.sl ((dyTo x az s).1.map encRg))⟩), (8, ⟨true, .v (.bool (dyTo x az s).2)⟩)]) (fun s => []) (fun s => s ≤ az.length) (fun s => az.length - s) 0 ?_ ?_ ?_ ?_
  ·exact Nat.zero_le _
  ·rfl
  ·rfl
  rintro i1 hi
  simp only [go_sem]
  repeat refine sq ?_
  refine rsx hΓ [1,2,6,8,9,29] [[2, 0]] ?_
  refine cnd (fun hb => ?_) fun hb => ?_
  ·have hlt1 : i1 < az.length := by simpa using hb
   have hlt1' : (i1 : Int) < az.length := by omega
   clear hb
   obtain ⟨hz0, hz1⟩ := his az[i1] (List.getElem_mem hlt1)
   obtain ⟨m, hm⟩ : ∃ m : Nat, az[i1] = m := ⟨az[i1].toNat, by omega⟩
   have hml : m < x.l.ss.length := by omega
   have hml' : (m : Int) < x.l.ss.length := by omega
   have hdl := (dyTo_len x az i1).trans htl.symm
   have eD : dyTo x az (i1 + 1) = ((nwS x (dyTo x az i1).1 x.l.ss[m]).1, (dyTo x az i1).2 && (nwS x (dyTo x az i1).1 x.l.ss[m]).2) := by
    have ez : az.getD i1 0 = (m : Int) := by rw [List.getD_eq_getElem?_getD, List.getElem?_eq_getElem hlt1]; exact hm
    rw [dyTo, ez, tnI, ssAt_at hml]
   refine cl_skip ?_
   repeat refine sq ?_
   refine cl_block ?_
   repeat refine sq ?_
   refine dx hΓ hP [[], [], [], [2], [2, 3], [], [], [5, 6], [5, 6, 7], [2, 3, 4, 5, 6, 7, 8], [2, 3, 4, 5, 6, 7, 8, 9], u11, u12, u13, u13, u14, u16] [1,2,8,9,10,11] [[2, 0]] (by kernel_rfl) (fun K' hK => by simp only [go_sem, map_getD hlt1, tnI, nnI, hlt1', hm, map_getD hml, hml']; (repeat (refine ⟨by first | exact obx | exact ⟨⟨hv, hdl⟩, okL_sda hok hml⟩, ?_⟩)); exact fd0) ?_
   repeat refine sq ?_
   refine rsx hΓ [1,2,6,8,9,11] [[2, 0]] ?_
   refine cl_r hΓ fun K' hK => ?_
   simp only [go_sem]
   repeat (refine ⟨obx, ?_⟩)
   refine hK _ ?_
   clear K' hK
   simp only [go_sem]
   refine kp [1,2,6,8,9] [[2, 0]] ?_
   refine cl_r hΓ fun K' hK => ?_
   simp only [go_sem]
   repeat (refine ⟨obx, ?_⟩)
   refine hK _ ?_
   clear K' hK
   simp only [go_sem]
   refine ⟨i1 + 1, hlt1, by (show az.length - (i1 + 1) < az.length - i1; omega), ?_⟩
   refine weak_eq [1,2,6,8,9] [[2, 0]] ?_ ?_ <;> simp only [go_sem, wrap_succ hlt1 hli, csI, eD]
  ·have hge1 : i1 = az.length := by
    have : ¬ (i1 : Int) < az.length := by simpa using hb
    omega
   clear hb
   subst hge1
   refine cl_exit ?_
   simp only [go_sem]
   refine kp [6,8] [] ?_
   repeat refine sq ?_
   refine rsx hΓ [4,5] [] ?_
   refine cl_ret ?_
   simp only [go_sem]
   skip
end
noncomputable section
def rvOf (l : Led) (k : Int) : RV := ⟨l, k, telR l k l.ts.length, []⟩
def K46 : List (Nat × Spec) := [(71, S71)]
theorem K46_sound : KS K46 := tc s71.sound <| tn
attribute [go_sem] K46
@[go_sem] def P73 : PSpec := p2 iL iI (fun l _ => OkL l) (fun l k => encRV (rvOf l k)) false
@[go_sem] def S73 : Spec := P73.toSpec
set_option maxHeartbeats 8000000 in
theorem s73 : PSound Tryz.prog 73 P73 := by
 refine wd2 (rs := [.cell 4 108]) Tryz.func73 Tryz.ntmps73 fun l k hp hw => ?_
 have hP := mixedK
 simp only [iI, iL, encL] at hw ⊢
 have hΓ := K46_sound
 repeat refine sq ?_
 refine rsx hΓ [1,2,4] [[2, 0],[4, 0],[10, 0]] ?_
 repeat refine sq ?_
 refine dx hΓ hP [[], [], [], [], [2, 3], u5, u6] [4] [[4, 0],[10, 0]] (by kernel_rfl) (fun K' hK => by simp only [go_sem]; exact fdx) ?_
 refine cl_weakM (weakM_ghostI [4, 0] [10, 0] 6 2 _ rfl rfl rfl [4] [[4, 0],[10, 0]] ?_ rfl) ?_
 ·simp only [go_sem, List.set_cons_succ, List.set_cons_zero]
 simp only [go_sem, List.set_cons_succ, List.set_cons_zero]
 refine cl_weakM (weakM_frzI [4, 0] [10, 0] 6 _ _ _ _ rfl rfl rfl (by first | rfl | (simp only [List.length_map]; done)) [4] [[4, 0]] ?_ rfl) ?_
 ·simp only [go_sem, List.set_cons_succ, List.set_cons_zero]
 simp only [go_sem, List.set_cons_succ, List.set_cons_zero]
 refine cl_ret ?_
 simp only [go_sem]
 first | rfl | trace_state
end
end Go.Eng
