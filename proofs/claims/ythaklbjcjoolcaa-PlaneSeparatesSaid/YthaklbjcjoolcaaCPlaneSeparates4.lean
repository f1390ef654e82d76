/- Proved here: what functions that the law reaches compute, and plain laws of that. No conditions but those that the theorems state. Put together by a program; a part of it was printed by a program of the session's, by way of the kit's printer (wip/printplus.py, wip/mend*.py). -/
import Derived.Test.YthaklbjcjoolcaaB1
import Derived.Test.YthaklbjcjoolcaaB4
import Derived.Test.YthaklbjcjoolcaaCPlaneSeparates1
import Derived.Test.YthaklbjcjoolcaaCPlaneSeparates3
import Derived.Test.YthaklbjcjoolcaaB2
import Derived.Test.YthaklbjcjoolcaaB3
import Derived.Test.YthaklbjcjoolcaaCPlaneSeparates2
set_option linter.unusedVariables false
set_option linter.unusedSimpArgs false
namespace Go.Proofs.Ythaklbjcjoolcaa.P
open Go.RowKit Go.Proofs.YthaklbjcjoolcaaW.PrintWords Go.Proofs.YthaklbjcjoolcaaW.PrintLast Go.Proofs.YthaklbjcjoolcaaW.PrintMore
attribute [local go_sem] max2_int min2_int max_two min_two max_three min_three max_four min_four   -- for this text's walks alone

attribute [local go_sem high] eqA31
/-! ### silversidelaw01_same: function 34 -/
def silversidelaw01_same.l0 : Nat → List (S31) → List (S31) → Int → Option (Bool)
 | 0, _, _, _ => none
 | k + 1, x0, x1, x5 => if x5 < (x0.length : Int) then (if 0 ≤ x5 then (if x5 < (x1.length : Int) then (if (!(((rd_T31 x0 x5).f0) == ((rd_T31 x1 x5).f0)) || (!(((rd_T31 x0 x5).f1) == ((rd_T31 x1 x5).f1)))) = true then (some false) else (silversidelaw01_same.l0 k x0 x1 (wrap64 (x5 + 1)))) else (none)) else (none)) else (some true)
def silversidelaw01_same.f (k : Nat) (l0 : List (S31)) (l1 : List (S31)) : Option (Bool) := if (l0.length : Int) = (l1.length : Int) then (silversidelaw01_same.l0 k l0 l1 0) else (some false)
theorem silversidelaw01_same.mono_l : ∀ k, (∀ y0 y1 y2, LeO (silversidelaw01_same.l0 k y0 y1 y2) (silversidelaw01_same.l0 (k + 1) y0 y1 y2))
 | 0 => fun _ _ _ r h => by simp [silversidelaw01_same.l0] at h
 | k + 1 => by
  have ih0 := silversidelaw01_same.mono_l k
  ·intro y0 y1 y2
   unfold silversidelaw01_same.l0
   repeat' first
   | (with_reducible exact ih0 _ _ _)
   | (with_reducible exact LeO.refl _)
   | (with_reducible exact LeO.none _)
   | (with_reducible refine LeO.ite ?_ ?_)
   | (with_reducible refine LeO.bind ?_ (fun _ => ?_))
   | exact ih0 _ _ _
   | exact LeO.none _
   | refine LeO.ite ?_ ?_
   | refine LeO.bind ?_ (fun _ => ?_)
theorem silversidelaw01_same.mono : ∀ a0 a1 k, LeO (silversidelaw01_same.f k a0 a1) (silversidelaw01_same.f (k + 1) a0 a1) := by
 intro a0 a1 k
 have ih0 := silversidelaw01_same.mono_l k
 unfold silversidelaw01_same.f
 repeat' first
   | (with_reducible exact ih0 _ _ _)
   | (with_reducible exact LeO.refl _)
   | (with_reducible exact LeO.none _)
   | (with_reducible refine LeO.ite ?_ ?_)
   | (with_reducible refine LeO.bind ?_ (fun _ => ?_))
   | exact ih0 _ _ _
   | exact LeO.none _
   | refine LeO.ite ?_ ?_
   | refine LeO.bind ?_ (fun _ => ?_)
set_option maxHeartbeats 8000000 in
set_option maxRecDepth 100000 in
theorem silversidelaw01_same.calls (k : Nat) (A0 : Option Addr) (c0 : Nat) (l0 : List (S31)) (A1 : Option Addr) (c1 : Nat) (l1 : List (S31)) (r : Bool) (w : World) (hr0 : Kd.C k31 w A0 l0.length l0) (hc0 : l0.length ≤ c0) (hr1 : Kd.C k31 w A1 l1.length l1) (hc1 : l1.length ≤ c1) (h : silversidelaw01_same.f k l0 l1 = some r) :
  Calls Try.prog 34 #[.slice A0 l0.length c0, .slice A1 l1.length c1] w fun e w' => e = .returned (.bool r) ∧ Drawn0 w w' := by
 have hu31 := Try.underlying31
 have HR0 := Aside0.mk hr0
 have HC0 := Aside0.mk hc0
 clear hr0 hc0
 have HR1 := Aside0.mk hr1
 have HC1 := Aside0.mk hc1
 clear hr1 hc1
 have H : (if (l0.length : Int) = (l1.length : Int) then (silversidelaw01_same.l0 k l0 l1 0) else (some false)) = some r := h
 clear h
 by_cases c3 : (l0.length : Int) = (l1.length : Int)
 ·rw [if_pos c3] at H
  have c3b0 : ((l0.length : Int) == (l1.length : Int)) = true := beq_iff_eq.mpr c3
  have c3b1 : ((l0.length : Int) != (l1.length : Int)) = false := bne_eq_false_iff_eq.mpr c3
  have c3b2 : (l0.length == l1.length) = true := by first | simpa using c3 | (simp at c3 ⊢; omega)
  clear c3
  have H' := Aside0.mk H
  clear H
  go_enter Try.func34, Try.ntmps34
  go_wp2
  repeat (go_quiet (fail); try go_wp2)
  go_loopg [5] k (fun kq v5 w' => ∃ (x5_1 : Int), v5 = .int .i64 x5_1 ∧ Aside0 (silversidelaw01_same.l0 kq l0 l1 x5_1 = some r) ∧ Aside0 (kq ≤ k) ∧ Drawn0 w w')
  case atStart => exact ⟨(0), (by first | rfl | (simp; done) | (simp [*]; done)), H', ⟨Nat.le_refl _⟩, by repeat (first | exact Drawn0.refl _ | apply Drawn0.step)⟩
  case round =>
   clear H'
   try clear c1
   try clear p2
   try clear c3
   try clear c3b0
   try clear c3b1
   try clear c3b2
   obtain ⟨x5_1, rfl, HA, HK1, ⟨m1, rfl⟩⟩ := hrel
   cases gk with
   | zero => exact absurd HA.out (by simp [silversidelaw01_same.l0])
   | succ k1 =>
    have H := HA.out
    clear HA
    simp only [silversidelaw01_same.l0] at H
    by_cases c4 : x5_1 < (l0.length : Int)
    ·rw [if_pos c4] at H
     have c4b0 : decide (x5_1 < (l0.length : Int)) = true := decide_eq_true c4
     clear c4
     by_cases c5 : 0 ≤ x5_1
     ·rw [if_pos c5] at H
      have c5b0 : decide (0 ≤ x5_1) = true := decide_eq_true c5
      clear c5
      by_cases c6 : x5_1 < (l1.length : Int)
      ·rw [if_pos c6] at H
       have c6b0 : decide (x5_1 < (l1.length : Int)) = true := decide_eq_true c6
       clear c6
       by_cases c7 : (!(((rd_T31 l0 x5_1).f0) == ((rd_T31 l1 x5_1).f0)) || (!(((rd_T31 l0 x5_1).f1) == ((rd_T31 l1 x5_1).f1)))) = true
       ·rw [if_pos c7] at H
        have c7b0 : (!(((rd_T31 l0 x5_1).f0) == ((rd_T31 l1 x5_1).f0)) || (!(((rd_T31 l0 x5_1).f1) == ((rd_T31 l1 x5_1).f1)))) = true := c7
        clear c7
        obtain rfl := Option.some.inj H
        have p307 : 0 ≤ (x5_1 : Int) := of_decide_eq_true (by first | (with_reducible assumption) | assumption)
        have q307 : x5_1 < (l0.length : Int) := of_decide_eq_true (by first | (with_reducible assumption) | assumption)
        obtain ⟨ad307, e307, hx307_0, hx307_1⟩ := at_T31 HR0.out x5_1 p307 q307
        cases e307
        replace p307 := eq_true p307
        replace q307 := eq_true q307
        have p308 : 0 ≤ (x5_1 : Int) := of_decide_eq_true (by first | (with_reducible assumption) | assumption)
        have q308 : x5_1 < (l1.length : Int) := of_decide_eq_true (by first | (with_reducible assumption) | assumption)
        obtain ⟨ad308, e308, hx308_0, hx308_1⟩ := at_T31 HR1.out x5_1 p308 q308
        cases e308
        replace p308 := eq_true p308
        replace q308 := eq_true q308
        go_wp2
        repeat (go_quiet (fail); try go_wp2)
        go_ret
        exact ⟨by first | rfl | (simp; done) | (simp [*]; done), by repeat (first | exact Drawn0.refl _ | apply Drawn0.step)⟩
       ·rw [if_neg c7] at H
        have c7b0 : (!(((rd_T31 l0 x5_1).f0) == ((rd_T31 l1 x5_1).f0)) || (!(((rd_T31 l0 x5_1).f1) == ((rd_T31 l1 x5_1).f1)))) = false := by simpa using c7
        clear c7
        have H' := Aside0.mk H
        clear H
        have p307 : 0 ≤ (x5_1 : Int) := of_decide_eq_true (by first | (with_reducible assumption) | assumption)
        have q307 : x5_1 < (l0.length : Int) := of_decide_eq_true (by first | (with_reducible assumption) | assumption)
        obtain ⟨ad307, e307, hx307_0, hx307_1⟩ := at_T31 HR0.out x5_1 p307 q307
        cases e307
        replace p307 := eq_true p307
        replace q307 := eq_true q307
        have p308 : 0 ≤ (x5_1 : Int) := of_decide_eq_true (by first | (with_reducible assumption) | assumption)
        have q308 : x5_1 < (l1.length : Int) := of_decide_eq_true (by first | (with_reducible assumption) | assumption)
        obtain ⟨ad308, e308, hx308_0, hx308_1⟩ := at_T31 HR1.out x5_1 p308 q308
        cases e308
        replace p308 := eq_true p308
        replace q308 := eq_true q308
        go_wp2
        repeat (go_quiet (fail); try go_wp2)
        go_roundg k1
        case measure => have := HK1.out; omega
        case rel => exact ⟨(wrap64 (x5_1 + 1)), (by first | rfl | (simp; done) | (simp [*]; done)), H', ⟨by have := HK1.out; omega⟩, by repeat (first | exact Drawn0.refl _ | apply Drawn0.step)⟩
      ·rw [if_neg c6] at H
       exact absurd H (by simp)
     ·rw [if_neg c5] at H
      exact absurd H (by simp)
    ·rw [if_neg c4] at H
     have c4b0 : decide (x5_1 < (l0.length : Int)) = false := decide_eq_false c4
     clear c4
     obtain rfl := Option.some.inj H
     go_wp2
     repeat (go_quiet (fail); try go_wp2)
     go_ret
     exact ⟨by first | rfl | (simp; done) | (simp [*]; done), by repeat (first | exact Drawn0.refl _ | apply Drawn0.step)⟩
 rw [if_neg c3] at H
 have c3b0 : ((l0.length : Int) == (l1.length : Int)) = false := beq_eq_false_iff_ne.mpr c3
 have c3b1 : ((l0.length : Int) != (l1.length : Int)) = true := bne_iff_ne.mpr c3
 have c3b2 : (l0.length == l1.length) = false := by first | simpa using c3 | (simp at c3 ⊢; omega)
 obtain rfl := Option.some.inj H
 go_enter Try.func34, Try.ntmps34
 go_wp2
 repeat (go_quiet (fail); try go_wp2)
 go_ret
 exact ⟨by first | rfl | (simp; done) | (simp [*]; done), by repeat (first | exact Drawn0.refl _ | apply Drawn0.step)⟩

end Go.Proofs.Ythaklbjcjoolcaa.P
namespace Go.Proofs.Ythaklbjcjoolcaa.P
open Go.RowKit Go.Proofs.YthaklbjcjoolcaaW.PrintWords Go.Proofs.YthaklbjcjoolcaaW.PrintLast Go.Proofs.YthaklbjcjoolcaaW.PrintMore
theorem set_ev (l : List S31) (hl : l.length < 9223372036854775807) : Ev (fun k => silversideref01_Set.f k l) (isSetB l) := by
  unfold silversideref01_Set.f isSetB
  by_cases h1 : (l.length : Int) ≥ 1
  · refine ev_pos h1 ?_
    by_cases h2 : (l.length : Int) ≤ 512
    · refine ev_pos h2 ?_
      rw [decide_eq_true (show 1 ≤ l.length ∧ l.length ≤ 512 from ⟨by omega, by omega⟩), Bool.true_and]
      exact Ev.bind (valids_ev l hl) (Ev.now _)
    · refine ev_neg h2 ?_
      rw [decide_eq_false (show ¬ (1 ≤ l.length ∧ l.length ≤ 512) by omega), Bool.false_and]
      exact Ev.now _
  · refine ev_neg h1 ?_
    rw [decide_eq_false (show ¬ (1 ≤ l.length ∧ l.length ≤ 512) by omega), Bool.false_and]
    exact Ev.now _
theorem same_from (l : List S31) (hl : l.length < 9223372036854775807) : ∀ n i : Nat, l.length - i = n → i ≤ l.length → Ev (fun k => silversidelaw01_same.l0 k l l (i : Int)) true
  | 0, i, hn, hi => by
    refine Ev.step (f := fun _ => some true) (fun k => ?_) (Ev.now _)
    unfold silversidelaw01_same.l0
    rw [if_neg (by omega)]
  | n + 1, i, hn, hi => by
    refine Ev.step (fun k => ?_) (same_from l hl n (i + 1) (by omega) (by omega))
    conv => lhs; unfold silversidelaw01_same.l0
    rw [if_pos (by omega), if_pos (by omega), if_pos (by omega), if_neg (by simp), w64i (x := (i : Int) + 1) (by omega) (by omega)]
    rfl
theorem same_ev (l : List S31) (hl : l.length < 9223372036854775807) : Ev (fun k => silversidelaw01_same.f k l l) true := by
  unfold silversidelaw01_same.f
  exact ev_pos rfl (same_from l hl (l.length - 0) 0 rfl (by omega))
theorem hull_is {t : List S31} (hs : isSetB t = true) : plane_Hull.f t = some (cornersS t, 0) := by
  obtain ⟨⟨hs1, hs2⟩, hok⟩ := (isSetB_iff t).1 hs
  unfold plane_Hull.f plane_corners.f
  rw [isSet_is, hs, Option.bind_some, if_pos rfl, if_pos ⟨hs1, by omega, hok⟩]; rfl
theorem hull_no {t : List S31} (hs : isSetB t = false) : plane_Hull.f t = some ([], 2) := by
  unfold plane_Hull.f
  rw [isSet_is, hs]; rfl
theorem isSet_of {t : List S31} (h1 : 1 ≤ t.length) (h2 : t.length ≤ 512) (h3 : allOk t = true) : isSetB t = true := (isSetB_iff t).2 ⟨⟨h1, h2⟩, h3⟩
/-- the corners of a set are a set -/
theorem corners_set {t : List S31} (h1 : 1 ≤ t.length) (h2 : t.length ≤ 256) (h3 : allOk t = true) : isSetB (cornersS t) = true :=
  isSet_of (corners_hull t h1).pos (by have := cornersS_len t; omega) (cornersS_ok h3)
theorem lin_two (u v : Int) (p : S31) : lin (2 * u) (2 * v) p = 2 * lin u v p := by unfold lin; grind
/-- the verdict is right -/
theorem sep_right {a b : List S31} (ha : isSetB a = true) (hb : isSetB b = true) {t : Bool × Int × Int × Int × Int × Int × Int × Int} (h : SepV (cornersS a) (cornersS b) t) :
    rightB a b t.1 t.2.1 t.2.2.1 t.2.2.2.1 t.2.2.2.2.1 t.2.2.2.2.2.1 t.2.2.2.2.2.2.1 = true := by
  obtain ⟨⟨a1, a2⟩, a3⟩ := (isSetB_iff a).1 ha
  obtain ⟨⟨b1, b2⟩, b3⟩ := (isSetB_iff b).1 hb
  have hP := corners_hull a a1
  have hQ := corners_hull b b1
  rcases h with ⟨u, v, w, rfl, hu, hv, hw, h1, h2⟩ | ⟨X, Y, D, rfl, hbd, i1, i2⟩
  · obtain ⟨i, hi, hm⟩ := hull_max hP u v
    obtain ⟨j, hj, hn⟩ := hull_max hQ (-u) (-v)
    have e1 := h1 _ (pt_mem (cornersS a) i hi)
    have e2 := h2 _ (pt_mem (cornersS b) j hj)
    have A1 : (a.all fun p => decide (lin (2 * u) (2 * v) p < w)) = true := by
      rw [List.all_eq_true]
      intro p hp
      have := hm p hp
      rw [decide_eq_true_eq, lin_two]; omega
    have A2 : (b.all fun p => decide (w < lin (2 * u) (2 * v) p)) = true := by
      rw [List.all_eq_true]
      intro p hp
      have := hn p hp
      rw [lin_neg, lin_neg] at this
      rw [decide_eq_true_eq, lin_two]; omega
    show (if false = true then _ else _) = true
    rw [if_neg (by decide)]
    simp only
    rw [A1, A2, decide_eq_true (show -1073741824 ≤ 2 * u ∧ 2 * u ≤ 1073741824 by omega), decide_eq_true (show -1073741824 ≤ 2 * v ∧ 2 * v ≤ 1073741824 by omega), decide_eq_true (show -1152921504606846976 ≤ w ∧ w ≤ 1152921504606846976 by omega)]
    rfl
  · have c1 := (holds_iff (hull_self hP) (cornersS_ok a3) hbd).2 i1
    have c2 := (holds_iff (hull_self hQ) (cornersS_ok b3) hbd).2 i2
    obtain ⟨k1, k2, k3⟩ := hbd
    show (if true = true then _ else _) = true
    rw [if_pos rfl]
    simp only
    rw [c1, c2, decide_eq_true k1, decide_eq_true k2, decide_eq_true k3]
    rfl
/-- a right verdict is of the right kind -/
theorem right_kind {a b : List S31} (ha : isSetB a = true) (hb : isSetB b = true) {m : Bool} {x y d u v w : Int} (h : rightB a b m x y d u v w = true) : m = true ↔ Common (cornersS a) (cornersS b) := by
  obtain ⟨⟨a1, a2⟩, a3⟩ := (isSetB_iff a).1 ha
  obtain ⟨⟨b1, b2⟩, b3⟩ := (isSetB_iff b).1 hb
  have hP := corners_hull a a1
  have hQ := corners_hull b b1
  unfold rightB at h
  cases m with
  | true =>
    rw [if_pos rfl] at h
    simp only [Bool.and_eq_true, decide_eq_true_eq] at h
    obtain ⟨_, _, _, hd, hx, hy, c1, c2⟩ := h
    have hbd : Bd x y d := ⟨hx, hy, hd⟩
    exact ⟨fun _ => ⟨x, y, d, (holds_iff (hull_self hP) (cornersS_ok a3) hbd).1 c1, (holds_iff (hull_self hQ) (cornersS_ok b3) hbd).1 c2⟩, fun _ => rfl⟩
  | false =>
    rw [if_neg (by decide)] at h
    simp only [Bool.and_eq_true, decide_eq_true_eq, List.all_eq_true] at h
    obtain ⟨_, _, _, _, _, _, c1, c2⟩ := h
    refine ⟨fun h => by simp at h, fun hC => ?_⟩
    refine absurd hC (apt_common (hull_self hP) (hull_self hQ) (u := u) (v := v) (fun p hp q hq => ?_))
    obtain ⟨i, hi, rfl⟩ := mem_pt hp
    obtain ⟨j, hj, rfl⟩ := mem_pt hq
    have := c1 _ (hP.mem i hi)
    have := c2 _ (hQ.mem j hj)
    omega
theorem on_is {a b p : S31} (ha : okPt a = true) (hb : okPt b = true) (hp : okPt p = true) : silversideref01_on.f a.f0 a.f1 b.f0 b.f1 p.f0 p.f1 = some (onB a b p) := by
  unfold silversideref01_on.f onB
  rw [refturn_same, turn_is ha hb hp, Option.bind_some]
  by_cases h : crs a b p = 0
  · rw [if_pos (sgn_zero.2 h), h]
    by_cases h1 : mn a.f0 b.f0 ≤ p.f0
    · rw [if_pos h1]
      by_cases h2 : p.f0 ≤ mx a.f0 b.f0
      · rw [if_pos h2]
        by_cases h3 : mn a.f1 b.f1 ≤ p.f1
        · rw [if_pos h3]; simp [h1, h2, h3]
        · rw [if_neg h3]; simp [h3]
      · rw [if_neg h2]; simp [h2]
    · rw [if_neg h1]; simp [h1]
  · rw [if_neg (fun h' => h (sgn_zero.1 h'))]; simp [h]
theorem refmeet_is {a b c d : S31} (ha : okPt a = true) (hb : okPt b = true) (hc : okPt c = true) (hd : okPt d = true) (k : Nat) : silversideref01_meet.f (k + 1) a.f0 a.f1 b.f0 b.f1 c.f0 c.f1 d.f0 d.f1 = some (meetB a b c d) := by
  have hj : ∀ x : Bool, silversideref01_meet.j0 (k + 1) x a.f0 a.f1 b.f0 b.f1 c.f0 c.f1 d.f0 d.f1 = some (x || (onB a b c || (onB a b d || (onB c d a || onB c d b)))) := by
    intro x
    rw [silversideref01_meet.j0, on_is ha hb hc, on_is ha hb hd, on_is hc hd ha, on_is hc hd hb]
    simp only [Option.bind_some]
    cases x <;> cases onB a b c <;> cases onB a b d <;> cases onB c d a <;> cases onB c d b <;> rfl
  unfold silversideref01_meet.f meetB
  simp only [refturn_same, hj]
  rw [turn_is ha hb hc, turn_is ha hb hd, turn_is hc hd ha, turn_is hc hd hb]
  simp only [Option.bind_some, w64_sgn]
  by_cases h : sgn (crs a b c) * sgn (crs a b d) < 0
  · rw [if_pos h, decide_eq_true h]
    generalize decide (sgn (crs c d a) * sgn (crs c d b) < 0) = z
    cases z <;> cases onB a b c <;> cases onB a b d <;> cases onB c d a <;> cases onB c d b <;> rfl
  · rw [if_neg h, decide_eq_false h]
    cases onB a b c <;> cases onB a b d <;> cases onB c d a <;> cases onB c d b <;> rfl
theorem onB_OnS {a b p : S31} (h : onB a b p = true) : OnS a b p.f0 p.f1 1 := by
  obtain ⟨h0, hx, hy⟩ := (onB_iff a b p).1 h
  refine on_box (by decide) (by rw [sd_crs]; exact h0) ?_ ?_
  · rw [Int.mul_one, Int.mul_one]; exact hx
  · rw [Int.mul_one, Int.mul_one]; exact hy
theorem sgn_opp_par {a b c d : S31} (h : sgn (crs a b c) * sgn (crs a b d) < 0) : par a b c d ≠ 0 := by
  intro h0
  rw [par_crs] at h0
  have e : crs a b d = crs a b c := by omega
  rw [e] at h
  have hb := sgn_bd (crs a b c)
  have h3 : sgn (crs a b c) = -1 ∨ sgn (crs a b c) = 0 ∨ sgn (crs a b c) = 1 := by omega
  rcases h3 with e1 | e1 | e1 <;> rw [e1] at h <;> omega
/-- edges that meet: the hulls have a common point -/
theorem meet_common {P Q : List S31} (hP : IsHull P P) (hQ : IsHull Q Q) {a b c d : S31} (ha : a ∈ P) (hb : b ∈ P) (hc : c ∈ Q) (hd : d ∈ Q) (h : meetB a b c d = true) : Common P Q := by
  by_cases hp : par a b c d = 0
  · unfold meetB at h
    simp only [Bool.or_eq_true, Bool.and_eq_true, decide_eq_true_eq] at h
    rcases h with h | h | h | h | h
    · exact ⟨_, _, _, (onB_OnS h).inH hP ha hb (by decide), hull_in hQ hc⟩
    · exact ⟨_, _, _, (onB_OnS h).inH hP ha hb (by decide), hull_in hQ hd⟩
    · exact ⟨_, _, _, hull_in hP ha, (onB_OnS h).inH hQ hc hd (by decide)⟩
    · exact ⟨_, _, _, hull_in hP hb, (onB_OnS h).inH hQ hc hd (by decide)⟩
    · exact absurd hp (sgn_opp_par h.1)
  · obtain ⟨s, hs, o1, o2⟩ := cross_on' h hp
    have hD : 0 < s * par a b c d := by rcases hs with ⟨rfl, h⟩ | ⟨rfl, h⟩ <;> omega
    exact ⟨_, _, _, OnS.inH hP ha hb hD o1, OnS.inH hQ hc hd hD o2⟩
theorem refin_ev {H : List S31} (hH : IsHull H H) (hok : allOk H = true) (hl : H.length ≤ 4096) {p : S31} (hp : okPt p = true) : ∃ t, silversideref01_in.f H p.f0 p.f1 1 = some t ∧ (t = true ↔ InH H p.f0 p.f1 1) := by
  have o := (okPt_iff _).1 hp
  have hb : Bd p.f0 p.f1 1 := ⟨by omega, by omega, by omega⟩
  refine ⟨holdsB H p.f0 p.f1 1, ?_, holds_iff hH hok hb⟩
  unfold silversideref01_in.f
  have := hH.pos
  rw [if_pos ⟨by omega, hl⟩, refin_holds (by omega) hok hb.x hb.y hb.d]
/-- what the look tells -/
def MeV (P Q : List S31) (t : Bool) (N : Prop) : Prop := (t = false ∧ N) ∨ (t = true ∧ Common P Q)
section
variable {P Q : List S31} (hP : IsHull P P) (hQ : IsHull Q Q) (okP : allOk P = true) (okQ : allOk Q = true) (lP : P.length ≤ 4096) (lQ : Q.length ≤ 4096)
include hP hQ okP okQ lP lQ
theorem me_l3 (i : Nat) (hi : i < P.length) (N : Prop) (next : ∃ t, Ev (fun k => silversideref01_Meets.l2 k P Q ((i + 1 : Nat) : Int)) t ∧ MeV P Q t N) : ∀ (m j : Nat), Q.length - j = m → j ≤ Q.length →
    ∃ t, Ev (fun k => silversideref01_Meets.l3 k P Q (i : Int) (j : Int)) t ∧ MeV P Q t ((∀ k, j ≤ k → k < Q.length → ¬ meetB (pt P i) (pt P (nxt i P.length)) (pt Q k) (pt Q (nxt k Q.length)) = true) ∧ N)
  | 0, j, hm, hj => by
    obtain ⟨t, ht, hc⟩ := next
    refine ⟨t, Ev.step (fun k => ?_) ht, ?_⟩
    · conv => lhs; unfold silversideref01_Meets.l3
      rw [if_neg (by omega), w64i (x := (i : Int) + 1) (by omega) (by omega)]
      rfl
    · rcases hc with ⟨h1, h2⟩ | h
      · exact Or.inl ⟨h1, fun k h3 h4 => by omega, h2⟩
      · exact Or.inr h
  | m + 1, j, hm, hj => by
    have hlt : j < Q.length := by omega
    have ni := nxt_lt (i := i) hP.pos
    have nj := nxt_lt (i := j) hQ.pos
    have okp : ∀ n, n < P.length → okPt (pt P n) = true := fun n hn => List.all_eq_true.1 okP _ (pt_mem P n hn)
    have okq : ∀ n, n < Q.length → okPt (pt Q n) = true := fun n hn => List.all_eq_true.1 okQ _ (pt_mem Q n hn)
    obtain ⟨t, ht, hc⟩ := me_l3 i hi N next m (j + 1) (by omega) (by omega)
    have e1 := refnext_is i P.length hi lP
    have e2 := refnext_is j Q.length hlt lQ
    rw [← nxt_mod hi] at e1
    rw [← nxt_mod hlt] at e2
    have go : ∀ (r : Bool), Ev (fun k => if meetB (pt P i) (pt P (nxt i P.length)) (pt Q j) (pt Q (nxt j Q.length)) = true then some true else silversideref01_Meets.l3 k P Q (i : Int) ((j + 1 : Nat) : Int)) r → Ev (fun k => silversideref01_Meets.l3 k P Q (i : Int) (j : Int)) r := by
      intro r hr
      have hme : Ev (fun k => silversideref01_meet.f k (pt P i).f0 (pt P i).f1 (pt P (nxt i P.length)).f0 (pt P (nxt i P.length)).f1 (pt Q j).f0 (pt Q j).f1 (pt Q (nxt j Q.length)).f0 (pt Q (nxt j Q.length)).f1) (meetB (pt P i) (pt P (nxt i P.length)) (pt Q j) (pt Q (nxt j Q.length))) :=
        Ev.step (f := fun _ => some (meetB (pt P i) (pt P (nxt i P.length)) (pt Q j) (pt Q (nxt j Q.length)))) (fun k => by rw [refmeet_is (okp i hi) (okp _ ni) (okq j hlt) (okq _ nj)]) (Ev.now _)
      refine Ev.step (f := fun k => (silversideref01_meet.f k (pt P i).f0 (pt P i).f1 (pt P (nxt i P.length)).f0 (pt P (nxt i P.length)).f1 (pt Q j).f0 (pt Q j).f1 (pt Q (nxt j Q.length)).f0 (pt Q (nxt j Q.length)).f1).bind fun t => (if t = true then some true else silversideref01_Meets.l3 k P Q (i : Int) ((j + 1 : Nat) : Int))) (fun k => ?_) (Ev.bind hme hr)
      conv => lhs; unfold silversideref01_Meets.l3
      rw [if_pos (by omega), if_pos (by omega), if_pos (by omega), e1, Option.bind_some, if_pos (by omega), if_pos (by omega), if_pos (by omega), e2, Option.bind_some, if_pos (by omega), if_pos (by omega), w64i (x := (j : Int) + 1) (by omega) (by omega)]
      rfl
    by_cases hb : meetB (pt P i) (pt P (nxt i P.length)) (pt Q j) (pt Q (nxt j Q.length)) = true
    · exact ⟨true, go _ (ev_pos hb (Ev.now _)), Or.inr ⟨rfl, meet_common hP hQ (pt_mem P i hi) (pt_mem P _ ni) (pt_mem Q j hlt) (pt_mem Q _ nj) hb⟩⟩
    · refine ⟨t, go _ (ev_neg hb ht), ?_⟩
      rcases hc with ⟨h1, h2, h3⟩ | h
      · refine Or.inl ⟨h1, fun k h4 h5 => ?_, h3⟩
        rcases Nat.lt_or_ge j k with h6 | h6
        · exact h2 k (by omega) h5
        · obtain rfl : k = j := by omega
          exact hb
      · exact Or.inr h
theorem me_l2 : ∀ (m i : Nat), P.length - i = m → i ≤ P.length →
    ∃ t, Ev (fun k => silversideref01_Meets.l2 k P Q (i : Int)) t ∧ MeV P Q t (∀ n, i ≤ n → n < P.length → ∀ k, k < Q.length → ¬ meetB (pt P n) (pt P (nxt n P.length)) (pt Q k) (pt Q (nxt k Q.length)) = true)
  | 0, i, hm, hi => by
    refine ⟨false, Ev.step (f := fun _ => some false) (fun k => ?_) (Ev.now _), Or.inl ⟨rfl, fun n h1 h2 => by omega⟩⟩
    unfold silversideref01_Meets.l2
    rw [if_neg (by omega)]
  | m + 1, i, hm, hi => by
    have hlt : i < P.length := by omega
    obtain ⟨t, ht, hc⟩ := me_l3 hP hQ okP okQ lP lQ i hlt _ (me_l2 m (i + 1) (by omega) (by omega)) Q.length 0 (by omega) (by omega)
    refine ⟨t, Ev.step (fun k => ?_) ht, ?_⟩
    · conv => lhs; unfold silversideref01_Meets.l2
      rw [if_pos (by omega)]
      rfl
    · rcases hc with ⟨h1, h2, h3⟩ | h
      · refine Or.inl ⟨h1, fun n h4 h5 k h6 => ?_⟩
        rcases Nat.lt_or_ge i n with h7 | h7
        · exact h3 n (by omega) h5 k h6
        · obtain rfl : n = i := by omega
          exact h2 k (by omega) h6
      · exact Or.inr h
theorem me_l1 (N : Prop) (next : ∃ t, Ev (fun k => silversideref01_Meets.l2 k P Q ((0 : Nat) : Int)) t ∧ MeV P Q t N) : ∀ (m j : Nat), Q.length - j = m → j ≤ Q.length →
    ∃ t, Ev (fun k => silversideref01_Meets.l1 k P Q (j : Int)) t ∧ MeV P Q t ((∀ k, j ≤ k → k < Q.length → ¬ InH P (pt Q k).f0 (pt Q k).f1 1) ∧ N)
  | 0, j, hm, hj => by
    obtain ⟨t, ht, hc⟩ := next
    refine ⟨t, Ev.step (fun k => ?_) ht, ?_⟩
    · conv => lhs; unfold silversideref01_Meets.l1
      rw [if_neg (by omega)]
      rfl
    · rcases hc with ⟨h1, h2⟩ | h
      · exact Or.inl ⟨h1, fun k h3 h4 => by omega, h2⟩
      · exact Or.inr h
  | m + 1, j, hm, hj => by
    have hlt : j < Q.length := by omega
    obtain ⟨t, ht, hc⟩ := me_l1 N next m (j + 1) (by omega) (by omega)
    obtain ⟨b, hb, hi⟩ := refin_ev hP okP lP (List.all_eq_true.1 okQ _ (pt_mem Q j hlt))
    have go : ∀ (r : Bool), Ev (fun k => if b = true then some true else silversideref01_Meets.l1 k P Q ((j + 1 : Nat) : Int)) r → Ev (fun k => silversideref01_Meets.l1 k P Q (j : Int)) r := by
      intro r hr
      refine Ev.step (fun k => ?_) hr
      conv => lhs; unfold silversideref01_Meets.l1
      rw [if_pos (by omega), if_pos (by omega), rd_pt, hb, Option.bind_some, w64i (x := (j : Int) + 1) (by omega) (by omega)]
      rfl
    by_cases h : b = true
    · exact ⟨true, go _ (ev_pos h (Ev.now _)), Or.inr ⟨rfl, _, _, _, hi.1 h, hull_in hQ (pt_mem Q j hlt)⟩⟩
    · refine ⟨t, go _ (ev_neg h ht), ?_⟩
      rcases hc with ⟨h1, h2, h3⟩ | h'
      · refine Or.inl ⟨h1, fun k h4 h5 => ?_, h3⟩
        rcases Nat.lt_or_ge j k with h6 | h6
        · exact h2 k (by omega) h5
        · obtain rfl : k = j := by omega
          exact fun h7 => h (hi.2 h7)
      · exact Or.inr h'
theorem me_l0 (N : Prop) (next : ∃ t, Ev (fun k => silversideref01_Meets.l1 k P Q ((0 : Nat) : Int)) t ∧ MeV P Q t N) : ∀ (m j : Nat), P.length - j = m → j ≤ P.length →
    ∃ t, Ev (fun k => silversideref01_Meets.l0 k P Q (j : Int)) t ∧ MeV P Q t ((∀ k, j ≤ k → k < P.length → ¬ InH Q (pt P k).f0 (pt P k).f1 1) ∧ N)
  | 0, j, hm, hj => by
    obtain ⟨t, ht, hc⟩ := next
    refine ⟨t, Ev.step (fun k => ?_) ht, ?_⟩
    · conv => lhs; unfold silversideref01_Meets.l0
      rw [if_neg (by omega)]
      rfl
    · rcases hc with ⟨h1, h2⟩ | h
      · exact Or.inl ⟨h1, fun k h3 h4 => by omega, h2⟩
      · exact Or.inr h
  | m + 1, j, hm, hj => by
    have hlt : j < P.length := by omega
    obtain ⟨t, ht, hc⟩ := me_l0 N next m (j + 1) (by omega) (by omega)
    obtain ⟨b, hb, hi⟩ := refin_ev hQ okQ lQ (List.all_eq_true.1 okP _ (pt_mem P j hlt))
    have go : ∀ (r : Bool), Ev (fun k => if b = true then some true else silversideref01_Meets.l0 k P Q ((j + 1 : Nat) : Int)) r → Ev (fun k => silversideref01_Meets.l0 k P Q (j : Int)) r := by
      intro r hr
      refine Ev.step (fun k => ?_) hr
      conv => lhs; unfold silversideref01_Meets.l0
      rw [if_pos (by omega), if_pos (by omega), rd_pt, hb, Option.bind_some, w64i (x := (j : Int) + 1) (by omega) (by omega)]
      rfl
    by_cases h : b = true
    · exact ⟨true, go _ (ev_pos h (Ev.now _)), Or.inr ⟨rfl, _, _, _, hull_in hP (pt_mem P j hlt), hi.1 h⟩⟩
    · refine ⟨t, go _ (ev_neg h ht), ?_⟩
      rcases hc with ⟨h1, h2, h3⟩ | h'
      · refine Or.inl ⟨h1, fun k h4 h5 => ?_, h3⟩
        rcases Nat.lt_or_ge j k with h6 | h6
        · exact h2 k (by omega) h5
        · obtain rfl : k = j := by omega
          exact fun h7 => h (hi.2 h7)
      · exact Or.inr h'
/-- the reference's look for a common point -/
theorem refmeets_loop : ∃ t, Ev (fun k => silversideref01_Meets.l0 k P Q 0) t ∧ (t = true ↔ Common P Q) := by
  obtain ⟨t, ht, hc⟩ := me_l0 hP hQ okP okQ lP lQ _ (me_l1 hP hQ okP okQ lP lQ _ (me_l2 hP hQ okP okQ lP lQ P.length 0 (by omega) (by omega)) Q.length 0 (by omega) (by omega)) P.length 0 (by omega) (by omega)
  refine ⟨t, ht, ?_⟩
  rcases hc with ⟨h1, h2, h3, h4⟩ | ⟨h1, h2⟩
  · refine ⟨fun h => by rw [h1] at h; simp at h, ?_⟩
    rintro ⟨X, Y, D, i1, i2⟩
    rcases found_of hP hQ i1 i2 with ⟨i, hi, h⟩ | ⟨k, hk, h⟩ | ⟨i, k, hi, hk, h5, h6⟩
    · exact absurd h (h2 i (by omega) hi)
    · exact absurd h (h3 k (by omega) hk)
    · exact absurd h6 (h4 i (by omega) hi k hk)
  · exact ⟨fun _ => h2, fun _ => h1⟩
end
theorem refmeets_ev {a b : List S31} (ha : isSetB a = true) (hb : isSetB b = true) : ∃ t, Ev (fun k => silversideref01_Meets.f k a b) t ∧ (t = true ↔ Common (cornersS a) (cornersS b)) := by
  obtain ⟨⟨a1, a2⟩, a3⟩ := (isSetB_iff a).1 ha
  obtain ⟨⟨b1, b2⟩, b3⟩ := (isSetB_iff b).1 hb
  have lP := cornersS_len a
  have lQ := cornersS_len b
  obtain ⟨t, ht, h⟩ := refmeets_loop (hull_self (corners_hull a a1)) (hull_self (corners_hull b b1)) (cornersS_ok a3) (cornersS_ok b3) (by omega) (by omega)
  have e1 : silversideref01_Hull.f a = some (cornersS a) := by unfold silversideref01_Hull.f; rw [if_pos ⟨a1, by omega, a3⟩]
  have e2 : silversideref01_Hull.f b = some (cornersS b) := by unfold silversideref01_Hull.f; rw [if_pos ⟨b1, by omega, b3⟩]
  refine ⟨t, ?_, h⟩
  unfold silversideref01_Meets.f
  exact Ev.bind (ev_is e1) (Ev.bind (ev_is e2) ht)
end Go.Proofs.Ythaklbjcjoolcaa.P
namespace Go.Proofs.Ythaklbjcjoolcaa.Pure
open Go.RowKit Go.Proofs.Ythaklbjcjoolcaa.P Go.Proofs.YthaklbjcjoolcaaW.PrintWords Go.Proofs.YthaklbjcjoolcaaW.PrintLast
theorem PlaneSeparates (l0 l1 : List S31) (_ : ∀ q ∈ l0, (Lit.int .i64 q.f0).wf = true ∧ (Lit.int .i64 q.f1).wf = true) (_ : ∀ q ∈ l1, (Lit.int .i64 q.f0).wf = true ∧ (Lit.int .i64 q.f1).wf = true) :
    ∃ k, silversidelaw01_PlaneSeparates.f k l0 l1 = some true := by
  refine Ev.rounds ?_
  unfold silversidelaw01_PlaneSeparates.f
  obtain ⟨t, ht, hl, _⟩ := some_is l0 60 (by decide)
  obtain ⟨s, hs, hl', _⟩ := some_is l1 60 (by decide)
  refine Ev.bind (ev_is ht) (Ev.bind (ev_is hs) ?_)
  by_cases h0 : isSetB t = true ∧ isSetB s = true
  · obtain ⟨v, hv, hsep⟩ := separate_ev h0.1 h0.2
    obtain ⟨m, hm, hmi⟩ := refmeets_ev h0.1 h0.2
    have hR := sep_right h0.1 h0.2 hsep
    have hk := right_kind h0.1 h0.2 hR
    have hse := set_ev t (by omega)
    have hse' := set_ev s (by omega)
    rw [h0.1] at hse
    rw [h0.2] at hse'
    refine Ev.bind hv (Ev.bind hse (ev_pos rfl (Ev.bind hse' ?_)))
    have e8 : v.2.2.2.2.2.2.2 = 0 := by rcases hsep with ⟨u, w, z, rfl, _⟩ | ⟨X, Y, D, rfl, _⟩ <;> rfl
    have hr : silversideref01_Right.f t s v.1 v.2.1 v.2.2.1 v.2.2.2.1 v.2.2.2.2.1 v.2.2.2.2.2.1 v.2.2.2.2.2.2.1 = some true := by unfold silversideref01_Right.f; rw [if_pos h0, hR]
    have he : checkV t s v.1 v.2.1 v.2.2.1 v.2.2.2.1 v.2.2.2.2.1 v.2.2.2.2.2.1 v.2.2.2.2.2.2.1 = 0 := by unfold checkV; rw [if_pos h0, if_pos hR]
    have hb : (v.1 == m) = true := by rw [beq_iff_eq, Bool.eq_iff_iff, hk, hmi]
    have hc := check_ev t s v.1 v.2.1 v.2.2.1 v.2.2.2.1 v.2.2.2.2.1 v.2.2.2.2.2.1 v.2.2.2.2.2.2.1
    rw [he] at hc
    refine Ev.step (f := fun k => (silversideref01_Right.f t s v.1 v.2.1 v.2.2.1 v.2.2.2.1 v.2.2.2.2.1 v.2.2.2.2.2.1 v.2.2.2.2.2.2.1).bind fun t490 => (if t490 = true then ((silversideref01_Meets.f k t s).bind fun t491 => (if (v.1 == t491) = true then ((plane_Check.f k t s v.1 v.2.1 v.2.2.1 v.2.2.2.1 v.2.2.2.2.1 v.2.2.2.2.2.1 v.2.2.2.2.2.2.1).bind fun t492 => (if t492 = 0 then ((silversidelaw01_awake.f k).bind fun t493 => (some t493)) else (some false))) else (some false))) else (some false))) (fun k => ?_) ?_
    · show silversidelaw01_PlaneSeparates.j0 (k + 1) t s _ (!true) _ _ _ _ _ _ _ = _
      rw [silversidelaw01_PlaneSeparates.j0, if_neg (by decide), if_pos e8]
    · exact Ev.bind (ev_is hr) (ev_pos rfl (Ev.bind hm (ev_pos hb (Ev.bind hc (ev_pos rfl awake_bind)))))
  · have hv : ∀ k, plane_Separate.f k t s = some (false, 0, 0, 0, 0, 0, 0, 2) := fun k => by unfold plane_Separate.f; rw [if_neg h0]
    have hv' : Ev (fun k => plane_Separate.f k t s) (false, 0, 0, 0, 0, 0, 0, 2) := Ev.step (f := fun _ => some (false, 0, 0, 0, 0, 0, 0, 2)) (fun k => hv (k + 1)) (Ev.now _)
    have he : checkV t s false 0 0 0 0 0 0 = 2 := if_neg h0
    have hc := check_ev t s false 0 0 0 0 0 0
    rw [he] at hc
    have hj : Ev (fun k => silversidelaw01_PlaneSeparates.j0 k t s 2 true false 0 0 0 0 0 0) true := by
      refine Ev.step (f := fun k => ((plane_Check.f k t s false 0 0 0 0 0 0).bind fun t488 => (if t488 = 2 then ((silversidelaw01_awake.f k).bind fun t489 => (some t489)) else (some false)))) (fun k => ?_) (Ev.bind hc (ev_pos rfl awake_bind))
      rw [silversidelaw01_PlaneSeparates.j0, if_pos rfl, if_pos (by decide), if_pos rfl]
    refine Ev.bind hv' (Ev.bind (set_ev t (by omega)) ?_)
    by_cases h1 : isSetB t = true
    · refine ev_pos h1 (Ev.bind (set_ev s (by omega)) ?_)
      have h2 : isSetB s = false := by
        rw [← Bool.not_eq_true]; exact fun h2 => h0 ⟨h1, h2⟩
      rw [h2]
      exact hj
    · exact ev_neg h1 hj
end Go.Proofs.Ythaklbjcjoolcaa.Pure
