/- Proved here: what functions that the law reaches compute, and plain laws of that. No conditions but those that the theorems state. Put together by a program; a part of it was printed by a program of the session's, by way of the kit's printer (wip/printplus.py, wip/mend*.py). -/
import Derived.Test.YthaklbjcjoolcaaB1
import Derived.Test.YthaklbjcjoolcaaB4
import Derived.Test.YthaklbjcjoolcaaCPlaneOnce2
import Derived.Test.YthaklbjcjoolcaaCPlaneOnce1
set_option linter.unusedVariables false
set_option linter.unusedSimpArgs false
namespace Go.Proofs.Ythaklbjcjoolcaa.P
open Go.RowKit Go.Proofs.YthaklbjcjoolcaaW.PrintWords Go.Proofs.YthaklbjcjoolcaaW.PrintLast Go.Proofs.YthaklbjcjoolcaaW.PrintMore
attribute [local go_sem] max2_int min2_int max_two min_two max_three min_three max_four min_four   -- for this text's walks alone

attribute [local go_sem high] eqA31
/-! ### silversidelaw01_same: function 34 -/
def silversidelaw01_same.l0 : Nat → List (S31) → List (S31) → Int → Option (Bool)
 | 0, _, _, _ => none
 | k + 1, x0, x1, x5 => if x5 < (x0.length : Int) then (if 0 ≤ x5 then (if x5 < (x1.length : Int) then (if (!(((rd_T31 x0 x5).f0) == ((rd_T31 x1 x5).f0)) || (!(((rd_T31 x0 x5).f1) == ((rd_T31 x1 x5).f1)))) = true then (some false) else (silversidelaw01_same.l0 k x0 x1 (wrap64 (x5 + 1)))) else (none)) else (none)) else (some true)
def silversidelaw01_same.f (k : Nat) (l0 : List (S31)) (l1 : List (S31)) : Option (Bool) := if (l0.length : Int) = (l1.length : Int) then (silversidelaw01_same.l0 k l0 l1 0) else (some false)
theorem silversidelaw01_same.mono_l : ∀ k, (∀ y0 y1 y2, LeO (silversidelaw01_same.l0 k y0 y1 y2) (silversidelaw01_same.l0 (k + 1) y0 y1 y2))
 | 0 => fun _ _ _ r h => by simp [silversidelaw01_same.l0] at h
 | k + 1 => by
  have ih0 := silversidelaw01_same.mono_l k
  ·intro y0 y1 y2
   unfold silversidelaw01_same.l0
   repeat' first
   | (with_reducible exact ih0 _ _ _)
   | (with_reducible exact LeO.refl _)
   | (with_reducible exact LeO.none _)
   | (with_reducible refine LeO.ite ?_ ?_)
   | (with_reducible refine LeO.bind ?_ (fun _ => ?_))
   | exact ih0 _ _ _
   | exact LeO.none _
   | refine LeO.ite ?_ ?_
   | refine LeO.bind ?_ (fun _ => ?_)
theorem silversidelaw01_same.mono : ∀ a0 a1 k, LeO (silversidelaw01_same.f k a0 a1) (silversidelaw01_same.f (k + 1) a0 a1) := by
 intro a0 a1 k
 have ih0 := silversidelaw01_same.mono_l k
 unfold silversidelaw01_same.f
 repeat' first
   | (with_reducible exact ih0 _ _ _)
   | (with_reducible exact LeO.refl _)
   | (with_reducible exact LeO.none _)
   | (with_reducible refine LeO.ite ?_ ?_)
   | (with_reducible refine LeO.bind ?_ (fun _ => ?_))
   | exact ih0 _ _ _
   | exact LeO.none _
   | refine LeO.ite ?_ ?_
   | refine LeO.bind ?_ (fun _ => ?_)
set_option maxHeartbeats 8000000 in
set_option maxRecDepth 100000 in
theorem silversidelaw01_same.calls (k : Nat) (A0 : Option Addr) (c0 : Nat) (l0 : List (S31)) (A1 : Option Addr) (c1 : Nat) (l1 : List (S31)) (r : Bool) (w : World) (hr0 : Kd.C k31 w A0 l0.length l0) (hc0 : l0.length ≤ c0) (hr1 : Kd.C k31 w A1 l1.length l1) (hc1 : l1.length ≤ c1) (h : silversidelaw01_same.f k l0 l1 = some r) :
  Calls Try.prog 34 #[.slice A0 l0.length c0, .slice A1 l1.length c1] w fun e w' => e = .returned (.bool r) ∧ Drawn0 w w' := by
 have hu31 := Try.underlying31
 have HR0 := Aside0.mk hr0
 have HC0 := Aside0.mk hc0
 clear hr0 hc0
 have HR1 := Aside0.mk hr1
 have HC1 := Aside0.mk hc1
 clear hr1 hc1
 have H : (if (l0.length : Int) = (l1.length : Int) then (silversidelaw01_same.l0 k l0 l1 0) else (some false)) = some r := h
 clear h
 by_cases c3 : (l0.length : Int) = (l1.length : Int)
 ·rw [if_pos c3] at H
  have c3b0 : ((l0.length : Int) == (l1.length : Int)) = true := beq_iff_eq.mpr c3
  have c3b1 : ((l0.length : Int) != (l1.length : Int)) = false := bne_eq_false_iff_eq.mpr c3
  have c3b2 : (l0.length == l1.length) = true := by first | simpa using c3 | (simp at c3 ⊢; omega)
  clear c3
  have H' := Aside0.mk H
  clear H
  go_enter Try.func34, Try.ntmps34
  go_wp2
  repeat (go_quiet (fail); try go_wp2)
  go_loopg [5] k (fun kq v5 w' => ∃ (x5_1 : Int), v5 = .int .i64 x5_1 ∧ Aside0 (silversidelaw01_same.l0 kq l0 l1 x5_1 = some r) ∧ Aside0 (kq ≤ k) ∧ Drawn0 w w')
  case atStart => exact ⟨(0), (by first | rfl | (simp; done) | (simp [*]; done)), H', ⟨Nat.le_refl _⟩, by repeat (first | exact Drawn0.refl _ | apply Drawn0.step)⟩
  case round =>
   clear H'
   try clear c1
   try clear p2
   try clear c3
   try clear c3b0
   try clear c3b1
   try clear c3b2
   obtain ⟨x5_1, rfl, HA, HK1, ⟨m1, rfl⟩⟩ := hrel
   cases gk with
   | zero => exact absurd HA.out (by simp [silversidelaw01_same.l0])
   | succ k1 =>
    have H := HA.out
    clear HA
    simp only [silversidelaw01_same.l0] at H
    by_cases c4 : x5_1 < (l0.length : Int)
    ·rw [if_pos c4] at H
     have c4b0 : decide (x5_1 < (l0.length : Int)) = true := decide_eq_true c4
     clear c4
     by_cases c5 : 0 ≤ x5_1
     ·rw [if_pos c5] at H
      have c5b0 : decide (0 ≤ x5_1) = true := decide_eq_true c5
      clear c5
      by_cases c6 : x5_1 < (l1.length : Int)
      ·rw [if_pos c6] at H
       have c6b0 : decide (x5_1 < (l1.length : Int)) = true := decide_eq_true c6
       clear c6
       by_cases c7 : (!(((rd_T31 l0 x5_1).f0) == ((rd_T31 l1 x5_1).f0)) || (!(((rd_T31 l0 x5_1).f1) == ((rd_T31 l1 x5_1).f1)))) = true
       ·rw [if_pos c7] at H
        have c7b0 : (!(((rd_T31 l0 x5_1).f0) == ((rd_T31 l1 x5_1).f0)) || (!(((rd_T31 l0 x5_1).f1) == ((rd_T31 l1 x5_1).f1)))) = true := c7
        clear c7
        obtain rfl := Option.some.inj H
        have p307 : 0 ≤ (x5_1 : Int) := of_decide_eq_true (by first | (with_reducible assumption) | assumption)
        have q307 : x5_1 < (l0.length : Int) := of_decide_eq_true (by first | (with_reducible assumption) | assumption)
        obtain ⟨ad307, e307, hx307_0, hx307_1⟩ := at_T31 HR0.out x5_1 p307 q307
        cases e307
        replace p307 := eq_true p307
        replace q307 := eq_true q307
        have p308 : 0 ≤ (x5_1 : Int) := of_decide_eq_true (by first | (with_reducible assumption) | assumption)
        have q308 : x5_1 < (l1.length : Int) := of_decide_eq_true (by first | (with_reducible assumption) | assumption)
        obtain ⟨ad308, e308, hx308_0, hx308_1⟩ := at_T31 HR1.out x5_1 p308 q308
        cases e308
        replace p308 := eq_true p308
        replace q308 := eq_true q308
        go_wp2
        repeat (go_quiet (fail); try go_wp2)
        go_ret
        exact ⟨by first | rfl | (simp; done) | (simp [*]; done), by repeat (first | exact Drawn0.refl _ | apply Drawn0.step)⟩
       ·rw [if_neg c7] at H
        have c7b0 : (!(((rd_T31 l0 x5_1).f0) == ((rd_T31 l1 x5_1).f0)) || (!(((rd_T31 l0 x5_1).f1) == ((rd_T31 l1 x5_1).f1)))) = false := by simpa using c7
        clear c7
        have H' := Aside0.mk H
        clear H
        have p307 : 0 ≤ (x5_1 : Int) := of_decide_eq_true (by first | (with_reducible assumption) | assumption)
        have q307 : x5_1 < (l0.length : Int) := of_decide_eq_true (by first | (with_reducible assumption) | assumption)
        obtain ⟨ad307, e307, hx307_0, hx307_1⟩ := at_T31 HR0.out x5_1 p307 q307
        cases e307
        replace p307 := eq_true p307
        replace q307 := eq_true q307
        have p308 : 0 ≤ (x5_1 : Int) := of_decide_eq_true (by first | (with_reducible assumption) | assumption)
        have q308 : x5_1 < (l1.length : Int) := of_decide_eq_true (by first | (with_reducible assumption) | assumption)
        obtain ⟨ad308, e308, hx308_0, hx308_1⟩ := at_T31 HR1.out x5_1 p308 q308
        cases e308
        replace p308 := eq_true p308
        replace q308 := eq_true q308
        go_wp2
        repeat (go_quiet (fail); try go_wp2)
        go_roundg k1
        case measure => have := HK1.out; omega
        case rel => exact ⟨(wrap64 (x5_1 + 1)), (by first | rfl | (simp; done) | (simp [*]; done)), H', ⟨by have := HK1.out; omega⟩, by repeat (first | exact Drawn0.refl _ | apply Drawn0.step)⟩
      ·rw [if_neg c6] at H
       exact absurd H (by simp)
     ·rw [if_neg c5] at H
      exact absurd H (by simp)
    ·rw [if_neg c4] at H
     have c4b0 : decide (x5_1 < (l0.length : Int)) = false := decide_eq_false c4
     clear c4
     obtain rfl := Option.some.inj H
     go_wp2
     repeat (go_quiet (fail); try go_wp2)
     go_ret
     exact ⟨by first | rfl | (simp; done) | (simp [*]; done), by repeat (first | exact Drawn0.refl _ | apply Drawn0.step)⟩
 rw [if_neg c3] at H
 have c3b0 : ((l0.length : Int) == (l1.length : Int)) = false := beq_eq_false_iff_ne.mpr c3
 have c3b1 : ((l0.length : Int) != (l1.length : Int)) = true := bne_iff_ne.mpr c3
 have c3b2 : (l0.length == l1.length) = false := by first | simpa using c3 | (simp at c3 ⊢; omega)
 obtain rfl := Option.some.inj H
 go_enter Try.func34, Try.ntmps34
 go_wp2
 repeat (go_quiet (fail); try go_wp2)
 go_ret
 exact ⟨by first | rfl | (simp; done) | (simp [*]; done), by repeat (first | exact Drawn0.refl _ | apply Drawn0.step)⟩

end Go.Proofs.Ythaklbjcjoolcaa.P
namespace Go.Proofs.Ythaklbjcjoolcaa.P
open Go.RowKit Go.Proofs.YthaklbjcjoolcaaW.PrintWords Go.Proofs.YthaklbjcjoolcaaW.PrintLast Go.Proofs.YthaklbjcjoolcaaW.PrintMore
theorem set_ev (l : List S31) (hl : l.length < 9223372036854775807) : Ev (fun k => silversideref01_Set.f k l) (isSetB l) := by
  unfold silversideref01_Set.f isSetB
  by_cases h1 : (l.length : Int) ≥ 1
  · refine ev_pos h1 ?_
    by_cases h2 : (l.length : Int) ≤ 512
    · refine ev_pos h2 ?_
      rw [decide_eq_true (show 1 ≤ l.length ∧ l.length ≤ 512 from ⟨by omega, by omega⟩), Bool.true_and]
      exact Ev.bind (valids_ev l hl) (Ev.now _)
    · refine ev_neg h2 ?_
      rw [decide_eq_false (show ¬ (1 ≤ l.length ∧ l.length ≤ 512) by omega), Bool.false_and]
      exact Ev.now _
  · refine ev_neg h1 ?_
    rw [decide_eq_false (show ¬ (1 ≤ l.length ∧ l.length ≤ 512) by omega), Bool.false_and]
    exact Ev.now _
theorem same_from (l : List S31) (hl : l.length < 9223372036854775807) : ∀ n i : Nat, l.length - i = n → i ≤ l.length → Ev (fun k => silversidelaw01_same.l0 k l l (i : Int)) true
  | 0, i, hn, hi => by
    refine Ev.step (f := fun _ => some true) (fun k => ?_) (Ev.now _)
    unfold silversidelaw01_same.l0
    rw [if_neg (by omega)]
  | n + 1, i, hn, hi => by
    refine Ev.step (fun k => ?_) (same_from l hl n (i + 1) (by omega) (by omega))
    conv => lhs; unfold silversidelaw01_same.l0
    rw [if_pos (by omega), if_pos (by omega), if_pos (by omega), if_neg (by simp), w64i (x := (i : Int) + 1) (by omega) (by omega)]
    rfl
theorem same_ev (l : List S31) (hl : l.length < 9223372036854775807) : Ev (fun k => silversidelaw01_same.f k l l) true := by
  unfold silversidelaw01_same.f
  exact ev_pos rfl (same_from l hl (l.length - 0) 0 rfl (by omega))
theorem hull_is {t : List S31} (hs : isSetB t = true) : plane_Hull.f t = some (cornersS t, 0) := by
  obtain ⟨⟨hs1, hs2⟩, hok⟩ := (isSetB_iff t).1 hs
  unfold plane_Hull.f plane_corners.f
  rw [isSet_is, hs, Option.bind_some, if_pos rfl, if_pos ⟨hs1, by omega, hok⟩]; rfl
theorem hull_no {t : List S31} (hs : isSetB t = false) : plane_Hull.f t = some ([], 2) := by
  unfold plane_Hull.f
  rw [isSet_is, hs]; rfl
theorem isSet_of {t : List S31} (h1 : 1 ≤ t.length) (h2 : t.length ≤ 512) (h3 : allOk t = true) : isSetB t = true := (isSetB_iff t).2 ⟨⟨h1, h2⟩, h3⟩
/-- the corners of a set are a set -/
theorem corners_set {t : List S31} (h1 : 1 ≤ t.length) (h2 : t.length ≤ 256) (h3 : allOk t = true) : isSetB (cornersS t) = true :=
  isSet_of (corners_hull t h1).pos (by have := cornersS_len t; omega) (cornersS_ok h3)
theorem lin_two (u v : Int) (p : S31) : lin (2 * u) (2 * v) p = 2 * lin u v p := by unfold lin; grind
/-- the verdict is right -/
theorem sep_right {a b : List S31} (ha : isSetB a = true) (hb : isSetB b = true) {t : Bool × Int × Int × Int × Int × Int × Int × Int} (h : SepV (cornersS a) (cornersS b) t) :
    rightB a b t.1 t.2.1 t.2.2.1 t.2.2.2.1 t.2.2.2.2.1 t.2.2.2.2.2.1 t.2.2.2.2.2.2.1 = true := by
  obtain ⟨⟨a1, a2⟩, a3⟩ := (isSetB_iff a).1 ha
  obtain ⟨⟨b1, b2⟩, b3⟩ := (isSetB_iff b).1 hb
  have hP := corners_hull a a1
  have hQ := corners_hull b b1
  rcases h with ⟨u, v, w, rfl, hu, hv, hw, h1, h2⟩ | ⟨X, Y, D, rfl, hbd, i1, i2⟩
  · obtain ⟨i, hi, hm⟩ := hull_max hP u v
    obtain ⟨j, hj, hn⟩ := hull_max hQ (-u) (-v)
    have e1 := h1 _ (pt_mem (cornersS a) i hi)
    have e2 := h2 _ (pt_mem (cornersS b) j hj)
    have A1 : (a.all fun p => decide (lin (2 * u) (2 * v) p < w)) = true := by
      rw [List.all_eq_true]
      intro p hp
      have := hm p hp
      rw [decide_eq_true_eq, lin_two]; omega
    have A2 : (b.all fun p => decide (w < lin (2 * u) (2 * v) p)) = true := by
      rw [List.all_eq_true]
      intro p hp
      have := hn p hp
      rw [lin_neg, lin_neg] at this
      rw [decide_eq_true_eq, lin_two]; omega
    show (if false = true then _ else _) = true
    rw [if_neg (by decide)]
    simp only
    rw [A1, A2, decide_eq_true (show -1073741824 ≤ 2 * u ∧ 2 * u ≤ 1073741824 by omega), decide_eq_true (show -1073741824 ≤ 2 * v ∧ 2 * v ≤ 1073741824 by omega), decide_eq_true (show -1152921504606846976 ≤ w ∧ w ≤ 1152921504606846976 by omega)]
    rfl
  · have c1 := (holds_iff (hull_self hP) (cornersS_ok a3) hbd).2 i1
    have c2 := (holds_iff (hull_self hQ) (cornersS_ok b3) hbd).2 i2
    obtain ⟨k1, k2, k3⟩ := hbd
    show (if true = true then _ else _) = true
    rw [if_pos rfl]
    simp only
    rw [c1, c2, decide_eq_true k1, decide_eq_true k2, decide_eq_true k3]
    rfl
/-- a right verdict is of the right kind -/
theorem right_kind {a b : List S31} (ha : isSetB a = true) (hb : isSetB b = true) {m : Bool} {x y d u v w : Int} (h : rightB a b m x y d u v w = true) : m = true ↔ Common (cornersS a) (cornersS b) := by
  obtain ⟨⟨a1, a2⟩, a3⟩ := (isSetB_iff a).1 ha
  obtain ⟨⟨b1, b2⟩, b3⟩ := (isSetB_iff b).1 hb
  have hP := corners_hull a a1
  have hQ := corners_hull b b1
  unfold rightB at h
  cases m with
  | true =>
    rw [if_pos rfl] at h
    simp only [Bool.and_eq_true, decide_eq_true_eq] at h
    obtain ⟨_, _, _, hd, hx, hy, c1, c2⟩ := h
    have hbd : Bd x y d := ⟨hx, hy, hd⟩
    exact ⟨fun _ => ⟨x, y, d, (holds_iff (hull_self hP) (cornersS_ok a3) hbd).1 c1, (holds_iff (hull_self hQ) (cornersS_ok b3) hbd).1 c2⟩, fun _ => rfl⟩
  | false =>
    rw [if_neg (by decide)] at h
    simp only [Bool.and_eq_true, decide_eq_true_eq, List.all_eq_true] at h
    obtain ⟨_, _, _, _, _, _, c1, c2⟩ := h
    refine ⟨fun h => by simp at h, fun hC => ?_⟩
    refine absurd hC (apt_common (hull_self hP) (hull_self hQ) (u := u) (v := v) (fun p hp q hq => ?_))
    obtain ⟨i, hi, rfl⟩ := mem_pt hp
    obtain ⟨j, hj, rfl⟩ := mem_pt hq
    have := c1 _ (hP.mem i hi)
    have := c2 _ (hQ.mem j hj)
    omega
theorem mod41 (a : Int) : ∃ m : Nat, m < 41 ∧ silversidelaw01_mod.f a 41 = some (m : Int) := by
  have e1 : IntKind.u64.wrap (41 : Int) = 41 := by decide
  have h1 : 0 ≤ IntKind.u64.wrap a := by
    unfold IntKind.wrap
    simp only [IntKind.bits, IntKind.signed]
    exact Int.emod_nonneg _ (by decide)
  unfold silversidelaw01_mod.f
  rw [e1, if_neg (by omega)]
  generalize IntKind.u64.wrap a = x at *
  rw [Int.tmod_eq_emod_of_nonneg h1]
  have h2 := Int.emod_nonneg x (show (41 : Int) ≠ 0 by decide)
  have h3 := Int.emod_lt_of_pos x (show (0 : Int) < 41 by decide)
  exact ⟨(x % 41).toNat, by omega, by rw [w64i (by omega) (by omega)]; congr 1; omega⟩
theorem grid_is (p : S31) : ∃ q : S31, silversidelaw01_grid.f p.f0 p.f1 = some (q.f0, q.f1) ∧ okPt q = true ∧ (okPt p = true → q = p) := by
  unfold silversidelaw01_grid.f
  rw [valid_is, Option.bind_some]
  by_cases h : okPt p = true
  · rw [if_pos h]; exact ⟨p, rfl, h, fun _ => rfl⟩
  · rw [if_neg h]
    obtain ⟨m, hm, e⟩ := mod41 p.f0
    obtain ⟨n, hn, e'⟩ := mod41 p.f1
    rw [e, e']
    simp only [Option.bind_some]
    rw [w64i (by omega) (by omega), w64i (by omega) (by omega)]
    exact ⟨⟨(m : Int) - 20, (n : Int) - 20⟩, rfl, (okPt_iff _).2 ⟨by simp only; omega, by simp only; omega⟩, fun h' => absurd h' h⟩
theorem allOk_snoc {l : List S31} {p : S31} (h : allOk l = true) (hp : okPt p = true) : allOk (l ++ [p]) = true := by
  unfold allOk at *
  rw [List.all_append, h, List.all_cons, hp]; rfl
/-- a set made of any list -/
theorem gset_from (l : List S31) (m : Nat) (hm : m ≤ 512) (hm1 : 1 ≤ m) : ∀ (n i : Nat) (out : List S31), l.length - i = n → i ≤ l.length → out.length = i → i ≤ m → allOk out = true →
    ∃ t : List S31, Ev (fun k => silversidelaw01_set.l0 k l (m : Int) out (i : Int)) t ∧ 1 ≤ t.length ∧ t.length ≤ m ∧ allOk t = true := by
  have fin : ∀ (i : Nat) (out : List S31), out.length = i → i ≤ m → allOk out = true → ∃ t : List S31, Ev (fun _ => if (out.length : Int) = 0 then (if out.length < 8796093022208 then (some (out ++ [(⟨0, 0⟩ : S31)])) else (none)) else (some out)) t ∧ 1 ≤ t.length ∧ t.length ≤ m ∧ allOk t = true := by
    intro i out h1 h2 h3
    by_cases h0 : out.length = 0
    · refine ⟨_, ev_pos (by omega) (ev_pos (by omega) (Ev.now _)), by simp, by simp only [List.length_append, List.length_singleton]; omega, allOk_snoc h3 (by decide)⟩
    · exact ⟨out, ev_neg (by omega) (Ev.now _), by omega, by omega, h3⟩
  intro n
  induction n with
  | zero =>
    intro i out hn hi ho him hok
    obtain ⟨t, ht, h1, h2, h3⟩ := fin i out ho him hok
    refine ⟨t, Ev.step (fun k => ?_) ht, h1, h2, h3⟩
    unfold silversidelaw01_set.l0
    rw [if_neg (by omega)]
  | succ n ih =>
    intro i out hn hi ho him hok
    have hlt : i < l.length := by omega
    by_cases h1 : i < m
    · obtain ⟨q, hq, hqo, _⟩ := grid_is l[i]
      obtain ⟨t, ht, h2, h3, h4⟩ := ih (i + 1) (out ++ [q]) (by omega) (by omega) (by rw [List.length_append, List.length_singleton, ho]) (by omega) (allOk_snoc hok hqo)
      refine ⟨t, Ev.step (fun k => ?_) ht, h2, h3, h4⟩
      conv => lhs; unfold silversidelaw01_set.l0
      rw [if_pos (by omega), if_pos (by omega), if_pos (by omega), rd_at l i hlt, hq, Option.bind_some, if_pos (by omega), w64i (x := (i : Int) + 1) (by omega) (by omega)]
      rfl
    · obtain ⟨t, ht, h2, h3, h4⟩ := fin i out ho him hok
      refine ⟨t, Ev.step (fun k => ?_) ht, h2, h3, h4⟩
      conv => lhs; unfold silversidelaw01_set.l0
      rw [if_pos (by omega), if_neg (by omega)]
theorem gset_ev (l : List S31) (m : Nat) (hm : m ≤ 512) (hm1 : 1 ≤ m) : ∃ t : List S31, Ev (fun k => silversidelaw01_set.f k l (m : Int)) t ∧ 1 ≤ t.length ∧ t.length ≤ m ∧ allOk t = true :=
  gset_from l m hm hm1 (l.length - 0) 0 [] rfl (by omega) rfl (by omega) rfl
end Go.Proofs.Ythaklbjcjoolcaa.P
namespace Go.Proofs.Ythaklbjcjoolcaa.P
open Go.ChangeShapes Go.WideShapes Go.ChangeAt Go.RowKit Go.Deep Go.Joins Go.Proofs.YthaklbjcjoolcaaW.PrintWords
set_option maxRecDepth 100000
theorem array7 {α : Type} {cs : Array α} (h : cs.size = 7) : ∃ c0 c1 c2 c3 c4 c5 c6, cs = #[c0, c1, c2, c3, c4, c5, c6] := by
  obtain ⟨l⟩ := cs
  match l, h with
  | [c0, c1, c2, c3, c4, c5, c6], _ => exact ⟨c0, c1, c2, c3, c4, c5, c6, rfl⟩
section
variable {H : Type} {enc : TypeId × Value → H} {w : World} {base : Nat} {spare : Nat → Bool} {held : Bool}
theorem one_int {n : Nat} {c : Value} {x : DataW H × List MemPlace} (h : DataW.trod enc Try.prog w base spare held n 3 [c] = some x) : ∃ i : Int, c = .int .i64 i := by
  obtain ⟨i, e, _, _⟩ := DataW.trod_int Try.underlying3 h
  simp only [List.cons.injEq, and_true] at e
  exact ⟨i, e⟩
theorem one_bool {n : Nat} {c : Value} {x : DataW H × List MemPlace} (h : DataW.trod enc Try.prog w base spare held n 4 [c] = some x) : ∃ b : Bool, c = .bool b := by
  obtain ⟨b, e, _⟩ := DataW.trod_bool Try.underlying4 h
  simp only [List.cons.injEq, and_true] at e
  exact ⟨b, e⟩
/-- a verdict that came in -/
theorem open_apart {r : Reach} {b0 : Nat} {v : Value} {d : DataW H} {p : List MemPlace} (hv : Value.okWide Try.prog w r b0 44 v) (h : DataW.Trod enc Try.prog w base spare held 44 v d p) :
    ∃ (m : Bool) (x y e u o t : Int), v = .agg #[.bool m, .int .i64 x, .int .i64 y, .int .i64 e, .int .i64 u, .int .i64 o, .int .i64 t] := by
  obtain ⟨cs, rfl, hsz⟩ := okWide_struct Try.underlying44 hv
  obtain ⟨c0, c1, c2, c3, c4, c5, c6, rfl⟩ := array7 (hsz.trans (by kernel_rfl))
  obtain ⟨fuel, hf⟩ := h
  obtain ⟨xs, n, _, _, hl, hlen, hi⟩ := DataW.trod_struct Try.underlying44 hf
  match xs, hlen with
  | [y0, y1, y2, y3, y4, y5, y6], _ =>
    obtain ⟨b, rfl⟩ := one_bool (show DataW.trod enc Try.prog w base spare held n 4 [c0] = some y0 from hi 0 _ rfl)
    obtain ⟨i1, rfl⟩ := one_int (show DataW.trod enc Try.prog w base spare held n 3 [c1] = some y1 from hi 1 _ rfl)
    obtain ⟨i2, rfl⟩ := one_int (show DataW.trod enc Try.prog w base spare held n 3 [c2] = some y2 from hi 2 _ rfl)
    obtain ⟨i3, rfl⟩ := one_int (show DataW.trod enc Try.prog w base spare held n 3 [c3] = some y3 from hi 3 _ rfl)
    obtain ⟨i4, rfl⟩ := one_int (show DataW.trod enc Try.prog w base spare held n 3 [c4] = some y4 from hi 4 _ rfl)
    obtain ⟨i5, rfl⟩ := one_int (show DataW.trod enc Try.prog w base spare held n 3 [c5] = some y5 from hi 5 _ rfl)
    obtain ⟨i6, rfl⟩ := one_int (show DataW.trod enc Try.prog w base spare held n 3 [c6] = some y6 from hi 6 _ rfl)
    exact ⟨b, i1, i2, i3, i4, i5, i6, rfl⟩
end
end Go.Proofs.Ythaklbjcjoolcaa.P
namespace Go.Proofs.Ythaklbjcjoolcaa.Pure
open Go.RowKit Go.Proofs.Ythaklbjcjoolcaa.P Go.Proofs.YthaklbjcjoolcaaW.PrintWords Go.Proofs.YthaklbjcjoolcaaW.PrintLast
theorem common_comm {P Q : List S31} : Common P Q ↔ Common Q P := ⟨fun ⟨X, Y, D, h1, h2⟩ => ⟨X, Y, D, h2, h1⟩, fun ⟨X, Y, D, h1, h2⟩ => ⟨X, Y, D, h2, h1⟩⟩
theorem PlaneOnce (l0 l1 : List S31) (m : Bool) (a b c d e g : Int) (_ : ∀ q ∈ l0, (Lit.int .i64 q.f0).wf = true ∧ (Lit.int .i64 q.f1).wf = true) (_ : ∀ q ∈ l1, (Lit.int .i64 q.f0).wf = true ∧ (Lit.int .i64 q.f1).wf = true) :
    ∃ k, silversidelaw01_PlaneOnce.f k l0 l1 m a b c d e g = some true := by
  refine Ev.rounds ?_
  unfold silversidelaw01_PlaneOnce.f
  obtain ⟨x, hx, x1, x2, x3⟩ := gset_ev l0 30 (by omega) (by omega)
  obtain ⟨y, hy, y1, y2, y3⟩ := gset_ev l1 30 (by omega) (by omega)
  have sx := isSet_of x1 (by omega) x3
  have sy := isSet_of y1 (by omega) y3
  obtain ⟨v, hv, hs⟩ := separate_ev sx sy
  obtain ⟨w, hw, hs'⟩ := separate_ev sy sx
  obtain ⟨e1, m1⟩ := sepV_meet (hull_self (corners_hull x x1)) (hull_self (corners_hull y y1)) hs
  obtain ⟨e2, m2⟩ := sepV_meet (hull_self (corners_hull y y1)) (hull_self (corners_hull x x1)) hs'
  have hb : (v.1 != w.1) = false := by
    rw [bne_eq_false_iff_eq, Bool.eq_iff_iff, m1, m2, common_comm]
  have hR := sep_right sx sy hs
  have he : checkV x y v.1 v.2.1 v.2.2.1 v.2.2.2.1 v.2.2.2.2.1 v.2.2.2.2.2.1 v.2.2.2.2.2.2.1 = 0 := by unfold checkV; rw [if_pos ⟨sx, sy⟩, if_pos hR]
  have hc := check_ev x y v.1 v.2.1 v.2.2.1 v.2.2.2.1 v.2.2.2.2.1 v.2.2.2.2.2.1 v.2.2.2.2.2.2.1
  rw [he] at hc
  have wrong : ∀ (m' : Bool) (a b c d e g : Int), m' ≠ v.1 → checkV x y m' a b c d e g = 10 := by
    intro m' a b c d e g hne
    unfold checkV
    rw [if_pos ⟨sx, sy⟩, if_neg]
    intro hr
    have := right_kind sx sy hr
    exact hne (by rw [Bool.eq_iff_iff, this, m1])
  refine Ev.bind hx (Ev.bind hy (Ev.bind hv (Ev.bind hw (ev_pos e1 (ev_pos e2 ?_)))))
  rw [hb]
  by_cases hm : v.1 = true
  · have hc' := check_ev x y false 0 0 0 d e g
    rw [wrong false 0 0 0 d e g (by rw [hm]; decide)] at hc'
    refine Ev.step (f := fun k => ((plane_Check.f k x y false 0 0 0 d e g).bind fun t545 => (if t545 = 10 then ((plane_Check.f k x y v.1 v.2.1 v.2.2.1 v.2.2.2.1 v.2.2.2.2.1 v.2.2.2.2.2.1 v.2.2.2.2.2.2.1).bind fun t546 => (if t546 = 0 then ((silversidelaw01_awake.f k).bind fun t547 => (some t547)) else (some false))) else (some false)))) (fun k => ?_) (Ev.bind hc' (ev_pos rfl (Ev.bind hc (ev_pos rfl awake_bind))))
    rw [silversidelaw01_PlaneOnce.j0, if_neg (by decide), if_pos hm]
  · have hc' := check_ev x y true a b c 0 0 0
    rw [wrong true a b c 0 0 0 (fun h => hm h.symm)] at hc'
    refine Ev.step (f := fun k => ((plane_Check.f k x y true a b c 0 0 0).bind fun t545 => (if t545 = 10 then ((plane_Check.f k x y v.1 v.2.1 v.2.2.1 v.2.2.2.1 v.2.2.2.2.1 v.2.2.2.2.2.1 v.2.2.2.2.2.2.1).bind fun t546 => (if t546 = 0 then ((silversidelaw01_awake.f k).bind fun t547 => (some t547)) else (some false))) else (some false)))) (fun k => ?_) (Ev.bind hc' (ev_pos rfl (Ev.bind hc (ev_pos rfl awake_bind))))
    rw [silversidelaw01_PlaneOnce.j0, if_neg (by decide), if_neg hm]
end Go.Proofs.Ythaklbjcjoolcaa.Pure
