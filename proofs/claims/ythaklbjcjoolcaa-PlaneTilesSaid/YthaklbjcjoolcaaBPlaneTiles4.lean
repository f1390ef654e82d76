/- Proved here: what functions that the law reaches compute, and plain laws of that. -/
import Derived.Test.YthaklbjcjoolcaaBPlaneTiles1
import Derived.Test.YthaklbjcjoolcaaBPlaneTiles3
import Derived.Outline
import Derived.Test.YthaklbjcjoolcaaBPlaneTiles2
import Derived.Test.YthaklbjcjoolcaaVPlaneTiles1
import Derived.WalkKit
import Derived.ProofKit
import Derived.OpenShut
import Derived.ChangeOld
import Derived.Below
import Derived.Carry
import Derived.Lib.SmallJoins
import Derived.Deep.SlicePairs
set_option linter.unusedVariables false
set_option linter.unusedSimpArgs false
namespace Go.Proofs.Ythaklbjcjoolcaa.P
open Go.RowKit YthaklbjcjoolcaaW.PrintWords YthaklbjcjoolcaaW.PrintLast YthaklbjcjoolcaaW.PrintMore
attribute [local go_sem] max2_int min2_int max_two min_two max_three min_three max_four min_four

mutual
def plane_common.l0 : Nat → List (S31) → List (S31) → List (S31) → Int → Int → Option (Bool × Int × Int × Int × Int × Int × Int)
 | 0, _, _, _, _, _ => none
 | k + 1, x0, x1, x13, x14, x15 => if x15 < x14 then (if 0 ≤ x15 then (if x15 < (x13.length : Int) then ((plane_holds.f x1 ((rd_T31 x13 x15).f0) ((rd_T31 x13 x15).f1) 1).bind fun t733 => (if t733 = true then (some (true, (rd_T31 x13 x15).f0, (rd_T31 x13 x15).f1, 1, 0, 0, 0)) else (plane_common.l0 k x0 x1 x13 x14 (wrap64 (x15 + 1))))) else (none)) else (none)) else (plane_common.l1 k x0 x1 x1 (x1.length : Int) 0)
def plane_common.l1 : Nat → List (S31) → List (S31) → List (S31) → Int → Int → Option (Bool × Int × Int × Int × Int × Int × Int)
 | 0, _, _, _, _, _ => none
 | k + 1, x0, x1, x31, x32, x33 => if x33 < x32 then (if 0 ≤ x33 then (if x33 < (x31.length : Int) then ((plane_holds.f x0 ((rd_T31 x31 x33).f0) ((rd_T31 x31 x33).f1) 1).bind fun t736 => (if t736 = true then (some (true, (rd_T31 x31 x33).f0, (rd_T31 x31 x33).f1, 1, 0, 0, 0)) else (plane_common.l1 k x0 x1 x31 x32 (wrap64 (x33 + 1))))) else (none)) else (none)) else (plane_common.l2 k x0 x1 (x0.length : Int) 0)
def plane_common.l2 : Nat → List (S31) → List (S31) → Int → Int → Option (Bool × Int × Int × Int × Int × Int × Int)
 | 0, _, _, _, _ => none
 | k + 1, x0, x1, x50, x51 => if x51 < x50 then (plane_common.l3 k x0 x1 x51 x50 x51 (x1.length : Int) 0) else (some (false, 0, 0, 0, 0, 0, 0))
def plane_common.l3 : Nat → List (S31) → List (S31) → Int → Int → Int → Int → Int → Option (Bool × Int × Int × Int × Int × Int × Int)
 | 0, _, _, _, _, _, _, _ => none
 | k + 1, x0, x1, x9, x50, x51, x55, x56 => if x56 < x55 then ((plane_edge.f x0 x9).bind fun bt737 => ((plane_edge.f x1 x56).bind fun bt741 => ((plane_crossing.f k bt737.1 bt737.2.1 bt737.2.2.1 bt737.2.2.2 bt741.1 bt741.2.1 bt741.2.2.1 bt741.2.2.2).bind fun bt745 => (if bt745.2.2.2.2.2.2.2 = true then (some (bt745.1, bt745.2.1, bt745.2.2.1, bt745.2.2.2.1, bt745.2.2.2.2.1, bt745.2.2.2.2.2.1, bt745.2.2.2.2.2.2.1)) else (plane_common.l3 k x0 x1 x9 x50 x51 x55 (wrap64 (x56 + 1))))))) else (plane_common.l2 k x0 x1 x50 (wrap64 (x51 + 1)))
end
def plane_common.f (k : Nat) (l0 : List (S31)) (l1 : List (S31)) : Option (Bool × Int × Int × Int × Int × Int × Int) := plane_common.l0 k l0 l1 l0 (l0.length : Int) 0
theorem plane_common.mono_l : ∀ k, (∀ y0 y1 y2 y3 y4, LeO (plane_common.l0 k y0 y1 y2 y3 y4) (plane_common.l0 (k + 1) y0 y1 y2 y3 y4)) ∧ (∀ y0 y1 y2 y3 y4, LeO (plane_common.l1 k y0 y1 y2 y3 y4) (plane_common.l1 (k + 1) y0 y1 y2 y3 y4)) ∧ (∀ y0 y1 y2 y3, LeO (plane_common.l2 k y0 y1 y2 y3) (plane_common.l2 (k + 1) y0 y1 y2 y3)) ∧ (∀ y0 y1 y2 y3 y4 y5 y6, LeO (plane_common.l3 k y0 y1 y2 y3 y4 y5 y6) (plane_common.l3 (k + 1) y0 y1 y2 y3 y4 y5 y6))
 | 0 => ⟨fun _ _ _ _ _ r h => by simp [plane_common.l0] at h, fun _ _ _ _ _ r h => by simp [plane_common.l1] at h, fun _ _ _ _ r h => by simp [plane_common.l2] at h, fun _ _ _ _ _ _ _ r h => by simp [plane_common.l3] at h⟩
 | k + 1 => by
  obtain ⟨ih0, ih1, ih2, ih3⟩ := plane_common.mono_l k
  refine ⟨?_, ?_, ?_, ?_⟩
  ·intro y0 y1 y2 y3 y4
   unfold plane_common.l0
   repeat' first
   | (with_reducible exact ih0 _ _ _ _ _)
   | (with_reducible exact ih1 _ _ _ _ _)
   | (with_reducible exact ih2 _ _ _ _)
   | (with_reducible exact ih3 _ _ _ _ _ _ _)
   | (with_reducible exact plane_crossing.mono _ _ _ _ _ _ _ _ _)
   | (with_reducible first | exact LeO.refl _ | exact LeO.none _ | refine LeO.ite ?_ ?_ | refine LeO.bind ?_ (fun _ => ?_))
   | exact ih0 _ _ _ _ _
   | exact ih1 _ _ _ _ _
   | exact ih2 _ _ _ _
   | exact ih3 _ _ _ _ _ _ _
   | exact plane_crossing.mono _ _ _ _ _ _ _ _ _
   | exact LeO.none _ | refine LeO.ite ?_ ?_ | refine LeO.bind ?_ (fun _ => ?_)
  ·intro y0 y1 y2 y3 y4
   unfold plane_common.l1
   repeat' first
   | (with_reducible exact ih0 _ _ _ _ _)
   | (with_reducible exact ih1 _ _ _ _ _)
   | (with_reducible exact ih2 _ _ _ _)
   | (with_reducible exact ih3 _ _ _ _ _ _ _)
   | (with_reducible exact plane_crossing.mono _ _ _ _ _ _ _ _ _)
   | (with_reducible first | exact LeO.refl _ | exact LeO.none _ | refine LeO.ite ?_ ?_ | refine LeO.bind ?_ (fun _ => ?_))
   | exact ih0 _ _ _ _ _
   | exact ih1 _ _ _ _ _
   | exact ih2 _ _ _ _
   | exact ih3 _ _ _ _ _ _ _
   | exact plane_crossing.mono _ _ _ _ _ _ _ _ _
   | exact LeO.none _ | refine LeO.ite ?_ ?_ | refine LeO.bind ?_ (fun _ => ?_)
  ·intro y0 y1 y2 y3
   unfold plane_common.l2
   repeat' first
   | (with_reducible exact ih0 _ _ _ _ _)
   | (with_reducible exact ih1 _ _ _ _ _)
   | (with_reducible exact ih2 _ _ _ _)
   | (with_reducible exact ih3 _ _ _ _ _ _ _)
   | (with_reducible exact plane_crossing.mono _ _ _ _ _ _ _ _ _)
   | (with_reducible first | exact LeO.refl _ | exact LeO.none _ | refine LeO.ite ?_ ?_ | refine LeO.bind ?_ (fun _ => ?_))
   | exact ih0 _ _ _ _ _
   | exact ih1 _ _ _ _ _
   | exact ih2 _ _ _ _
   | exact ih3 _ _ _ _ _ _ _
   | exact plane_crossing.mono _ _ _ _ _ _ _ _ _
   | exact LeO.none _ | refine LeO.ite ?_ ?_ | refine LeO.bind ?_ (fun _ => ?_)
  ·intro y0 y1 y2 y3 y4 y5 y6
   unfold plane_common.l3
   repeat' first
   | (with_reducible exact ih0 _ _ _ _ _)
   | (with_reducible exact ih1 _ _ _ _ _)
   | (with_reducible exact ih2 _ _ _ _)
   | (with_reducible exact ih3 _ _ _ _ _ _ _)
   | (with_reducible exact plane_crossing.mono _ _ _ _ _ _ _ _ _)
   | (with_reducible first | exact LeO.refl _ | exact LeO.none _ | refine LeO.ite ?_ ?_ | refine LeO.bind ?_ (fun _ => ?_))
   | exact ih0 _ _ _ _ _
   | exact ih1 _ _ _ _ _
   | exact ih2 _ _ _ _
   | exact ih3 _ _ _ _ _ _ _
   | exact plane_crossing.mono _ _ _ _ _ _ _ _ _
   | exact LeO.none _ | refine LeO.ite ?_ ?_ | refine LeO.bind ?_ (fun _ => ?_)
theorem plane_common.mono : ∀ a0 a1 k, LeO (plane_common.f k a0 a1) (plane_common.f (k + 1) a0 a1) := by
 intro a0 a1 k
 obtain ⟨ih0, ih1, ih2, ih3⟩ := plane_common.mono_l k
 unfold plane_common.f
 repeat' first
   | (with_reducible exact ih0 _ _ _ _ _)
   | (with_reducible exact ih1 _ _ _ _ _)
   | (with_reducible exact ih2 _ _ _ _)
   | (with_reducible exact ih3 _ _ _ _ _ _ _)
   | (with_reducible exact plane_crossing.mono _ _ _ _ _ _ _ _ _)
   | (with_reducible first | exact LeO.refl _ | exact LeO.none _ | refine LeO.ite ?_ ?_ | refine LeO.bind ?_ (fun _ => ?_))
   | exact ih0 _ _ _ _ _
   | exact ih1 _ _ _ _ _
   | exact ih2 _ _ _ _
   | exact ih3 _ _ _ _ _ _ _
   | exact plane_crossing.mono _ _ _ _ _ _ _ _ _
   | exact LeO.none _ | refine LeO.ite ?_ ?_ | refine LeO.bind ?_ (fun _ => ?_)
set_option maxHeartbeats 8000000 in
set_option maxRecDepth 100000 in
theorem plane_common.calls (k : Nat) (A0 : Option Addr) (c0 : Nat) (l0 : List (S31)) (A1 : Option Addr) (c1 : Nat) (l1 : List (S31)) (r1 : Bool) (r2 : Int) (r3 : Int) (r4 : Int) (r5 : Int) (r6 : Int) (r7 : Int) (w : World) (hr0 : Kd.C k31 w A0 l0.length l0) (hc0 : l0.length ≤ c0) (hr1 : Kd.C k31 w A1 l1.length l1) (hc1 : l1.length ≤ c1) (h : plane_common.f k l0 l1 = some (r1, r2, r3, r4, r5, r6, r7)) :
  Calls Try.prog 68 #[.slice A0 l0.length c0, .slice A1 l1.length c1] w fun e w' => e = .returned (.agg #[.bool r1, .int .i64 r2, .int .i64 r3, .int .i64 r4, .int .i64 r5, .int .i64 r6, .int .i64 r7]) ∧ Below w.heap.size w w' := by
 have hu44 := Try.underlying44
 have hu31 := Try.underlying31
 have HR0 := Aside0.mk hr0
 have HC0 := Aside0.mk hc0
 clear hr0 hc0
 have HR1 := Aside0.mk hr1
 have HC1 := Aside0.mk hc1
 clear hr1 hc1
 have HB := Aside0.mk (Below.refl w.heap.size w)
 have H : (plane_common.l0 k l0 l1 l0 (l0.length : Int) 0) = some (r1, r2, r3, r4, r5, r6, r7) := h
 clear h
 have H' := Aside0.mk H
 clear H
 go_enter Try.func68, Try.ntmps68
 go_wp2_with (first | ((with_reducible refine gate_dst (N := 4) rfl ?_); refine bxe 4 #[.bool false, .int .i64 0, .int .i64 0, .int .i64 0, .int .i64 0, .int .i64 0, .int .i64 0] 44 ?_; intro gb730 hg w3 hbox hb; have n0_ := Aside0.mk (below_step lB hb); have n1_ := Aside0.mk (hbox); have n2_ := Aside0.mk (lG (w := w) hg); have n3_ := Aside0.mk (lG (w := w) hg); clear HB; have HB := n0_; have BK730 := n1_; have GW730 := n2_; have GE730 := n3_; clear n0_ n1_ n2_ n3_; clear hb hbox hg))
 go_loopg [15] k (fun kq v15 w' => ∃ (x15_1 : Int) (x731000_1 : Bool) (x731001_1 : Int) (x731002_1 : Int) (x731003_1 : Int) (x731004_1 : Int) (x731005_1 : Int) (x731006_1 : Int), v15 = .int .i64 x15_1 ∧ Aside0 (plane_common.l0 kq l0 l1 l0 (l0.length : Int) x15_1 = some (r1, r2, r3, r4, r5, r6, r7)) ∧ Aside0 (kq ≤ k) ∧ Aside0 (w'.heap[gb730]? = some (.cells #[.bool x731000_1, .int .i64 x731001_1, .int .i64 x731002_1, .int .i64 x731003_1, .int .i64 x731004_1, .int .i64 x731005_1, .int .i64 x731006_1] 44 (0, 0))) ∧ Aside0 (Below w.heap.size w w'))
 case atStart => exact ⟨(0), (false), (0), (0), (0), (0), (0), (0), (by first | rfl | (simp; done) | (simp [*]; done)), H', ⟨Nat.le_refl _⟩, ⟨by (with_reducible repeat (first | refine kN ?_ _ | refine kD ?_ | refine kA ?_ _)); exact BK730.out⟩, ⟨by repeat (first | (with_reducible first | exact HB.out | apply lA | apply lN | apply lD | refine lS ?_ GE730.out) | exact HB.out)⟩⟩
 case round =>
  clear H'
  try clear c1
  try clear p2
  obtain ⟨x15_1, x731000_1, x731001_1, x731002_1, x731003_1, x731004_1, x731005_1, x731006_1, rfl, HA, HK1, BK730, HB⟩ := hrel
  cases gk with
  | zero => exact absurd HA.out (by simp [plane_common.l0])
  | succ k1 =>
   have H := HA.out
   clear HA
   simp only [plane_common.l0] at H
   by_cases c4 : x15_1 < (l0.length : Int)
   ·rw [if_pos c4] at H
    have c4b0 : decide (x15_1 < (l0.length : Int)) = true := decide_eq_true c4
    clear c4
    by_cases c5 : 0 ≤ x15_1
    rw [if_pos c5] at H
    have c5b0 : decide (0 ≤ x15_1) = true := decide_eq_true c5
    clear c5
    by_cases c6 : x15_1 < (l0.length : Int)
    rw [if_pos c6] at H
    have c6b0 : decide (x15_1 < (l0.length : Int)) = true := decide_eq_true c6
    clear c6
    replace H := Option.bind_eq_some_iff.mp H
    obtain ⟨t733, A70, H⟩ := H
    replace H : (if t733 = true then (some (true, (rd_T31 l0 x15_1).f0, (rd_T31 l0 x15_1).f1, 1, 0, 0, 0)) else (plane_common.l0 k1 l0 l1 l0 (l0.length : Int) (wrap64 (x15_1 + 1)))) = some (r1, r2, r3, r4, r5, r6, r7) := H
    have A7 := Aside0.mk A70
    clear A70
    by_cases c8 : t733 = true
    subst c8
    have H1 : (some (true, (rd_T31 l0 x15_1).f0, (rd_T31 l0 x15_1).f1, 1, 0, 0, 0)) = some (r1, r2, r3, r4, r5, r6, r7) := by rw [if_pos rfl] at H; exact H
    clear H
    have H := H1
    clear H1
    simp only [Option.some.injEq, Prod.mk.injEq] at H
    obtain ⟨rfl, rfl, rfl, rfl, rfl, rfl, rfl⟩ := H
    have p731 : 0 ≤ (x15_1 : Int) := of_decide_eq_true (by first | (with_reducible assumption) | assumption)
    have q731 : x15_1 < (l0.length : Int) := of_decide_eq_true (by first | (with_reducible assumption) | assumption)
    obtain ⟨ad731, e731, hx731_0, hx731_1⟩ := at_T31 HR0.out x15_1 p731 q731
    cases e731
    replace hx731_0 := cB HB.out hx731_0
    replace hx731_1 := cB HB.out hx731_1
    replace p731 := eq_true p731
    replace q731 := eq_true q731
    rotate_left 1
    replace c8 := Bool.eq_false_iff.mpr c8
    subst c8
    have H1 : (plane_common.l0 k1 l0 l1 l0 (l0.length : Int) (wrap64 (x15_1 + 1))) = some (r1, r2, r3, r4, r5, r6, r7) := by rw [if_neg (show ¬ (false = true) by decide)] at H; exact H
    clear H
    have H := H1
    clear H1
    have H' := Aside0.mk H
    clear H
    have p731 : 0 ≤ (x15_1 : Int) := of_decide_eq_true (by first | (with_reducible assumption) | assumption)
    have q731 : x15_1 < (l0.length : Int) := of_decide_eq_true (by first | (with_reducible assumption) | assumption)
    obtain ⟨ad731, e731, hx731_0, hx731_1⟩ := at_T31 HR0.out x15_1 p731 q731
    cases e731
    replace hx731_0 := cB HB.out hx731_0
    replace hx731_1 := cB HB.out hx731_1
    replace p731 := eq_true p731
    replace q731 := eq_true q731
    rotate_left 1
    rw [if_neg c6] at H
    exact absurd H (by simp)
    rw [if_neg c5] at H
    exact absurd H (by simp)
    all_goals go_wp2_with (first | ((with_reducible refine gate_dst (N := 6) rfl ?_); refine bxe 6 #[.int .i64 0, .int .i64 0] 31 ?_; intro gb732 hg wz0 hbox hb; have n0_ := Aside0.mk (blk_below (g := gb730) (o := .cells #[.bool x731000_1, .int .i64 x731001_1, .int .i64 x731002_1, .int .i64 x731003_1, .int .i64 x731004_1, .int .i64 x731005_1, .int .i64 x731006_1] 44 (0, 0)) (kX BK730.out) hb); have n1_ := Aside0.mk (below_step lB hb); have n2_ := Aside0.mk (hbox); have n3_ := Aside0.mk (lG (w := w) hg); have n4_ := Aside0.mk (lG (w := w) hg); have n5_ := Aside0.mk ((by rw [hg]; exact Nat.ne_of_lt (blk_lt (g := gb730) (o := .cells #[.bool x731000_1, .int .i64 x731001_1, .int .i64 x731002_1, .int .i64 x731003_1, .int .i64 x731004_1, .int .i64 x731005_1, .int .i64 x731006_1] 44 (0, 0)) (kX BK730.out)) : gb730 ≠ gb732)); have n6_ := Aside0.mk ((by rw [hg]; exact Nat.ne_of_gt (blk_lt (g := gb730) (o := .cells #[.bool x731000_1, .int .i64 x731001_1, .int .i64 x731002_1, .int .i64 x731003_1, .int .i64 x731004_1, .int .i64 x731005_1, .int .i64 x731006_1] 44 (0, 0)) (kX BK730.out)) : gb732 ≠ gb730)); clear BK730; clear HB; have BK730 := n0_; have HB := n1_; have BK732 := n2_; have GW732 := n3_; have GE732 := n4_; have NB730_732 := n5_; have NB732_730 := n6_; clear n0_ n1_ n2_ n3_ n4_ n5_ n6_; clear hb hbox hg; have hnb10 := NB732_730.out; have hnc10 := NB730_732.out; have hcz11_0 : wz0.cell? ⟨gb732, 0, none⟩ = some (.int .i64 0) := (blk_cell BK732.out 0).trans rfl; have hcz11_1 : wz0.cell? ⟨gb732, 1, none⟩ = some (.int .i64 0) := (blk_cell BK732.out 1).trans rfl; have hfz11_0 := blk_frozen BK732.out 0; have hfz11_1 := blk_frozen BK732.out 1) | ((with_reducible refine gate_callee (f := 88) rfl ?_); refine goesL_ (some 24) rfl rfl Try.func88 (by kernel_rfl) rfl #[.slice A1 l1.length c1, .int .i64 ((rd_T31 l0 x15_1).f0), .int .i64 ((rd_T31 l0 x15_1).f1), .int .i64 1] rfl (by (try simp only [List.map_toArray, List.map_cons, List.map_nil]); first | done | rfl | (simp only [List.length_drop, List.length_take]; rfl)) ?_; (with_reducible refine (plane_holds.calls _ _ l1 ((rd_T31 l0 x15_1).f0) ((rd_T31 l0 x15_1).f1) 1 false _ ?side1 ?side2 A7.out).mono ?_); (case side1 => exact Kd.C_below HR1.out lB); (case side2 => exact HC1.out); rintro e wz1 ⟨rfl, hb⟩; refine ⟨_, rfl, ?_⟩; have n0_ := Aside0.mk (blk_below (g := gb730) (o := .cells #[.bool x731000_1, .int .i64 x731001_1, .int .i64 x731002_1, .int .i64 x731003_1, .int .i64 x731004_1, .int .i64 x731005_1, .int .i64 x731006_1] 44 (0, 0)) (by (with_reducible repeat (first | refine kN ?_ _ | refine kD ?_ | refine kA ?_ _)); refine blk_far ?_ NB730_732.out _; (with_reducible repeat (first | refine kN ?_ _ | refine kD ?_ | refine kA ?_ _)); refine blk_far ?_ NB730_732.out _; (with_reducible repeat (first | refine kN ?_ _ | refine kD ?_ | refine kA ?_ _)); exact BK730.out) hb); have n1_ := Aside0.mk (blk_below (g := gb732) (o := .cells #[.int .i64 ((rd_T31 l0 x15_1).f0), .int .i64 ((rd_T31 l0 x15_1).f1)] 31 (0, 0)) (by (with_reducible repeat (first | refine kN ?_ _ | refine kD ?_ | refine kA ?_ _)); refine blk_put (cs := #[.int .i64 ((rd_T31 l0 x15_1).f0), .int .i64 0]) ?_ 1 _ rfl; (with_reducible repeat (first | refine kN ?_ _ | refine kD ?_ | refine kA ?_ _)); refine blk_put (cs := #[.int .i64 0, .int .i64 0]) ?_ 0 _ rfl; (with_reducible repeat (first | refine kN ?_ _ | refine kD ?_ | refine kA ?_ _)); exact BK732.out) hb); have n2_ := Aside0.mk (below_step lB hb); clear BK730; clear BK732; clear HB; have BK730 := n0_; have BK732 := n1_; have HB := n2_; clear n0_ n1_ n2_; (try clear hb); (try clear hb2); (try clear hk); (try clear hi)) | ((with_reducible refine gate_callee (f := 88) rfl ?_); refine goesL_ (some 24) rfl rfl Try.func88 (by kernel_rfl) rfl #[.slice A1 l1.length c1, .int .i64 ((rd_T31 l0 x15_1).f0), .int .i64 ((rd_T31 l0 x15_1).f1), .int .i64 1] rfl (by (try simp only [List.map_toArray, List.map_cons, List.map_nil]); first | done | rfl | (simp only [List.length_drop, List.length_take]; rfl)) ?_; (with_reducible refine (plane_holds.calls _ _ l1 ((rd_T31 l0 x15_1).f0) ((rd_T31 l0 x15_1).f1) 1 true _ ?side1 ?side2 A7.out).mono ?_); (case side1 => exact Kd.C_below HR1.out lB); (case side2 => exact HC1.out); rintro e wz1 ⟨rfl, hb⟩; refine ⟨_, rfl, ?_⟩; have n0_ := Aside0.mk (blk_below (g := gb730) (o := .cells #[.bool x731000_1, .int .i64 x731001_1, .int .i64 x731002_1, .int .i64 x731003_1, .int .i64 x731004_1, .int .i64 x731005_1, .int .i64 x731006_1] 44 (0, 0)) (by (with_reducible repeat (first | refine kN ?_ _ | refine kD ?_ | refine kA ?_ _)); refine blk_far ?_ NB730_732.out _; (with_reducible repeat (first | refine kN ?_ _ | refine kD ?_ | refine kA ?_ _)); refine blk_far ?_ NB730_732.out _; (with_reducible repeat (first | refine kN ?_ _ | refine kD ?_ | refine kA ?_ _)); exact BK730.out) hb); have n1_ := Aside0.mk (blk_below (g := gb732) (o := .cells #[.int .i64 ((rd_T31 l0 x15_1).f0), .int .i64 ((rd_T31 l0 x15_1).f1)] 31 (0, 0)) (by (with_reducible repeat (first | refine kN ?_ _ | refine kD ?_ | refine kA ?_ _)); refine blk_put (cs := #[.int .i64 ((rd_T31 l0 x15_1).f0), .int .i64 0]) ?_ 1 _ rfl; (with_reducible repeat (first | refine kN ?_ _ | refine kD ?_ | refine kA ?_ _)); refine blk_put (cs := #[.int .i64 0, .int .i64 0]) ?_ 0 _ rfl; (with_reducible repeat (first | refine kN ?_ _ | refine kD ?_ | refine kA ?_ _)); exact BK732.out) hb); have n2_ := Aside0.mk (below_step lB hb); clear BK730; clear BK732; clear HB; have BK730 := n0_; have BK732 := n1_; have HB := n2_; clear n0_ n1_ n2_; (try clear hb); (try clear hb2); (try clear hk); (try clear hi); have hcz13_0 : wz1.cell? ⟨gb732, 0, none⟩ = some (.int .i64 ((rd_T31 l0 x15_1).f0)) := (blk_cell BK732.out 0).trans rfl; have hcz13_1 : wz1.cell? ⟨gb732, 1, none⟩ = some (.int .i64 ((rd_T31 l0 x15_1).f1)) := (blk_cell BK732.out 1).trans rfl; have hfz13_0 := blk_frozen BK732.out 0; have hfz13_1 := blk_frozen BK732.out 1; have hcz14_0 : wz1.cell? ⟨gb730, 0, none⟩ = some (.bool x731000_1) := (blk_cell BK730.out 0).trans rfl; have hcz14_1 : wz1.cell? ⟨gb730, 1, none⟩ = some (.int .i64 x731001_1) := (blk_cell BK730.out 1).trans rfl; have hcz14_2 : wz1.cell? ⟨gb730, 2, none⟩ = some (.int .i64 x731002_1) := (blk_cell BK730.out 2).trans rfl; have hcz14_3 : wz1.cell? ⟨gb730, 3, none⟩ = some (.int .i64 x731003_1) := (blk_cell BK730.out 3).trans rfl; have hcz14_4 : wz1.cell? ⟨gb730, 4, none⟩ = some (.int .i64 x731004_1) := (blk_cell BK730.out 4).trans rfl; have hcz14_5 : wz1.cell? ⟨gb730, 5, none⟩ = some (.int .i64 x731005_1) := (blk_cell BK730.out 5).trans rfl; have hcz14_6 : wz1.cell? ⟨gb730, 6, none⟩ = some (.int .i64 x731006_1) := (blk_cell BK730.out 6).trans rfl; have hfz14_0 := blk_frozen BK730.out 0; have hfz14_1 := blk_frozen BK730.out 1; have hfz14_2 := blk_frozen BK730.out 2; have hfz14_3 := blk_frozen BK730.out 3; have hfz14_4 := blk_frozen BK730.out 4; have hfz14_5 := blk_frozen BK730.out 5; have hfz14_6 := blk_frozen BK730.out 6))
    all_goals first
      | (refine bodyPost_ret (results_cell_row rfl _ _ gb730 44 #[.bool true, .int .i64 ((rd_T31 l0 x15_1).f0), .int .i64 ((rd_T31 l0 x15_1).f1), .int .i64 1, .int .i64 0, .int .i64 0, .int .i64 0] (0, 0) _ rfl (by (with_reducible repeat (first | refine kN ?_ _ | refine kD ?_ | refine kA ?_ _)); refine blk_put (cs := #[.bool true, .int .i64 ((rd_T31 l0 x15_1).f0), .int .i64 ((rd_T31 l0 x15_1).f1), .int .i64 1, .int .i64 0, .int .i64 0, .int .i64 x731006_1]) ?_ 6 _ rfl; (with_reducible repeat (first | refine kN ?_ _ | refine kD ?_ | refine kA ?_ _)); refine blk_put (cs := #[.bool true, .int .i64 ((rd_T31 l0 x15_1).f0), .int .i64 ((rd_T31 l0 x15_1).f1), .int .i64 1, .int .i64 0, .int .i64 x731005_1, .int .i64 x731006_1]) ?_ 5 _ rfl; (with_reducible repeat (first | refine kN ?_ _ | refine kD ?_ | refine kA ?_ _)); refine blk_put (cs := #[.bool true, .int .i64 ((rd_T31 l0 x15_1).f0), .int .i64 ((rd_T31 l0 x15_1).f1), .int .i64 1, .int .i64 x731004_1, .int .i64 x731005_1, .int .i64 x731006_1]) ?_ 4 _ rfl; (with_reducible repeat (first | refine kN ?_ _ | refine kD ?_ | refine kA ?_ _)); refine blk_put (cs := #[.bool true, .int .i64 ((rd_T31 l0 x15_1).f0), .int .i64 ((rd_T31 l0 x15_1).f1), .int .i64 x731003_1, .int .i64 x731004_1, .int .i64 x731005_1, .int .i64 x731006_1]) ?_ 3 _ rfl; (with_reducible repeat (first | refine kN ?_ _ | refine kD ?_ | refine kA ?_ _)); refine blk_put (cs := #[.bool true, .int .i64 ((rd_T31 l0 x15_1).f0), .int .i64 x731002_1, .int .i64 x731003_1, .int .i64 x731004_1, .int .i64 x731005_1, .int .i64 x731006_1]) ?_ 2 _ rfl; (with_reducible repeat (first | refine kN ?_ _ | refine kD ?_ | refine kA ?_ _)); refine blk_put (cs := #[.bool true, .int .i64 x731001_1, .int .i64 x731002_1, .int .i64 x731003_1, .int .i64 x731004_1, .int .i64 x731005_1, .int .i64 x731006_1]) ?_ 1 _ rfl; (with_reducible repeat (first | refine kN ?_ _ | refine kD ?_ | refine kA ?_ _)); refine blk_put (cs := #[.bool x731000_1, .int .i64 x731001_1, .int .i64 x731002_1, .int .i64 x731003_1, .int .i64 x731004_1, .int .i64 x731005_1, .int .i64 x731006_1]) ?_ 0 _ rfl; (with_reducible repeat (first | refine kN ?_ _ | refine kD ?_ | refine kA ?_ _)); exact BK730.out) Try.underlying44 rfl (by kernel_rfl)) rfl ?_
         exact en)
      | (go_roundg k1
         case measure => have := HK1.out; omega
         case rel => exact ⟨(wrap64 (x15_1 + 1)), (x731000_1), (x731001_1), (x731002_1), (x731003_1), (x731004_1), (x731005_1), (x731006_1), (by first | rfl | (simp; done) | (simp [*]; done)), H', ⟨by have := HK1.out; omega⟩, ⟨by (with_reducible repeat (first | refine kN ?_ _ | refine kD ?_ | refine kA ?_ _)); exact BK730.out⟩, ⟨by repeat (first | (with_reducible first | exact HB.out | apply lA | apply lN | apply lD | refine lS ?_ GE730.out | refine lS ?_ GE732.out) | exact HB.out)⟩⟩)
   ·rw [if_neg c4] at H
    have c4b0 : decide (x15_1 < (l0.length : Int)) = false := decide_eq_false c4
    clear c4
    have H' := Aside0.mk H
    clear H
    go_wp2
    go_loopg [33] k1 (fun kq v33 w' => ∃ (x33_2 : Int) (x731000_2 : Bool) (x731001_2 : Int) (x731002_2 : Int) (x731003_2 : Int) (x731004_2 : Int) (x731005_2 : Int) (x731006_2 : Int), v33 = .int .i64 x33_2 ∧ Aside0 (plane_common.l1 kq l0 l1 l1 (l1.length : Int) x33_2 = some (r1, r2, r3, r4, r5, r6, r7)) ∧ Aside0 (kq ≤ k1) ∧ Aside0 (w'.heap[gb730]? = some (.cells #[.bool x731000_2, .int .i64 x731001_2, .int .i64 x731002_2, .int .i64 x731003_2, .int .i64 x731004_2, .int .i64 x731005_2, .int .i64 x731006_2] 44 (0, 0))) ∧ Aside0 (Below w.heap.size w w'))
    case atStart => exact ⟨(0), (x731000_1), (x731001_1), (x731002_1), (x731003_1), (x731004_1), (x731005_1), (x731006_1), (by first | rfl | (simp; done) | (simp [*]; done)), H', ⟨Nat.le_refl _⟩, ⟨by (with_reducible repeat (first | refine kN ?_ _ | refine kD ?_ | refine kA ?_ _)); exact BK730.out⟩, ⟨by repeat (first | (with_reducible first | exact HB.out | apply lA | apply lN | apply lD | refine lS ?_ GE730.out) | exact HB.out)⟩⟩
    case round =>
     clear H'
     try clear c1
     try clear p2
     try clear c4
     try clear c4b0
     try clear c5
     try clear c5b0
     try clear c6
     try clear c6b0
     try clear p6
     try clear p7
     try clear q7
     try clear hx7
     try clear c8
     try clear c10
     try clear c16
     try clear hcz11_0
     try clear hcz11_1
     try clear hcz13_0
     try clear hcz13_1
     try clear hcz14_0
     try clear hcz14_1
     try clear hcz14_2
     try clear hcz14_3
     try clear hcz14_4
     try clear hcz14_5
     try clear hcz14_6
     try clear hcz17_0
     try clear hcz17_1
     try clear hfz11_0
     try clear hfz11_1
     try clear hfz13_0
     try clear hfz13_1
     try clear hfz14_0
     try clear hfz14_1
     try clear hfz14_2
     try clear hfz14_3
     try clear hfz14_4
     try clear hfz14_5
     try clear hfz14_6
     try clear hfz17_0
     try clear hfz17_1
     try clear hx731_0
     try clear hx731_1
     try clear p2
     try clear p731
     try clear q731
     obtain ⟨x33_2, x731000_2, x731001_2, x731002_2, x731003_2, x731004_2, x731005_2, x731006_2, rfl, HA, HK2, BK730, HB⟩ := hrel
     cases gk with
     | zero => exact absurd HA.out (by simp [plane_common.l1])
     | succ k2 =>
      have H := HA.out
      clear HA
      simp only [plane_common.l1] at H
      by_cases c19 : x33_2 < (l1.length : Int)
      ·rw [if_pos c19] at H
       have c19b0 : decide (x33_2 < (l1.length : Int)) = true := decide_eq_true c19
       clear c19
       by_cases c20 : 0 ≤ x33_2
       rw [if_pos c20] at H
       have c20b0 : decide (0 ≤ x33_2) = true := decide_eq_true c20
       clear c20
       by_cases c21 : x33_2 < (l1.length : Int)
       rw [if_pos c21] at H
       have c21b0 : decide (x33_2 < (l1.length : Int)) = true := decide_eq_true c21
       clear c21
       replace H := Option.bind_eq_some_iff.mp H
       obtain ⟨t736, A220, H⟩ := H
       replace H : (if t736 = true then (some (true, (rd_T31 l1 x33_2).f0, (rd_T31 l1 x33_2).f1, 1, 0, 0, 0)) else (plane_common.l1 k2 l0 l1 l1 (l1.length : Int) (wrap64 (x33_2 + 1)))) = some (r1, r2, r3, r4, r5, r6, r7) := H
       have A22 := Aside0.mk A220
       clear A220
       by_cases c23 : t736 = true
       subst c23
       have H1 : (some (true, (rd_T31 l1 x33_2).f0, (rd_T31 l1 x33_2).f1, 1, 0, 0, 0)) = some (r1, r2, r3, r4, r5, r6, r7) := by rw [if_pos rfl] at H; exact H
       clear H
       have H := H1
       clear H1
       simp only [Option.some.injEq, Prod.mk.injEq] at H
       obtain ⟨rfl, rfl, rfl, rfl, rfl, rfl, rfl⟩ := H
       have p734 : 0 ≤ (x33_2 : Int) := of_decide_eq_true (by first | (with_reducible assumption) | assumption)
       have q734 : x33_2 < (l1.length : Int) := of_decide_eq_true (by first | (with_reducible assumption) | assumption)
       obtain ⟨ad734, e734, hx734_0, hx734_1⟩ := at_T31 HR1.out x33_2 p734 q734
       cases e734
       replace hx734_0 := cB HB.out hx734_0
       replace hx734_1 := cB HB.out hx734_1
       replace p734 := eq_true p734
       replace q734 := eq_true q734
       rotate_left 1
       replace c23 := Bool.eq_false_iff.mpr c23
       subst c23
       have H1 : (plane_common.l1 k2 l0 l1 l1 (l1.length : Int) (wrap64 (x33_2 + 1))) = some (r1, r2, r3, r4, r5, r6, r7) := by rw [if_neg (show ¬ (false = true) by decide)] at H; exact H
       clear H
       have H := H1
       clear H1
       have H' := Aside0.mk H
       clear H
       have p734 : 0 ≤ (x33_2 : Int) := of_decide_eq_true (by first | (with_reducible assumption) | assumption)
       have q734 : x33_2 < (l1.length : Int) := of_decide_eq_true (by first | (with_reducible assumption) | assumption)
       obtain ⟨ad734, e734, hx734_0, hx734_1⟩ := at_T31 HR1.out x33_2 p734 q734
       cases e734
       replace hx734_0 := cB HB.out hx734_0
       replace hx734_1 := cB HB.out hx734_1
       replace p734 := eq_true p734
       replace q734 := eq_true q734
       rotate_left 1
       rw [if_neg c21] at H
       exact absurd H (by simp)
       rw [if_neg c20] at H
       exact absurd H (by simp)
       all_goals go_wp2_with (first | ((with_reducible refine gate_dst (N := 8) rfl ?_); refine bxe 8 #[.int .i64 0, .int .i64 0] 31 ?_; intro gb735 hg wz0 hbox hb; have n0_ := Aside0.mk (blk_below (g := gb730) (o := .cells #[.bool x731000_2, .int .i64 x731001_2, .int .i64 x731002_2, .int .i64 x731003_2, .int .i64 x731004_2, .int .i64 x731005_2, .int .i64 x731006_2] 44 (0, 0)) (kX BK730.out) hb); have n1_ := Aside0.mk (below_step lB hb); have n2_ := Aside0.mk (hbox); have n3_ := Aside0.mk (lG (w := w) hg); have n4_ := Aside0.mk (lG (w := w) hg); have n5_ := Aside0.mk ((by rw [hg]; exact Nat.ne_of_lt (blk_lt (g := gb730) (o := .cells #[.bool x731000_2, .int .i64 x731001_2, .int .i64 x731002_2, .int .i64 x731003_2, .int .i64 x731004_2, .int .i64 x731005_2, .int .i64 x731006_2] 44 (0, 0)) (kX BK730.out)) : gb730 ≠ gb735)); have n6_ := Aside0.mk ((by rw [hg]; exact Nat.ne_of_gt (blk_lt (g := gb730) (o := .cells #[.bool x731000_2, .int .i64 x731001_2, .int .i64 x731002_2, .int .i64 x731003_2, .int .i64 x731004_2, .int .i64 x731005_2, .int .i64 x731006_2] 44 (0, 0)) (kX BK730.out)) : gb735 ≠ gb730)); clear BK730; clear HB; have BK730 := n0_; have HB := n1_; have BK735 := n2_; have GW735 := n3_; have GE735 := n4_; have NB730_735 := n5_; have NB735_730 := n6_; clear n0_ n1_ n2_ n3_ n4_ n5_ n6_; clear hb hbox hg; have hnb25 := NB735_730.out; have hnc25 := NB730_735.out; have hcz26_0 : wz0.cell? ⟨gb735, 0, none⟩ = some (.int .i64 0) := (blk_cell BK735.out 0).trans rfl; have hcz26_1 : wz0.cell? ⟨gb735, 1, none⟩ = some (.int .i64 0) := (blk_cell BK735.out 1).trans rfl; have hfz26_0 := blk_frozen BK735.out 0; have hfz26_1 := blk_frozen BK735.out 1) | ((with_reducible refine gate_callee (f := 88) rfl ?_); refine goesL_ (some 42) rfl rfl Try.func88 (by kernel_rfl) rfl #[.slice A0 l0.length c0, .int .i64 ((rd_T31 l1 x33_2).f0), .int .i64 ((rd_T31 l1 x33_2).f1), .int .i64 1] rfl (by (try simp only [List.map_toArray, List.map_cons, List.map_nil]); first | done | rfl | (simp only [List.length_drop, List.length_take]; rfl)) ?_; (with_reducible refine (plane_holds.calls _ _ l0 ((rd_T31 l1 x33_2).f0) ((rd_T31 l1 x33_2).f1) 1 false _ ?side1 ?side2 A22.out).mono ?_); (case side1 => exact Kd.C_below HR0.out lB); (case side2 => exact HC0.out); rintro e wz1 ⟨rfl, hb⟩; refine ⟨_, rfl, ?_⟩; have n0_ := Aside0.mk (blk_below (g := gb730) (o := .cells #[.bool x731000_2, .int .i64 x731001_2, .int .i64 x731002_2, .int .i64 x731003_2, .int .i64 x731004_2, .int .i64 x731005_2, .int .i64 x731006_2] 44 (0, 0)) (by (with_reducible repeat (first | refine kN ?_ _ | refine kD ?_ | refine kA ?_ _)); refine blk_far ?_ NB730_735.out _; (with_reducible repeat (first | refine kN ?_ _ | refine kD ?_ | refine kA ?_ _)); refine blk_far ?_ NB730_735.out _; (with_reducible repeat (first | refine kN ?_ _ | refine kD ?_ | refine kA ?_ _)); exact BK730.out) hb); have n1_ := Aside0.mk (blk_below (g := gb735) (o := .cells #[.int .i64 ((rd_T31 l1 x33_2).f0), .int .i64 ((rd_T31 l1 x33_2).f1)] 31 (0, 0)) (by (with_reducible repeat (first | refine kN ?_ _ | refine kD ?_ | refine kA ?_ _)); refine blk_put (cs := #[.int .i64 ((rd_T31 l1 x33_2).f0), .int .i64 0]) ?_ 1 _ rfl; (with_reducible repeat (first | refine kN ?_ _ | refine kD ?_ | refine kA ?_ _)); refine blk_put (cs := #[.int .i64 0, .int .i64 0]) ?_ 0 _ rfl; (with_reducible repeat (first | refine kN ?_ _ | refine kD ?_ | refine kA ?_ _)); exact BK735.out) hb); have n2_ := Aside0.mk (below_step lB hb); clear BK730; clear BK735; clear HB; have BK730 := n0_; have BK735 := n1_; have HB := n2_; clear n0_ n1_ n2_; (try clear hb); (try clear hb2); (try clear hk); (try clear hi)) | ((with_reducible refine gate_callee (f := 88) rfl ?_); refine goesL_ (some 42) rfl rfl Try.func88 (by kernel_rfl) rfl #[.slice A0 l0.length c0, .int .i64 ((rd_T31 l1 x33_2).f0), .int .i64 ((rd_T31 l1 x33_2).f1), .int .i64 1] rfl (by (try simp only [List.map_toArray, List.map_cons, List.map_nil]); first | done | rfl | (simp only [List.length_drop, List.length_take]; rfl)) ?_; (with_reducible refine (plane_holds.calls _ _ l0 ((rd_T31 l1 x33_2).f0) ((rd_T31 l1 x33_2).f1) 1 true _ ?side1 ?side2 A22.out).mono ?_); (case side1 => exact Kd.C_below HR0.out lB); (case side2 => exact HC0.out); rintro e wz1 ⟨rfl, hb⟩; refine ⟨_, rfl, ?_⟩; have n0_ := Aside0.mk (blk_below (g := gb730) (o := .cells #[.bool x731000_2, .int .i64 x731001_2, .int .i64 x731002_2, .int .i64 x731003_2, .int .i64 x731004_2, .int .i64 x731005_2, .int .i64 x731006_2] 44 (0, 0)) (by (with_reducible repeat (first | refine kN ?_ _ | refine kD ?_ | refine kA ?_ _)); refine blk_far ?_ NB730_735.out _; (with_reducible repeat (first | refine kN ?_ _ | refine kD ?_ | refine kA ?_ _)); refine blk_far ?_ NB730_735.out _; (with_reducible repeat (first | refine kN ?_ _ | refine kD ?_ | refine kA ?_ _)); exact BK730.out) hb); have n1_ := Aside0.mk (blk_below (g := gb735) (o := .cells #[.int .i64 ((rd_T31 l1 x33_2).f0), .int .i64 ((rd_T31 l1 x33_2).f1)] 31 (0, 0)) (by (with_reducible repeat (first | refine kN ?_ _ | refine kD ?_ | refine kA ?_ _)); refine blk_put (cs := #[.int .i64 ((rd_T31 l1 x33_2).f0), .int .i64 0]) ?_ 1 _ rfl; (with_reducible repeat (first | refine kN ?_ _ | refine kD ?_ | refine kA ?_ _)); refine blk_put (cs := #[.int .i64 0, .int .i64 0]) ?_ 0 _ rfl; (with_reducible repeat (first | refine kN ?_ _ | refine kD ?_ | refine kA ?_ _)); exact BK735.out) hb); have n2_ := Aside0.mk (below_step lB hb); clear BK730; clear BK735; clear HB; have BK730 := n0_; have BK735 := n1_; have HB := n2_; clear n0_ n1_ n2_; (try clear hb); (try clear hb2); (try clear hk); (try clear hi); have hcz28_0 : wz1.cell? ⟨gb735, 0, none⟩ = some (.int .i64 ((rd_T31 l1 x33_2).f0)) := (blk_cell BK735.out 0).trans rfl; have hcz28_1 : wz1.cell? ⟨gb735, 1, none⟩ = some (.int .i64 ((rd_T31 l1 x33_2).f1)) := (blk_cell BK735.out 1).trans rfl; have hfz28_0 := blk_frozen BK735.out 0; have hfz28_1 := blk_frozen BK735.out 1; have hcz29_0 : wz1.cell? ⟨gb730, 0, none⟩ = some (.bool x731000_2) := (blk_cell BK730.out 0).trans rfl; have hcz29_1 : wz1.cell? ⟨gb730, 1, none⟩ = some (.int .i64 x731001_2) := (blk_cell BK730.out 1).trans rfl; have hcz29_2 : wz1.cell? ⟨gb730, 2, none⟩ = some (.int .i64 x731002_2) := (blk_cell BK730.out 2).trans rfl; have hcz29_3 : wz1.cell? ⟨gb730, 3, none⟩ = some (.int .i64 x731003_2) := (blk_cell BK730.out 3).trans rfl; have hcz29_4 : wz1.cell? ⟨gb730, 4, none⟩ = some (.int .i64 x731004_2) := (blk_cell BK730.out 4).trans rfl; have hcz29_5 : wz1.cell? ⟨gb730, 5, none⟩ = some (.int .i64 x731005_2) := (blk_cell BK730.out 5).trans rfl; have hcz29_6 : wz1.cell? ⟨gb730, 6, none⟩ = some (.int .i64 x731006_2) := (blk_cell BK730.out 6).trans rfl; have hfz29_0 := blk_frozen BK730.out 0; have hfz29_1 := blk_frozen BK730.out 1; have hfz29_2 := blk_frozen BK730.out 2; have hfz29_3 := blk_frozen BK730.out 3; have hfz29_4 := blk_frozen BK730.out 4; have hfz29_5 := blk_frozen BK730.out 5; have hfz29_6 := blk_frozen BK730.out 6))
       all_goals first
         | (refine bodyPost_ret (results_cell_row rfl _ _ gb730 44 #[.bool true, .int .i64 ((rd_T31 l1 x33_2).f0), .int .i64 ((rd_T31 l1 x33_2).f1), .int .i64 1, .int .i64 0, .int .i64 0, .int .i64 0] (0, 0) _ rfl (by (with_reducible repeat (first | refine kN ?_ _ | refine kD ?_ | refine kA ?_ _)); refine blk_put (cs := #[.bool true, .int .i64 ((rd_T31 l1 x33_2).f0), .int .i64 ((rd_T31 l1 x33_2).f1), .int .i64 1, .int .i64 0, .int .i64 0, .int .i64 x731006_2]) ?_ 6 _ rfl; (with_reducible repeat (first | refine kN ?_ _ | refine kD ?_ | refine kA ?_ _)); refine blk_put (cs := #[.bool true, .int .i64 ((rd_T31 l1 x33_2).f0), .int .i64 ((rd_T31 l1 x33_2).f1), .int .i64 1, .int .i64 0, .int .i64 x731005_2, .int .i64 x731006_2]) ?_ 5 _ rfl; (with_reducible repeat (first | refine kN ?_ _ | refine kD ?_ | refine kA ?_ _)); refine blk_put (cs := #[.bool true, .int .i64 ((rd_T31 l1 x33_2).f0), .int .i64 ((rd_T31 l1 x33_2).f1), .int .i64 1, .int .i64 x731004_2, .int .i64 x731005_2, .int .i64 x731006_2]) ?_ 4 _ rfl; (with_reducible repeat (first | refine kN ?_ _ | refine kD ?_ | refine kA ?_ _)); refine blk_put (cs := #[.bool true, .int .i64 ((rd_T31 l1 x33_2).f0), .int .i64 ((rd_T31 l1 x33_2).f1), .int .i64 x731003_2, .int .i64 x731004_2, .int .i64 x731005_2, .int .i64 x731006_2]) ?_ 3 _ rfl; (with_reducible repeat (first | refine kN ?_ _ | refine kD ?_ | refine kA ?_ _)); refine blk_put (cs := #[.bool true, .int .i64 ((rd_T31 l1 x33_2).f0), .int .i64 x731002_2, .int .i64 x731003_2, .int .i64 x731004_2, .int .i64 x731005_2, .int .i64 x731006_2]) ?_ 2 _ rfl; (with_reducible repeat (first | refine kN ?_ _ | refine kD ?_ | refine kA ?_ _)); refine blk_put (cs := #[.bool true, .int .i64 x731001_2, .int .i64 x731002_2, .int .i64 x731003_2, .int .i64 x731004_2, .int .i64 x731005_2, .int .i64 x731006_2]) ?_ 1 _ rfl; (with_reducible repeat (first | refine kN ?_ _ | refine kD ?_ | refine kA ?_ _)); refine blk_put (cs := #[.bool x731000_2, .int .i64 x731001_2, .int .i64 x731002_2, .int .i64 x731003_2, .int .i64 x731004_2, .int .i64 x731005_2, .int .i64 x731006_2]) ?_ 0 _ rfl; (with_reducible repeat (first | refine kN ?_ _ | refine kD ?_ | refine kA ?_ _)); exact BK730.out) Try.underlying44 rfl (by kernel_rfl)) rfl ?_
            exact en)
         | (go_roundg k2
            case measure => have := HK1.out; have := HK2.out; omega
            case rel => exact ⟨(wrap64 (x33_2 + 1)), (x731000_2), (x731001_2), (x731002_2), (x731003_2), (x731004_2), (x731005_2), (x731006_2), (by first | rfl | (simp; done) | (simp [*]; done)), H', ⟨by have := HK1.out; have := HK2.out; omega⟩, ⟨by (with_reducible repeat (first | refine kN ?_ _ | refine kD ?_ | refine kA ?_ _)); exact BK730.out⟩, ⟨by repeat (first | (with_reducible first | exact HB.out | apply lA | apply lN | apply lD | refine lS ?_ GE730.out | refine lS ?_ GE735.out) | exact HB.out)⟩⟩)
      ·rw [if_neg c19] at H
       have c19b0 : decide (x33_2 < (l1.length : Int)) = false := decide_eq_false c19
       clear c19
       have H' := Aside0.mk H
       clear H
       go_wp2
       go_loopg [51] k2 (fun kq v51 w' => ∃ (x51_3 : Int) (x731000_3 : Bool) (x731001_3 : Int) (x731002_3 : Int) (x731003_3 : Int) (x731004_3 : Int) (x731005_3 : Int) (x731006_3 : Int), v51 = .int .i64 x51_3 ∧ Aside0 (plane_common.l2 kq l0 l1 (l0.length : Int) x51_3 = some (r1, r2, r3, r4, r5, r6, r7)) ∧ Aside0 (kq ≤ k2) ∧ Aside0 (w'.heap[gb730]? = some (.cells #[.bool x731000_3, .int .i64 x731001_3, .int .i64 x731002_3, .int .i64 x731003_3, .int .i64 x731004_3, .int .i64 x731005_3, .int .i64 x731006_3] 44 (0, 0))) ∧ Aside0 (Below w.heap.size w w'))
       case atStart => exact ⟨(0), (x731000_2), (x731001_2), (x731002_2), (x731003_2), (x731004_2), (x731005_2), (x731006_2), (by first | rfl | (simp; done) | (simp [*]; done)), H', ⟨Nat.le_refl _⟩, ⟨by (with_reducible repeat (first | refine kN ?_ _ | refine kD ?_ | refine kA ?_ _)); exact BK730.out⟩, ⟨by repeat (first | (with_reducible first | exact HB.out | apply lA | apply lN | apply lD | refine lS ?_ GE730.out) | exact HB.out)⟩⟩
       case round =>
        clear H'
        try clear c1
        try clear c2
        try clear p2
        try clear c3
        try clear c4
        try clear c4b0
        try clear c5
        try clear c5b0
        try clear c6
        try clear c6b0
        try clear p6
        try clear p7
        try clear q7
        try clear hx7
        try clear c8
        try clear c10
        try clear c16
        try clear c19
        try clear c19b0
        try clear c20
        try clear c20b0
        try clear c21
        try clear c21b0
        try clear c23
        try clear c25
        try clear c31
        try clear hcz11_0
        try clear hcz11_1
        try clear hcz13_0
        try clear hcz13_1
        try clear hcz14_0
        try clear hcz14_1
        try clear hcz14_2
        try clear hcz14_3
        try clear hcz14_4
        try clear hcz14_5
        try clear hcz14_6
        try clear hcz17_0
        try clear hcz17_1
        try clear hcz26_0
        try clear hcz26_1
        try clear hcz28_0
        try clear hcz28_1
        try clear hcz29_0
        try clear hcz29_1
        try clear hcz29_2
        try clear hcz29_3
        try clear hcz29_4
        try clear hcz29_5
        try clear hcz29_6
        try clear hcz32_0
        try clear hcz32_1
        try clear hfz11_0
        try clear hfz11_1
        try clear hfz13_0
        try clear hfz13_1
        try clear hfz14_0
        try clear hfz14_1
        try clear hfz14_2
        try clear hfz14_3
        try clear hfz14_4
        try clear hfz14_5
        try clear hfz14_6
        try clear hfz17_0
        try clear hfz17_1
        try clear hfz26_0
        try clear hfz26_1
        try clear hfz28_0
        try clear hfz28_1
        try clear hfz29_0
        try clear hfz29_1
        try clear hfz29_2
        try clear hfz29_3
        try clear hfz29_4
        try clear hfz29_5
        try clear hfz29_6
        try clear hfz32_0
        try clear hfz32_1
        try clear hx731_0
        try clear hx731_1
        try clear hx734_0
        try clear hx734_1
        try clear p2
        try clear p6
        try clear p7
        try clear p731
        try clear p734
        try clear q7
        try clear q731
        try clear q734
        obtain ⟨x51_3, x731000_3, x731001_3, x731002_3, x731003_3, x731004_3, x731005_3, x731006_3, rfl, HA, HK3, BK730, HB⟩ := hrel
        cases gk with
        | zero => exact absurd HA.out (by simp [plane_common.l2])
        | succ k3 =>
         have H := HA.out
         clear HA
         simp only [plane_common.l2] at H
         by_cases c34 : x51_3 < (l0.length : Int)
         ·rw [if_pos c34] at H
          have c34b0 : decide (x51_3 < (l0.length : Int)) = true := decide_eq_true c34
          clear c34
          have H' := Aside0.mk H
          clear H
          go_wp2
          go_loopg [56] k3 (fun kq v56 w' => ∃ (x56_4 : Int) (x731000_4 : Bool) (x731001_4 : Int) (x731002_4 : Int) (x731003_4 : Int) (x731004_4 : Int) (x731005_4 : Int) (x731006_4 : Int), v56 = .int .i64 x56_4 ∧ Aside0 (plane_common.l3 kq l0 l1 x51_3 (l0.length : Int) x51_3 (l1.length : Int) x56_4 = some (r1, r2, r3, r4, r5, r6, r7)) ∧ Aside0 (kq ≤ k3) ∧ Aside0 (w'.heap[gb730]? = some (.cells #[.bool x731000_4, .int .i64 x731001_4, .int .i64 x731002_4, .int .i64 x731003_4, .int .i64 x731004_4, .int .i64 x731005_4, .int .i64 x731006_4] 44 (0, 0))) ∧ Aside0 (Below w.heap.size w w'))
          case atStart => exact ⟨(0), (x731000_3), (x731001_3), (x731002_3), (x731003_3), (x731004_3), (x731005_3), (x731006_3), (by first | rfl | (simp; done) | (simp [*]; done)), H', ⟨Nat.le_refl _⟩, ⟨by (with_reducible repeat (first | refine kN ?_ _ | refine kD ?_ | refine kA ?_ _)); exact BK730.out⟩, ⟨by repeat (first | (with_reducible first | exact HB.out | apply lA | apply lN | apply lD | refine lS ?_ GE730.out) | exact HB.out)⟩⟩
          case round =>
           clear H'
           try clear c1
           try clear c2
           try clear p2
           try clear c3
           try clear c4
           try clear c4b0
           try clear c5
           try clear c5b0
           try clear c6
           try clear c6b0
           try clear p6
           try clear p7
           try clear q7
           try clear hx7
           try clear c8
           try clear c10
           try clear c16
           try clear c19
           try clear c19b0
           try clear c20
           try clear c20b0
           try clear c21
           try clear c21b0
           try clear c23
           try clear c25
           try clear c31
           try clear c34
           try clear c34b0
           try clear hcz11_0
           try clear hcz11_1
           try clear hcz13_0
           try clear hcz13_1
           try clear hcz14_0
           try clear hcz14_1
           try clear hcz14_2
           try clear hcz14_3
           try clear hcz14_4
           try clear hcz14_5
           try clear hcz14_6
           try clear hcz17_0
           try clear hcz17_1
           try clear hcz26_0
           try clear hcz26_1
           try clear hcz28_0
           try clear hcz28_1
           try clear hcz29_0
           try clear hcz29_1
           try clear hcz29_2
           try clear hcz29_3
           try clear hcz29_4
           try clear hcz29_5
           try clear hcz29_6
           try clear hcz32_0
           try clear hcz32_1
           try clear hfz11_0
           try clear hfz11_1
           try clear hfz13_0
           try clear hfz13_1
           try clear hfz14_0
           try clear hfz14_1
           try clear hfz14_2
           try clear hfz14_3
           try clear hfz14_4
           try clear hfz14_5
           try clear hfz14_6
           try clear hfz17_0
           try clear hfz17_1
           try clear hfz26_0
           try clear hfz26_1
           try clear hfz28_0
           try clear hfz28_1
           try clear hfz29_0
           try clear hfz29_1
           try clear hfz29_2
           try clear hfz29_3
           try clear hfz29_4
           try clear hfz29_5
           try clear hfz29_6
           try clear hfz32_0
           try clear hfz32_1
           try clear hx731_0
           try clear hx731_1
           try clear hx734_0
           try clear hx734_1
           try clear p2
           try clear p6
           try clear p7
           try clear p731
           try clear p734
           try clear q7
           try clear q731
           try clear q734
           obtain ⟨x56_4, x731000_4, x731001_4, x731002_4, x731003_4, x731004_4, x731005_4, x731006_4, rfl, HA, HK4, BK730, HB⟩ := hrel
           cases gk with
           | zero => exact absurd HA.out (by simp [plane_common.l3])
           | succ k4 =>
            have H := HA.out
            clear HA
            simp only [plane_common.l3] at H
            by_cases c35 : x56_4 < (l1.length : Int)
            rw [if_pos c35] at H
            have c35b0 : decide (x56_4 < (l1.length : Int)) = true := decide_eq_true c35
            clear c35
            replace H := Option.bind_eq_some_iff.mp H
            obtain ⟨⟨t737, t738, t739, t740⟩, A360, H⟩ := H
            replace H : ((plane_edge.f l1 x56_4).bind fun bt741 => ((plane_crossing.f k4 t737 t738 t739 t740 bt741.1 bt741.2.1 bt741.2.2.1 bt741.2.2.2).bind fun bt745 => (if bt745.2.2.2.2.2.2.2 = true then (some (bt745.1, bt745.2.1, bt745.2.2.1, bt745.2.2.2.1, bt745.2.2.2.2.1, bt745.2.2.2.2.2.1, bt745.2.2.2.2.2.2.1)) else (plane_common.l3 k4 l0 l1 x51_3 (l0.length : Int) x51_3 (l1.length : Int) (wrap64 (x56_4 + 1)))))) = some (r1, r2, r3, r4, r5, r6, r7) := H
            have A36 := Aside0.mk A360
            clear A360
            replace H := Option.bind_eq_some_iff.mp H
            obtain ⟨⟨t741, t742, t743, t744⟩, A370, H⟩ := H
            replace H : ((plane_crossing.f k4 t737 t738 t739 t740 t741 t742 t743 t744).bind fun bt745 => (if bt745.2.2.2.2.2.2.2 = true then (some (bt745.1, bt745.2.1, bt745.2.2.1, bt745.2.2.2.1, bt745.2.2.2.2.1, bt745.2.2.2.2.2.1, bt745.2.2.2.2.2.2.1)) else (plane_common.l3 k4 l0 l1 x51_3 (l0.length : Int) x51_3 (l1.length : Int) (wrap64 (x56_4 + 1))))) = some (r1, r2, r3, r4, r5, r6, r7) := H
            have A37 := Aside0.mk A370
            clear A370
            replace H := Option.bind_eq_some_iff.mp H
            obtain ⟨⟨t745, t746, t747, t748, t749, t750, t751, t752⟩, A380, H⟩ := H
            replace H : (if t752 = true then (some (t745, t746, t747, t748, t749, t750, t751)) else (plane_common.l3 k4 l0 l1 x51_3 (l0.length : Int) x51_3 (l1.length : Int) (wrap64 (x56_4 + 1)))) = some (r1, r2, r3, r4, r5, r6, r7) := H
            have A38 := Aside0.mk A380
            clear A380
            by_cases c39 : t752 = true
            subst c39
            have H1 : (some (t745, t746, t747, t748, t749, t750, t751)) = some (r1, r2, r3, r4, r5, r6, r7) := by rw [if_pos rfl] at H; exact H
            clear H
            have H := H1
            clear H1
            simp only [Option.some.injEq, Prod.mk.injEq] at H
            obtain ⟨rfl, rfl, rfl, rfl, rfl, rfl, rfl⟩ := H
            rotate_left 1
            replace c39 := Bool.eq_false_iff.mpr c39
            subst c39
            have H1 : (plane_common.l3 k4 l0 l1 x51_3 (l0.length : Int) x51_3 (l1.length : Int) (wrap64 (x56_4 + 1))) = some (r1, r2, r3, r4, r5, r6, r7) := by rw [if_neg (show ¬ (false = true) by decide)] at H; exact H
            clear H
            have H := H1
            clear H1
            have H' := Aside0.mk H
            clear H
            rotate_left 1
            rw [if_neg c35] at H
            have c35b0 : decide (x56_4 < (l1.length : Int)) = false := decide_eq_false c35
            clear c35
            have H' := Aside0.mk H
            clear H
            all_goals go_wp2_with (first | ((with_reducible refine gate_callee (f := 56) rfl ?_); refine goesL_ (some 62) rfl rfl Try.func56 (by kernel_rfl) rfl #[.slice A0 l0.length c0, .int .i64 x51_3] rfl (by (try simp only [List.map_toArray, List.map_cons, List.map_nil]); first | done | rfl | (simp only [List.length_drop, List.length_take]; rfl)) ?_; (with_reducible refine (plane_edge.calls _ _ l0 x51_3 t737 t738 t739 t740 _ ?side1 ?side2 A36.out).mono ?_); (case side1 => repeat (first | exact (Kd.C_below HR0.out HB.out) | (with_reducible refine Kd.C_alloc ?_ _) | (with_reducible refine Kd.C_drewN ?_ _) | (with_reducible refine Kd.C_drew ?_))); (case side2 => exact HC0.out); rintro e wz0 ⟨rfl, hb⟩; refine ⟨_, rfl, ?_⟩; have n0_ := Aside0.mk (blk_below (g := gb730) (o := .cells #[.bool x731000_4, .int .i64 x731001_4, .int .i64 x731002_4, .int .i64 x731003_4, .int .i64 x731004_4, .int .i64 x731005_4, .int .i64 x731006_4] 44 (0, 0)) (kX BK730.out) hb); have n1_ := Aside0.mk (below_step lB hb); clear BK730; clear HB; have BK730 := n0_; have HB := n1_; clear n0_ n1_; (try clear hb); (try clear hb2); (try clear hk); (try clear hi)) | ((with_reducible refine gate_callee (f := 56) rfl ?_); refine goesL_ (some 65) rfl rfl Try.func56 (by kernel_rfl) rfl #[.slice A1 l1.length c1, .int .i64 x56_4] rfl (by (try simp only [List.map_toArray, List.map_cons, List.map_nil]); first | done | rfl | (simp only [List.length_drop, List.length_take]; rfl)) ?_; (with_reducible refine (plane_edge.calls _ _ l1 x56_4 t741 t742 t743 t744 _ ?side1 ?side2 A37.out).mono ?_); (case side1 => repeat (first | exact (Kd.C_below HR1.out HB.out) | (with_reducible refine Kd.C_alloc ?_ _) | (with_reducible refine Kd.C_drewN ?_ _) | (with_reducible refine Kd.C_drew ?_))); (case side2 => exact HC1.out); rintro e wz1 ⟨rfl, hb⟩; refine ⟨_, rfl, ?_⟩; have n0_ := Aside0.mk (blk_below (g := gb730) (o := .cells #[.bool x731000_4, .int .i64 x731001_4, .int .i64 x731002_4, .int .i64 x731003_4, .int .i64 x731004_4, .int .i64 x731005_4, .int .i64 x731006_4] 44 (0, 0)) (kX BK730.out) hb); have n1_ := Aside0.mk (below_step lB hb); clear BK730; clear HB; have BK730 := n0_; have HB := n1_; clear n0_ n1_; (try clear hb); (try clear hb2); (try clear hk); (try clear hi)) | ((with_reducible refine gate_callee (f := 89) rfl ?_); refine goesL_ (some 66) rfl rfl Try.func89 (by kernel_rfl) rfl #[.agg #[.int .i64 t737, .int .i64 t738, .int .i64 t739, .int .i64 t740], .agg #[.int .i64 t741, .int .i64 t742, .int .i64 t743, .int .i64 t744]] rfl (by (try simp only [List.map_toArray, List.map_cons, List.map_nil]); first | done | rfl | (simp only [List.length_drop, List.length_take]; rfl)) ?_; (with_reducible refine (plane_crossing.calls k4 t737 t738 t739 t740 t741 t742 t743 t744 t745 t746 t747 t748 t749 t750 t751 false _ A38.out).mono ?_); rintro e wz2 ⟨rfl, hb⟩; refine ⟨_, rfl, ?_⟩; have n0_ := Aside0.mk (blk_below (g := gb730) (o := .cells #[.bool x731000_4, .int .i64 x731001_4, .int .i64 x731002_4, .int .i64 x731003_4, .int .i64 x731004_4, .int .i64 x731005_4, .int .i64 x731006_4] 44 (0, 0)) (kX BK730.out) hb); have n1_ := Aside0.mk (below_step lB hb); clear BK730; clear HB; have BK730 := n0_; have HB := n1_; clear n0_ n1_; (try clear hb); (try clear hb2); (try clear hk); (try clear hi)) | ((with_reducible refine gate_callee (f := 89) rfl ?_); refine goesL_ (some 66) rfl rfl Try.func89 (by kernel_rfl) rfl #[.agg #[.int .i64 t737, .int .i64 t738, .int .i64 t739, .int .i64 t740], .agg #[.int .i64 t741, .int .i64 t742, .int .i64 t743, .int .i64 t744]] rfl (by (try simp only [List.map_toArray, List.map_cons, List.map_nil]); first | done | rfl | (simp only [List.length_drop, List.length_take]; rfl)) ?_; (with_reducible refine (plane_crossing.calls k4 t737 t738 t739 t740 t741 t742 t743 t744 t745 t746 t747 t748 t749 t750 t751 true _ A38.out).mono ?_); rintro e wz2 ⟨rfl, hb⟩; refine ⟨_, rfl, ?_⟩; have n0_ := Aside0.mk (blk_below (g := gb730) (o := .cells #[.bool x731000_4, .int .i64 x731001_4, .int .i64 x731002_4, .int .i64 x731003_4, .int .i64 x731004_4, .int .i64 x731005_4, .int .i64 x731006_4] 44 (0, 0)) (kX BK730.out) hb); have n1_ := Aside0.mk (below_step lB hb); clear BK730; clear HB; have BK730 := n0_; have HB := n1_; clear n0_ n1_; (try clear hb); (try clear hb2); (try clear hk); (try clear hi)) | ((with_reducible refine gate_dst (N := 11) rfl ?_); refine bxe 11 #[.bool false, .int .i64 0, .int .i64 0, .int .i64 0, .int .i64 0, .int .i64 0, .int .i64 0] 44 ?_; intro gb753 hg wz3 hbox hb; have n0_ := Aside0.mk (blk_below (g := gb730) (o := .cells #[.bool x731000_4, .int .i64 x731001_4, .int .i64 x731002_4, .int .i64 x731003_4, .int .i64 x731004_4, .int .i64 x731005_4, .int .i64 x731006_4] 44 (0, 0)) (kX BK730.out) hb); have n1_ := Aside0.mk (below_step lB hb); have n2_ := Aside0.mk (hbox); have n3_ := Aside0.mk (lG (w := w) hg); have n4_ := Aside0.mk (lG (w := w) hg); have n5_ := Aside0.mk ((by rw [hg]; exact Nat.ne_of_lt (blk_lt (g := gb730) (o := .cells #[.bool x731000_4, .int .i64 x731001_4, .int .i64 x731002_4, .int .i64 x731003_4, .int .i64 x731004_4, .int .i64 x731005_4, .int .i64 x731006_4] 44 (0, 0)) (kX BK730.out)) : gb730 ≠ gb753)); have n6_ := Aside0.mk ((by rw [hg]; exact Nat.ne_of_gt (blk_lt (g := gb730) (o := .cells #[.bool x731000_4, .int .i64 x731001_4, .int .i64 x731002_4, .int .i64 x731003_4, .int .i64 x731004_4, .int .i64 x731005_4, .int .i64 x731006_4] 44 (0, 0)) (kX BK730.out)) : gb753 ≠ gb730)); clear BK730; clear HB; have BK730 := n0_; have HB := n1_; have BK753 := n2_; have GW753 := n3_; have GE753 := n4_; have NB730_753 := n5_; have NB753_730 := n6_; clear n0_ n1_ n2_ n3_ n4_ n5_ n6_; clear hb hbox hg; have hnb44 := NB753_730.out; have hnc44 := NB730_753.out; have hcz45_0 : wz3.cell? ⟨gb753, 0, none⟩ = some (.bool false) := (blk_cell BK753.out 0).trans rfl; have hcz45_1 : wz3.cell? ⟨gb753, 1, none⟩ = some (.int .i64 0) := (blk_cell BK753.out 1).trans rfl; have hcz45_2 : wz3.cell? ⟨gb753, 2, none⟩ = some (.int .i64 0) := (blk_cell BK753.out 2).trans rfl; have hcz45_3 : wz3.cell? ⟨gb753, 3, none⟩ = some (.int .i64 0) := (blk_cell BK753.out 3).trans rfl; have hcz45_4 : wz3.cell? ⟨gb753, 4, none⟩ = some (.int .i64 0) := (blk_cell BK753.out 4).trans rfl; have hcz45_5 : wz3.cell? ⟨gb753, 5, none⟩ = some (.int .i64 0) := (blk_cell BK753.out 5).trans rfl; have hcz45_6 : wz3.cell? ⟨gb753, 6, none⟩ = some (.int .i64 0) := (blk_cell BK753.out 6).trans rfl; have hfz45_0 := blk_frozen BK753.out 0; have hfz45_1 := blk_frozen BK753.out 1; have hfz45_2 := blk_frozen BK753.out 2; have hfz45_3 := blk_frozen BK753.out 3; have hfz45_4 := blk_frozen BK753.out 4; have hfz45_5 := blk_frozen BK753.out 5; have hfz45_6 := blk_frozen BK753.out 6; have hcz46_0 : wz3.cell? ⟨gb730, 0, none⟩ = some (.bool x731000_4) := (blk_cell BK730.out 0).trans rfl; have hcz46_1 : wz3.cell? ⟨gb730, 1, none⟩ = some (.int .i64 x731001_4) := (blk_cell BK730.out 1).trans rfl; have hcz46_2 : wz3.cell? ⟨gb730, 2, none⟩ = some (.int .i64 x731002_4) := (blk_cell BK730.out 2).trans rfl; have hcz46_3 : wz3.cell? ⟨gb730, 3, none⟩ = some (.int .i64 x731003_4) := (blk_cell BK730.out 3).trans rfl; have hcz46_4 : wz3.cell? ⟨gb730, 4, none⟩ = some (.int .i64 x731004_4) := (blk_cell BK730.out 4).trans rfl; have hcz46_5 : wz3.cell? ⟨gb730, 5, none⟩ = some (.int .i64 x731005_4) := (blk_cell BK730.out 5).trans rfl; have hcz46_6 : wz3.cell? ⟨gb730, 6, none⟩ = some (.int .i64 x731006_4) := (blk_cell BK730.out 6).trans rfl; have hfz46_0 := blk_frozen BK730.out 0; have hfz46_1 := blk_frozen BK730.out 1; have hfz46_2 := blk_frozen BK730.out 2; have hfz46_3 := blk_frozen BK730.out 3; have hfz46_4 := blk_frozen BK730.out 4; have hfz46_5 := blk_frozen BK730.out 5; have hfz46_6 := blk_frozen BK730.out 6))
            all_goals first
              | (refine bodyPost_ret (results_cell_row rfl _ _ gb730 44 #[.bool t745, .int .i64 t746, .int .i64 t747, .int .i64 t748, .int .i64 t749, .int .i64 t750, .int .i64 t751] (0, 0) _ rfl (by (with_reducible repeat (first | refine kN ?_ _ | refine kD ?_ | refine kA ?_ _)); refine blk_put (cs := #[.bool t745, .int .i64 t746, .int .i64 t747, .int .i64 t748, .int .i64 t749, .int .i64 t750, .int .i64 x731006_4]) ?_ 6 _ rfl; (with_reducible repeat (first | refine kN ?_ _ | refine kD ?_ | refine kA ?_ _)); refine blk_put (cs := #[.bool t745, .int .i64 t746, .int .i64 t747, .int .i64 t748, .int .i64 t749, .int .i64 x731005_4, .int .i64 x731006_4]) ?_ 5 _ rfl; (with_reducible repeat (first | refine kN ?_ _ | refine kD ?_ | refine kA ?_ _)); refine blk_put (cs := #[.bool t745, .int .i64 t746, .int .i64 t747, .int .i64 t748, .int .i64 x731004_4, .int .i64 x731005_4, .int .i64 x731006_4]) ?_ 4 _ rfl; (with_reducible repeat (first | refine kN ?_ _ | refine kD ?_ | refine kA ?_ _)); refine blk_put (cs := #[.bool t745, .int .i64 t746, .int .i64 t747, .int .i64 x731003_4, .int .i64 x731004_4, .int .i64 x731005_4, .int .i64 x731006_4]) ?_ 3 _ rfl; (with_reducible repeat (first | refine kN ?_ _ | refine kD ?_ | refine kA ?_ _)); refine blk_put (cs := #[.bool t745, .int .i64 t746, .int .i64 x731002_4, .int .i64 x731003_4, .int .i64 x731004_4, .int .i64 x731005_4, .int .i64 x731006_4]) ?_ 2 _ rfl; (with_reducible repeat (first | refine kN ?_ _ | refine kD ?_ | refine kA ?_ _)); refine blk_put (cs := #[.bool t745, .int .i64 x731001_4, .int .i64 x731002_4, .int .i64 x731003_4, .int .i64 x731004_4, .int .i64 x731005_4, .int .i64 x731006_4]) ?_ 1 _ rfl; (with_reducible repeat (first | refine kN ?_ _ | refine kD ?_ | refine kA ?_ _)); refine blk_put (cs := #[.bool x731000_4, .int .i64 x731001_4, .int .i64 x731002_4, .int .i64 x731003_4, .int .i64 x731004_4, .int .i64 x731005_4, .int .i64 x731006_4]) ?_ 0 _ rfl; (with_reducible repeat (first | refine kN ?_ _ | refine kD ?_ | refine kA ?_ _)); refine blk_far ?_ NB730_753.out _; (with_reducible repeat (first | refine kN ?_ _ | refine kD ?_ | refine kA ?_ _)); refine blk_far ?_ NB730_753.out _; (with_reducible repeat (first | refine kN ?_ _ | refine kD ?_ | refine kA ?_ _)); refine blk_far ?_ NB730_753.out _; (with_reducible repeat (first | refine kN ?_ _ | refine kD ?_ | refine kA ?_ _)); refine blk_far ?_ NB730_753.out _; (with_reducible repeat (first | refine kN ?_ _ | refine kD ?_ | refine kA ?_ _)); refine blk_far ?_ NB730_753.out _; (with_reducible repeat (first | refine kN ?_ _ | refine kD ?_ | refine kA ?_ _)); refine blk_far ?_ NB730_753.out _; (with_reducible repeat (first | refine kN ?_ _ | refine kD ?_ | refine kA ?_ _)); refine blk_far ?_ NB730_753.out _; (with_reducible repeat (first | refine kN ?_ _ | refine kD ?_ | refine kA ?_ _)); exact BK730.out) Try.underlying44 rfl (by kernel_rfl)) rfl ?_
                 exact en)
              | (go_roundg k4
                 case measure => have := HK1.out; have := HK2.out; have := HK3.out; have := HK4.out; omega
                 case rel => exact ⟨(wrap64 (x56_4 + 1)), (x731000_4), (x731001_4), (x731002_4), (x731003_4), (x731004_4), (x731005_4), (x731006_4), (by first | rfl | (simp; done) | (simp [*]; done)), H', ⟨by have := HK1.out; have := HK2.out; have := HK3.out; have := HK4.out; omega⟩, ⟨by (with_reducible repeat (first | refine kN ?_ _ | refine kD ?_ | refine kA ?_ _)); refine blk_far ?_ NB730_753.out _; (with_reducible repeat (first | refine kN ?_ _ | refine kD ?_ | refine kA ?_ _)); refine blk_far ?_ NB730_753.out _; (with_reducible repeat (first | refine kN ?_ _ | refine kD ?_ | refine kA ?_ _)); refine blk_far ?_ NB730_753.out _; (with_reducible repeat (first | refine kN ?_ _ | refine kD ?_ | refine kA ?_ _)); refine blk_far ?_ NB730_753.out _; (with_reducible repeat (first | refine kN ?_ _ | refine kD ?_ | refine kA ?_ _)); refine blk_far ?_ NB730_753.out _; (with_reducible repeat (first | refine kN ?_ _ | refine kD ?_ | refine kA ?_ _)); refine blk_far ?_ NB730_753.out _; (with_reducible repeat (first | refine kN ?_ _ | refine kD ?_ | refine kA ?_ _)); refine blk_far ?_ NB730_753.out _; (with_reducible repeat (first | refine kN ?_ _ | refine kD ?_ | refine kA ?_ _)); exact BK730.out⟩, ⟨by repeat (first | (with_reducible first | exact HB.out | apply lA | apply lN | apply lD | refine lS ?_ GE730.out | refine lS ?_ GE753.out) | exact HB.out)⟩⟩)
              | (go_roundg k4
                 case measure => have := HK1.out; have := HK2.out; have := HK3.out; have := HK4.out; omega
                 case rel => exact ⟨(wrap64 (x51_3 + 1)), (x731000_4), (x731001_4), (x731002_4), (x731003_4), (x731004_4), (x731005_4), (x731006_4), (by first | rfl | (simp; done) | (simp [*]; done)), H', ⟨by have := HK1.out; have := HK2.out; have := HK3.out; have := HK4.out; omega⟩, ⟨by (with_reducible repeat (first | refine kN ?_ _ | refine kD ?_ | refine kA ?_ _)); exact BK730.out⟩, ⟨by repeat (first | (with_reducible first | exact HB.out | apply lA | apply lN | apply lD | refine lS ?_ GE730.out) | exact HB.out)⟩⟩)
         ·rw [if_neg c34] at H
          have c34b0 : decide (x51_3 < (l0.length : Int)) = false := decide_eq_false c34
          clear c34
          simp only [Option.some.injEq, Prod.mk.injEq] at H
          obtain ⟨rfl, rfl, rfl, rfl, rfl, rfl, rfl⟩ := H
          have hcz53_0 : wr.cell? ⟨gb730, 0, none⟩ = some (.bool x731000_3) := (blk_cell BK730.out 0).trans rfl
          have hcz53_1 : wr.cell? ⟨gb730, 1, none⟩ = some (.int .i64 x731001_3) := (blk_cell BK730.out 1).trans rfl
          have hcz53_2 : wr.cell? ⟨gb730, 2, none⟩ = some (.int .i64 x731002_3) := (blk_cell BK730.out 2).trans rfl
          have hcz53_3 : wr.cell? ⟨gb730, 3, none⟩ = some (.int .i64 x731003_3) := (blk_cell BK730.out 3).trans rfl
          have hcz53_4 : wr.cell? ⟨gb730, 4, none⟩ = some (.int .i64 x731004_3) := (blk_cell BK730.out 4).trans rfl
          have hcz53_5 : wr.cell? ⟨gb730, 5, none⟩ = some (.int .i64 x731005_3) := (blk_cell BK730.out 5).trans rfl
          have hcz53_6 : wr.cell? ⟨gb730, 6, none⟩ = some (.int .i64 x731006_3) := (blk_cell BK730.out 6).trans rfl
          have hfz53_0 := blk_frozen BK730.out 0
          have hfz53_1 := blk_frozen BK730.out 1
          have hfz53_2 := blk_frozen BK730.out 2
          have hfz53_3 := blk_frozen BK730.out 3
          have hfz53_4 := blk_frozen BK730.out 4
          have hfz53_5 := blk_frozen BK730.out 5
          have hfz53_6 := blk_frozen BK730.out 6
          go_wp2
          refine bodyPost_ret (results_cell_row rfl _ _ gb730 44 #[.bool false, .int .i64 0, .int .i64 0, .int .i64 0, .int .i64 0, .int .i64 0, .int .i64 0] (0, 0) _ rfl (by (with_reducible repeat (first | refine kN ?_ _ | refine kD ?_ | refine kA ?_ _)); refine blk_put (cs := #[.bool false, .int .i64 0, .int .i64 0, .int .i64 0, .int .i64 0, .int .i64 0, .int .i64 x731006_3]) ?_ 6 _ rfl; (with_reducible repeat (first | refine kN ?_ _ | refine kD ?_ | refine kA ?_ _)); refine blk_put (cs := #[.bool false, .int .i64 0, .int .i64 0, .int .i64 0, .int .i64 0, .int .i64 x731005_3, .int .i64 x731006_3]) ?_ 5 _ rfl; (with_reducible repeat (first | refine kN ?_ _ | refine kD ?_ | refine kA ?_ _)); refine blk_put (cs := #[.bool false, .int .i64 0, .int .i64 0, .int .i64 0, .int .i64 x731004_3, .int .i64 x731005_3, .int .i64 x731006_3]) ?_ 4 _ rfl; (with_reducible repeat (first | refine kN ?_ _ | refine kD ?_ | refine kA ?_ _)); refine blk_put (cs := #[.bool false, .int .i64 0, .int .i64 0, .int .i64 x731003_3, .int .i64 x731004_3, .int .i64 x731005_3, .int .i64 x731006_3]) ?_ 3 _ rfl; (with_reducible repeat (first | refine kN ?_ _ | refine kD ?_ | refine kA ?_ _)); refine blk_put (cs := #[.bool false, .int .i64 0, .int .i64 x731002_3, .int .i64 x731003_3, .int .i64 x731004_3, .int .i64 x731005_3, .int .i64 x731006_3]) ?_ 2 _ rfl; (with_reducible repeat (first | refine kN ?_ _ | refine kD ?_ | refine kA ?_ _)); refine blk_put (cs := #[.bool false, .int .i64 x731001_3, .int .i64 x731002_3, .int .i64 x731003_3, .int .i64 x731004_3, .int .i64 x731005_3, .int .i64 x731006_3]) ?_ 1 _ rfl; (with_reducible repeat (first | refine kN ?_ _ | refine kD ?_ | refine kA ?_ _)); refine blk_put (cs := #[.bool x731000_3, .int .i64 x731001_3, .int .i64 x731002_3, .int .i64 x731003_3, .int .i64 x731004_3, .int .i64 x731005_3, .int .i64 x731006_3]) ?_ 0 _ rfl; (with_reducible repeat (first | refine kN ?_ _ | refine kD ?_ | refine kA ?_ _)); exact BK730.out) Try.underlying44 rfl (by kernel_rfl)) rfl ?_
          exact en

end Go.Proofs.Ythaklbjcjoolcaa.P
namespace Go.Proofs.Ythaklbjcjoolcaa.P
open Go.RowKit YthaklbjcjoolcaaW.PrintWords YthaklbjcjoolcaaW.PrintLast YthaklbjcjoolcaaW.PrintMore
def sepL (k : Nat) (p q : List S31) : List S31 → Option (Bool × Int × Int × Int × Int × Int × Int × Int)
 | [] => (plane_common.f k p q).bind fun t => some (t.1, t.2.1, t.2.2.1, t.2.2.2.1, t.2.2.2.2.1, t.2.2.2.2.2.1, t.2.2.2.2.2.2, 0)
 | d :: ds => (plane_line.f k d.f0 d.f1 p q).bind fun t => if t.2.2.2.2.2.2.2 = true then some (t.1, t.2.1, t.2.2.1, t.2.2.2.1, t.2.2.2.2.1, t.2.2.2.2.2.1, t.2.2.2.2.2.2.1, 0) else sepL k p q ds
def isSetB (l : List S31) : Bool := decide (1 ≤ l.length ∧ l.length ≤ 512) && allOk l
def plane_Separate.f (k : Nat) (l0 l1 : List S31) : Option (Bool × Int × Int × Int × Int × Int × Int × Int) :=
 if isSetB l0 = true ∧ isSetB l1 = true then sepL k (cornersS l0) (cornersS l1) (dirM (cornersS l0) (cornersS l1) 2) else some (false, 0, 0, 0, 0, 0, 0, 2)
theorem sepL_mono (p q : List S31) (k : Nat) : ∀ ds, LeO (sepL k p q ds) (sepL (k + 1) p q ds)
 | [] => LeO.bind (plane_common.mono _ _ k) (fun _ => LeO.refl _)
 | d :: ds => LeO.bind (plane_line.mono _ _ _ _ k) (fun _ => LeO.ite (LeO.refl _) (sepL_mono p q k ds))
theorem plane_Separate.mono : ∀ l0 l1 k, LeO (plane_Separate.f k l0 l1) (plane_Separate.f (k + 1) l0 l1) := fun l0 l1 k => LeO.ite (sepL_mono _ _ k _) (LeO.refl _)
theorem isSet_is (l : List S31) : plane_isSet.f l = some (isSetB l) := rfl
theorem isSetB_iff (l : List S31) : isSetB l = true ↔ (1 ≤ l.length ∧ l.length ≤ 512) ∧ allOk l = true := by unfold isSetB; rw [Bool.and_eq_true, decide_eq_true_eq]
theorem cells7 {W : World} {g : Nat} {t : TypeId} {c0 c1 c2 c3 c4 c5 c6 : Value} (h : W.heap[g]? = some (.cells #[c0, c1, c2, c3, c4, c5, c6] t (0, 0))) :
  W.cell? ⟨g, 0, none⟩ = some c0 ∧ W.cell? ⟨g, 1, none⟩ = some c1 ∧ W.cell? ⟨g, 2, none⟩ = some c2 ∧ W.cell? ⟨g, 3, none⟩ = some c3 ∧ W.cell? ⟨g, 4, none⟩ = some c4 ∧ W.cell? ⟨g, 5, none⟩ = some c5 ∧ W.cell? ⟨g, 6, none⟩ = some c6 :=
 ⟨blk_cell h 0, blk_cell h 1, blk_cell h 2, blk_cell h 3, blk_cell h 4, blk_cell h 5, blk_cell h 6⟩
theorem put7 {W : World} {g : Nat} {t : TypeId} {c0 c1 c2 c3 c4 c5 c6 : Value} (h : W.heap[g]? = some (.cells #[c0, c1, c2, c3, c4, c5, c6] t (0, 0))) (v0 v1 v2 v3 v4 v5 v6 : Value) :
  (W.setCells g 0 [v0, v1, v2, v3, v4, v5, v6]).heap[g]? = some (.cells #[v0, v1, v2, v3, v4, v5, v6] t (0, 0)) := by
 simp only [World.setCells, Nat.zero_add, Nat.reduceAdd]
 have h0 : (W.setCell ⟨g, 0, none⟩ v0).heap[g]? = some (.cells #[v0, c1, c2, c3, c4, c5, c6] t (0, 0)) := by simpa using blk_set h 0 v0
 have h1 : ((W.setCell ⟨g, 0, none⟩ v0).setCell ⟨g, 1, none⟩ v1).heap[g]? = some (.cells #[v0, v1, c2, c3, c4, c5, c6] t (0, 0)) := by simpa using blk_set h0 1 v1
 have h2 : (((W.setCell ⟨g, 0, none⟩ v0).setCell ⟨g, 1, none⟩ v1).setCell ⟨g, 2, none⟩ v2).heap[g]? = some (.cells #[v0, v1, v2, c3, c4, c5, c6] t (0, 0)) := by simpa using blk_set h1 2 v2
 have h3 : ((((W.setCell ⟨g, 0, none⟩ v0).setCell ⟨g, 1, none⟩ v1).setCell ⟨g, 2, none⟩ v2).setCell ⟨g, 3, none⟩ v3).heap[g]? = some (.cells #[v0, v1, v2, v3, c4, c5, c6] t (0, 0)) := by simpa using blk_set h2 3 v3
 have h4 : (((((W.setCell ⟨g, 0, none⟩ v0).setCell ⟨g, 1, none⟩ v1).setCell ⟨g, 2, none⟩ v2).setCell ⟨g, 3, none⟩ v3).setCell ⟨g, 4, none⟩ v4).heap[g]? = some (.cells #[v0, v1, v2, v3, v4, c5, c6] t (0, 0)) := by simpa using blk_set h3 4 v4
 have h5 : ((((((W.setCell ⟨g, 0, none⟩ v0).setCell ⟨g, 1, none⟩ v1).setCell ⟨g, 2, none⟩ v2).setCell ⟨g, 3, none⟩ v3).setCell ⟨g, 4, none⟩ v4).setCell ⟨g, 5, none⟩ v5).heap[g]? = some (.cells #[v0, v1, v2, v3, v4, v5, c6] t (0, 0)) := by simpa using blk_set h4 5 v5
 have h6 : (((((((W.setCell ⟨g, 0, none⟩ v0).setCell ⟨g, 1, none⟩ v1).setCell ⟨g, 2, none⟩ v2).setCell ⟨g, 3, none⟩ v3).setCell ⟨g, 4, none⟩ v4).setCell ⟨g, 5, none⟩ v5).setCell ⟨g, 6, none⟩ v6).heap[g]? = some (.cells #[v0, v1, v2, v3, v4, v5, v6] t (0, 0)) := by simpa using blk_set h5 6 v6
 exact h6
theorem below7 {w W : World} {g : Nat} (h : Below w.heap.size w W) (hg : w.heap.size ≤ g) (vs : List Value) : ∀ o, Below w.heap.size w (W.setCells g o vs) := by
 induction vs generalizing W with
 | nil => exact fun _ => h
 | cons v r ih => exact fun o => ih (below_set h hg) (o + 1)
set_option maxHeartbeats 4000000 in
set_option maxRecDepth 100000 in
theorem separate_no (A0 : Option Addr) (c0 : Nat) (a : List S31) (A1 : Option Addr) (c1 : Nat) (b : List S31) (w : World) (hr0 : Kd.C k31 w A0 a.length a) (hc0 : a.length ≤ c0) (hr1 : Kd.C k31 w A1 b.length b) (hc1 : b.length ≤ c1) (hn : ¬ (isSetB a = true ∧ isSetB b = true)) :
  Calls Try.prog 37 #[.slice A0 a.length c0, .slice A1 b.length c1] w fun e w' => e = .returned (.tuple #[.agg #[.bool false, .int .i64 0, .int .i64 0, .int .i64 0, .int .i64 0, .int .i64 0, .int .i64 0], .int .i64 2]) ∧ Below w.heap.size w w' := by
 have HS0 := Aside0.mk (fun W (hb : Below w.heap.size w W) => plane_isSet.calls A0 c0 a _ W (Kd.C_below hr0 hb) hc0 (isSet_is a))
 have HS1 := Aside0.mk (fun W (hb : Below w.heap.size w W) => plane_isSet.calls A1 c1 b _ W (Kd.C_below hr1 hb) hc1 (isSet_is b))
 have HB := Aside0.mk (below_alloc (Below.refl w.heap.size w) (Obj.cells #[.bool false, .int .i64 0, .int .i64 0, .int .i64 0, .int .i64 0, .int .i64 0, .int .i64 0] 44))
 have HG := Aside0.mk (heap_alloc_new w (Obj.cells #[.bool false, .int .i64 0, .int .i64 0, .int .i64 0, .int .i64 0, .int .i64 0, .int .i64 0] 44))
 clear hr0 hr1
 by_cases ha : isSetB a = true
 ·have hb : isSetB b = false := by
   cases h : isSetB b
   ·rfl
   ·exact absurd ⟨ha, h⟩ hn
  rw [ha] at HS0
  rw [hb] at HS1
  clear ha hb hn
  go_enter Try.func37, Try.ntmps37
  go_wp2_with (first | (go_at_call 55; refine (HS1.out _ HB1.out).mono ?_; rintro e w2 ⟨rfl, hb2⟩; have HB2 := Aside0.mk (below_step HB1.out hb2); have HG2 := Aside0.mk (blk_below HG1.out hb2); clear hb2; obtain ⟨f0, f1, f2, f3, f4, f5, f6⟩ := cells7 HG2.out; have ff := blk_frozen HG2.out) | (go_at_call 55; go_must (refine (HS0.out _ HB.out).mono ?_); rintro e w1 ⟨rfl, hb1⟩; have HB1 := Aside0.mk (below_step HB.out hb1); have HG1 := Aside0.mk (blk_below HG.out hb1); clear hb1))
  refine bodyPost_ret (results_ct rfl _ _ w.heap.size 44 #[.bool false, .int .i64 0, .int .i64 0, .int .i64 0, .int .i64 0, .int .i64 0, .int .i64 0] (0, 0) _ rfl (put7 HG2.out _ _ _ _ _ _ _) Try.underlying44 rfl (by kernel_rfl)) rfl ?_
  exact ⟨rfl, below7 HB2.out (Nat.le_refl _) [.bool false, .int .i64 0, .int .i64 0, .int .i64 0, .int .i64 0, .int .i64 0, .int .i64 0] 0⟩
 ·rw [Bool.not_eq_true] at ha
  rw [ha] at HS0
  clear ha hn
  go_enter Try.func37, Try.ntmps37
  go_wp2_with (first | (go_at_call 55; go_must (refine (HS0.out _ HB.out).mono ?_); rintro e w1 ⟨rfl, hb1⟩; have HB1 := Aside0.mk (below_step HB.out hb1); have HG1 := Aside0.mk (blk_below HG.out hb1); clear hb1; obtain ⟨f0, f1, f2, f3, f4, f5, f6⟩ := cells7 HG1.out; have ff := blk_frozen HG1.out))
  refine bodyPost_ret (results_ct rfl _ _ w.heap.size 44 #[.bool false, .int .i64 0, .int .i64 0, .int .i64 0, .int .i64 0, .int .i64 0, .int .i64 0] (0, 0) _ rfl (put7 HG1.out _ _ _ _ _ _ _) Try.underlying44 rfl (by kernel_rfl)) rfl ?_
  exact ⟨rfl, below7 HB1.out (Nat.le_refl _) [.bool false, .int .i64 0, .int .i64 0, .int .i64 0, .int .i64 0, .int .i64 0, .int .i64 0] 0⟩
theorem cornersS_len (l : List S31) : (cornersS l).length ≤ 2 * l.length := by
 have h1 := sortedS_len l
 unfold cornersS
 split
 ·omega
 ·have h2 := chainL_len (sortedS l)
  have h3 := chainL_len (sortedS l).reverse
  rw [List.length_reverse] at h3
  rw [List.length_append, List.length_dropLast, List.length_dropLast]; omega
theorem mem_foldl_ch (x : S31) : ∀ (l out : List S31), x ∈ l.foldl chStep out → x ∈ out ∨ x ∈ l
 | [], out, h => .inl h
 | p :: l, out, h => by
  rcases mem_foldl_ch x l (chStep out p) h with h | h
  ·unfold chStep at h
   rw [List.mem_append, List.mem_singleton] at h
   rcases h with h | h
   ·exact .inl (List.mem_of_mem_take h)
   ·exact .inr (by rw [h]; exact List.mem_cons_self)
  ·exact .inr (List.mem_cons_of_mem _ h)
theorem mem_chainL {l : List S31} {x : S31} (h : x ∈ chainL l) : x ∈ l := by
 rcases mem_foldl_ch x l [] h with h | h
 ·cases h
 ·exact h
theorem cornersS_mem {l : List S31} {x : S31} (h : x ∈ cornersS l) : x ∈ l := by
 have key : x ∈ sortedS l := by
  unfold cornersS at h
  split at h
  ·exact h
  ·rw [List.mem_append] at h
   rcases h with h | h
   ·exact mem_chainL ((List.dropLast_sublist _).subset h)
   ·exact List.mem_reverse.1 (mem_chainL ((List.dropLast_sublist _).subset h))
 exact (List.mergeSort_perm _ _).mem_iff.1 (mem_ddL _ _ (Nat.le_refl _) x key)
theorem cornersS_ok {l : List S31} (h : allOk l = true) : allOk (cornersS l) = true := List.all_eq_true.2 (fun x hx => List.all_eq_true.1 h x (cornersS_mem hx))
theorem ddL_pos (xs : List S31) : ∀ k, 1 ≤ k → 1 ≤ (ddL xs k).length
 | 0, h => by omega
 | 1, _ => by simp [ddL]
 | k + 2, _ => by
  have := ddL_pos xs (k + 1) (by omega)
  unfold ddL
  split
  ·exact this
  ·rw [List.length_append]; omega
theorem chainL_two {l : List S31} (h : 2 ≤ l.length) : 2 ≤ (chainL l).length := by
 have popN_pos : ∀ (out : List S31) (p : S31) (n : Nat), 1 ≤ n → 1 ≤ popN out p n := by
  intro out p n
  induction n using Nat.strongRecOn with
  | _ n ih =>
   intro hn
   match n, ih, hn with
   | 1, _, _ => simp [popN]
   | n + 2, ih, _ =>
    unfold popN
    split
    ·exact ih (n + 1) (by omega) (by omega)
    ·omega
 obtain ⟨a, p, rfl⟩ : ∃ a p, l = a ++ [p] := ⟨l.dropLast, l.getLast (by intro e; rw [e] at h; simp at h), (List.dropLast_concat_getLast _).symm⟩
 rw [List.length_append, List.length_singleton] at h
 have h1 := chainL_pos (l := a) (by omega)
 rw [chainL_snoc]
 unfold chStep
 rw [List.length_append, List.length_take, List.length_singleton]
 have h2 := popN_pos (chainL a) p (chainL a).length h1
 have h3 := popN_le (chainL a) p (chainL a).length
 omega
theorem cornersS_pos {l : List S31} (h : 1 ≤ l.length) : 1 ≤ (cornersS l).length := by
 have h1 := ddL_pos (sortP l) (sortP l).length (by rw [sortP_len]; exact h)
 unfold cornersS
 split
 ·exact h1
 ·have h2 := chainL_two (l := sortedS l) (by omega)
  rw [List.length_append, List.length_dropLast]; omega
theorem dirM_len (a b : List S31) (m : Nat) : (dirM a b m).length ≤ 1 + a.length * 4 + b.length * 4 := by
 unfold dirM
 simp only [List.length_append]
 split <;> split <;> simp [dirE_len] <;> omega
set_option maxHeartbeats 4000000 in
set_option maxRecDepth 100000 in
theorem separate_yes (kf : Nat) (A0 : Option Addr) (c0 : Nat) (a : List S31) (A1 : Option Addr) (c1 : Nat) (b : List S31) (w : World) (hr0 : Kd.C k31 w A0 a.length a) (hc0 : a.length ≤ c0) (hr1 : Kd.C k31 w A1 b.length b) (hc1 : b.length ≤ c1) (ha : isSetB a = true) (hb : isSetB b = true)
  (r1 : Bool) (r2 r3 r4 r5 r6 r7 r8 : Int) (hs : sepL kf (cornersS a) (cornersS b) (dirM (cornersS a) (cornersS b) 2) = some (r1, r2, r3, r4, r5, r6, r7, r8)) :
  Calls Try.prog 37 #[.slice A0 a.length c0, .slice A1 b.length c1] w fun e w' => e = .returned (.tuple #[.agg #[.bool r1, .int .i64 r2, .int .i64 r3, .int .i64 r4, .int .i64 r5, .int .i64 r6, .int .i64 r7], .int .i64 r8]) ∧ Below w.heap.size w w' := by
 have HS0 := Aside0.mk (fun W (hb : Below w.heap.size w W) => plane_isSet.calls A0 c0 a _ W (Kd.C_below hr0 hb) hc0 (isSet_is a))
 have HS1 := Aside0.mk (fun W (hb : Below w.heap.size w W) => plane_isSet.calls A1 c1 b _ W (Kd.C_below hr1 hb) hc1 (isSet_is b))
 rw [ha] at HS0
 rw [hb] at HS1
 obtain ⟨⟨la1, la2⟩, oa⟩ := (isSetB_iff a).1 ha
 obtain ⟨⟨lb1, lb2⟩, ob⟩ := (isSetB_iff b).1 hb
 have HC0 := Aside0.mk (fun W (hb : Below w.heap.size w W) => corners_calls A0 c0 a W (Kd.C_below hr0 hb) hc0 la1 (by omega) oa)
 have HC1 := Aside0.mk (fun W (hb : Below w.heap.size w W) => corners_calls A1 c1 b W (Kd.C_below hr1 hb) hc1 lb1 (by omega) ob)
 have hpl := cornersS_len a
 have hql := cornersS_len b
 have hp1 := cornersS_pos la1
 have hq1 := cornersS_pos lb1
 have HPO := Aside0.mk (cornersS_ok oa)
 have HQO := Aside0.mk (cornersS_ok ob)
 have HSP := Aside0.mk hs
 have HB := Aside0.mk (below_alloc (Below.refl w.heap.size w) (Obj.cells #[.bool false, .int .i64 0, .int .i64 0, .int .i64 0, .int .i64 0, .int .i64 0, .int .i64 0] 44))
 have HG := Aside0.mk (heap_alloc_new w (Obj.cells #[.bool false, .int .i64 0, .int .i64 0, .int .i64 0, .int .i64 0, .int .i64 0, .int .i64 0] 44))
 clear hr0 hr1 ha hb hs oa ob
 generalize cornersS a = p at *
 generalize cornersS b = q at *
 go_enter Try.func37, Try.ntmps37
 go_wp2_with (first | (go_at_call 55; refine (HS1.out _ HB1.out).mono ?_; rintro e w2 ⟨rfl, hb2⟩; have HB2 := Aside0.mk (below_step HB1.out hb2); have HG2 := Aside0.mk (blk_below HG1.out hb2); clear hb2) | (go_at_call 55; go_must (refine (HS0.out _ HB.out).mono ?_); rintro e w1 ⟨rfl, hb1⟩; have HB1 := Aside0.mk (below_step HB.out hb1); have HG1 := Aside0.mk (blk_below HG.out hb1); clear hb1) | (go_at_call 64; refine (HC1.out _ HB3.out).mono ?_; rintro e w4 ⟨v4, rfl, hr4, hb4⟩; have HB4 := Aside0.mk (below_step HB3.out hb4); have HG4 := Aside0.mk (blk_below HG3.out hb4); have HP4 := Aside0.mk (Kd.R_below HP3.out hb4); have HQ4 := Aside0.mk hr4; clear hb4 hr4; obtain ⟨A4, c4, e4⟩ := Kd.R_slice HQ4.out; subst e4) | (go_at_call 64; go_must (refine (HC0.out _ HB2.out).mono ?_); rintro e w3 ⟨v3, rfl, hr3, hb3⟩; have HB3 := Aside0.mk (below_step HB2.out hb3); have HG3 := Aside0.mk (blk_below HG2.out hb3); have HP3 := Aside0.mk hr3; clear hb3 hr3; obtain ⟨A3, c3, e3⟩ := Kd.R_slice HP3.out; subst e3) | (go_at_call 66; go_must (refine (dirs_calls A3 c3 p A4 c4 q w4 (Kd.R_reads' HP4.out).2.2 (Kd.R_reads' HP4.out).2.1 (Kd.R_reads' HQ4.out).2.2 (Kd.R_reads' HQ4.out).2.1 HPO.out HQO.out hp1 hq1 (by omega) (by omega)).mono ?_); rintro e w5 ⟨v5, rfl, hr5, hb5⟩; have HB5 := Aside0.mk (below_step HB4.out hb5); have HG5 := Aside0.mk (blk_below HG4.out hb5); have HD5 := Aside0.mk hr5; have HP5 := Aside0.mk (Kd.C_below (Kd.R_reads' HP4.out).2.2 hb5); have HQ5 := Aside0.mk (Kd.C_below (Kd.R_reads' HQ4.out).2.2 hb5); have HPC := Aside0.mk (Kd.R_reads' HP4.out).2.1; have HQC := Aside0.mk (Kd.R_reads' HQ4.out).2.1; clear hb5 hr5; obtain ⟨A5, c5, e5⟩ := Kd.R_slice HD5.out; subst e5))
 have hdl := dirM_len p q 2
 have HDC := Aside0.mk (Kd.R_reads' HD5.out).2.2
 have HB50 := Aside0.mk (Below.refl w5.heap.size w5)
 clear HB HG HB1 HB2 HB3 HB4 HG1 HG2 HG3 HG4 HP3 HP4 HQ4 HS0 HS1 HC0 HC1
 generalize dirM p q 2 = ds at *
 have HSP0 : Aside0 (sepL kf p q (ds.drop 0) = some (r1, r2, r3, r4, r5, r6, r7, r8)) := HSP
 go_loopw [5, 29] (fun v5 v29 wr => ∃ k : Nat, k ≤ ds.length ∧ v5 = .int .i64 0 ∧ v29 = .int .i64 k ∧ Aside0 (sepL kf p q (ds.drop k) = some (r1, r2, r3, r4, r5, r6, r7, r8)) ∧ Aside0 (Below w5.heap.size w5 wr)) (fun _ v29 _ => ds.length - (intOf v29).toNat)
 case atStart => exact ⟨0, by omega, rfl, rfl, HSP0, HB50⟩
 case round =>
  obtain ⟨k, hk, rfl, rfl, HS, HB⟩ := hrel
  clear HSP HSP0 HB50
  by_cases hlt : k < ds.length
  ·obtain ⟨ad, rfl, x0, x1⟩ := at_T31 (Kd.C_below HDC.out HB.out) (k : Int) (by omega) (by omega)
   rw [rd_pt, Int.toNat_natCast] at x0 x1
   have hltI : ((k : Nat) : Int) < ((ds.length : Nat) : Int) := by omega
   have hds : ds.drop k = pt ds k :: ds.drop (k + 1) := by rw [List.drop_eq_getElem_cons hlt, pt_eq ds k hlt]
   rw [hds] at HS
   clear hds
   generalize pt ds k = d at *
   have hS := HS.out
   unfold sepL at hS
   obtain ⟨⟨t1, t2, t3, t4, t5, t6, t7, t8⟩, hL, hN⟩ := Option.bind_eq_some_iff.1 hS
   have HL := Aside0.mk hL
   clear hS HS hL
   have HG0 := Aside0.mk (blk_below HG5.out HB.out)
   cases t8
   ·have HN := Aside0.mk (hN.symm.trans (if_neg Bool.false_ne_true))
    clear hN
    go_wp2_with (first | (go_at_call 67; go_must (refine (plane_line.calls kf d.f0 d.f1 A3 c3 p A4 c4 q t1 t2 t3 t4 t5 t6 t7 false _ (Kd.C_alloc (Kd.C_below HP5.out HB.out) _) HPC.out (Kd.C_alloc (Kd.C_below HQ5.out HB.out) _) HQC.out HL.out).mono ?_); go_loud (rintro e w6 ⟨rfl, hb6⟩; have HB6 := Aside0.mk (below_step (below_alloc HB.out _) hb6); have HG6 := Aside0.mk (blk_below (blk_alloc HG0.out _) hb6); clear hb6)))
    go_roundw
    case rel => exact ⟨k + 1, by omega, rfl, by go_num, ⟨HN.out.symm⟩, ⟨below_alloc HB6.out _⟩⟩
    case measure => simp [intOf]; omega
   ·have HN := Aside0.mk (hN.symm.trans (if_pos rfl))
    clear hN
    obtain ⟨rfl, rfl, rfl, rfl, rfl, rfl, rfl, rfl⟩ : r1 = t1 ∧ r2 = t2 ∧ r3 = t3 ∧ r4 = t4 ∧ r5 = t5 ∧ r6 = t6 ∧ r7 = t7 ∧ r8 = 0 := by
     have h := Option.some.inj HN.out
     simp only [Prod.mk.injEq] at h
     exact h
    clear HN
    go_wp2_with (first | (go_at_call 67; go_must (refine (plane_line.calls kf d.f0 d.f1 A3 c3 p A4 c4 q r1 r2 r3 r4 r5 r6 r7 true _ (Kd.C_alloc (Kd.C_below HP5.out HB.out) _) HPC.out (Kd.C_alloc (Kd.C_below HQ5.out HB.out) _) HQC.out HL.out).mono ?_); rintro e w6 ⟨rfl, hb6⟩; have HB6 := Aside0.mk (below_step (below_alloc HB.out _) hb6); have HG6 := Aside0.mk (blk_below (blk_alloc HG0.out _) hb6); clear hb6; have HX6 := Aside0.mk (blk_alloc HG6.out (Obj.cells #[.bool r1, .int .i64 r2, .int .i64 r3, .int .i64 r4, .int .i64 r5, .int .i64 r6, .int .i64 r7] 44)); obtain ⟨f0, f1, f2, f3, f4, f5, f6⟩ := cells7 HX6.out; have ff := blk_frozen HX6.out))
    refine bodyPost_ret (results_ct rfl _ _ w.heap.size 44 #[.bool r1, .int .i64 r2, .int .i64 r3, .int .i64 r4, .int .i64 r5, .int .i64 r6, .int .i64 r7] (0, 0) _ rfl (put7 (blk_alloc HG6.out _) _ _ _ _ _ _ _) Try.underlying44 rfl (by kernel_rfl)) rfl ?_
    exact ⟨rfl, below7 (below_step HB5.out (below_alloc HB6.out _)) (Nat.le_refl _) [.bool r1, .int .i64 r2, .int .i64 r3, .int .i64 r4, .int .i64 r5, .int .i64 r6, .int .i64 r7] 0⟩
  ·have hkl : k = ds.length := by omega
   subst hkl
   rw [List.drop_length] at HS
   clear hlt hk
   have hS := HS.out
   unfold sepL at hS
   obtain ⟨⟨t1, t2, t3, t4, t5, t6, t7⟩, hL, hN⟩ := Option.bind_eq_some_iff.1 hS
   have HL := Aside0.mk hL
   clear hS HS hL
   obtain ⟨rfl, rfl, rfl, rfl, rfl, rfl, rfl, rfl⟩ : t1 = r1 ∧ t2 = r2 ∧ t3 = r3 ∧ t4 = r4 ∧ t5 = r5 ∧ t6 = r6 ∧ t7 = r7 ∧ 0 = r8 := by
    have h := Option.some.inj hN
    simp only [Prod.mk.injEq] at h
    exact h
   clear hN
   have HG0 := Aside0.mk (blk_below HG5.out HB.out)
   go_wp2_with (first | (go_at_call 68; go_must (refine (plane_common.calls kf A3 c3 p A4 c4 q t1 t2 t3 t4 t5 t6 t7 _ (Kd.C_below HP5.out HB.out) HPC.out (Kd.C_below HQ5.out HB.out) HQC.out HL.out).mono ?_); rintro e w6 ⟨rfl, hb6⟩; have HB6 := Aside0.mk (below_step HB.out hb6); have HG6 := Aside0.mk (blk_below HG0.out hb6); clear hb6; obtain ⟨f0, f1, f2, f3, f4, f5, f6⟩ := cells7 HG6.out; have ff := blk_frozen HG6.out))
   refine bodyPost_ret (results_ct rfl _ _ w.heap.size 44 #[.bool t1, .int .i64 t2, .int .i64 t3, .int .i64 t4, .int .i64 t5, .int .i64 t6, .int .i64 t7] (0, 0) _ rfl (put7 HG6.out _ _ _ _ _ _ _) Try.underlying44 rfl (by kernel_rfl)) rfl ?_
   exact ⟨rfl, below7 (below_step HB5.out HB6.out) (Nat.le_refl _) [.bool t1, .int .i64 t2, .int .i64 t3, .int .i64 t4, .int .i64 t5, .int .i64 t6, .int .i64 t7] 0⟩
theorem plane_Separate.calls (k : Nat) (A0 : Option Addr) (c0 : Nat) (l0 : List S31) (A1 : Option Addr) (c1 : Nat) (l1 : List S31) (r1 : Bool) (r2 r3 r4 r5 r6 r7 r8 : Int) (w : World) (hr0 : Kd.C k31 w A0 l0.length l0) (hc0 : l0.length ≤ c0) (hr1 : Kd.C k31 w A1 l1.length l1) (hc1 : l1.length ≤ c1) (h : plane_Separate.f k l0 l1 = some (r1, r2, r3, r4, r5, r6, r7, r8)) :
  Calls Try.prog 37 #[.slice A0 l0.length c0, .slice A1 l1.length c1] w fun e w' => e = .returned (.tuple #[.agg #[.bool r1, .int .i64 r2, .int .i64 r3, .int .i64 r4, .int .i64 r5, .int .i64 r6, .int .i64 r7], .int .i64 r8]) ∧ Below w.heap.size w w' := by
 unfold plane_Separate.f at h
 by_cases hs : isSetB l0 = true ∧ isSetB l1 = true
 ·rw [if_pos hs] at h
  exact separate_yes k A0 c0 l0 A1 c1 l1 w hr0 hc0 hr1 hc1 hs.1 hs.2 r1 r2 r3 r4 r5 r6 r7 r8 h
 ·rw [if_neg hs] at h
  have h := Option.some.inj h
  simp only [Prod.mk.injEq] at h
  obtain ⟨rfl, rfl, rfl, rfl, rfl, rfl, rfl, rfl⟩ := h
  exact separate_no A0 c0 l0 A1 c1 l1 w hr0 hc0 hr1 hc1 hs
end Go.Proofs.Ythaklbjcjoolcaa.P
namespace Go.Proofs.Ythaklbjcjoolcaa.P
open Go.RowKit YthaklbjcjoolcaaW.PrintWords YthaklbjcjoolcaaW.PrintLast YthaklbjcjoolcaaW.PrintMore
attribute [local go_sem] max2_int min2_int max_two min_two max_three min_three max_four min_four

def L1_awake.f (k : Nat)  : Option (Bool) := (some (([(⟨0, 0⟩ : S31), (⟨4, 0⟩ : S31), (⟨4, 4⟩ : S31), (⟨2, 1⟩ : S31)] : List (S31)) : List (S31))).bind fun y166 => ((plane_Area.f y166).bind fun bt169 => ((plane_Inside.f k y166 3 1).bind fun bt171 => ((plane_Separate.f k (([(⟨0, 0⟩ : S31), (⟨2, 2⟩ : S31)] : List (S31))) (([(⟨0, 2⟩ : S31), (⟨2, 0⟩ : S31)] : List (S31)))).bind fun bt179 => (if bt169.2 = 0 then (if bt169.1 = 12 then (if bt171.2 = 0 then (if bt171.1 = 1 then (if bt179.2.2.2.2.2.2.2 = 0 then (if bt179.1 = true then (if bt179.2.1 = bt179.2.2.2.1 then (if bt179.2.2.1 = bt179.2.2.2.1 then (if bt179.2.2.2.1 < 1 then (some false) else ((plane_Simple.f k y166).bind fun t188 => (if t188 = true then (some true) else (some false)))) else (some false)) else (some false)) else (some false)) else (some false)) else (some false)) else (some false)) else (some false)) else (some false)))))
theorem L1_awake.mono : ∀ k, LeO (L1_awake.f k ) (L1_awake.f (k + 1) ) := by
 intro  k
 unfold L1_awake.f
 repeat' first
   | (with_reducible exact plane_Inside.mono _ _ _ _)
   | (with_reducible exact plane_Separate.mono _ _ _)
   | (with_reducible exact plane_Simple.mono _ _)
   | (with_reducible first | exact LeO.refl _ | exact LeO.none _ | refine LeO.ite ?_ ?_ | refine LeO.bind ?_ (fun _ => ?_))
   | exact plane_Inside.mono _ _ _ _
   | exact plane_Separate.mono _ _ _
   | exact plane_Simple.mono _ _
   | exact LeO.none _ | refine LeO.ite ?_ ?_ | refine LeO.bind ?_ (fun _ => ?_)
set_option maxHeartbeats 8000000 in
set_option maxRecDepth 100000 in
theorem L1_awake.calls (k : Nat)  (r : Bool) (w : World) (h : L1_awake.f k  = some r) :
  Calls Try.prog 23 #[] w fun e w' => e = .returned (.bool r) ∧ Below w.heap.size w w' := by
 have hu31 := Try.underlying31
 have hu44 := Try.underlying44
 have HB := Aside0.mk (Below.refl w.heap.size w)
 have H : ((some (([(⟨0, 0⟩ : S31), (⟨4, 0⟩ : S31), (⟨4, 4⟩ : S31), (⟨2, 1⟩ : S31)] : List (S31)) : List (S31))).bind fun y166 => ((plane_Area.f y166).bind fun bt169 => ((plane_Inside.f k y166 3 1).bind fun bt171 => ((plane_Separate.f k (([(⟨0, 0⟩ : S31), (⟨2, 2⟩ : S31)] : List (S31))) (([(⟨0, 2⟩ : S31), (⟨2, 0⟩ : S31)] : List (S31)))).bind fun bt179 => (if bt169.2 = 0 then (if bt169.1 = 12 then (if bt171.2 = 0 then (if bt171.1 = 1 then (if bt179.2.2.2.2.2.2.2 = 0 then (if bt179.1 = true then (if bt179.2.1 = bt179.2.2.2.1 then (if bt179.2.2.1 = bt179.2.2.2.1 then (if bt179.2.2.2.1 < 1 then (some false) else ((plane_Simple.f k y166).bind fun t188 => (if t188 = true then (some true) else (some false)))) else (some false)) else (some false)) else (some false)) else (some false)) else (some false)) else (some false)) else (some false)) else (some false)))))) = some r := h
 clear h
 obtain ⟨y166, hy166⟩ : ∃ y_ : List (S31), y_ = (([(⟨0, 0⟩ : S31), (⟨4, 0⟩ : S31), (⟨4, 4⟩ : S31), (⟨2, 1⟩ : S31)] : List (S31))) := ⟨_, rfl⟩
 replace H : ((plane_Area.f y166).bind fun bt169 => ((plane_Inside.f k y166 3 1).bind fun bt171 => ((plane_Separate.f k (([(⟨0, 0⟩ : S31), (⟨2, 2⟩ : S31)] : List (S31))) (([(⟨0, 2⟩ : S31), (⟨2, 0⟩ : S31)] : List (S31)))).bind fun bt179 => (if bt169.2 = 0 then (if bt169.1 = 12 then (if bt171.2 = 0 then (if bt171.1 = 1 then (if bt179.2.2.2.2.2.2.2 = 0 then (if bt179.1 = true then (if bt179.2.1 = bt179.2.2.2.1 then (if bt179.2.2.1 = bt179.2.2.2.1 then (if bt179.2.2.2.1 < 1 then (some false) else ((plane_Simple.f k y166).bind fun t188 => (if t188 = true then (some true) else (some false)))) else (some false)) else (some false)) else (some false)) else (some false)) else (some false)) else (some false)) else (some false)) else (some false))))) = some r := by first | (rw [hy166]; with_reducible exact H) | (have H2_ := (Option.bind_some _ _).symm.trans H; rw [hy166]; with_reducible exact H2_) | (have H2_ := (Option.bind_some _ _).symm.trans H; with_reducible exact H2_) | with_reducible exact H | (rw [hy166]; exact H) | exact H
 have Ny166 := Aside0.mk hy166
 clear hy166
 replace H := Option.bind_eq_some_iff.mp H
 obtain ⟨⟨t169, t170⟩, A10, H⟩ := H
 replace H : ((plane_Inside.f k y166 3 1).bind fun bt171 => ((plane_Separate.f k (([(⟨0, 0⟩ : S31), (⟨2, 2⟩ : S31)] : List (S31))) (([(⟨0, 2⟩ : S31), (⟨2, 0⟩ : S31)] : List (S31)))).bind fun bt179 => (if t170 = 0 then (if t169 = 12 then (if bt171.2 = 0 then (if bt171.1 = 1 then (if bt179.2.2.2.2.2.2.2 = 0 then (if bt179.1 = true then (if bt179.2.1 = bt179.2.2.2.1 then (if bt179.2.2.1 = bt179.2.2.2.1 then (if bt179.2.2.2.1 < 1 then (some false) else ((plane_Simple.f k y166).bind fun t188 => (if t188 = true then (some true) else (some false)))) else (some false)) else (some false)) else (some false)) else (some false)) else (some false)) else (some false)) else (some false)) else (some false)))) = some r := H
 have A1 := Aside0.mk A10
 clear A10
 replace H := Option.bind_eq_some_iff.mp H
 obtain ⟨⟨t171, t172⟩, A20, H⟩ := H
 replace H : ((plane_Separate.f k (([(⟨0, 0⟩ : S31), (⟨2, 2⟩ : S31)] : List (S31))) (([(⟨0, 2⟩ : S31), (⟨2, 0⟩ : S31)] : List (S31)))).bind fun bt179 => (if t170 = 0 then (if t169 = 12 then (if t172 = 0 then (if t171 = 1 then (if bt179.2.2.2.2.2.2.2 = 0 then (if bt179.1 = true then (if bt179.2.1 = bt179.2.2.2.1 then (if bt179.2.2.1 = bt179.2.2.2.1 then (if bt179.2.2.2.1 < 1 then (some false) else ((plane_Simple.f k y166).bind fun t188 => (if t188 = true then (some true) else (some false)))) else (some false)) else (some false)) else (some false)) else (some false)) else (some false)) else (some false)) else (some false)) else (some false))) = some r := H
 have A2 := Aside0.mk A20
 clear A20
 obtain ⟨y173, hy173⟩ : ∃ y_ : List (S31), y_ = (([(⟨0, 0⟩ : S31), (⟨2, 2⟩ : S31)] : List (S31))) := ⟨_, rfl⟩
 replace H : ((plane_Separate.f k y173 (([(⟨0, 2⟩ : S31), (⟨2, 0⟩ : S31)] : List (S31)))).bind fun bt179 => (if t170 = 0 then (if t169 = 12 then (if t172 = 0 then (if t171 = 1 then (if bt179.2.2.2.2.2.2.2 = 0 then (if bt179.1 = true then (if bt179.2.1 = bt179.2.2.2.1 then (if bt179.2.2.1 = bt179.2.2.2.1 then (if bt179.2.2.2.1 < 1 then (some false) else ((plane_Simple.f k y166).bind fun t188 => (if t188 = true then (some true) else (some false)))) else (some false)) else (some false)) else (some false)) else (some false)) else (some false)) else (some false)) else (some false)) else (some false))) = some r := by first | (rw [hy173]; with_reducible exact H) | (have H2_ := (Option.bind_some _ _).symm.trans H; rw [hy173]; with_reducible exact H2_) | (have H2_ := (Option.bind_some _ _).symm.trans H; with_reducible exact H2_) | with_reducible exact H | (rw [hy173]; exact H) | exact H
 have Ny173 := Aside0.mk hy173
 clear hy173
 obtain ⟨y176, hy176⟩ : ∃ y_ : List (S31), y_ = (([(⟨0, 2⟩ : S31), (⟨2, 0⟩ : S31)] : List (S31))) := ⟨_, rfl⟩
 replace H : ((plane_Separate.f k y173 y176).bind fun bt179 => (if t170 = 0 then (if t169 = 12 then (if t172 = 0 then (if t171 = 1 then (if bt179.2.2.2.2.2.2.2 = 0 then (if bt179.1 = true then (if bt179.2.1 = bt179.2.2.2.1 then (if bt179.2.2.1 = bt179.2.2.2.1 then (if bt179.2.2.2.1 < 1 then (some false) else ((plane_Simple.f k y166).bind fun t188 => (if t188 = true then (some true) else (some false)))) else (some false)) else (some false)) else (some false)) else (some false)) else (some false)) else (some false)) else (some false)) else (some false))) = some r := by first | (rw [hy176]; with_reducible exact H) | (have H2_ := (Option.bind_some _ _).symm.trans H; rw [hy176]; with_reducible exact H2_) | (have H2_ := (Option.bind_some _ _).symm.trans H; with_reducible exact H2_) | with_reducible exact H | (rw [hy176]; exact H) | exact H
 have Ny176 := Aside0.mk hy176
 clear hy176
 replace H := Option.bind_eq_some_iff.mp H
 obtain ⟨⟨t179, t180, t181, t182, t183, t184, t185, t186⟩, A30, H⟩ := H
 replace H : (if t170 = 0 then (if t169 = 12 then (if t172 = 0 then (if t171 = 1 then (if t186 = 0 then (if t179 = true then (if t180 = t182 then (if t181 = t182 then (if t182 < 1 then (some false) else ((plane_Simple.f k y166).bind fun t188 => (if t188 = true then (some true) else (some false)))) else (some false)) else (some false)) else (some false)) else (some false)) else (some false)) else (some false)) else (some false)) else (some false)) = some r := H
 have A3 := Aside0.mk A30
 clear A30
 by_cases c4 : t170 = 0
 rw [if_pos c4] at H
 have c4b0 : (t170 == 0) = true := beq_iff_eq.mpr c4
 have c4b1 : (t170 != 0) = false := bne_eq_false_iff_eq.mpr c4
 clear c4
 by_cases c5 : t169 = 12
 rw [if_pos c5] at H
 have c5b0 : (t169 == 12) = true := beq_iff_eq.mpr c5
 have c5b1 : (t169 != 12) = false := bne_eq_false_iff_eq.mpr c5
 clear c5
 by_cases c6 : t172 = 0
 rw [if_pos c6] at H
 have c6b0 : (t172 == 0) = true := beq_iff_eq.mpr c6
 have c6b1 : (t172 != 0) = false := bne_eq_false_iff_eq.mpr c6
 clear c6
 by_cases c7 : t171 = 1
 rw [if_pos c7] at H
 have c7b0 : (t171 == 1) = true := beq_iff_eq.mpr c7
 have c7b1 : (t171 != 1) = false := bne_eq_false_iff_eq.mpr c7
 clear c7
 by_cases c8 : t186 = 0
 rw [if_pos c8] at H
 have c8b0 : (t186 == 0) = true := beq_iff_eq.mpr c8
 have c8b1 : (t186 != 0) = false := bne_eq_false_iff_eq.mpr c8
 clear c8
 by_cases c9 : t179 = true
 subst c9
 have H1 : (if t180 = t182 then (if t181 = t182 then (if t182 < 1 then (some false) else ((plane_Simple.f k y166).bind fun t188 => (if t188 = true then (some true) else (some false)))) else (some false)) else (some false)) = some r := by rw [if_pos rfl] at H; exact H
 clear H
 have H := H1
 clear H1
 by_cases c10 : t180 = t182
 rw [if_pos c10] at H
 have c10b0 : (t180 == t182) = true := beq_iff_eq.mpr c10
 have c10b1 : (t180 != t182) = false := bne_eq_false_iff_eq.mpr c10
 clear c10
 by_cases c11 : t181 = t182
 rw [if_pos c11] at H
 have c11b0 : (t181 == t182) = true := beq_iff_eq.mpr c11
 have c11b1 : (t181 != t182) = false := bne_eq_false_iff_eq.mpr c11
 clear c11
 by_cases c12 : t182 < 1
 rw [if_pos c12] at H
 have c12b0 : decide (t182 < 1) = true := decide_eq_true c12
 clear c12
 obtain rfl := Option.some.inj H
 rotate_left 1
 rw [if_neg c12] at H
 have c12b0 : decide (t182 < 1) = false := decide_eq_false c12
 clear c12
 replace H := Option.bind_eq_some_iff.mp H
 obtain ⟨t188, A270, H⟩ := H
 replace H : (if t188 = true then (some true) else (some false)) = some r := H
 have A27 := Aside0.mk A270
 clear A270
 by_cases c28 : t188 = true
 subst c28
 have H1 : (some true) = some r := by rw [if_pos rfl] at H; exact H
 clear H
 have H := H1
 clear H1
 obtain rfl := Option.some.inj H
 rotate_left 1
 replace c28 := Bool.eq_false_iff.mpr c28
 subst c28
 have H1 : (some false) = some r := by rw [if_neg (show ¬ (false = true) by decide)] at H; exact H
 clear H
 have H := H1
 clear H1
 obtain rfl := Option.some.inj H
 rotate_left 1
 rw [if_neg c11] at H
 have c11b0 : (t181 == t182) = false := beq_eq_false_iff_ne.mpr c11
 have c11b1 : (t181 != t182) = true := bne_iff_ne.mpr c11
 obtain rfl := Option.some.inj H
 rotate_left 1
 rw [if_neg c10] at H
 have c10b0 : (t180 == t182) = false := beq_eq_false_iff_ne.mpr c10
 have c10b1 : (t180 != t182) = true := bne_iff_ne.mpr c10
 obtain rfl := Option.some.inj H
 rotate_left 1
 replace c9 := Bool.eq_false_iff.mpr c9
 subst c9
 have H1 : (some false) = some r := by rw [if_neg (show ¬ (false = true) by decide)] at H; exact H
 clear H
 have H := H1
 clear H1
 obtain rfl := Option.some.inj H
 rotate_left 1
 rw [if_neg c8] at H
 have c8b0 : (t186 == 0) = false := beq_eq_false_iff_ne.mpr c8
 have c8b1 : (t186 != 0) = true := bne_iff_ne.mpr c8
 obtain rfl := Option.some.inj H
 rotate_left 1
 rw [if_neg c7] at H
 have c7b0 : (t171 == 1) = false := beq_eq_false_iff_ne.mpr c7
 have c7b1 : (t171 != 1) = true := bne_iff_ne.mpr c7
 obtain rfl := Option.some.inj H
 rotate_left 1
 rw [if_neg c6] at H
 have c6b0 : (t172 == 0) = false := beq_eq_false_iff_ne.mpr c6
 have c6b1 : (t172 != 0) = true := bne_iff_ne.mpr c6
 obtain rfl := Option.some.inj H
 rotate_left 1
 rw [if_neg c5] at H
 have c5b0 : (t169 == 12) = false := beq_eq_false_iff_ne.mpr c5
 have c5b1 : (t169 != 12) = true := bne_iff_ne.mpr c5
 obtain rfl := Option.some.inj H
 rotate_left 1
 rw [if_neg c4] at H
 have c4b0 : (t170 == 0) = false := beq_eq_false_iff_ne.mpr c4
 have c4b1 : (t170 != 0) = true := bne_iff_ne.mpr c4
 obtain rfl := Option.some.inj H
 all_goals go_enter Try.func23, Try.ntmps23
 all_goals go_wp2_with (first | ((with_reducible refine gate_dst (N := 12) rfl ?_); refine Kd.R_lit k31 _ 31 ?hg (N := 12) ?hd (xs := ([(⟨0, 0⟩ : S31), (⟨4, 0⟩ : S31), (⟨4, 4⟩ : S31), (⟨2, 1⟩ : S31)] : List (S31))) (inner := [.int .i64 0, .int .i64 0, .int .i64 4, .int .i64 0, .int .i64 4, .int .i64 4, .int .i64 2, .int .i64 1]) (ok := fun _ => True) (okp := fun _ => True) ?hr ?hp (fun _ hk => hk) trivial (Below.refl _ _) (Nat.le_refl _) (by simp) ?_; (case hd => rfl); (case hg => rfl); (case hr => first | (go_simp; done) | (go_simp; rfl)); (case hp => exact (Reps.c2 (show Kd.M k31 _ _ _ (⟨0, 0⟩ : S31) [.int .i64 0, .int .i64 0] from (k31_mkM _ _ _ (⟨0, 0⟩ : S31) )) (Reps.c2 (show Kd.M k31 _ _ _ (⟨4, 0⟩ : S31) [.int .i64 4, .int .i64 0] from (k31_mkM _ _ _ (⟨4, 0⟩ : S31) )) (Reps.c2 (show Kd.M k31 _ _ _ (⟨4, 4⟩ : S31) [.int .i64 4, .int .i64 4] from (k31_mkM _ _ _ (⟨4, 4⟩ : S31) )) (Reps.c2 (show Kd.M k31 _ _ _ (⟨2, 1⟩ : S31) [.int .i64 2, .int .i64 1] from (k31_mkM _ _ _ (⟨2, 1⟩ : S31) )) (Reps.none _ _)))))); intro v167 wz0 hoz1 hb hg_ hnew_; clear hg_ hnew_; (first | rw [← Ny166.out] at hoz1 | (simp only [Int.reduceToNat] at hoz1; rw [← Ny166.out] at hoz1)); have n0_ := Aside0.mk (Kd.R_lower hoz1 (below_size lB)); have n1_ := Aside0.mk (below_step lB hb); clear HB; have HO168 := n0_; have HB := n1_; clear n0_ n1_; clear hb hoz1; obtain ⟨Aoz2, coz3, eoz4⟩ := Kd.R_slice HO168.out; subst eoz4) | ((with_reducible refine gate_callee (f := 21) rfl ?_); refine goesL_ (some 15) rfl rfl Try.func21 (by kernel_rfl) rfl #[.slice Aoz2 y166.length coz3] rfl (by (try simp only [List.map_toArray, List.map_cons, List.map_nil]); first | done | rfl | (simp only [List.length_drop, List.length_take]; rfl)) ?_; (with_reducible refine (plane_Area.calls _ _ y166 t169 t170 _ ?side1 ?side2 A1.out).mono ?_); (case side1 => repeat (first | exact (Kd.R_reads' HO168.out).2.2 | (with_reducible refine Kd.C_alloc ?_ _) | (with_reducible refine Kd.C_drewN ?_ _) | (with_reducible refine Kd.C_drew ?_))); (case side2 => exact (Kd.R_reads' HO168.out).2.1); rintro e wz5 ⟨rfl, hb⟩; refine ⟨_, rfl, ?_⟩; have n0_ := Aside0.mk (Kd.R_below (by (with_reducible repeat (first | apply Kd.R_alloc | apply Kd.R_drewN | apply Kd.R_drew)); exact HO168.out) hb); have n1_ := Aside0.mk (below_step lB hb); clear HO168; clear HB; have HO168 := n0_; have HB := n1_; clear n0_ n1_; (try clear hb); (try clear hb2); (try clear hk); (try clear hi)) | ((with_reducible refine gate_callee (f := 27) rfl ?_); refine goesL_ (some 21) rfl rfl Try.func27 (by kernel_rfl) rfl #[.slice Aoz2 y166.length coz3, .agg #[.int .i64 3, .int .i64 1]] rfl (by (try simp only [List.map_toArray, List.map_cons, List.map_nil]); first | done | rfl | (simp only [List.length_drop, List.length_take]; rfl)) ?_; (with_reducible refine (plane_Inside.calls k _ _ y166 3 1 t171 t172 _ ?side1 ?side2 A2.out).mono ?_); (case side1 => repeat (first | exact (Kd.R_reads' HO168.out).2.2 | (with_reducible refine Kd.C_alloc ?_ _) | (with_reducible refine Kd.C_drewN ?_ _) | (with_reducible refine Kd.C_drew ?_))); (case side2 => exact (Kd.R_reads' HO168.out).2.1); rintro e wz6 ⟨rfl, hb⟩; refine ⟨_, rfl, ?_⟩; have n0_ := Aside0.mk (Kd.R_below (by (with_reducible repeat (first | apply Kd.R_alloc | apply Kd.R_drewN | apply Kd.R_drew)); exact HO168.out) hb); have n1_ := Aside0.mk (below_step lB hb); clear HO168; clear HB; have HO168 := n0_; have HB := n1_; clear n0_ n1_; (try clear hb); (try clear hb2); (try clear hk); (try clear hi)) | ((with_reducible refine gate_dst (N := 27) rfl ?_); refine Kd.R_lit k31 _ 31 ?hg (N := 27) ?hd (xs := ([(⟨0, 0⟩ : S31), (⟨2, 2⟩ : S31)] : List (S31))) (inner := [.int .i64 0, .int .i64 0, .int .i64 2, .int .i64 2]) (ok := fun _ => True) (okp := fun _ => True) ?hr ?hp (fun _ hk => hk) trivial (Below.refl _ _) (Nat.le_refl _) (by simp) ?_; (case hd => rfl); (case hg => rfl); (case hr => first | (go_simp; done) | (go_simp; rfl)); (case hp => exact (Reps.c2 (show Kd.M k31 _ _ _ (⟨0, 0⟩ : S31) [.int .i64 0, .int .i64 0] from (k31_mkM _ _ _ (⟨0, 0⟩ : S31) )) (Reps.c2 (show Kd.M k31 _ _ _ (⟨2, 2⟩ : S31) [.int .i64 2, .int .i64 2] from (k31_mkM _ _ _ (⟨2, 2⟩ : S31) )) (Reps.none _ _)))); intro v174 wz7 hoz8 hb hg_ hnew_; clear hg_ hnew_; (first | rw [← Ny173.out] at hoz8 | (simp only [Int.reduceToNat] at hoz8; rw [← Ny173.out] at hoz8)); have n0_ := Aside0.mk (Kd.R_elder' (by (with_reducible repeat (first | apply Kd.R_alloc | apply Kd.R_drewN | apply Kd.R_drew)); exact HO168.out) (Kd.R_base hoz8) hb); have n1_ := Aside0.mk (Kd.R_lower (Kd.R_new' hoz8 (Kd.R_lt (by (with_reducible repeat (first | apply Kd.R_alloc | apply Kd.R_drewN | apply Kd.R_drew)); exact HO168.out))) (below_size lB)); have n2_ := Aside0.mk (below_step lB hb); clear HO168; clear HB; have HO168 := n0_; have HO175 := n1_; have HB := n2_; clear n0_ n1_ n2_; clear hb hoz8) | ((with_reducible refine gate_dst (N := 30) rfl ?_); refine Kd.R_lit k31 _ 31 ?hg (N := 30) ?hd (xs := ([(⟨0, 2⟩ : S31), (⟨2, 0⟩ : S31)] : List (S31))) (inner := [.int .i64 0, .int .i64 2, .int .i64 2, .int .i64 0]) (ok := fun _ => True) (okp := fun _ => True) ?hr ?hp (fun _ hk => hk) trivial (Below.refl _ _) (Nat.le_refl _) (by simp) ?_; (case hd => rfl); (case hg => rfl); (case hr => first | (go_simp; done) | (go_simp; rfl)); (case hp => exact (Reps.c2 (show Kd.M k31 _ _ _ (⟨0, 2⟩ : S31) [.int .i64 0, .int .i64 2] from (k31_mkM _ _ _ (⟨0, 2⟩ : S31) )) (Reps.c2 (show Kd.M k31 _ _ _ (⟨2, 0⟩ : S31) [.int .i64 2, .int .i64 0] from (k31_mkM _ _ _ (⟨2, 0⟩ : S31) )) (Reps.none _ _)))); intro v177 wz9 hoz10 hb hg_ hnew_; clear hg_ hnew_; (first | rw [← Ny176.out] at hoz10 | (simp only [Int.reduceToNat] at hoz10; rw [← Ny176.out] at hoz10)); have n0_ := Aside0.mk (Kd.R_elder' (by (with_reducible repeat (first | apply Kd.R_alloc | apply Kd.R_drewN | apply Kd.R_drew)); exact HO168.out) (Kd.R_base hoz10) hb); have n1_ := Aside0.mk (Kd.R_elder' (by (with_reducible repeat (first | apply Kd.R_alloc | apply Kd.R_drewN | apply Kd.R_drew)); exact HO175.out) (Kd.R_base hoz10) hb); have n2_ := Aside0.mk (Kd.R_lower (Kd.R_new' (Kd.R_new' hoz10 (Kd.R_lt (by (with_reducible repeat (first | apply Kd.R_alloc | apply Kd.R_drewN | apply Kd.R_drew)); exact HO168.out))) (Kd.R_lt (by (with_reducible repeat (first | apply Kd.R_alloc | apply Kd.R_drewN | apply Kd.R_drew)); exact HO175.out))) (below_size lB)); have n3_ := Aside0.mk (below_step lB hb); clear HO168; clear HO175; clear HB; have HO168 := n0_; have HO175 := n1_; have HO178 := n2_; have HB := n3_; clear n0_ n1_ n2_ n3_; clear hb hoz10; obtain ⟨Aoz11, coz12, eoz13⟩ := Kd.R_slice HO175.out; subst eoz13; obtain ⟨Aoz14, coz15, eoz16⟩ := Kd.R_slice HO178.out; subst eoz16) | ((with_reducible refine gate_callee (f := 37) rfl ?_); refine goesL_ (some 31) rfl rfl Try.func37 (by kernel_rfl) rfl #[.slice Aoz11 y173.length coz12, .slice Aoz14 y176.length coz15] rfl (by (try simp only [List.map_toArray, List.map_cons, List.map_nil]); first | done | rfl | (simp only [List.length_drop, List.length_take]; rfl)) ?_; (with_reducible refine (plane_Separate.calls k _ _ y173 _ _ y176 t179 t180 t181 t182 t183 t184 t185 t186 _ ?side1 ?side2 ?side3 ?side4 A3.out).mono ?_); (case side1 => repeat (first | exact (Kd.R_reads' HO175.out).2.2 | (with_reducible refine Kd.C_alloc ?_ _) | (with_reducible refine Kd.C_drewN ?_ _) | (with_reducible refine Kd.C_drew ?_))); (case side2 => exact (Kd.R_reads' HO175.out).2.1); (case side3 => repeat (first | exact (Kd.R_reads' HO178.out).2.2 | (with_reducible refine Kd.C_alloc ?_ _) | (with_reducible refine Kd.C_drewN ?_ _) | (with_reducible refine Kd.C_drew ?_))); (case side4 => exact (Kd.R_reads' HO178.out).2.1); rintro e wz17 ⟨rfl, hb⟩; refine ⟨_, rfl, ?_⟩; have n0_ := Aside0.mk (Kd.R_below (by (with_reducible repeat (first | apply Kd.R_alloc | apply Kd.R_drewN | apply Kd.R_drew)); exact HO168.out) hb); have n1_ := Aside0.mk (Kd.R_below (by (with_reducible repeat (first | apply Kd.R_alloc | apply Kd.R_drewN | apply Kd.R_drew)); exact HO175.out) hb); have n2_ := Aside0.mk (Kd.R_below (by (with_reducible repeat (first | apply Kd.R_alloc | apply Kd.R_drewN | apply Kd.R_drew)); exact HO178.out) hb); have n3_ := Aside0.mk (below_step lB hb); clear HO168; clear HO175; clear HO178; clear HB; have HO168 := n0_; have HO175 := n1_; have HO178 := n2_; have HB := n3_; clear n0_ n1_ n2_ n3_; (try clear hb); (try clear hb2); (try clear hk); (try clear hi)) | ((with_reducible refine gate_callee (f := 37) rfl ?_); refine goesL_ (some 31) rfl rfl Try.func37 (by kernel_rfl) rfl #[.slice Aoz11 y173.length coz12, .slice Aoz14 y176.length coz15] rfl (by (try simp only [List.map_toArray, List.map_cons, List.map_nil]); first | done | rfl | (simp only [List.length_drop, List.length_take]; rfl)) ?_; (with_reducible refine (plane_Separate.calls k _ _ y173 _ _ y176 false t180 t181 t182 t183 t184 t185 t186 _ ?side1 ?side2 ?side3 ?side4 A3.out).mono ?_); (case side1 => repeat (first | exact (Kd.R_reads' HO175.out).2.2 | (with_reducible refine Kd.C_alloc ?_ _) | (with_reducible refine Kd.C_drewN ?_ _) | (with_reducible refine Kd.C_drew ?_))); (case side2 => exact (Kd.R_reads' HO175.out).2.1); (case side3 => repeat (first | exact (Kd.R_reads' HO178.out).2.2 | (with_reducible refine Kd.C_alloc ?_ _) | (with_reducible refine Kd.C_drewN ?_ _) | (with_reducible refine Kd.C_drew ?_))); (case side4 => exact (Kd.R_reads' HO178.out).2.1); rintro e wz17 ⟨rfl, hb⟩; refine ⟨_, rfl, ?_⟩; have n0_ := Aside0.mk (Kd.R_below (by (with_reducible repeat (first | apply Kd.R_alloc | apply Kd.R_drewN | apply Kd.R_drew)); exact HO168.out) hb); have n1_ := Aside0.mk (Kd.R_below (by (with_reducible repeat (first | apply Kd.R_alloc | apply Kd.R_drewN | apply Kd.R_drew)); exact HO175.out) hb); have n2_ := Aside0.mk (Kd.R_below (by (with_reducible repeat (first | apply Kd.R_alloc | apply Kd.R_drewN | apply Kd.R_drew)); exact HO178.out) hb); have n3_ := Aside0.mk (below_step lB hb); clear HO168; clear HO175; clear HO178; clear HB; have HO168 := n0_; have HO175 := n1_; have HO178 := n2_; have HB := n3_; clear n0_ n1_ n2_ n3_; (try clear hb); (try clear hb2); (try clear hk); (try clear hi)) | ((with_reducible refine gate_callee (f := 37) rfl ?_); refine goesL_ (some 31) rfl rfl Try.func37 (by kernel_rfl) rfl #[.slice Aoz11 y173.length coz12, .slice Aoz14 y176.length coz15] rfl (by (try simp only [List.map_toArray, List.map_cons, List.map_nil]); first | done | rfl | (simp only [List.length_drop, List.length_take]; rfl)) ?_; (with_reducible refine (plane_Separate.calls k _ _ y173 _ _ y176 true t180 t181 t182 t183 t184 t185 t186 _ ?side1 ?side2 ?side3 ?side4 A3.out).mono ?_); (case side1 => repeat (first | exact (Kd.R_reads' HO175.out).2.2 | (with_reducible refine Kd.C_alloc ?_ _) | (with_reducible refine Kd.C_drewN ?_ _) | (with_reducible refine Kd.C_drew ?_))); (case side2 => exact (Kd.R_reads' HO175.out).2.1); (case side3 => repeat (first | exact (Kd.R_reads' HO178.out).2.2 | (with_reducible refine Kd.C_alloc ?_ _) | (with_reducible refine Kd.C_drewN ?_ _) | (with_reducible refine Kd.C_drew ?_))); (case side4 => exact (Kd.R_reads' HO178.out).2.1); rintro e wz17 ⟨rfl, hb⟩; refine ⟨_, rfl, ?_⟩; have n0_ := Aside0.mk (Kd.R_below (by (with_reducible repeat (first | apply Kd.R_alloc | apply Kd.R_drewN | apply Kd.R_drew)); exact HO168.out) hb); have n1_ := Aside0.mk (Kd.R_below (by (with_reducible repeat (first | apply Kd.R_alloc | apply Kd.R_drewN | apply Kd.R_drew)); exact HO175.out) hb); have n2_ := Aside0.mk (Kd.R_below (by (with_reducible repeat (first | apply Kd.R_alloc | apply Kd.R_drewN | apply Kd.R_drew)); exact HO178.out) hb); have n3_ := Aside0.mk (below_step lB hb); clear HO168; clear HO175; clear HO178; clear HB; have HO168 := n0_; have HO175 := n1_; have HO178 := n2_; have HB := n3_; clear n0_ n1_ n2_ n3_; (try clear hb); (try clear hb2); (try clear hk); (try clear hi)) | ((with_reducible refine gate_dst (N := 6) rfl ?_); refine bxe 6 #[.bool false, .int .i64 0, .int .i64 0, .int .i64 0, .int .i64 0, .int .i64 0, .int .i64 0] 44 ?_; intro gb187 hg wz18 hbox hb; have n0_ := Aside0.mk (Kd.R_below (by (with_reducible repeat (first | apply Kd.R_alloc | apply Kd.R_drewN | apply Kd.R_drew)); exact HO168.out) hb); have n1_ := Aside0.mk (Kd.R_below (by (with_reducible repeat (first | apply Kd.R_alloc | apply Kd.R_drewN | apply Kd.R_drew)); exact HO175.out) hb); have n2_ := Aside0.mk (Kd.R_below (by (with_reducible repeat (first | apply Kd.R_alloc | apply Kd.R_drewN | apply Kd.R_drew)); exact HO178.out) hb); have n3_ := Aside0.mk (below_step lB hb); have n4_ := Aside0.mk (hbox); have n5_ := Aside0.mk (lG (w := w) hg); have n6_ := Aside0.mk (lG (w := w) hg); clear HO168; clear HO175; clear HO178; clear HB; have HO168 := n0_; have HO175 := n1_; have HO178 := n2_; have HB := n3_; have BK187 := n4_; have GW187 := n5_; have GE187 := n6_; clear n0_ n1_ n2_ n3_ n4_ n5_ n6_; clear hb hbox hg; have hcz100_0 : wz18.cell? ⟨gb187, 0, none⟩ = some (.bool false) := (blk_cell BK187.out 0).trans rfl; have hcz100_1 : wz18.cell? ⟨gb187, 1, none⟩ = some (.int .i64 0) := (blk_cell BK187.out 1).trans rfl; have hcz100_2 : wz18.cell? ⟨gb187, 2, none⟩ = some (.int .i64 0) := (blk_cell BK187.out 2).trans rfl; have hcz100_3 : wz18.cell? ⟨gb187, 3, none⟩ = some (.int .i64 0) := (blk_cell BK187.out 3).trans rfl; have hcz100_4 : wz18.cell? ⟨gb187, 4, none⟩ = some (.int .i64 0) := (blk_cell BK187.out 4).trans rfl; have hcz100_5 : wz18.cell? ⟨gb187, 5, none⟩ = some (.int .i64 0) := (blk_cell BK187.out 5).trans rfl; have hcz100_6 : wz18.cell? ⟨gb187, 6, none⟩ = some (.int .i64 0) := (blk_cell BK187.out 6).trans rfl; have hfz100_0 := blk_frozen BK187.out 0; have hfz100_1 := blk_frozen BK187.out 1; have hfz100_2 := blk_frozen BK187.out 2; have hfz100_3 := blk_frozen BK187.out 3; have hfz100_4 := blk_frozen BK187.out 4; have hfz100_5 := blk_frozen BK187.out 5; have hfz100_6 := blk_frozen BK187.out 6) | (go_at_call 25; (with_reducible refine (plane_Simple.calls k _ _ y166 false _ ?side1 ?side2 A27.out).mono ?_); (case side1 => refine (Kd.R_reads' (e := 31) (base := w.heap.size) (ok := fun k_ => ((True ∧ some k_ ≠ (.slice Aoz11 y173.length coz12 : Value).ownBlock) ∧ some k_ ≠ (.slice Aoz14 y176.length coz15 : Value).ownBlock)) (n := y166.length) (c := coz3) ?_).2.2; exact (by (with_reducible repeat (first | apply Kd.R_alloc | apply Kd.R_drewN | apply Kd.R_drew)); exact (Kd.R_mono (Kd.R_far (p := ⟨gb187, 6, none⟩) (Kd.R_far (p := ⟨gb187, 5, none⟩) (Kd.R_far (p := ⟨gb187, 4, none⟩) (Kd.R_far (p := ⟨gb187, 3, none⟩) (Kd.R_far (p := ⟨gb187, 2, none⟩) (Kd.R_far (p := ⟨gb187, 1, none⟩) (Kd.R_far (p := ⟨gb187, 0, none⟩) (Kd.R_types HO168.out BK187.out (by decide)) (fun _ hk => hk.2) (.bool true)) (fun _ hk => hk.2) (.int .i64 t180)) (fun _ hk => hk.2) (.int .i64 t181)) (fun _ hk => hk.2) (.int .i64 t182)) (fun _ hk => hk.2) (.int .i64 t183)) (fun _ hk => hk.2) (.int .i64 t184)) (fun _ hk => hk.2) (.int .i64 t185)) (fun _ h_ => h_.1)))); (case side2 => exact (Kd.R_reads' HO168.out).2.1); rintro e wz19 ⟨rfl, hb⟩; have n0_ := Aside0.mk (Kd.R_below (by (with_reducible repeat (first | apply Kd.R_alloc | apply Kd.R_drewN | apply Kd.R_drew)); exact (Kd.R_mono (Kd.R_far (p := ⟨gb187, 6, none⟩) (Kd.R_far (p := ⟨gb187, 5, none⟩) (Kd.R_far (p := ⟨gb187, 4, none⟩) (Kd.R_far (p := ⟨gb187, 3, none⟩) (Kd.R_far (p := ⟨gb187, 2, none⟩) (Kd.R_far (p := ⟨gb187, 1, none⟩) (Kd.R_far (p := ⟨gb187, 0, none⟩) (Kd.R_types HO168.out BK187.out (by decide)) (fun _ hk => hk.2) (.bool true)) (fun _ hk => hk.2) (.int .i64 t180)) (fun _ hk => hk.2) (.int .i64 t181)) (fun _ hk => hk.2) (.int .i64 t182)) (fun _ hk => hk.2) (.int .i64 t183)) (fun _ hk => hk.2) (.int .i64 t184)) (fun _ hk => hk.2) (.int .i64 t185)) (fun _ h_ => h_.1))) hb); have n1_ := Aside0.mk (Kd.R_below (by (with_reducible repeat (first | apply Kd.R_alloc | apply Kd.R_drewN | apply Kd.R_drew)); exact (Kd.R_mono (Kd.R_far (p := ⟨gb187, 6, none⟩) (Kd.R_far (p := ⟨gb187, 5, none⟩) (Kd.R_far (p := ⟨gb187, 4, none⟩) (Kd.R_far (p := ⟨gb187, 3, none⟩) (Kd.R_far (p := ⟨gb187, 2, none⟩) (Kd.R_far (p := ⟨gb187, 1, none⟩) (Kd.R_far (p := ⟨gb187, 0, none⟩) (Kd.R_types HO175.out BK187.out (by decide)) (fun _ hk => hk.2) (.bool true)) (fun _ hk => hk.2) (.int .i64 t180)) (fun _ hk => hk.2) (.int .i64 t181)) (fun _ hk => hk.2) (.int .i64 t182)) (fun _ hk => hk.2) (.int .i64 t183)) (fun _ hk => hk.2) (.int .i64 t184)) (fun _ hk => hk.2) (.int .i64 t185)) (fun _ h_ => h_.1))) hb); have n2_ := Aside0.mk (Kd.R_below (by (with_reducible repeat (first | apply Kd.R_alloc | apply Kd.R_drewN | apply Kd.R_drew)); exact (Kd.R_mono (Kd.R_far (p := ⟨gb187, 6, none⟩) (Kd.R_far (p := ⟨gb187, 5, none⟩) (Kd.R_far (p := ⟨gb187, 4, none⟩) (Kd.R_far (p := ⟨gb187, 3, none⟩) (Kd.R_far (p := ⟨gb187, 2, none⟩) (Kd.R_far (p := ⟨gb187, 1, none⟩) (Kd.R_far (p := ⟨gb187, 0, none⟩) (Kd.R_types HO178.out BK187.out (by decide)) (fun _ hk => hk.2) (.bool true)) (fun _ hk => hk.2) (.int .i64 t180)) (fun _ hk => hk.2) (.int .i64 t181)) (fun _ hk => hk.2) (.int .i64 t182)) (fun _ hk => hk.2) (.int .i64 t183)) (fun _ hk => hk.2) (.int .i64 t184)) (fun _ hk => hk.2) (.int .i64 t185)) (fun _ h_ => h_.1))) hb); have n3_ := Aside0.mk (blk_below (g := gb187) (o := .cells #[.bool true, .int .i64 t180, .int .i64 t181, .int .i64 t182, .int .i64 t183, .int .i64 t184, .int .i64 t185] 44 (0, 0)) (by (with_reducible repeat (first | refine kN ?_ _ | refine kD ?_ | refine kA ?_ _)); refine blk_put (cs := #[.bool true, .int .i64 t180, .int .i64 t181, .int .i64 t182, .int .i64 t183, .int .i64 t184, .int .i64 0]) ?_ 6 _ rfl; (with_reducible repeat (first | refine kN ?_ _ | refine kD ?_ | refine kA ?_ _)); refine blk_put (cs := #[.bool true, .int .i64 t180, .int .i64 t181, .int .i64 t182, .int .i64 t183, .int .i64 0, .int .i64 0]) ?_ 5 _ rfl; (with_reducible repeat (first | refine kN ?_ _ | refine kD ?_ | refine kA ?_ _)); refine blk_put (cs := #[.bool true, .int .i64 t180, .int .i64 t181, .int .i64 t182, .int .i64 0, .int .i64 0, .int .i64 0]) ?_ 4 _ rfl; (with_reducible repeat (first | refine kN ?_ _ | refine kD ?_ | refine kA ?_ _)); refine blk_put (cs := #[.bool true, .int .i64 t180, .int .i64 t181, .int .i64 0, .int .i64 0, .int .i64 0, .int .i64 0]) ?_ 3 _ rfl; (with_reducible repeat (first | refine kN ?_ _ | refine kD ?_ | refine kA ?_ _)); refine blk_put (cs := #[.bool true, .int .i64 t180, .int .i64 0, .int .i64 0, .int .i64 0, .int .i64 0, .int .i64 0]) ?_ 2 _ rfl; (with_reducible repeat (first | refine kN ?_ _ | refine kD ?_ | refine kA ?_ _)); refine blk_put (cs := #[.bool true, .int .i64 0, .int .i64 0, .int .i64 0, .int .i64 0, .int .i64 0, .int .i64 0]) ?_ 1 _ rfl; (with_reducible repeat (first | refine kN ?_ _ | refine kD ?_ | refine kA ?_ _)); refine blk_put (cs := #[.bool false, .int .i64 0, .int .i64 0, .int .i64 0, .int .i64 0, .int .i64 0, .int .i64 0]) ?_ 0 _ rfl; (with_reducible repeat (first | refine kN ?_ _ | refine kD ?_ | refine kA ?_ _)); exact BK187.out) hb); have n4_ := Aside0.mk (below_step lB hb); clear HO168; clear HO175; clear HO178; clear BK187; clear HB; have HO168 := n0_; have HO175 := n1_; have HO178 := n2_; have BK187 := n3_; have HB := n4_; clear n0_ n1_ n2_ n3_ n4_; (try clear hb); (try clear hb2); (try clear hk); (try clear hi)) | (go_at_call 25; (with_reducible refine (plane_Simple.calls k _ _ y166 true _ ?side1 ?side2 A27.out).mono ?_); (case side1 => refine (Kd.R_reads' (e := 31) (base := w.heap.size) (ok := fun k_ => ((True ∧ some k_ ≠ (.slice Aoz11 y173.length coz12 : Value).ownBlock) ∧ some k_ ≠ (.slice Aoz14 y176.length coz15 : Value).ownBlock)) (n := y166.length) (c := coz3) ?_).2.2; exact (by (with_reducible repeat (first | apply Kd.R_alloc | apply Kd.R_drewN | apply Kd.R_drew)); exact (Kd.R_mono (Kd.R_far (p := ⟨gb187, 6, none⟩) (Kd.R_far (p := ⟨gb187, 5, none⟩) (Kd.R_far (p := ⟨gb187, 4, none⟩) (Kd.R_far (p := ⟨gb187, 3, none⟩) (Kd.R_far (p := ⟨gb187, 2, none⟩) (Kd.R_far (p := ⟨gb187, 1, none⟩) (Kd.R_far (p := ⟨gb187, 0, none⟩) (Kd.R_types HO168.out BK187.out (by decide)) (fun _ hk => hk.2) (.bool true)) (fun _ hk => hk.2) (.int .i64 t180)) (fun _ hk => hk.2) (.int .i64 t181)) (fun _ hk => hk.2) (.int .i64 t182)) (fun _ hk => hk.2) (.int .i64 t183)) (fun _ hk => hk.2) (.int .i64 t184)) (fun _ hk => hk.2) (.int .i64 t185)) (fun _ h_ => h_.1)))); (case side2 => exact (Kd.R_reads' HO168.out).2.1); rintro e wz19 ⟨rfl, hb⟩; have n0_ := Aside0.mk (Kd.R_below (by (with_reducible repeat (first | apply Kd.R_alloc | apply Kd.R_drewN | apply Kd.R_drew)); exact (Kd.R_mono (Kd.R_far (p := ⟨gb187, 6, none⟩) (Kd.R_far (p := ⟨gb187, 5, none⟩) (Kd.R_far (p := ⟨gb187, 4, none⟩) (Kd.R_far (p := ⟨gb187, 3, none⟩) (Kd.R_far (p := ⟨gb187, 2, none⟩) (Kd.R_far (p := ⟨gb187, 1, none⟩) (Kd.R_far (p := ⟨gb187, 0, none⟩) (Kd.R_types HO168.out BK187.out (by decide)) (fun _ hk => hk.2) (.bool true)) (fun _ hk => hk.2) (.int .i64 t180)) (fun _ hk => hk.2) (.int .i64 t181)) (fun _ hk => hk.2) (.int .i64 t182)) (fun _ hk => hk.2) (.int .i64 t183)) (fun _ hk => hk.2) (.int .i64 t184)) (fun _ hk => hk.2) (.int .i64 t185)) (fun _ h_ => h_.1))) hb); have n1_ := Aside0.mk (Kd.R_below (by (with_reducible repeat (first | apply Kd.R_alloc | apply Kd.R_drewN | apply Kd.R_drew)); exact (Kd.R_mono (Kd.R_far (p := ⟨gb187, 6, none⟩) (Kd.R_far (p := ⟨gb187, 5, none⟩) (Kd.R_far (p := ⟨gb187, 4, none⟩) (Kd.R_far (p := ⟨gb187, 3, none⟩) (Kd.R_far (p := ⟨gb187, 2, none⟩) (Kd.R_far (p := ⟨gb187, 1, none⟩) (Kd.R_far (p := ⟨gb187, 0, none⟩) (Kd.R_types HO175.out BK187.out (by decide)) (fun _ hk => hk.2) (.bool true)) (fun _ hk => hk.2) (.int .i64 t180)) (fun _ hk => hk.2) (.int .i64 t181)) (fun _ hk => hk.2) (.int .i64 t182)) (fun _ hk => hk.2) (.int .i64 t183)) (fun _ hk => hk.2) (.int .i64 t184)) (fun _ hk => hk.2) (.int .i64 t185)) (fun _ h_ => h_.1))) hb); have n2_ := Aside0.mk (Kd.R_below (by (with_reducible repeat (first | apply Kd.R_alloc | apply Kd.R_drewN | apply Kd.R_drew)); exact (Kd.R_mono (Kd.R_far (p := ⟨gb187, 6, none⟩) (Kd.R_far (p := ⟨gb187, 5, none⟩) (Kd.R_far (p := ⟨gb187, 4, none⟩) (Kd.R_far (p := ⟨gb187, 3, none⟩) (Kd.R_far (p := ⟨gb187, 2, none⟩) (Kd.R_far (p := ⟨gb187, 1, none⟩) (Kd.R_far (p := ⟨gb187, 0, none⟩) (Kd.R_types HO178.out BK187.out (by decide)) (fun _ hk => hk.2) (.bool true)) (fun _ hk => hk.2) (.int .i64 t180)) (fun _ hk => hk.2) (.int .i64 t181)) (fun _ hk => hk.2) (.int .i64 t182)) (fun _ hk => hk.2) (.int .i64 t183)) (fun _ hk => hk.2) (.int .i64 t184)) (fun _ hk => hk.2) (.int .i64 t185)) (fun _ h_ => h_.1))) hb); have n3_ := Aside0.mk (blk_below (g := gb187) (o := .cells #[.bool true, .int .i64 t180, .int .i64 t181, .int .i64 t182, .int .i64 t183, .int .i64 t184, .int .i64 t185] 44 (0, 0)) (by (with_reducible repeat (first | refine kN ?_ _ | refine kD ?_ | refine kA ?_ _)); refine blk_put (cs := #[.bool true, .int .i64 t180, .int .i64 t181, .int .i64 t182, .int .i64 t183, .int .i64 t184, .int .i64 0]) ?_ 6 _ rfl; (with_reducible repeat (first | refine kN ?_ _ | refine kD ?_ | refine kA ?_ _)); refine blk_put (cs := #[.bool true, .int .i64 t180, .int .i64 t181, .int .i64 t182, .int .i64 t183, .int .i64 0, .int .i64 0]) ?_ 5 _ rfl; (with_reducible repeat (first | refine kN ?_ _ | refine kD ?_ | refine kA ?_ _)); refine blk_put (cs := #[.bool true, .int .i64 t180, .int .i64 t181, .int .i64 t182, .int .i64 0, .int .i64 0, .int .i64 0]) ?_ 4 _ rfl; (with_reducible repeat (first | refine kN ?_ _ | refine kD ?_ | refine kA ?_ _)); refine blk_put (cs := #[.bool true, .int .i64 t180, .int .i64 t181, .int .i64 0, .int .i64 0, .int .i64 0, .int .i64 0]) ?_ 3 _ rfl; (with_reducible repeat (first | refine kN ?_ _ | refine kD ?_ | refine kA ?_ _)); refine blk_put (cs := #[.bool true, .int .i64 t180, .int .i64 0, .int .i64 0, .int .i64 0, .int .i64 0, .int .i64 0]) ?_ 2 _ rfl; (with_reducible repeat (first | refine kN ?_ _ | refine kD ?_ | refine kA ?_ _)); refine blk_put (cs := #[.bool true, .int .i64 0, .int .i64 0, .int .i64 0, .int .i64 0, .int .i64 0, .int .i64 0]) ?_ 1 _ rfl; (with_reducible repeat (first | refine kN ?_ _ | refine kD ?_ | refine kA ?_ _)); refine blk_put (cs := #[.bool false, .int .i64 0, .int .i64 0, .int .i64 0, .int .i64 0, .int .i64 0, .int .i64 0]) ?_ 0 _ rfl; (with_reducible repeat (first | refine kN ?_ _ | refine kD ?_ | refine kA ?_ _)); exact BK187.out) hb); have n4_ := Aside0.mk (below_step lB hb); clear HO168; clear HO175; clear HO178; clear BK187; clear HB; have HO168 := n0_; have HO175 := n1_; have HO178 := n2_; have BK187 := n3_; have HB := n4_; clear n0_ n1_ n2_ n3_ n4_; (try clear hb); (try clear hb2); (try clear hk); (try clear hi)))
 all_goals go_ret
 all_goals first | (exact en)

end Go.Proofs.Ythaklbjcjoolcaa.P
namespace Go.Proofs.Ythaklbjcjoolcaa.P
open Go.RowKit YthaklbjcjoolcaaW.PrintWords YthaklbjcjoolcaaW.PrintLast YthaklbjcjoolcaaW.PrintMore
set_option maxRecDepth 100000
theorem awake_area : plane_Area.f [⟨0, 0⟩, ⟨4, 0⟩, ⟨4, 4⟩, ⟨2, 1⟩] = some (12, 0) := by decide +kernel
theorem awake_inside : plane_Inside.f 20 [⟨0, 0⟩, ⟨4, 0⟩, ⟨4, 4⟩, ⟨2, 1⟩] 3 1 = some (1, 0) := by decide +kernel
theorem awake_simple : plane_Simple.f 20 [⟨0, 0⟩, ⟨4, 0⟩, ⟨4, 4⟩, ⟨2, 1⟩] = some true := by decide +kernel
theorem awake_sep : sepL 20 [⟨0, 0⟩, ⟨2, 2⟩] [⟨0, 2⟩, ⟨2, 0⟩] (dirM [⟨0, 0⟩, ⟨2, 2⟩] [⟨0, 2⟩, ⟨2, 0⟩] 2) = some (true, 8, 8, 8, 0, 0, 0, 0) := by kernel_rfl
theorem sort_two (p q : S31) (h : ltP q p = false) : sortP [p, q] = [p, q] := by
 unfold sortP
 refine List.mergeSort_of_pairwise ?_
 refine List.Pairwise.cons ?_ (List.Pairwise.cons (fun _ h => by cases h) List.Pairwise.nil)
 intro x hx
 rw [List.mem_singleton] at hx
 rw [hx, h]; rfl
theorem corners_two (p q : S31) (h : ltP q p = false) (hd : ddL [p, q] 2 = [p, q]) : cornersS [p, q] = [p, q] := by
 unfold cornersS sortedS
 rw [sort_two p q h, show [p, q].length = 2 from rfl]
 show (if (ddL [p, q] 2).length < 3 then _ else _) = _
 rw [hd, if_pos (by simp)]
theorem awake_sepa : plane_Separate.f 20 [⟨0, 0⟩, ⟨2, 2⟩] [⟨0, 2⟩, ⟨2, 0⟩] = some (true, 8, 8, 8, 0, 0, 0, 0) := by
 unfold plane_Separate.f
 rw [if_pos (by decide +kernel), corners_two ⟨0, 0⟩ ⟨2, 2⟩ (by decide +kernel) (by kernel_rfl), corners_two ⟨0, 2⟩ ⟨2, 0⟩ (by decide +kernel) (by kernel_rfl), awake_sep]
theorem awake_is : L1_awake.f 20 = some true := by
 unfold L1_awake.f
 rw [Option.bind_some, awake_area, Option.bind_some, awake_inside, Option.bind_some, awake_sepa, Option.bind_some, awake_simple]
 rfl
end Go.Proofs.Ythaklbjcjoolcaa.P
namespace Go.Proofs.Ythaklbjcjoolcaa.P
open Go.RowKit YthaklbjcjoolcaaW.PrintWords YthaklbjcjoolcaaW.PrintLast YthaklbjcjoolcaaW.PrintMore
attribute [local go_sem] max2_int min2_int max_two min_two max_three min_three max_four min_four

def R1_Valid.f (a0_0 : Int) (a0_1 : Int) : Option (Bool) := if a0_0 ≥ (-4096) then (if a0_0 ≤ 4096 then (if a0_1 ≥ (-4096) then (some (decide (a0_1 ≤ 4096))) else (some false)) else (some false)) else (some false)
set_option maxHeartbeats 8000000 in
set_option maxRecDepth 100000 in
theorem R1_Valid.calls (a0_0 : Int) (a0_1 : Int) (r : Bool) (w : World) (h : R1_Valid.f a0_0 a0_1 = some r) :
  Calls Try.prog 28 #[.agg #[.int .i64 a0_0, .int .i64 a0_1]] w fun e w' => e = .returned (.bool r) ∧ Below w.heap.size w w' := by
 have hu31 := Try.underlying31
 have HB := Aside0.mk (Below.refl w.heap.size w)
 have H : (if a0_0 ≥ (-4096) then (if a0_0 ≤ 4096 then (if a0_1 ≥ (-4096) then (some (decide (a0_1 ≤ 4096))) else (some false)) else (some false)) else (some false)) = some r := h
 clear h
 by_cases c2 : a0_0 ≥ (-4096)
 ·rw [if_pos c2] at H
  have c2b0 : decide ((-4096) ≤ a0_0) = true := decide_eq_true c2
  clear c2
  by_cases c3 : a0_0 ≤ 4096
  ·rw [if_pos c3] at H
   have c3b0 : decide (a0_0 ≤ 4096) = true := decide_eq_true c3
   clear c3
   by_cases c4 : a0_1 ≥ (-4096)
   ·rw [if_pos c4] at H
    have c4b0 : decide ((-4096) ≤ a0_1) = true := decide_eq_true c4
    clear c4
    obtain rfl := Option.some.inj H
    go_enter Try.func28, Try.ntmps28
    go_wp2_with (first | ((with_reducible refine gate_dst (N := 1) rfl ?_); refine bxe 1 #[.int .i64 a0_0, .int .i64 a0_1] 31 ?_; intro gb101 hg w5 hbox hb; have n0_ := Aside0.mk (below_step lB hb); have n1_ := Aside0.mk (hbox); have n2_ := Aside0.mk (lG (w := w) hg); have n3_ := Aside0.mk (lG (w := w) hg); clear HB; have HB := n0_; have BK101 := n1_; have GW101 := n2_; have GE101 := n3_; clear n0_ n1_ n2_ n3_; clear hb hbox hg; have hcz6_0 : w5.cell? ⟨gb101, 0, none⟩ = some (.int .i64 a0_0) := (blk_cell BK101.out 0).trans rfl; have hcz6_1 : w5.cell? ⟨gb101, 1, none⟩ = some (.int .i64 a0_1) := (blk_cell BK101.out 1).trans rfl; have hfz6_0 := blk_frozen BK101.out 0; have hfz6_1 := blk_frozen BK101.out 1))
    go_ret
    exact en
   rw [if_neg c4] at H
   have c4b0 : decide ((-4096) ≤ a0_1) = false := decide_eq_false c4
   clear c4
   obtain rfl := Option.some.inj H
   go_enter Try.func28, Try.ntmps28
   go_wp2_with (first | ((with_reducible refine gate_dst (N := 1) rfl ?_); refine bxe 1 #[.int .i64 a0_0, .int .i64 a0_1] 31 ?_; intro gb101 hg w7 hbox hb; have n0_ := Aside0.mk (below_step lB hb); have n1_ := Aside0.mk (hbox); have n2_ := Aside0.mk (lG (w := w) hg); have n3_ := Aside0.mk (lG (w := w) hg); clear HB; have HB := n0_; have BK101 := n1_; have GW101 := n2_; have GE101 := n3_; clear n0_ n1_ n2_ n3_; clear hb hbox hg; have hcz8_0 : w7.cell? ⟨gb101, 0, none⟩ = some (.int .i64 a0_0) := (blk_cell BK101.out 0).trans rfl; have hcz8_1 : w7.cell? ⟨gb101, 1, none⟩ = some (.int .i64 a0_1) := (blk_cell BK101.out 1).trans rfl; have hfz8_0 := blk_frozen BK101.out 0; have hfz8_1 := blk_frozen BK101.out 1))
   go_ret
   exact en
  rw [if_neg c3] at H
  have c3b0 : decide (a0_0 ≤ 4096) = false := decide_eq_false c3
  clear c3
  obtain rfl := Option.some.inj H
  go_enter Try.func28, Try.ntmps28
  go_wp2_with (first | ((with_reducible refine gate_dst (N := 1) rfl ?_); refine bxe 1 #[.int .i64 a0_0, .int .i64 a0_1] 31 ?_; intro gb101 hg w9 hbox hb; have n0_ := Aside0.mk (below_step lB hb); have n1_ := Aside0.mk (hbox); have n2_ := Aside0.mk (lG (w := w) hg); have n3_ := Aside0.mk (lG (w := w) hg); clear HB; have HB := n0_; have BK101 := n1_; have GW101 := n2_; have GE101 := n3_; clear n0_ n1_ n2_ n3_; clear hb hbox hg; have hcz10_0 : w9.cell? ⟨gb101, 0, none⟩ = some (.int .i64 a0_0) := (blk_cell BK101.out 0).trans rfl; have hcz10_1 : w9.cell? ⟨gb101, 1, none⟩ = some (.int .i64 a0_1) := (blk_cell BK101.out 1).trans rfl; have hfz10_0 := blk_frozen BK101.out 0; have hfz10_1 := blk_frozen BK101.out 1))
  go_ret
  exact en
 rw [if_neg c2] at H
 have c2b0 : decide ((-4096) ≤ a0_0) = false := decide_eq_false c2
 clear c2
 obtain rfl := Option.some.inj H
 go_enter Try.func28, Try.ntmps28
 go_wp2_with (first | ((with_reducible refine gate_dst (N := 1) rfl ?_); refine bxe 1 #[.int .i64 a0_0, .int .i64 a0_1] 31 ?_; intro gb101 hg w11 hbox hb; have n0_ := Aside0.mk (below_step lB hb); have n1_ := Aside0.mk (hbox); have n2_ := Aside0.mk (lG (w := w) hg); have n3_ := Aside0.mk (lG (w := w) hg); clear HB; have HB := n0_; have BK101 := n1_; have GW101 := n2_; have GE101 := n3_; clear n0_ n1_ n2_ n3_; clear hb hbox hg; have hcz12_0 : w11.cell? ⟨gb101, 0, none⟩ = some (.int .i64 a0_0) := (blk_cell BK101.out 0).trans rfl; have hcz12_1 : w11.cell? ⟨gb101, 1, none⟩ = some (.int .i64 a0_1) := (blk_cell BK101.out 1).trans rfl; have hfz12_0 := blk_frozen BK101.out 0; have hfz12_1 := blk_frozen BK101.out 1))
 go_ret
 exact en


def R1_Valids.l0 : Nat → List (S31) → Int → Option (Bool)
 | 0, _, _ => none
 | k + 1, x0, x3 => if x3 < (x0.length : Int) then (if 0 ≤ x3 then ((R1_Valid.f ((rd_T31 x0 x3).f0) ((rd_T31 x0 x3).f1)).bind fun t103 => (if t103 = true then (R1_Valids.l0 k x0 (wrap64 (x3 + 1))) else (some false))) else (none)) else (some true)
def R1_Valids.f (k : Nat) (l0 : List (S31)) : Option (Bool) := R1_Valids.l0 k l0 0
theorem R1_Valids.mono_l : ∀ k, (∀ y0 y1, LeO (R1_Valids.l0 k y0 y1) (R1_Valids.l0 (k + 1) y0 y1))
 | 0 => fun _ _ r h => by simp [R1_Valids.l0] at h
 | k + 1 => by
  have ih0 := R1_Valids.mono_l k
  ·intro y0 y1
   unfold R1_Valids.l0
   repeat' first
   | (with_reducible exact ih0 _ _)
   | (with_reducible first | exact LeO.refl _ | exact LeO.none _ | refine LeO.ite ?_ ?_ | refine LeO.bind ?_ (fun _ => ?_))
   | exact ih0 _ _
   | exact LeO.none _ | refine LeO.ite ?_ ?_ | refine LeO.bind ?_ (fun _ => ?_)
theorem R1_Valids.mono : ∀ a0 k, LeO (R1_Valids.f k a0) (R1_Valids.f (k + 1) a0) := by
 intro a0 k
 have ih0 := R1_Valids.mono_l k
 unfold R1_Valids.f
 repeat' first
   | (with_reducible exact ih0 _ _)
   | (with_reducible first | exact LeO.refl _ | exact LeO.none _ | refine LeO.ite ?_ ?_ | refine LeO.bind ?_ (fun _ => ?_))
   | exact ih0 _ _
   | exact LeO.none _ | refine LeO.ite ?_ ?_ | refine LeO.bind ?_ (fun _ => ?_)
set_option maxHeartbeats 8000000 in
set_option maxRecDepth 100000 in
theorem R1_Valids.calls (k : Nat) (A0 : Option Addr) (c0 : Nat) (l0 : List (S31)) (r : Bool) (w : World) (hr0 : Kd.C k31 w A0 l0.length l0) (hc0 : l0.length ≤ c0) (h : R1_Valids.f k l0 = some r) :
  Calls Try.prog 22 #[.slice A0 l0.length c0] w fun e w' => e = .returned (.bool r) ∧ Below w.heap.size w w' := by
 have hu31 := Try.underlying31
 have HR0 := Aside0.mk hr0
 have HC0 := Aside0.mk hc0
 clear hr0 hc0
 have HB := Aside0.mk (Below.refl w.heap.size w)
 have H : (R1_Valids.l0 k l0 0) = some r := h
 clear h
 have H' := Aside0.mk H
 clear H
 go_enter Try.func22, Try.ntmps22
 go_wp2
 go_loopg [3] k (fun kq v3 w' => ∃ (x3_1 : Int), v3 = .int .i64 x3_1 ∧ Aside0 (R1_Valids.l0 kq l0 x3_1 = some r) ∧ Aside0 (kq ≤ k) ∧ Aside0 (Below w.heap.size w w'))
 case atStart => exact ⟨(0), (by first | rfl | (simp; done) | (simp [*]; done)), H', ⟨Nat.le_refl _⟩, ⟨by repeat (first | (with_reducible first | exact HB.out | apply lA | apply lN | apply lD) | exact HB.out)⟩⟩
 case round =>
  clear H'
  obtain ⟨x3_1, rfl, HA, HK1, HB⟩ := hrel
  cases gk with
  | zero => exact absurd HA.out (by simp [R1_Valids.l0])
  | succ k1 =>
   have H := HA.out
   clear HA
   simp only [R1_Valids.l0] at H
   by_cases c2 : x3_1 < (l0.length : Int)
   ·rw [if_pos c2] at H
    have c2b0 : decide (x3_1 < (l0.length : Int)) = true := decide_eq_true c2
    clear c2
    by_cases c3 : 0 ≤ x3_1
    ·rw [if_pos c3] at H
     have c3b0 : decide (0 ≤ x3_1) = true := decide_eq_true c3
     clear c3
     replace H := Option.bind_eq_some_iff.mp H
     obtain ⟨t103, A40, H⟩ := H
     replace H : (if t103 = true then (R1_Valids.l0 k1 l0 (wrap64 (x3_1 + 1))) else (some false)) = some r := H
     have A4 := Aside0.mk A40
     clear A40
     by_cases c5 : t103 = true
     ·subst c5
      have H1 : (R1_Valids.l0 k1 l0 (wrap64 (x3_1 + 1))) = some r := by rw [if_pos rfl] at H; exact H
      clear H
      have H := H1
      clear H1
      have H' := Aside0.mk H
      clear H
      have p102 : 0 ≤ (x3_1 : Int) := of_decide_eq_true (by first | (with_reducible assumption) | assumption)
      have q102 : x3_1 < (l0.length : Int) := of_decide_eq_true (by first | (with_reducible assumption) | assumption)
      obtain ⟨ad102, e102, hx102_0, hx102_1⟩ := at_T31 HR0.out x3_1 p102 q102
      cases e102
      replace hx102_0 := cB HB.out hx102_0
      replace hx102_1 := cB HB.out hx102_1
      replace p102 := eq_true p102
      replace q102 := eq_true q102
      go_wp2_with (first | ((with_reducible refine gate_callee (f := 28) rfl ?_); refine goesL_ (some 14) rfl rfl Try.func28 (by kernel_rfl) rfl #[.agg #[.int .i64 ((rd_T31 l0 x3_1).f0), .int .i64 ((rd_T31 l0 x3_1).f1)]] rfl (by (try simp only [List.map_toArray, List.map_cons, List.map_nil]); first | done | rfl | (simp only [List.length_drop, List.length_take]; rfl)) ?_; (with_reducible refine (R1_Valid.calls ((rd_T31 l0 x3_1).f0) ((rd_T31 l0 x3_1).f1) true _ A4.out).mono ?_); rintro e w6 ⟨rfl, hb⟩; refine ⟨_, rfl, ?_⟩; have n0_ := Aside0.mk (below_step lB hb); clear HB; have HB := n0_; clear n0_; (try clear hb); (try clear hb2); (try clear hk); (try clear hi)))
      go_roundg k1
      case measure => have := HK1.out; omega
      case rel => exact ⟨(wrap64 (x3_1 + 1)), (by first | rfl | (simp; done) | (simp [*]; done)), H', ⟨by have := HK1.out; omega⟩, ⟨by repeat (first | (with_reducible first | exact HB.out | apply lA | apply lN | apply lD) | exact HB.out)⟩⟩
     ·replace c5 := Bool.eq_false_iff.mpr c5
      subst c5
      have H1 : (some false) = some r := by rw [if_neg (show ¬ (false = true) by decide)] at H; exact H
      clear H
      have H := H1
      clear H1
      obtain rfl := Option.some.inj H
      have p102 : 0 ≤ (x3_1 : Int) := of_decide_eq_true (by first | (with_reducible assumption) | assumption)
      have q102 : x3_1 < (l0.length : Int) := of_decide_eq_true (by first | (with_reducible assumption) | assumption)
      obtain ⟨ad102, e102, hx102_0, hx102_1⟩ := at_T31 HR0.out x3_1 p102 q102
      cases e102
      replace hx102_0 := cB HB.out hx102_0
      replace hx102_1 := cB HB.out hx102_1
      replace p102 := eq_true p102
      replace q102 := eq_true q102
      go_wp2_with (first | ((with_reducible refine gate_callee (f := 28) rfl ?_); refine goesL_ (some 14) rfl rfl Try.func28 (by kernel_rfl) rfl #[.agg #[.int .i64 ((rd_T31 l0 x3_1).f0), .int .i64 ((rd_T31 l0 x3_1).f1)]] rfl (by (try simp only [List.map_toArray, List.map_cons, List.map_nil]); first | done | rfl | (simp only [List.length_drop, List.length_take]; rfl)) ?_; (with_reducible refine (R1_Valid.calls ((rd_T31 l0 x3_1).f0) ((rd_T31 l0 x3_1).f1) false _ A4.out).mono ?_); rintro e w7 ⟨rfl, hb⟩; refine ⟨_, rfl, ?_⟩; have n0_ := Aside0.mk (below_step lB hb); clear HB; have HB := n0_; clear n0_; (try clear hb); (try clear hb2); (try clear hk); (try clear hi)))
      go_ret
      exact en
    ·rw [if_neg c3] at H
     exact absurd H (by simp)
   ·rw [if_neg c2] at H
    have c2b0 : decide (x3_1 < (l0.length : Int)) = false := decide_eq_false c2
    clear c2
    obtain rfl := Option.some.inj H
    go_wp2
    go_ret
    exact en


def R1_Sign.f (a0 : Int) : Option (Int) := if a0 > 0 then (some 1) else (if a0 < 0 then (some (-1)) else (some 0))
set_option maxHeartbeats 8000000 in
set_option maxRecDepth 100000 in
theorem R1_Sign.calls (a0 : Int) (r : Int) (w : World) (h : R1_Sign.f a0 = some r) :
  Calls Try.prog 62 #[.int .i64 a0] w fun e w' => e = .returned (.int .i64 r) ∧ Drawn0 w w' := by
 have H : (if a0 > 0 then (some 1) else (if a0 < 0 then (some (-1)) else (some 0))) = some r := h
 clear h
 by_cases c2 : a0 > 0
 ·rw [if_pos c2] at H
  have c2b0 : decide (0 < a0) = true := decide_eq_true c2
  clear c2
  obtain rfl := Option.some.inj H
  go_enter Try.func62, Try.ntmps62
  go_wp2
  go_ret
  exact ⟨by first | rfl | (simp; done) | (simp [*]; done), by repeat (first | exact Drawn0.refl _ | apply Drawn0.step)⟩
 rw [if_neg c2] at H
 have c2b0 : decide (0 < a0) = false := decide_eq_false c2
 clear c2
 by_cases c3 : a0 < 0
 ·rw [if_pos c3] at H
  have c3b0 : decide (a0 < 0) = true := decide_eq_true c3
  clear c3
  obtain rfl := Option.some.inj H
  go_enter Try.func62, Try.ntmps62
  go_wp2
  go_ret
  exact ⟨by first | rfl | (simp; done) | (simp [*]; done), by repeat (first | exact Drawn0.refl _ | apply Drawn0.step)⟩
 rw [if_neg c3] at H
 have c3b0 : decide (a0 < 0) = false := decide_eq_false c3
 clear c3
 obtain rfl := Option.some.inj H
 go_enter Try.func62, Try.ntmps62
 go_wp2
 go_ret
 exact ⟨by first | rfl | (simp; done) | (simp [*]; done), by repeat (first | exact Drawn0.refl _ | apply Drawn0.step)⟩


def R1_cross.f (a0_0 : Int) (a0_1 : Int) (a1_0 : Int) (a1_1 : Int) (a2_0 : Int) (a2_1 : Int) : Option (Int) := some (wrap64 ((wrap64 ((wrap64 (a1_0 - a0_0)) * (wrap64 (a2_1 - a0_1)))) - (wrap64 ((wrap64 (a1_1 - a0_1)) * (wrap64 (a2_0 - a0_0))))))
set_option maxHeartbeats 8000000 in
set_option maxRecDepth 100000 in
theorem R1_cross.calls (a0_0 : Int) (a0_1 : Int) (a1_0 : Int) (a1_1 : Int) (a2_0 : Int) (a2_1 : Int) (r : Int) (w : World) (h : R1_cross.f a0_0 a0_1 a1_0 a1_1 a2_0 a2_1 = some r) :
  Calls Try.prog 63 #[.agg #[.int .i64 a0_0, .int .i64 a0_1], .agg #[.int .i64 a1_0, .int .i64 a1_1], .agg #[.int .i64 a2_0, .int .i64 a2_1]] w fun e w' => e = .returned (.int .i64 r) ∧ Below w.heap.size w w' := by
 have hu31 := Try.underlying31
 have HB := Aside0.mk (Below.refl w.heap.size w)
 have H : (some (wrap64 ((wrap64 ((wrap64 (a1_0 - a0_0)) * (wrap64 (a2_1 - a0_1)))) - (wrap64 ((wrap64 (a1_1 - a0_1)) * (wrap64 (a2_0 - a0_0))))))) = some r := h
 clear h
 obtain rfl := Option.some.inj H
 go_enter Try.func63, Try.ntmps63
 go_wp2_with (first | ((with_reducible refine gate_dst (N := 3) rfl ?_); refine bxe 3 #[.int .i64 a0_0, .int .i64 a0_1] 31 ?_; intro gb196 hg w4 hbox hb; have n0_ := Aside0.mk (below_step lB hb); have n1_ := Aside0.mk (hbox); have n2_ := Aside0.mk (lG (w := w) hg); have n3_ := Aside0.mk (lG (w := w) hg); clear HB; have HB := n0_; have BK196 := n1_; have GW196 := n2_; have GE196 := n3_; clear n0_ n1_ n2_ n3_; clear hb hbox hg) | ((with_reducible refine gate_dst (N := 4) rfl ?_); refine bxe 4 #[.int .i64 a1_0, .int .i64 a1_1] 31 ?_; intro gb197 hg w5 hbox hb; have n0_ := Aside0.mk (blk_below (g := gb196) (o := .cells #[.int .i64 a0_0, .int .i64 a0_1] 31 (0, 0)) (kX BK196.out) hb); have n1_ := Aside0.mk (below_step lB hb); have n2_ := Aside0.mk (hbox); have n3_ := Aside0.mk (lG (w := w) hg); have n4_ := Aside0.mk (lG (w := w) hg); have n5_ := Aside0.mk ((by rw [hg]; exact Nat.ne_of_lt (blk_lt (g := gb196) (o := .cells #[.int .i64 a0_0, .int .i64 a0_1] 31 (0, 0)) (kX BK196.out)) : gb196 ≠ gb197)); have n6_ := Aside0.mk ((by rw [hg]; exact Nat.ne_of_gt (blk_lt (g := gb196) (o := .cells #[.int .i64 a0_0, .int .i64 a0_1] 31 (0, 0)) (kX BK196.out)) : gb197 ≠ gb196)); clear BK196; clear HB; have BK196 := n0_; have HB := n1_; have BK197 := n2_; have GW197 := n3_; have GE197 := n4_; have NB196_197 := n5_; have NB197_196 := n6_; clear n0_ n1_ n2_ n3_ n4_ n5_ n6_; clear hb hbox hg) | ((with_reducible refine gate_dst (N := 5) rfl ?_); refine bxe 5 #[.int .i64 a2_0, .int .i64 a2_1] 31 ?_; intro gb198 hg w6 hbox hb; have n0_ := Aside0.mk (blk_below (g := gb196) (o := .cells #[.int .i64 a0_0, .int .i64 a0_1] 31 (0, 0)) (kX BK196.out) hb); have n1_ := Aside0.mk (blk_below (g := gb197) (o := .cells #[.int .i64 a1_0, .int .i64 a1_1] 31 (0, 0)) (kX BK197.out) hb); have n2_ := Aside0.mk (below_step lB hb); have n3_ := Aside0.mk (hbox); have n4_ := Aside0.mk (lG (w := w) hg); have n5_ := Aside0.mk (lG (w := w) hg); have n6_ := Aside0.mk ((by rw [hg]; exact Nat.ne_of_lt (blk_lt (g := gb196) (o := .cells #[.int .i64 a0_0, .int .i64 a0_1] 31 (0, 0)) (kX BK196.out)) : gb196 ≠ gb198)); have n7_ := Aside0.mk ((by rw [hg]; exact Nat.ne_of_gt (blk_lt (g := gb196) (o := .cells #[.int .i64 a0_0, .int .i64 a0_1] 31 (0, 0)) (kX BK196.out)) : gb198 ≠ gb196)); have n8_ := Aside0.mk ((by rw [hg]; exact Nat.ne_of_lt (blk_lt (g := gb197) (o := .cells #[.int .i64 a1_0, .int .i64 a1_1] 31 (0, 0)) (kX BK197.out)) : gb197 ≠ gb198)); have n9_ := Aside0.mk ((by rw [hg]; exact Nat.ne_of_gt (blk_lt (g := gb197) (o := .cells #[.int .i64 a1_0, .int .i64 a1_1] 31 (0, 0)) (kX BK197.out)) : gb198 ≠ gb197)); clear BK196; clear BK197; clear HB; have BK196 := n0_; have BK197 := n1_; have HB := n2_; have BK198 := n3_; have GW198 := n4_; have GE198 := n5_; have NB196_198 := n6_; have NB198_196 := n7_; have NB197_198 := n8_; have NB198_197 := n9_; clear n0_ n1_ n2_ n3_ n4_ n5_ n6_ n7_ n8_ n9_; clear hb hbox hg; have hnb7 := NB197_196.out; have hnc7 := NB196_197.out; have hnb8 := NB197_198.out; have hnc8 := NB198_197.out; have hcz9_0 : w6.cell? ⟨gb197, 0, none⟩ = some (.int .i64 a1_0) := (blk_cell BK197.out 0).trans rfl; have hcz9_1 : w6.cell? ⟨gb197, 1, none⟩ = some (.int .i64 a1_1) := (blk_cell BK197.out 1).trans rfl; have hfz9_0 := blk_frozen BK197.out 0; have hfz9_1 := blk_frozen BK197.out 1; have hnb10 := NB196_198.out; have hnc10 := NB198_196.out; have hcz11_0 : w6.cell? ⟨gb196, 0, none⟩ = some (.int .i64 a0_0) := (blk_cell BK196.out 0).trans rfl; have hcz11_1 : w6.cell? ⟨gb196, 1, none⟩ = some (.int .i64 a0_1) := (blk_cell BK196.out 1).trans rfl; have hfz11_0 := blk_frozen BK196.out 0; have hfz11_1 := blk_frozen BK196.out 1; have hcz12_0 : w6.cell? ⟨gb198, 0, none⟩ = some (.int .i64 a2_0) := (blk_cell BK198.out 0).trans rfl; have hcz12_1 : w6.cell? ⟨gb198, 1, none⟩ = some (.int .i64 a2_1) := (blk_cell BK198.out 1).trans rfl; have hfz12_0 := blk_frozen BK198.out 0; have hfz12_1 := blk_frozen BK198.out 1))
 go_ret
 exact en


def R1_Turn.f (a0_0 : Int) (a0_1 : Int) (a1_0 : Int) (a1_1 : Int) (a2_0 : Int) (a2_1 : Int) : Option (Int) := (R1_cross.f a0_0 a0_1 a1_0 a1_1 a2_0 a2_1).bind fun t202 => ((R1_Sign.f t202).bind fun t203 => (some t203))
set_option maxHeartbeats 8000000 in
set_option maxRecDepth 100000 in
theorem R1_Turn.calls (a0_0 : Int) (a0_1 : Int) (a1_0 : Int) (a1_1 : Int) (a2_0 : Int) (a2_1 : Int) (r : Int) (w : World) (h : R1_Turn.f a0_0 a0_1 a1_0 a1_1 a2_0 a2_1 = some r) :
  Calls Try.prog 31 #[.agg #[.int .i64 a0_0, .int .i64 a0_1], .agg #[.int .i64 a1_0, .int .i64 a1_1], .agg #[.int .i64 a2_0, .int .i64 a2_1]] w fun e w' => e = .returned (.int .i64 r) ∧ Below w.heap.size w w' := by
 have hu31 := Try.underlying31
 have HB := Aside0.mk (Below.refl w.heap.size w)
 have H : ((R1_cross.f a0_0 a0_1 a1_0 a1_1 a2_0 a2_1).bind fun t202 => ((R1_Sign.f t202).bind fun t203 => (some t203))) = some r := h
 clear h
 replace H := Option.bind_eq_some_iff.mp H
 obtain ⟨t202, A40, H⟩ := H
 replace H : ((R1_Sign.f t202).bind fun t203 => (some t203)) = some r := H
 have A4 := Aside0.mk A40
 clear A40
 replace H := Option.bind_eq_some_iff.mp H
 obtain ⟨t203, A50, H⟩ := H
 replace H : (some t203) = some r := H
 have A5 := Aside0.mk A50
 clear A50
 obtain rfl := Option.some.inj H
 go_enter Try.func31, Try.ntmps31
 go_wp2_with (first | ((with_reducible refine gate_dst (N := 3) rfl ?_); refine bxe 3 #[.int .i64 a0_0, .int .i64 a0_1] 31 ?_; intro gb199 hg w6 hbox hb; have n0_ := Aside0.mk (below_step lB hb); have n1_ := Aside0.mk (hbox); have n2_ := Aside0.mk (lG (w := w) hg); have n3_ := Aside0.mk (lG (w := w) hg); clear HB; have HB := n0_; have BK199 := n1_; have GW199 := n2_; have GE199 := n3_; clear n0_ n1_ n2_ n3_; clear hb hbox hg) | ((with_reducible refine gate_dst (N := 4) rfl ?_); refine bxe 4 #[.int .i64 a1_0, .int .i64 a1_1] 31 ?_; intro gb200 hg w7 hbox hb; have n0_ := Aside0.mk (blk_below (g := gb199) (o := .cells #[.int .i64 a0_0, .int .i64 a0_1] 31 (0, 0)) (kX BK199.out) hb); have n1_ := Aside0.mk (below_step lB hb); have n2_ := Aside0.mk (hbox); have n3_ := Aside0.mk (lG (w := w) hg); have n4_ := Aside0.mk (lG (w := w) hg); have n5_ := Aside0.mk ((by rw [hg]; exact Nat.ne_of_lt (blk_lt (g := gb199) (o := .cells #[.int .i64 a0_0, .int .i64 a0_1] 31 (0, 0)) (kX BK199.out)) : gb199 ≠ gb200)); have n6_ := Aside0.mk ((by rw [hg]; exact Nat.ne_of_gt (blk_lt (g := gb199) (o := .cells #[.int .i64 a0_0, .int .i64 a0_1] 31 (0, 0)) (kX BK199.out)) : gb200 ≠ gb199)); clear BK199; clear HB; have BK199 := n0_; have HB := n1_; have BK200 := n2_; have GW200 := n3_; have GE200 := n4_; have NB199_200 := n5_; have NB200_199 := n6_; clear n0_ n1_ n2_ n3_ n4_ n5_ n6_; clear hb hbox hg) | ((with_reducible refine gate_dst (N := 5) rfl ?_); refine bxe 5 #[.int .i64 a2_0, .int .i64 a2_1] 31 ?_; intro gb201 hg w8 hbox hb; have n0_ := Aside0.mk (blk_below (g := gb199) (o := .cells #[.int .i64 a0_0, .int .i64 a0_1] 31 (0, 0)) (kX BK199.out) hb); have n1_ := Aside0.mk (blk_below (g := gb200) (o := .cells #[.int .i64 a1_0, .int .i64 a1_1] 31 (0, 0)) (kX BK200.out) hb); have n2_ := Aside0.mk (below_step lB hb); have n3_ := Aside0.mk (hbox); have n4_ := Aside0.mk (lG (w := w) hg); have n5_ := Aside0.mk (lG (w := w) hg); have n6_ := Aside0.mk ((by rw [hg]; exact Nat.ne_of_lt (blk_lt (g := gb199) (o := .cells #[.int .i64 a0_0, .int .i64 a0_1] 31 (0, 0)) (kX BK199.out)) : gb199 ≠ gb201)); have n7_ := Aside0.mk ((by rw [hg]; exact Nat.ne_of_gt (blk_lt (g := gb199) (o := .cells #[.int .i64 a0_0, .int .i64 a0_1] 31 (0, 0)) (kX BK199.out)) : gb201 ≠ gb199)); have n8_ := Aside0.mk ((by rw [hg]; exact Nat.ne_of_lt (blk_lt (g := gb200) (o := .cells #[.int .i64 a1_0, .int .i64 a1_1] 31 (0, 0)) (kX BK200.out)) : gb200 ≠ gb201)); have n9_ := Aside0.mk ((by rw [hg]; exact Nat.ne_of_gt (blk_lt (g := gb200) (o := .cells #[.int .i64 a1_0, .int .i64 a1_1] 31 (0, 0)) (kX BK200.out)) : gb201 ≠ gb200)); clear BK199; clear BK200; clear HB; have BK199 := n0_; have BK200 := n1_; have HB := n2_; have BK201 := n3_; have GW201 := n4_; have GE201 := n5_; have NB199_201 := n6_; have NB201_199 := n7_; have NB200_201 := n8_; have NB201_200 := n9_; clear n0_ n1_ n2_ n3_ n4_ n5_ n6_ n7_ n8_ n9_; clear hb hbox hg; have hnb9 := NB199_200.out; have hnc9 := NB200_199.out; have hnb10 := NB199_201.out; have hnc10 := NB201_199.out; have hcz11_0 : w8.cell? ⟨gb199, 0, none⟩ = some (.int .i64 a0_0) := (blk_cell BK199.out 0).trans rfl; have hcz11_1 : w8.cell? ⟨gb199, 1, none⟩ = some (.int .i64 a0_1) := (blk_cell BK199.out 1).trans rfl; have hfz11_0 := blk_frozen BK199.out 0; have hfz11_1 := blk_frozen BK199.out 1; have hnb12 := NB200_201.out; have hnc12 := NB201_200.out; have hcz13_0 : w8.cell? ⟨gb200, 0, none⟩ = some (.int .i64 a1_0) := (blk_cell BK200.out 0).trans rfl; have hcz13_1 : w8.cell? ⟨gb200, 1, none⟩ = some (.int .i64 a1_1) := (blk_cell BK200.out 1).trans rfl; have hfz13_0 := blk_frozen BK200.out 0; have hfz13_1 := blk_frozen BK200.out 1; have hcz14_0 : w8.cell? ⟨gb201, 0, none⟩ = some (.int .i64 a2_0) := (blk_cell BK201.out 0).trans rfl; have hcz14_1 : w8.cell? ⟨gb201, 1, none⟩ = some (.int .i64 a2_1) := (blk_cell BK201.out 1).trans rfl; have hfz14_0 := blk_frozen BK201.out 0; have hfz14_1 := blk_frozen BK201.out 1) | ((with_reducible refine gate_callee (f := 63) rfl ?_); refine goesL_ (some 10) rfl rfl Try.func63 (by kernel_rfl) rfl #[.agg #[.int .i64 a0_0, .int .i64 a0_1], .agg #[.int .i64 a1_0, .int .i64 a1_1], .agg #[.int .i64 a2_0, .int .i64 a2_1]] rfl (by (try simp only [List.map_toArray, List.map_cons, List.map_nil]); first | done | rfl | (simp only [List.length_drop, List.length_take]; rfl)) ?_; (with_reducible refine (R1_cross.calls a0_0 a0_1 a1_0 a1_1 a2_0 a2_1 t202 _ A4.out).mono ?_); rintro e w15 ⟨rfl, hb⟩; refine ⟨_, rfl, ?_⟩; have n0_ := Aside0.mk (blk_below (g := gb199) (o := .cells #[.int .i64 a0_0, .int .i64 a0_1] 31 (0, 0)) (kX BK199.out) hb); have n1_ := Aside0.mk (blk_below (g := gb200) (o := .cells #[.int .i64 a1_0, .int .i64 a1_1] 31 (0, 0)) (kX BK200.out) hb); have n2_ := Aside0.mk (blk_below (g := gb201) (o := .cells #[.int .i64 a2_0, .int .i64 a2_1] 31 (0, 0)) (kX BK201.out) hb); have n3_ := Aside0.mk (below_step lB hb); clear BK199; clear BK200; clear BK201; clear HB; have BK199 := n0_; have BK200 := n1_; have BK201 := n2_; have HB := n3_; clear n0_ n1_ n2_ n3_; (try clear hb); (try clear hb2); (try clear hk); (try clear hi)) | ((with_reducible refine gate_callee (f := 62) rfl ?_); refine goesL_ (some 11) rfl rfl Try.func62 (by kernel_rfl) rfl #[.int .i64 t202] rfl (by (try simp only [List.map_toArray, List.map_cons, List.map_nil]); first | done | rfl | (simp only [List.length_drop, List.length_take]; rfl)) ?_; (with_reducible refine (R1_Sign.calls t202 t203 _ A5.out).mono ?_); rintro e w' ⟨rfl, ⟨nd, rfl⟩⟩; refine ⟨_, rfl, ?_⟩))
 go_ret
 exact en


def L1_some.f (l0 : List (S31)) (a1 : Int) : Option ((List (S31))) := if (l0.length : Int) > 512 then (if 513 ≤ (l0.length : Int) then ((some (l0.take 513 : List (S31))).bind fun y216 => (if ([] : List (S31)).length + y216.length < 8796093022208 then (some (([] : List (S31)) ++ y216)) else (none))) else (none)) else (if 0 ≤ (mn (l0.length : Int) a1) then (if (mn (l0.length : Int) a1) ≤ (l0.length : Int) then ((some (l0.take ((mn (l0.length : Int) a1) : Int).toNat : List (S31))).bind fun y223 => (if ([] : List (S31)).length + y223.length < 8796093022208 then (some (([] : List (S31)) ++ y223)) else (none))) else (none)) else (none))
set_option maxHeartbeats 8000000 in
set_option maxRecDepth 100000 in
theorem L1_some.calls (A0 : Option Addr) (c0 : Nat) (l0 : List (S31)) (a1 : Int) (r : List (S31)) (w : World) (hr0 : Kd.C k31 w A0 l0.length l0) (hc0 : l0.length ≤ c0) (h : L1_some.f l0 a1 = some r) :
  Calls Try.prog 20 #[.slice A0 l0.length c0, .int .i64 a1] w fun e w' => ∃ v0_ : Value, e = .returned (v0_) ∧ Kd.R k31 31 w' w.heap.size (fun _ => True) v0_ r ∧ Below w.heap.size w w' := by
 have HR0 := Aside0.mk hr0
 have HC0 := Aside0.mk hc0
 clear hr0 hc0
 have HB := Aside0.mk (Below.refl w.heap.size w)
 have H : (if (l0.length : Int) > 512 then (if 513 ≤ (l0.length : Int) then ((some (l0.take 513 : List (S31))).bind fun y216 => (if ([] : List (S31)).length + y216.length < 8796093022208 then (some (([] : List (S31)) ++ y216)) else (none))) else (none)) else (if 0 ≤ (mn (l0.length : Int) a1) then (if (mn (l0.length : Int) a1) ≤ (l0.length : Int) then ((some (l0.take ((mn (l0.length : Int) a1) : Int).toNat : List (S31))).bind fun y223 => (if ([] : List (S31)).length + y223.length < 8796093022208 then (some (([] : List (S31)) ++ y223)) else (none))) else (none)) else (none))) = some r := h
 clear h
 obtain ⟨ji3, hji3⟩ : ∃ j_ : Int, (mn (l0.length : Int) a1) = j_ := ⟨_, rfl⟩
 replace H : (if (l0.length : Int) > 512 then (if 513 ≤ (l0.length : Int) then ((some (l0.take 513 : List (S31))).bind fun y216 => (if ([] : List (S31)).length + y216.length < 8796093022208 then (some (([] : List (S31)) ++ y216)) else (none))) else (none)) else (if 0 ≤ (ji3) then (if (ji3) ≤ (l0.length : Int) then ((some (l0.take ((ji3) : Int).toNat : List (S31))).bind fun y223 => (if ([] : List (S31)).length + y223.length < 8796093022208 then (some (([] : List (S31)) ++ y223)) else (none))) else (none)) else (none))) = some r := by first | (rw [hji3] at H; exact H) | (simp only [hji3] at H ⊢; exact H)
 have hji3_ : (if a1 < (l0.length : Int) then a1 else (l0.length : Int)) = ji3 := hji3
 by_cases c4 : (l0.length : Int) > 512
 ·rw [if_pos c4] at H
  have c4b0 : decide (512 < (l0.length : Int)) = true := decide_eq_true c4
  have c4b1 : decide (512 < l0.length) = true := decide_eq_true (by omega)
  clear c4
  by_cases c5 : 513 ≤ (l0.length : Int)
  ·rw [if_pos c5] at H
   have c5b0 := eq_true c5
   have c5b1 : decide (513 ≤ (l0.length : Int)) = true := decide_eq_true c5
   clear c5
   obtain ⟨y216, hy216⟩ : ∃ y_ : List (S31), y_ = (l0.take 513) := ⟨_, rfl⟩
   replace H : (if ([] : List (S31)).length + y216.length < 8796093022208 then (some (([] : List (S31)) ++ y216)) else (none)) = some r := by first | (rw [hy216]; with_reducible exact H) | (have H2_ := (Option.bind_some _ _).symm.trans H; rw [hy216]; with_reducible exact H2_) | (have H2_ := (Option.bind_some _ _).symm.trans H; with_reducible exact H2_) | with_reducible exact H | (rw [hy216]; exact H) | exact H
   have Ny216 := Aside0.mk hy216
   clear hy216
   by_cases c6 : ([] : List (S31)).length + y216.length < 8796093022208
   ·rw [if_pos c6] at H
    have LMc6 := Aside0.mk c6
    clear c6
    obtain ⟨y220, hy220⟩ : ∃ y_ : List (S31), y_ = (([] : List (S31)) ++ y216) := ⟨_, rfl⟩
    replace H : (some y220) = some r := by first | (rw [hy220]; with_reducible exact H) | (have H2_ := (Option.bind_some _ _).symm.trans H; rw [hy220]; with_reducible exact H2_) | (have H2_ := (Option.bind_some _ _).symm.trans H; with_reducible exact H2_) | with_reducible exact H | (rw [hy220]; exact H) | exact H
    have Ny220 := Aside0.mk hy220
    clear hy220
    obtain rfl := Option.some.inj H
    have q7 : (513 : Int) ≤ ((l0.length : Int) : Int) := of_decide_eq_true (by first | (with_reducible assumption) | assumption)
    obtain ⟨i07, hi07, _, hsz7, _⟩ := info_parts info31
    have hroom7 : l0.length ≤ c0 := HC0.out
    have hC7 : Kd.C k31 _ A0 l0.length l0 := HR0.out
    have hcut7 := cut_to (P := Try.prog) 22 31 .i64 Try.underlying22 hi07 A0 l0.length c0 513 (by omega) q7 hroom7
    have hr7 := Kd.C_take (m := 513) hC7 (by omega)
    have hy7 : y216.length = (513 : Int).toNat := (by rw [Ny216.out, List.length_take]; omega)
    rw [← Ny216.out] at hr7
    rw [← hy7] at hcut7
    have HR219 := Aside0.mk hr7
    have HC219 := Aside0.mk (show y216.length ≤ c0 from by omega)
    clear hr7 hC7 hroom7 hi07 hsz7
    have KY7 := Aside0.mk hy7
    clear hy7
    replace q7 := eq_true q7
    go_enter Try.func20, Try.ntmps20
    go_wp2_with (first | ((with_reducible refine gate_builtin (b := .append) (xs := #[.tmp 14, .tmp 17]) rfl ?_); at_builtin; refine Kd.R_append_rows k31 (w0 := w) w.heap.size rfl (.tmp 14) (.tmp 17) 22 31 (.agg #[(.int .i64 0), (.int .i64 0)]) 16 rfl Try.underlying22 info31 rfl (by decide) (by omega) (.slice none 0 0) ([] : List (S31)) y216 _ _ _ (fun _ => True) (fun _ => False) rfl rfl ?aO ?aR (fun _ _ h => h) (fun _ h => h.elim) ?aF ?aB ?aS ?aL ?_; (case aR => repeat (first | exact HR219.out | (with_reducible refine Kd.C_alloc ?_ _) | (with_reducible refine Kd.C_drewN ?_ _) | (with_reducible refine Kd.C_drew ?_))); (case aB => exact lB); (case aF => exact (fun _ _ => trivial)); (case aO => exact ((Kd.R_nil _ _ _ _ (fun _ => True)))); (case aS => exact (below_size lB)); (case aL => have := LMc6.out; omega); intro v221 w8 ho hb hg hat; rw [← Ny220.out] at ho; have n0_ := Aside0.mk (hb); have n1_ := Aside0.mk (ho); clear HB; have HB := n0_; have HO222 := n1_; clear n0_ n1_; clear ho hb hg hat))
    go_ret
    exact ⟨_, by first | rfl | (simp [errW_none, errW_some] <;> rfl) | (simp only [← hji3]; first | rfl | (simp [errW_none, errW_some] <;> rfl)) | (simp [*, errW_none, errW_some] <;> rfl), by (with_reducible repeat (first | apply Kd.R_alloc | apply Kd.R_drewN | apply Kd.R_drew)); exact HO222.out, lB⟩
   rw [if_neg c6] at H
   exact absurd H (by simp)
  rw [if_neg c5] at H
  exact absurd H (by simp)
 rw [if_neg c4] at H
 have c4b0 : decide (512 < (l0.length : Int)) = false := decide_eq_false c4
 have c4b1 : decide (512 < l0.length) = false := decide_eq_false (by omega)
 clear c4
 by_cases c9 : 0 ≤ (ji3)
 ·rw [if_pos c9] at H
  have c9b0 := eq_true c9
  have c9b1 : decide (0 ≤ (ji3)) = true := decide_eq_true c9
  clear c9
  by_cases c10 : (ji3) ≤ (l0.length : Int)
  ·rw [if_pos c10] at H
   have c10b0 := eq_true c10
   have c10b1 : decide ((ji3) ≤ (l0.length : Int)) = true := decide_eq_true c10
   clear c10
   obtain ⟨y223, hy223⟩ : ∃ y_ : List (S31), y_ = (l0.take ((ji3) : Int).toNat) := ⟨_, rfl⟩
   replace H : (if ([] : List (S31)).length + y223.length < 8796093022208 then (some (([] : List (S31)) ++ y223)) else (none)) = some r := by first | (rw [hy223]; with_reducible exact H) | (have H2_ := (Option.bind_some _ _).symm.trans H; rw [hy223]; with_reducible exact H2_) | (have H2_ := (Option.bind_some _ _).symm.trans H; with_reducible exact H2_) | with_reducible exact H | (rw [hy223]; exact H) | exact H
   have Ny223 := Aside0.mk hy223
   clear hy223
   by_cases c11 : ([] : List (S31)).length + y223.length < 8796093022208
   ·rw [if_pos c11] at H
    have LMc11 := Aside0.mk c11
    clear c11
    obtain ⟨y227, hy227⟩ : ∃ y_ : List (S31), y_ = (([] : List (S31)) ++ y223) := ⟨_, rfl⟩
    replace H : (some y227) = some r := by first | (rw [hy227]; with_reducible exact H) | (have H2_ := (Option.bind_some _ _).symm.trans H; rw [hy227]; with_reducible exact H2_) | (have H2_ := (Option.bind_some _ _).symm.trans H; with_reducible exact H2_) | with_reducible exact H | (rw [hy227]; exact H) | exact H
    have Ny227 := Aside0.mk hy227
    clear hy227
    obtain rfl := Option.some.inj H
    have q12 : ((ji3) : Int) ≤ ((l0.length : Int) : Int) := of_decide_eq_true (by first | (with_reducible assumption) | assumption)
    obtain ⟨i012, hi012, _, hsz12, _⟩ := info_parts info31
    have hroom12 : l0.length ≤ c0 := HC0.out
    have hC12 : Kd.C k31 _ A0 l0.length l0 := HR0.out
    have hcut12 := cut_to (P := Try.prog) 22 31 .i64 Try.underlying22 hi012 A0 l0.length c0 (ji3) (of_decide_eq_true (by first | (with_reducible assumption) | assumption)) q12 hroom12
    have hr12 := Kd.C_take (m := ((ji3) : Int).toNat) hC12 (by omega)
    have hy12 : y223.length = ((ji3) : Int).toNat := (by rw [Ny223.out, List.length_take]; omega)
    rw [← Ny223.out] at hr12
    rw [← hy12] at hcut12
    have HR226 := Aside0.mk hr12
    have HC226 := Aside0.mk (show y223.length ≤ c0 from by omega)
    clear hr12 hC12 hroom12 hi012 hsz12
    have KY12 := Aside0.mk hy12
    clear hy12
    replace q12 := eq_true q12
    go_enter Try.func20, Try.ntmps20
    go_wp2_with (first | ((with_reducible refine gate_builtin (b := .append) (xs := #[.tmp 14, .tmp 17]) rfl ?_); at_builtin; refine Kd.R_append_rows k31 (w0 := w) w.heap.size rfl (.tmp 14) (.tmp 17) 22 31 (.agg #[(.int .i64 0), (.int .i64 0)]) 16 rfl Try.underlying22 info31 rfl (by decide) (by omega) (.slice none 0 0) ([] : List (S31)) y223 _ _ _ (fun _ => True) (fun _ => False) rfl rfl ?aO ?aR (fun _ _ h => h) (fun _ h => h.elim) ?aF ?aB ?aS ?aL ?_; (case aR => repeat (first | exact HR226.out | (with_reducible refine Kd.C_alloc ?_ _) | (with_reducible refine Kd.C_drewN ?_ _) | (with_reducible refine Kd.C_drew ?_))); (case aB => exact lB); (case aF => exact (fun _ _ => trivial)); (case aO => exact ((Kd.R_nil _ _ _ _ (fun _ => True)))); (case aS => exact (below_size lB)); (case aL => have := LMc11.out; omega); intro v228 w13 ho hb hg hat; rw [← Ny227.out] at ho; have n0_ := Aside0.mk (hb); have n1_ := Aside0.mk (ho); clear HB; have HB := n0_; have HO229 := n1_; clear n0_ n1_; clear ho hb hg hat))
    go_ret
    exact ⟨_, by first | rfl | (simp [errW_none, errW_some] <;> rfl) | (simp only [← hji3]; first | rfl | (simp [errW_none, errW_some] <;> rfl)) | (simp [*, errW_none, errW_some] <;> rfl), by (with_reducible repeat (first | apply Kd.R_alloc | apply Kd.R_drewN | apply Kd.R_drew)); exact HO229.out, lB⟩
   rw [if_neg c11] at H
   exact absurd H (by simp)
  rw [if_neg c10] at H
  exact absurd H (by simp)
 rw [if_neg c9] at H
 exact absurd H (by simp)


def plane_Turn.f (a0_0 : Int) (a0_1 : Int) (a1_0 : Int) (a1_1 : Int) (a2_0 : Int) (a2_1 : Int) : Option (Int × Int) := (plane_invalid.f a0_0 a0_1).bind fun t192 => (if t192 = true then (some (0, 2)) else ((plane_invalid.f a1_0 a1_1).bind fun t193 => (if t193 = true then (some (0, 2)) else ((plane_invalid.f a2_0 a2_1).bind fun t194 => (if t194 = true then (some (0, 2)) else ((plane_turn.f a0_0 a0_1 a1_0 a1_1 a2_0 a2_1).bind fun t195 => (some (t195, 0))))))))
set_option maxHeartbeats 8000000 in
set_option maxRecDepth 100000 in
theorem plane_Turn.calls (a0_0 : Int) (a0_1 : Int) (a1_0 : Int) (a1_1 : Int) (a2_0 : Int) (a2_1 : Int) (r1 : Int) (r2 : Int) (w : World) (h : plane_Turn.f a0_0 a0_1 a1_0 a1_1 a2_0 a2_1 = some (r1, r2)) :
  Calls Try.prog 30 #[.agg #[.int .i64 a0_0, .int .i64 a0_1], .agg #[.int .i64 a1_0, .int .i64 a1_1], .agg #[.int .i64 a2_0, .int .i64 a2_1]] w fun e w' => e = .returned (.tuple #[.int .i64 r1, .int .i64 r2]) ∧ Below w.heap.size w w' := by
 have hu31 := Try.underlying31
 have HB := Aside0.mk (Below.refl w.heap.size w)
 have H : ((plane_invalid.f a0_0 a0_1).bind fun t192 => (if t192 = true then (some (0, 2)) else ((plane_invalid.f a1_0 a1_1).bind fun t193 => (if t193 = true then (some (0, 2)) else ((plane_invalid.f a2_0 a2_1).bind fun t194 => (if t194 = true then (some (0, 2)) else ((plane_turn.f a0_0 a0_1 a1_0 a1_1 a2_0 a2_1).bind fun t195 => (some (t195, 0))))))))) = some (r1, r2) := h
 clear h
 replace H := Option.bind_eq_some_iff.mp H
 obtain ⟨t192, A40, H⟩ := H
 replace H : (if t192 = true then (some (0, 2)) else ((plane_invalid.f a1_0 a1_1).bind fun t193 => (if t193 = true then (some (0, 2)) else ((plane_invalid.f a2_0 a2_1).bind fun t194 => (if t194 = true then (some (0, 2)) else ((plane_turn.f a0_0 a0_1 a1_0 a1_1 a2_0 a2_1).bind fun t195 => (some (t195, 0)))))))) = some (r1, r2) := H
 have A4 := Aside0.mk A40
 clear A40
 by_cases c5 : t192 = true
 subst c5
 have H1 : (some (0, 2)) = some (r1, r2) := by rw [if_pos rfl] at H; exact H
 clear H
 have H := H1
 clear H1
 simp only [Option.some.injEq, Prod.mk.injEq] at H
 obtain ⟨rfl, rfl⟩ := H
 rotate_left 1
 replace c5 := Bool.eq_false_iff.mpr c5
 subst c5
 have H1 : ((plane_invalid.f a1_0 a1_1).bind fun t193 => (if t193 = true then (some (0, 2)) else ((plane_invalid.f a2_0 a2_1).bind fun t194 => (if t194 = true then (some (0, 2)) else ((plane_turn.f a0_0 a0_1 a1_0 a1_1 a2_0 a2_1).bind fun t195 => (some (t195, 0))))))) = some (r1, r2) := by rw [if_neg (show ¬ (false = true) by decide)] at H; exact H
 clear H
 have H := H1
 clear H1
 replace H := Option.bind_eq_some_iff.mp H
 obtain ⟨t193, A130, H⟩ := H
 replace H : (if t193 = true then (some (0, 2)) else ((plane_invalid.f a2_0 a2_1).bind fun t194 => (if t194 = true then (some (0, 2)) else ((plane_turn.f a0_0 a0_1 a1_0 a1_1 a2_0 a2_1).bind fun t195 => (some (t195, 0)))))) = some (r1, r2) := H
 have A13 := Aside0.mk A130
 clear A130
 by_cases c14 : t193 = true
 subst c14
 have H1 : (some (0, 2)) = some (r1, r2) := by rw [if_pos rfl] at H; exact H
 clear H
 have H := H1
 clear H1
 simp only [Option.some.injEq, Prod.mk.injEq] at H
 obtain ⟨rfl, rfl⟩ := H
 rotate_left 1
 replace c14 := Bool.eq_false_iff.mpr c14
 subst c14
 have H1 : ((plane_invalid.f a2_0 a2_1).bind fun t194 => (if t194 = true then (some (0, 2)) else ((plane_turn.f a0_0 a0_1 a1_0 a1_1 a2_0 a2_1).bind fun t195 => (some (t195, 0))))) = some (r1, r2) := by rw [if_neg (show ¬ (false = true) by decide)] at H; exact H
 clear H
 have H := H1
 clear H1
 replace H := Option.bind_eq_some_iff.mp H
 obtain ⟨t194, A250, H⟩ := H
 replace H : (if t194 = true then (some (0, 2)) else ((plane_turn.f a0_0 a0_1 a1_0 a1_1 a2_0 a2_1).bind fun t195 => (some (t195, 0)))) = some (r1, r2) := H
 have A25 := Aside0.mk A250
 clear A250
 by_cases c26 : t194 = true
 subst c26
 have H1 : (some (0, 2)) = some (r1, r2) := by rw [if_pos rfl] at H; exact H
 clear H
 have H := H1
 clear H1
 simp only [Option.some.injEq, Prod.mk.injEq] at H
 obtain ⟨rfl, rfl⟩ := H
 rotate_left 1
 replace c26 := Bool.eq_false_iff.mpr c26
 subst c26
 have H1 : ((plane_turn.f a0_0 a0_1 a1_0 a1_1 a2_0 a2_1).bind fun t195 => (some (t195, 0))) = some (r1, r2) := by rw [if_neg (show ¬ (false = true) by decide)] at H; exact H
 clear H
 have H := H1
 clear H1
 replace H := Option.bind_eq_some_iff.mp H
 obtain ⟨t195, A390, H⟩ := H
 replace H : (some (t195, 0)) = some (r1, r2) := H
 have A39 := Aside0.mk A390
 clear A390
 simp only [Option.some.injEq, Prod.mk.injEq] at H
 obtain ⟨rfl, rfl⟩ := H
 all_goals go_enter Try.func30, Try.ntmps30
 all_goals go_wp2_with (first | ((with_reducible refine gate_dst (N := 3) rfl ?_); refine bxe 3 #[.int .i64 a0_0, .int .i64 a0_1] 31 ?_; intro gb189 hg wz0 hbox hb; have n0_ := Aside0.mk (below_step lB hb); have n1_ := Aside0.mk (hbox); have n2_ := Aside0.mk (lG (w := w) hg); have n3_ := Aside0.mk (lG (w := w) hg); clear HB; have HB := n0_; have BK189 := n1_; have GW189 := n2_; have GE189 := n3_; clear n0_ n1_ n2_ n3_; clear hb hbox hg) | ((with_reducible refine gate_dst (N := 4) rfl ?_); refine bxe 4 #[.int .i64 a1_0, .int .i64 a1_1] 31 ?_; intro gb190 hg wz1 hbox hb; have n0_ := Aside0.mk (blk_below (g := gb189) (o := .cells #[.int .i64 a0_0, .int .i64 a0_1] 31 (0, 0)) (kX BK189.out) hb); have n1_ := Aside0.mk (below_step lB hb); have n2_ := Aside0.mk (hbox); have n3_ := Aside0.mk (lG (w := w) hg); have n4_ := Aside0.mk (lG (w := w) hg); have n5_ := Aside0.mk ((by rw [hg]; exact Nat.ne_of_lt (blk_lt (g := gb189) (o := .cells #[.int .i64 a0_0, .int .i64 a0_1] 31 (0, 0)) (kX BK189.out)) : gb189 ≠ gb190)); have n6_ := Aside0.mk ((by rw [hg]; exact Nat.ne_of_gt (blk_lt (g := gb189) (o := .cells #[.int .i64 a0_0, .int .i64 a0_1] 31 (0, 0)) (kX BK189.out)) : gb190 ≠ gb189)); clear BK189; clear HB; have BK189 := n0_; have HB := n1_; have BK190 := n2_; have GW190 := n3_; have GE190 := n4_; have NB189_190 := n5_; have NB190_189 := n6_; clear n0_ n1_ n2_ n3_ n4_ n5_ n6_; clear hb hbox hg) | ((with_reducible refine gate_dst (N := 5) rfl ?_); refine bxe 5 #[.int .i64 a2_0, .int .i64 a2_1] 31 ?_; intro gb191 hg wz2 hbox hb; have n0_ := Aside0.mk (blk_below (g := gb189) (o := .cells #[.int .i64 a0_0, .int .i64 a0_1] 31 (0, 0)) (kX BK189.out) hb); have n1_ := Aside0.mk (blk_below (g := gb190) (o := .cells #[.int .i64 a1_0, .int .i64 a1_1] 31 (0, 0)) (kX BK190.out) hb); have n2_ := Aside0.mk (below_step lB hb); have n3_ := Aside0.mk (hbox); have n4_ := Aside0.mk (lG (w := w) hg); have n5_ := Aside0.mk (lG (w := w) hg); have n6_ := Aside0.mk ((by rw [hg]; exact Nat.ne_of_lt (blk_lt (g := gb189) (o := .cells #[.int .i64 a0_0, .int .i64 a0_1] 31 (0, 0)) (kX BK189.out)) : gb189 ≠ gb191)); have n7_ := Aside0.mk ((by rw [hg]; exact Nat.ne_of_gt (blk_lt (g := gb189) (o := .cells #[.int .i64 a0_0, .int .i64 a0_1] 31 (0, 0)) (kX BK189.out)) : gb191 ≠ gb189)); have n8_ := Aside0.mk ((by rw [hg]; exact Nat.ne_of_lt (blk_lt (g := gb190) (o := .cells #[.int .i64 a1_0, .int .i64 a1_1] 31 (0, 0)) (kX BK190.out)) : gb190 ≠ gb191)); have n9_ := Aside0.mk ((by rw [hg]; exact Nat.ne_of_gt (blk_lt (g := gb190) (o := .cells #[.int .i64 a1_0, .int .i64 a1_1] 31 (0, 0)) (kX BK190.out)) : gb191 ≠ gb190)); clear BK189; clear BK190; clear HB; have BK189 := n0_; have BK190 := n1_; have HB := n2_; have BK191 := n3_; have GW191 := n4_; have GE191 := n5_; have NB189_191 := n6_; have NB191_189 := n7_; have NB190_191 := n8_; have NB191_190 := n9_; clear n0_ n1_ n2_ n3_ n4_ n5_ n6_ n7_ n8_ n9_; clear hb hbox hg; have hnb18 := NB189_190.out; have hnc18 := NB190_189.out; have hnb19 := NB189_191.out; have hnc19 := NB191_189.out; have hcz20_0 : wz2.cell? ⟨gb189, 0, none⟩ = some (.int .i64 a0_0) := (blk_cell BK189.out 0).trans rfl; have hcz20_1 : wz2.cell? ⟨gb189, 1, none⟩ = some (.int .i64 a0_1) := (blk_cell BK189.out 1).trans rfl; have hfz20_0 := blk_frozen BK189.out 0; have hfz20_1 := blk_frozen BK189.out 1) | ((with_reducible refine gate_callee (f := 52) rfl ?_); refine goesL_ (some 9) rfl rfl Try.func52 (by kernel_rfl) rfl #[.agg #[.int .i64 a0_0, .int .i64 a0_1]] rfl (by (try simp only [List.map_toArray, List.map_cons, List.map_nil]); first | done | rfl | (simp only [List.length_drop, List.length_take]; rfl)) ?_; (with_reducible refine (plane_invalid.calls a0_0 a0_1 false _ A4.out).mono ?_); rintro e wz3 ⟨rfl, hb⟩; refine ⟨_, rfl, ?_⟩; have n0_ := Aside0.mk (blk_below (g := gb189) (o := .cells #[.int .i64 a0_0, .int .i64 a0_1] 31 (0, 0)) (kX BK189.out) hb); have n1_ := Aside0.mk (blk_below (g := gb190) (o := .cells #[.int .i64 a1_0, .int .i64 a1_1] 31 (0, 0)) (kX BK190.out) hb); have n2_ := Aside0.mk (blk_below (g := gb191) (o := .cells #[.int .i64 a2_0, .int .i64 a2_1] 31 (0, 0)) (kX BK191.out) hb); have n3_ := Aside0.mk (below_step lB hb); clear BK189; clear BK190; clear BK191; clear HB; have BK189 := n0_; have BK190 := n1_; have BK191 := n2_; have HB := n3_; clear n0_ n1_ n2_ n3_; (try clear hb); (try clear hb2); (try clear hk); (try clear hi); have hnb22 := NB190_191.out; have hnc22 := NB191_190.out; have hcz23_0 : wz3.cell? ⟨gb190, 0, none⟩ = some (.int .i64 a1_0) := (blk_cell BK190.out 0).trans rfl; have hcz23_1 : wz3.cell? ⟨gb190, 1, none⟩ = some (.int .i64 a1_1) := (blk_cell BK190.out 1).trans rfl; have hfz23_0 := blk_frozen BK190.out 0; have hfz23_1 := blk_frozen BK190.out 1) | (go_at_call 52; (with_reducible refine (plane_invalid.calls a1_0 a1_1 false _ A13.out).mono ?_); rintro e wz4 ⟨rfl, hb⟩; have n0_ := Aside0.mk (blk_below (g := gb189) (o := .cells #[.int .i64 a0_0, .int .i64 a0_1] 31 (0, 0)) (kX BK189.out) hb); have n1_ := Aside0.mk (blk_below (g := gb190) (o := .cells #[.int .i64 a1_0, .int .i64 a1_1] 31 (0, 0)) (kX BK190.out) hb); have n2_ := Aside0.mk (blk_below (g := gb191) (o := .cells #[.int .i64 a2_0, .int .i64 a2_1] 31 (0, 0)) (kX BK191.out) hb); have n3_ := Aside0.mk (below_step lB hb); clear BK189; clear BK190; clear BK191; clear HB; have BK189 := n0_; have BK190 := n1_; have BK191 := n2_; have HB := n3_; clear n0_ n1_ n2_ n3_; (try clear hb); (try clear hb2); (try clear hk); (try clear hi); have hcz37_0 : wz4.cell? ⟨gb191, 0, none⟩ = some (.int .i64 a2_0) := (blk_cell BK191.out 0).trans rfl; have hcz37_1 : wz4.cell? ⟨gb191, 1, none⟩ = some (.int .i64 a2_1) := (blk_cell BK191.out 1).trans rfl; have hfz37_0 := blk_frozen BK191.out 0; have hfz37_1 := blk_frozen BK191.out 1) | (go_at_call 52; (with_reducible refine (plane_invalid.calls a2_0 a2_1 false _ A25.out).mono ?_); rintro e wz5 ⟨rfl, hb⟩; have n0_ := Aside0.mk (blk_below (g := gb189) (o := .cells #[.int .i64 a0_0, .int .i64 a0_1] 31 (0, 0)) (kX BK189.out) hb); have n1_ := Aside0.mk (blk_below (g := gb190) (o := .cells #[.int .i64 a1_0, .int .i64 a1_1] 31 (0, 0)) (kX BK190.out) hb); have n2_ := Aside0.mk (blk_below (g := gb191) (o := .cells #[.int .i64 a2_0, .int .i64 a2_1] 31 (0, 0)) (kX BK191.out) hb); have n3_ := Aside0.mk (below_step lB hb); clear BK189; clear BK190; clear BK191; clear HB; have BK189 := n0_; have BK190 := n1_; have BK191 := n2_; have HB := n3_; clear n0_ n1_ n2_ n3_; (try clear hb); (try clear hb2); (try clear hk); (try clear hi); have hcz52_0 : wz5.cell? ⟨gb189, 0, none⟩ = some (.int .i64 a0_0) := (blk_cell BK189.out 0).trans rfl; have hcz52_1 : wz5.cell? ⟨gb189, 1, none⟩ = some (.int .i64 a0_1) := (blk_cell BK189.out 1).trans rfl; have hfz52_0 := blk_frozen BK189.out 0; have hfz52_1 := blk_frozen BK189.out 1; have hcz53_0 : wz5.cell? ⟨gb190, 0, none⟩ = some (.int .i64 a1_0) := (blk_cell BK190.out 0).trans rfl; have hcz53_1 : wz5.cell? ⟨gb190, 1, none⟩ = some (.int .i64 a1_1) := (blk_cell BK190.out 1).trans rfl; have hfz53_0 := blk_frozen BK190.out 0; have hfz53_1 := blk_frozen BK190.out 1; have hcz54_0 : wz5.cell? ⟨gb191, 0, none⟩ = some (.int .i64 a2_0) := (blk_cell BK191.out 0).trans rfl; have hcz54_1 : wz5.cell? ⟨gb191, 1, none⟩ = some (.int .i64 a2_1) := (blk_cell BK191.out 1).trans rfl; have hfz54_0 := blk_frozen BK191.out 0; have hfz54_1 := blk_frozen BK191.out 1) | ((with_reducible refine gate_callee (f := 61) rfl ?_); refine goesL_ (some 21) rfl rfl Try.func61 (by kernel_rfl) rfl #[.agg #[.int .i64 a0_0, .int .i64 a0_1], .agg #[.int .i64 a1_0, .int .i64 a1_1], .agg #[.int .i64 a2_0, .int .i64 a2_1]] rfl (by (try simp only [List.map_toArray, List.map_cons, List.map_nil]); first | done | rfl | (simp only [List.length_drop, List.length_take]; rfl)) ?_; (with_reducible refine (plane_turn.calls a0_0 a0_1 a1_0 a1_1 a2_0 a2_1 t195 _ A39.out).mono ?_); rintro e wz6 ⟨rfl, hb⟩; refine ⟨_, rfl, ?_⟩; have n0_ := Aside0.mk (blk_below (g := gb189) (o := .cells #[.int .i64 a0_0, .int .i64 a0_1] 31 (0, 0)) (kX BK189.out) hb); have n1_ := Aside0.mk (blk_below (g := gb190) (o := .cells #[.int .i64 a1_0, .int .i64 a1_1] 31 (0, 0)) (kX BK190.out) hb); have n2_ := Aside0.mk (blk_below (g := gb191) (o := .cells #[.int .i64 a2_0, .int .i64 a2_1] 31 (0, 0)) (kX BK191.out) hb); have n3_ := Aside0.mk (below_step lB hb); clear BK189; clear BK190; clear BK191; clear HB; have BK189 := n0_; have BK190 := n1_; have BK191 := n2_; have HB := n3_; clear n0_ n1_ n2_ n3_; (try clear hb); (try clear hb2); (try clear hk); (try clear hi)) | (go_at_call 52; (with_reducible refine (plane_invalid.calls a2_0 a2_1 true _ A25.out).mono ?_); rintro e wz5 ⟨rfl, hb⟩; have n0_ := Aside0.mk (blk_below (g := gb189) (o := .cells #[.int .i64 a0_0, .int .i64 a0_1] 31 (0, 0)) (kX BK189.out) hb); have n1_ := Aside0.mk (blk_below (g := gb190) (o := .cells #[.int .i64 a1_0, .int .i64 a1_1] 31 (0, 0)) (kX BK190.out) hb); have n2_ := Aside0.mk (blk_below (g := gb191) (o := .cells #[.int .i64 a2_0, .int .i64 a2_1] 31 (0, 0)) (kX BK191.out) hb); have n3_ := Aside0.mk (below_step lB hb); clear BK189; clear BK190; clear BK191; clear HB; have BK189 := n0_; have BK190 := n1_; have BK191 := n2_; have HB := n3_; clear n0_ n1_ n2_ n3_; (try clear hb); (try clear hb2); (try clear hk); (try clear hi)) | (go_at_call 52; (with_reducible refine (plane_invalid.calls a1_0 a1_1 true _ A13.out).mono ?_); rintro e wz4 ⟨rfl, hb⟩; have n0_ := Aside0.mk (blk_below (g := gb189) (o := .cells #[.int .i64 a0_0, .int .i64 a0_1] 31 (0, 0)) (kX BK189.out) hb); have n1_ := Aside0.mk (blk_below (g := gb190) (o := .cells #[.int .i64 a1_0, .int .i64 a1_1] 31 (0, 0)) (kX BK190.out) hb); have n2_ := Aside0.mk (blk_below (g := gb191) (o := .cells #[.int .i64 a2_0, .int .i64 a2_1] 31 (0, 0)) (kX BK191.out) hb); have n3_ := Aside0.mk (below_step lB hb); clear BK189; clear BK190; clear BK191; clear HB; have BK189 := n0_; have BK190 := n1_; have BK191 := n2_; have HB := n3_; clear n0_ n1_ n2_ n3_; (try clear hb); (try clear hb2); (try clear hk); (try clear hi)) | ((with_reducible refine gate_callee (f := 52) rfl ?_); refine goesL_ (some 9) rfl rfl Try.func52 (by kernel_rfl) rfl #[.agg #[.int .i64 a0_0, .int .i64 a0_1]] rfl (by (try simp only [List.map_toArray, List.map_cons, List.map_nil]); first | done | rfl | (simp only [List.length_drop, List.length_take]; rfl)) ?_; (with_reducible refine (plane_invalid.calls a0_0 a0_1 true _ A4.out).mono ?_); rintro e wz3 ⟨rfl, hb⟩; refine ⟨_, rfl, ?_⟩; have n0_ := Aside0.mk (blk_below (g := gb189) (o := .cells #[.int .i64 a0_0, .int .i64 a0_1] 31 (0, 0)) (kX BK189.out) hb); have n1_ := Aside0.mk (blk_below (g := gb190) (o := .cells #[.int .i64 a1_0, .int .i64 a1_1] 31 (0, 0)) (kX BK190.out) hb); have n2_ := Aside0.mk (blk_below (g := gb191) (o := .cells #[.int .i64 a2_0, .int .i64 a2_1] 31 (0, 0)) (kX BK191.out) hb); have n3_ := Aside0.mk (below_step lB hb); clear BK189; clear BK190; clear BK191; clear HB; have BK189 := n0_; have BK190 := n1_; have BK191 := n2_; have HB := n3_; clear n0_ n1_ n2_ n3_; (try clear hb); (try clear hb2); (try clear hk); (try clear hi)))
 all_goals go_ret2
 all_goals first | (exact en)

end Go.Proofs.Ythaklbjcjoolcaa.P
namespace Go.Proofs.Ythaklbjcjoolcaa.P
open Go.RowKit YthaklbjcjoolcaaW.PrintWords YthaklbjcjoolcaaW.PrintLast YthaklbjcjoolcaaW.PrintMore
theorem ev_pos {α : Type} {c : Prop} [Decidable c] {f g : Nat → Option α} {r : α} (h : c) (k : Ev f r) : Ev (fun n => if c then f n else g n) r := Ev.congr (fun _ => if_pos h) k
theorem ev_neg {α : Type} {c : Prop} [Decidable c] {f g : Nat → Option α} {r : α} (h : ¬ c) (k : Ev g r) : Ev (fun n => if c then f n else g n) r := Ev.congr (fun _ => if_neg h) k
theorem ev_is {α : Type} {o : Option α} {r : α} (h : o = some r) : Ev (fun _ => o) r := by rw [h]; exact Ev.now r
theorem valid_is (p : S31) : R1_Valid.f p.f0 p.f1 = some (okPt p) := by
 unfold R1_Valid.f okPt
 by_cases h0 : p.f0 ≥ -4096
 ·rw [if_pos h0]
  by_cases h1 : p.f0 ≤ 4096
  ·rw [if_pos h1]
   by_cases h2 : p.f1 ≥ -4096
   ·rw [if_pos h2]; simp only [ge_iff_le] at h0 h2; simp [h0, h1, h2]
   ·rw [if_neg h2]; simp only [ge_iff_le] at h0 h2; simp [h2]
  ·rw [if_neg h1]; simp [h1]
 ·rw [if_neg h0]; simp only [ge_iff_le] at h0; simp [h0]
theorem rd_at (l : List S31) (i : Nat) (h : i < l.length) : rd_T31 l (i : Int) = l[i] := by unfold rd_T31; rw [Int.toNat_natCast, List.getD_eq_getElem?_getD, List.getElem?_eq_getElem h, Option.getD_some]
theorem valids_from (l : List S31) (hl : l.length < 9223372036854775807) : ∀ n i : Nat, l.length - i = n → i ≤ l.length → Ev (fun k => R1_Valids.l0 k l (i : Int)) (allOk (l.drop i))
 | 0, i, hn, hi => by
  have e : i = l.length := by omega
  refine Ev.step (f := fun _ => some true) (fun k => ?_) ?_
  ·unfold R1_Valids.l0
   rw [if_neg (by omega)]
  ·rw [e, List.drop_length]; exact Ev.now _
 | n + 1, i, hn, hi => by
  have hlt : i < l.length := by omega
  refine Ev.step (f := fun k => if okPt l[i] = true then R1_Valids.l0 k l ((i + 1 : Nat) : Int) else some false) (fun k => ?_) ?_
  ·conv => lhs; unfold R1_Valids.l0
   rw [if_pos (by omega), if_pos (by omega), rd_at l i hlt, valid_is, Option.bind_some, w64i (by omega) (by omega)]
   rfl
  ·rw [List.drop_eq_getElem_cons hlt]
   unfold allOk
   rw [List.all_cons]
   by_cases h : okPt l[i] = true
   ·rw [h, Bool.true_and]; exact ev_pos rfl (valids_from l hl n (i + 1) (by omega) (by omega))
   ·rw [Bool.not_eq_true] at h; rw [h, Bool.false_and]; exact ev_neg (by decide) (Ev.now _)
theorem valids_ev (l : List S31) (hl : l.length < 9223372036854775807) : Ev (fun k => R1_Valids.f k l) (allOk l) := by
 have h := valids_from l hl (l.length - 0) 0 rfl (by omega)
 rw [List.drop_zero] at h
 exact h
theorem refturn_same (a0 a1 b0 b1 c0 c1 : Int) : R1_Turn.f a0 a1 b0 b1 c0 c1 = plane_turn.f a0 a1 b0 b1 c0 c1 := by
 unfold R1_Turn.f plane_turn.f R1_cross.f plane_cross.f
 simp only [Option.bind_some, compare_is]
 unfold R1_Sign.f cmpI
 generalize wrap64 _ = x
 by_cases h : x > 0
 ·rw [if_pos h, if_neg (by omega), if_pos h]
  rfl
 ·rw [if_neg h]
  by_cases h2 : x < 0
  ·rw [if_pos h2, if_pos h2]; rfl
  ·rw [if_neg h2, if_neg h2, if_neg h]; rfl
end Go.Proofs.Ythaklbjcjoolcaa.P
namespace Go.Proofs.Ythaklbjcjoolcaa.P
open Go.ChangeShapes Go.WideShapes Go.ChangeAt Go.RowKit Go.Deep Go.Joins YthaklbjcjoolcaaW.PrintWords
set_option maxRecDepth 100000
theorem laid_out : laidOutB Try.prog = true := by kernel_rfl
section
variable {H : Type} {enc : TypeId × Value → H} {w : World} {base : Nat} {spare : Nat → Bool} {held : Bool}
theorem open_point {r : Reach} {b0 : Nat} {v : Value} {d : DataW H} {p : List MemPlace} (hv : Value.okWide Try.prog w r b0 31 v) (h : DataW.Trod enc Try.prog w base spare held 31 v d p) :
  ∃ x y : Int, v = .agg #[.int .i64 x, .int .i64 y] ∧ (Lit.int .i64 x).wf = true ∧ (Lit.int .i64 y).wf = true := by
 obtain ⟨c0, c1, y0, y1, n, rfl, _, _, h0, h1⟩ := open_agg2 Try.underlying31 (by kernel_rfl) (by kernel_rfl) hv h
 obtain ⟨x, e0, _, w0⟩ := DataW.trod_int Try.underlying3 h0
 obtain ⟨y, e1, _, w1⟩ := DataW.trod_int Try.underlying3 h1
 simp only [List.cons.injEq, and_true] at e0 e1
 subst e0 e1
 exact ⟨x, y, rfl, w0, w1⟩
theorem open_points {r : Reach} {b0 : Nat} {v : Value} {d : DataW H} {p : List MemPlace} (hv : Value.okWide Try.prog w r b0 22 v) (h : DataW.Trod enc Try.prog w base spare held 22 v d p) :
  ∃ (A : Option Addr) (c : Nat) (l : List S31), v = .slice A l.length c ∧ Kd.C k31 w A l.length l ∧ l.length ≤ c ∧ ∀ q ∈ l, (Lit.int .i64 q.f0).wf = true ∧ (Lit.int .i64 q.f1).wf = true := by
 obtain ⟨a, len, cap, rfl⟩ := okWide_slice Try.underlying22 hv
 obtain ⟨fuel, hf⟩ := h
 rcases open_slice_pairs Try.underlying22 Try.underlying31 (by kernel_rfl) rfl rfl (by kernel_rfl) (by kernel_rfl) hf with ⟨hcs, _⟩ | ⟨ad, ln, cp, m, n, V0, V1, D0, D1, P0, P1, hcs, _, hl, hm, hmm, _, hi⟩
 ·simp [Value.cells] at hcs
  obtain ⟨rfl, rfl, rfl⟩ := hcs
  exact ⟨none, 0, [], rfl, ⟨rfl, by simp, fun h => absurd h (by simp)⟩, Nat.le_refl _, fun q hq => by cases hq⟩
 ·simp [Value.cells] at hcs
  obtain ⟨rfl, rfl, rfl⟩ := hcs
  have hlm : len ≤ m := by rw [hmm]; split <;> omega
  have each : ∀ i, i < len → ∃ q : S31, w.cell? (ad.add (i * 2)) = some (.int .i64 q.f0) ∧ w.cell? (ad.add (i * 2 + 1)) = some (.int .i64 q.f1) ∧ (Lit.int .i64 q.f0).wf = true ∧ (Lit.int .i64 q.f1).wf = true := by
   intro i hil
   obtain ⟨g0, g1, t0, t1⟩ := hi i (by omega)
   obtain ⟨x, e0, _, w0⟩ := DataW.trod_int Try.underlying3 t0
   obtain ⟨y, e1, _, w1⟩ := DataW.trod_int Try.underlying3 t1
   simp only [List.cons.injEq, and_true] at e0 e1
   rw [e0] at g0
   rw [e1] at g1
   exact ⟨⟨x, y⟩, g0, g1, w0, w1⟩
  haveI : Inhabited S31 := ⟨z31⟩
  obtain ⟨q, hq⟩ := choose_lt each
  have hlen : ((List.range len).map q).length = len := by simp
  refine ⟨some ad, cap, (List.range len).map q, by rw [hlen], ⟨by rw [hlen], ?_, fun _ => ⟨ad, rfl, fun j p hp => ?_⟩⟩, by rw [hlen]; exact hl, fun p hp => ?_⟩
  ·rw [hlen]; have : maxLen ≤ 9223372036854775807 := by decide
   omega
  ·have hj : j < len := by
    have := (List.getElem?_eq_some_iff.1 hp).1
    simpa using this
   have hp' : q j = p := by
    rw [List.getElem?_map, List.getElem?_range hj] at hp
    exact Option.some.inj hp
   subst hp'
   refine ⟨[.int .i64 (q j).f0, .int .i64 (q j).f1], rfl, ⟨[.int .i64 (q j).f0], [.int .i64 (q j).f1], rfl, rfl, rfl⟩, fun i u hu => ?_⟩
   have h2 := hq j hj
   match i, hu with
   | 0, hu => rw [← Option.some.inj hu]; exact h2.1
   | 1, hu => rw [← Option.some.inj hu]; exact h2.2.1
  ·obtain ⟨i, hi', rfl⟩ := List.mem_map.1 hp
   have h2 := hq i (List.mem_range.1 hi')
   exact ⟨h2.2.2.1, h2.2.2.2⟩
end
end Go.Proofs.Ythaklbjcjoolcaa.P
