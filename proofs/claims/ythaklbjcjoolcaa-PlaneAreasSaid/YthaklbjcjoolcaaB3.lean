/- Proved here: what functions that the law reaches compute, and plain laws of that. No conditions but those that the theorems state. -/
import Derived.Test.YthaklbjcjoolcaaB1
import Derived.Test.YthaklbjcjoolcaaB2
import Derived.Outline
import Derived.Deep.DeepMust
import Derived.Shelf.SlSortCmp.WholeK
import Derived.Shelf.SlSortCmp.NoneTotal
import Derived.Shelf.SlicesQ.Reverse
import Derived.Shelf.SlicesE.Clone
import Derived.Ground.SlsfProg
import Derived.Ground.SlgnProg
import Derived.Test.YthaklbjcjoolcaaProg
import Derived.IntWalk
import Derived.StillTailTactics
import Derived.Deep.RegionLawGrows
import Derived.Laws.EntriesVeiled
import Derived.BigRegion
set_option linter.unusedVariables false
set_option linter.unusedSimpArgs false
namespace Go.Proofs.Ythaklbjcjoolcaa.P
open Go.RowKit Go.Proofs.YthaklbjcjoolcaaW.PrintWords Go.Proofs.YthaklbjcjoolcaaW.PrintLast Go.Proofs.YthaklbjcjoolcaaW.PrintMore
attribute [local go_sem] max2_int min2_int max_two min_two max_three min_three max_four min_four   -- for this text's walks alone
set_option linter.unusedVariables false
set_option linter.unusedSimpArgs false

/-! ### plane_Inside: function 27 -/
mutual
def plane_Inside.j0 : Nat → List (S31) → Bool → Int → Int → Option (Int × Int)
 | 0, _, _, _, _ => none
 | k + 1, x0, x15, x156000, x156001 => if x15 = true then (some (0, 2)) else (plane_Inside.l0 k x0 (-1) (x0.length : Int) 0 x156000 x156001)
def plane_Inside.l0 : Nat → List (S31) → Int → Int → Int → Int → Int → Option (Int × Int)
 | 0, _, _, _, _, _, _ => none
 | k + 1, x0, x6, x17, x18, x156000, x156001 => if x18 < x17 then ((plane_edge.f x0 x18).bind fun bt158 => ((plane_segment_has.f bt158.1 bt158.2.1 bt158.2.2.1 bt158.2.2.2 x156000 x156001).bind fun t163 => (if t163 = true then (some (0, 0)) else (if bt158.2.1 > bt158.2.2.2 then (if bt158.2.2.2 ≤ x156001 then (if x156001 < bt158.2.1 then ((plane_turn.f bt158.2.2.1 bt158.2.2.2 bt158.1 bt158.2.1 x156000 x156001).bind fun t164 => (if t164 > 0 then (plane_Inside.l0 k x0 (wrap64 (-x6)) x17 (wrap64 (x18 + 1)) x156000 x156001) else (plane_Inside.l0 k x0 x6 x17 (wrap64 (x18 + 1)) x156000 x156001))) else (plane_Inside.l0 k x0 x6 x17 (wrap64 (x18 + 1)) x156000 x156001)) else (plane_Inside.l0 k x0 x6 x17 (wrap64 (x18 + 1)) x156000 x156001)) else (if bt158.2.1 ≤ x156001 then (if x156001 < bt158.2.2.2 then ((plane_turn.f bt158.1 bt158.2.1 bt158.2.2.1 bt158.2.2.2 x156000 x156001).bind fun t165 => (if t165 > 0 then (plane_Inside.l0 k x0 (wrap64 (-x6)) x17 (wrap64 (x18 + 1)) x156000 x156001) else (plane_Inside.l0 k x0 x6 x17 (wrap64 (x18 + 1)) x156000 x156001))) else (plane_Inside.l0 k x0 x6 x17 (wrap64 (x18 + 1)) x156000 x156001)) else (plane_Inside.l0 k x0 x6 x17 (wrap64 (x18 + 1)) x156000 x156001)))))) else (some (x6, 0))
end
def plane_Inside.f (k : Nat) (l0 : List (S31)) (a1_0 : Int) (a1_1 : Int) : Option (Int × Int) := (plane_Simple.f k l0).bind fun t156 => (if t156 = true then ((plane_invalid.f a1_0 a1_1).bind fun t157 => (plane_Inside.j0 k l0 t157 a1_0 a1_1)) else (plane_Inside.j0 k l0 true a1_0 a1_1))
theorem plane_Inside.mono_l : ∀ k, (∀ y0 y1 y2 y3, LeO (plane_Inside.j0 k y0 y1 y2 y3) (plane_Inside.j0 (k + 1) y0 y1 y2 y3)) ∧ (∀ y0 y1 y2 y3 y4 y5, LeO (plane_Inside.l0 k y0 y1 y2 y3 y4 y5) (plane_Inside.l0 (k + 1) y0 y1 y2 y3 y4 y5))
 | 0 => ⟨fun _ _ _ _ r h => by simp [plane_Inside.j0] at h, fun _ _ _ _ _ _ r h => by simp [plane_Inside.l0] at h⟩
 | k + 1 => by
  obtain ⟨ih0, ih1⟩ := plane_Inside.mono_l k
  refine ⟨?_, ?_⟩
  ·intro y0 y1 y2 y3
   unfold plane_Inside.j0
   repeat' first
   | (with_reducible exact ih0 _ _ _ _)
   | (with_reducible exact ih1 _ _ _ _ _ _)
   | (with_reducible exact plane_Simple.mono _ _)
   | (with_reducible exact LeO.refl _)
   | (with_reducible exact LeO.none _)
   | (with_reducible refine LeO.ite ?_ ?_)
   | (with_reducible refine LeO.bind ?_ (fun _ => ?_))
   | exact ih0 _ _ _ _
   | exact ih1 _ _ _ _ _ _
   | exact plane_Simple.mono _ _
   | exact LeO.none _
   | refine LeO.ite ?_ ?_
   | refine LeO.bind ?_ (fun _ => ?_)
  ·intro y0 y1 y2 y3 y4 y5
   unfold plane_Inside.l0
   repeat' first
   | (with_reducible exact ih0 _ _ _ _)
   | (with_reducible exact ih1 _ _ _ _ _ _)
   | (with_reducible exact plane_Simple.mono _ _)
   | (with_reducible exact LeO.refl _)
   | (with_reducible exact LeO.none _)
   | (with_reducible refine LeO.ite ?_ ?_)
   | (with_reducible refine LeO.bind ?_ (fun _ => ?_))
   | exact ih0 _ _ _ _
   | exact ih1 _ _ _ _ _ _
   | exact plane_Simple.mono _ _
   | exact LeO.none _
   | refine LeO.ite ?_ ?_
   | refine LeO.bind ?_ (fun _ => ?_)
theorem plane_Inside.mono : ∀ a0 a1 a2 k, LeO (plane_Inside.f k a0 a1 a2) (plane_Inside.f (k + 1) a0 a1 a2) := by
 intro a0 a1 a2 k
 obtain ⟨ih0, ih1⟩ := plane_Inside.mono_l k
 unfold plane_Inside.f
 repeat' first
   | (with_reducible exact ih0 _ _ _ _)
   | (with_reducible exact ih1 _ _ _ _ _ _)
   | (with_reducible exact plane_Simple.mono _ _)
   | (with_reducible exact LeO.refl _)
   | (with_reducible exact LeO.none _)
   | (with_reducible refine LeO.ite ?_ ?_)
   | (with_reducible refine LeO.bind ?_ (fun _ => ?_))
   | exact ih0 _ _ _ _
   | exact ih1 _ _ _ _ _ _
   | exact plane_Simple.mono _ _
   | exact LeO.none _
   | refine LeO.ite ?_ ?_
   | refine LeO.bind ?_ (fun _ => ?_)
set_option maxHeartbeats 8000000 in
set_option maxRecDepth 100000 in
theorem plane_Inside.calls (k : Nat) (A0 : Option Addr) (c0 : Nat) (l0 : List (S31)) (a1_0 : Int) (a1_1 : Int) (r1 : Int) (r2 : Int) (w : World) (hr0 : Kd.C k31 w A0 l0.length l0) (hc0 : l0.length ≤ c0) (h : plane_Inside.f k l0 a1_0 a1_1 = some (r1, r2)) :
  Calls Try.prog 27 #[.slice A0 l0.length c0, .agg #[.int .i64 a1_0, .int .i64 a1_1]] w fun e w' => e = .returned (.tuple #[.int .i64 r1, .int .i64 r2]) ∧ Below w.heap.size w w' := by
 have hu31 := Try.underlying31
 have hu61 := Try.underlying61
 have HR0 := Aside0.mk hr0
 have HC0 := Aside0.mk hc0
 clear hr0 hc0
 have HB := Aside0.mk (Below.refl w.heap.size w)
 have H : ((plane_Simple.f k l0).bind fun t156 => (if t156 = true then ((plane_invalid.f a1_0 a1_1).bind fun t157 => (plane_Inside.j0 k l0 t157 a1_0 a1_1)) else (plane_Inside.j0 k l0 true a1_0 a1_1))) = some (r1, r2) := h
 clear h
 have HC3 := Aside0.mk H
 clear H
 go_enter Try.func27, Try.ntmps27
 go_upto_region 1 with (first | ((with_reducible refine gate_dst (N := 3) rfl ?_); refine box_event ?hg (N := 3) ?hd (cs := #[.int .i64 a1_0, .int .i64 a1_1]) (t := 31) ?hr ?_; (case hd => rfl); (case hg => rfl); (case hr => first | (go_simp; done) | (go_simp; rfl)); intro gb155 hg w4 hbox hb; have n0_ := Aside0.mk (below_step (by repeat (first | (with_reducible first | exact HB.out | apply below_alloc | apply pw_below_drewN | apply below_drew1) | exact HB.out)) hb); have n1_ := Aside0.mk (hbox); have n2_ := Aside0.mk ((by rw [hg]; exact (below_size (by repeat (first | (with_reducible first | exact HB.out | apply below_alloc | apply pw_below_drewN | apply below_drew1) | exact HB.out))) : w.heap.size ≤ gb155)); have n3_ := Aside0.mk ((by rw [hg]; exact (below_size (by repeat (first | (with_reducible first | exact HB.out | apply below_alloc | apply pw_below_drewN | apply below_drew1) | exact HB.out))) : w.heap.size ≤ gb155)); clear HB; have HB := n0_; have BK155 := n1_; have GW155 := n2_; have GE155 := n3_; clear n0_ n1_ n2_ n3_; clear hb hbox hg))
 (try simp only [Act.put, List.setIfInBounds_toArray, List.set_cons_zero, List.set_cons_succ])
 go_cut [15] (fun v15 wc => ∃ (kq : Nat) (x15_2 : Bool), v15 = .bool x15_2 ∧ Aside0 (plane_Inside.j0 kq l0 x15_2 a1_0 a1_1 = some (r1, r2)) ∧ Aside0 (kq ≤ k) ∧ Aside0 (wc.heap[gb155]? = some (.cells #[.int .i64 a1_0, .int .i64 a1_1] 31 (0, 0))) ∧ Aside0 (Below w.heap.size w wc))
 case first =>
  have H := HC3.out
  clear HC3
  replace H := Option.bind_eq_some_iff.mp H
  obtain ⟨t156, A50, H⟩ := H
  replace H : (if t156 = true then ((plane_invalid.f a1_0 a1_1).bind fun t157 => (plane_Inside.j0 k l0 t157 a1_0 a1_1)) else (plane_Inside.j0 k l0 true a1_0 a1_1)) = some (r1, r2) := H
  have A5 := Aside0.mk A50
  clear A50
  by_cases c6 : t156 = true
  ·subst c6
   have H1 : ((plane_invalid.f a1_0 a1_1).bind fun t157 => (plane_Inside.j0 k l0 t157 a1_0 a1_1)) = some (r1, r2) := by rw [if_pos rfl] at H; exact H
   clear H
   have H := H1
   clear H1
   replace H := Option.bind_eq_some_iff.mp H
   obtain ⟨t157, A70, H⟩ := H
   replace H : (plane_Inside.j0 k l0 t157 a1_0 a1_1) = some (r1, r2) := H
   have A7 := Aside0.mk A70
   clear A70
   have H' := Aside0.mk H
   clear H
   go_wp2_with (first | ((with_reducible refine gate_callee (f := 25) rfl ?_); refine goesL_ (some 10) rfl rfl Try.func25 (by kernel_rfl) rfl #[.slice A0 l0.length c0] rfl (by (try simp only [List.map_toArray, List.map_cons, List.map_nil]); first | done | rfl | (simp only [List.length_drop, List.length_take]; rfl)) ?_; (with_reducible refine (plane_Simple.calls k _ _ l0 true _ ?side1 ?side2 A5.out).mono ?_); (case side1 => repeat (first | exact (Kd.C_below HR0.out HB.out) | (with_reducible refine Kd.C_alloc ?_ _) | (with_reducible refine Kd.C_drewN ?_ _) | (with_reducible refine Kd.C_drew ?_))); (case side2 => exact HC0.out); rintro e w8 ⟨rfl, hb⟩; refine ⟨_, rfl, ?_⟩; have n0_ := Aside0.mk (blk_below (g := gb155) (o := .cells #[.int .i64 a1_0, .int .i64 a1_1] 31 (0, 0)) (by (with_reducible repeat (first | refine blk_drewN ?_ _ | refine blk_drew ?_ | refine blk_alloc ?_ _)); exact BK155.out) hb); have n1_ := Aside0.mk (below_step (by repeat (first | (with_reducible first | exact HB.out | apply below_alloc | apply pw_below_drewN | apply below_drew1 | refine below_set ?_ GE155.out) | exact HB.out)) hb); clear BK155; clear HB; have BK155 := n0_; have HB := n1_; clear n0_ n1_; (try clear hb); (try clear hb2); (try clear hk); (try clear hi); have hcz9_0 : w8.cell? ⟨gb155, 0, none⟩ = some (.int .i64 a1_0) := (blk_cell BK155.out 0).trans rfl; have hcz9_1 : w8.cell? ⟨gb155, 1, none⟩ = some (.int .i64 a1_1) := (blk_cell BK155.out 1).trans rfl; have hfz9_0 := blk_frozen BK155.out 0; have hfz9_1 := blk_frozen BK155.out 1) | (go_at_call 52; (with_reducible refine (plane_invalid.calls a1_0 a1_1 t157 _ A7.out).mono ?_); rintro e w10 ⟨rfl, hb⟩; have n0_ := Aside0.mk (blk_below (g := gb155) (o := .cells #[.int .i64 a1_0, .int .i64 a1_1] 31 (0, 0)) (by (with_reducible repeat (first | refine blk_drewN ?_ _ | refine blk_drew ?_ | refine blk_alloc ?_ _)); exact BK155.out) hb); have n1_ := Aside0.mk (below_step (by repeat (first | (with_reducible first | exact HB.out | apply below_alloc | apply pw_below_drewN | apply below_drew1 | refine below_set ?_ GE155.out) | exact HB.out)) hb); clear BK155; clear HB; have BK155 := n0_; have HB := n1_; clear n0_ n1_; (try clear hb); (try clear hb2); (try clear hk); (try clear hi)))
   go_meet
   case rel => exact ⟨_, (t157), (by first | rfl | (simp; done) | (simp [*]; done)), H', ⟨by first | omega | exact Nat.le_refl _⟩, ⟨by (with_reducible repeat (first | refine blk_drewN ?_ _ | refine blk_drew ?_ | refine blk_alloc ?_ _)); exact BK155.out⟩, ⟨by repeat (first | (with_reducible first | exact HB.out | apply below_alloc | apply pw_below_drewN | apply below_drew1 | refine below_set ?_ GE155.out) | exact HB.out)⟩⟩
  ·replace c6 := Bool.eq_false_iff.mpr c6
   subst c6
   have H1 : (plane_Inside.j0 k l0 true a1_0 a1_1) = some (r1, r2) := by rw [if_neg (show ¬ (false = true) by decide)] at H; exact H
   clear H
   have H := H1
   clear H1
   have H' := Aside0.mk H
   clear H
   go_wp2_with (first | ((with_reducible refine gate_callee (f := 25) rfl ?_); refine goesL_ (some 10) rfl rfl Try.func25 (by kernel_rfl) rfl #[.slice A0 l0.length c0] rfl (by (try simp only [List.map_toArray, List.map_cons, List.map_nil]); first | done | rfl | (simp only [List.length_drop, List.length_take]; rfl)) ?_; (with_reducible refine (plane_Simple.calls k _ _ l0 false _ ?side1 ?side2 A5.out).mono ?_); (case side1 => repeat (first | exact (Kd.C_below HR0.out HB.out) | (with_reducible refine Kd.C_alloc ?_ _) | (with_reducible refine Kd.C_drewN ?_ _) | (with_reducible refine Kd.C_drew ?_))); (case side2 => exact HC0.out); rintro e w11 ⟨rfl, hb⟩; refine ⟨_, rfl, ?_⟩; have n0_ := Aside0.mk (blk_below (g := gb155) (o := .cells #[.int .i64 a1_0, .int .i64 a1_1] 31 (0, 0)) (by (with_reducible repeat (first | refine blk_drewN ?_ _ | refine blk_drew ?_ | refine blk_alloc ?_ _)); exact BK155.out) hb); have n1_ := Aside0.mk (below_step (by repeat (first | (with_reducible first | exact HB.out | apply below_alloc | apply pw_below_drewN | apply below_drew1 | refine below_set ?_ GE155.out) | exact HB.out)) hb); clear BK155; clear HB; have BK155 := n0_; have HB := n1_; clear n0_ n1_; (try clear hb); (try clear hb2); (try clear hk); (try clear hi)))
   go_meet
   case rel => exact ⟨_, (true), (by first | rfl | (simp; done) | (simp [*]; done)), H', ⟨by first | omega | exact Nat.le_refl _⟩, ⟨by (with_reducible repeat (first | refine blk_drewN ?_ _ | refine blk_drew ?_ | refine blk_alloc ?_ _)); exact BK155.out⟩, ⟨by repeat (first | (with_reducible first | exact HB.out | apply below_alloc | apply pw_below_drewN | apply below_drew1 | refine below_set ?_ GE155.out) | exact HB.out)⟩⟩
 case rest =>
  clear HC3
  try clear c2
  try clear p2
  try clear c6
  try clear hcz9_0
  try clear hcz9_1
  try clear hfz9_0
  try clear hfz9_1
  obtain ⟨kq, x15_2, rfl, HA, HJ2, BK155, HB⟩ := hcut
  cases kq with
  | zero => exact absurd HA.out (by simp [plane_Inside.j0])
  | succ kj2 =>
   have H := HA.out
   clear HA
   simp only [plane_Inside.j0] at H
   by_cases c12 : x15_2 = true
   ·subst c12
    have H1 : (some (0, 2)) = some (r1, r2) := by rw [if_pos rfl] at H; exact H
    clear H
    have H := H1
    clear H1
    simp only [Option.some.injEq, Prod.mk.injEq] at H
    obtain ⟨rfl, rfl⟩ := H
    go_wp2
    go_ret2
    exact ⟨by first | rfl | (simp [errW_none, errW_some] <;> rfl) | (simp [*, errW_none, errW_some] <;> rfl), by repeat (first | (with_reducible first | exact HB.out | apply below_alloc | apply pw_below_drewN | apply below_drew1 | refine below_set ?_ GE155.out) | exact HB.out)⟩
   ·replace c12 := Bool.eq_false_iff.mpr c12
    subst c12
    have H1 : (plane_Inside.l0 kj2 l0 (-1) (l0.length : Int) 0 a1_0 a1_1) = some (r1, r2) := by rw [if_neg (show ¬ (false = true) by decide)] at H; exact H
    clear H
    have H := H1
    clear H1
    have H' := Aside0.mk H
    clear H
    go_wp2
    go_loopg [6, 18] kj2 (fun kq v6 v18 w' => ∃ (x6_2 : Int) (x18_2 : Int), v6 = .int .i64 x6_2 ∧ v18 = .int .i64 x18_2 ∧ Aside0 (plane_Inside.l0 kq l0 x6_2 (l0.length : Int) x18_2 a1_0 a1_1 = some (r1, r2)) ∧ Aside0 (kq ≤ kj2) ∧ Aside0 (w'.heap[gb155]? = some (.cells #[.int .i64 a1_0, .int .i64 a1_1] 31 (0, 0))) ∧ Aside0 (Below w.heap.size w w'))
    case atStart => exact ⟨((-1)), (0), (by first | rfl | (simp; done) | (simp [*]; done)), (by first | rfl | (simp; done) | (simp [*]; done)), H', ⟨Nat.le_refl _⟩, ⟨by (with_reducible repeat (first | refine blk_drewN ?_ _ | refine blk_drew ?_ | refine blk_alloc ?_ _)); exact BK155.out⟩, ⟨by repeat (first | (with_reducible first | exact HB.out | apply below_alloc | apply pw_below_drewN | apply below_drew1 | refine below_set ?_ GE155.out) | exact HB.out)⟩⟩
    case round =>
     clear H'
     try clear c1
     try clear c2
     try clear p2
     try clear c6
     try clear c12
     try clear hcz9_0
     try clear hcz9_1
     try clear hfz9_0
     try clear hfz9_1
     try clear p2
     obtain ⟨x6_2, x18_2, rfl, rfl, HA, HK2, BK155, HB⟩ := hrel
     cases gk with
     | zero => exact absurd HA.out (by simp [plane_Inside.l0])
     | succ k2 =>
      have H := HA.out
      clear HA
      simp only [plane_Inside.l0] at H
      by_cases c13 : x18_2 < (l0.length : Int)
      ·rw [if_pos c13] at H
       have c13b0 : decide (x18_2 < (l0.length : Int)) = true := decide_eq_true c13
       clear c13
       replace H := Option.bind_eq_some_iff.mp H
       obtain ⟨⟨t158, t159, t160, t161⟩, A140, H⟩ := H
       replace H : ((plane_segment_has.f t158 t159 t160 t161 a1_0 a1_1).bind fun t163 => (if t163 = true then (some (0, 0)) else (if t159 > t161 then (if t161 ≤ a1_1 then (if a1_1 < t159 then ((plane_turn.f t160 t161 t158 t159 a1_0 a1_1).bind fun t164 => (if t164 > 0 then (plane_Inside.l0 k2 l0 (wrap64 (-x6_2)) (l0.length : Int) (wrap64 (x18_2 + 1)) a1_0 a1_1) else (plane_Inside.l0 k2 l0 x6_2 (l0.length : Int) (wrap64 (x18_2 + 1)) a1_0 a1_1))) else (plane_Inside.l0 k2 l0 x6_2 (l0.length : Int) (wrap64 (x18_2 + 1)) a1_0 a1_1)) else (plane_Inside.l0 k2 l0 x6_2 (l0.length : Int) (wrap64 (x18_2 + 1)) a1_0 a1_1)) else (if t159 ≤ a1_1 then (if a1_1 < t161 then ((plane_turn.f t158 t159 t160 t161 a1_0 a1_1).bind fun t165 => (if t165 > 0 then (plane_Inside.l0 k2 l0 (wrap64 (-x6_2)) (l0.length : Int) (wrap64 (x18_2 + 1)) a1_0 a1_1) else (plane_Inside.l0 k2 l0 x6_2 (l0.length : Int) (wrap64 (x18_2 + 1)) a1_0 a1_1))) else (plane_Inside.l0 k2 l0 x6_2 (l0.length : Int) (wrap64 (x18_2 + 1)) a1_0 a1_1)) else (plane_Inside.l0 k2 l0 x6_2 (l0.length : Int) (wrap64 (x18_2 + 1)) a1_0 a1_1))))) = some (r1, r2) := H
       have A14 := Aside0.mk A140
       clear A140
       replace H := Option.bind_eq_some_iff.mp H
       obtain ⟨t163, A150, H⟩ := H
       replace H : (if t163 = true then (some (0, 0)) else (if t159 > t161 then (if t161 ≤ a1_1 then (if a1_1 < t159 then ((plane_turn.f t160 t161 t158 t159 a1_0 a1_1).bind fun t164 => (if t164 > 0 then (plane_Inside.l0 k2 l0 (wrap64 (-x6_2)) (l0.length : Int) (wrap64 (x18_2 + 1)) a1_0 a1_1) else (plane_Inside.l0 k2 l0 x6_2 (l0.length : Int) (wrap64 (x18_2 + 1)) a1_0 a1_1))) else (plane_Inside.l0 k2 l0 x6_2 (l0.length : Int) (wrap64 (x18_2 + 1)) a1_0 a1_1)) else (plane_Inside.l0 k2 l0 x6_2 (l0.length : Int) (wrap64 (x18_2 + 1)) a1_0 a1_1)) else (if t159 ≤ a1_1 then (if a1_1 < t161 then ((plane_turn.f t158 t159 t160 t161 a1_0 a1_1).bind fun t165 => (if t165 > 0 then (plane_Inside.l0 k2 l0 (wrap64 (-x6_2)) (l0.length : Int) (wrap64 (x18_2 + 1)) a1_0 a1_1) else (plane_Inside.l0 k2 l0 x6_2 (l0.length : Int) (wrap64 (x18_2 + 1)) a1_0 a1_1))) else (plane_Inside.l0 k2 l0 x6_2 (l0.length : Int) (wrap64 (x18_2 + 1)) a1_0 a1_1)) else (plane_Inside.l0 k2 l0 x6_2 (l0.length : Int) (wrap64 (x18_2 + 1)) a1_0 a1_1)))) = some (r1, r2) := H
       have A15 := Aside0.mk A150
       clear A150
       by_cases c16 : t163 = true
       ·subst c16
        have H1 : (some (0, 0)) = some (r1, r2) := by rw [if_pos rfl] at H; exact H
        clear H
        have H := H1
        clear H1
        simp only [Option.some.injEq, Prod.mk.injEq] at H
        obtain ⟨rfl, rfl⟩ := H
        go_wp2_with (first | ((with_reducible refine gate_callee (f := 56) rfl ?_); refine goesL_ (some 23) rfl rfl Try.func56 (by kernel_rfl) rfl #[.slice A0 l0.length c0, .int .i64 x18_2] rfl (by (try simp only [List.map_toArray, List.map_cons, List.map_nil]); first | done | rfl | (simp only [List.length_drop, List.length_take]; rfl)) ?_; (with_reducible refine (plane_edge.calls _ _ l0 x18_2 t158 t159 t160 t161 _ ?side1 ?side2 A14.out).mono ?_); (case side1 => repeat (first | exact (Kd.C_below HR0.out HB.out) | (with_reducible refine Kd.C_alloc ?_ _) | (with_reducible refine Kd.C_drewN ?_ _) | (with_reducible refine Kd.C_drew ?_))); (case side2 => exact HC0.out); rintro e w17 ⟨rfl, hb⟩; refine ⟨_, rfl, ?_⟩; have n0_ := Aside0.mk (blk_below (g := gb155) (o := .cells #[.int .i64 a1_0, .int .i64 a1_1] 31 (0, 0)) (by (with_reducible repeat (first | refine blk_drewN ?_ _ | refine blk_drew ?_ | refine blk_alloc ?_ _)); exact BK155.out) hb); have n1_ := Aside0.mk (below_step (by repeat (first | (with_reducible first | exact HB.out | apply below_alloc | apply pw_below_drewN | apply below_drew1 | refine below_set ?_ GE155.out) | exact HB.out)) hb); clear BK155; clear HB; have BK155 := n0_; have HB := n1_; clear n0_ n1_; (try clear hb); (try clear hb2); (try clear hk); (try clear hi)) | ((with_reducible refine gate_dst (N := 8) rfl ?_); refine box_event ?hg (N := 8) ?hd (cs := #[.int .i64 0, .int .i64 0, .int .i64 0, .int .i64 0]) (t := 61) ?hr ?_; (case hd => rfl); (case hg => rfl); (case hr => first | (go_simp; done) | (go_simp; rfl)); intro gb162 hg w18 hbox hb; have n0_ := Aside0.mk (blk_below (g := gb155) (o := .cells #[.int .i64 a1_0, .int .i64 a1_1] 31 (0, 0)) (by (with_reducible repeat (first | refine blk_drewN ?_ _ | refine blk_drew ?_ | refine blk_alloc ?_ _)); exact BK155.out) hb); have n1_ := Aside0.mk (below_step (by repeat (first | (with_reducible first | exact HB.out | apply below_alloc | apply pw_below_drewN | apply below_drew1 | refine below_set ?_ GE155.out) | exact HB.out)) hb); have n2_ := Aside0.mk (hbox); have n3_ := Aside0.mk ((by rw [hg]; exact (below_size (by repeat (first | (with_reducible first | exact HB.out | apply below_alloc | apply pw_below_drewN | apply below_drew1 | refine below_set ?_ GE155.out) | exact HB.out))) : w.heap.size ≤ gb162)); have n4_ := Aside0.mk ((by rw [hg]; exact (below_size (by repeat (first | (with_reducible first | exact HB.out | apply below_alloc | apply pw_below_drewN | apply below_drew1 | refine below_set ?_ GE155.out) | exact HB.out))) : w.heap.size ≤ gb162)); have n5_ := Aside0.mk ((by rw [hg]; exact Nat.ne_of_lt (blk_lt (g := gb155) (o := .cells #[.int .i64 a1_0, .int .i64 a1_1] 31 (0, 0)) (by (with_reducible repeat (first | refine blk_drewN ?_ _ | refine blk_drew ?_ | refine blk_alloc ?_ _)); exact BK155.out)) : gb155 ≠ gb162)); have n6_ := Aside0.mk ((by rw [hg]; exact Nat.ne_of_gt (blk_lt (g := gb155) (o := .cells #[.int .i64 a1_0, .int .i64 a1_1] 31 (0, 0)) (by (with_reducible repeat (first | refine blk_drewN ?_ _ | refine blk_drew ?_ | refine blk_alloc ?_ _)); exact BK155.out)) : gb162 ≠ gb155)); clear BK155; clear HB; have BK155 := n0_; have HB := n1_; have BK162 := n2_; have GW162 := n3_; have GE162 := n4_; have NB155_162 := n5_; have NB162_155 := n6_; clear n0_ n1_ n2_ n3_ n4_ n5_ n6_; clear hb hbox hg; have hnb19 := NB162_155.out; have hnc19 := NB155_162.out; have hcz20_0 : w18.cell? ⟨gb162, 0, none⟩ = some (.int .i64 0) := (blk_cell BK162.out 0).trans rfl; have hcz20_1 : w18.cell? ⟨gb162, 1, none⟩ = some (.int .i64 0) := (blk_cell BK162.out 1).trans rfl; have hcz20_2 : w18.cell? ⟨gb162, 2, none⟩ = some (.int .i64 0) := (blk_cell BK162.out 2).trans rfl; have hcz20_3 : w18.cell? ⟨gb162, 3, none⟩ = some (.int .i64 0) := (blk_cell BK162.out 3).trans rfl; have hfz20_0 := blk_frozen BK162.out 0; have hfz20_1 := blk_frozen BK162.out 1; have hfz20_2 := blk_frozen BK162.out 2; have hfz20_3 := blk_frozen BK162.out 3; have hcz21_0 : w18.cell? ⟨gb155, 0, none⟩ = some (.int .i64 a1_0) := (blk_cell BK155.out 0).trans rfl; have hcz21_1 : w18.cell? ⟨gb155, 1, none⟩ = some (.int .i64 a1_1) := (blk_cell BK155.out 1).trans rfl; have hfz21_0 := blk_frozen BK155.out 0; have hfz21_1 := blk_frozen BK155.out 1) | ((with_reducible refine gate_callee (f := 57) rfl ?_); refine goesL_ (some 26) rfl rfl Try.func57 (by kernel_rfl) rfl #[.agg #[.int .i64 t158, .int .i64 t159, .int .i64 t160, .int .i64 t161], .agg #[.int .i64 a1_0, .int .i64 a1_1]] rfl (by (try simp only [List.map_toArray, List.map_cons, List.map_nil]); first | done | rfl | (simp only [List.length_drop, List.length_take]; rfl)) ?_; (with_reducible refine (plane_segment_has.calls t158 t159 t160 t161 a1_0 a1_1 true _ A15.out).mono ?_); rintro e w22 ⟨rfl, hb⟩; refine ⟨_, rfl, ?_⟩; have n0_ := Aside0.mk (blk_below (g := gb155) (o := .cells #[.int .i64 a1_0, .int .i64 a1_1] 31 (0, 0)) (by (with_reducible repeat (first | refine blk_drewN ?_ _ | refine blk_drew ?_ | refine blk_alloc ?_ _)); refine blk_far ?_ NB155_162.out _; (with_reducible repeat (first | refine blk_drewN ?_ _ | refine blk_drew ?_ | refine blk_alloc ?_ _)); refine blk_far ?_ NB155_162.out _; (with_reducible repeat (first | refine blk_drewN ?_ _ | refine blk_drew ?_ | refine blk_alloc ?_ _)); refine blk_far ?_ NB155_162.out _; (with_reducible repeat (first | refine blk_drewN ?_ _ | refine blk_drew ?_ | refine blk_alloc ?_ _)); refine blk_far ?_ NB155_162.out _; (with_reducible repeat (first | refine blk_drewN ?_ _ | refine blk_drew ?_ | refine blk_alloc ?_ _)); exact BK155.out) hb); have n1_ := Aside0.mk (blk_below (g := gb162) (o := .cells #[.int .i64 t158, .int .i64 t159, .int .i64 t160, .int .i64 t161] 61 (0, 0)) (by (with_reducible repeat (first | refine blk_drewN ?_ _ | refine blk_drew ?_ | refine blk_alloc ?_ _)); refine blk_put (cs := #[.int .i64 t158, .int .i64 t159, .int .i64 t160, .int .i64 0]) ?_ 3 _ rfl; (with_reducible repeat (first | refine blk_drewN ?_ _ | refine blk_drew ?_ | refine blk_alloc ?_ _)); refine blk_put (cs := #[.int .i64 t158, .int .i64 t159, .int .i64 0, .int .i64 0]) ?_ 2 _ rfl; (with_reducible repeat (first | refine blk_drewN ?_ _ | refine blk_drew ?_ | refine blk_alloc ?_ _)); refine blk_put (cs := #[.int .i64 t158, .int .i64 0, .int .i64 0, .int .i64 0]) ?_ 1 _ rfl; (with_reducible repeat (first | refine blk_drewN ?_ _ | refine blk_drew ?_ | refine blk_alloc ?_ _)); refine blk_put (cs := #[.int .i64 0, .int .i64 0, .int .i64 0, .int .i64 0]) ?_ 0 _ rfl; (with_reducible repeat (first | refine blk_drewN ?_ _ | refine blk_drew ?_ | refine blk_alloc ?_ _)); exact BK162.out) hb); have n2_ := Aside0.mk (below_step (by repeat (first | (with_reducible first | exact HB.out | apply below_alloc | apply pw_below_drewN | apply below_drew1 | refine below_set ?_ GE155.out | refine below_set ?_ GE162.out) | exact HB.out)) hb); clear BK155; clear BK162; clear HB; have BK155 := n0_; have BK162 := n1_; have HB := n2_; clear n0_ n1_ n2_; (try clear hb); (try clear hb2); (try clear hk); (try clear hi)))
        go_ret2
        exact ⟨by first | rfl | (simp [errW_none, errW_some] <;> rfl) | (simp [*, errW_none, errW_some] <;> rfl), by repeat (first | (with_reducible first | exact HB.out | apply below_alloc | apply pw_below_drewN | apply below_drew1 | refine below_set ?_ GE155.out | refine below_set ?_ GE162.out) | exact HB.out)⟩
       ·replace c16 := Bool.eq_false_iff.mpr c16
        subst c16
        have H1 : (if t159 > t161 then (if t161 ≤ a1_1 then (if a1_1 < t159 then ((plane_turn.f t160 t161 t158 t159 a1_0 a1_1).bind fun t164 => (if t164 > 0 then (plane_Inside.l0 k2 l0 (wrap64 (-x6_2)) (l0.length : Int) (wrap64 (x18_2 + 1)) a1_0 a1_1) else (plane_Inside.l0 k2 l0 x6_2 (l0.length : Int) (wrap64 (x18_2 + 1)) a1_0 a1_1))) else (plane_Inside.l0 k2 l0 x6_2 (l0.length : Int) (wrap64 (x18_2 + 1)) a1_0 a1_1)) else (plane_Inside.l0 k2 l0 x6_2 (l0.length : Int) (wrap64 (x18_2 + 1)) a1_0 a1_1)) else (if t159 ≤ a1_1 then (if a1_1 < t161 then ((plane_turn.f t158 t159 t160 t161 a1_0 a1_1).bind fun t165 => (if t165 > 0 then (plane_Inside.l0 k2 l0 (wrap64 (-x6_2)) (l0.length : Int) (wrap64 (x18_2 + 1)) a1_0 a1_1) else (plane_Inside.l0 k2 l0 x6_2 (l0.length : Int) (wrap64 (x18_2 + 1)) a1_0 a1_1))) else (plane_Inside.l0 k2 l0 x6_2 (l0.length : Int) (wrap64 (x18_2 + 1)) a1_0 a1_1)) else (plane_Inside.l0 k2 l0 x6_2 (l0.length : Int) (wrap64 (x18_2 + 1)) a1_0 a1_1))) = some (r1, r2) := by rw [if_neg (show ¬ (false = true) by decide)] at H; exact H
        clear H
        have H := H1
        clear H1
        by_cases c23 : t159 > t161
        ·rw [if_pos c23] at H
         have c23b0 : decide (t161 < t159) = true := decide_eq_true c23
         clear c23
         by_cases c24 : t161 ≤ a1_1
         ·rw [if_pos c24] at H
          have c24b0 : decide (t161 ≤ a1_1) = true := decide_eq_true c24
          clear c24
          by_cases c25 : a1_1 < t159
          ·rw [if_pos c25] at H
           have c25b0 : decide (a1_1 < t159) = true := decide_eq_true c25
           clear c25
           replace H := Option.bind_eq_some_iff.mp H
           obtain ⟨t164, A260, H⟩ := H
           replace H : (if t164 > 0 then (plane_Inside.l0 k2 l0 (wrap64 (-x6_2)) (l0.length : Int) (wrap64 (x18_2 + 1)) a1_0 a1_1) else (plane_Inside.l0 k2 l0 x6_2 (l0.length : Int) (wrap64 (x18_2 + 1)) a1_0 a1_1)) = some (r1, r2) := H
           have A26 := Aside0.mk A260
           clear A260
           by_cases c27 : t164 > 0
           ·rw [if_pos c27] at H
            have c27b0 : decide (0 < t164) = true := decide_eq_true c27
            clear c27
            have H' := Aside0.mk H
            clear H
            go_wp2_with (first | ((with_reducible refine gate_callee (f := 56) rfl ?_); refine goesL_ (some 23) rfl rfl Try.func56 (by kernel_rfl) rfl #[.slice A0 l0.length c0, .int .i64 x18_2] rfl (by (try simp only [List.map_toArray, List.map_cons, List.map_nil]); first | done | rfl | (simp only [List.length_drop, List.length_take]; rfl)) ?_; (with_reducible refine (plane_edge.calls _ _ l0 x18_2 t158 t159 t160 t161 _ ?side1 ?side2 A14.out).mono ?_); (case side1 => repeat (first | exact (Kd.C_below HR0.out HB.out) | (with_reducible refine Kd.C_alloc ?_ _) | (with_reducible refine Kd.C_drewN ?_ _) | (with_reducible refine Kd.C_drew ?_))); (case side2 => exact HC0.out); rintro e w28 ⟨rfl, hb⟩; refine ⟨_, rfl, ?_⟩; have n0_ := Aside0.mk (blk_below (g := gb155) (o := .cells #[.int .i64 a1_0, .int .i64 a1_1] 31 (0, 0)) (by (with_reducible repeat (first | refine blk_drewN ?_ _ | refine blk_drew ?_ | refine blk_alloc ?_ _)); exact BK155.out) hb); have n1_ := Aside0.mk (below_step (by repeat (first | (with_reducible first | exact HB.out | apply below_alloc | apply pw_below_drewN | apply below_drew1 | refine below_set ?_ GE155.out) | exact HB.out)) hb); clear BK155; clear HB; have BK155 := n0_; have HB := n1_; clear n0_ n1_; (try clear hb); (try clear hb2); (try clear hk); (try clear hi)) | ((with_reducible refine gate_dst (N := 8) rfl ?_); refine box_event ?hg (N := 8) ?hd (cs := #[.int .i64 0, .int .i64 0, .int .i64 0, .int .i64 0]) (t := 61) ?hr ?_; (case hd => rfl); (case hg => rfl); (case hr => first | (go_simp; done) | (go_simp; rfl)); intro gb162 hg w29 hbox hb; have n0_ := Aside0.mk (blk_below (g := gb155) (o := .cells #[.int .i64 a1_0, .int .i64 a1_1] 31 (0, 0)) (by (with_reducible repeat (first | refine blk_drewN ?_ _ | refine blk_drew ?_ | refine blk_alloc ?_ _)); exact BK155.out) hb); have n1_ := Aside0.mk (below_step (by repeat (first | (with_reducible first | exact HB.out | apply below_alloc | apply pw_below_drewN | apply below_drew1 | refine below_set ?_ GE155.out) | exact HB.out)) hb); have n2_ := Aside0.mk (hbox); have n3_ := Aside0.mk ((by rw [hg]; exact (below_size (by repeat (first | (with_reducible first | exact HB.out | apply below_alloc | apply pw_below_drewN | apply below_drew1 | refine below_set ?_ GE155.out) | exact HB.out))) : w.heap.size ≤ gb162)); have n4_ := Aside0.mk ((by rw [hg]; exact (below_size (by repeat (first | (with_reducible first | exact HB.out | apply below_alloc | apply pw_below_drewN | apply below_drew1 | refine below_set ?_ GE155.out) | exact HB.out))) : w.heap.size ≤ gb162)); have n5_ := Aside0.mk ((by rw [hg]; exact Nat.ne_of_lt (blk_lt (g := gb155) (o := .cells #[.int .i64 a1_0, .int .i64 a1_1] 31 (0, 0)) (by (with_reducible repeat (first | refine blk_drewN ?_ _ | refine blk_drew ?_ | refine blk_alloc ?_ _)); exact BK155.out)) : gb155 ≠ gb162)); have n6_ := Aside0.mk ((by rw [hg]; exact Nat.ne_of_gt (blk_lt (g := gb155) (o := .cells #[.int .i64 a1_0, .int .i64 a1_1] 31 (0, 0)) (by (with_reducible repeat (first | refine blk_drewN ?_ _ | refine blk_drew ?_ | refine blk_alloc ?_ _)); exact BK155.out)) : gb162 ≠ gb155)); clear BK155; clear HB; have BK155 := n0_; have HB := n1_; have BK162 := n2_; have GW162 := n3_; have GE162 := n4_; have NB155_162 := n5_; have NB162_155 := n6_; clear n0_ n1_ n2_ n3_ n4_ n5_ n6_; clear hb hbox hg; have hnb30 := NB162_155.out; have hnc30 := NB155_162.out; have hcz31_0 : w29.cell? ⟨gb162, 0, none⟩ = some (.int .i64 0) := (blk_cell BK162.out 0).trans rfl; have hcz31_1 : w29.cell? ⟨gb162, 1, none⟩ = some (.int .i64 0) := (blk_cell BK162.out 1).trans rfl; have hcz31_2 : w29.cell? ⟨gb162, 2, none⟩ = some (.int .i64 0) := (blk_cell BK162.out 2).trans rfl; have hcz31_3 : w29.cell? ⟨gb162, 3, none⟩ = some (.int .i64 0) := (blk_cell BK162.out 3).trans rfl; have hfz31_0 := blk_frozen BK162.out 0; have hfz31_1 := blk_frozen BK162.out 1; have hfz31_2 := blk_frozen BK162.out 2; have hfz31_3 := blk_frozen BK162.out 3; have hcz32_0 : w29.cell? ⟨gb155, 0, none⟩ = some (.int .i64 a1_0) := (blk_cell BK155.out 0).trans rfl; have hcz32_1 : w29.cell? ⟨gb155, 1, none⟩ = some (.int .i64 a1_1) := (blk_cell BK155.out 1).trans rfl; have hfz32_0 := blk_frozen BK155.out 0; have hfz32_1 := blk_frozen BK155.out 1) | ((with_reducible refine gate_callee (f := 57) rfl ?_); refine goesL_ (some 26) rfl rfl Try.func57 (by kernel_rfl) rfl #[.agg #[.int .i64 t158, .int .i64 t159, .int .i64 t160, .int .i64 t161], .agg #[.int .i64 a1_0, .int .i64 a1_1]] rfl (by (try simp only [List.map_toArray, List.map_cons, List.map_nil]); first | done | rfl | (simp only [List.length_drop, List.length_take]; rfl)) ?_; (with_reducible refine (plane_segment_has.calls t158 t159 t160 t161 a1_0 a1_1 false _ A15.out).mono ?_); rintro e w33 ⟨rfl, hb⟩; refine ⟨_, rfl, ?_⟩; have n0_ := Aside0.mk (blk_below (g := gb155) (o := .cells #[.int .i64 a1_0, .int .i64 a1_1] 31 (0, 0)) (by (with_reducible repeat (first | refine blk_drewN ?_ _ | refine blk_drew ?_ | refine blk_alloc ?_ _)); refine blk_far ?_ NB155_162.out _; (with_reducible repeat (first | refine blk_drewN ?_ _ | refine blk_drew ?_ | refine blk_alloc ?_ _)); refine blk_far ?_ NB155_162.out _; (with_reducible repeat (first | refine blk_drewN ?_ _ | refine blk_drew ?_ | refine blk_alloc ?_ _)); refine blk_far ?_ NB155_162.out _; (with_reducible repeat (first | refine blk_drewN ?_ _ | refine blk_drew ?_ | refine blk_alloc ?_ _)); refine blk_far ?_ NB155_162.out _; (with_reducible repeat (first | refine blk_drewN ?_ _ | refine blk_drew ?_ | refine blk_alloc ?_ _)); exact BK155.out) hb); have n1_ := Aside0.mk (blk_below (g := gb162) (o := .cells #[.int .i64 t158, .int .i64 t159, .int .i64 t160, .int .i64 t161] 61 (0, 0)) (by (with_reducible repeat (first | refine blk_drewN ?_ _ | refine blk_drew ?_ | refine blk_alloc ?_ _)); refine blk_put (cs := #[.int .i64 t158, .int .i64 t159, .int .i64 t160, .int .i64 0]) ?_ 3 _ rfl; (with_reducible repeat (first | refine blk_drewN ?_ _ | refine blk_drew ?_ | refine blk_alloc ?_ _)); refine blk_put (cs := #[.int .i64 t158, .int .i64 t159, .int .i64 0, .int .i64 0]) ?_ 2 _ rfl; (with_reducible repeat (first | refine blk_drewN ?_ _ | refine blk_drew ?_ | refine blk_alloc ?_ _)); refine blk_put (cs := #[.int .i64 t158, .int .i64 0, .int .i64 0, .int .i64 0]) ?_ 1 _ rfl; (with_reducible repeat (first | refine blk_drewN ?_ _ | refine blk_drew ?_ | refine blk_alloc ?_ _)); refine blk_put (cs := #[.int .i64 0, .int .i64 0, .int .i64 0, .int .i64 0]) ?_ 0 _ rfl; (with_reducible repeat (first | refine blk_drewN ?_ _ | refine blk_drew ?_ | refine blk_alloc ?_ _)); exact BK162.out) hb); have n2_ := Aside0.mk (below_step (by repeat (first | (with_reducible first | exact HB.out | apply below_alloc | apply pw_below_drewN | apply below_drew1 | refine below_set ?_ GE155.out | refine below_set ?_ GE162.out) | exact HB.out)) hb); clear BK155; clear BK162; clear HB; have BK155 := n0_; have BK162 := n1_; have HB := n2_; clear n0_ n1_ n2_; (try clear hb); (try clear hb2); (try clear hk); (try clear hi); have hcz34_0 : w33.cell? ⟨gb162, 0, none⟩ = some (.int .i64 t158) := (blk_cell BK162.out 0).trans rfl; have hcz34_1 : w33.cell? ⟨gb162, 1, none⟩ = some (.int .i64 t159) := (blk_cell BK162.out 1).trans rfl; have hcz34_2 : w33.cell? ⟨gb162, 2, none⟩ = some (.int .i64 t160) := (blk_cell BK162.out 2).trans rfl; have hcz34_3 : w33.cell? ⟨gb162, 3, none⟩ = some (.int .i64 t161) := (blk_cell BK162.out 3).trans rfl; have hfz34_0 := blk_frozen BK162.out 0; have hfz34_1 := blk_frozen BK162.out 1; have hfz34_2 := blk_frozen BK162.out 2; have hfz34_3 := blk_frozen BK162.out 3; have hcz35_0 : w33.cell? ⟨gb155, 0, none⟩ = some (.int .i64 a1_0) := (blk_cell BK155.out 0).trans rfl; have hcz35_1 : w33.cell? ⟨gb155, 1, none⟩ = some (.int .i64 a1_1) := (blk_cell BK155.out 1).trans rfl; have hfz35_0 := blk_frozen BK155.out 0; have hfz35_1 := blk_frozen BK155.out 1) | (go_at_call 61; (with_reducible refine (plane_turn.calls t160 t161 t158 t159 a1_0 a1_1 t164 _ A26.out).mono ?_); rintro e w36 ⟨rfl, hb⟩; have n0_ := Aside0.mk (blk_below (g := gb155) (o := .cells #[.int .i64 a1_0, .int .i64 a1_1] 31 (0, 0)) (by (with_reducible repeat (first | refine blk_drewN ?_ _ | refine blk_drew ?_ | refine blk_alloc ?_ _)); refine blk_far ?_ NB155_162.out _; (with_reducible repeat (first | refine blk_drewN ?_ _ | refine blk_drew ?_ | refine blk_alloc ?_ _)); refine blk_far ?_ NB155_162.out _; (with_reducible repeat (first | refine blk_drewN ?_ _ | refine blk_drew ?_ | refine blk_alloc ?_ _)); refine blk_far ?_ NB155_162.out _; (with_reducible repeat (first | refine blk_drewN ?_ _ | refine blk_drew ?_ | refine blk_alloc ?_ _)); refine blk_far ?_ NB155_162.out _; (with_reducible repeat (first | refine blk_drewN ?_ _ | refine blk_drew ?_ | refine blk_alloc ?_ _)); exact BK155.out) hb); have n1_ := Aside0.mk (blk_below (g := gb162) (o := .cells #[.int .i64 t160, .int .i64 t161, .int .i64 t158, .int .i64 t159] 61 (0, 0)) (by (with_reducible repeat (first | refine blk_drewN ?_ _ | refine blk_drew ?_ | refine blk_alloc ?_ _)); refine blk_put (cs := #[.int .i64 t160, .int .i64 t161, .int .i64 t158, .int .i64 t161]) ?_ 3 _ rfl; (with_reducible repeat (first | refine blk_drewN ?_ _ | refine blk_drew ?_ | refine blk_alloc ?_ _)); refine blk_put (cs := #[.int .i64 t160, .int .i64 t161, .int .i64 t160, .int .i64 t161]) ?_ 2 _ rfl; (with_reducible repeat (first | refine blk_drewN ?_ _ | refine blk_drew ?_ | refine blk_alloc ?_ _)); refine blk_put (cs := #[.int .i64 t160, .int .i64 t159, .int .i64 t160, .int .i64 t161]) ?_ 1 _ rfl; (with_reducible repeat (first | refine blk_drewN ?_ _ | refine blk_drew ?_ | refine blk_alloc ?_ _)); refine blk_put (cs := #[.int .i64 t158, .int .i64 t159, .int .i64 t160, .int .i64 t161]) ?_ 0 _ rfl; (with_reducible repeat (first | refine blk_drewN ?_ _ | refine blk_drew ?_ | refine blk_alloc ?_ _)); exact BK162.out) hb); have n2_ := Aside0.mk (below_step (by repeat (first | (with_reducible first | exact HB.out | apply below_alloc | apply pw_below_drewN | apply below_drew1 | refine below_set ?_ GE155.out | refine below_set ?_ GE162.out) | exact HB.out)) hb); clear BK155; clear BK162; clear HB; have BK155 := n0_; have BK162 := n1_; have HB := n2_; clear n0_ n1_ n2_; (try clear hb); (try clear hb2); (try clear hk); (try clear hi)))
            go_roundg k2
            case measure => have := HJ2.out; have := HK2.out; omega
            case rel => exact ⟨(wrap64 (-x6_2)), (wrap64 (x18_2 + 1)), (by first | rfl | (simp; done) | (simp [*]; done)), (by first | rfl | (simp; done) | (simp [*]; done)), H', ⟨by have := HJ2.out; have := HK2.out; omega⟩, ⟨by (with_reducible repeat (first | refine blk_drewN ?_ _ | refine blk_drew ?_ | refine blk_alloc ?_ _)); exact BK155.out⟩, ⟨by repeat (first | (with_reducible first | exact HB.out | apply below_alloc | apply pw_below_drewN | apply below_drew1 | refine below_set ?_ GE155.out | refine below_set ?_ GE162.out) | exact HB.out)⟩⟩
           ·rw [if_neg c27] at H
            have c27b0 : decide (0 < t164) = false := decide_eq_false c27
            clear c27
            have H' := Aside0.mk H
            clear H
            go_wp2_with (first | ((with_reducible refine gate_callee (f := 56) rfl ?_); refine goesL_ (some 23) rfl rfl Try.func56 (by kernel_rfl) rfl #[.slice A0 l0.length c0, .int .i64 x18_2] rfl (by (try simp only [List.map_toArray, List.map_cons, List.map_nil]); first | done | rfl | (simp only [List.length_drop, List.length_take]; rfl)) ?_; (with_reducible refine (plane_edge.calls _ _ l0 x18_2 t158 t159 t160 t161 _ ?side1 ?side2 A14.out).mono ?_); (case side1 => repeat (first | exact (Kd.C_below HR0.out HB.out) | (with_reducible refine Kd.C_alloc ?_ _) | (with_reducible refine Kd.C_drewN ?_ _) | (with_reducible refine Kd.C_drew ?_))); (case side2 => exact HC0.out); rintro e w37 ⟨rfl, hb⟩; refine ⟨_, rfl, ?_⟩; have n0_ := Aside0.mk (blk_below (g := gb155) (o := .cells #[.int .i64 a1_0, .int .i64 a1_1] 31 (0, 0)) (by (with_reducible repeat (first | refine blk_drewN ?_ _ | refine blk_drew ?_ | refine blk_alloc ?_ _)); exact BK155.out) hb); have n1_ := Aside0.mk (below_step (by repeat (first | (with_reducible first | exact HB.out | apply below_alloc | apply pw_below_drewN | apply below_drew1 | refine below_set ?_ GE155.out) | exact HB.out)) hb); clear BK155; clear HB; have BK155 := n0_; have HB := n1_; clear n0_ n1_; (try clear hb); (try clear hb2); (try clear hk); (try clear hi)) | ((with_reducible refine gate_dst (N := 8) rfl ?_); refine box_event ?hg (N := 8) ?hd (cs := #[.int .i64 0, .int .i64 0, .int .i64 0, .int .i64 0]) (t := 61) ?hr ?_; (case hd => rfl); (case hg => rfl); (case hr => first | (go_simp; done) | (go_simp; rfl)); intro gb162 hg w38 hbox hb; have n0_ := Aside0.mk (blk_below (g := gb155) (o := .cells #[.int .i64 a1_0, .int .i64 a1_1] 31 (0, 0)) (by (with_reducible repeat (first | refine blk_drewN ?_ _ | refine blk_drew ?_ | refine blk_alloc ?_ _)); exact BK155.out) hb); have n1_ := Aside0.mk (below_step (by repeat (first | (with_reducible first | exact HB.out | apply below_alloc | apply pw_below_drewN | apply below_drew1 | refine below_set ?_ GE155.out) | exact HB.out)) hb); have n2_ := Aside0.mk (hbox); have n3_ := Aside0.mk ((by rw [hg]; exact (below_size (by repeat (first | (with_reducible first | exact HB.out | apply below_alloc | apply pw_below_drewN | apply below_drew1 | refine below_set ?_ GE155.out) | exact HB.out))) : w.heap.size ≤ gb162)); have n4_ := Aside0.mk ((by rw [hg]; exact (below_size (by repeat (first | (with_reducible first | exact HB.out | apply below_alloc | apply pw_below_drewN | apply below_drew1 | refine below_set ?_ GE155.out) | exact HB.out))) : w.heap.size ≤ gb162)); have n5_ := Aside0.mk ((by rw [hg]; exact Nat.ne_of_lt (blk_lt (g := gb155) (o := .cells #[.int .i64 a1_0, .int .i64 a1_1] 31 (0, 0)) (by (with_reducible repeat (first | refine blk_drewN ?_ _ | refine blk_drew ?_ | refine blk_alloc ?_ _)); exact BK155.out)) : gb155 ≠ gb162)); have n6_ := Aside0.mk ((by rw [hg]; exact Nat.ne_of_gt (blk_lt (g := gb155) (o := .cells #[.int .i64 a1_0, .int .i64 a1_1] 31 (0, 0)) (by (with_reducible repeat (first | refine blk_drewN ?_ _ | refine blk_drew ?_ | refine blk_alloc ?_ _)); exact BK155.out)) : gb162 ≠ gb155)); clear BK155; clear HB; have BK155 := n0_; have HB := n1_; have BK162 := n2_; have GW162 := n3_; have GE162 := n4_; have NB155_162 := n5_; have NB162_155 := n6_; clear n0_ n1_ n2_ n3_ n4_ n5_ n6_; clear hb hbox hg; have hnb39 := NB162_155.out; have hnc39 := NB155_162.out; have hcz40_0 : w38.cell? ⟨gb162, 0, none⟩ = some (.int .i64 0) := (blk_cell BK162.out 0).trans rfl; have hcz40_1 : w38.cell? ⟨gb162, 1, none⟩ = some (.int .i64 0) := (blk_cell BK162.out 1).trans rfl; have hcz40_2 : w38.cell? ⟨gb162, 2, none⟩ = some (.int .i64 0) := (blk_cell BK162.out 2).trans rfl; have hcz40_3 : w38.cell? ⟨gb162, 3, none⟩ = some (.int .i64 0) := (blk_cell BK162.out 3).trans rfl; have hfz40_0 := blk_frozen BK162.out 0; have hfz40_1 := blk_frozen BK162.out 1; have hfz40_2 := blk_frozen BK162.out 2; have hfz40_3 := blk_frozen BK162.out 3; have hcz41_0 : w38.cell? ⟨gb155, 0, none⟩ = some (.int .i64 a1_0) := (blk_cell BK155.out 0).trans rfl; have hcz41_1 : w38.cell? ⟨gb155, 1, none⟩ = some (.int .i64 a1_1) := (blk_cell BK155.out 1).trans rfl; have hfz41_0 := blk_frozen BK155.out 0; have hfz41_1 := blk_frozen BK155.out 1) | ((with_reducible refine gate_callee (f := 57) rfl ?_); refine goesL_ (some 26) rfl rfl Try.func57 (by kernel_rfl) rfl #[.agg #[.int .i64 t158, .int .i64 t159, .int .i64 t160, .int .i64 t161], .agg #[.int .i64 a1_0, .int .i64 a1_1]] rfl (by (try simp only [List.map_toArray, List.map_cons, List.map_nil]); first | done | rfl | (simp only [List.length_drop, List.length_take]; rfl)) ?_; (with_reducible refine (plane_segment_has.calls t158 t159 t160 t161 a1_0 a1_1 false _ A15.out).mono ?_); rintro e w42 ⟨rfl, hb⟩; refine ⟨_, rfl, ?_⟩; have n0_ := Aside0.mk (blk_below (g := gb155) (o := .cells #[.int .i64 a1_0, .int .i64 a1_1] 31 (0, 0)) (by (with_reducible repeat (first | refine blk_drewN ?_ _ | refine blk_drew ?_ | refine blk_alloc ?_ _)); refine blk_far ?_ NB155_162.out _; (with_reducible repeat (first | refine blk_drewN ?_ _ | refine blk_drew ?_ | refine blk_alloc ?_ _)); refine blk_far ?_ NB155_162.out _; (with_reducible repeat (first | refine blk_drewN ?_ _ | refine blk_drew ?_ | refine blk_alloc ?_ _)); refine blk_far ?_ NB155_162.out _; (with_reducible repeat (first | refine blk_drewN ?_ _ | refine blk_drew ?_ | refine blk_alloc ?_ _)); refine blk_far ?_ NB155_162.out _; (with_reducible repeat (first | refine blk_drewN ?_ _ | refine blk_drew ?_ | refine blk_alloc ?_ _)); exact BK155.out) hb); have n1_ := Aside0.mk (blk_below (g := gb162) (o := .cells #[.int .i64 t158, .int .i64 t159, .int .i64 t160, .int .i64 t161] 61 (0, 0)) (by (with_reducible repeat (first | refine blk_drewN ?_ _ | refine blk_drew ?_ | refine blk_alloc ?_ _)); refine blk_put (cs := #[.int .i64 t158, .int .i64 t159, .int .i64 t160, .int .i64 0]) ?_ 3 _ rfl; (with_reducible repeat (first | refine blk_drewN ?_ _ | refine blk_drew ?_ | refine blk_alloc ?_ _)); refine blk_put (cs := #[.int .i64 t158, .int .i64 t159, .int .i64 0, .int .i64 0]) ?_ 2 _ rfl; (with_reducible repeat (first | refine blk_drewN ?_ _ | refine blk_drew ?_ | refine blk_alloc ?_ _)); refine blk_put (cs := #[.int .i64 t158, .int .i64 0, .int .i64 0, .int .i64 0]) ?_ 1 _ rfl; (with_reducible repeat (first | refine blk_drewN ?_ _ | refine blk_drew ?_ | refine blk_alloc ?_ _)); refine blk_put (cs := #[.int .i64 0, .int .i64 0, .int .i64 0, .int .i64 0]) ?_ 0 _ rfl; (with_reducible repeat (first | refine blk_drewN ?_ _ | refine blk_drew ?_ | refine blk_alloc ?_ _)); exact BK162.out) hb); have n2_ := Aside0.mk (below_step (by repeat (first | (with_reducible first | exact HB.out | apply below_alloc | apply pw_below_drewN | apply below_drew1 | refine below_set ?_ GE155.out | refine below_set ?_ GE162.out) | exact HB.out)) hb); clear BK155; clear BK162; clear HB; have BK155 := n0_; have BK162 := n1_; have HB := n2_; clear n0_ n1_ n2_; (try clear hb); (try clear hb2); (try clear hk); (try clear hi); have hcz43_0 : w42.cell? ⟨gb162, 0, none⟩ = some (.int .i64 t158) := (blk_cell BK162.out 0).trans rfl; have hcz43_1 : w42.cell? ⟨gb162, 1, none⟩ = some (.int .i64 t159) := (blk_cell BK162.out 1).trans rfl; have hcz43_2 : w42.cell? ⟨gb162, 2, none⟩ = some (.int .i64 t160) := (blk_cell BK162.out 2).trans rfl; have hcz43_3 : w42.cell? ⟨gb162, 3, none⟩ = some (.int .i64 t161) := (blk_cell BK162.out 3).trans rfl; have hfz43_0 := blk_frozen BK162.out 0; have hfz43_1 := blk_frozen BK162.out 1; have hfz43_2 := blk_frozen BK162.out 2; have hfz43_3 := blk_frozen BK162.out 3; have hcz44_0 : w42.cell? ⟨gb155, 0, none⟩ = some (.int .i64 a1_0) := (blk_cell BK155.out 0).trans rfl; have hcz44_1 : w42.cell? ⟨gb155, 1, none⟩ = some (.int .i64 a1_1) := (blk_cell BK155.out 1).trans rfl; have hfz44_0 := blk_frozen BK155.out 0; have hfz44_1 := blk_frozen BK155.out 1) | (go_at_call 61; (with_reducible refine (plane_turn.calls t160 t161 t158 t159 a1_0 a1_1 t164 _ A26.out).mono ?_); rintro e w45 ⟨rfl, hb⟩; have n0_ := Aside0.mk (blk_below (g := gb155) (o := .cells #[.int .i64 a1_0, .int .i64 a1_1] 31 (0, 0)) (by (with_reducible repeat (first | refine blk_drewN ?_ _ | refine blk_drew ?_ | refine blk_alloc ?_ _)); refine blk_far ?_ NB155_162.out _; (with_reducible repeat (first | refine blk_drewN ?_ _ | refine blk_drew ?_ | refine blk_alloc ?_ _)); refine blk_far ?_ NB155_162.out _; (with_reducible repeat (first | refine blk_drewN ?_ _ | refine blk_drew ?_ | refine blk_alloc ?_ _)); refine blk_far ?_ NB155_162.out _; (with_reducible repeat (first | refine blk_drewN ?_ _ | refine blk_drew ?_ | refine blk_alloc ?_ _)); refine blk_far ?_ NB155_162.out _; (with_reducible repeat (first | refine blk_drewN ?_ _ | refine blk_drew ?_ | refine blk_alloc ?_ _)); exact BK155.out) hb); have n1_ := Aside0.mk (blk_below (g := gb162) (o := .cells #[.int .i64 t160, .int .i64 t161, .int .i64 t158, .int .i64 t159] 61 (0, 0)) (by (with_reducible repeat (first | refine blk_drewN ?_ _ | refine blk_drew ?_ | refine blk_alloc ?_ _)); refine blk_put (cs := #[.int .i64 t160, .int .i64 t161, .int .i64 t158, .int .i64 t161]) ?_ 3 _ rfl; (with_reducible repeat (first | refine blk_drewN ?_ _ | refine blk_drew ?_ | refine blk_alloc ?_ _)); refine blk_put (cs := #[.int .i64 t160, .int .i64 t161, .int .i64 t160, .int .i64 t161]) ?_ 2 _ rfl; (with_reducible repeat (first | refine blk_drewN ?_ _ | refine blk_drew ?_ | refine blk_alloc ?_ _)); refine blk_put (cs := #[.int .i64 t160, .int .i64 t159, .int .i64 t160, .int .i64 t161]) ?_ 1 _ rfl; (with_reducible repeat (first | refine blk_drewN ?_ _ | refine blk_drew ?_ | refine blk_alloc ?_ _)); refine blk_put (cs := #[.int .i64 t158, .int .i64 t159, .int .i64 t160, .int .i64 t161]) ?_ 0 _ rfl; (with_reducible repeat (first | refine blk_drewN ?_ _ | refine blk_drew ?_ | refine blk_alloc ?_ _)); exact BK162.out) hb); have n2_ := Aside0.mk (below_step (by repeat (first | (with_reducible first | exact HB.out | apply below_alloc | apply pw_below_drewN | apply below_drew1 | refine below_set ?_ GE155.out | refine below_set ?_ GE162.out) | exact HB.out)) hb); clear BK155; clear BK162; clear HB; have BK155 := n0_; have BK162 := n1_; have HB := n2_; clear n0_ n1_ n2_; (try clear hb); (try clear hb2); (try clear hk); (try clear hi)))
            go_roundg k2
            case measure => have := HJ2.out; have := HK2.out; omega
            case rel => exact ⟨(x6_2), (wrap64 (x18_2 + 1)), (by first | rfl | (simp; done) | (simp [*]; done)), (by first | rfl | (simp; done) | (simp [*]; done)), H', ⟨by have := HJ2.out; have := HK2.out; omega⟩, ⟨by (with_reducible repeat (first | refine blk_drewN ?_ _ | refine blk_drew ?_ | refine blk_alloc ?_ _)); exact BK155.out⟩, ⟨by repeat (first | (with_reducible first | exact HB.out | apply below_alloc | apply pw_below_drewN | apply below_drew1 | refine below_set ?_ GE155.out | refine below_set ?_ GE162.out) | exact HB.out)⟩⟩
          ·rw [if_neg c25] at H
           have c25b0 : decide (a1_1 < t159) = false := decide_eq_false c25
           clear c25
           have H' := Aside0.mk H
           clear H
           go_wp2_with (first | ((with_reducible refine gate_callee (f := 56) rfl ?_); refine goesL_ (some 23) rfl rfl Try.func56 (by kernel_rfl) rfl #[.slice A0 l0.length c0, .int .i64 x18_2] rfl (by (try simp only [List.map_toArray, List.map_cons, List.map_nil]); first | done | rfl | (simp only [List.length_drop, List.length_take]; rfl)) ?_; (with_reducible refine (plane_edge.calls _ _ l0 x18_2 t158 t159 t160 t161 _ ?side1 ?side2 A14.out).mono ?_); (case side1 => repeat (first | exact (Kd.C_below HR0.out HB.out) | (with_reducible refine Kd.C_alloc ?_ _) | (with_reducible refine Kd.C_drewN ?_ _) | (with_reducible refine Kd.C_drew ?_))); (case side2 => exact HC0.out); rintro e w46 ⟨rfl, hb⟩; refine ⟨_, rfl, ?_⟩; have n0_ := Aside0.mk (blk_below (g := gb155) (o := .cells #[.int .i64 a1_0, .int .i64 a1_1] 31 (0, 0)) (by (with_reducible repeat (first | refine blk_drewN ?_ _ | refine blk_drew ?_ | refine blk_alloc ?_ _)); exact BK155.out) hb); have n1_ := Aside0.mk (below_step (by repeat (first | (with_reducible first | exact HB.out | apply below_alloc | apply pw_below_drewN | apply below_drew1 | refine below_set ?_ GE155.out) | exact HB.out)) hb); clear BK155; clear HB; have BK155 := n0_; have HB := n1_; clear n0_ n1_; (try clear hb); (try clear hb2); (try clear hk); (try clear hi)) | ((with_reducible refine gate_dst (N := 8) rfl ?_); refine box_event ?hg (N := 8) ?hd (cs := #[.int .i64 0, .int .i64 0, .int .i64 0, .int .i64 0]) (t := 61) ?hr ?_; (case hd => rfl); (case hg => rfl); (case hr => first | (go_simp; done) | (go_simp; rfl)); intro gb162 hg w47 hbox hb; have n0_ := Aside0.mk (blk_below (g := gb155) (o := .cells #[.int .i64 a1_0, .int .i64 a1_1] 31 (0, 0)) (by (with_reducible repeat (first | refine blk_drewN ?_ _ | refine blk_drew ?_ | refine blk_alloc ?_ _)); exact BK155.out) hb); have n1_ := Aside0.mk (below_step (by repeat (first | (with_reducible first | exact HB.out | apply below_alloc | apply pw_below_drewN | apply below_drew1 | refine below_set ?_ GE155.out) | exact HB.out)) hb); have n2_ := Aside0.mk (hbox); have n3_ := Aside0.mk ((by rw [hg]; exact (below_size (by repeat (first | (with_reducible first | exact HB.out | apply below_alloc | apply pw_below_drewN | apply below_drew1 | refine below_set ?_ GE155.out) | exact HB.out))) : w.heap.size ≤ gb162)); have n4_ := Aside0.mk ((by rw [hg]; exact (below_size (by repeat (first | (with_reducible first | exact HB.out | apply below_alloc | apply pw_below_drewN | apply below_drew1 | refine below_set ?_ GE155.out) | exact HB.out))) : w.heap.size ≤ gb162)); have n5_ := Aside0.mk ((by rw [hg]; exact Nat.ne_of_lt (blk_lt (g := gb155) (o := .cells #[.int .i64 a1_0, .int .i64 a1_1] 31 (0, 0)) (by (with_reducible repeat (first | refine blk_drewN ?_ _ | refine blk_drew ?_ | refine blk_alloc ?_ _)); exact BK155.out)) : gb155 ≠ gb162)); have n6_ := Aside0.mk ((by rw [hg]; exact Nat.ne_of_gt (blk_lt (g := gb155) (o := .cells #[.int .i64 a1_0, .int .i64 a1_1] 31 (0, 0)) (by (with_reducible repeat (first | refine blk_drewN ?_ _ | refine blk_drew ?_ | refine blk_alloc ?_ _)); exact BK155.out)) : gb162 ≠ gb155)); clear BK155; clear HB; have BK155 := n0_; have HB := n1_; have BK162 := n2_; have GW162 := n3_; have GE162 := n4_; have NB155_162 := n5_; have NB162_155 := n6_; clear n0_ n1_ n2_ n3_ n4_ n5_ n6_; clear hb hbox hg; have hnb48 := NB162_155.out; have hnc48 := NB155_162.out; have hcz49_0 : w47.cell? ⟨gb162, 0, none⟩ = some (.int .i64 0) := (blk_cell BK162.out 0).trans rfl; have hcz49_1 : w47.cell? ⟨gb162, 1, none⟩ = some (.int .i64 0) := (blk_cell BK162.out 1).trans rfl; have hcz49_2 : w47.cell? ⟨gb162, 2, none⟩ = some (.int .i64 0) := (blk_cell BK162.out 2).trans rfl; have hcz49_3 : w47.cell? ⟨gb162, 3, none⟩ = some (.int .i64 0) := (blk_cell BK162.out 3).trans rfl; have hfz49_0 := blk_frozen BK162.out 0; have hfz49_1 := blk_frozen BK162.out 1; have hfz49_2 := blk_frozen BK162.out 2; have hfz49_3 := blk_frozen BK162.out 3; have hcz50_0 : w47.cell? ⟨gb155, 0, none⟩ = some (.int .i64 a1_0) := (blk_cell BK155.out 0).trans rfl; have hcz50_1 : w47.cell? ⟨gb155, 1, none⟩ = some (.int .i64 a1_1) := (blk_cell BK155.out 1).trans rfl; have hfz50_0 := blk_frozen BK155.out 0; have hfz50_1 := blk_frozen BK155.out 1) | ((with_reducible refine gate_callee (f := 57) rfl ?_); refine goesL_ (some 26) rfl rfl Try.func57 (by kernel_rfl) rfl #[.agg #[.int .i64 t158, .int .i64 t159, .int .i64 t160, .int .i64 t161], .agg #[.int .i64 a1_0, .int .i64 a1_1]] rfl (by (try simp only [List.map_toArray, List.map_cons, List.map_nil]); first | done | rfl | (simp only [List.length_drop, List.length_take]; rfl)) ?_; (with_reducible refine (plane_segment_has.calls t158 t159 t160 t161 a1_0 a1_1 false _ A15.out).mono ?_); rintro e w51 ⟨rfl, hb⟩; refine ⟨_, rfl, ?_⟩; have n0_ := Aside0.mk (blk_below (g := gb155) (o := .cells #[.int .i64 a1_0, .int .i64 a1_1] 31 (0, 0)) (by (with_reducible repeat (first | refine blk_drewN ?_ _ | refine blk_drew ?_ | refine blk_alloc ?_ _)); refine blk_far ?_ NB155_162.out _; (with_reducible repeat (first | refine blk_drewN ?_ _ | refine blk_drew ?_ | refine blk_alloc ?_ _)); refine blk_far ?_ NB155_162.out _; (with_reducible repeat (first | refine blk_drewN ?_ _ | refine blk_drew ?_ | refine blk_alloc ?_ _)); refine blk_far ?_ NB155_162.out _; (with_reducible repeat (first | refine blk_drewN ?_ _ | refine blk_drew ?_ | refine blk_alloc ?_ _)); refine blk_far ?_ NB155_162.out _; (with_reducible repeat (first | refine blk_drewN ?_ _ | refine blk_drew ?_ | refine blk_alloc ?_ _)); exact BK155.out) hb); have n1_ := Aside0.mk (blk_below (g := gb162) (o := .cells #[.int .i64 t158, .int .i64 t159, .int .i64 t160, .int .i64 t161] 61 (0, 0)) (by (with_reducible repeat (first | refine blk_drewN ?_ _ | refine blk_drew ?_ | refine blk_alloc ?_ _)); refine blk_put (cs := #[.int .i64 t158, .int .i64 t159, .int .i64 t160, .int .i64 0]) ?_ 3 _ rfl; (with_reducible repeat (first | refine blk_drewN ?_ _ | refine blk_drew ?_ | refine blk_alloc ?_ _)); refine blk_put (cs := #[.int .i64 t158, .int .i64 t159, .int .i64 0, .int .i64 0]) ?_ 2 _ rfl; (with_reducible repeat (first | refine blk_drewN ?_ _ | refine blk_drew ?_ | refine blk_alloc ?_ _)); refine blk_put (cs := #[.int .i64 t158, .int .i64 0, .int .i64 0, .int .i64 0]) ?_ 1 _ rfl; (with_reducible repeat (first | refine blk_drewN ?_ _ | refine blk_drew ?_ | refine blk_alloc ?_ _)); refine blk_put (cs := #[.int .i64 0, .int .i64 0, .int .i64 0, .int .i64 0]) ?_ 0 _ rfl; (with_reducible repeat (first | refine blk_drewN ?_ _ | refine blk_drew ?_ | refine blk_alloc ?_ _)); exact BK162.out) hb); have n2_ := Aside0.mk (below_step (by repeat (first | (with_reducible first | exact HB.out | apply below_alloc | apply pw_below_drewN | apply below_drew1 | refine below_set ?_ GE155.out | refine below_set ?_ GE162.out) | exact HB.out)) hb); clear BK155; clear BK162; clear HB; have BK155 := n0_; have BK162 := n1_; have HB := n2_; clear n0_ n1_ n2_; (try clear hb); (try clear hb2); (try clear hk); (try clear hi); have hcz52_0 : w51.cell? ⟨gb162, 0, none⟩ = some (.int .i64 t158) := (blk_cell BK162.out 0).trans rfl; have hcz52_1 : w51.cell? ⟨gb162, 1, none⟩ = some (.int .i64 t159) := (blk_cell BK162.out 1).trans rfl; have hcz52_2 : w51.cell? ⟨gb162, 2, none⟩ = some (.int .i64 t160) := (blk_cell BK162.out 2).trans rfl; have hcz52_3 : w51.cell? ⟨gb162, 3, none⟩ = some (.int .i64 t161) := (blk_cell BK162.out 3).trans rfl; have hfz52_0 := blk_frozen BK162.out 0; have hfz52_1 := blk_frozen BK162.out 1; have hfz52_2 := blk_frozen BK162.out 2; have hfz52_3 := blk_frozen BK162.out 3; have hcz53_0 : w51.cell? ⟨gb155, 0, none⟩ = some (.int .i64 a1_0) := (blk_cell BK155.out 0).trans rfl; have hcz53_1 : w51.cell? ⟨gb155, 1, none⟩ = some (.int .i64 a1_1) := (blk_cell BK155.out 1).trans rfl; have hfz53_0 := blk_frozen BK155.out 0; have hfz53_1 := blk_frozen BK155.out 1))
           go_roundg k2
           case measure => have := HJ2.out; have := HK2.out; omega
           case rel => exact ⟨(x6_2), (wrap64 (x18_2 + 1)), (by first | rfl | (simp; done) | (simp [*]; done)), (by first | rfl | (simp; done) | (simp [*]; done)), H', ⟨by have := HJ2.out; have := HK2.out; omega⟩, ⟨by (with_reducible repeat (first | refine blk_drewN ?_ _ | refine blk_drew ?_ | refine blk_alloc ?_ _)); refine blk_far ?_ NB155_162.out _; (with_reducible repeat (first | refine blk_drewN ?_ _ | refine blk_drew ?_ | refine blk_alloc ?_ _)); refine blk_far ?_ NB155_162.out _; (with_reducible repeat (first | refine blk_drewN ?_ _ | refine blk_drew ?_ | refine blk_alloc ?_ _)); refine blk_far ?_ NB155_162.out _; (with_reducible repeat (first | refine blk_drewN ?_ _ | refine blk_drew ?_ | refine blk_alloc ?_ _)); refine blk_far ?_ NB155_162.out _; (with_reducible repeat (first | refine blk_drewN ?_ _ | refine blk_drew ?_ | refine blk_alloc ?_ _)); exact BK155.out⟩, ⟨by repeat (first | (with_reducible first | exact HB.out | apply below_alloc | apply pw_below_drewN | apply below_drew1 | refine below_set ?_ GE155.out | refine below_set ?_ GE162.out) | exact HB.out)⟩⟩
         ·rw [if_neg c24] at H
          have c24b0 : decide (t161 ≤ a1_1) = false := decide_eq_false c24
          clear c24
          have H' := Aside0.mk H
          clear H
          go_wp2_with (first | ((with_reducible refine gate_callee (f := 56) rfl ?_); refine goesL_ (some 23) rfl rfl Try.func56 (by kernel_rfl) rfl #[.slice A0 l0.length c0, .int .i64 x18_2] rfl (by (try simp only [List.map_toArray, List.map_cons, List.map_nil]); first | done | rfl | (simp only [List.length_drop, List.length_take]; rfl)) ?_; (with_reducible refine (plane_edge.calls _ _ l0 x18_2 t158 t159 t160 t161 _ ?side1 ?side2 A14.out).mono ?_); (case side1 => repeat (first | exact (Kd.C_below HR0.out HB.out) | (with_reducible refine Kd.C_alloc ?_ _) | (with_reducible refine Kd.C_drewN ?_ _) | (with_reducible refine Kd.C_drew ?_))); (case side2 => exact HC0.out); rintro e w54 ⟨rfl, hb⟩; refine ⟨_, rfl, ?_⟩; have n0_ := Aside0.mk (blk_below (g := gb155) (o := .cells #[.int .i64 a1_0, .int .i64 a1_1] 31 (0, 0)) (by (with_reducible repeat (first | refine blk_drewN ?_ _ | refine blk_drew ?_ | refine blk_alloc ?_ _)); exact BK155.out) hb); have n1_ := Aside0.mk (below_step (by repeat (first | (with_reducible first | exact HB.out | apply below_alloc | apply pw_below_drewN | apply below_drew1 | refine below_set ?_ GE155.out) | exact HB.out)) hb); clear BK155; clear HB; have BK155 := n0_; have HB := n1_; clear n0_ n1_; (try clear hb); (try clear hb2); (try clear hk); (try clear hi)) | ((with_reducible refine gate_dst (N := 8) rfl ?_); refine box_event ?hg (N := 8) ?hd (cs := #[.int .i64 0, .int .i64 0, .int .i64 0, .int .i64 0]) (t := 61) ?hr ?_; (case hd => rfl); (case hg => rfl); (case hr => first | (go_simp; done) | (go_simp; rfl)); intro gb162 hg w55 hbox hb; have n0_ := Aside0.mk (blk_below (g := gb155) (o := .cells #[.int .i64 a1_0, .int .i64 a1_1] 31 (0, 0)) (by (with_reducible repeat (first | refine blk_drewN ?_ _ | refine blk_drew ?_ | refine blk_alloc ?_ _)); exact BK155.out) hb); have n1_ := Aside0.mk (below_step (by repeat (first | (with_reducible first | exact HB.out | apply below_alloc | apply pw_below_drewN | apply below_drew1 | refine below_set ?_ GE155.out) | exact HB.out)) hb); have n2_ := Aside0.mk (hbox); have n3_ := Aside0.mk ((by rw [hg]; exact (below_size (by repeat (first | (with_reducible first | exact HB.out | apply below_alloc | apply pw_below_drewN | apply below_drew1 | refine below_set ?_ GE155.out) | exact HB.out))) : w.heap.size ≤ gb162)); have n4_ := Aside0.mk ((by rw [hg]; exact (below_size (by repeat (first | (with_reducible first | exact HB.out | apply below_alloc | apply pw_below_drewN | apply below_drew1 | refine below_set ?_ GE155.out) | exact HB.out))) : w.heap.size ≤ gb162)); have n5_ := Aside0.mk ((by rw [hg]; exact Nat.ne_of_lt (blk_lt (g := gb155) (o := .cells #[.int .i64 a1_0, .int .i64 a1_1] 31 (0, 0)) (by (with_reducible repeat (first | refine blk_drewN ?_ _ | refine blk_drew ?_ | refine blk_alloc ?_ _)); exact BK155.out)) : gb155 ≠ gb162)); have n6_ := Aside0.mk ((by rw [hg]; exact Nat.ne_of_gt (blk_lt (g := gb155) (o := .cells #[.int .i64 a1_0, .int .i64 a1_1] 31 (0, 0)) (by (with_reducible repeat (first | refine blk_drewN ?_ _ | refine blk_drew ?_ | refine blk_alloc ?_ _)); exact BK155.out)) : gb162 ≠ gb155)); clear BK155; clear HB; have BK155 := n0_; have HB := n1_; have BK162 := n2_; have GW162 := n3_; have GE162 := n4_; have NB155_162 := n5_; have NB162_155 := n6_; clear n0_ n1_ n2_ n3_ n4_ n5_ n6_; clear hb hbox hg; have hnb56 := NB162_155.out; have hnc56 := NB155_162.out; have hcz57_0 : w55.cell? ⟨gb162, 0, none⟩ = some (.int .i64 0) := (blk_cell BK162.out 0).trans rfl; have hcz57_1 : w55.cell? ⟨gb162, 1, none⟩ = some (.int .i64 0) := (blk_cell BK162.out 1).trans rfl; have hcz57_2 : w55.cell? ⟨gb162, 2, none⟩ = some (.int .i64 0) := (blk_cell BK162.out 2).trans rfl; have hcz57_3 : w55.cell? ⟨gb162, 3, none⟩ = some (.int .i64 0) := (blk_cell BK162.out 3).trans rfl; have hfz57_0 := blk_frozen BK162.out 0; have hfz57_1 := blk_frozen BK162.out 1; have hfz57_2 := blk_frozen BK162.out 2; have hfz57_3 := blk_frozen BK162.out 3; have hcz58_0 : w55.cell? ⟨gb155, 0, none⟩ = some (.int .i64 a1_0) := (blk_cell BK155.out 0).trans rfl; have hcz58_1 : w55.cell? ⟨gb155, 1, none⟩ = some (.int .i64 a1_1) := (blk_cell BK155.out 1).trans rfl; have hfz58_0 := blk_frozen BK155.out 0; have hfz58_1 := blk_frozen BK155.out 1) | ((with_reducible refine gate_callee (f := 57) rfl ?_); refine goesL_ (some 26) rfl rfl Try.func57 (by kernel_rfl) rfl #[.agg #[.int .i64 t158, .int .i64 t159, .int .i64 t160, .int .i64 t161], .agg #[.int .i64 a1_0, .int .i64 a1_1]] rfl (by (try simp only [List.map_toArray, List.map_cons, List.map_nil]); first | done | rfl | (simp only [List.length_drop, List.length_take]; rfl)) ?_; (with_reducible refine (plane_segment_has.calls t158 t159 t160 t161 a1_0 a1_1 false _ A15.out).mono ?_); rintro e w59 ⟨rfl, hb⟩; refine ⟨_, rfl, ?_⟩; have n0_ := Aside0.mk (blk_below (g := gb155) (o := .cells #[.int .i64 a1_0, .int .i64 a1_1] 31 (0, 0)) (by (with_reducible repeat (first | refine blk_drewN ?_ _ | refine blk_drew ?_ | refine blk_alloc ?_ _)); refine blk_far ?_ NB155_162.out _; (with_reducible repeat (first | refine blk_drewN ?_ _ | refine blk_drew ?_ | refine blk_alloc ?_ _)); refine blk_far ?_ NB155_162.out _; (with_reducible repeat (first | refine blk_drewN ?_ _ | refine blk_drew ?_ | refine blk_alloc ?_ _)); refine blk_far ?_ NB155_162.out _; (with_reducible repeat (first | refine blk_drewN ?_ _ | refine blk_drew ?_ | refine blk_alloc ?_ _)); refine blk_far ?_ NB155_162.out _; (with_reducible repeat (first | refine blk_drewN ?_ _ | refine blk_drew ?_ | refine blk_alloc ?_ _)); exact BK155.out) hb); have n1_ := Aside0.mk (blk_below (g := gb162) (o := .cells #[.int .i64 t158, .int .i64 t159, .int .i64 t160, .int .i64 t161] 61 (0, 0)) (by (with_reducible repeat (first | refine blk_drewN ?_ _ | refine blk_drew ?_ | refine blk_alloc ?_ _)); refine blk_put (cs := #[.int .i64 t158, .int .i64 t159, .int .i64 t160, .int .i64 0]) ?_ 3 _ rfl; (with_reducible repeat (first | refine blk_drewN ?_ _ | refine blk_drew ?_ | refine blk_alloc ?_ _)); refine blk_put (cs := #[.int .i64 t158, .int .i64 t159, .int .i64 0, .int .i64 0]) ?_ 2 _ rfl; (with_reducible repeat (first | refine blk_drewN ?_ _ | refine blk_drew ?_ | refine blk_alloc ?_ _)); refine blk_put (cs := #[.int .i64 t158, .int .i64 0, .int .i64 0, .int .i64 0]) ?_ 1 _ rfl; (with_reducible repeat (first | refine blk_drewN ?_ _ | refine blk_drew ?_ | refine blk_alloc ?_ _)); refine blk_put (cs := #[.int .i64 0, .int .i64 0, .int .i64 0, .int .i64 0]) ?_ 0 _ rfl; (with_reducible repeat (first | refine blk_drewN ?_ _ | refine blk_drew ?_ | refine blk_alloc ?_ _)); exact BK162.out) hb); have n2_ := Aside0.mk (below_step (by repeat (first | (with_reducible first | exact HB.out | apply below_alloc | apply pw_below_drewN | apply below_drew1 | refine below_set ?_ GE155.out | refine below_set ?_ GE162.out) | exact HB.out)) hb); clear BK155; clear BK162; clear HB; have BK155 := n0_; have BK162 := n1_; have HB := n2_; clear n0_ n1_ n2_; (try clear hb); (try clear hb2); (try clear hk); (try clear hi); have hcz60_0 : w59.cell? ⟨gb162, 0, none⟩ = some (.int .i64 t158) := (blk_cell BK162.out 0).trans rfl; have hcz60_1 : w59.cell? ⟨gb162, 1, none⟩ = some (.int .i64 t159) := (blk_cell BK162.out 1).trans rfl; have hcz60_2 : w59.cell? ⟨gb162, 2, none⟩ = some (.int .i64 t160) := (blk_cell BK162.out 2).trans rfl; have hcz60_3 : w59.cell? ⟨gb162, 3, none⟩ = some (.int .i64 t161) := (blk_cell BK162.out 3).trans rfl; have hfz60_0 := blk_frozen BK162.out 0; have hfz60_1 := blk_frozen BK162.out 1; have hfz60_2 := blk_frozen BK162.out 2; have hfz60_3 := blk_frozen BK162.out 3; have hcz61_0 : w59.cell? ⟨gb155, 0, none⟩ = some (.int .i64 a1_0) := (blk_cell BK155.out 0).trans rfl; have hcz61_1 : w59.cell? ⟨gb155, 1, none⟩ = some (.int .i64 a1_1) := (blk_cell BK155.out 1).trans rfl; have hfz61_0 := blk_frozen BK155.out 0; have hfz61_1 := blk_frozen BK155.out 1))
          go_roundg k2
          case measure => have := HJ2.out; have := HK2.out; omega
          case rel => exact ⟨(x6_2), (wrap64 (x18_2 + 1)), (by first | rfl | (simp; done) | (simp [*]; done)), (by first | rfl | (simp; done) | (simp [*]; done)), H', ⟨by have := HJ2.out; have := HK2.out; omega⟩, ⟨by (with_reducible repeat (first | refine blk_drewN ?_ _ | refine blk_drew ?_ | refine blk_alloc ?_ _)); refine blk_far ?_ NB155_162.out _; (with_reducible repeat (first | refine blk_drewN ?_ _ | refine blk_drew ?_ | refine blk_alloc ?_ _)); refine blk_far ?_ NB155_162.out _; (with_reducible repeat (first | refine blk_drewN ?_ _ | refine blk_drew ?_ | refine blk_alloc ?_ _)); refine blk_far ?_ NB155_162.out _; (with_reducible repeat (first | refine blk_drewN ?_ _ | refine blk_drew ?_ | refine blk_alloc ?_ _)); refine blk_far ?_ NB155_162.out _; (with_reducible repeat (first | refine blk_drewN ?_ _ | refine blk_drew ?_ | refine blk_alloc ?_ _)); exact BK155.out⟩, ⟨by repeat (first | (with_reducible first | exact HB.out | apply below_alloc | apply pw_below_drewN | apply below_drew1 | refine below_set ?_ GE155.out | refine below_set ?_ GE162.out) | exact HB.out)⟩⟩
        ·rw [if_neg c23] at H
         have c23b0 : decide (t161 < t159) = false := decide_eq_false c23
         clear c23
         by_cases c62 : t159 ≤ a1_1
         ·rw [if_pos c62] at H
          have c62b0 : decide (t159 ≤ a1_1) = true := decide_eq_true c62
          clear c62
          by_cases c63 : a1_1 < t161
          ·rw [if_pos c63] at H
           have c63b0 : decide (a1_1 < t161) = true := decide_eq_true c63
           clear c63
           replace H := Option.bind_eq_some_iff.mp H
           obtain ⟨t165, A640, H⟩ := H
           replace H : (if t165 > 0 then (plane_Inside.l0 k2 l0 (wrap64 (-x6_2)) (l0.length : Int) (wrap64 (x18_2 + 1)) a1_0 a1_1) else (plane_Inside.l0 k2 l0 x6_2 (l0.length : Int) (wrap64 (x18_2 + 1)) a1_0 a1_1)) = some (r1, r2) := H
           have A64 := Aside0.mk A640
           clear A640
           by_cases c65 : t165 > 0
           ·rw [if_pos c65] at H
            have c65b0 : decide (0 < t165) = true := decide_eq_true c65
            clear c65
            have H' := Aside0.mk H
            clear H
            go_wp2_with (first | ((with_reducible refine gate_callee (f := 56) rfl ?_); refine goesL_ (some 23) rfl rfl Try.func56 (by kernel_rfl) rfl #[.slice A0 l0.length c0, .int .i64 x18_2] rfl (by (try simp only [List.map_toArray, List.map_cons, List.map_nil]); first | done | rfl | (simp only [List.length_drop, List.length_take]; rfl)) ?_; (with_reducible refine (plane_edge.calls _ _ l0 x18_2 t158 t159 t160 t161 _ ?side1 ?side2 A14.out).mono ?_); (case side1 => repeat (first | exact (Kd.C_below HR0.out HB.out) | (with_reducible refine Kd.C_alloc ?_ _) | (with_reducible refine Kd.C_drewN ?_ _) | (with_reducible refine Kd.C_drew ?_))); (case side2 => exact HC0.out); rintro e w66 ⟨rfl, hb⟩; refine ⟨_, rfl, ?_⟩; have n0_ := Aside0.mk (blk_below (g := gb155) (o := .cells #[.int .i64 a1_0, .int .i64 a1_1] 31 (0, 0)) (by (with_reducible repeat (first | refine blk_drewN ?_ _ | refine blk_drew ?_ | refine blk_alloc ?_ _)); exact BK155.out) hb); have n1_ := Aside0.mk (below_step (by repeat (first | (with_reducible first | exact HB.out | apply below_alloc | apply pw_below_drewN | apply below_drew1 | refine below_set ?_ GE155.out) | exact HB.out)) hb); clear BK155; clear HB; have BK155 := n0_; have HB := n1_; clear n0_ n1_; (try clear hb); (try clear hb2); (try clear hk); (try clear hi)) | ((with_reducible refine gate_dst (N := 8) rfl ?_); refine box_event ?hg (N := 8) ?hd (cs := #[.int .i64 0, .int .i64 0, .int .i64 0, .int .i64 0]) (t := 61) ?hr ?_; (case hd => rfl); (case hg => rfl); (case hr => first | (go_simp; done) | (go_simp; rfl)); intro gb162 hg w67 hbox hb; have n0_ := Aside0.mk (blk_below (g := gb155) (o := .cells #[.int .i64 a1_0, .int .i64 a1_1] 31 (0, 0)) (by (with_reducible repeat (first | refine blk_drewN ?_ _ | refine blk_drew ?_ | refine blk_alloc ?_ _)); exact BK155.out) hb); have n1_ := Aside0.mk (below_step (by repeat (first | (with_reducible first | exact HB.out | apply below_alloc | apply pw_below_drewN | apply below_drew1 | refine below_set ?_ GE155.out) | exact HB.out)) hb); have n2_ := Aside0.mk (hbox); have n3_ := Aside0.mk ((by rw [hg]; exact (below_size (by repeat (first | (with_reducible first | exact HB.out | apply below_alloc | apply pw_below_drewN | apply below_drew1 | refine below_set ?_ GE155.out) | exact HB.out))) : w.heap.size ≤ gb162)); have n4_ := Aside0.mk ((by rw [hg]; exact (below_size (by repeat (first | (with_reducible first | exact HB.out | apply below_alloc | apply pw_below_drewN | apply below_drew1 | refine below_set ?_ GE155.out) | exact HB.out))) : w.heap.size ≤ gb162)); have n5_ := Aside0.mk ((by rw [hg]; exact Nat.ne_of_lt (blk_lt (g := gb155) (o := .cells #[.int .i64 a1_0, .int .i64 a1_1] 31 (0, 0)) (by (with_reducible repeat (first | refine blk_drewN ?_ _ | refine blk_drew ?_ | refine blk_alloc ?_ _)); exact BK155.out)) : gb155 ≠ gb162)); have n6_ := Aside0.mk ((by rw [hg]; exact Nat.ne_of_gt (blk_lt (g := gb155) (o := .cells #[.int .i64 a1_0, .int .i64 a1_1] 31 (0, 0)) (by (with_reducible repeat (first | refine blk_drewN ?_ _ | refine blk_drew ?_ | refine blk_alloc ?_ _)); exact BK155.out)) : gb162 ≠ gb155)); clear BK155; clear HB; have BK155 := n0_; have HB := n1_; have BK162 := n2_; have GW162 := n3_; have GE162 := n4_; have NB155_162 := n5_; have NB162_155 := n6_; clear n0_ n1_ n2_ n3_ n4_ n5_ n6_; clear hb hbox hg; have hnb68 := NB162_155.out; have hnc68 := NB155_162.out; have hcz69_0 : w67.cell? ⟨gb162, 0, none⟩ = some (.int .i64 0) := (blk_cell BK162.out 0).trans rfl; have hcz69_1 : w67.cell? ⟨gb162, 1, none⟩ = some (.int .i64 0) := (blk_cell BK162.out 1).trans rfl; have hcz69_2 : w67.cell? ⟨gb162, 2, none⟩ = some (.int .i64 0) := (blk_cell BK162.out 2).trans rfl; have hcz69_3 : w67.cell? ⟨gb162, 3, none⟩ = some (.int .i64 0) := (blk_cell BK162.out 3).trans rfl; have hfz69_0 := blk_frozen BK162.out 0; have hfz69_1 := blk_frozen BK162.out 1; have hfz69_2 := blk_frozen BK162.out 2; have hfz69_3 := blk_frozen BK162.out 3; have hcz70_0 : w67.cell? ⟨gb155, 0, none⟩ = some (.int .i64 a1_0) := (blk_cell BK155.out 0).trans rfl; have hcz70_1 : w67.cell? ⟨gb155, 1, none⟩ = some (.int .i64 a1_1) := (blk_cell BK155.out 1).trans rfl; have hfz70_0 := blk_frozen BK155.out 0; have hfz70_1 := blk_frozen BK155.out 1) | ((with_reducible refine gate_callee (f := 57) rfl ?_); refine goesL_ (some 26) rfl rfl Try.func57 (by kernel_rfl) rfl #[.agg #[.int .i64 t158, .int .i64 t159, .int .i64 t160, .int .i64 t161], .agg #[.int .i64 a1_0, .int .i64 a1_1]] rfl (by (try simp only [List.map_toArray, List.map_cons, List.map_nil]); first | done | rfl | (simp only [List.length_drop, List.length_take]; rfl)) ?_; (with_reducible refine (plane_segment_has.calls t158 t159 t160 t161 a1_0 a1_1 false _ A15.out).mono ?_); rintro e w71 ⟨rfl, hb⟩; refine ⟨_, rfl, ?_⟩; have n0_ := Aside0.mk (blk_below (g := gb155) (o := .cells #[.int .i64 a1_0, .int .i64 a1_1] 31 (0, 0)) (by (with_reducible repeat (first | refine blk_drewN ?_ _ | refine blk_drew ?_ | refine blk_alloc ?_ _)); refine blk_far ?_ NB155_162.out _; (with_reducible repeat (first | refine blk_drewN ?_ _ | refine blk_drew ?_ | refine blk_alloc ?_ _)); refine blk_far ?_ NB155_162.out _; (with_reducible repeat (first | refine blk_drewN ?_ _ | refine blk_drew ?_ | refine blk_alloc ?_ _)); refine blk_far ?_ NB155_162.out _; (with_reducible repeat (first | refine blk_drewN ?_ _ | refine blk_drew ?_ | refine blk_alloc ?_ _)); refine blk_far ?_ NB155_162.out _; (with_reducible repeat (first | refine blk_drewN ?_ _ | refine blk_drew ?_ | refine blk_alloc ?_ _)); exact BK155.out) hb); have n1_ := Aside0.mk (blk_below (g := gb162) (o := .cells #[.int .i64 t158, .int .i64 t159, .int .i64 t160, .int .i64 t161] 61 (0, 0)) (by (with_reducible repeat (first | refine blk_drewN ?_ _ | refine blk_drew ?_ | refine blk_alloc ?_ _)); refine blk_put (cs := #[.int .i64 t158, .int .i64 t159, .int .i64 t160, .int .i64 0]) ?_ 3 _ rfl; (with_reducible repeat (first | refine blk_drewN ?_ _ | refine blk_drew ?_ | refine blk_alloc ?_ _)); refine blk_put (cs := #[.int .i64 t158, .int .i64 t159, .int .i64 0, .int .i64 0]) ?_ 2 _ rfl; (with_reducible repeat (first | refine blk_drewN ?_ _ | refine blk_drew ?_ | refine blk_alloc ?_ _)); refine blk_put (cs := #[.int .i64 t158, .int .i64 0, .int .i64 0, .int .i64 0]) ?_ 1 _ rfl; (with_reducible repeat (first | refine blk_drewN ?_ _ | refine blk_drew ?_ | refine blk_alloc ?_ _)); refine blk_put (cs := #[.int .i64 0, .int .i64 0, .int .i64 0, .int .i64 0]) ?_ 0 _ rfl; (with_reducible repeat (first | refine blk_drewN ?_ _ | refine blk_drew ?_ | refine blk_alloc ?_ _)); exact BK162.out) hb); have n2_ := Aside0.mk (below_step (by repeat (first | (with_reducible first | exact HB.out | apply below_alloc | apply pw_below_drewN | apply below_drew1 | refine below_set ?_ GE155.out | refine below_set ?_ GE162.out) | exact HB.out)) hb); clear BK155; clear BK162; clear HB; have BK155 := n0_; have BK162 := n1_; have HB := n2_; clear n0_ n1_ n2_; (try clear hb); (try clear hb2); (try clear hk); (try clear hi); have hcz72_0 : w71.cell? ⟨gb162, 0, none⟩ = some (.int .i64 t158) := (blk_cell BK162.out 0).trans rfl; have hcz72_1 : w71.cell? ⟨gb162, 1, none⟩ = some (.int .i64 t159) := (blk_cell BK162.out 1).trans rfl; have hcz72_2 : w71.cell? ⟨gb162, 2, none⟩ = some (.int .i64 t160) := (blk_cell BK162.out 2).trans rfl; have hcz72_3 : w71.cell? ⟨gb162, 3, none⟩ = some (.int .i64 t161) := (blk_cell BK162.out 3).trans rfl; have hfz72_0 := blk_frozen BK162.out 0; have hfz72_1 := blk_frozen BK162.out 1; have hfz72_2 := blk_frozen BK162.out 2; have hfz72_3 := blk_frozen BK162.out 3; have hcz73_0 : w71.cell? ⟨gb155, 0, none⟩ = some (.int .i64 a1_0) := (blk_cell BK155.out 0).trans rfl; have hcz73_1 : w71.cell? ⟨gb155, 1, none⟩ = some (.int .i64 a1_1) := (blk_cell BK155.out 1).trans rfl; have hfz73_0 := blk_frozen BK155.out 0; have hfz73_1 := blk_frozen BK155.out 1) | (go_at_call 61; (with_reducible refine (plane_turn.calls t158 t159 t160 t161 a1_0 a1_1 t165 _ A64.out).mono ?_); rintro e w74 ⟨rfl, hb⟩; have n0_ := Aside0.mk (blk_below (g := gb155) (o := .cells #[.int .i64 a1_0, .int .i64 a1_1] 31 (0, 0)) (by (with_reducible repeat (first | refine blk_drewN ?_ _ | refine blk_drew ?_ | refine blk_alloc ?_ _)); exact BK155.out) hb); have n1_ := Aside0.mk (blk_below (g := gb162) (o := .cells #[.int .i64 t158, .int .i64 t159, .int .i64 t160, .int .i64 t161] 61 (0, 0)) (by (with_reducible repeat (first | refine blk_drewN ?_ _ | refine blk_drew ?_ | refine blk_alloc ?_ _)); exact BK162.out) hb); have n2_ := Aside0.mk (below_step (by repeat (first | (with_reducible first | exact HB.out | apply below_alloc | apply pw_below_drewN | apply below_drew1 | refine below_set ?_ GE155.out | refine below_set ?_ GE162.out) | exact HB.out)) hb); clear BK155; clear BK162; clear HB; have BK155 := n0_; have BK162 := n1_; have HB := n2_; clear n0_ n1_ n2_; (try clear hb); (try clear hb2); (try clear hk); (try clear hi)))
            go_roundg k2
            case measure => have := HJ2.out; have := HK2.out; omega
            case rel => exact ⟨(wrap64 (-x6_2)), (wrap64 (x18_2 + 1)), (by first | rfl | (simp; done) | (simp [*]; done)), (by first | rfl | (simp; done) | (simp [*]; done)), H', ⟨by have := HJ2.out; have := HK2.out; omega⟩, ⟨by (with_reducible repeat (first | refine blk_drewN ?_ _ | refine blk_drew ?_ | refine blk_alloc ?_ _)); exact BK155.out⟩, ⟨by repeat (first | (with_reducible first | exact HB.out | apply below_alloc | apply pw_below_drewN | apply below_drew1 | refine below_set ?_ GE155.out | refine below_set ?_ GE162.out) | exact HB.out)⟩⟩
           ·rw [if_neg c65] at H
            have c65b0 : decide (0 < t165) = false := decide_eq_false c65
            clear c65
            have H' := Aside0.mk H
            clear H
            go_wp2_with (first | ((with_reducible refine gate_callee (f := 56) rfl ?_); refine goesL_ (some 23) rfl rfl Try.func56 (by kernel_rfl) rfl #[.slice A0 l0.length c0, .int .i64 x18_2] rfl (by (try simp only [List.map_toArray, List.map_cons, List.map_nil]); first | done | rfl | (simp only [List.length_drop, List.length_take]; rfl)) ?_; (with_reducible refine (plane_edge.calls _ _ l0 x18_2 t158 t159 t160 t161 _ ?side1 ?side2 A14.out).mono ?_); (case side1 => repeat (first | exact (Kd.C_below HR0.out HB.out) | (with_reducible refine Kd.C_alloc ?_ _) | (with_reducible refine Kd.C_drewN ?_ _) | (with_reducible refine Kd.C_drew ?_))); (case side2 => exact HC0.out); rintro e w75 ⟨rfl, hb⟩; refine ⟨_, rfl, ?_⟩; have n0_ := Aside0.mk (blk_below (g := gb155) (o := .cells #[.int .i64 a1_0, .int .i64 a1_1] 31 (0, 0)) (by (with_reducible repeat (first | refine blk_drewN ?_ _ | refine blk_drew ?_ | refine blk_alloc ?_ _)); exact BK155.out) hb); have n1_ := Aside0.mk (below_step (by repeat (first | (with_reducible first | exact HB.out | apply below_alloc | apply pw_below_drewN | apply below_drew1 | refine below_set ?_ GE155.out) | exact HB.out)) hb); clear BK155; clear HB; have BK155 := n0_; have HB := n1_; clear n0_ n1_; (try clear hb); (try clear hb2); (try clear hk); (try clear hi)) | ((with_reducible refine gate_dst (N := 8) rfl ?_); refine box_event ?hg (N := 8) ?hd (cs := #[.int .i64 0, .int .i64 0, .int .i64 0, .int .i64 0]) (t := 61) ?hr ?_; (case hd => rfl); (case hg => rfl); (case hr => first | (go_simp; done) | (go_simp; rfl)); intro gb162 hg w76 hbox hb; have n0_ := Aside0.mk (blk_below (g := gb155) (o := .cells #[.int .i64 a1_0, .int .i64 a1_1] 31 (0, 0)) (by (with_reducible repeat (first | refine blk_drewN ?_ _ | refine blk_drew ?_ | refine blk_alloc ?_ _)); exact BK155.out) hb); have n1_ := Aside0.mk (below_step (by repeat (first | (with_reducible first | exact HB.out | apply below_alloc | apply pw_below_drewN | apply below_drew1 | refine below_set ?_ GE155.out) | exact HB.out)) hb); have n2_ := Aside0.mk (hbox); have n3_ := Aside0.mk ((by rw [hg]; exact (below_size (by repeat (first | (with_reducible first | exact HB.out | apply below_alloc | apply pw_below_drewN | apply below_drew1 | refine below_set ?_ GE155.out) | exact HB.out))) : w.heap.size ≤ gb162)); have n4_ := Aside0.mk ((by rw [hg]; exact (below_size (by repeat (first | (with_reducible first | exact HB.out | apply below_alloc | apply pw_below_drewN | apply below_drew1 | refine below_set ?_ GE155.out) | exact HB.out))) : w.heap.size ≤ gb162)); have n5_ := Aside0.mk ((by rw [hg]; exact Nat.ne_of_lt (blk_lt (g := gb155) (o := .cells #[.int .i64 a1_0, .int .i64 a1_1] 31 (0, 0)) (by (with_reducible repeat (first | refine blk_drewN ?_ _ | refine blk_drew ?_ | refine blk_alloc ?_ _)); exact BK155.out)) : gb155 ≠ gb162)); have n6_ := Aside0.mk ((by rw [hg]; exact Nat.ne_of_gt (blk_lt (g := gb155) (o := .cells #[.int .i64 a1_0, .int .i64 a1_1] 31 (0, 0)) (by (with_reducible repeat (first | refine blk_drewN ?_ _ | refine blk_drew ?_ | refine blk_alloc ?_ _)); exact BK155.out)) : gb162 ≠ gb155)); clear BK155; clear HB; have BK155 := n0_; have HB := n1_; have BK162 := n2_; have GW162 := n3_; have GE162 := n4_; have NB155_162 := n5_; have NB162_155 := n6_; clear n0_ n1_ n2_ n3_ n4_ n5_ n6_; clear hb hbox hg; have hnb77 := NB162_155.out; have hnc77 := NB155_162.out; have hcz78_0 : w76.cell? ⟨gb162, 0, none⟩ = some (.int .i64 0) := (blk_cell BK162.out 0).trans rfl; have hcz78_1 : w76.cell? ⟨gb162, 1, none⟩ = some (.int .i64 0) := (blk_cell BK162.out 1).trans rfl; have hcz78_2 : w76.cell? ⟨gb162, 2, none⟩ = some (.int .i64 0) := (blk_cell BK162.out 2).trans rfl; have hcz78_3 : w76.cell? ⟨gb162, 3, none⟩ = some (.int .i64 0) := (blk_cell BK162.out 3).trans rfl; have hfz78_0 := blk_frozen BK162.out 0; have hfz78_1 := blk_frozen BK162.out 1; have hfz78_2 := blk_frozen BK162.out 2; have hfz78_3 := blk_frozen BK162.out 3; have hcz79_0 : w76.cell? ⟨gb155, 0, none⟩ = some (.int .i64 a1_0) := (blk_cell BK155.out 0).trans rfl; have hcz79_1 : w76.cell? ⟨gb155, 1, none⟩ = some (.int .i64 a1_1) := (blk_cell BK155.out 1).trans rfl; have hfz79_0 := blk_frozen BK155.out 0; have hfz79_1 := blk_frozen BK155.out 1) | ((with_reducible refine gate_callee (f := 57) rfl ?_); refine goesL_ (some 26) rfl rfl Try.func57 (by kernel_rfl) rfl #[.agg #[.int .i64 t158, .int .i64 t159, .int .i64 t160, .int .i64 t161], .agg #[.int .i64 a1_0, .int .i64 a1_1]] rfl (by (try simp only [List.map_toArray, List.map_cons, List.map_nil]); first | done | rfl | (simp only [List.length_drop, List.length_take]; rfl)) ?_; (with_reducible refine (plane_segment_has.calls t158 t159 t160 t161 a1_0 a1_1 false _ A15.out).mono ?_); rintro e w80 ⟨rfl, hb⟩; refine ⟨_, rfl, ?_⟩; have n0_ := Aside0.mk (blk_below (g := gb155) (o := .cells #[.int .i64 a1_0, .int .i64 a1_1] 31 (0, 0)) (by (with_reducible repeat (first | refine blk_drewN ?_ _ | refine blk_drew ?_ | refine blk_alloc ?_ _)); refine blk_far ?_ NB155_162.out _; (with_reducible repeat (first | refine blk_drewN ?_ _ | refine blk_drew ?_ | refine blk_alloc ?_ _)); refine blk_far ?_ NB155_162.out _; (with_reducible repeat (first | refine blk_drewN ?_ _ | refine blk_drew ?_ | refine blk_alloc ?_ _)); refine blk_far ?_ NB155_162.out _; (with_reducible repeat (first | refine blk_drewN ?_ _ | refine blk_drew ?_ | refine blk_alloc ?_ _)); refine blk_far ?_ NB155_162.out _; (with_reducible repeat (first | refine blk_drewN ?_ _ | refine blk_drew ?_ | refine blk_alloc ?_ _)); exact BK155.out) hb); have n1_ := Aside0.mk (blk_below (g := gb162) (o := .cells #[.int .i64 t158, .int .i64 t159, .int .i64 t160, .int .i64 t161] 61 (0, 0)) (by (with_reducible repeat (first | refine blk_drewN ?_ _ | refine blk_drew ?_ | refine blk_alloc ?_ _)); refine blk_put (cs := #[.int .i64 t158, .int .i64 t159, .int .i64 t160, .int .i64 0]) ?_ 3 _ rfl; (with_reducible repeat (first | refine blk_drewN ?_ _ | refine blk_drew ?_ | refine blk_alloc ?_ _)); refine blk_put (cs := #[.int .i64 t158, .int .i64 t159, .int .i64 0, .int .i64 0]) ?_ 2 _ rfl; (with_reducible repeat (first | refine blk_drewN ?_ _ | refine blk_drew ?_ | refine blk_alloc ?_ _)); refine blk_put (cs := #[.int .i64 t158, .int .i64 0, .int .i64 0, .int .i64 0]) ?_ 1 _ rfl; (with_reducible repeat (first | refine blk_drewN ?_ _ | refine blk_drew ?_ | refine blk_alloc ?_ _)); refine blk_put (cs := #[.int .i64 0, .int .i64 0, .int .i64 0, .int .i64 0]) ?_ 0 _ rfl; (with_reducible repeat (first | refine blk_drewN ?_ _ | refine blk_drew ?_ | refine blk_alloc ?_ _)); exact BK162.out) hb); have n2_ := Aside0.mk (below_step (by repeat (first | (with_reducible first | exact HB.out | apply below_alloc | apply pw_below_drewN | apply below_drew1 | refine below_set ?_ GE155.out | refine below_set ?_ GE162.out) | exact HB.out)) hb); clear BK155; clear BK162; clear HB; have BK155 := n0_; have BK162 := n1_; have HB := n2_; clear n0_ n1_ n2_; (try clear hb); (try clear hb2); (try clear hk); (try clear hi); have hcz81_0 : w80.cell? ⟨gb162, 0, none⟩ = some (.int .i64 t158) := (blk_cell BK162.out 0).trans rfl; have hcz81_1 : w80.cell? ⟨gb162, 1, none⟩ = some (.int .i64 t159) := (blk_cell BK162.out 1).trans rfl; have hcz81_2 : w80.cell? ⟨gb162, 2, none⟩ = some (.int .i64 t160) := (blk_cell BK162.out 2).trans rfl; have hcz81_3 : w80.cell? ⟨gb162, 3, none⟩ = some (.int .i64 t161) := (blk_cell BK162.out 3).trans rfl; have hfz81_0 := blk_frozen BK162.out 0; have hfz81_1 := blk_frozen BK162.out 1; have hfz81_2 := blk_frozen BK162.out 2; have hfz81_3 := blk_frozen BK162.out 3; have hcz82_0 : w80.cell? ⟨gb155, 0, none⟩ = some (.int .i64 a1_0) := (blk_cell BK155.out 0).trans rfl; have hcz82_1 : w80.cell? ⟨gb155, 1, none⟩ = some (.int .i64 a1_1) := (blk_cell BK155.out 1).trans rfl; have hfz82_0 := blk_frozen BK155.out 0; have hfz82_1 := blk_frozen BK155.out 1) | (go_at_call 61; (with_reducible refine (plane_turn.calls t158 t159 t160 t161 a1_0 a1_1 t165 _ A64.out).mono ?_); rintro e w83 ⟨rfl, hb⟩; have n0_ := Aside0.mk (blk_below (g := gb155) (o := .cells #[.int .i64 a1_0, .int .i64 a1_1] 31 (0, 0)) (by (with_reducible repeat (first | refine blk_drewN ?_ _ | refine blk_drew ?_ | refine blk_alloc ?_ _)); exact BK155.out) hb); have n1_ := Aside0.mk (blk_below (g := gb162) (o := .cells #[.int .i64 t158, .int .i64 t159, .int .i64 t160, .int .i64 t161] 61 (0, 0)) (by (with_reducible repeat (first | refine blk_drewN ?_ _ | refine blk_drew ?_ | refine blk_alloc ?_ _)); exact BK162.out) hb); have n2_ := Aside0.mk (below_step (by repeat (first | (with_reducible first | exact HB.out | apply below_alloc | apply pw_below_drewN | apply below_drew1 | refine below_set ?_ GE155.out | refine below_set ?_ GE162.out) | exact HB.out)) hb); clear BK155; clear BK162; clear HB; have BK155 := n0_; have BK162 := n1_; have HB := n2_; clear n0_ n1_ n2_; (try clear hb); (try clear hb2); (try clear hk); (try clear hi)))
            go_roundg k2
            case measure => have := HJ2.out; have := HK2.out; omega
            case rel => exact ⟨(x6_2), (wrap64 (x18_2 + 1)), (by first | rfl | (simp; done) | (simp [*]; done)), (by first | rfl | (simp; done) | (simp [*]; done)), H', ⟨by have := HJ2.out; have := HK2.out; omega⟩, ⟨by (with_reducible repeat (first | refine blk_drewN ?_ _ | refine blk_drew ?_ | refine blk_alloc ?_ _)); exact BK155.out⟩, ⟨by repeat (first | (with_reducible first | exact HB.out | apply below_alloc | apply pw_below_drewN | apply below_drew1 | refine below_set ?_ GE155.out | refine below_set ?_ GE162.out) | exact HB.out)⟩⟩
          ·rw [if_neg c63] at H
           have c63b0 : decide (a1_1 < t161) = false := decide_eq_false c63
           clear c63
           have H' := Aside0.mk H
           clear H
           go_wp2_with (first | ((with_reducible refine gate_callee (f := 56) rfl ?_); refine goesL_ (some 23) rfl rfl Try.func56 (by kernel_rfl) rfl #[.slice A0 l0.length c0, .int .i64 x18_2] rfl (by (try simp only [List.map_toArray, List.map_cons, List.map_nil]); first | done | rfl | (simp only [List.length_drop, List.length_take]; rfl)) ?_; (with_reducible refine (plane_edge.calls _ _ l0 x18_2 t158 t159 t160 t161 _ ?side1 ?side2 A14.out).mono ?_); (case side1 => repeat (first | exact (Kd.C_below HR0.out HB.out) | (with_reducible refine Kd.C_alloc ?_ _) | (with_reducible refine Kd.C_drewN ?_ _) | (with_reducible refine Kd.C_drew ?_))); (case side2 => exact HC0.out); rintro e w84 ⟨rfl, hb⟩; refine ⟨_, rfl, ?_⟩; have n0_ := Aside0.mk (blk_below (g := gb155) (o := .cells #[.int .i64 a1_0, .int .i64 a1_1] 31 (0, 0)) (by (with_reducible repeat (first | refine blk_drewN ?_ _ | refine blk_drew ?_ | refine blk_alloc ?_ _)); exact BK155.out) hb); have n1_ := Aside0.mk (below_step (by repeat (first | (with_reducible first | exact HB.out | apply below_alloc | apply pw_below_drewN | apply below_drew1 | refine below_set ?_ GE155.out) | exact HB.out)) hb); clear BK155; clear HB; have BK155 := n0_; have HB := n1_; clear n0_ n1_; (try clear hb); (try clear hb2); (try clear hk); (try clear hi)) | ((with_reducible refine gate_dst (N := 8) rfl ?_); refine box_event ?hg (N := 8) ?hd (cs := #[.int .i64 0, .int .i64 0, .int .i64 0, .int .i64 0]) (t := 61) ?hr ?_; (case hd => rfl); (case hg => rfl); (case hr => first | (go_simp; done) | (go_simp; rfl)); intro gb162 hg w85 hbox hb; have n0_ := Aside0.mk (blk_below (g := gb155) (o := .cells #[.int .i64 a1_0, .int .i64 a1_1] 31 (0, 0)) (by (with_reducible repeat (first | refine blk_drewN ?_ _ | refine blk_drew ?_ | refine blk_alloc ?_ _)); exact BK155.out) hb); have n1_ := Aside0.mk (below_step (by repeat (first | (with_reducible first | exact HB.out | apply below_alloc | apply pw_below_drewN | apply below_drew1 | refine below_set ?_ GE155.out) | exact HB.out)) hb); have n2_ := Aside0.mk (hbox); have n3_ := Aside0.mk ((by rw [hg]; exact (below_size (by repeat (first | (with_reducible first | exact HB.out | apply below_alloc | apply pw_below_drewN | apply below_drew1 | refine below_set ?_ GE155.out) | exact HB.out))) : w.heap.size ≤ gb162)); have n4_ := Aside0.mk ((by rw [hg]; exact (below_size (by repeat (first | (with_reducible first | exact HB.out | apply below_alloc | apply pw_below_drewN | apply below_drew1 | refine below_set ?_ GE155.out) | exact HB.out))) : w.heap.size ≤ gb162)); have n5_ := Aside0.mk ((by rw [hg]; exact Nat.ne_of_lt (blk_lt (g := gb155) (o := .cells #[.int .i64 a1_0, .int .i64 a1_1] 31 (0, 0)) (by (with_reducible repeat (first | refine blk_drewN ?_ _ | refine blk_drew ?_ | refine blk_alloc ?_ _)); exact BK155.out)) : gb155 ≠ gb162)); have n6_ := Aside0.mk ((by rw [hg]; exact Nat.ne_of_gt (blk_lt (g := gb155) (o := .cells #[.int .i64 a1_0, .int .i64 a1_1] 31 (0, 0)) (by (with_reducible repeat (first | refine blk_drewN ?_ _ | refine blk_drew ?_ | refine blk_alloc ?_ _)); exact BK155.out)) : gb162 ≠ gb155)); clear BK155; clear HB; have BK155 := n0_; have HB := n1_; have BK162 := n2_; have GW162 := n3_; have GE162 := n4_; have NB155_162 := n5_; have NB162_155 := n6_; clear n0_ n1_ n2_ n3_ n4_ n5_ n6_; clear hb hbox hg; have hnb86 := NB162_155.out; have hnc86 := NB155_162.out; have hcz87_0 : w85.cell? ⟨gb162, 0, none⟩ = some (.int .i64 0) := (blk_cell BK162.out 0).trans rfl; have hcz87_1 : w85.cell? ⟨gb162, 1, none⟩ = some (.int .i64 0) := (blk_cell BK162.out 1).trans rfl; have hcz87_2 : w85.cell? ⟨gb162, 2, none⟩ = some (.int .i64 0) := (blk_cell BK162.out 2).trans rfl; have hcz87_3 : w85.cell? ⟨gb162, 3, none⟩ = some (.int .i64 0) := (blk_cell BK162.out 3).trans rfl; have hfz87_0 := blk_frozen BK162.out 0; have hfz87_1 := blk_frozen BK162.out 1; have hfz87_2 := blk_frozen BK162.out 2; have hfz87_3 := blk_frozen BK162.out 3; have hcz88_0 : w85.cell? ⟨gb155, 0, none⟩ = some (.int .i64 a1_0) := (blk_cell BK155.out 0).trans rfl; have hcz88_1 : w85.cell? ⟨gb155, 1, none⟩ = some (.int .i64 a1_1) := (blk_cell BK155.out 1).trans rfl; have hfz88_0 := blk_frozen BK155.out 0; have hfz88_1 := blk_frozen BK155.out 1) | ((with_reducible refine gate_callee (f := 57) rfl ?_); refine goesL_ (some 26) rfl rfl Try.func57 (by kernel_rfl) rfl #[.agg #[.int .i64 t158, .int .i64 t159, .int .i64 t160, .int .i64 t161], .agg #[.int .i64 a1_0, .int .i64 a1_1]] rfl (by (try simp only [List.map_toArray, List.map_cons, List.map_nil]); first | done | rfl | (simp only [List.length_drop, List.length_take]; rfl)) ?_; (with_reducible refine (plane_segment_has.calls t158 t159 t160 t161 a1_0 a1_1 false _ A15.out).mono ?_); rintro e w89 ⟨rfl, hb⟩; refine ⟨_, rfl, ?_⟩; have n0_ := Aside0.mk (blk_below (g := gb155) (o := .cells #[.int .i64 a1_0, .int .i64 a1_1] 31 (0, 0)) (by (with_reducible repeat (first | refine blk_drewN ?_ _ | refine blk_drew ?_ | refine blk_alloc ?_ _)); refine blk_far ?_ NB155_162.out _; (with_reducible repeat (first | refine blk_drewN ?_ _ | refine blk_drew ?_ | refine blk_alloc ?_ _)); refine blk_far ?_ NB155_162.out _; (with_reducible repeat (first | refine blk_drewN ?_ _ | refine blk_drew ?_ | refine blk_alloc ?_ _)); refine blk_far ?_ NB155_162.out _; (with_reducible repeat (first | refine blk_drewN ?_ _ | refine blk_drew ?_ | refine blk_alloc ?_ _)); refine blk_far ?_ NB155_162.out _; (with_reducible repeat (first | refine blk_drewN ?_ _ | refine blk_drew ?_ | refine blk_alloc ?_ _)); exact BK155.out) hb); have n1_ := Aside0.mk (blk_below (g := gb162) (o := .cells #[.int .i64 t158, .int .i64 t159, .int .i64 t160, .int .i64 t161] 61 (0, 0)) (by (with_reducible repeat (first | refine blk_drewN ?_ _ | refine blk_drew ?_ | refine blk_alloc ?_ _)); refine blk_put (cs := #[.int .i64 t158, .int .i64 t159, .int .i64 t160, .int .i64 0]) ?_ 3 _ rfl; (with_reducible repeat (first | refine blk_drewN ?_ _ | refine blk_drew ?_ | refine blk_alloc ?_ _)); refine blk_put (cs := #[.int .i64 t158, .int .i64 t159, .int .i64 0, .int .i64 0]) ?_ 2 _ rfl; (with_reducible repeat (first | refine blk_drewN ?_ _ | refine blk_drew ?_ | refine blk_alloc ?_ _)); refine blk_put (cs := #[.int .i64 t158, .int .i64 0, .int .i64 0, .int .i64 0]) ?_ 1 _ rfl; (with_reducible repeat (first | refine blk_drewN ?_ _ | refine blk_drew ?_ | refine blk_alloc ?_ _)); refine blk_put (cs := #[.int .i64 0, .int .i64 0, .int .i64 0, .int .i64 0]) ?_ 0 _ rfl; (with_reducible repeat (first | refine blk_drewN ?_ _ | refine blk_drew ?_ | refine blk_alloc ?_ _)); exact BK162.out) hb); have n2_ := Aside0.mk (below_step (by repeat (first | (with_reducible first | exact HB.out | apply below_alloc | apply pw_below_drewN | apply below_drew1 | refine below_set ?_ GE155.out | refine below_set ?_ GE162.out) | exact HB.out)) hb); clear BK155; clear BK162; clear HB; have BK155 := n0_; have BK162 := n1_; have HB := n2_; clear n0_ n1_ n2_; (try clear hb); (try clear hb2); (try clear hk); (try clear hi); have hcz90_0 : w89.cell? ⟨gb162, 0, none⟩ = some (.int .i64 t158) := (blk_cell BK162.out 0).trans rfl; have hcz90_1 : w89.cell? ⟨gb162, 1, none⟩ = some (.int .i64 t159) := (blk_cell BK162.out 1).trans rfl; have hcz90_2 : w89.cell? ⟨gb162, 2, none⟩ = some (.int .i64 t160) := (blk_cell BK162.out 2).trans rfl; have hcz90_3 : w89.cell? ⟨gb162, 3, none⟩ = some (.int .i64 t161) := (blk_cell BK162.out 3).trans rfl; have hfz90_0 := blk_frozen BK162.out 0; have hfz90_1 := blk_frozen BK162.out 1; have hfz90_2 := blk_frozen BK162.out 2; have hfz90_3 := blk_frozen BK162.out 3; have hcz91_0 : w89.cell? ⟨gb155, 0, none⟩ = some (.int .i64 a1_0) := (blk_cell BK155.out 0).trans rfl; have hcz91_1 : w89.cell? ⟨gb155, 1, none⟩ = some (.int .i64 a1_1) := (blk_cell BK155.out 1).trans rfl; have hfz91_0 := blk_frozen BK155.out 0; have hfz91_1 := blk_frozen BK155.out 1))
           go_roundg k2
           case measure => have := HJ2.out; have := HK2.out; omega
           case rel => exact ⟨(x6_2), (wrap64 (x18_2 + 1)), (by first | rfl | (simp; done) | (simp [*]; done)), (by first | rfl | (simp; done) | (simp [*]; done)), H', ⟨by have := HJ2.out; have := HK2.out; omega⟩, ⟨by (with_reducible repeat (first | refine blk_drewN ?_ _ | refine blk_drew ?_ | refine blk_alloc ?_ _)); exact BK155.out⟩, ⟨by repeat (first | (with_reducible first | exact HB.out | apply below_alloc | apply pw_below_drewN | apply below_drew1 | refine below_set ?_ GE155.out | refine below_set ?_ GE162.out) | exact HB.out)⟩⟩
         ·rw [if_neg c62] at H
          have c62b0 : decide (t159 ≤ a1_1) = false := decide_eq_false c62
          clear c62
          have H' := Aside0.mk H
          clear H
          go_wp2_with (first | ((with_reducible refine gate_callee (f := 56) rfl ?_); refine goesL_ (some 23) rfl rfl Try.func56 (by kernel_rfl) rfl #[.slice A0 l0.length c0, .int .i64 x18_2] rfl (by (try simp only [List.map_toArray, List.map_cons, List.map_nil]); first | done | rfl | (simp only [List.length_drop, List.length_take]; rfl)) ?_; (with_reducible refine (plane_edge.calls _ _ l0 x18_2 t158 t159 t160 t161 _ ?side1 ?side2 A14.out).mono ?_); (case side1 => repeat (first | exact (Kd.C_below HR0.out HB.out) | (with_reducible refine Kd.C_alloc ?_ _) | (with_reducible refine Kd.C_drewN ?_ _) | (with_reducible refine Kd.C_drew ?_))); (case side2 => exact HC0.out); rintro e w92 ⟨rfl, hb⟩; refine ⟨_, rfl, ?_⟩; have n0_ := Aside0.mk (blk_below (g := gb155) (o := .cells #[.int .i64 a1_0, .int .i64 a1_1] 31 (0, 0)) (by (with_reducible repeat (first | refine blk_drewN ?_ _ | refine blk_drew ?_ | refine blk_alloc ?_ _)); exact BK155.out) hb); have n1_ := Aside0.mk (below_step (by repeat (first | (with_reducible first | exact HB.out | apply below_alloc | apply pw_below_drewN | apply below_drew1 | refine below_set ?_ GE155.out) | exact HB.out)) hb); clear BK155; clear HB; have BK155 := n0_; have HB := n1_; clear n0_ n1_; (try clear hb); (try clear hb2); (try clear hk); (try clear hi)) | ((with_reducible refine gate_dst (N := 8) rfl ?_); refine box_event ?hg (N := 8) ?hd (cs := #[.int .i64 0, .int .i64 0, .int .i64 0, .int .i64 0]) (t := 61) ?hr ?_; (case hd => rfl); (case hg => rfl); (case hr => first | (go_simp; done) | (go_simp; rfl)); intro gb162 hg w93 hbox hb; have n0_ := Aside0.mk (blk_below (g := gb155) (o := .cells #[.int .i64 a1_0, .int .i64 a1_1] 31 (0, 0)) (by (with_reducible repeat (first | refine blk_drewN ?_ _ | refine blk_drew ?_ | refine blk_alloc ?_ _)); exact BK155.out) hb); have n1_ := Aside0.mk (below_step (by repeat (first | (with_reducible first | exact HB.out | apply below_alloc | apply pw_below_drewN | apply below_drew1 | refine below_set ?_ GE155.out) | exact HB.out)) hb); have n2_ := Aside0.mk (hbox); have n3_ := Aside0.mk ((by rw [hg]; exact (below_size (by repeat (first | (with_reducible first | exact HB.out | apply below_alloc | apply pw_below_drewN | apply below_drew1 | refine below_set ?_ GE155.out) | exact HB.out))) : w.heap.size ≤ gb162)); have n4_ := Aside0.mk ((by rw [hg]; exact (below_size (by repeat (first | (with_reducible first | exact HB.out | apply below_alloc | apply pw_below_drewN | apply below_drew1 | refine below_set ?_ GE155.out) | exact HB.out))) : w.heap.size ≤ gb162)); have n5_ := Aside0.mk ((by rw [hg]; exact Nat.ne_of_lt (blk_lt (g := gb155) (o := .cells #[.int .i64 a1_0, .int .i64 a1_1] 31 (0, 0)) (by (with_reducible repeat (first | refine blk_drewN ?_ _ | refine blk_drew ?_ | refine blk_alloc ?_ _)); exact BK155.out)) : gb155 ≠ gb162)); have n6_ := Aside0.mk ((by rw [hg]; exact Nat.ne_of_gt (blk_lt (g := gb155) (o := .cells #[.int .i64 a1_0, .int .i64 a1_1] 31 (0, 0)) (by (with_reducible repeat (first | refine blk_drewN ?_ _ | refine blk_drew ?_ | refine blk_alloc ?_ _)); exact BK155.out)) : gb162 ≠ gb155)); clear BK155; clear HB; have BK155 := n0_; have HB := n1_; have BK162 := n2_; have GW162 := n3_; have GE162 := n4_; have NB155_162 := n5_; have NB162_155 := n6_; clear n0_ n1_ n2_ n3_ n4_ n5_ n6_; clear hb hbox hg; have hnb94 := NB162_155.out; have hnc94 := NB155_162.out; have hcz95_0 : w93.cell? ⟨gb162, 0, none⟩ = some (.int .i64 0) := (blk_cell BK162.out 0).trans rfl; have hcz95_1 : w93.cell? ⟨gb162, 1, none⟩ = some (.int .i64 0) := (blk_cell BK162.out 1).trans rfl; have hcz95_2 : w93.cell? ⟨gb162, 2, none⟩ = some (.int .i64 0) := (blk_cell BK162.out 2).trans rfl; have hcz95_3 : w93.cell? ⟨gb162, 3, none⟩ = some (.int .i64 0) := (blk_cell BK162.out 3).trans rfl; have hfz95_0 := blk_frozen BK162.out 0; have hfz95_1 := blk_frozen BK162.out 1; have hfz95_2 := blk_frozen BK162.out 2; have hfz95_3 := blk_frozen BK162.out 3; have hcz96_0 : w93.cell? ⟨gb155, 0, none⟩ = some (.int .i64 a1_0) := (blk_cell BK155.out 0).trans rfl; have hcz96_1 : w93.cell? ⟨gb155, 1, none⟩ = some (.int .i64 a1_1) := (blk_cell BK155.out 1).trans rfl; have hfz96_0 := blk_frozen BK155.out 0; have hfz96_1 := blk_frozen BK155.out 1) | ((with_reducible refine gate_callee (f := 57) rfl ?_); refine goesL_ (some 26) rfl rfl Try.func57 (by kernel_rfl) rfl #[.agg #[.int .i64 t158, .int .i64 t159, .int .i64 t160, .int .i64 t161], .agg #[.int .i64 a1_0, .int .i64 a1_1]] rfl (by (try simp only [List.map_toArray, List.map_cons, List.map_nil]); first | done | rfl | (simp only [List.length_drop, List.length_take]; rfl)) ?_; (with_reducible refine (plane_segment_has.calls t158 t159 t160 t161 a1_0 a1_1 false _ A15.out).mono ?_); rintro e w97 ⟨rfl, hb⟩; refine ⟨_, rfl, ?_⟩; have n0_ := Aside0.mk (blk_below (g := gb155) (o := .cells #[.int .i64 a1_0, .int .i64 a1_1] 31 (0, 0)) (by (with_reducible repeat (first | refine blk_drewN ?_ _ | refine blk_drew ?_ | refine blk_alloc ?_ _)); refine blk_far ?_ NB155_162.out _; (with_reducible repeat (first | refine blk_drewN ?_ _ | refine blk_drew ?_ | refine blk_alloc ?_ _)); refine blk_far ?_ NB155_162.out _; (with_reducible repeat (first | refine blk_drewN ?_ _ | refine blk_drew ?_ | refine blk_alloc ?_ _)); refine blk_far ?_ NB155_162.out _; (with_reducible repeat (first | refine blk_drewN ?_ _ | refine blk_drew ?_ | refine blk_alloc ?_ _)); refine blk_far ?_ NB155_162.out _; (with_reducible repeat (first | refine blk_drewN ?_ _ | refine blk_drew ?_ | refine blk_alloc ?_ _)); exact BK155.out) hb); have n1_ := Aside0.mk (blk_below (g := gb162) (o := .cells #[.int .i64 t158, .int .i64 t159, .int .i64 t160, .int .i64 t161] 61 (0, 0)) (by (with_reducible repeat (first | refine blk_drewN ?_ _ | refine blk_drew ?_ | refine blk_alloc ?_ _)); refine blk_put (cs := #[.int .i64 t158, .int .i64 t159, .int .i64 t160, .int .i64 0]) ?_ 3 _ rfl; (with_reducible repeat (first | refine blk_drewN ?_ _ | refine blk_drew ?_ | refine blk_alloc ?_ _)); refine blk_put (cs := #[.int .i64 t158, .int .i64 t159, .int .i64 0, .int .i64 0]) ?_ 2 _ rfl; (with_reducible repeat (first | refine blk_drewN ?_ _ | refine blk_drew ?_ | refine blk_alloc ?_ _)); refine blk_put (cs := #[.int .i64 t158, .int .i64 0, .int .i64 0, .int .i64 0]) ?_ 1 _ rfl; (with_reducible repeat (first | refine blk_drewN ?_ _ | refine blk_drew ?_ | refine blk_alloc ?_ _)); refine blk_put (cs := #[.int .i64 0, .int .i64 0, .int .i64 0, .int .i64 0]) ?_ 0 _ rfl; (with_reducible repeat (first | refine blk_drewN ?_ _ | refine blk_drew ?_ | refine blk_alloc ?_ _)); exact BK162.out) hb); have n2_ := Aside0.mk (below_step (by repeat (first | (with_reducible first | exact HB.out | apply below_alloc | apply pw_below_drewN | apply below_drew1 | refine below_set ?_ GE155.out | refine below_set ?_ GE162.out) | exact HB.out)) hb); clear BK155; clear BK162; clear HB; have BK155 := n0_; have BK162 := n1_; have HB := n2_; clear n0_ n1_ n2_; (try clear hb); (try clear hb2); (try clear hk); (try clear hi); have hcz98_0 : w97.cell? ⟨gb162, 0, none⟩ = some (.int .i64 t158) := (blk_cell BK162.out 0).trans rfl; have hcz98_1 : w97.cell? ⟨gb162, 1, none⟩ = some (.int .i64 t159) := (blk_cell BK162.out 1).trans rfl; have hcz98_2 : w97.cell? ⟨gb162, 2, none⟩ = some (.int .i64 t160) := (blk_cell BK162.out 2).trans rfl; have hcz98_3 : w97.cell? ⟨gb162, 3, none⟩ = some (.int .i64 t161) := (blk_cell BK162.out 3).trans rfl; have hfz98_0 := blk_frozen BK162.out 0; have hfz98_1 := blk_frozen BK162.out 1; have hfz98_2 := blk_frozen BK162.out 2; have hfz98_3 := blk_frozen BK162.out 3; have hcz99_0 : w97.cell? ⟨gb155, 0, none⟩ = some (.int .i64 a1_0) := (blk_cell BK155.out 0).trans rfl; have hcz99_1 : w97.cell? ⟨gb155, 1, none⟩ = some (.int .i64 a1_1) := (blk_cell BK155.out 1).trans rfl; have hfz99_0 := blk_frozen BK155.out 0; have hfz99_1 := blk_frozen BK155.out 1))
          go_roundg k2
          case measure => have := HJ2.out; have := HK2.out; omega
          case rel => exact ⟨(x6_2), (wrap64 (x18_2 + 1)), (by first | rfl | (simp; done) | (simp [*]; done)), (by first | rfl | (simp; done) | (simp [*]; done)), H', ⟨by have := HJ2.out; have := HK2.out; omega⟩, ⟨by (with_reducible repeat (first | refine blk_drewN ?_ _ | refine blk_drew ?_ | refine blk_alloc ?_ _)); exact BK155.out⟩, ⟨by repeat (first | (with_reducible first | exact HB.out | apply below_alloc | apply pw_below_drewN | apply below_drew1 | refine below_set ?_ GE155.out | refine below_set ?_ GE162.out) | exact HB.out)⟩⟩
      ·rw [if_neg c13] at H
       have c13b0 : decide (x18_2 < (l0.length : Int)) = false := decide_eq_false c13
       clear c13
       simp only [Option.some.injEq, Prod.mk.injEq] at H
       obtain ⟨rfl, rfl⟩ := H
       go_wp2
       go_ret2
       exact ⟨by first | rfl | (simp [errW_none, errW_some] <;> rfl) | (simp [*, errW_none, errW_some] <;> rfl), by repeat (first | (with_reducible first | exact HB.out | apply below_alloc | apply pw_below_drewN | apply below_drew1 | refine below_set ?_ GE155.out) | exact HB.out)⟩

end Go.Proofs.Ythaklbjcjoolcaa.P
namespace Go.Proofs.Ythaklbjcjoolcaa.P
open Go.RowKit Go.Proofs.YthaklbjcjoolcaaW.PrintWords Go.Proofs.YthaklbjcjoolcaaW.PrintLast Go.Proofs.YthaklbjcjoolcaaW.PrintMore
attribute [local go_sem] max2_int min2_int max_two min_two max_three min_three max_four min_four   -- for this text's walks alone
set_option linter.unusedVariables false
set_option linter.unusedSimpArgs false

/-! ### cmp_Or_int: function 92 -/
def cmp_Or_int.l0 : Nat → Int → List Int → Int → Int → Option (Int)
 | 0, _, _, _, _ => none
 | k + 1, x3, x6, x7, x8 => if x8 < x7 then (if 0 ≤ x8 then (if x8 < (x6.length : Int) then (if (rd x6 x8) = x3 then (cmp_Or_int.l0 k x3 x6 x7 (wrap64 (x8 + 1))) else (some (rd x6 x8))) else (none)) else (none)) else (some x3)
def cmp_Or_int.f (k : Nat) (l0 : List Int) : Option (Int) := cmp_Or_int.l0 k 0 l0 (l0.length : Int) 0
theorem cmp_Or_int.mono_l : ∀ k, (∀ y0 y1 y2 y3, LeO (cmp_Or_int.l0 k y0 y1 y2 y3) (cmp_Or_int.l0 (k + 1) y0 y1 y2 y3))
 | 0 => fun _ _ _ _ r h => by simp [cmp_Or_int.l0] at h
 | k + 1 => by
  have ih0 := cmp_Or_int.mono_l k
  ·intro y0 y1 y2 y3
   unfold cmp_Or_int.l0
   repeat' first
   | (with_reducible exact ih0 _ _ _ _)
   | (with_reducible exact LeO.refl _)
   | (with_reducible exact LeO.none _)
   | (with_reducible refine LeO.ite ?_ ?_)
   | (with_reducible refine LeO.bind ?_ (fun _ => ?_))
   | exact ih0 _ _ _ _
   | exact LeO.none _
   | refine LeO.ite ?_ ?_
   | refine LeO.bind ?_ (fun _ => ?_)
theorem cmp_Or_int.mono : ∀ a0 k, LeO (cmp_Or_int.f k a0) (cmp_Or_int.f (k + 1) a0) := by
 intro a0 k
 have ih0 := cmp_Or_int.mono_l k
 unfold cmp_Or_int.f
 repeat' first
   | (with_reducible exact ih0 _ _ _ _)
   | (with_reducible exact LeO.refl _)
   | (with_reducible exact LeO.none _)
   | (with_reducible refine LeO.ite ?_ ?_)
   | (with_reducible refine LeO.bind ?_ (fun _ => ?_))
   | exact ih0 _ _ _ _
   | exact LeO.none _
   | refine LeO.ite ?_ ?_
   | refine LeO.bind ?_ (fun _ => ?_)
set_option maxHeartbeats 8000000 in
set_option maxRecDepth 100000 in
theorem cmp_Or_int.calls (k : Nat) (A0 : Option Addr) (c0 : Nat) (l0 : List Int) (r : Int) (w : World) (hr0 : Kd.C (Kd.int .i64) w A0 l0.length l0) (hc0 : l0.length ≤ c0) (h : cmp_Or_int.f k l0 = some r) :
  Calls Try.prog 92 #[.slice A0 l0.length c0] w fun e w' => e = .returned (.int .i64 r) ∧ Drawn0 w w' := by
 have HR0 := Aside0.mk hr0
 have HC0 := Aside0.mk hc0
 clear hr0 hc0
 have H : (cmp_Or_int.l0 k 0 l0 (l0.length : Int) 0) = some r := h
 clear h
 have H' := Aside0.mk H
 clear H
 go_enter Try.func92, Try.ntmps92
 go_wp2
 go_loopg [8] k (fun kq v8 w' => ∃ (x8_1 : Int), v8 = .int .i64 x8_1 ∧ Aside0 (cmp_Or_int.l0 kq 0 l0 (l0.length : Int) x8_1 = some r) ∧ Aside0 (kq ≤ k) ∧ Drawn0 w w')
 case atStart => exact ⟨(0), (by first | rfl | (simp; done) | (simp [*]; done)), H', ⟨Nat.le_refl _⟩, by repeat (first | exact Drawn0.refl _ | apply Drawn0.step)⟩
 case round =>
  clear H'
  obtain ⟨x8_1, rfl, HA, HK1, ⟨m1, rfl⟩⟩ := hrel
  cases gk with
  | zero => exact absurd HA.out (by simp [cmp_Or_int.l0])
  | succ k1 =>
   have H := HA.out
   clear HA
   simp only [cmp_Or_int.l0] at H
   by_cases c2 : x8_1 < (l0.length : Int)
   ·rw [if_pos c2] at H
    have c2b0 : decide (x8_1 < (l0.length : Int)) = true := decide_eq_true c2
    clear c2
    by_cases c3 : 0 ≤ x8_1
    ·rw [if_pos c3] at H
     have c3b0 : decide (0 ≤ x8_1) = true := decide_eq_true c3
     clear c3
     by_cases c4 : x8_1 < (l0.length : Int)
     ·rw [if_pos c4] at H
      have c4b0 : decide (x8_1 < (l0.length : Int)) = true := decide_eq_true c4
      clear c4
      by_cases c5 : (rd l0 x8_1) = 0
      ·rw [if_pos c5] at H
       have c5b0 : ((rd l0 x8_1) == 0) = true := beq_iff_eq.mpr c5
       have c5b1 : ((rd l0 x8_1) != 0) = false := bne_eq_false_iff_eq.mpr c5
       clear c5
       have H' := Aside0.mk H
       clear H
       have p630 : 0 ≤ (x8_1 : Int) := of_decide_eq_true (by first | (with_reducible assumption) | assumption)
       have q630 : x8_1 < (l0.length : Int) := of_decide_eq_true (by first | (with_reducible assumption) | assumption)
       obtain ⟨ad630, e630, hx630_0⟩ := Kd.at_int HR0.out x8_1 p630 q630
       cases e630
       replace p630 := eq_true p630
       replace q630 := eq_true q630
       go_wp2
       go_roundg k1
       case measure => have := HK1.out; omega
       case rel => exact ⟨(wrap64 (x8_1 + 1)), (by first | rfl | (simp; done) | (simp [*]; done)), H', ⟨by have := HK1.out; omega⟩, by repeat (first | exact Drawn0.refl _ | apply Drawn0.step)⟩
      ·rw [if_neg c5] at H
       have c5b0 : ((rd l0 x8_1) == 0) = false := beq_eq_false_iff_ne.mpr c5
       have c5b1 : ((rd l0 x8_1) != 0) = true := bne_iff_ne.mpr c5
       obtain rfl := Option.some.inj H
       have p630 : 0 ≤ (x8_1 : Int) := of_decide_eq_true (by first | (with_reducible assumption) | assumption)
       have q630 : x8_1 < (l0.length : Int) := of_decide_eq_true (by first | (with_reducible assumption) | assumption)
       obtain ⟨ad630, e630, hx630_0⟩ := Kd.at_int HR0.out x8_1 p630 q630
       cases e630
       replace p630 := eq_true p630
       replace q630 := eq_true q630
       go_wp2
       go_ret
       exact ⟨by first | rfl | (simp; done) | (simp [*]; done), by repeat (first | exact Drawn0.refl _ | apply Drawn0.step)⟩
     ·rw [if_neg c4] at H
      exact absurd H (by simp)
    ·rw [if_neg c3] at H
     exact absurd H (by simp)
   ·rw [if_neg c2] at H
    have c2b0 : decide (x8_1 < (l0.length : Int)) = false := decide_eq_false c2
    clear c2
    obtain rfl := Option.some.inj H
    go_wp2
    go_ret
    exact ⟨by first | rfl | (simp; done) | (simp [*]; done), by repeat (first | exact Drawn0.refl _ | apply Drawn0.step)⟩

end Go.Proofs.Ythaklbjcjoolcaa.P
namespace Go.Proofs.Ythaklbjcjoolcaa.P
open Go.RowKit Go.Proofs.YthaklbjcjoolcaaW.PrintWords Go.Proofs.YthaklbjcjoolcaaW.PrintLast Go.Proofs.YthaklbjcjoolcaaW.PrintMore
attribute [local go_sem] max2_int min2_int max_two min_two max_three min_three max_four min_four   -- for this text's walks alone
set_option linter.unusedVariables false
set_option linter.unusedSimpArgs false

/-! ### plane_order: function 75 -/
def plane_order.f (k : Nat) (a0_0 : Int) (a0_1 : Int) (a1_0 : Int) (a1_1 : Int) : Option (Int) := (cmp_Compare_int.f a0_0 a1_0).bind fun t633 => ((cmp_Compare_int.f a0_1 a1_1).bind fun t634 => ((cmp_Or_int.f k (([t633, t634] : List Int))).bind fun t638 => (some t638)))
theorem plane_order.mono : ∀ a0 a1 a2 a3 k, LeO (plane_order.f k a0 a1 a2 a3) (plane_order.f (k + 1) a0 a1 a2 a3) := by
 intro a0 a1 a2 a3 k
 unfold plane_order.f
 repeat' first
   | (with_reducible exact cmp_Or_int.mono _ _)
   | (with_reducible exact LeO.refl _)
   | (with_reducible exact LeO.none _)
   | (with_reducible refine LeO.ite ?_ ?_)
   | (with_reducible refine LeO.bind ?_ (fun _ => ?_))
   | exact cmp_Or_int.mono _ _
   | exact LeO.none _
   | refine LeO.ite ?_ ?_
   | refine LeO.bind ?_ (fun _ => ?_)
def plane_order.T1 : Bool × List (List Nat × List Nat) := (true, [([], []), ([0], [0]), ([], []), ([2], [2]), ([1, 3], [1, 3]), ([], []), ([5], [5]), ([], []), ([7], [7]), ([6, 8, 4], [6, 8]), ([4, 9], [4, 9]), ([10, 9], [10]), ([11, 11, 0, 1, 2, 3, 4, 5, 6, 7, 8, 9, 10, 11], [11])])
def plane_order.B1 : List Nat := [0, 1, 0, 4, 15, 0, 32, 0, 128, 511, 1023, 2047, 4095]
theorem plane_order.tab1 : rtab .any (opsOf Try.f75 1) = plane_order.T1 := by kernel_rfl
theorem plane_order.bits1 : waitsOk plane_order.T1.2 plane_order.B1 = true := by kernel_rfl
set_option maxHeartbeats 8000000 in
set_option maxRecDepth 100000 in
theorem plane_order.calls (k : Nat) (a0_0 : Int) (a0_1 : Int) (a1_0 : Int) (a1_1 : Int) (r : Int) (w : World) (h : plane_order.f k a0_0 a0_1 a1_0 a1_1 = some r) :
  Calls Try.prog 75 #[.agg #[.int .i64 a0_0, .int .i64 a0_1], .agg #[.int .i64 a1_0, .int .i64 a1_1]] w fun e w' => e = .returned (.int .i64 r) ∧ Below w.heap.size w w' := by
 have hu31 := Try.underlying31
 have HB := Aside0.mk (Below.refl w.heap.size w)
 have H : ((cmp_Compare_int.f a0_0 a1_0).bind fun t633 => ((cmp_Compare_int.f a0_1 a1_1).bind fun t634 => ((cmp_Or_int.f k (([t633, t634] : List Int))).bind fun t638 => (some t638)))) = some r := h
 clear h
 replace H := Option.bind_eq_some_iff.mp H
 obtain ⟨t633, A30, H⟩ := H
 replace H : ((cmp_Compare_int.f a0_1 a1_1).bind fun t634 => ((cmp_Or_int.f k (([t633, t634] : List Int))).bind fun t638 => (some t638))) = some r := H
 have A3 := Aside0.mk A30
 clear A30
 replace H := Option.bind_eq_some_iff.mp H
 obtain ⟨t634, A40, H⟩ := H
 replace H : ((cmp_Or_int.f k (([t633, t634] : List Int))).bind fun t638 => (some t638)) = some r := H
 have A4 := Aside0.mk A40
 clear A40
 obtain ⟨y635, hy635⟩ : ∃ y_ : List Int, y_ = (([t633, t634] : List Int)) := ⟨_, rfl⟩
 replace H : ((cmp_Or_int.f k y635).bind fun t638 => (some t638)) = some r := by first | (rw [hy635]; with_reducible exact H) | (have H2_ := (Option.bind_some _ _).symm.trans H; rw [hy635]; with_reducible exact H2_) | (have H2_ := (Option.bind_some _ _).symm.trans H; with_reducible exact H2_) | with_reducible exact H | (rw [hy635]; exact H) | exact H
 have Ny635 := Aside0.mk hy635
 clear hy635
 replace H := Option.bind_eq_some_iff.mp H
 obtain ⟨t638, A50, H⟩ := H
 replace H : (some t638) = some r := H
 have A5 := Aside0.mk A50
 clear A50
 obtain rfl := Option.some.inj H
 go_enter Try.func75, Try.ntmps75
 try go_wp2_with (first | ((with_reducible refine gate_dst (N := 2) rfl ?_); refine box_event ?hg (N := 2) ?hd (cs := #[.int .i64 a0_0, .int .i64 a0_1]) (t := 31) ?hr ?_; (case hd => rfl); (case hg => rfl); (case hr => first | (go_simp; done) | (go_simp; rfl)); intro gb631 hg w6 hbox hb; have n0_ := Aside0.mk (below_step (by repeat (first | (with_reducible first | exact HB.out | apply below_alloc | apply pw_below_drewN | apply below_drew1) | exact HB.out)) hb); have n1_ := Aside0.mk (hbox); have n2_ := Aside0.mk ((by rw [hg]; exact (below_size (by repeat (first | (with_reducible first | exact HB.out | apply below_alloc | apply pw_below_drewN | apply below_drew1) | exact HB.out))) : w.heap.size ≤ gb631)); have n3_ := Aside0.mk ((by rw [hg]; exact (below_size (by repeat (first | (with_reducible first | exact HB.out | apply below_alloc | apply pw_below_drewN | apply below_drew1) | exact HB.out))) : w.heap.size ≤ gb631)); clear HB; have HB := n0_; have BK631 := n1_; have GW631 := n2_; have GE631 := n3_; clear n0_ n1_ n2_ n3_; clear hb hbox hg) | ((with_reducible refine gate_dst (N := 3) rfl ?_); refine box_event ?hg (N := 3) ?hd (cs := #[.int .i64 a1_0, .int .i64 a1_1]) (t := 31) ?hr ?_; (case hd => rfl); (case hg => rfl); (case hr => first | (go_simp; done) | (go_simp; rfl)); intro gb632 hg w7 hbox hb; have n0_ := Aside0.mk (blk_below (g := gb631) (o := .cells #[.int .i64 a0_0, .int .i64 a0_1] 31 (0, 0)) (by (with_reducible repeat (first | refine blk_drewN ?_ _ | refine blk_drew ?_ | refine blk_alloc ?_ _)); exact BK631.out) hb); have n1_ := Aside0.mk (below_step (by repeat (first | (with_reducible first | exact HB.out | apply below_alloc | apply pw_below_drewN | apply below_drew1 | refine below_set ?_ GE631.out) | exact HB.out)) hb); have n2_ := Aside0.mk (hbox); have n3_ := Aside0.mk ((by rw [hg]; exact (below_size (by repeat (first | (with_reducible first | exact HB.out | apply below_alloc | apply pw_below_drewN | apply below_drew1 | refine below_set ?_ GE631.out) | exact HB.out))) : w.heap.size ≤ gb632)); have n4_ := Aside0.mk ((by rw [hg]; exact (below_size (by repeat (first | (with_reducible first | exact HB.out | apply below_alloc | apply pw_below_drewN | apply below_drew1 | refine below_set ?_ GE631.out) | exact HB.out))) : w.heap.size ≤ gb632)); have n5_ := Aside0.mk ((by rw [hg]; exact Nat.ne_of_lt (blk_lt (g := gb631) (o := .cells #[.int .i64 a0_0, .int .i64 a0_1] 31 (0, 0)) (by (with_reducible repeat (first | refine blk_drewN ?_ _ | refine blk_drew ?_ | refine blk_alloc ?_ _)); exact BK631.out)) : gb631 ≠ gb632)); have n6_ := Aside0.mk ((by rw [hg]; exact Nat.ne_of_gt (blk_lt (g := gb631) (o := .cells #[.int .i64 a0_0, .int .i64 a0_1] 31 (0, 0)) (by (with_reducible repeat (first | refine blk_drewN ?_ _ | refine blk_drew ?_ | refine blk_alloc ?_ _)); exact BK631.out)) : gb632 ≠ gb631)); clear BK631; clear HB; have BK631 := n0_; have HB := n1_; have BK632 := n2_; have GW632 := n3_; have GE632 := n4_; have NB631_632 := n5_; have NB632_631 := n6_; clear n0_ n1_ n2_ n3_ n4_ n5_ n6_; clear hb hbox hg))
 have n0_ := Aside0.mk (blk_drew BK631.out)
 have n1_ := Aside0.mk (blk_drew BK632.out)
 have n2_ := Aside0.mk (below_drew1 HB.out)
 clear BK631
 clear BK632
 clear HB
 have BK631 := n0_
 have BK632 := n1_
 have HB := n2_
 clear n0_ n1_ n2_
 refine start_ (n := 13) (S := fun w' => w'.cell? ⟨gb631, 0, none⟩ = some (.int .i64 a0_0) ∧ w'.cell? ⟨gb631, 1, none⟩ = some (.int .i64 a0_1) ∧ w'.cell? ⟨gb632, 0, none⟩ = some (.int .i64 a1_0) ∧ w'.cell? ⟨gb632, 1, none⟩ = some (.int .i64 a1_1)) (ds := []) #[false, false, false, false, false, false, false, false, false, false, false, false, false] (by kernel_rfl) rfl rfl ⟨(blk_cell BK631.out 0).trans rfl, (blk_cell BK631.out 1).trans rfl, (blk_cell BK632.out 0).trans rfl, (blk_cell BK632.out 1).trans rfl⟩ (fun hHeld => ?_); refine with_tabW plane_order.tab1 plane_order.bits1 (fun HT_ HW_ => ?_)
 generalize w7.drew = w8 at BK631 BK632 HB hHeld ⊢
 refine pure_ (i := 0) (N := some 5) (v := ?_) (a' := ?_) #[true, false, false, false, false, false, false, false, false, false, false, false, false] rfl rfl (any_of HT_.out (by kernel_rfl)) (fun _ _ _ h => h) (Or.inl ⟨by rfl, ?_⟩) ?_ ?_
 rotate_left
 ·intro w'
  go_simp
  with_reducible rfl
 rotate_left
 ·simp only [Act.put, List.setIfInBounds_toArray, List.set_cons_zero, List.set_cons_succ, i64_w, i32_w]
  rfl
 refine pure_ (i := 2) (N := some 7) (v := ?_) (a' := ?_) #[true, false, true, false, false, false, false, false, false, false, false, false, false] rfl rfl (any_of HT_.out (by kernel_rfl)) (fun _ _ _ h => h) (Or.inl ⟨by rfl, ?_⟩) ?_ ?_
 rotate_left
 ·intro w'
  go_simp
  with_reducible rfl
 rotate_left
 ·simp only [Act.put, List.setIfInBounds_toArray, List.set_cons_zero, List.set_cons_succ, i64_w, i32_w]
  rfl
 refine pure_ (i := 5) (N := some 10) (v := ?_) (a' := ?_) #[true, false, true, false, false, true, false, false, false, false, false, false, false] rfl rfl (any_of HT_.out (by kernel_rfl)) (fun _ _ _ h => h) (Or.inl ⟨by rfl, ?_⟩) ?_ ?_
 rotate_left
 ·intro w'
  go_simp
  with_reducible rfl
 rotate_left
 ·simp only [Act.put, List.setIfInBounds_toArray, List.set_cons_zero, List.set_cons_succ, i64_w, i32_w]
  rfl
 refine pure_ (i := 7) (N := some 12) (v := ?_) (a' := ?_) #[true, false, true, false, false, true, false, true, false, false, false, false, false] rfl rfl (any_of HT_.out (by kernel_rfl)) (fun _ _ _ h => h) (Or.inl ⟨by rfl, ?_⟩) ?_ ?_
 rotate_left
 ·intro w'
  go_simp
  with_reducible rfl
 rotate_left
 ·simp only [Act.put, List.setIfInBounds_toArray, List.set_cons_zero, List.set_cons_succ, i64_w, i32_w]
  rfl
 refine take_ (i := 1) (N := some 6) (v := ?_) (a' := ?_) #[true, true, true, false, false, true, false, true, false, false, false, false, false] rfl rfl (take_ofW HT_.out HW_.out (by kernel_rfl)) (fun _ _ _ h => h) (Or.inl ⟨by rfl, ?_⟩) hHeld ?_ ?_
 rotate_left
 ·rintro w' ⟨s0, s1, s2, s3⟩
  go_simp
  with_reducible rfl
 rotate_left
 ·simp only [Act.put, List.setIfInBounds_toArray, List.set_cons_zero, List.set_cons_succ, i64_w, i32_w]
  rfl
 refine take_ (i := 3) (N := some 8) (v := ?_) (a' := ?_) #[true, true, true, true, false, true, false, true, false, false, false, false, false] rfl rfl (take_ofW HT_.out HW_.out (by kernel_rfl)) (fun _ _ _ h => h) (Or.inl ⟨by rfl, ?_⟩) hHeld ?_ ?_
 rotate_left
 ·rintro w' ⟨s0, s1, s2, s3⟩
  go_simp
  with_reducible rfl
 rotate_left
 ·simp only [Act.put, List.setIfInBounds_toArray, List.set_cons_zero, List.set_cons_succ, i64_w, i32_w]
  rfl
 refine take_ (i := 6) (N := some 11) (v := ?_) (a' := ?_) #[true, true, true, true, false, true, true, true, false, false, false, false, false] rfl rfl (take_ofW HT_.out HW_.out (by kernel_rfl)) (fun _ _ _ h => h) (Or.inl ⟨by rfl, ?_⟩) hHeld ?_ ?_
 rotate_left
 ·rintro w' ⟨s0, s1, s2, s3⟩
  go_simp
  with_reducible rfl
 rotate_left
 ·simp only [Act.put, List.setIfInBounds_toArray, List.set_cons_zero, List.set_cons_succ, i64_w, i32_w]
  rfl
 refine take_ (i := 8) (N := some 13) (v := ?_) (a' := ?_) #[true, true, true, true, false, true, true, true, true, false, false, false, false] rfl rfl (take_ofW HT_.out HW_.out (by kernel_rfl)) (fun _ _ _ h => h) (Or.inl ⟨by rfl, ?_⟩) hHeld ?_ ?_
 rotate_left
 ·rintro w' ⟨s0, s1, s2, s3⟩
  go_simp
  with_reducible rfl
 rotate_left
 ·simp only [Act.put, List.setIfInBounds_toArray, List.set_cons_zero, List.set_cons_succ, i64_w, i32_w]
  rfl
 refine one_ (i := 4) (N := some 9) #[true, true, true, true, true, true, true, true, true, false, false, false, false] rfl rfl (one_of HT_.out (by kernel_rfl)) (by decide) (fun K hK => ?_)
 refine goes_ Try.func82 (by kernel_rfl) rfl #[.int .i64 a0_0, .int .i64 a1_0] (by rfl) rfl rfl (by (try simp only [List.map_toArray, List.map_cons, List.map_nil]); first | done | rfl | (simp only [List.length_drop, List.length_take]; rfl)) ?_
 with_reducible refine (cmp_Compare_int.calls a0_0 a1_0 t633 _ A3.out).mono ?_
 rintro e w' ⟨rfl, ⟨nd, rfl⟩⟩
 refine ⟨_, rfl, ?_⟩
 refine hK.out _ _ ⟨(blk_cell BK631.out 0).trans rfl, (blk_cell BK631.out 1).trans rfl, (blk_cell BK632.out 0).trans rfl, (blk_cell BK632.out 1).trans rfl⟩ (fun hHeld => ?_)
 clear hK K
 refine norm_ (a' := ?_) ?_ ?_
 rotate_left
 ·show Act.put _ (some 9) _ = _
  simp only [Act.put, List.setIfInBounds_toArray, List.set_cons_zero, List.set_cons_succ, i64_w, i32_w]
  rfl
 refine one_ (i := 9) (N := some 14) #[true, true, true, true, true, true, true, true, true, true, false, false, false] rfl rfl (one_of HT_.out (by kernel_rfl)) (by decide) (fun K hK => ?_)
 refine goes_ Try.func82 (by kernel_rfl) rfl #[.int .i64 a0_1, .int .i64 a1_1] (by rfl) rfl rfl (by (try simp only [List.map_toArray, List.map_cons, List.map_nil]); first | done | rfl | (simp only [List.length_drop, List.length_take]; rfl)) ?_
 with_reducible refine (cmp_Compare_int.calls a0_1 a1_1 t634 _ A4.out).mono ?_
 rintro e w' ⟨rfl, ⟨nd, rfl⟩⟩
 refine ⟨_, rfl, ?_⟩
 refine hK.out _ _ ⟨(blk_cell BK631.out 0).trans rfl, (blk_cell BK631.out 1).trans rfl, (blk_cell BK632.out 0).trans rfl, (blk_cell BK632.out 1).trans rfl⟩ (fun hHeld => ?_)
 clear hK K
 refine norm_ (a' := ?_) ?_ ?_
 rotate_left
 ·show Act.put _ (some 14) _ = _
  simp only [Act.put, List.setIfInBounds_toArray, List.set_cons_zero, List.set_cons_succ, i64_w, i32_w]
  rfl
 refine one_ (i := 10) (N := some 15) #[true, true, true, true, true, true, true, true, true, true, true, false, false] rfl rfl (one_of HT_.out (by kernel_rfl)) (by decide) (fun K hK => ?_)
 refine Kd.R_lit_step (Kd.int .i64) _ 3 ?hg (N := 15) ?hd (xs := ([t633, t634] : List Int)) (inner := [.int .i64 t633, .int .i64 t634]) (ok := fun _ => True) (okp := fun _ => True) ?hr ?hp (fun _ hk => hk) trivial (Below.refl _ _) (Nat.le_refl _) (by simp) ?_; (case hd => rfl); (case hg => rfl); (case hr => first | (go_simp; done) | (go_simp; rfl)); (case hp => exact (Reps.one (show Kd.M (Kd.int .i64) _ _ _ t633 [.int .i64 t633] from rfl) (Reps.one (show Kd.M (Kd.int .i64) _ _ _ t634 [.int .i64 t634] from rfl) (Reps.none _ _))))
 intro v636 w9 ho10 hb hg_ hnew_
 clear hg_ hnew_
 (first | rw [← Ny635.out] at ho10 | (simp only [Int.reduceToNat] at ho10; rw [← Ny635.out] at ho10))
 have n0_ := Aside0.mk (Kd.R_lower ho10 (below_size (by repeat (first | (with_reducible first | exact HB.out | apply below_alloc | apply pw_below_drewN | apply below_drew1 | refine below_set ?_ GE631.out | refine below_set ?_ GE632.out) | exact HB.out))))
 have n1_ := Aside0.mk (blk_below (g := gb631) (o := .cells #[.int .i64 a0_0, .int .i64 a0_1] 31 (0, 0)) (by (with_reducible repeat (first | refine blk_drewN ?_ _ | refine blk_drew ?_ | refine blk_alloc ?_ _)); exact BK631.out) hb)
 have n2_ := Aside0.mk (blk_below (g := gb632) (o := .cells #[.int .i64 a1_0, .int .i64 a1_1] 31 (0, 0)) (by (with_reducible repeat (first | refine blk_drewN ?_ _ | refine blk_drew ?_ | refine blk_alloc ?_ _)); exact BK632.out) hb)
 have n3_ := Aside0.mk (below_step (by repeat (first | (with_reducible first | exact HB.out | apply below_alloc | apply pw_below_drewN | apply below_drew1 | refine below_set ?_ GE631.out | refine below_set ?_ GE632.out) | exact HB.out)) hb)
 clear BK631
 clear BK632
 clear HB
 have HO637 := n0_
 have BK631 := n1_
 have BK632 := n2_
 have HB := n3_
 clear n0_ n1_ n2_ n3_
 clear hb ho10
 obtain ⟨Ao11, co11, eo11⟩ := Kd.R_slice HO637.out
 (first | subst eo11 | (injection eo11 with f1_ f2_ f3_; have f4_ := f1_.symm; have f5_ := f3_.symm; clear f1_ f2_ f3_; subst f4_; subst f5_))
 refine hK.out _ _ ⟨(blk_cell BK631.out 0).trans rfl, (blk_cell BK631.out 1).trans rfl, (blk_cell BK632.out 0).trans rfl, (blk_cell BK632.out 1).trans rfl⟩ (fun hHeld => ?_)
 clear hK K
 refine norm_ (a' := ?_) ?_ ?_
 rotate_left
 ·show Act.put _ (some 15) _ = _
  simp only [Act.put, List.setIfInBounds_toArray, List.set_cons_zero, List.set_cons_succ, i64_w, i32_w]
  rfl
 refine one_ (i := 11) (N := some 16) #[true, true, true, true, true, true, true, true, true, true, true, true, false] rfl rfl (one_of HT_.out (by kernel_rfl)) (by decide) (fun K hK => ?_)
 refine goes_ Try.func92 (by kernel_rfl) rfl #[.slice Ao11 y635.length co11] (by rfl) rfl rfl (by (try simp only [List.map_toArray, List.map_cons, List.map_nil]); first | done | rfl | (simp only [List.length_drop, List.length_take]; rfl)) ?_
 with_reducible refine (cmp_Or_int.calls k _ _ y635 t638 _ ?side1 ?side2 A5.out).mono ?_
 (case side1 => repeat (first | exact (Kd.R_reads' HO637.out).2.2 | (with_reducible refine Kd.C_alloc ?_ _) | (with_reducible refine Kd.C_drewN ?_ _) | (with_reducible refine Kd.C_drew ?_)))
 (case side2 => exact (Kd.R_reads' HO637.out).2.1)
 rintro e w' ⟨rfl, ⟨nd, rfl⟩⟩
 refine ⟨_, rfl, ?_⟩
 refine hK.out _ _ ⟨(blk_cell BK631.out 0).trans rfl, (blk_cell BK631.out 1).trans rfl, (blk_cell BK632.out 0).trans rfl, (blk_cell BK632.out 1).trans rfl⟩ (fun hHeld => ?_)
 clear hK K
 refine norm_ (a' := ?_) ?_ ?_
 rotate_left
 ·show Act.put _ (some 16) _ = _
  simp only [Act.put, List.setIfInBounds_toArray, List.set_cons_zero, List.set_cons_succ, i64_w, i32_w]
  rfl
 refine pure_ (i := 12) (N := some 4) (v := ?_) (a' := ?_) #[true, true, true, true, true, true, true, true, true, true, true, true, true] rfl rfl (any_of HT_.out (by kernel_rfl)) (fun _ _ _ h => h) (Or.inl ⟨by rfl, ?_⟩) ?_ ?_
 rotate_left
 ·intro w'
  go_simp
  with_reducible rfl
 rotate_left
 ·simp only [Act.put, List.setIfInBounds_toArray, List.set_cons_zero, List.set_cons_succ, i64_w, i32_w]
  rfl
 refine done_ (done_of HT_.out (by kernel_rfl)) ?_
 try go_wp2
 go_ret
 exact ⟨by first | rfl | (simp [errW_none, errW_some] <;> rfl) | (simp [*, errW_none, errW_some] <;> rfl), by repeat (first | (with_reducible first | exact HB.out | apply below_alloc | apply pw_below_drewN | apply below_drew1 | refine below_set ?_ GE631.out | refine below_set ?_ GE632.out) | exact HB.out)⟩

end Go.Proofs.Ythaklbjcjoolcaa.P
namespace Go.Proofs.Ythaklbjcjoolcaa.P
open Go.RowKit Go.Sort Go.Proofs.YthaklbjcjoolcaaW.PrintWords Go.Proofs.YthaklbjcjoolcaaW.PrintLast Go.Proofs.YthaklbjcjoolcaaW.PrintMore
set_option linter.unusedVariables false
set_option linter.unusedSimpArgs false
/-- what cmp.Compare answers -/
def cmpI (a b : Int) : Int := if a < b then -1 else if b < a then 1 else 0
theorem compare_is (a b : Int) : cmp_Compare_int.f a b = some (cmpI a b) := by
  have h : ∀ x : Int, cmp_isNaN_int.f x = some false := fun x => by unfold cmp_isNaN_int.f; simp
  unfold cmp_Compare_int.f cmpI
  simp only [h, Option.bind_some, Bool.false_eq_true, if_false]
  split
  · rfl
  · split
    · rfl
    · rfl
/-- cmp.Or of two -/
def orI (a b : Int) : Int := if a = 0 then b else a
theorem or_is (a b : Int) : cmp_Or_int.f 3 [a, b] = some (orI a b) := by
  have e1 : wrap64 1 = 1 := by unfold wrap64; omega
  have e2 : wrap64 2 = 2 := by unfold wrap64; omega
  have r0 : ∀ x y : Int, YthaklbjcjoolcaaW.PrintWords.rd [x, y] 0 = x := fun _ _ => rfl
  have r1 : ∀ x y : Int, YthaklbjcjoolcaaW.PrintWords.rd [x, y] 1 = y := fun _ _ => rfl
  unfold cmp_Or_int.f orI
  by_cases h : a = 0
  · rw [if_pos h]
    by_cases hb : b = 0
    · simp [cmp_Or_int.l0, e1, e2, r0, r1, h, hb]
    · simp [cmp_Or_int.l0, e1, e2, r0, r1, h, hb]
  · rw [if_neg h]
    simp [cmp_Or_int.l0, e1, e2, r0, r1, h]
/-- by X, and then by Y -/
def ordP (p q : S31) : Int := orI (cmpI p.f0 q.f0) (cmpI p.f1 q.f1)
theorem grown3 (w : World) (A B C : Obj) (n1 n2 n3 : Nat) : (((((w.alloc A).alloc B).drew.drewN n1).drewN n2).alloc C).drewN n3 = Sort.grow (w.drewN (1 + n1 + n2 + n3)) #[A, B, C] := by
  unfold Sort.grow World.drewN World.drew World.alloc
  simp only [World.mk.injEq, true_and, and_true]
  refine ⟨?_, by omega⟩
  apply Array.ext'
  simp
set_option maxHeartbeats 8000000 in
set_option maxRecDepth 100000 in
theorem order_calls (p q : S31) (w : World) : Calls Try.prog 75 #[.agg #[.int .i64 p.f0, .int .i64 p.f1], .agg #[.int .i64 q.f0, .int .i64 q.f1]] w fun e w' => e = .returned (.int .i64 (ordP p q)) ∧ ∃ n os, w' = Sort.grow (w.drewN n) os := by
 obtain ⟨a0_0, a0_1⟩ := p
 obtain ⟨a1_0, a1_1⟩ := q
 have hu31 := Try.underlying31
 have A3 := Aside0.mk (compare_is a0_0 a1_0)
 have A4 := Aside0.mk (compare_is a0_1 a1_1)
 have HO := Aside0.mk (or_is (cmpI a0_0 a1_0) (cmpI a0_1 a1_1))
 have HE : Aside0 (ordP ⟨a0_0, a0_1⟩ ⟨a1_0, a1_1⟩ = orI (cmpI a0_0 a1_0) (cmpI a0_1 a1_1)) := ⟨rfl⟩
 obtain ⟨R, hR⟩ : ∃ R, ordP ⟨a0_0, a0_1⟩ ⟨a1_0, a1_1⟩ = R := ⟨_, rfl⟩
 rw [hR] at HE ⊢
 clear hR
 generalize cmpI a0_0 a1_0 = t3 at *
 generalize cmpI a0_1 a1_1 = t4 at *
 dsimp only
 have b1 := heap_alloc_new w (Obj.cells #[.int .i64 a0_0, .int .i64 a0_1] 31)
 have b2 := heap_alloc_new (w.alloc (Obj.cells #[.int .i64 a0_0, .int .i64 a0_1] 31)) (Obj.cells #[.int .i64 a1_0, .int .i64 a1_1] 31)
 have b3 := blk_alloc b1 (Obj.cells #[.int .i64 a1_0, .int .i64 a1_1] 31)
 rw [World.size_alloc] at b2
 have HS0 : Aside0 ((((w.alloc (Obj.cells #[.int .i64 a0_0, .int .i64 a0_1] 31)).alloc (Obj.cells #[.int .i64 a1_0, .int .i64 a1_1] 31)).drew.cell? ⟨w.heap.size, 0, none⟩ = some (.int .i64 a0_0)) ∧ ((w.alloc (Obj.cells #[.int .i64 a0_0, .int .i64 a0_1] 31)).alloc (Obj.cells #[.int .i64 a1_0, .int .i64 a1_1] 31)).drew.cell? ⟨w.heap.size, 1, none⟩ = some (.int .i64 a0_1) ∧ ((w.alloc (Obj.cells #[.int .i64 a0_0, .int .i64 a0_1] 31)).alloc (Obj.cells #[.int .i64 a1_0, .int .i64 a1_1] 31)).drew.cell? ⟨w.heap.size + 1, 0, none⟩ = some (.int .i64 a1_0) ∧ ((w.alloc (Obj.cells #[.int .i64 a0_0, .int .i64 a0_1] 31)).alloc (Obj.cells #[.int .i64 a1_0, .int .i64 a1_1] 31)).drew.cell? ⟨w.heap.size + 1, 1, none⟩ = some (.int .i64 a1_1)) := ⟨blk_cell b3 0, blk_cell b3 1, blk_cell b2 0, blk_cell b2 1⟩
 clear b1 b2 b3
 go_enter Try.func75, Try.ntmps75
 go_wp2
 refine start_ (n := 13) (S := fun w' => w'.cell? ⟨w.heap.size, 0, none⟩ = some (.int .i64 a0_0) ∧ w'.cell? ⟨w.heap.size, 1, none⟩ = some (.int .i64 a0_1) ∧ w'.cell? ⟨w.heap.size + 1, 0, none⟩ = some (.int .i64 a1_0) ∧ w'.cell? ⟨w.heap.size + 1, 1, none⟩ = some (.int .i64 a1_1)) (ds := []) #[false, false, false, false, false, false, false, false, false, false, false, false, false] (by kernel_rfl) rfl rfl HS0.out (fun hHeld => ?_); refine with_tabW plane_order.tab1 plane_order.bits1 (fun HT_ HW_ => ?_)
 refine pure_ (i := 0) (N := some 5) (v := ?_) (a' := ?_) #[true, false, false, false, false, false, false, false, false, false, false, false, false] rfl rfl (any_of HT_.out (by kernel_rfl)) (fun _ _ _ h => h) (Or.inl ⟨by rfl, ?_⟩) ?_ ?_
 rotate_left
 ·intro w'
  go_simp
  with_reducible rfl
 rotate_left
 ·simp only [Act.put, List.setIfInBounds_toArray, List.set_cons_zero, List.set_cons_succ, i64_w, i32_w]
  rfl
 refine pure_ (i := 2) (N := some 7) (v := ?_) (a' := ?_) #[true, false, true, false, false, false, false, false, false, false, false, false, false] rfl rfl (any_of HT_.out (by kernel_rfl)) (fun _ _ _ h => h) (Or.inl ⟨by rfl, ?_⟩) ?_ ?_
 rotate_left
 ·intro w'
  go_simp
  with_reducible rfl
 rotate_left
 ·simp only [Act.put, List.setIfInBounds_toArray, List.set_cons_zero, List.set_cons_succ, i64_w, i32_w]
  rfl
 refine pure_ (i := 5) (N := some 10) (v := ?_) (a' := ?_) #[true, false, true, false, false, true, false, false, false, false, false, false, false] rfl rfl (any_of HT_.out (by kernel_rfl)) (fun _ _ _ h => h) (Or.inl ⟨by rfl, ?_⟩) ?_ ?_
 rotate_left
 ·intro w'
  go_simp
  with_reducible rfl
 rotate_left
 ·simp only [Act.put, List.setIfInBounds_toArray, List.set_cons_zero, List.set_cons_succ, i64_w, i32_w]
  rfl
 refine pure_ (i := 7) (N := some 12) (v := ?_) (a' := ?_) #[true, false, true, false, false, true, false, true, false, false, false, false, false] rfl rfl (any_of HT_.out (by kernel_rfl)) (fun _ _ _ h => h) (Or.inl ⟨by rfl, ?_⟩) ?_ ?_
 rotate_left
 ·intro w'
  go_simp
  with_reducible rfl
 rotate_left
 ·simp only [Act.put, List.setIfInBounds_toArray, List.set_cons_zero, List.set_cons_succ, i64_w, i32_w]
  rfl
 refine take_ (i := 1) (N := some 6) (v := ?_) (a' := ?_) #[true, true, true, false, false, true, false, true, false, false, false, false, false] rfl rfl (take_ofW HT_.out HW_.out (by kernel_rfl)) (fun _ _ _ h => h) (Or.inl ⟨by rfl, ?_⟩) hHeld ?_ ?_
 rotate_left
 ·rintro w' ⟨s0, s1, s2, s3⟩
  go_simp
  with_reducible rfl
 rotate_left
 ·simp only [Act.put, List.setIfInBounds_toArray, List.set_cons_zero, List.set_cons_succ, i64_w, i32_w]
  rfl
 refine take_ (i := 3) (N := some 8) (v := ?_) (a' := ?_) #[true, true, true, true, false, true, false, true, false, false, false, false, false] rfl rfl (take_ofW HT_.out HW_.out (by kernel_rfl)) (fun _ _ _ h => h) (Or.inl ⟨by rfl, ?_⟩) hHeld ?_ ?_
 rotate_left
 ·rintro w' ⟨s0, s1, s2, s3⟩
  go_simp
  with_reducible rfl
 rotate_left
 ·simp only [Act.put, List.setIfInBounds_toArray, List.set_cons_zero, List.set_cons_succ, i64_w, i32_w]
  rfl
 refine take_ (i := 6) (N := some 11) (v := ?_) (a' := ?_) #[true, true, true, true, false, true, true, true, false, false, false, false, false] rfl rfl (take_ofW HT_.out HW_.out (by kernel_rfl)) (fun _ _ _ h => h) (Or.inl ⟨by rfl, ?_⟩) hHeld ?_ ?_
 rotate_left
 ·rintro w' ⟨s0, s1, s2, s3⟩
  go_simp
  with_reducible rfl
 rotate_left
 ·simp only [Act.put, List.setIfInBounds_toArray, List.set_cons_zero, List.set_cons_succ, i64_w, i32_w]
  rfl
 refine take_ (i := 8) (N := some 13) (v := ?_) (a' := ?_) #[true, true, true, true, false, true, true, true, true, false, false, false, false] rfl rfl (take_ofW HT_.out HW_.out (by kernel_rfl)) (fun _ _ _ h => h) (Or.inl ⟨by rfl, ?_⟩) hHeld ?_ ?_
 rotate_left
 ·rintro w' ⟨s0, s1, s2, s3⟩
  go_simp
  with_reducible rfl
 rotate_left
 ·simp only [Act.put, List.setIfInBounds_toArray, List.set_cons_zero, List.set_cons_succ, i64_w, i32_w]
  rfl
 refine one_ (i := 4) (N := some 9) #[true, true, true, true, true, true, true, true, true, false, false, false, false] rfl rfl (one_of HT_.out (by kernel_rfl)) (by decide) (fun K hK => ?_)
 refine goes_ Try.func82 (by kernel_rfl) rfl #[.int .i64 a0_0, .int .i64 a1_0] (by rfl) rfl rfl (by (try simp only [List.map_toArray, List.map_cons, List.map_nil]); first | done | rfl | (simp only [List.length_drop, List.length_take]; rfl)) ?_
 with_reducible refine (cmp_Compare_int.calls a0_0 a1_0 _ _ A3.out).mono ?_
 rintro e w' ⟨rfl, ⟨nd1, rfl⟩⟩
 refine ⟨_, rfl, ?_⟩
 refine hK.out _ _ hHeld (fun hHeld => ?_)
 clear hK K
 refine norm_ (a' := ?_) ?_ ?_
 rotate_left
 ·show Act.put _ (some 9) _ = _
  simp only [Act.put, List.setIfInBounds_toArray, List.set_cons_zero, List.set_cons_succ, i64_w, i32_w]
  rfl
 refine one_ (i := 9) (N := some 14) #[true, true, true, true, true, true, true, true, true, true, false, false, false] rfl rfl (one_of HT_.out (by kernel_rfl)) (by decide) (fun K hK => ?_)
 refine goes_ Try.func82 (by kernel_rfl) rfl #[.int .i64 a0_1, .int .i64 a1_1] (by rfl) rfl rfl (by (try simp only [List.map_toArray, List.map_cons, List.map_nil]); first | done | rfl | (simp only [List.length_drop, List.length_take]; rfl)) ?_
 with_reducible refine (cmp_Compare_int.calls a0_1 a1_1 _ _ A4.out).mono ?_
 rintro e w' ⟨rfl, ⟨nd2, rfl⟩⟩
 refine ⟨_, rfl, ?_⟩
 refine hK.out _ _ hHeld (fun hHeld => ?_)
 clear hK K
 refine norm_ (a' := ?_) ?_ ?_
 rotate_left
 ·show Act.put _ (some 14) _ = _
  simp only [Act.put, List.setIfInBounds_toArray, List.set_cons_zero, List.set_cons_succ, i64_w, i32_w]
  rfl
 refine one_ (i := 10) (N := some 15) #[true, true, true, true, true, true, true, true, true, true, true, false, false] rfl rfl (one_of HT_.out (by kernel_rfl)) (by decide) (fun K hK => ?_)
 refine event_step (v := .slice (some ⟨w.heap.size + 1 + 1, 0, none⟩) 2 2) (w1 := World.alloc ((((w.alloc (Obj.cells #[.int .i64 a0_0, .int .i64 a0_1] 31)).alloc (Obj.cells #[.int .i64 a1_0, .int .i64 a1_1] 31)).drew.drewN nd1).drewN nd2) (.cells (#[.int .i64 t3, .int .i64 t4] : Array Value) 3)) ?wanted ?run ?_
 (case wanted => rfl)
 (case run => first | (go_simp; done) | (go_simp; rfl))
 have HW3 : Aside0 (((((w.alloc (Obj.cells #[.int .i64 a0_0, .int .i64 a0_1] 31)).alloc (Obj.cells #[.int .i64 a1_0, .int .i64 a1_1] 31)).drew.drewN nd1).drewN nd2).heap.size = w.heap.size + 1 + 1) := ⟨by simp [World.drew, World.drewN]⟩
 have b3 := heap_alloc_new ((((w.alloc (Obj.cells #[.int .i64 a0_0, .int .i64 a0_1] 31)).alloc (Obj.cells #[.int .i64 a1_0, .int .i64 a1_1] 31)).drew.drewN nd1).drewN nd2) (Obj.cells (#[.int .i64 t3, .int .i64 t4] : Array Value) 3)
 rw [HW3.out] at b3
 have HC2 : Aside0 (Kd.C (Kd.int .i64) (World.alloc ((((w.alloc (Obj.cells #[.int .i64 a0_0, .int .i64 a0_1] 31)).alloc (Obj.cells #[.int .i64 a1_0, .int .i64 a1_1] 31)).drew.drewN nd1).drewN nd2) (.cells (#[.int .i64 t3, .int .i64 t4] : Array Value) 3)) (some ⟨w.heap.size + 1 + 1, 0, none⟩) ([t3, t4] : List Int).length [t3, t4]) := ⟨by
  refine Kd.C_of_reads (d := (0 : Int)) ⟨rfl, by simp, fun _ => ⟨_, rfl, fun j hj => ?_⟩⟩
  simp only [List.length_cons, List.length_nil] at hj
  rw [Addr.add_lit, Nat.zero_add, blk_cell b3]
  obtain rfl | rfl : j = 0 ∨ j = 1 := by omega
  · rfl
  · rfl⟩
 have hB := below_alloc (Below.refl _ _) (w := ((((w.alloc (Obj.cells #[.int .i64 a0_0, .int .i64 a0_1] 31)).alloc (Obj.cells #[.int .i64 a1_0, .int .i64 a1_1] 31)).drew.drewN nd1).drewN nd2)) (Obj.cells (#[.int .i64 t3, .int .i64 t4] : Array Value) 3)
 clear b3
 obtain ⟨s0, s1, s2, s3⟩ := hHeld
 refine hK.out _ _ ⟨(hB.cell (World.block_lt_of_cell? _ _ s0)).trans s0, (hB.cell (World.block_lt_of_cell? _ _ s1)).trans s1, (hB.cell (World.block_lt_of_cell? _ _ s2)).trans s2, (hB.cell (World.block_lt_of_cell? _ _ s3)).trans s3⟩ (fun hHeld => ?_)
 clear hB s0 s1 s2 s3
 clear hK K
 refine norm_ (a' := ?_) ?_ ?_
 rotate_left
 ·show Act.put _ (some 15) _ = _
  simp only [Act.put, List.setIfInBounds_toArray, List.set_cons_zero, List.set_cons_succ, i64_w, i32_w]
  rfl
 refine one_ (i := 11) (N := some 16) #[true, true, true, true, true, true, true, true, true, true, true, true, false] rfl rfl (one_of HT_.out (by kernel_rfl)) (by decide) (fun K hK => ?_)
 refine goes_ Try.func92 (by kernel_rfl) rfl #[.slice (some ⟨w.heap.size + 1 + 1, 0, none⟩) ([t3, t4] : List Int).length ([t3, t4] : List Int).length] (by rfl) rfl rfl (by (try simp only [List.map_toArray, List.map_cons, List.map_nil]); first | done | rfl | (simp only [List.length_drop, List.length_take]; rfl)) ?_
 refine (cmp_Or_int.calls 3 (some ⟨w.heap.size + 1 + 1, 0, none⟩) ([t3, t4] : List Int).length ([t3, t4] : List Int) (orI t3 t4) _ HC2.out (Nat.le_refl _) HO.out).mono ?_
 rintro e w' ⟨rfl, ⟨nd3, rfl⟩⟩
 refine ⟨_, rfl, ?_⟩
 refine hK.out _ _ hHeld (fun hHeld => ?_)
 clear hK K
 refine norm_ (a' := ?_) ?_ ?_
 rotate_left
 ·show Act.put _ (some 16) _ = _
  simp only [Act.put, List.setIfInBounds_toArray, List.set_cons_zero, List.set_cons_succ, i64_w, i32_w]
  rfl
 refine pure_ (i := 12) (N := some 4) (v := ?_) (a' := ?_) #[true, true, true, true, true, true, true, true, true, true, true, true, true] rfl rfl (any_of HT_.out (by kernel_rfl)) (fun _ _ _ h => h) (Or.inl ⟨by rfl, ?_⟩) ?_ ?_
 rotate_left
 ·intro w'
  go_simp
  with_reducible rfl
 rotate_left
 ·simp only [Act.put, List.setIfInBounds_toArray, List.set_cons_zero, List.set_cons_succ, i64_w, i32_w]
  rfl
 refine done_ (done_of HT_.out (by kernel_rfl)) ?_
 try go_wp2
 go_ret
 exact ⟨by rw [HE.out]; rfl, (by
  refine ⟨1 + nd1 + nd2 + nd3, #[Obj.cells #[.int .i64 a0_0, .int .i64 a0_1] 31, Obj.cells #[.int .i64 a1_0, .int .i64 a1_1] 31, Obj.cells #[.int .i64 t3, .int .i64 t4] 3], ?_⟩
  exact grown3 w _ _ _ nd1 nd2 nd3)⟩

end Go.Proofs.Ythaklbjcjoolcaa.P
namespace Go.Proofs.Ythaklbjcjoolcaa.P
open Go.RowKit Go.Proofs.YthaklbjcjoolcaaW.PrintWords Go.Proofs.YthaklbjcjoolcaaW.PrintLast Go.Proofs.YthaklbjcjoolcaaW.PrintMore
set_option linter.unusedVariables false
set_option linter.unusedSimpArgs false
theorem w64i {x : Int} (h0 : -9223372036854775808 ≤ x) (h1 : x ≤ 9223372036854775807) : wrap64 x = x := by unfold wrap64; omega
/-- products of numbers of some size -/
theorem mul_bd {a b m n : Int} (ha : -m ≤ a ∧ a ≤ m) (hb : -n ≤ b ∧ b ≤ n) : -(m * n) ≤ a * b ∧ a * b ≤ m * n := by
  have hm : 0 ≤ m := by omega
  have hn : 0 ≤ n := by omega
  have h1 : (a * b).natAbs ≤ (m * n).natAbs := by
    rw [Int.natAbs_mul, Int.natAbs_mul]
    exact Nat.mul_le_mul (by omega) (by omega)
  have h2 : 0 ≤ m * n := Int.mul_nonneg hm hn
  omega
/-- the double area of a triangle -/
def crs (a b c : S31) : Int := (b.f0 - a.f0) * (c.f1 - a.f1) - (b.f1 - a.f1) * (c.f0 - a.f0)
/-- the sign -/
def sgn (x : Int) : Int := cmpI x 0
theorem crs_bd {a b c : S31} (ha : okPt a = true) (hb : okPt b = true) (hc : okPt c = true) : -134217728 ≤ crs a b c ∧ crs a b c ≤ 134217728 ∧ (-67108864 ≤ (b.f0 - a.f0) * (c.f1 - a.f1) ∧ (b.f0 - a.f0) * (c.f1 - a.f1) ≤ 67108864) ∧ (-67108864 ≤ (b.f1 - a.f1) * (c.f0 - a.f0) ∧ (b.f1 - a.f1) * (c.f0 - a.f0) ≤ 67108864) := by
  rw [okPt_iff] at ha hb hc
  have h1 := mul_bd (a := b.f0 - a.f0) (b := c.f1 - a.f1) (m := 8192) (n := 8192) (by omega) (by omega)
  have h2 := mul_bd (a := b.f1 - a.f1) (b := c.f0 - a.f0) (m := 8192) (n := 8192) (by omega) (by omega)
  unfold crs
  omega
theorem cross_is {a b c : S31} (ha : okPt a = true) (hb : okPt b = true) (hc : okPt c = true) : plane_cross.f a.f0 a.f1 b.f0 b.f1 c.f0 c.f1 = some (crs a b c) := by
  have hbd := crs_bd ha hb hc
  rw [okPt_iff] at ha hb hc
  unfold plane_cross.f
  rw [w64i (x := b.f0 - a.f0) (by omega) (by omega), w64i (x := c.f1 - a.f1) (by omega) (by omega), w64i (x := b.f1 - a.f1) (by omega) (by omega), w64i (x := c.f0 - a.f0) (by omega) (by omega)]
  rw [w64i (x := (b.f0 - a.f0) * (c.f1 - a.f1)) (by omega) (by omega), w64i (x := (b.f1 - a.f1) * (c.f0 - a.f0)) (by omega) (by omega)]
  have e : (b.f0 - a.f0) * (c.f1 - a.f1) - (b.f1 - a.f1) * (c.f0 - a.f0) = crs a b c := rfl
  rw [e, w64i (by omega) (by omega)]
theorem turn_is {a b c : S31} (ha : okPt a = true) (hb : okPt b = true) (hc : okPt c = true) : plane_turn.f a.f0 a.f1 b.f0 b.f1 c.f0 c.f1 = some (sgn (crs a b c)) := by
  unfold plane_turn.f
  rw [cross_is ha hb hc]
  simp only [Option.bind_some, compare_is]
  rfl
theorem sgn_pos {x : Int} : 0 < sgn x ↔ 0 < x := by unfold sgn cmpI; split <;> (try split) <;> omega
theorem sgn_neg {x : Int} : sgn x < 0 ↔ x < 0 := by unfold sgn cmpI; split <;> (try split) <;> omega
theorem sgn_zero {x : Int} : sgn x = 0 ↔ x = 0 := by unfold sgn cmpI; split <;> (try split) <;> omega
theorem sgn_bd (x : Int) : -1 ≤ sgn x ∧ sgn x ≤ 1 := by unfold sgn cmpI; split <;> (try split) <;> omega
end Go.Proofs.Ythaklbjcjoolcaa.P
namespace Go.Proofs
open Go.Shelf
def Try.sortP_ren : Go.Shelf.Ren := ⟨fun | 6 => 74 | 15 => 91 | 14 => 90 | 28 => 104 | 29 => 105 | 20 => 96 | 21 => 97 | 22 => 98 | 23 => 99 | 24 => 100 | 25 => 101 | 26 => 102 | 27 => 103 | 46 => 106 | 47 => 107 | 48 => 108 | 49 => 109 | 50 => 110 | 57 => 111 | n => n, fun | 22 => 22 | 24 => 31 | 25 => 66 | 3 => 3 | 39 => 74 | 0 => 0 | 53 => 101 | 55 => 103 | 4 => 4 | 46 => 94 | 45 => 93 | 50 => 98 | 5 => 5 | 9 => 9 | 66 => 104 | 70 => 108 | 76 => 110 | 77 => 84 | n => n, fun | n => n⟩
theorem Try.sortP : Go.Proofs.SlLaysF0.n6 Try.prog Try.sortP_ren := {
  mixed := by kernel_rfl
  f6 := ⟨Try.f74.name, by decide, Try.func74.trans (congrArg some (by kernel_rfl))⟩
  f14 := ⟨Try.f90.name, by decide, Try.func90.trans (congrArg some (by kernel_rfl))⟩
  f15 := Try.func91.trans (congrArg some (by kernel_rfl))
  f20 := ⟨Try.f96.name, by decide, Try.func96.trans (congrArg some (by kernel_rfl))⟩
  f21 := ⟨Try.f97.name, by decide, Try.func97.trans (congrArg some (by kernel_rfl))⟩
  f22 := ⟨Try.f98.name, by decide, Try.func98.trans (congrArg some (by kernel_rfl))⟩
  f23 := ⟨Try.f99.name, by decide, Try.func99.trans (congrArg some (by kernel_rfl))⟩
  f24 := ⟨Try.f100.name, by decide, Try.func100.trans (congrArg some (by kernel_rfl))⟩
  f25 := ⟨Try.f101.name, by decide, Try.func101.trans (congrArg some (by kernel_rfl))⟩
  f26 := ⟨Try.f102.name, by decide, Try.func102.trans (congrArg some (by kernel_rfl))⟩
  f27 := ⟨Try.f103.name, by decide, Try.func103.trans (congrArg some (by kernel_rfl))⟩
  f28 := Try.func104.trans (congrArg some (by kernel_rfl))
  f29 := Try.func105.trans (congrArg some (by kernel_rfl))
  f46 := ⟨Try.f106.name, by decide, Try.func106.trans (congrArg some (by kernel_rfl))⟩
  f47 := Try.func107.trans (congrArg some (by kernel_rfl))
  f48 := Try.func108.trans (congrArg some (by kernel_rfl))
  f49 := ⟨Try.f109.name, by decide, Try.func109.trans (congrArg some (by kernel_rfl))⟩
  f50 := ⟨Try.f110.name, by decide, Try.func110.trans (congrArg some (by kernel_rfl))⟩
  f57 := ⟨Try.f111.name, by decide, Try.func111.trans (congrArg some (by kernel_rfl))⟩
  t0 := Try.underlying0
  a0 := Try.isAgg0
  z0 := Try.sizeOf0
  v0 := Try.zeroValue0
  t3 := Try.underlying3
  a3 := Try.isAgg3
  z3 := Try.sizeOf3
  v3 := Try.zeroValue3
  t4 := Try.underlying4
  a4 := Try.isAgg4
  z4 := Try.sizeOf4
  v4 := Try.zeroValue4
  t5 := Try.underlying5
  a5 := Try.isAgg5
  z5 := Try.sizeOf5
  v5 := Try.zeroValue5
  t9 := Try.underlying9
  a9 := Try.isAgg9
  z9 := Try.sizeOf9
  v9 := Try.zeroValue9
  t22 := Try.underlying22
  a22 := Try.isAgg22
  z22 := Try.sizeOf22
  v22 := Try.zeroValue22
  t25 := Try.underlying66
  a25 := Try.isAgg66
  z25 := Try.sizeOf66
  v25 := Try.zeroValue66
  t39 := Try.underlying74
  a39 := Try.isAgg74
  z39 := Try.sizeOf74
  v39 := Try.zeroValue74
  t45 := Try.underlying93
  a45 := Try.isAgg93
  z45 := Try.sizeOf93
  v45 := Try.zeroValue93
  t46 := Try.underlying94
  a46 := Try.isAgg94
  z46 := Try.sizeOf94
  v46 := Try.zeroValue94
  t50 := Try.underlying98
  a50 := Try.isAgg98
  z50 := Try.sizeOf98
  v50 := Try.zeroValue98
  t53 := Try.underlying101
  a53 := Try.isAgg101
  z53 := Try.sizeOf101
  v53 := Try.zeroValue101
  t55 := Try.underlying103
  a55 := Try.isAgg103
  z55 := Try.sizeOf103
  v55 := Try.zeroValue103
  t66 := Try.underlying104
  a66 := Try.isAgg104
  z66 := Try.sizeOf104
  v66 := Try.zeroValue104
  t70 := Try.underlying108
  a70 := Try.isAgg108
  z70 := Try.sizeOf108
  v70 := Try.zeroValue108
  t76 := Try.underlying110
  a76 := Try.isAgg110
  z76 := Try.sizeOf110
  v76 := Try.zeroValue110
  t77 := Try.underlying84
  a77 := Try.isAgg84
  z77 := Try.sizeOf84
  v77 := Try.zeroValue84 }
def Try.revP_ren : Go.Shelf.Ren := ⟨fun | 35 => 86 | n => n, fun | 22 => 22 | 23 => 31 | 3 => 3 | 4 => 4 | 0 => 0 | n => n, fun | n => n⟩
theorem Try.revP : Go.Proofs.SlLaysE0.n35 Try.prog Try.revP_ren := {
  mixed := by kernel_rfl
  f35 := ⟨Try.f86.name, by decide, Try.func86.trans (congrArg some (by kernel_rfl))⟩
  t0 := Try.underlying0
  a0 := Try.isAgg0
  z0 := Try.sizeOf0
  v0 := Try.zeroValue0
  t3 := Try.underlying3
  a3 := Try.isAgg3
  z3 := Try.sizeOf3
  v3 := Try.zeroValue3
  t4 := Try.underlying4
  a4 := Try.isAgg4
  z4 := Try.sizeOf4
  v4 := Try.zeroValue4
  t22 := Try.underlying22
  a22 := Try.isAgg22
  z22 := Try.sizeOf22
  v22 := Try.zeroValue22 }
def Try.cloneP_ren : Go.Shelf.Ren := ⟨fun | 41 => 73 | n => n, fun | 22 => 22 | 23 => 31 | 4 => 4 | n => n, fun | n => n⟩
theorem Try.cloneP : Go.Proofs.SlLaysE0.n41 Try.prog Try.cloneP_ren := {
  mixed := by kernel_rfl
  f41 := ⟨Try.f73.name, by decide, Try.func73.trans (congrArg some (by kernel_rfl))⟩
  t4 := Try.underlying4
  a4 := Try.isAgg4
  z4 := Try.sizeOf4
  v4 := Try.zeroValue4
  t22 := Try.underlying22
  a22 := Try.isAgg22
  z22 := Try.sizeOf22
  v22 := Try.zeroValue22 }
end Go.Proofs
namespace Go.Proofs.Ythaklbjcjoolcaa.P
open Go.RowKit Go.Shelf Go.Sort Go.Proofs.YthaklbjcjoolcaaW.PrintWords Go.Proofs.YthaklbjcjoolcaaW.PrintLast Go.Proofs.YthaklbjcjoolcaaW.PrintMore
set_option linter.unusedVariables false
set_option linter.unusedSimpArgs false
instance : Inhabited S31 := ⟨z31⟩
theorem S31.ext' {p q : S31} (h0 : p.f0 = q.f0) (h1 : p.f1 = q.f1) : p = q := by cases p; cases q; simp_all
/-- a point's two cells -/
def encP (p : S31) : List Value := [.int .i64 p.f0, .int .i64 p.f1]
/-- the cells of points, one after the other -/
def fl (xs : List S31) : List Value := xs.flatMap encP
theorem fl_nil : fl [] = [] := rfl
theorem fl_cons (p : S31) (xs : List S31) : fl (p :: xs) = .int .i64 p.f0 :: .int .i64 p.f1 :: fl xs := rfl
theorem fl_append (xs ys : List S31) : fl (xs ++ ys) = fl xs ++ fl ys := by simp [fl]
theorem fl_len (xs : List S31) : (fl xs).length = xs.length * 2 := by
  induction xs with
  | nil => rfl
  | cons p xs ih => rw [fl_cons]; simp [ih]; omega
theorem fl_get (xs : List S31) (k : Nat) (hk : k < xs.length) : (fl xs)[k * 2]? = some (.int .i64 xs[k].f0) ∧ (fl xs)[k * 2 + 1]? = some (.int .i64 xs[k].f1) := by
  induction xs generalizing k with
  | nil => simp at hk
  | cons p xs ih =>
    rw [fl_cons]
    cases k with
    | zero => exact ⟨rfl, rfl⟩
    | succ k =>
      have := ih k (by simpa using hk)
      rw [show (k + 1) * 2 = k * 2 + 1 + 1 by omega]
      simpa using this
theorem fl_one (xs : List S31) (v : Value) (hv : v ∈ fl xs) : v.oneCell' = true := by
  unfold fl at hv
  rw [List.mem_flatMap] at hv
  obtain ⟨p, _, h⟩ := hv
  simp [encP] at h
  rcases h with rfl | rfl <;> rfl
theorem reps_fl {R : S31 → List Value → Prop} (hR : ∀ p cs, R p cs → cs = encP p) : ∀ {xs : List S31} {inner : List Value}, Reps R 2 xs inner → inner = fl xs
  | [], inner, h => by
    have := h.1
    simp at this
    subst this; rfl
  | p :: xs, inner, h => by
    have h0 := hR _ _ (h.2 0 p rfl)
    rw [Nat.zero_mul, List.drop_zero] at h0
    have ht : Reps R 2 xs (inner.drop 2) := by
      refine ⟨by rw [List.length_drop, h.1, List.length_cons]; omega, fun j q hq => ?_⟩
      have := h.2 (j + 1) q (by simpa using hq)
      rw [show (j + 1) * 2 = 2 + j * 2 by omega, ← List.drop_drop] at this
      exact this
    have := reps_fl hR ht
    rw [← List.take_append_drop 2 inner, h0, this]
    rfl
theorem fl_reps {R : S31 → List Value → Prop} (hR : ∀ p, R p (encP p)) (xs : List S31) : Reps R 2 xs (fl xs) := by
  induction xs with
  | nil => exact Reps.none _ _
  | cons p xs ih =>
    refine ⟨by rw [fl_len], fun j q hq => ?_⟩
    cases j with
    | zero =>
      simp at hq; subst hq
      exact hR p
    | succ j =>
      have := ih.2 j q (by simpa using hq)
      rw [fl_cons, show (j + 1) * 2 = j * 2 + 1 + 1 by omega]
      simpa using this
theorem own_of_R31 {w : World} {base : Nat} {ok : Nat → Prop} {v : Value} {xs : List S31} (h : Kd.R k31 31 w base ok v xs) : w.ownsRow base 31 2 v xs.length (fl xs) := by
  obtain ⟨_, inner, ho, hr⟩ := h
  rw [reps_fl (fun p cs hp => k31_openM hp) hr] at ho
  exact ho
theorem R31_of_own {w : World} {base : Nat} {ok : Nat → Prop} {v : Value} {xs : List S31} (ho : w.ownsRow base 31 2 v xs.length (fl xs)) (hok : ∀ k, v.ownBlock = some k → ok k) : Kd.R k31 31 w base ok v xs :=
  ⟨hok, fl xs, ho, fl_reps (fun p => k31_mkM _ _ _ p) xs⟩
theorem R31_ok {w : World} {base : Nat} {ok ok' : Nat → Prop} {v : Value} {xs : List S31} (h : Kd.R k31 31 w base ok v xs) (hok : ∀ k, v.ownBlock = some k → ok' k) : Kd.R k31 31 w base ok' v xs := R31_of_own (own_of_R31 h) hok
theorem flatK_fl (d : Array S31) : flatK encP 2 d = (fl d.toList).toArray := by
  refine ext_get! (by simp [fl_len]) fun t ht => ?_
  have ht' : t < d.size * 2 := by simpa using ht
  rw [get_flatK _ _ _ t ht']
  have hk : t / 2 < d.toList.length := by rw [Array.length_toList]; omega
  obtain ⟨g0, g1⟩ := fl_get d.toList (t / 2) hk
  have hd : d[t / 2]! = d.toList[t / 2] := by rw [getElem!_pos d (t / 2) (by simpa using hk)]; rfl
  rw [hd]
  rw [getElem!_pos _ t (by simp [fl_len]; omega)]
  rw [List.getElem_toArray]
  rcases Nat.mod_two_eq_zero_or_one t with h | h
  · have e : t = t / 2 * 2 := by omega
    have : (fl d.toList)[t]? = some (.int .i64 d.toList[t / 2].f0) := by rw [← g0]; congr 1
    rw [List.getElem?_eq_getElem (by rw [fl_len, Array.length_toList]; exact ht')] at this
    rw [Option.some.inj this, h]
    rfl
  · have e : t = t / 2 * 2 + 1 := by omega
    have : (fl d.toList)[t]? = some (.int .i64 d.toList[t / 2].f1) := by rw [← g1]; congr 1
    rw [List.getElem?_eq_getElem (by rw [fl_len, Array.length_toList]; exact ht')] at this
    rw [Option.some.inj this, h]
    rfl
/-! ### a world in which a row was laid -/
theorem heap_mapBlock_same {w : World} {g : Nat} {f : Array Value → Array Value} {c : Array Value} {e : TypeId} {fr : Nat × Nat} (h : w.heap[g]? = some (.cells c e fr)) : (mapBlock w g f).heap[g]? = some (.cells (f c) e fr) := by
  unfold mapBlock
  simp only [Array.getElem?_modify, if_true, h, Option.map_some, onCells]
theorem heap_mapBlock_other {w : World} {g k : Nat} {f : Array Value → Array Value} (h : g ≠ k) : (mapBlock w g f).heap[k]? = w.heap[k]? := by
  unfold mapBlock
  simp only [Array.getElem?_modify, if_neg h]
theorem size_mapBlock (w : World) (g : Nat) (f : Array Value → Array Value) : (mapBlock w g f).heap.size = w.heap.size := by
  unfold mapBlock
  simp
theorem heap_grow' {w : World} {os : Array Obj} {k : Nat} (h : k < w.heap.size) : (Sort.grow w os).heap[k]? = w.heap[k]? := by
  unfold Sort.grow
  rw [Array.getElem?_append_left h]
theorem sortWorld_block {enc : Value → Value} {w : World} {g off m : Nat} {dk : Array Value} {os : Array Obj} {k : Nat} (hk : k < w.heap.size) (hne : k ≠ g) : (sortWorld enc w g off m dk os).heap[k]? = w.heap[k]? := by
  unfold sortWorld
  rw [heap_grow' (by unfold putRow; rw [size_mapBlock]; exact hk)]
  unfold putRow
  rw [heap_mapBlock_other (fun e => hne e.symm)]
  rfl
theorem sortWorld_row {enc : Value → Value} {w : World} {g off m : Nat} {dk : Array Value} {os : Array Obj} {c : Array Value} {e : TypeId} {fr : Nat × Nat} (h : w.heap[g]? = some (.cells c e fr)) : (sortWorld enc w g off m dk os).heap[g]? = some (.cells (putCells enc off dk c) e fr) := by
  unfold sortWorld
  have h' : (Sort.ahead w m).heap[g]? = some (.cells c e fr) := h
  rw [heap_grow' (by unfold putRow; rw [size_mapBlock]; exact blk_lt h')]
  exact heap_mapBlock_same h'
theorem sortWorld_grown (enc : Value → Value) (w : World) (g off m : Nat) (dk : Array Value) (os : Array Obj) : w.grownBy (sortWorld enc w g off m dk os) (some g) where
  os := rfl
  tape := rfl
  output := rfl
  size := by
    unfold sortWorld
    rw [Sort.size_grow]
    unfold putRow
    rw [size_mapBlock]
    exact Nat.le_add_right _ _
  block k hk hne := sortWorld_block hk (fun e => hne (by rw [e]))
theorem putCells_take (d : Array Value) (c : Array Value) (h : d.size ≤ c.size) : (putCells id 0 d c).toList.take d.size = d.toList := by
  apply List.ext_getElem
  · simp [putCells]; omega
  · intro i h1 h2
    simp at h2
    simp [putCells, h2]
theorem holds_of_row {w : World} {base g n cap size : Nat} {e : TypeId} {F : List Value} (h : w.ownsRow base e size (.slice (some ⟨g, 0, none⟩) n cap) n F) : Holds id w g 0 F.toArray := by
  obtain ⟨hlen, hv⟩ := h
  intro j hj
  have hj' : j < F.length := by simpa using hj
  rcases hv with ⟨hv, _⟩ | ⟨g', cap', cur, hv, hg, hblk, _, _, hcs, htk⟩
  · simp at hv
  · simp only [Value.slice.injEq, Option.some.injEq, Addr.mk.injEq] at hv
    obtain ⟨⟨rfl, _⟩, _, rfl⟩ := hv
    constructor
    · rw [Nat.zero_add, cell_of_row _ _ _ _ _ _ hblk]
      have h1 : (cur.toList.take (n * size))[j]? = F[j]? := by rw [htk]
      rw [List.getElem?_take, if_pos (by omega)] at h1
      rw [← Array.getElem?_toList, h1, List.getElem?_eq_getElem hj']
      simp [hj']
    · exact frozen_of_row _ _ _ _ _ hblk
theorem own_put_fl {w : World} {base g n cap size : Nat} {e : TypeId} {F : List Value} {F' : Array Value} (h : w.ownsRow base e size (.slice (some ⟨g, 0, none⟩) n cap) n F) (hn : F'.size = n * size) (m : Nat) (os : Array Obj) : (sortWorld id w g 0 m F' os).ownsRow base e size (.slice (some ⟨g, 0, none⟩) n cap) n F'.toList := by
  obtain ⟨_, hv⟩ := h
  refine ⟨by simp [hn], ?_⟩
  rcases hv with ⟨hv, _⟩ | ⟨g', cap', cur, hv, hg, hblk, hc1, hc2, hcs, htk⟩
  · simp at hv
  · simp only [Value.slice.injEq, Option.some.injEq, Addr.mk.injEq] at hv
    obtain ⟨⟨rfl, _⟩, _, rfl⟩ := hv
    refine .inr ⟨g, cap, putCells id 0 F' cur, rfl, hg, sortWorld_row hblk, hc1, hc2, by simp [putCells, hcs], ?_⟩
    rw [← hn]
    exact putCells_take F' cur (by rw [hn, hcs]; exact Nat.mul_le_mul_right _ hc1)
/-! ### the sort -/
theorem encP_len (p : S31) : (encP p).length = 2 := rfl
theorem encP_one (p : S31) (v : Value) (hv : v ∈ encP p) : v.oneCell' = true := by
  simp [encP] at hv; rcases hv with rfl | rfl <;> rfl
/-- less by X, and then by Y -/
def ltP (p q : S31) : Bool := decide (p.f0 < q.f0 ∨ p.f0 = q.f0 ∧ p.f1 < q.f1)
theorem ltOf_ord (p q : S31) : ltOf ordP p q = ltP p q := by
  unfold ltOf ordP orI cmpI ltP
  rw [Bool.eq_iff_iff]
  simp only [decide_eq_true_eq]
  split <;> split <;> (try split) <;> (try split) <;> omega
theorem ltP_swo : SWO (ltOf ordP) where
  irrefl x := by rw [ltOf_ord]; unfold ltP; simp
  trans x y z h1 h2 := by rw [ltOf_ord] at *; unfold ltP at *; simp at *; omega
  ntrans x y z h1 h2 := by rw [ltOf_ord] at *; unfold ltP at *; simp at *; omega
/-- sorted by X, and then by Y -/
def sortP (xs : List S31) : List S31 := xs.mergeSort fun x y => !ltP y x
theorem sortP_len (xs : List S31) : (sortP xs).length = xs.length := List.length_mergeSort ..
theorem sort_calls (w : World) (base : Nat) (ok : Nat → Prop) (v : Value) (xs : List S31) (h : Kd.R k31 31 w base ok v xs) (hsz : xs.length < 4611686018427387904) :
    Calls Try.prog 74 #[v, .func (.func 75) #[] #[]] w fun e w' => e = .returned (.tuple #[]) ∧ Kd.R k31 31 w' base ok v (sortP xs) ∧ w.grownBy w' v.ownBlock := by
  have ho := own_of_R31 h
  rcases ho.2 with ⟨rfl, hn⟩ | ⟨g, cap, cur, rfl, hg, hblk, _⟩
  · refine (AnyF.slices_SortFunc_none Try.sortP none 0 _ w).mono ?_
    rintro e w' ⟨he, rfl⟩
    have hx : xs = [] := List.eq_nil_of_length_eq_zero hn
    subst hx
    exact ⟨he, by unfold sortP; rw [List.mergeSort_nil]; exact h, ⟨rfl, rfl, rfl, Nat.le_refl _, fun _ _ _ => rfl⟩⟩
  · have hH : HoldsK encP 2 w g 0 xs.toArray := by
      unfold HoldsK
      rw [flatK_fl]
      exact holds_of_row ho
    have eg : ∀ args w, (callFunc 75 args).run Try.prog w = .ok (.enter 75 args) w := enters_of Try.func75 (by kernel_rfl) rfl
    have hc := AnyQ.slices_SortFunc_total Try.sortP 2 Try.isAgg31 Try.sizeOf31 encP encP_len encP_one ordP ltP_swo 75 #[] g 0 cap xs.toArray w eg (fun m os dk hdk x y => (order_calls x y _).mono fun e w' ⟨he, q, os', hw⟩ => ⟨he, q, os', hw⟩) hH (blk_lt hblk) (by simpa using hsz)
      (fun x y h1 h2 => by rw [ltOf_ord] at h1 h2; unfold ltP at h1 h2; simp at h1 h2; exact S31.ext' (by omega) (by omega))
    rw [show xs.toArray.size = xs.length by simp] at hc
    refine hc.mono ?_
    rintro e w' ⟨he, n, os, rfl⟩
    have e1 : (xs.toArray.toList.mergeSort fun x y => !ltOf ordP y x) = sortP xs := by
      unfold sortP
      simp only [ltOf_ord]
    rw [e1]
    have hF : sortWorldK encP 2 w g 0 n (sortP xs).toArray os = sortWorld id w g 0 n (fl (sortP xs)).toArray os := by
      unfold sortWorldK putRowK sortWorld
      rw [flatK_fl]
    rw [hF]
    have hw := own_put_fl ho (F' := (fl (sortP xs)).toArray) (by simp [fl_len, sortP_len]) n os
    refine ⟨he, R31_of_own (by rw [sortP_len]; exact hw) h.1, sortWorld_grown _ _ _ _ _ _ _⟩
theorem reverse_calls (w : World) (base : Nat) (ok : Nat → Prop) (v : Value) (xs : List S31) (h : Kd.R k31 31 w base ok v xs) (hsz : xs.length ≤ 9223372036854775807) :
    Calls Try.prog 86 #[v] w fun e w' => e = .returned (.tuple #[]) ∧ Kd.R k31 31 w' base ok v xs.reverse ∧ w.grownBy w' v.ownBlock := by
  have ho := own_of_R31 h
  rcases ho.2 with ⟨rfl, hn⟩ | ⟨g, cap, cur, rfl, hg, hblk, _⟩
  · refine (AnyQ.slices_Reverse_empty Try.revP none 0 w).mono ?_
    rintro e w' ⟨he, rfl⟩
    have hx : xs = [] := List.eq_nil_of_length_eq_zero hn
    subst hx
    exact ⟨he, h, ⟨rfl, rfl, rfl, Nat.le_refl _, fun _ _ _ => rfl⟩⟩
  · have hH : HoldsK encP 2 w g 0 xs.toArray := by
      unfold HoldsK
      rw [flatK_fl]
      exact holds_of_row ho
    have hc := AnyQ.slices_Reverse Try.revP 2 Try.isAgg31 Try.sizeOf31 encP encP_len encP_one g 0 cap xs.toArray w hH (by simpa using hsz)
    rw [show xs.toArray.size = xs.length by simp] at hc
    refine hc.mono ?_
    rintro e w' ⟨he, n, rfl⟩
    have hF : putRowK encP 2 (Sort.ahead w n) g 0 xs.toArray.reverse = sortWorld id w g 0 n (fl xs.reverse).toArray #[] := by
      unfold putRowK sortWorld
      rw [flatK_fl, grow_empty]
      simp
    rw [hF]
    have hw := own_put_fl ho (F' := (fl xs.reverse).toArray) (by simp [fl_len]) n #[]
    refine ⟨he, R31_of_own (by rw [List.length_reverse]; exact hw) h.1, sortWorld_grown _ _ _ _ _ _ _⟩
end Go.Proofs.Ythaklbjcjoolcaa.P
namespace Go.Proofs.Ythaklbjcjoolcaa.P
open Go.RowKit Go.Shelf Go.Sort Go.Proofs.YthaklbjcjoolcaaW.PrintWords Go.Proofs.YthaklbjcjoolcaaW.PrintLast Go.Proofs.YthaklbjcjoolcaaW.PrintMore
set_option linter.unusedVariables false
set_option linter.unusedSimpArgs false
theorem clone_calls (A0 : Option Addr) (c0 : Nat) (l0 : List S31) (w : World) (hr0 : Kd.C k31 w A0 l0.length l0) (h1 : 1 ≤ l0.length) (hsz : l0.length * 16 ≤ 140737488355328) :
    Calls Try.prog 73 #[.slice A0 l0.length c0] w fun e w' => ∃ v, e = .returned v ∧ Kd.R k31 31 w' w.heap.size (fun _ => True) v l0 ∧ Below w.heap.size w w' := by
  obtain ⟨i0, hi, hz0, hz1, hz2⟩ := info_parts info31
  obtain ⟨ad, rfl, hx, _⟩ := at_T31 hr0 0 (by omega) (by omega)
  have hsp := World.cell?_spot hx
  obtain ⟨b, off, q⟩ := ad
  have hq : q = none := by
    simp [Addr.add] at hsp
    exact hsp
  subst hq
  refine (AnyE.slices_Clone Try.cloneP i0 (.agg #[.int .i64 0, .int .i64 0]) 2 16 hi hz0 hz1 hz2 rfl (by decide) Try.sizeOf31 b off l0.length c0 (fl l0) w (fl_len l0) (by unfold maxLen; omega) (by omega) (fun j u hu => ?_) (fun u hu => fl_one l0 u hu)).mono ?_
  · have hj : j < l0.length * 2 := by
      have := (List.getElem?_eq_some_iff.1 hu).1
      rwa [fl_len] at this
    obtain ⟨ad', e, hc⟩ := hr0.2.2 (by omega)
    cases e
    have hk : j / 2 < l0.length := by omega
    obtain ⟨c, hcl, hcK, hcc⟩ := hc (j / 2) _ (List.getElem?_eq_getElem hk)
    obtain rfl := k31_open hcK
    obtain ⟨g0, g1⟩ := fl_get l0 (j / 2) hk
    rw [show k31.sz = 2 from rfl] at hcc
    rcases Nat.mod_two_eq_zero_or_one j with h | h
    · rw [show j = j / 2 * 2 by omega, g0] at hu
      have := hcc 0 _ rfl
      rw [Addr.add_lit, show j / 2 * 2 + 0 = j by omega] at this
      rw [this]; exact hu
    · rw [show j = j / 2 * 2 + 1 by omega, g1] at hu
      have := hcc 1 _ rfl
      rw [Addr.add_lit, show j / 2 * 2 + 1 = j by omega] at this
      rw [this]; exact hu
  · rintro e w' ⟨v, he, ho, _, hb⟩
    exact ⟨v, he, R31_of_own ho (fun _ _ => trivial), hb⟩
end Go.Proofs.Ythaklbjcjoolcaa.P
namespace Go.Proofs.Ythaklbjcjoolcaa.P
open Go.RowKit Go.Shelf Go.Sort Go.Proofs.YthaklbjcjoolcaaW.PrintWords Go.Proofs.YthaklbjcjoolcaaW.PrintLast Go.Proofs.YthaklbjcjoolcaaW.PrintMore
set_option linter.unusedVariables false
set_option linter.unusedSimpArgs false
theorem S31.eq_iff (p q : S31) : p = q ↔ p.f0 = q.f0 ∧ p.f1 = q.f1 := ⟨fun h => by rw [h]; exact ⟨rfl, rfl⟩, fun h => S31.ext' h.1 h.2⟩
instance : DecidableEq S31 := fun p q => decidable_of_iff _ (S31.eq_iff p q).symm
/-- the k-th point -/
def pt (xs : List S31) (k : Nat) : S31 := xs.getD k z31
theorem pt_eq (xs : List S31) (k : Nat) (h : k < xs.length) : pt xs k = xs[k] := by unfold pt; rw [List.getD_eq_getElem?_getD, List.getElem?_eq_getElem h, Option.getD_some]
theorem rd_pt (xs : List S31) (k : Nat) : rd_T31 xs (k : Int) = pt xs k := by unfold rd_T31 pt; rw [Int.toNat_natCast]
/-- the first k points, each run of equal ones once -/
def ddL (xs : List S31) : Nat → List S31
  | 0 => []
  | 1 => [pt xs 0]
  | k + 2 => if pt xs (k + 1) = pt xs k then ddL xs (k + 1) else ddL xs (k + 1) ++ [pt xs (k + 1)]
theorem ddL_len (xs : List S31) : ∀ k, (ddL xs k).length ≤ k
  | 0 => by simp [ddL]
  | 1 => by simp [ddL]
  | k + 2 => by
    have := ddL_len xs (k + 1)
    unfold ddL
    split
    · omega
    · rw [List.length_append, List.length_singleton]; omega
theorem ddL_same (xs : List S31) {k : Nat} (h : pt xs (k + 1) = pt xs k) : ddL xs (k + 2) = ddL xs (k + 1) := by rw [ddL, if_pos h]
theorem ddL_new (xs : List S31) {k : Nat} (h : pt xs (k + 1) ≠ pt xs k) : ddL xs (k + 2) = ddL xs (k + 1) ++ [pt xs (k + 1)] := by rw [ddL, if_neg h]
theorem take_pt (xs : List S31) (k : Nat) (h : k < xs.length) : xs.take (k + 1) = xs.take k ++ [pt xs k] := by rw [List.take_succ_eq_append_getElem h, pt_eq xs k h]
theorem eqB (p q : S31) : (p.f0 == q.f0 && p.f1 == q.f1) = decide (p = q) := by
  rw [Bool.eq_iff_iff]
  simp [S31.eq_iff]
theorem pt_tail (xs D : List S31) (m : Nat) (h : D.length ≤ m) (hD : D.length ≤ xs.length) : pt (D ++ xs.drop D.length) m = pt xs m := by
  unfold pt
  rw [List.getD_eq_getElem?_getD, List.getD_eq_getElem?_getD, List.getElem?_append_right h, List.getElem?_drop, show D.length + (m - D.length) = m by omega]
theorem set_tail (xs D : List S31) (p : S31) (h : D.length < xs.length) : (D ++ xs.drop D.length).set D.length p = (D ++ [p]) ++ xs.drop (D ++ [p]).length := by
  rw [List.set_append_right _ _ (Nat.le_refl _), Nat.sub_self, List.drop_eq_getElem_cons h, List.set_cons_zero, List.length_append, List.length_singleton]
  simp
theorem len_tail (xs D : List S31) (h : D.length ≤ xs.length) : (D ++ xs.drop D.length).length = xs.length := by rw [List.length_append, List.length_drop]; omega
/-- a row's cells behind its elements may turn -/
theorem own_behind {base g n cap size : Nat} {e : TypeId} {F : List Value} : ∀ (vs : List Value) (o : Nat) {w : World}, w.ownsRow base e size (.slice (some ⟨g, 0, none⟩) n cap) n F → n * size ≤ o → (w.setCells g o vs).ownsRow base e size (.slice (some ⟨g, 0, none⟩) n cap) n F
  | [], _, _, h, _ => h
  | v :: r, o, w, h, ho => by
    refine own_behind r (o + 1) ?_ (by omega)
    obtain ⟨hl, hv⟩ := h
    refine ⟨hl, ?_⟩
    rcases hv with hv | ⟨g', cap', cur, hv, hg, hblk, hc1, hc2, hcs, htk⟩
    · exact .inl hv
    · simp only [Value.slice.injEq, Option.some.injEq, Addr.mk.injEq] at hv
      obtain ⟨⟨rfl, _⟩, _, rfl⟩ := hv
      refine .inr ⟨g, cap, cur.setIfInBounds o v, rfl, hg, blk_set hblk o v, hc1, hc2, by simp [hcs], ?_⟩
      rw [Array.toList_setIfInBounds, List.take_set_of_le ho]
      exact htk
theorem setCells_grown (g : Nat) : ∀ (vs : List Value) (o : Nat) (w : World), w.grownBy (w.setCells g o vs) (some g)
  | [], _, w => ⟨rfl, rfl, rfl, Nat.le_refl _, fun _ _ _ => rfl⟩
  | v :: r, o, w => by
    have h1 : w.grownBy (w.setCell ⟨g, o, none⟩ v) (some g) := ⟨rfl, rfl, rfl, by simp, fun k _ hk => Below.heap_setCell _ _ _ k (fun e => hk (by rw [e]))⟩
    have h2 := setCells_grown g r (o + 1) (w.setCell ⟨g, o, none⟩ v)
    exact ⟨h2.os.trans h1.os, h2.tape.trans h1.tape, h2.output.trans h1.output, Nat.le_trans h1.size h2.size, fun k hk hne => (h2.block k (Nat.lt_of_lt_of_le hk h1.size) hne).trans (h1.block k hk hne)⟩
theorem grown_drewN {w W : World} {row : Option Nat} (h : w.grownBy W row) (n : Nat) : w.grownBy (W.drewN n) row := ⟨h.os, h.tape, h.output, h.size, h.block⟩
theorem grown_trans {w W W' : World} {row : Option Nat} (h1 : w.grownBy W row) (h2 : W.grownBy W' row) : w.grownBy W' row :=
  ⟨h2.os.trans h1.os, h2.tape.trans h1.tape, h2.output.trans h1.output, Nat.le_trans h1.size h2.size, fun k hk hne => (h2.block k (Nat.lt_of_lt_of_le hk h1.size) hne).trans (h1.block k hk hne)⟩
/-- a point is laid over another -/
theorem put31 {w : World} {base : Nat} {ok : Nat → Prop} {g n cap : Nat} {xs : List S31} (h : Kd.R k31 31 w base ok (.slice (some ⟨g, 0, none⟩) n cap) xs) (k : Nat) (hk : k < xs.length) (p : S31) :
    Kd.R k31 31 ((w.setCell ⟨g, k * 2, none⟩ (.int .i64 p.f0)).setCell ⟨g, k * 2 + 1, none⟩ (.int .i64 p.f1)) base ok (.slice (some ⟨g, 0, none⟩) n cap) (xs.set k p) ∧ w.grownBy ((w.setCell ⟨g, k * 2, none⟩ (.int .i64 p.f0)).setCell ⟨g, k * 2 + 1, none⟩ (.int .i64 p.f1)) (some g) := by
  have hn : n = xs.length := (Kd.R_reads' h).1
  obtain ⟨c, hcl, _, hcc, _⟩ := Kd.R_elem h z31 (k : Int) (by omega) (by omega)
  have hs := Kd.R_seg (j := 0) (seg := [.int .i64 p.f0, .int .i64 p.f1]) (okp := fun _ => False) (x' := p) h (k : Int) (by omega) (by omega) hcl hcc (show 0 + 2 ≤ 2 by omega) (by
    have : c.drop 2 = [] := List.drop_eq_nil_of_le (by rw [hcl]; decide)
    simp only [List.take_zero, List.nil_append, List.length_cons, List.length_nil, Nat.zero_add, this, List.append_nil]
    exact k31_mkM _ _ _ p) (fun _ hf => hf.elim)
  rw [Int.toNat_natCast] at hs
  exact hs
theorem at31 {w : World} {base : Nat} {ok : Nat → Prop} {g n cap : Nat} {xs : List S31} (h : Kd.R k31 31 w base ok (.slice (some ⟨g, 0, none⟩) n cap) xs) (k : Nat) (hk : k < xs.length) :
    w.cell? ⟨g, k * 2, none⟩ = some (.int .i64 (pt xs k).f0) ∧ w.cell? ⟨g, k * 2 + 1, none⟩ = some (.int .i64 (pt xs k).f1) ∧ (∀ o, w.frozen? ⟨g, o, none⟩ = false) := by
  obtain ⟨rfl, hc, hC⟩ := Kd.R_reads' h
  obtain ⟨ad, e, h0, h1⟩ := at_T31 hC (k : Int) (by omega) (by omega)
  cases e
  rw [rd_pt, Int.toNat_natCast] at h0 h1
  simp only [Addr.add_lit, Nat.zero_add] at h0 h1
  obtain ⟨cells, hb⟩ := Kd.R_typed h g (by simp [Value.ownBlock])
  exact ⟨h0, h1, fun o => blk_frozen hb o⟩
/-- the cells of n zero points -/
def zer (n : Nat) : List Value := (Builtin.zeroCells #[.int .i64 0, .int .i64 0] n).toList
theorem zer_len (n : Nat) : (zer n).length = n * 2 := by simp [zer, Builtin.zeroCells]
theorem zer_one (n : Nat) (v : Value) (hv : v ∈ zer n) : v.oneCell' = true := by
  simp [zer, Builtin.zeroCells] at hv
  obtain ⟨i, _, rfl⟩ := hv
  rcases Nat.mod_two_eq_zero_or_one i with h | h <;> rw [h] <;> rfl
theorem clear31 (W : World) (ty : TypeId) (g s n c : Nat) (hn : 0 < n) (hc : ∀ j, j < n * 2 → (W.cell? ⟨g, s + j, none⟩).isSome = true) (hf : ∀ j, j < n * 2 → W.frozen? ⟨g, s + j, none⟩ = false) :
    (Builtin.clear_ #[22] ty #[.slice (some ⟨g, s, none⟩) n c]).run Try.prog W = .ok (.tuple #[]) (W.setCells g s (zer n)) := by
  have hst := run_storeCells_cells (P := Try.prog) g s (zer n) 0 W (by simpa [zer_len] using hc) (by simpa [zer_len] using hf) (fun v hv => zer_one n v hv)
  simp only [Nat.add_zero] at hst
  obtain ⟨m, rfl⟩ : ∃ m, n = m + 1 := ⟨n - 1, by omega⟩
  have hz : ∀ w, (zeroValue 31).run Try.prog w = .ok (.agg #[.int .i64 0, .int .i64 0]) w := fun w => by kernel_rfl
  have hcells : (Value.agg #[.int .i64 0, .int .i64 0]).cells = #[.int .i64 0, .int .i64 0] := rfl
  unfold zer at hst
  simp [Builtin.clear_, run_underlying Try.underlying22, hz, hcells, hst, zer]
attribute [local go_sem high] eqA31
set_option maxHeartbeats 4000000 in
set_option maxRecDepth 100000 in
theorem compact_calls (w : World) (base : Nat) (ok : Nat → Prop) (v : Value) (xs : List S31) (h : Kd.R k31 31 w base ok v xs) (hl1 : 1 ≤ xs.length) (hsz : xs.length ≤ 4096) :
    Calls Try.prog 84 #[v] w fun e w' => ∃ v', e = .returned v' ∧ Kd.R k31 31 w' base ok v' (ddL xs xs.length) ∧ w.grownBy w' v.ownBlock ∧ v'.ownBlock = v.ownBlock := by
  obtain ⟨g, cap, rfl, hg1, hg2, hgc⟩ := Kd.R_form h (by omega)
  have hcap : xs.length ≤ cap := (Kd.R_reads' h).2.1
  have HX := Aside0.mk h
  have HG0 : Aside0 (w.grownBy w (some g)) := ⟨⟨rfl, rfl, rfl, Nat.le_refl _, fun _ _ _ => rfl⟩⟩
  clear h hgc
  by_cases hn1 : xs.length < 2
  · obtain hl : xs.length = 1 := by omega
    have HD : Aside0 (ddL xs xs.length = xs) := ⟨by
      rw [hl]
      match xs, hl with
      | [p], _ => rfl⟩
    have hI : ((xs.length : Nat) : Int) < 2 := by omega
    have HL := Aside0.mk hl
    clear hl
    go_enter Try.func84, Try.ntmps84
    go_wp2
    go_ret
    exact ⟨_, rfl, by rw [HD.out]; exact HX.out, HG0.out, rfl⟩
  · have hI : ¬ ((xs.length : Nat) : Int) < 2 := by omega
    have HT1 : Aside0 (ddL xs 1 = xs.take 1) := ⟨by rw [take_pt xs 0 (by omega)]; rfl⟩
    go_enter Try.func84, Try.ntmps84
    go_wp2
    go_loopw [3] (fun v3 wr => ∃ (k : Nat) (q : Nat), 1 ≤ k ∧ k ≤ xs.length ∧ v3 = .int .i64 k ∧ Aside0 (ddL xs k = xs.take k) ∧ wr = w.drewN q) (fun v3 _ => xs.length - (intOf v3).toNat)
    case atStart => exact ⟨1, 0, by omega, by omega, rfl, HT1, rfl⟩
    case round =>
      obtain ⟨k, q, hk1, hk, rfl, HT, rfl⟩ := hrel
      obtain ⟨j, hj⟩ : ∃ j, k = j + 1 := ⟨k - 1, by omega⟩
      by_cases hlt : k < xs.length
      · obtain ⟨x0, x1, xf⟩ := at31 HX.out j (by omega)
        obtain ⟨y0, y1, _⟩ := at31 HX.out k hlt
        have hltI : ((k : Nat) : Int) < ((xs.length : Nat) : Int) := by omega
        have hjI : ((j : Nat) : Int) < ((xs.length : Nat) : Int) := by omega
        have hsub : IntKind.i64.wrap (((k : Nat) : Int) - 1) = ((j : Nat) : Int) := by rw [IntWalk.i64_in _ (by omega)]; omega
        by_cases he : pt xs k = pt xs j
        · have heB : ((pt xs k).f0 == (pt xs j).f0 && (pt xs k).f1 == (pt xs j).f1) = true := by rw [eqB]; simpa using he
          have HD : Aside0 (ddL xs (k + 1) = xs.take k) := ⟨by rw [← HT.out, hj, ddL_same xs (by rw [← hj]; exact he)]⟩
          have hcs : ¬ cap = k := by omega
          have hkc : ((k : Nat) : Int) ≤ ((cap : Nat) : Int) := by omega
          clear he HT
          generalize pt xs k = py at *
          generalize pt xs j = px at *
          have HJ := Aside0.mk hj
          clear hj
          go_wp2
          go_quiet (fail)
          clear hsub
          go_wp2
          have HR0 : ∀ m : Nat, Aside0 (Kd.R k31 31 (w.drewN m) base ok (.slice (some ⟨g, 0, none⟩) xs.length cap) (xs.take k ++ xs.drop (xs.take k).length)) := fun m => ⟨by
            rw [List.length_take, Nat.min_eq_left hk, List.take_append_drop]; exact Kd.R_drewN HX.out _⟩
          go_loopw [3, 5] (fun v3 v5 wx => ∃ (i : Nat) (D : List S31), 1 ≤ i ∧ k + i ≤ xs.length ∧ v5 = .int .i64 i ∧ v3 = .int .i64 (D.length : Nat) ∧ D.length + 1 ≤ k + i ∧ Aside0 (ddL xs (k + i) = D) ∧ Aside0 (Kd.R k31 31 wx base ok (.slice (some ⟨g, 0, none⟩) xs.length cap) (D ++ xs.drop D.length)) ∧ Aside0 (w.grownBy wx (some g))) (fun _ v5 _ => xs.length - (intOf v5).toNat)
          case atStart => exact ⟨1, xs.take k, by omega, by omega, rfl, by rw [List.length_take, Nat.min_eq_left hk], by rw [List.length_take]; omega, HD, HR0 _, ⟨⟨rfl, rfl, rfl, Nat.le_refl _, fun _ _ _ => rfl⟩⟩⟩
          case round =>
            obtain ⟨i, D, hi1, hi2, rfl, rfl, hDl, HDD, HR, HG⟩ := hrel
            obtain ⟨i', hi'⟩ : ∃ i', i = i' + 1 := ⟨i - 1, by omega⟩
            clear HR0
            have hDx : D.length ≤ xs.length := by omega
            by_cases hlt2 : i < xs.length - k
            · have hcl := len_tail xs D hDx
              obtain ⟨x0, x1, _⟩ := at31 HR.out (k + i) (by rw [hcl]; omega)
              obtain ⟨y0, y1, xf⟩ := at31 HR.out (k + i') (by rw [hcl]; omega)
              rw [pt_tail xs D _ (by omega) hDx, Nat.add_mul] at x0 x1 y0 y1
              have hiI : ((i : Nat) : Int) < ((xs.length - k : Nat) : Int) := by omega
              have hi'I : ((i' : Nat) : Int) < ((xs.length - k : Nat) : Int) := by omega
              have hsub : IntKind.i64.wrap (((i : Nat) : Int) - 1) = ((i' : Nat) : Int) := by rw [IntWalk.i64_in _ (by omega)]; omega
              by_cases he2 : pt xs (k + i) = pt xs (k + i')
              · have heN : (!((pt xs (k + i)).f0 == (pt xs (k + i')).f0) || !((pt xs (k + i)).f1 == (pt xs (k + i')).f1)) = false := by rw [← Bool.not_and, eqB]; simpa using he2
                have heB : ((pt xs (k + i)).f0 == (pt xs (k + i')).f0 && (pt xs (k + i)).f1 == (pt xs (k + i')).f1) = true := by rw [eqB]; simpa using he2
                have HDD' : Aside0 (ddL xs (k + (i + 1)) = D) := ⟨by
                  have h2 := ddL_same xs (k := k + i') (by rw [show k + i' + 1 = k + i by omega]; exact he2)
                  rw [show k + i' + 2 = k + (i + 1) by omega, show k + i' + 1 = k + i by omega] at h2
                  rw [h2]; exact HDD.out⟩
                clear he2
                have HI' := Aside0.mk hi'
                clear hi' hcl
                generalize pt xs (k + i) = p1 at *
                generalize pt xs (k + i') = p2 at *
                go_wp2
                go_quiet (fail)
                clear hsub
                go_wp2
                go_roundw
                case rel => exact ⟨i + 1, D, by omega, by omega, by go_num, rfl, by omega, HDD', ⟨Kd.R_drewN HR.out _⟩, ⟨grown_drewN HG.out _⟩⟩
                case measure => simp [intOf]; omega
              · have heN : (!((pt xs (k + i)).f0 == (pt xs (k + i')).f0) || !((pt xs (k + i)).f1 == (pt xs (k + i')).f1)) = true := by rw [← Bool.not_and, eqB]; simpa using he2
                have heB : ((pt xs (k + i)).f0 == (pt xs (k + i')).f0 && (pt xs (k + i)).f1 == (pt xs (k + i')).f1) = false := by rw [eqB]; simpa using he2
                have HDD' : Aside0 (ddL xs (k + (i + 1)) = D ++ [pt xs (k + i)]) := ⟨by
                  have h2 := ddL_new xs (k := k + i') (by rw [show k + i' + 1 = k + i by omega]; exact he2)
                  rw [show k + i' + 2 = k + (i + 1) by omega, show k + i' + 1 = k + i by omega] at h2
                  rw [h2, HDD.out]⟩
                have HST := Aside0.mk (set_tail xs D (pt xs (k + i)) (by omega))
                obtain ⟨z0, z1, _⟩ := at31 HR.out D.length (by rw [hcl]; omega)
                have hDI : ((D.length : Nat) : Int) < ((xs.length : Nat) : Int) := by omega
                clear he2
                have HI' := Aside0.mk hi'
                clear hi' hcl
                generalize pt xs (k + i) = p1 at *
                generalize pt xs (k + i') = p2 at *
                go_wp2
                go_quiet (fail)
                clear hsub
                go_wp2
                go_roundw
                case rel =>
                  obtain ⟨P1, P2⟩ := put31 (Kd.R_drewN HR.out nq) D.length (by rw [len_tail xs D hDx]; omega) p1
                  rw [HST.out] at P1
                  exact ⟨i + 1, D ++ [p1], by omega, by omega, by go_num, by rw [List.length_append, List.length_singleton]; go_num, by rw [List.length_append, List.length_singleton]; omega, HDD', ⟨P1⟩, ⟨grown_trans (grown_drewN HG.out nq) P2⟩⟩
                case measure => simp [intOf]; omega
            · obtain hin : k + i = xs.length := by omega
              have HDF : Aside0 (ddL xs xs.length = D) := ⟨by rw [← hin]; exact HDD.out⟩
              have hnn : ¬ ((i : Nat) : Int) < ((xs.length - k : Nat) : Int) := by omega
              have hcl := len_tail xs D hDx
              have hclr : Aside0 (∀ ty, (Builtin.clear_ #[22] ty #[.slice (some ⟨g, D.length * 2, none⟩) (xs.length - D.length) (cap - D.length)]).run Try.prog wr = .ok (.tuple #[]) (wr.setCells g (D.length * 2) (zer (xs.length - D.length)))) := ⟨fun ty => by
                refine clear31 wr ty g (D.length * 2) (xs.length - D.length) (cap - D.length) (by omega) (fun j hj => ?_) (fun j hj => ?_)
                · obtain ⟨c0, c1, _⟩ := at31 HR.out (D.length + j / 2) (by rw [hcl]; omega)
                  rcases Nat.mod_two_eq_zero_or_one j with h | h
                  · rw [show D.length * 2 + j = (D.length + j / 2) * 2 by omega, c0]; rfl
                  · rw [show D.length * 2 + j = (D.length + j / 2) * 2 + 1 by omega, c1]; rfl
                · exact (at31 HR.out D.length (by rw [hcl]; omega)).2.2 _⟩
              have HRD : Aside0 (Kd.R k31 31 (wr.setCells g (D.length * 2) (zer (xs.length - D.length))) base ok (.slice (some ⟨g, 0, none⟩) D.length cap) D) := ⟨by
                have h1 := Kd.R_take (m := D.length) HR.out (by rw [hcl]; exact hDx)
                rw [List.take_left'] at h1
                · exact R31_of_own (own_behind _ _ (own_of_R31 h1) (Nat.le_refl _)) h1.1
                · rfl⟩
              have HGD : Aside0 (w.grownBy (wr.setCells g (D.length * 2) (zer (xs.length - D.length))) (some g)) := ⟨grown_trans HG.out (setCells_grown _ _ _ _)⟩
              have hDc : ¬ cap = D.length := by omega
              have hDI : ((D.length : Nat) : Int) ≤ ((cap : Nat) : Int) := by omega
              have hDI2 : ((D.length : Nat) : Int) ≤ ((xs.length : Nat) : Int) := by omega
              clear HR HG HDD
              generalize wr.setCells g (D.length * 2) (zer (xs.length - D.length)) = W2 at *
              go_wp2_with (first | ((with_reducible refine gate_builtin (b := .clear) (xs := #[.tmp 56]) rfl ?_); go_must (refine Kd.event_run (w1 := W2) (v := .tuple #[]) rfl ?hr ?_); (case hr => go_simp; rw [hclr.out]; rfl)))
              go_ret
              exact ⟨_, rfl, by rw [HDF.out]; exact HRD.out, HGD.out, rfl⟩
        · have HT2 : Aside0 (ddL xs (k + 1) = xs.take (k + 1)) := ⟨by rw [take_pt xs k hlt, ← HT.out, hj, ddL_new xs (by rw [← hj]; exact he)]⟩
          have heB : ((pt xs k).f0 == (pt xs j).f0 && (pt xs k).f1 == (pt xs j).f1) = false := by rw [eqB]; simpa using he
          clear he HT
          generalize pt xs k = py at *
          generalize pt xs j = px at *
          have HJ := Aside0.mk hj
          clear hj
          go_wp2
          go_quiet (fail)
          clear hsub
          go_wp2
          go_roundw
          case rel => exact ⟨k + 1, _, by omega, by omega, by go_num, HT2, by first | rfl | (rw [World.drewN_drewN]; done)⟩
          case measure => simp [intOf]; omega
      · obtain rfl : k = xs.length := by omega
        go_wp2
        go_ret
        refine ⟨_, rfl, ?_, ?_, rfl⟩
        · rw [HT.out, List.take_length]; exact Kd.R_drewN HX.out q
        · exact ⟨rfl, rfl, rfl, Nat.le_refl _, fun _ _ _ => rfl⟩
end Go.Proofs.Ythaklbjcjoolcaa.P
namespace Go.Proofs.Ythaklbjcjoolcaa.P
open Go.RowKit Go.Shelf Go.Sort Go.Proofs.YthaklbjcjoolcaaW.PrintWords Go.Proofs.YthaklbjcjoolcaaW.PrintLast Go.Proofs.YthaklbjcjoolcaaW.PrintMore
set_option linter.unusedVariables false
set_option linter.unusedSimpArgs false
/-- how many of the points from which one turns left stay -/
def popN (out : List S31) (p : S31) : Nat → Nat
  | 0 => 0
  | 1 => 1
  | n + 2 => if crs (pt out n) (pt out (n + 1)) p ≤ 0 then popN out p (n + 1) else n + 2
theorem popN_le (out : List S31) (p : S31) : ∀ n, popN out p n ≤ n
  | 0 => by simp [popN]
  | 1 => by simp [popN]
  | n + 2 => by
    have := popN_le out p (n + 1)
    unfold popN
    split <;> omega
def chStep (out : List S31) (p : S31) : List S31 := out.take (popN out p out.length) ++ [p]
/-- the points of a list from which one turns left all along -/
def chainL (l : List S31) : List S31 := l.foldl chStep []
theorem chainL_snoc (l : List S31) (p : S31) : chainL (l ++ [p]) = chStep (chainL l) p := by simp [chainL]
theorem chStep_ok {out : List S31} {p : S31} (ho : allOk out = true) (hp : okPt p = true) : allOk (chStep out p) = true := by
  unfold chStep allOk at *
  rw [List.all_append, List.all_eq_true.2 (fun x hx => List.all_eq_true.1 ho x (List.mem_of_mem_take hx))]
  simp [hp]
theorem chainL_ok (l : List S31) (h : allOk l = true) : allOk (chainL l) = true := by
  have key : ∀ (l out : List S31), allOk l = true → allOk out = true → allOk (l.foldl chStep out) = true := by
    intro l
    induction l with
    | nil => intro out _ h; exact h
    | cons p l ih =>
      intro out h1 h2
      unfold allOk at h1
      rw [List.all_cons, Bool.and_eq_true] at h1
      exact ih _ h1.2 (chStep_ok h2 h1.1)
  exact key l [] h rfl
theorem chainL_len (l : List S31) : (chainL l).length ≤ l.length := by
  have key : ∀ (l out : List S31), (l.foldl chStep out).length ≤ out.length + l.length := by
    intro l
    induction l with
    | nil => intro out; simp
    | cons p l ih =>
      intro out
      have := ih (chStep out p)
      have h2 : (chStep out p).length ≤ out.length + 1 := by
        unfold chStep
        rw [List.length_append, List.length_take, List.length_singleton]; omega
      rw [List.foldl_cons, List.length_cons]; omega
  have := key l []
  simpa [chainL] using this
theorem allOk_pt {l : List S31} (h : allOk l = true) (k : Nat) (hk : k < l.length) : okPt (pt l k) = true := by
  rw [pt_eq l k hk]
  exact List.all_eq_true.1 h _ (List.getElem_mem hk)
theorem allOk_take {l : List S31} (h : allOk l = true) (k : Nat) : allOk (l.take k) = true := List.all_eq_true.2 (fun x hx => List.all_eq_true.1 h x (List.mem_of_mem_take hx))
theorem old_cells {W : World} {base : Nat} {ok : Nat → Prop} {g n co : Nat} {out : List S31} (h : Kd.R k31 31 W base ok (.slice (some ⟨g, 0, none⟩) n co) out) (m : Nat) (o : Obj) (b : Addr) (hb : (some ⟨g, 0, none⟩ : Option Addr) = some b) (j : Nat) (u : Value) (hu : (fl (out.take m))[j]? = some u) : (W.drew.alloc o).cell? (b.add j) = some u := by
  cases hb
  have hu' : (fl out)[j]? = some u := by
    rw [← List.take_append_drop m out, fl_append, List.getElem?_append_left (List.getElem?_eq_some_iff.1 hu).1]
    exact hu
  have hc := (own_of_R31 h).cells (g := g) (by simp [Value.ownBlock]) _ u hu'
  have hlt := World.block_lt_of_cell? W _ hc
  exact ((below_alloc (below_drew (Below.refl W.heap.size W)) o).cell hlt).trans hc
theorem new_cells (W : World) (p : S31) (j : Nat) (u : Value) (hu : (encP p)[j]? = some u) : (W.drew.alloc (Obj.cells #[.int .i64 p.f0, .int .i64 p.f1] 31)).cell? ((⟨W.heap.size, 0, none⟩ : Addr).add j) = some u := by
  have h := heap_alloc_new W.drew (Obj.cells #[.int .i64 p.f0, .int .i64 p.f1] 31)
  rw [Addr.add_lit, Nat.zero_add, blk_cell (g := W.heap.size) (t := 31) (cs := #[.int .i64 p.f0, .int .i64 p.f1]) h]
  rw [← hu]
  simp [encP]
theorem chain_row {w W w4 : World} {o : Obj} {v4 : Value} {m : Nat} {out : List S31} {p : S31} (hown : w4.ownsRow (W.alloc o).drew.heap.size 31 2 v4 (m + 1) (fl (out.take m) ++ encP p)) (hgrow : (W.alloc o).drew.grownBy w4 none) (hm : m ≤ out.length) (hb : Below w.heap.size w W) :
    Kd.R k31 31 w4 w.heap.size (fun _ => True) v4 (out.take m ++ [p]) ∧ Below w.heap.size w w4 := by
  have hl : (out.take m ++ [p]).length = m + 1 := by rw [List.length_append, List.length_take, List.length_singleton]; omega
  have hf : fl (out.take m ++ [p]) = fl (out.take m) ++ encP p := by rw [fl_append]; simp [fl]
  refine ⟨Kd.R_lower (R31_of_own (by rw [hl, hf]; exact hown) (fun _ _ => trivial)) (by have := hb.size; simp [World.drew]; omega), ?_⟩
  have h2 : Below w.heap.size w (W.alloc o).drew := below_drew (below_alloc hb o)
  exact h2.grown hgrow (by have := hb.size; simp [World.drew]; omega) (fun k e => by cases e)
set_option maxHeartbeats 4000000 in
set_option maxRecDepth 100000 in
theorem chain_calls (A0 : Option Addr) (c0 : Nat) (l0 : List S31) (w : World) (hr0 : Kd.C k31 w A0 l0.length l0) (hc0 : l0.length ≤ c0) (hok : allOk l0 = true) (hsz : l0.length ≤ 4096) :
    Calls Try.prog 85 #[.slice A0 l0.length c0] w fun e w' => ∃ v, e = .returned v ∧ Kd.R k31 31 w' w.heap.size (fun _ => True) v (chainL l0) ∧ Below w.heap.size w w' := by
  obtain ⟨i0, hi, hz0, hz1, hz2⟩ := info_parts info31
  have HI0 := Aside0.mk (show Try.prog.info? 31 = some i0 ∧ i0.zero = some (.agg #[.int .i64 0, .int .i64 0]) ∧ i0.size = 2 ∧ i0.bytes = 16 from ⟨hi, hz0, hz1, hz2⟩)
  have HR0 := Aside0.mk hr0
  have HB0 := Aside0.mk (Below.refl w.heap.size w)
  have HOK := Aside0.mk hok
  have HN0 : Aside0 (Kd.R k31 31 w w.heap.size (fun _ => True) (.slice none 0 0) (chainL (l0.take 0))) := ⟨Kd.R_nil _ _ _ _ _⟩
  clear hr0 hok hi hz0 hz1 hz2
  go_enter Try.func85, Try.ntmps85
  go_wp2
  go_loopw [3, 9] (fun v3 v9 wr => ∃ k : Nat, k ≤ l0.length ∧ v9 = .int .i64 k ∧ Aside0 (Kd.R k31 31 wr w.heap.size (fun _ => True) v3 (chainL (l0.take k))) ∧ Aside0 (Below w.heap.size w wr)) (fun _ v9 _ => l0.length - (intOf v9).toNat)
  case atStart => exact ⟨0, by omega, rfl, HN0, HB0⟩
  case round =>
    obtain ⟨k, hk, rfl, HR, HB⟩ := hrel
    clear HN0 HB0
    by_cases hlt : k < l0.length
    · obtain ⟨ad, rfl, hx0, hx1⟩ := at_T31 (Kd.C_below HR0.out HB.out) (k : Int) (by omega) (by omega)
      rw [rd_pt, Int.toNat_natCast] at hx0 hx1
      have hltI : ((k : Nat) : Int) < ((l0.length : Nat) : Int) := by omega
      have HP := Aside0.mk (allOk_pt HOK.out k hlt)
      have HCH := Aside0.mk (show chainL (l0.take (k + 1)) = chStep (chainL (l0.take k)) (pt l0 k) by rw [take_pt l0 k hlt, chainL_snoc])
      have HCO := Aside0.mk (chainL_ok _ (allOk_take HOK.out k))
      have hcl := chainL_len (l0.take k)
      rw [List.length_take] at hcl
      generalize pt l0 k = p at *
      generalize chainL (l0.take k) = out at *
      obtain ⟨Ao, co, rfl⟩ := Kd.R_slice HR.out
      have hol : out.length ≤ 4096 := by omega
      obtain ⟨wo, hwo⟩ : ∃ wo : World, wo = wr := ⟨_, rfl⟩
      subst hwo
      have BX := Aside0.mk (heap_alloc_new wo (Obj.cells #[.int .i64 p.f0, .int .i64 p.f1] 31))
      have HB1 := Aside0.mk (below_alloc HB.out (Obj.cells #[.int .i64 p.f0, .int .i64 p.f1] 31))
      have HR1 := Aside0.mk (Kd.R_alloc HR.out (Obj.cells #[.int .i64 p.f0, .int .i64 p.f1] 31))
      have HBX := Aside0.mk HB.out.size
      clear hcl
      go_wp2
      go_loopw [6] (fun v6 wx => ∃ m : Nat, m ≤ out.length ∧ v6 = .int .i64 m ∧ Aside0 (popN out p m = popN out p out.length) ∧ Aside0 (wx.heap[wo.heap.size]? = some (.cells #[.int .i64 p.f0, .int .i64 p.f1] 31 (0, 0))) ∧ Aside0 (Kd.R k31 31 wx w.heap.size (fun _ => True) (.slice Ao out.length co) out) ∧ Aside0 (Below w.heap.size w wx)) (fun v6 _ => (intOf v6).toNat)
      case atStart => exact ⟨out.length, by omega, rfl, ⟨rfl⟩, BX, HR1, HB1⟩
      case round =>
        obtain ⟨m, hm, rfl, HPN, BX', HR', HB'⟩ := hrel
        clear BX HR1 HB1
        have b0 : wr.cell? ⟨wo.heap.size, 0, none⟩ = some (.int .i64 p.f0) := blk_cell BX'.out 0
        have b1 : wr.cell? ⟨wo.heap.size, 1, none⟩ = some (.int .i64 p.f1) := blk_cell BX'.out 1
        by_cases h2 : 2 ≤ m
        · obtain ⟨i, hmi⟩ : ∃ i, m = i + 2 := ⟨m - 2, by omega⟩
          obtain ⟨j, hji⟩ : ∃ j, j = i + 1 := ⟨_, rfl⟩
          have hAo : ∃ g, Ao = some ⟨g, 0, none⟩ := by
            obtain ⟨g, cap, e, _⟩ := Kd.R_form HR'.out (by omega)
            injection e with e1
            exact ⟨g, e1⟩
          obtain ⟨g, hgA⟩ := hAo
          subst hgA
          obtain ⟨x0, x1, _⟩ := at31 HR'.out i (by omega)
          obtain ⟨y0, y1, _⟩ := at31 HR'.out j (by omega)
          have HT := Aside0.mk (turn_is (allOk_pt HCO.out i (by omega)) (allOk_pt HCO.out j (by omega)) HP.out)
          have HPOP : Aside0 (popN out p m = if crs (pt out i) (pt out j) p ≤ 0 then popN out p j else m) := ⟨by rw [hmi, hji]; rfl⟩
          have hs1 : IntKind.i64.wrap (((m : Nat) : Int) - 2) = ((i : Nat) : Int) := by rw [IntWalk.i64_in _ (by omega)]; omega
          have hs2 : IntKind.i64.wrap (((m : Nat) : Int) - 1) = ((j : Nat) : Int) := by rw [IntWalk.i64_in _ (by omega)]; omega
          have hge : decide ((2 : Int) ≤ ((m : Nat) : Int)) = true := by simp; omega
          have hiI : ((i : Nat) : Int) < ((out.length : Nat) : Int) := by omega
          have hiI1 : ((j : Nat) : Int) < ((out.length : Nat) : Int) := by omega
          have HIJ := Aside0.mk (show m = i + 2 ∧ j = i + 1 from ⟨hmi, hji⟩)
          clear hmi hji
          have HSG := Aside0.mk (@sgn_pos (crs (pt out i) (pt out j) p))
          generalize hcr : crs (pt out i) (pt out j) p = cr at *
          clear hcr
          generalize pt out i = pi at *
          generalize pt out j = pj at *
          by_cases hc : cr ≤ 0
          · have hsg : sgn cr ≤ 0 := by have := HSG.out; omega
            rw [if_pos hc] at HPOP
            have HPN' : Aside0 (popN out p j = popN out p out.length) := ⟨by rw [← HPOP.out]; exact HPN.out⟩
            clear HPN HPOP hc
            generalize sgn cr = sg at *
            go_wp2
            go_still_tail 14, (by kernel_rfl)
            change wpList _ _ _ _ _ wr.drew
            have HRd := Aside0.mk (Kd.R_drew HR'.out)
            have HBd := Aside0.mk (below_drew HB'.out)
            have BXd := Aside0.mk (blk_drew BX'.out)
            generalize wr.drew = w2 at *
            go_wp2_with (first | (go_at_call 61; go_must (refine (plane_turn.calls pi.f0 pi.f1 pj.f0 pj.f1 p.f0 p.f1 _ _ HT.out).mono ?_); rintro e w3 ⟨rfl, hb3⟩; have HR3 := Aside0.mk (Kd.R_below HRd.out hb3); have HB3 := Aside0.mk (below_step HBd.out hb3); have BX3 := Aside0.mk (blk_below BXd.out hb3); clear hb3))
            go_roundw
            case rel => exact ⟨j, by omega, by go_num, HPN', BX3, HR3, HB3⟩
            case measure => simp [intOf]; have := HIJ.out; omega
          · have hsg : ¬ sgn cr ≤ 0 := by have := HSG.out; omega
            rw [if_neg hc] at HPOP
            have HPM : Aside0 (popN out p out.length = m) := ⟨by rw [← HPN.out]; exact HPOP.out⟩
            clear HPN HPOP hc
            generalize sgn cr = sg at *
            go_wp2
            go_still_tail 14, (by kernel_rfl)
            change wpList _ _ _ _ _ wr.drew
            have HRd := Aside0.mk (Kd.R_drew HR'.out)
            have HBd := Aside0.mk (below_drew HB'.out)
            have BXd := Aside0.mk (blk_drew BX'.out)
            generalize wr.drew = w2 at *
            go_wp2_with (first | (go_at_call 61; go_must (refine (plane_turn.calls pi.f0 pi.f1 pj.f0 pj.f1 p.f0 p.f1 _ _ HT.out).mono ?_); rintro e w3 ⟨rfl, hb3⟩; have HR3 := Aside0.mk (Kd.R_below HRd.out hb3); have HB3 := Aside0.mk (below_step HBd.out hb3); have BX3 := Aside0.mk (blk_below BXd.out hb3); clear hb3))
            -- the point is put behind those that stay
            have hmc : ((m : Nat) : Int) ≤ ((co : Nat) : Int) := by have := (Kd.R_reads' HR3.out).2.1; omega
            have c0' : (w3).cell? ⟨wo.heap.size, 0, none⟩ = some (.int .i64 p.f0) := blk_cell BX3.out 0
            have c1' : (w3).cell? ⟨wo.heap.size, 1, none⟩ = some (.int .i64 p.f1) := blk_cell BX3.out 1
            have HST : Aside0 (chainL (l0.take (k + 1)) = out.take m ++ [p]) := ⟨by rw [HCH.out]; unfold chStep; rw [HPM.out]⟩
            have hws : (w3).heap.size < (w3).heap.size + 1 := by omega
            go_region_law (refine step_append_grows rfl (.tmp 37) (.tmp 39) 22 rfl 31 i0 (.agg #[.int .i64 0, .int .i64 0]) 2 16 Try.underlying22 HI0.out.1 HI0.out.2.1 HI0.out.2.2.1 HI0.out.2.2.2 rfl (by decide) (some ⟨g, 0, none⟩) m m (fl (out.take m)) (by simp [Act.eval, Act.put]) (fun h => by cases h) (by rw [fl_len, List.length_take, Nat.min_eq_left hm]) (old_cells HR3.out m _) ⟨(w3).heap.size, 0, none⟩ 1 1 (encP p) (by simp [Act.eval, Act.put]) rfl (new_cells (w3) p) (encP_one p) (by omega) (by unfold maxLen; omega) (by omega) ?_; intro v4 w4 hown hgrow)
            have HR4 := Aside0.mk (chain_row hown hgrow hm HB3.out)
            clear hown hgrow
            rw [← HST.out] at HR4
            go_wp2
            go_roundw
            case rel => exact ⟨k + 1, by omega, by go_num, ⟨HR4.out.1⟩, ⟨HR4.out.2⟩⟩
            case measure => simp [intOf]; omega
        · have HPM : Aside0 (popN out p out.length = m) := ⟨by
            rw [← HPN.out]
            rcases (by omega : m = 0 ∨ m = 1) with e | e
            · rw [e]; rfl
            · rw [e]; rfl⟩
          have hge : decide ((2 : Int) ≤ ((m : Nat) : Int)) = false := by simp; omega
          rcases Ao with _ | Aa
          · have hz : out.length = 0 := by
              rcases (own_of_R31 HR'.out).2 with ⟨_, h⟩ | ⟨g, cap, cur, e, _⟩
              · exact h
              · injection e with e1; cases e1
            obtain rfl : m = 0 := by omega
            go_wp2
            go_quiet (fail)
            go_wp2
            have HRd := Aside0.mk (Kd.R_drewN HR'.out nq)
            have HBd := Aside0.mk (pw_below_drewN HB'.out nq)
            have BXd := Aside0.mk (blk_drewN BX'.out nq)
            clear b0 b1 hge
            generalize wr.drewN nq = w5 at *
            -- the point is put behind those that stay
            have hmc : ((0 : Nat) : Int) ≤ ((co : Nat) : Int) := by have := (Kd.R_reads' HRd.out).2.1; omega
            have c0' : w5.cell? ⟨wo.heap.size, 0, none⟩ = some (.int .i64 p.f0) := blk_cell BXd.out 0
            have c1' : w5.cell? ⟨wo.heap.size, 1, none⟩ = some (.int .i64 p.f1) := blk_cell BXd.out 1
            have HST : Aside0 (chainL (l0.take (k + 1)) = out.take 0 ++ [p]) := ⟨by rw [HCH.out]; unfold chStep; rw [HPM.out]⟩
            have hws : w5.heap.size < w5.heap.size + 1 := by omega
            go_region_law (refine step_append_grows rfl (.tmp 37) (.tmp 39) 22 rfl 31 i0 (.agg #[.int .i64 0, .int .i64 0]) 2 16 Try.underlying22 HI0.out.1 HI0.out.2.1 HI0.out.2.2.1 HI0.out.2.2.2 rfl (by decide) none 0 0 (fl (out.take 0)) (by simp [Act.eval, Act.put]) (fun _ => ⟨rfl, rfl⟩) (by rw [List.take_zero]; rfl) (fun b hb => by cases hb) ⟨w5.heap.size, 0, none⟩ 1 1 (encP p) (by simp [Act.eval, Act.put]) rfl (new_cells w5 p) (encP_one p) (by omega) (by unfold maxLen; omega) (by omega) ?_; intro v4 w4 hown hgrow)
            have HR4 := Aside0.mk (chain_row hown hgrow hm HBd.out)
            clear hown hgrow
            rw [← HST.out] at HR4
            go_wp2
            go_roundw
            case rel => exact ⟨k + 1, by omega, by go_num, ⟨HR4.out.1⟩, ⟨HR4.out.2⟩⟩
            case measure => simp [intOf]; omega
          · have hAo : ∃ g, Aa = ⟨g, 0, none⟩ := by
              rcases (own_of_R31 HR'.out).2 with ⟨e, _⟩ | ⟨g, cap, cur, e, _⟩
              · cases e
              · injection e with e1
                injection e1 with e2
                exact ⟨g, e2⟩
            obtain ⟨g, hgA⟩ := hAo
            subst hgA
            go_wp2
            go_quiet (fail)
            go_wp2
            have HRd := Aside0.mk (Kd.R_drewN HR'.out nq)
            have HBd := Aside0.mk (pw_below_drewN HB'.out nq)
            have BXd := Aside0.mk (blk_drewN BX'.out nq)
            clear b0 b1 hge
            generalize wr.drewN nq = w5 at *
            -- the point is put behind those that stay
            have hmc : ((m : Nat) : Int) ≤ ((co : Nat) : Int) := by have := (Kd.R_reads' HRd.out).2.1; omega
            have c0' : w5.cell? ⟨wo.heap.size, 0, none⟩ = some (.int .i64 p.f0) := blk_cell BXd.out 0
            have c1' : w5.cell? ⟨wo.heap.size, 1, none⟩ = some (.int .i64 p.f1) := blk_cell BXd.out 1
            have HST : Aside0 (chainL (l0.take (k + 1)) = out.take m ++ [p]) := ⟨by rw [HCH.out]; unfold chStep; rw [HPM.out]⟩
            have hws : w5.heap.size < w5.heap.size + 1 := by omega
            go_region_law (refine step_append_grows rfl (.tmp 37) (.tmp 39) 22 rfl 31 i0 (.agg #[.int .i64 0, .int .i64 0]) 2 16 Try.underlying22 HI0.out.1 HI0.out.2.1 HI0.out.2.2.1 HI0.out.2.2.2 rfl (by decide) (some ⟨g, 0, none⟩) m m (fl (out.take m)) (by simp [Act.eval, Act.put]) (fun h => by cases h) (by rw [fl_len, List.length_take, Nat.min_eq_left hm]) (old_cells HRd.out m _) ⟨w5.heap.size, 0, none⟩ 1 1 (encP p) (by simp [Act.eval, Act.put]) rfl (new_cells w5 p) (encP_one p) (by omega) (by unfold maxLen; omega) (by omega) ?_; intro v4 w4 hown hgrow)
            have HR4 := Aside0.mk (chain_row hown hgrow hm HBd.out)
            clear hown hgrow
            rw [← HST.out] at HR4
            go_wp2
            go_roundw
            case rel => exact ⟨k + 1, by omega, by go_num, ⟨HR4.out.1⟩, ⟨HR4.out.2⟩⟩
            case measure => simp [intOf]; omega
    · obtain rfl : k = l0.length := by omega
      go_wp2
      go_ret
      refine ⟨_, rfl, ?_, HB.out⟩
      rw [List.take_length] at HR
      exact HR.out
end Go.Proofs.Ythaklbjcjoolcaa.P
namespace Go.Proofs.Ythaklbjcjoolcaa.P
open Go.RowKit Go.Shelf Go.Sort Go.Proofs.YthaklbjcjoolcaaW.PrintWords Go.Proofs.YthaklbjcjoolcaaW.PrintLast Go.Proofs.YthaklbjcjoolcaaW.PrintMore
set_option linter.unusedVariables false
set_option linter.unusedSimpArgs false
theorem step_append_own {P : Program} {ops : Array Oper} {w : World} {o : Oper} {a : Act} {K : Act → World → Prop} {Q : Exit → Act → World → Prop} {E : Prop} (hg : o.guard = none) (s x : Operand) (t : TypeId)
    (ho : o.op = .call { callee := .builtin .append, args := #[s, x], argTypes := #[t, t] })
    (base : Nat) (e : TypeId) (i : TypeInfo) (z : Value) (size bytes : Nat) (ht : P.underlying t = some (.slice e)) (hi : P.info? e = some i) (hz : i.zero = some z)
    (hsize : i.size = size) (hby : i.bytes = bytes) (hzs : z.cells.size = size) (hsz : 0 < size)
    (v : Value) (n : Nat) (xs : List Value) (hs : a.eval s = v) (hown : w.ownsRow base e size v n xs)
    (ad : Addr) (m c : Nat) (news : List Value) (hx : a.eval x = .slice (some ad) m c) (hl : news.length = m * size) (hnews : ∀ j u, news[j]? = some u → w.cell? (ad.add j) = some u) (h1 : ∀ u ∈ news, u.oneCell' = true)
    (h63 : n + m ≤ maxLen) (hbytes : (n + m) * bytes ≤ 140737488355328) (hbase : base ≤ w.heap.size)
    (h : ∀ v' w', w'.ownsRow base e size v' (n + m) (xs ++ news) → w.grownBy w' v.ownBlock → (v' = .slice none 0 0 ↔ v = .slice none 0 0 ∧ m = 0) → K (a.put o.dst v') w') :
    if Region.wanted o (yielded ops a.tmps) = true then Oper.wp P o a w K Q else E := by
  have hw : Region.wanted o (yielded ops a.tmps) = true := by simp [Region.wanted, hg]
  rw [if_pos hw]
  exact wp_append_own w s x t ho base e i z size bytes ht hi hz hsize hby hzs hsz v n xs hs hown ad m c news hx hl hnews h1 h63 hbytes hbase h
/-- the points in order, each once -/
def sortedS (l : List S31) : List S31 := ddL (sortP l) (sortP l).length
/-- the corners of the hull, as the program finds them -/
def cornersS (l : List S31) : List S31 := if (sortedS l).length < 3 then sortedS l else (chainL (sortedS l)).dropLast ++ (chainL (sortedS l).reverse).dropLast
theorem mem_ddL (xs : List S31) : ∀ k, k ≤ xs.length → ∀ p, p ∈ ddL xs k → p ∈ xs
  | 0, _, p, h => by simp [ddL] at h
  | 1, hk, p, h => by
    simp only [ddL, List.mem_singleton] at h
    rw [h, pt_eq xs 0 (by omega)]; exact List.getElem_mem _
  | k + 2, hk, p, h => by
    unfold ddL at h
    split at h
    · exact mem_ddL xs (k + 1) (by omega) p h
    · rw [List.mem_append, List.mem_singleton] at h
      rcases h with h | h
      · exact mem_ddL xs (k + 1) (by omega) p h
      · rw [h, pt_eq xs (k + 1) (by omega)]; exact List.getElem_mem _
theorem sortedS_ok {l : List S31} (h : allOk l = true) : allOk (sortedS l) = true := List.all_eq_true.2 (fun p hp => List.all_eq_true.1 h p ((List.mergeSort_perm _ _).mem_iff.1 (mem_ddL _ _ (Nat.le_refl _) p hp)))
theorem sortedS_len (l : List S31) : (sortedS l).length ≤ l.length := by
  have := ddL_len (sortP l) (sortP l).length
  rw [sortP_len] at this
  unfold sortedS; rw [sortP_len]; exact this
theorem allOk_rev {l : List S31} (h : allOk l = true) : allOk l.reverse = true := by unfold allOk at *; rw [List.all_reverse]; exact h
theorem chainL_pos {l : List S31} (h : 1 ≤ l.length) : 1 ≤ (chainL l).length := by
  obtain ⟨a, p, rfl⟩ : ∃ a p, l = a ++ [p] := ⟨l.dropLast, l.getLast (by intro e; rw [e] at h; simp at h), (List.dropLast_concat_getLast _).symm⟩
  rw [chainL_snoc]; unfold chStep; simp
/-- the corners, or nothing where it is no set of points -/
def plane_corners.f (l0 : List S31) : Option (List S31) := if 1 ≤ l0.length ∧ l0.length ≤ 4096 ∧ allOk l0 = true then some (cornersS l0) else none
theorem chain_calls_n (A0 : Option Addr) (n c0 : Nat) (l0 : List S31) (w : World) (hn : l0.length = n) (hr0 : Kd.C k31 w A0 l0.length l0) (hc0 : l0.length ≤ c0) (hok : allOk l0 = true) (hsz : l0.length ≤ 4096) :
    Calls Try.prog 85 #[.slice A0 n c0] w fun e w' => ∃ v, e = .returned v ∧ Kd.R k31 31 w' w.heap.size (fun _ => True) v (chainL l0) ∧ Below w.heap.size w w' := by
  subst hn
  exact chain_calls A0 c0 l0 w hr0 hc0 hok hsz
set_option maxHeartbeats 4000000 in
set_option maxRecDepth 100000 in
theorem corners_calls (A0 : Option Addr) (c0 : Nat) (l0 : List S31) (w : World) (hr0 : Kd.C k31 w A0 l0.length l0) (hc0 : l0.length ≤ c0) (hl1 : 1 ≤ l0.length) (hsz : l0.length ≤ 4096) (hok : allOk l0 = true) :
    Calls Try.prog 64 #[.slice A0 l0.length c0] w fun e w' => ∃ v, e = .returned v ∧ Kd.R k31 31 w' w.heap.size (fun _ => True) v (cornersS l0) ∧ Below w.heap.size w w' := by
  obtain ⟨i0, hi, hz0, hz1, hz2⟩ := info_parts info31
  have HI0 := Aside0.mk (show Try.prog.info? 31 = some i0 ∧ i0.zero = some (.agg #[.int .i64 0, .int .i64 0]) ∧ i0.size = 2 ∧ i0.bytes = 16 from ⟨hi, hz0, hz1, hz2⟩)
  have HC1 := Aside0.mk (clone_calls A0 c0 l0 w hr0 hl1 (by omega))
  have HB0 := Aside0.mk (Below.refl w.heap.size w)
  have HSO := Aside0.mk (sortedS_ok hok)
  have hsl := sortedS_len l0
  have HSL := Aside0.mk (sortP_len l0)
  have HDS : Aside0 (ddL (sortP l0) (sortP l0).length = sortedS l0) := ⟨rfl⟩
  have HCS : Aside0 (cornersS l0 = if (sortedS l0).length < 3 then sortedS l0 else (chainL (sortedS l0)).dropLast ++ (chainL (sortedS l0).reverse).dropLast) := ⟨rfl⟩
  clear hr0 hok hi hz0 hz1 hz2
  generalize cornersS l0 = cs at *
  generalize sortedS l0 = so at *
  by_cases h3 : so.length < 3
  · have h3I : ((so.length : Nat) : Int) < 3 := by omega
    rw [if_pos h3] at HCS
    go_enter Try.func64, Try.ntmps64
    go_wp2_with (first | (go_at_call 73; go_must (refine HC1.out.mono ?_); rintro e w1 ⟨v1, rfl, hr1, hb1⟩; have HR1 := Aside0.mk hr1; have HB1 := Aside0.mk hb1; clear hr1 hb1) | (go_at_call 74; go_must (refine (sort_calls w1 w.heap.size _ v1 l0 HR1.out (by omega)).mono ?_); rintro e w2 ⟨rfl, hr2, hg2⟩; have HR2 := Aside0.mk hr2; have HB2 := Aside0.mk (HB1.out.grown hg2 HB1.out.size (fun k e => Kd.R_base HR1.out k e)); clear hr2 hg2) | (go_at_call 84; go_must (refine (compact_calls w2 w.heap.size _ v1 (sortP l0) HR2.out (by rw [HSL.out]; exact hl1) (by rw [HSL.out]; exact hsz)).mono ?_); rintro e w3 ⟨v3, rfl, hr3, hg3, ho3⟩; rw [HDS.out] at hr3; have HR3 := Aside0.mk hr3; have HB3 := Aside0.mk (HB2.out.grown hg3 HB2.out.size (fun k e => Kd.R_base HR2.out k e)); clear hr3 hg3 ho3; obtain ⟨A3, c3, e3⟩ := Kd.R_slice HR3.out; subst e3))
    go_ret
    exact ⟨_, rfl, by rw [HCS.out]; exact HR3.out, HB3.out⟩
  · have h3I : ¬ ((so.length : Nat) : Int) < 3 := by omega
    rw [if_neg h3] at HCS
    go_enter Try.func64, Try.ntmps64
    go_wp2_with (first | (go_at_call 73; go_must (refine HC1.out.mono ?_); rintro e w1 ⟨v1, rfl, hr1, hb1⟩; have HR1 := Aside0.mk hr1; have HB1 := Aside0.mk hb1; clear hr1 hb1) | (go_at_call 74; go_must (refine (sort_calls w1 w.heap.size _ v1 l0 HR1.out (by omega)).mono ?_); rintro e w2 ⟨rfl, hr2, hg2⟩; have HR2 := Aside0.mk hr2; have HB2 := Aside0.mk (HB1.out.grown hg2 HB1.out.size (fun k e => Kd.R_base HR1.out k e)); clear hr2 hg2) | (go_at_call 84; go_must (refine (compact_calls w2 w.heap.size _ v1 (sortP l0) HR2.out (by rw [HSL.out]; exact hl1) (by rw [HSL.out]; exact hsz)).mono ?_); rintro e w3 ⟨v3, rfl, hr3, hg3, ho3⟩; rw [HDS.out] at hr3; have HR3 := Aside0.mk hr3; have HB3 := Aside0.mk (HB2.out.grown hg3 HB2.out.size (fun k e => Kd.R_base HR2.out k e)); clear hr3 hg3 ho3; obtain ⟨A3, c3, e3⟩ := Kd.R_slice HR3.out; subst e3) | (go_at_call 85; refine (chain_calls_n A3 so.length c3 so.reverse w5 (List.length_reverse) (Kd.R_reads' HR5.out).2.2 (by rw [List.length_reverse]; exact (Kd.R_reads' HR5.out).2.1) (allOk_rev HSO.out) (by rw [List.length_reverse]; omega)).mono ?_; rintro e w6 ⟨v6, rfl, hr6, hb6⟩; have HR6 := Aside0.mk hr6; have HR46 := Aside0.mk (Kd.R_below HR45.out hb6); have HB6 := Aside0.mk (below_step HB5.out hb6); clear hr6 hb6) | (go_at_call 85; go_must (refine (chain_calls A3 c3 so w3 (Kd.R_reads' HR3.out).2.2 (Kd.R_reads' HR3.out).2.1 HSO.out (by omega)).mono ?_); rintro e w4 ⟨v4, rfl, hr4, hb4⟩; have HS4 := Aside0.mk hb4.size; have HR4 := Aside0.mk (R31_ok (ok' := fun q => w3.heap.size ≤ q) hr4 (fun q e => Kd.R_base hr4 q e)); have HR34 := Aside0.mk (Kd.R_below HR3.out hb4); have HB4 := Aside0.mk (below_step HB3.out hb4); clear hr4 hb4) | (go_at_call 86; go_must (refine (reverse_calls w4 w.heap.size _ (.slice A3 so.length c3) so HR34.out (by omega)).mono ?_); rintro e w5 ⟨rfl, hr5, hg5⟩; have HR5 := Aside0.mk hr5; have HB5 := Aside0.mk (HB4.out.grown hg5 HB4.out.size (fun k e => Kd.R_base HR34.out k e)); have HR45 := Aside0.mk (Kd.R_grown HR4.out hg5 (fun q hq e => by have := Kd.R_lt HR3.out q e.symm; omega)); clear hr5 hg5))
    have hX1 := chainL_pos (l := so) (by omega)
    have hY1 := chainL_pos (l := so.reverse) (by rw [List.length_reverse]; omega)
    have hX2 := chainL_len so
    have hY2 := chainL_len so.reverse
    rw [List.length_reverse] at hY2
    generalize chainL so = X at *
    generalize chainL so.reverse = Y at *
    obtain ⟨g4, c4, rfl, _, _, _⟩ := Kd.R_form HR46.out (by omega)
    obtain ⟨g6, c6, rfl, _, _, _⟩ := Kd.R_form HR6.out (by omega)
    obtain ⟨x, hx⟩ : ∃ x, X.length = x + 1 := ⟨X.length - 1, by omega⟩
    obtain ⟨y, hy⟩ : ∃ y, Y.length = y + 1 := ⟨Y.length - 1, by omega⟩
    have hc4 := (Kd.R_reads' HR46.out).2.1
    have hc6 := (Kd.R_reads' HR6.out).2.1
    have hs1 : IntKind.i64.wrap (((X.length : Nat) : Int) - 1) = ((x : Nat) : Int) := by rw [IntWalk.i64_in _ (by omega)]; omega
    have hs2 : IntKind.i64.wrap (((Y.length : Nat) : Int) - 1) = ((y : Nat) : Int) := by rw [IntWalk.i64_in _ (by omega)]; omega
    have hxc : ((x : Nat) : Int) ≤ ((c4 : Nat) : Int) := by omega
    have hyc : ((y : Nat) : Int) ≤ ((c6 : Nat) : Int) := by omega
    have lx : (X.take x).length = x := by rw [List.length_take]; omega
    have ly : (Y.take y).length = y := by rw [List.length_take]; omega
    have HOX : Aside0 (w6.drew.ownsRow w.heap.size 31 2 (.slice (some ⟨g4, 0, none⟩) x c4) x (fl (X.take x))) := ⟨by
      have h1 := own_of_R31 (Kd.R_drew (Kd.R_lower (Kd.R_take (m := x) HR46.out (by omega)) HB3.out.size))
      rw [lx] at h1; exact h1⟩
    have HNY : Aside0 (∀ j u, (fl (Y.take y))[j]? = some u → w6.drew.cell? ((⟨g6, 0, none⟩ : Addr).add j) = some u) := ⟨fun j u hu => by
      have hu' : (fl Y)[j]? = some u := by
        rw [← List.take_append_drop y Y, fl_append, List.getElem?_append_left (List.getElem?_eq_some_iff.1 hu).1]
        exact hu
      exact (own_of_R31 HR6.out).cells (g := g6) (by simp [Value.ownBlock]) _ u hu'⟩
    have HXY : Aside0 (cs = X.take x ++ Y.take y) := ⟨by rw [HCS.out, List.dropLast_eq_take, List.dropLast_eq_take, hx, hy, Nat.add_sub_cancel, Nat.add_sub_cancel]⟩
    have HLX := Aside0.mk (show (X.take x ++ Y.take y).length = x + y by rw [List.length_append, lx, ly])
    have HLY := Aside0.mk ly
    have HBS := Aside0.mk (show w.heap.size ≤ w6.drew.heap.size from HB6.out.size)
    have hxy : x + y ≤ 8192 := by omega
    have HG4 := Aside0.mk (fun k (e : (Value.slice (some ⟨g4, 0, none⟩) x c4).ownBlock = some k) => Nat.le_trans HB3.out.size (Kd.R_base HR46.out k e))
    clear hx hy hc4 hc6 lx ly hX1 hX2 hY1 hY2
    go_region_law (refine step_append_own rfl (.tmp 26) (.tmp 31) 22 rfl w.heap.size 31 i0 (.agg #[.int .i64 0, .int .i64 0]) 2 16 Try.underlying22 HI0.out.1 HI0.out.2.1 HI0.out.2.2.1 HI0.out.2.2.2 rfl (by decide) (.slice (some ⟨g4, 0, none⟩) x c4) x (fl (X.take x)) (by simp [Act.eval, Act.put]) HOX.out ⟨g6, 0, none⟩ y c6 (fl (Y.take y)) (by simp [Act.eval, Act.put]) (by rw [fl_len, HLY.out]) HNY.out (fl_one _) (by unfold maxLen; omega) (by omega) HBS.out ?_; intro v7 w7 hown7 hgrow7 _)
    have hR7 : Kd.R k31 31 w7 w.heap.size (fun _ => True) v7 cs := by
      rw [HXY.out]
      exact R31_of_own (by rw [HLX.out, fl_append]; exact hown7) (fun _ _ => trivial)
    have hB7 : Below w.heap.size w w7 := (below_drew HB6.out).grown hgrow7 HB6.out.size HG4.out
    clear hown7 hgrow7
    go_wp2
    go_ret
    exact ⟨_, rfl, hR7, hB7⟩
theorem plane_corners.calls (A0 : Option Addr) (c0 : Nat) (l0 : List S31) (r : List S31) (w : World) (hr0 : Kd.C k31 w A0 l0.length l0) (hc0 : l0.length ≤ c0) (h : plane_corners.f l0 = some r) :
    Calls Try.prog 64 #[.slice A0 l0.length c0] w fun e w' => ∃ v0_ : Value, e = .returned (v0_) ∧ Kd.R k31 31 w' w.heap.size (fun _ => True) v0_ r ∧ Below w.heap.size w w' := by
  unfold plane_corners.f at h
  by_cases hs : 1 ≤ l0.length ∧ l0.length ≤ 4096 ∧ allOk l0 = true
  · rw [if_pos hs] at h
    injection h with h
    subst h
    exact corners_calls A0 c0 l0 w hr0 hc0 hs.1 hs.2.1 hs.2.2
  · rw [if_neg hs] at h
    exact absurd h (by simp)
end Go.Proofs.Ythaklbjcjoolcaa.P
namespace Go.Proofs.Ythaklbjcjoolcaa.P
open Go.RowKit Go.Proofs.YthaklbjcjoolcaaW.PrintWords Go.Proofs.YthaklbjcjoolcaaW.PrintLast Go.Proofs.YthaklbjcjoolcaaW.PrintMore
set_option linter.unusedVariables false
set_option linter.unusedSimpArgs false
/-- on which side of a line a point (x/d, y/d) is -/
def sideW (a b : S31) (x y d : Int) : Int := wrap64 (wrap64 (wrap64 (b.f0 - a.f0) * wrap64 (y - wrap64 (a.f1 * d))) - wrap64 (wrap64 (b.f1 - a.f1) * wrap64 (x - wrap64 (a.f0 * d))))
set_option maxHeartbeats 2000000 in
set_option maxRecDepth 100000 in
theorem side_calls (a b : S31) (x y d : Int) (bx by_ bd : Nat) (W : World) (hx : W.cell? ⟨bx, 0, none⟩ = some (.int .i64 x)) (hy : W.cell? ⟨by_, 0, none⟩ = some (.int .i64 y)) (hd : W.cell? ⟨bd, 0, none⟩ = some (.int .i64 d)) :
    Calls Try.prog 95 #[.agg #[.int .i64 a.f0, .int .i64 a.f1], .agg #[.int .i64 b.f0, .int .i64 b.f1], .pointer (some ⟨by_, 0, none⟩), .pointer (some ⟨bd, 0, none⟩), .pointer (some ⟨bx, 0, none⟩)] W fun e w' => e = .returned (.int .i64 (sideW a b x y d)) ∧ Below W.heap.size W w' := by
  have HE : Aside0 (sideW a b x y d = wrap64 (wrap64 (wrap64 (b.f0 - a.f0) * wrap64 (y - wrap64 (a.f1 * d))) - wrap64 (wrap64 (b.f1 - a.f1) * wrap64 (x - wrap64 (a.f0 * d))))) := ⟨rfl⟩
  generalize sideW a b x y d = r at *
  have HB := Aside0.mk (below_alloc (below_alloc (Below.refl W.heap.size W) (Obj.cells #[.int .i64 a.f0, .int .i64 a.f1] 31)) (Obj.cells #[.int .i64 b.f0, .int .i64 b.f1] 31))
  have b1 := heap_alloc_new W (Obj.cells #[.int .i64 a.f0, .int .i64 a.f1] 31)
  have b2 := heap_alloc_new (W.alloc (Obj.cells #[.int .i64 a.f0, .int .i64 a.f1] 31)) (Obj.cells #[.int .i64 b.f0, .int .i64 b.f1] 31)
  have hx2 := ((HB.out).cell (p := ⟨bx, 0, none⟩) (World.block_lt_of_cell? W _ hx)).trans hx
  have hy2 := ((HB.out).cell (p := ⟨by_, 0, none⟩) (World.block_lt_of_cell? W _ hy)).trans hy
  have hd2 := ((HB.out).cell (p := ⟨bd, 0, none⟩) (World.block_lt_of_cell? W _ hd)).trans hd
  have b3 := blk_alloc b1 (Obj.cells #[.int .i64 b.f0, .int .i64 b.f1] 31)
  rw [World.size_alloc] at b2
  have c0 : ((W.alloc (Obj.cells #[.int .i64 a.f0, .int .i64 a.f1] 31)).alloc (Obj.cells #[.int .i64 b.f0, .int .i64 b.f1] 31)).cell? ⟨W.heap.size, 0, none⟩ = some (.int .i64 a.f0) := blk_cell b3 0
  have c1 : ((W.alloc (Obj.cells #[.int .i64 a.f0, .int .i64 a.f1] 31)).alloc (Obj.cells #[.int .i64 b.f0, .int .i64 b.f1] 31)).cell? ⟨W.heap.size, 1, none⟩ = some (.int .i64 a.f1) := blk_cell b3 1
  have c2 : ((W.alloc (Obj.cells #[.int .i64 a.f0, .int .i64 a.f1] 31)).alloc (Obj.cells #[.int .i64 b.f0, .int .i64 b.f1] 31)).cell? ⟨W.heap.size + 1, 0, none⟩ = some (.int .i64 b.f0) := blk_cell b2 0
  have c3 : ((W.alloc (Obj.cells #[.int .i64 a.f0, .int .i64 a.f1] 31)).alloc (Obj.cells #[.int .i64 b.f0, .int .i64 b.f1] 31)).cell? ⟨W.heap.size + 1, 1, none⟩ = some (.int .i64 b.f1) := blk_cell b2 1
  clear b1 b2 b3 hx hy hd
  go_enter Try.func95, Try.ntmps95
  go_wp2
  go_ret
  exact ⟨by rw [HE.out]; rfl, HB.out⟩
theorem tmod_next (k n : Nat) (hk : k < n) (hn : n ≤ 4096) : Int.tmod (wrap64 ((k : Int) + 1)) (n : Int) = (((k + 1) % n : Nat) : Int) := by
  rw [w64i (by omega) (by omega), Int.tmod_eq_emod_of_nonneg (by omega)]
  push_cast
  rfl
theorem edge_is (l : List S31) (k : Nat) (hk : k < l.length) (hn : l.length ≤ 4096) : plane_edge.f l (k : Int) = some ((pt l k).f0, (pt l k).f1, (pt l ((k + 1) % l.length)).f0, (pt l ((k + 1) % l.length)).f1) := by
  have hm := Nat.mod_lt (k + 1) (show 0 < l.length by omega)
  unfold plane_edge.f
  rw [tmod_next k _ hk hn, if_pos (by omega), if_pos (by omega), if_neg (by omega), if_pos (by omega), if_pos (by omega), rd_pt, rd_pt]
/-- the point (x/d, y/d) is in the hull with some corners -/
def holdsB (l : List S31) (x y d : Int) : Bool :=
  if l.length = 1 then decide (x = wrap64 ((pt l 0).f0 * d) ∧ y = wrap64 ((pt l 0).f1 * d))
  else if l.length = 2 then decide (sideW (pt l 0) (pt l 1) x y d = 0 ∧ (wrap64 (mn (pt l 0).f0 (pt l 1).f0 * d) ≤ x ∧ x ≤ wrap64 (mx (pt l 0).f0 (pt l 1).f0 * d)) ∧ (wrap64 (mn (pt l 0).f1 (pt l 1).f1 * d) ≤ y ∧ y ≤ wrap64 (mx (pt l 0).f1 (pt l 1).f1 * d)))
  else (List.range l.length).all fun i => decide (0 ≤ sideW (pt l i) (pt l ((i + 1) % l.length)) x y d)
def plane_holds.f (l0 : List S31) (a1 a2 a3 : Int) : Option Bool := if l0.length ≤ 4096 then some (holdsB l0 a1 a2 a3) else none
/-- the three numbers' boxes -/
structure HBox (W : World) (b : Nat) (x y d : Int) : Prop where
  bx : W.heap[b]? = some (.cells #[.int .i64 x] 3 (0, 0))
  by_ : W.heap[b + 1]? = some (.cells #[.int .i64 y] 3 (0, 0))
  bd : W.heap[b + 2]? = some (.cells #[.int .i64 d] 3 (0, 0))
theorem HBox.start (w : World) (x y d : Int) : HBox (((w.alloc (Obj.cells #[.int .i64 x] 3)).alloc (Obj.cells #[.int .i64 y] 3)).alloc (Obj.cells #[.int .i64 d] 3)) w.heap.size x y d := by
  have b1 := heap_alloc_new w (Obj.cells #[.int .i64 x] 3)
  have b2 := heap_alloc_new (w.alloc (Obj.cells #[.int .i64 x] 3)) (Obj.cells #[.int .i64 y] 3)
  have b3 := heap_alloc_new ((w.alloc (Obj.cells #[.int .i64 x] 3)).alloc (Obj.cells #[.int .i64 y] 3)) (Obj.cells #[.int .i64 d] 3)
  rw [World.size_alloc] at b2
  rw [World.size_alloc, World.size_alloc] at b3
  exact ⟨blk_alloc (blk_alloc b1 _) _, blk_alloc b2 _, b3⟩
theorem HBox.below {W W' : World} {b : Nat} {x y d : Int} (h : HBox W b x y d) (hb : Below W.heap.size W W') : HBox W' b x y d := ⟨blk_below h.bx hb, blk_below h.by_ hb, blk_below h.bd hb⟩
theorem HBox.side {W : World} {n : Nat} {x y d : Int} (h : HBox W n x y d) (a b : S31) :
    Calls Try.prog 95 #[.agg #[.int .i64 a.f0, .int .i64 a.f1], .agg #[.int .i64 b.f0, .int .i64 b.f1], .pointer (some ⟨n + 1, 0, none⟩), .pointer (some ⟨n + 1 + 1, 0, none⟩), .pointer (some ⟨n, 0, none⟩)] W fun e w' => e = .returned (.int .i64 (sideW a b x y d)) ∧ Below W.heap.size W w' :=
  side_calls a b x y d n (n + 1) (n + 2) W (blk_cell h.bx 0) (blk_cell h.by_ 0) (blk_cell h.bd 0)
attribute [local go_sem] max2_int min2_int max_two min_two
set_option maxHeartbeats 4000000 in
set_option maxRecDepth 100000 in
theorem holds_one (A0 : Option Addr) (c0 : Nat) (l0 : List S31) (x y d : Int) (w : World) (hr0 : Kd.C k31 w A0 l0.length l0) (hl : l0.length = 1) :
    Calls Try.prog 88 #[.slice A0 l0.length c0, .int .i64 x, .int .i64 y, .int .i64 d] w fun e w' => e = .returned (.bool (holdsB l0 x y d)) ∧ Below w.heap.size w w' := by
  have HB := Aside0.mk (below_alloc (below_alloc (below_alloc (Below.refl w.heap.size w) (Obj.cells #[.int .i64 x] 3)) (Obj.cells #[.int .i64 y] 3)) (Obj.cells #[.int .i64 d] 3))
  have HX := HBox.start w x y d
  obtain ⟨ad, rfl, hx0, hx1⟩ := at_T31 (Kd.C_below hr0 HB.out) (0 : Int) (by omega) (by omega)
  have HE : Aside0 (holdsB l0 x y d = decide (x = wrap64 ((pt l0 0).f0 * d) ∧ y = wrap64 ((pt l0 0).f1 * d))) := ⟨by unfold holdsB; rw [if_pos hl]⟩
  rw [show rd_T31 l0 0 = pt l0 0 from rfl] at hx0 hx1
  have bx := blk_cell HX.bx 0
  have bd := blk_cell HX.bd 0
  have hb := blk_cell HX.by_ 0
  have h1B : (((l0.length : Nat) : Int) == 1) = true := by rw [beq_iff_eq]; omega
  have hlI : (0 : Int) < ((l0.length : Nat) : Int) := by omega
  generalize holdsB l0 x y d = r at *
  generalize pt l0 0 = p at *
  clear hr0 hl HX
  simp only [Addr.add_zero', Int.toNat_zero, Nat.zero_mul] at hx0 hx1
  by_cases hq : x = wrap64 (p.f0 * d)
  · have hqB : (x == wrap64 (p.f0 * d)) = true := by rw [beq_iff_eq]; exact hq
    have HR : Aside0 (r = (y == wrap64 (p.f1 * d))) := ⟨by rw [HE.out, Bool.eq_iff_iff]; simp [hq]⟩
    clear hq
    go_enter Try.func88, Try.ntmps88
    go_wp2
    go_quiet (fail)
    go_wp2
    go_ret
    exact ⟨by rw [HR.out]; rfl, pw_below_drewN HB.out _⟩
  · have hqB : (x == wrap64 (p.f0 * d)) = false := by rw [beq_eq_false_iff_ne]; exact hq
    have HR : Aside0 (r = false) := ⟨by rw [HE.out, decide_eq_false_iff_not]; exact fun h => hq h.1⟩
    clear hq
    go_enter Try.func88, Try.ntmps88
    go_wp2
    go_quiet (fail)
    go_wp2
    go_ret
    exact ⟨by rw [HR.out]; rfl, pw_below_drewN HB.out _⟩
end Go.Proofs.Ythaklbjcjoolcaa.P
