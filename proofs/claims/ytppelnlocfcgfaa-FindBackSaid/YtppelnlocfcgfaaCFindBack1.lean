/- Proved here: what functions that the law reaches compute, and plain laws of that. No conditions but those that the theorems state. -/
import Derived.Test.YtppelnlocfcgfaaB1
import Derived.Test.YtppelnlocfcgfaaB3
import Derived.Test.YtppelnlocfcgfaaB2
set_option linter.unusedVariables false
set_option linter.unusedSimpArgs false
namespace Go.Proofs.Ytppelnlocfcgfaa.P
open Go.RowKit Go.Proofs.YtppelnlocfcgfaaW.PrintWords Go.Proofs.YtppelnlocfcgfaaW.PrintLast Go.Proofs.YtppelnlocfcgfaaW.PrintMore
attribute [local go_sem] max2_int min2_int max_two min_two max_three min_three max_four min_four   -- for this text's walks alone
set_option linter.unusedVariables false
set_option linter.unusedSimpArgs false

/-! ### silversidelaw07_mod: function 27 -/
def silversidelaw07_mod.f (a0 : Int) (a1 : Int) : Option (Int) := if (IntKind.u64.wrap (a1)) = 0 then (none) else (some (wrap64 (Int.tmod (IntKind.u64.wrap (a0)) (IntKind.u64.wrap (a1)))))
set_option maxHeartbeats 8000000 in
set_option maxRecDepth 100000 in
theorem silversidelaw07_mod.calls (a0 : Int) (a1 : Int) (r : Int) (w : World) (h : silversidelaw07_mod.f a0 a1 = some r) :
  Calls Try.prog 27 #[.int .i64 a0, .int .i64 a1] w fun e w' => e = .returned (.int .i64 r) ∧ Drawn0 w w' := by
 have H : (if (IntKind.u64.wrap (a1)) = 0 then (none) else (some (wrap64 (Int.tmod (IntKind.u64.wrap (a0)) (IntKind.u64.wrap (a1)))))) = some r := h
 clear h
 by_cases c3 : (IntKind.u64.wrap (a1)) = 0
 ·rw [if_pos c3] at H
  exact absurd H (by simp)
 ·rw [if_neg c3] at H
  have c3b0 : ((IntKind.u64.wrap (a1)) == 0) = false := beq_eq_false_iff_ne.mpr c3
  have c3b1 : ((IntKind.u64.wrap (a1)) != 0) = true := bne_iff_ne.mpr c3
  obtain rfl := Option.some.inj H
  go_enter Try.func27, Try.ntmps27
  go_wp2
  go_ret
  exact ⟨by first | rfl | (simp; done) | (simp [*]; done), by repeat (first | exact Drawn0.refl _ | apply Drawn0.step)⟩

end Go.Proofs.Ytppelnlocfcgfaa.P
namespace Go.Proofs.Ytppelnlocfcgfaa.P
open Go.RowKit Go.Proofs.YtppelnlocfcgfaaW.PrintWords Go.Proofs.YtppelnlocfcgfaaW.PrintLast Go.Proofs.YtppelnlocfcgfaaW.PrintMore
attribute [local go_sem] max2_int min2_int max_two min_two max_three min_three max_four min_four   -- for this text's walks alone
set_option linter.unusedVariables false
set_option linter.unusedSimpArgs false

/-! ### slices_Index_int_int: function 51 -/
def slices_Index_int_int.l0 : Nat → List Int → Int → Int → Int → Option (Int)
 | 0, _, _, _, _ => none
 | k + 1, x0, x1, x7, x8 => if x8 < x7 then (if 0 ≤ x8 then (if x8 < (x0.length : Int) then (if x1 = (rd x0 x8) then (some x8) else (slices_Index_int_int.l0 k x0 x1 x7 (wrap64 (x8 + 1)))) else (none)) else (none)) else (some (-1))
def slices_Index_int_int.f (k : Nat) (l0 : List Int) (a1 : Int) : Option (Int) := slices_Index_int_int.l0 k l0 a1 (l0.length : Int) 0
theorem slices_Index_int_int.mono_l : ∀ k, (∀ y0 y1 y2 y3, LeO (slices_Index_int_int.l0 k y0 y1 y2 y3) (slices_Index_int_int.l0 (k + 1) y0 y1 y2 y3))
 | 0 => fun _ _ _ _ r h => by simp [slices_Index_int_int.l0] at h
 | k + 1 => by
  have ih0 := slices_Index_int_int.mono_l k
  ·intro y0 y1 y2 y3
   unfold slices_Index_int_int.l0
   repeat' first
   | (with_reducible exact ih0 _ _ _ _)
   | (with_reducible exact LeO.refl _)
   | (with_reducible exact LeO.none _)
   | (with_reducible refine LeO.ite ?_ ?_)
   | (with_reducible refine LeO.bind ?_ (fun _ => ?_))
   | exact ih0 _ _ _ _
   | exact LeO.none _
   | refine LeO.ite ?_ ?_
   | refine LeO.bind ?_ (fun _ => ?_)
theorem slices_Index_int_int.mono : ∀ a0 a1 k, LeO (slices_Index_int_int.f k a0 a1) (slices_Index_int_int.f (k + 1) a0 a1) := by
 intro a0 a1 k
 have ih0 := slices_Index_int_int.mono_l k
 unfold slices_Index_int_int.f
 repeat' first
   | (with_reducible exact ih0 _ _ _ _)
   | (with_reducible exact LeO.refl _)
   | (with_reducible exact LeO.none _)
   | (with_reducible refine LeO.ite ?_ ?_)
   | (with_reducible refine LeO.bind ?_ (fun _ => ?_))
   | exact ih0 _ _ _ _
   | exact LeO.none _
   | refine LeO.ite ?_ ?_
   | refine LeO.bind ?_ (fun _ => ?_)
set_option maxHeartbeats 8000000 in
set_option maxRecDepth 100000 in
theorem slices_Index_int_int.calls (k : Nat) (A0 : Option Addr) (c0 : Nat) (l0 : List Int) (a1 : Int) (r : Int) (w : World) (hr0 : Kd.C (Kd.int .i64) w A0 l0.length l0) (hc0 : l0.length ≤ c0) (h : slices_Index_int_int.f k l0 a1 = some r) :
  Calls Try.prog 51 #[.slice A0 l0.length c0, .int .i64 a1] w fun e w' => e = .returned (.int .i64 r) ∧ Drawn0 w w' := by
 have HR0 := Aside0.mk hr0
 have HC0 := Aside0.mk hc0
 clear hr0 hc0
 have H : (slices_Index_int_int.l0 k l0 a1 (l0.length : Int) 0) = some r := h
 clear h
 have H' := Aside0.mk H
 clear H
 go_enter Try.func51, Try.ntmps51
 go_wp2
 go_loopg [8] k (fun kq v8 w' => ∃ (x8_1 : Int), v8 = .int .i64 x8_1 ∧ Aside0 (slices_Index_int_int.l0 kq l0 a1 (l0.length : Int) x8_1 = some r) ∧ Aside0 (kq ≤ k) ∧ Drawn0 w w')
 case atStart => exact ⟨(0), (by first | rfl | (simp; done) | (simp [*]; done)), H', ⟨Nat.le_refl _⟩, by repeat (first | exact Drawn0.refl _ | apply Drawn0.step)⟩
 case round =>
  clear H'
  try clear p2
  obtain ⟨x8_1, rfl, HA, HK1, ⟨m1, rfl⟩⟩ := hrel
  cases gk with
  | zero => exact absurd HA.out (by simp [slices_Index_int_int.l0])
  | succ k1 =>
   have H := HA.out
   clear HA
   simp only [slices_Index_int_int.l0] at H
   by_cases c3 : x8_1 < (l0.length : Int)
   ·rw [if_pos c3] at H
    have c3b0 : decide (x8_1 < (l0.length : Int)) = true := decide_eq_true c3
    clear c3
    by_cases c4 : 0 ≤ x8_1
    ·rw [if_pos c4] at H
     have c4b0 : decide (0 ≤ x8_1) = true := decide_eq_true c4
     clear c4
     by_cases c5 : x8_1 < (l0.length : Int)
     ·rw [if_pos c5] at H
      have c5b0 : decide (x8_1 < (l0.length : Int)) = true := decide_eq_true c5
      clear c5
      by_cases c6 : a1 = (rd l0 x8_1)
      ·rw [if_pos c6] at H
       have c6b0 : (a1 == (rd l0 x8_1)) = true := beq_iff_eq.mpr c6
       have c6b1 : (a1 != (rd l0 x8_1)) = false := bne_eq_false_iff_eq.mpr c6
       clear c6
       obtain rfl := Option.some.inj H
       have p305 : 0 ≤ (x8_1 : Int) := of_decide_eq_true (by first | (with_reducible assumption) | assumption)
       have q305 : x8_1 < (l0.length : Int) := of_decide_eq_true (by first | (with_reducible assumption) | assumption)
       obtain ⟨ad305, e305, hx305_0⟩ := Kd.at_int HR0.out x8_1 p305 q305
       cases e305
       replace p305 := eq_true p305
       replace q305 := eq_true q305
       go_wp2
       go_ret
       exact ⟨by first | rfl | (simp; done) | (simp [*]; done), by repeat (first | exact Drawn0.refl _ | apply Drawn0.step)⟩
      ·rw [if_neg c6] at H
       have c6b0 : (a1 == (rd l0 x8_1)) = false := beq_eq_false_iff_ne.mpr c6
       have c6b1 : (a1 != (rd l0 x8_1)) = true := bne_iff_ne.mpr c6
       have H' := Aside0.mk H
       clear H
       have p305 : 0 ≤ (x8_1 : Int) := of_decide_eq_true (by first | (with_reducible assumption) | assumption)
       have q305 : x8_1 < (l0.length : Int) := of_decide_eq_true (by first | (with_reducible assumption) | assumption)
       obtain ⟨ad305, e305, hx305_0⟩ := Kd.at_int HR0.out x8_1 p305 q305
       cases e305
       replace p305 := eq_true p305
       replace q305 := eq_true q305
       go_wp2
       go_roundg k1
       case measure => have := HK1.out; omega
       case rel => exact ⟨(wrap64 (x8_1 + 1)), (by first | rfl | (simp; done) | (simp [*]; done)), H', ⟨by have := HK1.out; omega⟩, by repeat (first | exact Drawn0.refl _ | apply Drawn0.step)⟩
     ·rw [if_neg c5] at H
      exact absurd H (by simp)
    ·rw [if_neg c4] at H
     exact absurd H (by simp)
   ·rw [if_neg c3] at H
    have c3b0 : decide (x8_1 < (l0.length : Int)) = false := decide_eq_false c3
    clear c3
    obtain rfl := Option.some.inj H
    go_wp2
    go_ret
    exact ⟨by first | rfl | (simp; done) | (simp [*]; done), by repeat (first | exact Drawn0.refl _ | apply Drawn0.step)⟩

end Go.Proofs.Ytppelnlocfcgfaa.P
namespace Go.Proofs.Ytppelnlocfcgfaa.P
open Go.RowKit Go.Proofs.YtppelnlocfcgfaaW.PrintWords Go.Proofs.YtppelnlocfcgfaaW.PrintLast Go.Proofs.YtppelnlocfcgfaaW.PrintMore
attribute [local go_sem] max2_int min2_int max_two min_two max_three min_three max_four min_four   -- for this text's walks alone
set_option linter.unusedVariables false
set_option linter.unusedSimpArgs false

/-! ### find_Index_Shortest: function 35 -/
def find_Index_Shortest.j0 : Nat → Int → Bool → ByteArray → List Int → List Int → Option (Int × Int)
 | 0, _, _, _, _, _ => none
 | k + 1, x1, x16, x307000, x307001, x307002 => if x16 = true then (some (0, 2)) else ((slices_Index_int_int.f k x307001 x1).bind fun t307 => (if 0 ≤ t307 then (if t307 < (x307002.length : Int) then (if (wrap64 (t307 + 1)) < (x307001.length : Int) then (if 0 ≤ (wrap64 (t307 + 1)) then (if (wrap64 (t307 + 1)) < (x307002.length : Int) then (if (wrap64 (x1 + (mx (rd x307002 t307) (rd x307002 (wrap64 (t307 + 1)))))) ≥ (x307000.size : Int) then (some (0, 6)) else (some (wrap64 ((mx (rd x307002 t307) (rd x307002 (wrap64 (t307 + 1)))) + 1), 0))) else (none)) else (none)) else (if (wrap64 (x1 + (rd x307002 t307))) ≥ (x307000.size : Int) then (some (0, 6)) else (some (wrap64 ((rd x307002 t307) + 1), 0)))) else (none)) else (none)))
def find_Index_Shortest.f (k : Nat) (a0_0 : ByteArray) (l0_1 : List Int) (l0_2 : List Int) (a1 : Int) : Option (Int × Int) := if a1 < 0 then (find_Index_Shortest.j0 k a1 true a0_0 l0_1 l0_2) else (find_Index_Shortest.j0 k a1 (decide (a1 ≥ (a0_0.size : Int))) a0_0 l0_1 l0_2)
theorem find_Index_Shortest.mono_l : ∀ k, (∀ y0 y1 y2 y3 y4, LeO (find_Index_Shortest.j0 k y0 y1 y2 y3 y4) (find_Index_Shortest.j0 (k + 1) y0 y1 y2 y3 y4))
 | 0 => fun _ _ _ _ _ r h => by simp [find_Index_Shortest.j0] at h
 | k + 1 => by
  have ih0 := find_Index_Shortest.mono_l k
  ·intro y0 y1 y2 y3 y4
   unfold find_Index_Shortest.j0
   repeat' first
   | (with_reducible exact ih0 _ _ _ _ _)
   | (with_reducible exact slices_Index_int_int.mono _ _ _)
   | (with_reducible exact LeO.refl _)
   | (with_reducible exact LeO.none _)
   | (with_reducible refine LeO.ite ?_ ?_)
   | (with_reducible refine LeO.bind ?_ (fun _ => ?_))
   | exact ih0 _ _ _ _ _
   | exact slices_Index_int_int.mono _ _ _
   | exact LeO.none _
   | refine LeO.ite ?_ ?_
   | refine LeO.bind ?_ (fun _ => ?_)
theorem find_Index_Shortest.mono : ∀ a0 a1 a2 a3 k, LeO (find_Index_Shortest.f k a0 a1 a2 a3) (find_Index_Shortest.f (k + 1) a0 a1 a2 a3) := by
 intro a0 a1 a2 a3 k
 have ih0 := find_Index_Shortest.mono_l k
 unfold find_Index_Shortest.f
 repeat' first
   | (with_reducible exact ih0 _ _ _ _ _)
   | (with_reducible exact slices_Index_int_int.mono _ _ _)
   | (with_reducible exact LeO.refl _)
   | (with_reducible exact LeO.none _)
   | (with_reducible refine LeO.ite ?_ ?_)
   | (with_reducible refine LeO.bind ?_ (fun _ => ?_))
   | exact ih0 _ _ _ _ _
   | exact slices_Index_int_int.mono _ _ _
   | exact LeO.none _
   | refine LeO.ite ?_ ?_
   | refine LeO.bind ?_ (fun _ => ?_)
set_option maxHeartbeats 8000000 in
set_option maxRecDepth 100000 in
theorem find_Index_Shortest.calls (k : Nat) (a0_0 : ByteArray) (A0_1 : Option Addr) (c0_1 : Nat) (l0_1 : List Int) (A0_2 : Option Addr) (c0_2 : Nat) (l0_2 : List Int) (a1 : Int) (r1 : Int) (r2 : Int) (w : World) (hr0_1 : Kd.C (Kd.int .i64) w A0_1 l0_1.length l0_1) (hc0_1 : l0_1.length ≤ c0_1) (hr0_2 : Kd.C (Kd.int .i64) w A0_2 l0_2.length l0_2) (hc0_2 : l0_2.length ≤ c0_2) (h : find_Index_Shortest.f k a0_0 l0_1 l0_2 a1 = some (r1, r2)) :
  Calls Try.prog 35 #[.agg #[.string a0_0, .slice A0_1 l0_1.length c0_1, .slice A0_2 l0_2.length c0_2], .int .i64 a1] w fun e w' => e = .returned (.tuple #[.int .i64 r1, .int .i64 r2]) ∧ Below w.heap.size w w' := by
 have hu24 := Try.underlying24
 have HR0_1 := Aside0.mk hr0_1
 have HC0_1 := Aside0.mk hc0_1
 clear hr0_1 hc0_1
 have HR0_2 := Aside0.mk hr0_2
 have HC0_2 := Aside0.mk hc0_2
 clear hr0_2 hc0_2
 have HB := Aside0.mk (Below.refl w.heap.size w)
 have H : (if a1 < 0 then (find_Index_Shortest.j0 k a1 true a0_0 l0_1 l0_2) else (find_Index_Shortest.j0 k a1 (decide (a1 ≥ (a0_0.size : Int))) a0_0 l0_1 l0_2)) = some (r1, r2) := h
 clear h
 have HC3 := Aside0.mk H
 clear H
 go_enter Try.func35, Try.ntmps35
 go_upto_region 1 with (first | ((with_reducible refine gate_dst (N := 2) rfl ?_); (try (refine gate_guard (by rfl) ?_; dsimp only)); refine box_event ?hg (N := 2) ?hd (cs := #[.string a0_0, .slice A0_1 l0_1.length c0_1, .slice A0_2 l0_2.length c0_2]) (t := 24) ?hr ?_; (case hd => rfl); (case hg => rfl); (case hr => first | (go_simp; done) | (go_simp; rfl)); intro gb306 hg w4 hbox hb; have n0_ := Aside0.mk (below_step (by repeat (first | (with_reducible first | exact HB.out | apply below_alloc | apply pw_below_drewN | apply below_drew1) | exact HB.out)) hb); have n1_ := Aside0.mk (hbox); have n2_ := Aside0.mk ((by rw [hg]; exact (below_size (by repeat (first | (with_reducible first | exact HB.out | apply below_alloc | apply pw_below_drewN | apply below_drew1) | exact HB.out))) : w.heap.size ≤ gb306)); have n3_ := Aside0.mk ((by rw [hg]; exact (below_size (by repeat (first | (with_reducible first | exact HB.out | apply below_alloc | apply pw_below_drewN | apply below_drew1) | exact HB.out))) : w.heap.size ≤ gb306)); clear HB; have HB := n0_; have BK306 := n1_; have GW306 := n2_; have GE306 := n3_; clear n0_ n1_ n2_ n3_; clear hb hbox hg))
 (try simp only [Act.put, List.setIfInBounds_toArray, List.set_cons_zero, List.set_cons_succ])
 go_cut [16] (fun v16 wc => ∃ (kq : Nat) (x16_2 : Bool), v16 = .bool x16_2 ∧ Aside0 (find_Index_Shortest.j0 kq a1 x16_2 a0_0 l0_1 l0_2 = some (r1, r2)) ∧ Aside0 (kq ≤ k) ∧ Aside0 (wc.heap[gb306]? = some (.cells #[.string a0_0, (.slice A0_1 l0_1.length c0_1), (.slice A0_2 l0_2.length c0_2)] 24 (0, 0))) ∧ Aside0 (Below w.heap.size w wc))
 case first =>
  have H := HC3.out
  clear HC3
  by_cases c5 : a1 < 0
  ·rw [if_pos c5] at H
   have c5b0 : decide (a1 < 0) = true := decide_eq_true c5
   clear c5
   (first | rw [c5b0] | (simp only [i64_w, i32_w]; rw [c5b0]) | skip)
   have H' := Aside0.mk H
   clear H
   go_wp2
   go_meet
   case rel => exact ⟨_, (true), (by first | rfl | (simp; done) | (simp [*]; done)), H', ⟨by first | omega | exact Nat.le_refl _⟩, ⟨by (with_reducible repeat (first | refine blk_drewN ?_ _ | refine blk_drew ?_ | refine blk_alloc ?_ _)); exact BK306.out⟩, ⟨by repeat (first | (with_reducible first | exact HB.out | apply below_alloc | apply pw_below_drewN | apply below_drew1 | refine below_set ?_ GE306.out) | exact HB.out)⟩⟩
  ·rw [if_neg c5] at H
   have c5b0 : decide (a1 < 0) = false := decide_eq_false c5
   clear c5
   (first | rw [c5b0] | (simp only [i64_w, i32_w]; rw [c5b0]) | skip)
   have H' := Aside0.mk H
   clear H
   have hcz6_0 : w4.cell? ⟨gb306, 0, none⟩ = some (.string a0_0) := (blk_cell BK306.out 0).trans rfl
   have hcz6_1 : w4.cell? ⟨gb306, 1, none⟩ = some (.slice A0_1 l0_1.length c0_1) := (blk_cell BK306.out 1).trans rfl
   have hcz6_2 : w4.cell? ⟨gb306, 2, none⟩ = some (.slice A0_2 l0_2.length c0_2) := (blk_cell BK306.out 2).trans rfl
   have hfz6_0 := blk_frozen BK306.out 0
   have hfz6_1 := blk_frozen BK306.out 1
   have hfz6_2 := blk_frozen BK306.out 2
   go_wp2
   go_meet
   case rel => exact ⟨_, (decide (a1 ≥ (a0_0.size : Int))), (by first | rfl | (simp; done) | (simp [*]; done)), H', ⟨by first | omega | exact Nat.le_refl _⟩, ⟨by (with_reducible repeat (first | refine blk_drewN ?_ _ | refine blk_drew ?_ | refine blk_alloc ?_ _)); exact BK306.out⟩, ⟨by repeat (first | (with_reducible first | exact HB.out | apply below_alloc | apply pw_below_drewN | apply below_drew1 | refine below_set ?_ GE306.out) | exact HB.out)⟩⟩
 case rest =>
  clear HC3
  try clear p2
  try clear c3
  try clear c5
  try clear c5b0
  try clear hcz6_0
  try clear hcz6_1
  try clear hcz6_2
  try clear hfz6_0
  try clear hfz6_1
  try clear hfz6_2
  obtain ⟨kq, x16_2, rfl, HA, HJ2, BK306, HB⟩ := hcut
  cases kq with
  | zero => exact absurd HA.out (by simp [find_Index_Shortest.j0])
  | succ kj2 =>
   have H := HA.out
   clear HA
   simp only [find_Index_Shortest.j0] at H
   by_cases c7 : x16_2 = true
   ·subst c7
    have H1 : (some (0, 2)) = some (r1, r2) := by rw [if_pos rfl] at H; exact H
    clear H
    have H := H1
    clear H1
    simp only [Option.some.injEq, Prod.mk.injEq] at H
    obtain ⟨rfl, rfl⟩ := H
    go_wp2
    go_ret2
    exact ⟨by first | rfl | (simp [errW_none, errW_some] <;> rfl) | (simp [*, errW_none, errW_some] <;> rfl), by repeat (first | (with_reducible first | exact HB.out | apply below_alloc | apply pw_below_drewN | apply below_drew1 | refine below_set ?_ GE306.out) | exact HB.out)⟩
   ·replace c7 := Bool.eq_false_iff.mpr c7
    subst c7
    have H1 : ((slices_Index_int_int.f kj2 l0_1 a1).bind fun t307 => (if 0 ≤ t307 then (if t307 < (l0_2.length : Int) then (if (wrap64 (t307 + 1)) < (l0_1.length : Int) then (if 0 ≤ (wrap64 (t307 + 1)) then (if (wrap64 (t307 + 1)) < (l0_2.length : Int) then (if (wrap64 (a1 + (mx (rd l0_2 t307) (rd l0_2 (wrap64 (t307 + 1)))))) ≥ (a0_0.size : Int) then (some (0, 6)) else (some (wrap64 ((mx (rd l0_2 t307) (rd l0_2 (wrap64 (t307 + 1)))) + 1), 0))) else (none)) else (none)) else (if (wrap64 (a1 + (rd l0_2 t307))) ≥ (a0_0.size : Int) then (some (0, 6)) else (some (wrap64 ((rd l0_2 t307) + 1), 0)))) else (none)) else (none))) = some (r1, r2) := by rw [if_neg (show ¬ (false = true) by decide)] at H; exact H
    clear H
    have H := H1
    clear H1
    replace H := Option.bind_eq_some_iff.mp H
    obtain ⟨t307, A80, H⟩ := H
    replace H : (if 0 ≤ t307 then (if t307 < (l0_2.length : Int) then (if (wrap64 (t307 + 1)) < (l0_1.length : Int) then (if 0 ≤ (wrap64 (t307 + 1)) then (if (wrap64 (t307 + 1)) < (l0_2.length : Int) then (if (wrap64 (a1 + (mx (rd l0_2 t307) (rd l0_2 (wrap64 (t307 + 1)))))) ≥ (a0_0.size : Int) then (some (0, 6)) else (some (wrap64 ((mx (rd l0_2 t307) (rd l0_2 (wrap64 (t307 + 1)))) + 1), 0))) else (none)) else (none)) else (if (wrap64 (a1 + (rd l0_2 t307))) ≥ (a0_0.size : Int) then (some (0, 6)) else (some (wrap64 ((rd l0_2 t307) + 1), 0)))) else (none)) else (none)) = some (r1, r2) := H
    have A8 := Aside0.mk A80
    clear A80
    by_cases c9 : 0 ≤ t307
    ·rw [if_pos c9] at H
     have c9b0 : decide (0 ≤ t307) = true := decide_eq_true c9
     clear c9
     by_cases c10 : t307 < (l0_2.length : Int)
     ·rw [if_pos c10] at H
      have c10b0 : decide (t307 < (l0_2.length : Int)) = true := decide_eq_true c10
      clear c10
      by_cases c11 : (wrap64 (t307 + 1)) < (l0_1.length : Int)
      ·rw [if_pos c11] at H
       have c11b0 : decide ((wrap64 (t307 + 1)) < (l0_1.length : Int)) = true := decide_eq_true c11
       clear c11
       obtain ⟨ji12, hji12⟩ : ∃ j_ : Int, (wrap64 (t307 + 1)) = j_ := ⟨_, rfl⟩
       replace H : (if 0 ≤ (ji12) then (if (ji12) < (l0_2.length : Int) then (if (wrap64 (a1 + (mx (rd l0_2 t307) (rd l0_2 (ji12))))) ≥ (a0_0.size : Int) then (some (0, 6)) else (some (wrap64 ((mx (rd l0_2 t307) (rd l0_2 (ji12))) + 1), 0))) else (none)) else (none)) = some (r1, r2) := by first | (rw [hji12] at H; exact H) | (simp only [hji12] at H ⊢; exact H)
       (try rw [hji12] at c11b0)
       (try rw [hji12] at A8)
       have hji12w : (IntKind.i64.wrap (t307 + 1)) = ji12 := (i64_w _).trans hji12
       by_cases c13 : 0 ≤ (ji12)
       ·rw [if_pos c13] at H
        have c13b0 : decide (0 ≤ (ji12)) = true := decide_eq_true c13
        clear c13
        by_cases c14 : (ji12) < (l0_2.length : Int)
        ·rw [if_pos c14] at H
         have c14b0 : decide ((ji12) < (l0_2.length : Int)) = true := decide_eq_true c14
         clear c14
         obtain ⟨ji15, hji15⟩ : ∃ j_ : Int, (mx (rd l0_2 t307) (rd l0_2 (ji12))) = j_ := ⟨_, rfl⟩
         replace H : (if (wrap64 (a1 + (ji15))) ≥ (a0_0.size : Int) then (some (0, 6)) else (some (wrap64 ((ji15) + 1), 0))) = some (r1, r2) := by first | (rw [hji15] at H; exact H) | (simp only [hji15] at H ⊢; exact H)
         (try rw [hji15] at A8)
         have hji15_ : (if (rd l0_2 t307) < (rd l0_2 (ji12)) then (rd l0_2 (ji12)) else (rd l0_2 t307)) = ji15 := hji15
         by_cases c16 : (wrap64 (a1 + (ji15))) ≥ (a0_0.size : Int)
         ·rw [if_pos c16] at H
          have c16b0 : decide ((a0_0.size : Int) ≤ (wrap64 (a1 + (ji15)))) = true := decide_eq_true c16
          clear c16
          simp only [Option.some.injEq, Prod.mk.injEq] at H
          obtain ⟨rfl, rfl⟩ := H
          have hcz17_0 : wc.cell? ⟨gb306, 0, none⟩ = some (.string a0_0) := (blk_cell BK306.out 0).trans rfl
          have hcz17_1 : wc.cell? ⟨gb306, 1, none⟩ = some (.slice A0_1 l0_1.length c0_1) := (blk_cell BK306.out 1).trans rfl
          have hcz17_2 : wc.cell? ⟨gb306, 2, none⟩ = some (.slice A0_2 l0_2.length c0_2) := (blk_cell BK306.out 2).trans rfl
          have hfz17_0 := blk_frozen BK306.out 0
          have hfz17_1 := blk_frozen BK306.out 1
          have hfz17_2 := blk_frozen BK306.out 2
          go_wp2_with (first | ((with_reducible refine gate_callee (f := 51) rfl ?_); refine goesL_ (some 20) rfl rfl Try.func51 (by kernel_rfl) rfl #[.slice A0_1 l0_1.length c0_1, .int .i64 a1] rfl (by (try simp only [List.map_toArray, List.map_cons, List.map_nil]); first | done | rfl | (simp only [List.length_drop, List.length_take]; rfl)) ?_; (with_reducible refine (slices_Index_int_int.calls kj2 _ _ l0_1 a1 t307 _ ?side1 ?side2 A8.out).mono ?_); (case side1 => repeat (first | exact (Kd.C_below HR0_1.out HB.out) | (with_reducible refine Kd.C_alloc ?_ _) | (with_reducible refine Kd.C_drewN ?_ _) | (with_reducible refine Kd.C_drew ?_))); (case side2 => exact HC0_1.out); rintro e w' ⟨rfl, ⟨nd, rfl⟩⟩; refine ⟨_, rfl, ?_⟩; have p308 : 0 ≤ (t307 : Int) := of_decide_eq_true (by first | (with_reducible assumption) | assumption); have q308 : t307 < (l0_2.length : Int) := of_decide_eq_true (by first | (with_reducible assumption) | assumption); obtain ⟨ad308, e308, hx308_0⟩ := Kd.at_int HR0_2.out t307 p308 q308; cases e308; replace hx308_0 := (HB.out.cell (World.block_lt_of_cell? w _ hx308_0)).trans hx308_0; replace p308 := eq_true p308; replace q308 := eq_true q308; have p309 : 0 ≤ ((ji12) : Int) := of_decide_eq_true (by first | (with_reducible assumption) | assumption); have q309 : (ji12) < (l0_2.length : Int) := of_decide_eq_true (by first | (with_reducible assumption) | assumption); obtain ⟨ad309, e309, hx309_0⟩ := Kd.at_int HR0_2.out (ji12) p309 q309; obtain rfl : ad308 = ad309 := (by injection e309); replace hx309_0 := (HB.out.cell (World.block_lt_of_cell? w _ hx309_0)).trans hx309_0; replace p309 := eq_true p309; replace q309 := eq_true q309))
          go_ret2
          exact ⟨by first | rfl | (simp [errW_none, errW_some] <;> rfl) | (simp only [← hji12, ← hji15]; first | rfl | (simp [errW_none, errW_some] <;> rfl)) | (simp [*, errW_none, errW_some] <;> rfl), by repeat (first | (with_reducible first | exact HB.out | apply below_alloc | apply pw_below_drewN | apply below_drew1 | refine below_set ?_ GE306.out) | exact HB.out)⟩
         ·rw [if_neg c16] at H
          have c16b0 : decide ((a0_0.size : Int) ≤ (wrap64 (a1 + (ji15)))) = false := decide_eq_false c16
          clear c16
          simp only [Option.some.injEq, Prod.mk.injEq] at H
          obtain ⟨rfl, rfl⟩ := H
          have hcz18_0 : wc.cell? ⟨gb306, 0, none⟩ = some (.string a0_0) := (blk_cell BK306.out 0).trans rfl
          have hcz18_1 : wc.cell? ⟨gb306, 1, none⟩ = some (.slice A0_1 l0_1.length c0_1) := (blk_cell BK306.out 1).trans rfl
          have hcz18_2 : wc.cell? ⟨gb306, 2, none⟩ = some (.slice A0_2 l0_2.length c0_2) := (blk_cell BK306.out 2).trans rfl
          have hfz18_0 := blk_frozen BK306.out 0
          have hfz18_1 := blk_frozen BK306.out 1
          have hfz18_2 := blk_frozen BK306.out 2
          go_wp2_with (first | ((with_reducible refine gate_callee (f := 51) rfl ?_); refine goesL_ (some 20) rfl rfl Try.func51 (by kernel_rfl) rfl #[.slice A0_1 l0_1.length c0_1, .int .i64 a1] rfl (by (try simp only [List.map_toArray, List.map_cons, List.map_nil]); first | done | rfl | (simp only [List.length_drop, List.length_take]; rfl)) ?_; (with_reducible refine (slices_Index_int_int.calls kj2 _ _ l0_1 a1 t307 _ ?side1 ?side2 A8.out).mono ?_); (case side1 => repeat (first | exact (Kd.C_below HR0_1.out HB.out) | (with_reducible refine Kd.C_alloc ?_ _) | (with_reducible refine Kd.C_drewN ?_ _) | (with_reducible refine Kd.C_drew ?_))); (case side2 => exact HC0_1.out); rintro e w' ⟨rfl, ⟨nd, rfl⟩⟩; refine ⟨_, rfl, ?_⟩; have p308 : 0 ≤ (t307 : Int) := of_decide_eq_true (by first | (with_reducible assumption) | assumption); have q308 : t307 < (l0_2.length : Int) := of_decide_eq_true (by first | (with_reducible assumption) | assumption); obtain ⟨ad308, e308, hx308_0⟩ := Kd.at_int HR0_2.out t307 p308 q308; cases e308; replace hx308_0 := (HB.out.cell (World.block_lt_of_cell? w _ hx308_0)).trans hx308_0; replace p308 := eq_true p308; replace q308 := eq_true q308; have p309 : 0 ≤ ((ji12) : Int) := of_decide_eq_true (by first | (with_reducible assumption) | assumption); have q309 : (ji12) < (l0_2.length : Int) := of_decide_eq_true (by first | (with_reducible assumption) | assumption); obtain ⟨ad309, e309, hx309_0⟩ := Kd.at_int HR0_2.out (ji12) p309 q309; obtain rfl : ad308 = ad309 := (by injection e309); replace hx309_0 := (HB.out.cell (World.block_lt_of_cell? w _ hx309_0)).trans hx309_0; replace p309 := eq_true p309; replace q309 := eq_true q309))
          go_ret2
          exact ⟨by first | rfl | (simp [errW_none, errW_some] <;> rfl) | (simp only [← hji12, ← hji15]; first | rfl | (simp [errW_none, errW_some] <;> rfl)) | (simp [*, errW_none, errW_some] <;> rfl), by repeat (first | (with_reducible first | exact HB.out | apply below_alloc | apply pw_below_drewN | apply below_drew1 | refine below_set ?_ GE306.out) | exact HB.out)⟩
        ·rw [if_neg c14] at H
         exact absurd H (by simp)
       ·rw [if_neg c13] at H
        exact absurd H (by simp)
      ·rw [if_neg c11] at H
       have c11b0 : decide ((wrap64 (t307 + 1)) < (l0_1.length : Int)) = false := decide_eq_false c11
       clear c11
       by_cases c19 : (wrap64 (a1 + (rd l0_2 t307))) ≥ (a0_0.size : Int)
       ·rw [if_pos c19] at H
        have c19b0 : decide ((a0_0.size : Int) ≤ (wrap64 (a1 + (rd l0_2 t307)))) = true := decide_eq_true c19
        clear c19
        simp only [Option.some.injEq, Prod.mk.injEq] at H
        obtain ⟨rfl, rfl⟩ := H
        have hcz20_0 : wc.cell? ⟨gb306, 0, none⟩ = some (.string a0_0) := (blk_cell BK306.out 0).trans rfl
        have hcz20_1 : wc.cell? ⟨gb306, 1, none⟩ = some (.slice A0_1 l0_1.length c0_1) := (blk_cell BK306.out 1).trans rfl
        have hcz20_2 : wc.cell? ⟨gb306, 2, none⟩ = some (.slice A0_2 l0_2.length c0_2) := (blk_cell BK306.out 2).trans rfl
        have hfz20_0 := blk_frozen BK306.out 0
        have hfz20_1 := blk_frozen BK306.out 1
        have hfz20_2 := blk_frozen BK306.out 2
        go_wp2_with (first | ((with_reducible refine gate_callee (f := 51) rfl ?_); refine goesL_ (some 20) rfl rfl Try.func51 (by kernel_rfl) rfl #[.slice A0_1 l0_1.length c0_1, .int .i64 a1] rfl (by (try simp only [List.map_toArray, List.map_cons, List.map_nil]); first | done | rfl | (simp only [List.length_drop, List.length_take]; rfl)) ?_; (with_reducible refine (slices_Index_int_int.calls kj2 _ _ l0_1 a1 t307 _ ?side1 ?side2 A8.out).mono ?_); (case side1 => repeat (first | exact (Kd.C_below HR0_1.out HB.out) | (with_reducible refine Kd.C_alloc ?_ _) | (with_reducible refine Kd.C_drewN ?_ _) | (with_reducible refine Kd.C_drew ?_))); (case side2 => exact HC0_1.out); rintro e w' ⟨rfl, ⟨nd, rfl⟩⟩; refine ⟨_, rfl, ?_⟩; have p308 : 0 ≤ (t307 : Int) := of_decide_eq_true (by first | (with_reducible assumption) | assumption); have q308 : t307 < (l0_2.length : Int) := of_decide_eq_true (by first | (with_reducible assumption) | assumption); obtain ⟨ad308, e308, hx308_0⟩ := Kd.at_int HR0_2.out t307 p308 q308; cases e308; replace hx308_0 := (HB.out.cell (World.block_lt_of_cell? w _ hx308_0)).trans hx308_0; replace p308 := eq_true p308; replace q308 := eq_true q308))
        go_ret2
        exact ⟨by first | rfl | (simp [errW_none, errW_some] <;> rfl) | (simp [*, errW_none, errW_some] <;> rfl), by repeat (first | (with_reducible first | exact HB.out | apply below_alloc | apply pw_below_drewN | apply below_drew1 | refine below_set ?_ GE306.out) | exact HB.out)⟩
       ·rw [if_neg c19] at H
        have c19b0 : decide ((a0_0.size : Int) ≤ (wrap64 (a1 + (rd l0_2 t307)))) = false := decide_eq_false c19
        clear c19
        simp only [Option.some.injEq, Prod.mk.injEq] at H
        obtain ⟨rfl, rfl⟩ := H
        have hcz21_0 : wc.cell? ⟨gb306, 0, none⟩ = some (.string a0_0) := (blk_cell BK306.out 0).trans rfl
        have hcz21_1 : wc.cell? ⟨gb306, 1, none⟩ = some (.slice A0_1 l0_1.length c0_1) := (blk_cell BK306.out 1).trans rfl
        have hcz21_2 : wc.cell? ⟨gb306, 2, none⟩ = some (.slice A0_2 l0_2.length c0_2) := (blk_cell BK306.out 2).trans rfl
        have hfz21_0 := blk_frozen BK306.out 0
        have hfz21_1 := blk_frozen BK306.out 1
        have hfz21_2 := blk_frozen BK306.out 2
        go_wp2_with (first | ((with_reducible refine gate_callee (f := 51) rfl ?_); refine goesL_ (some 20) rfl rfl Try.func51 (by kernel_rfl) rfl #[.slice A0_1 l0_1.length c0_1, .int .i64 a1] rfl (by (try simp only [List.map_toArray, List.map_cons, List.map_nil]); first | done | rfl | (simp only [List.length_drop, List.length_take]; rfl)) ?_; (with_reducible refine (slices_Index_int_int.calls kj2 _ _ l0_1 a1 t307 _ ?side1 ?side2 A8.out).mono ?_); (case side1 => repeat (first | exact (Kd.C_below HR0_1.out HB.out) | (with_reducible refine Kd.C_alloc ?_ _) | (with_reducible refine Kd.C_drewN ?_ _) | (with_reducible refine Kd.C_drew ?_))); (case side2 => exact HC0_1.out); rintro e w' ⟨rfl, ⟨nd, rfl⟩⟩; refine ⟨_, rfl, ?_⟩; have p308 : 0 ≤ (t307 : Int) := of_decide_eq_true (by first | (with_reducible assumption) | assumption); have q308 : t307 < (l0_2.length : Int) := of_decide_eq_true (by first | (with_reducible assumption) | assumption); obtain ⟨ad308, e308, hx308_0⟩ := Kd.at_int HR0_2.out t307 p308 q308; cases e308; replace hx308_0 := (HB.out.cell (World.block_lt_of_cell? w _ hx308_0)).trans hx308_0; replace p308 := eq_true p308; replace q308 := eq_true q308))
        go_ret2
        exact ⟨by first | rfl | (simp [errW_none, errW_some] <;> rfl) | (simp [*, errW_none, errW_some] <;> rfl), by repeat (first | (with_reducible first | exact HB.out | apply below_alloc | apply pw_below_drewN | apply below_drew1 | refine below_set ?_ GE306.out) | exact HB.out)⟩
     ·rw [if_neg c10] at H
      exact absurd H (by simp)
    ·rw [if_neg c9] at H
     exact absurd H (by simp)

end Go.Proofs.Ytppelnlocfcgfaa.P
namespace Go.Proofs.Ytppelnlocfcgfaa.P
open Go.RowKit Go.Proofs.YtppelnlocfcgfaaW.PrintWords Go.Proofs.YtppelnlocfcgfaaW.PrintLast Go.Proofs.YtppelnlocfcgfaaW.PrintMore
attribute [local go_sem] max2_int min2_int max_two min_two max_three min_three max_four min_four   -- for this text's walks alone
set_option linter.unusedVariables false
set_option linter.unusedSimpArgs false

/-! ### silversideref07_Shortest: function 36 -/
mutual
def silversideref07_Shortest.j0 : Nat → ByteArray → Int → Bool → Option (Int × Int)
 | 0, _, _, _ => none
 | k + 1, x0, x1, x15 => if x15 = true then (some (0, 2)) else (silversideref07_Shortest.l0 k x0 x1 0 0)
def silversideref07_Shortest.l0 : Nat → ByteArray → Int → Int → Int → Option (Int × Int)
 | 0, _, _, _, _ => none
 | k + 1, x0, x1, x6, x7 => if x7 < (x0.size : Int) then (if x7 = x1 then (silversideref07_Shortest.l0 k x0 x1 x6 (wrap64 (x7 + 1))) else ((silversideref07_Common.f k x0 x1 x0 x7).bind fun t310 => (silversideref07_Shortest.l0 k x0 x1 (mx x6 t310) (wrap64 (x7 + 1))))) else (if (wrap64 (x1 + x6)) = (x0.size : Int) then (some (0, 6)) else (some (wrap64 (x6 + 1), 0)))
end
def silversideref07_Shortest.f (k : Nat) (a0 : ByteArray) (a1 : Int) : Option (Int × Int) := if a1 < 0 then (silversideref07_Shortest.j0 k a0 a1 true) else (silversideref07_Shortest.j0 k a0 a1 (decide (a1 ≥ (a0.size : Int))))
theorem silversideref07_Shortest.mono_l : ∀ k, (∀ y0 y1 y2, LeO (silversideref07_Shortest.j0 k y0 y1 y2) (silversideref07_Shortest.j0 (k + 1) y0 y1 y2)) ∧ (∀ y0 y1 y2 y3, LeO (silversideref07_Shortest.l0 k y0 y1 y2 y3) (silversideref07_Shortest.l0 (k + 1) y0 y1 y2 y3))
 | 0 => ⟨fun _ _ _ r h => by simp [silversideref07_Shortest.j0] at h, fun _ _ _ _ r h => by simp [silversideref07_Shortest.l0] at h⟩
 | k + 1 => by
  obtain ⟨ih0, ih1⟩ := silversideref07_Shortest.mono_l k
  refine ⟨?_, ?_⟩
  ·intro y0 y1 y2
   unfold silversideref07_Shortest.j0
   repeat' first
   | (with_reducible exact ih0 _ _ _)
   | (with_reducible exact ih1 _ _ _ _)
   | (with_reducible exact silversideref07_Common.mono _ _ _ _ _)
   | (with_reducible exact LeO.refl _)
   | (with_reducible exact LeO.none _)
   | (with_reducible refine LeO.ite ?_ ?_)
   | (with_reducible refine LeO.bind ?_ (fun _ => ?_))
   | exact ih0 _ _ _
   | exact ih1 _ _ _ _
   | exact silversideref07_Common.mono _ _ _ _ _
   | exact LeO.none _
   | refine LeO.ite ?_ ?_
   | refine LeO.bind ?_ (fun _ => ?_)
  ·intro y0 y1 y2 y3
   unfold silversideref07_Shortest.l0
   repeat' first
   | (with_reducible exact ih0 _ _ _)
   | (with_reducible exact ih1 _ _ _ _)
   | (with_reducible exact silversideref07_Common.mono _ _ _ _ _)
   | (with_reducible exact LeO.refl _)
   | (with_reducible exact LeO.none _)
   | (with_reducible refine LeO.ite ?_ ?_)
   | (with_reducible refine LeO.bind ?_ (fun _ => ?_))
   | exact ih0 _ _ _
   | exact ih1 _ _ _ _
   | exact silversideref07_Common.mono _ _ _ _ _
   | exact LeO.none _
   | refine LeO.ite ?_ ?_
   | refine LeO.bind ?_ (fun _ => ?_)
theorem silversideref07_Shortest.mono : ∀ a0 a1 k, LeO (silversideref07_Shortest.f k a0 a1) (silversideref07_Shortest.f (k + 1) a0 a1) := by
 intro a0 a1 k
 obtain ⟨ih0, ih1⟩ := silversideref07_Shortest.mono_l k
 unfold silversideref07_Shortest.f
 repeat' first
   | (with_reducible exact ih0 _ _ _)
   | (with_reducible exact ih1 _ _ _ _)
   | (with_reducible exact silversideref07_Common.mono _ _ _ _ _)
   | (with_reducible exact LeO.refl _)
   | (with_reducible exact LeO.none _)
   | (with_reducible refine LeO.ite ?_ ?_)
   | (with_reducible refine LeO.bind ?_ (fun _ => ?_))
   | exact ih0 _ _ _
   | exact ih1 _ _ _ _
   | exact silversideref07_Common.mono _ _ _ _ _
   | exact LeO.none _
   | refine LeO.ite ?_ ?_
   | refine LeO.bind ?_ (fun _ => ?_)
set_option maxHeartbeats 8000000 in
set_option maxRecDepth 100000 in
theorem silversideref07_Shortest.calls (k : Nat) (a0 : ByteArray) (a1 : Int) (r1 : Int) (r2 : Int) (w : World) (h : silversideref07_Shortest.f k a0 a1 = some (r1, r2)) :
  Calls Try.prog 36 #[.string a0, .int .i64 a1] w fun e w' => e = .returned (.tuple #[.int .i64 r1, .int .i64 r2]) ∧ Below w.heap.size w w' := by
 have HB := Aside0.mk (Below.refl w.heap.size w)
 have H : (if a1 < 0 then (silversideref07_Shortest.j0 k a0 a1 true) else (silversideref07_Shortest.j0 k a0 a1 (decide (a1 ≥ (a0.size : Int))))) = some (r1, r2) := h
 clear h
 have HC3 := Aside0.mk H
 clear H
 go_enter Try.func36, Try.ntmps36
 go_upto_region 1 with (fail)
 go_cut [15] (fun v15 wc => ∃ (kq : Nat) (x15_2 : Bool), v15 = .bool x15_2 ∧ Aside0 (silversideref07_Shortest.j0 kq a0 a1 x15_2 = some (r1, r2)) ∧ Aside0 (kq ≤ k) ∧ Aside0 (Below w.heap.size w wc))
 case first =>
  have H := HC3.out
  clear HC3
  by_cases c4 : a1 < 0
  ·rw [if_pos c4] at H
   have c4b0 : decide (a1 < 0) = true := decide_eq_true c4
   clear c4
   (first | rw [c4b0] | (simp only [i64_w, i32_w]; rw [c4b0]) | skip)
   have H' := Aside0.mk H
   clear H
   go_wp2
   go_meet
   case rel => exact ⟨_, (true), (by first | rfl | (simp; done) | (simp [*]; done)), H', ⟨by first | omega | exact Nat.le_refl _⟩, ⟨by repeat (first | (with_reducible first | exact HB.out | apply below_alloc | apply pw_below_drewN | apply below_drew1) | exact HB.out)⟩⟩
  ·rw [if_neg c4] at H
   have c4b0 : decide (a1 < 0) = false := decide_eq_false c4
   clear c4
   (first | rw [c4b0] | (simp only [i64_w, i32_w]; rw [c4b0]) | skip)
   have H' := Aside0.mk H
   clear H
   go_wp2
   go_meet
   case rel => exact ⟨_, (decide (a1 ≥ (a0.size : Int))), (by first | rfl | (simp; done) | (simp [*]; done)), H', ⟨by first | omega | exact Nat.le_refl _⟩, ⟨by repeat (first | (with_reducible first | exact HB.out | apply below_alloc | apply pw_below_drewN | apply below_drew1) | exact HB.out)⟩⟩
 case rest =>
  clear HC3
  try clear p2
  try clear c3
  try clear c4
  try clear c4b0
  obtain ⟨kq, x15_2, rfl, HA, HJ2, HB⟩ := hcut
  cases kq with
  | zero => exact absurd HA.out (by simp [silversideref07_Shortest.j0])
  | succ kj2 =>
   have H := HA.out
   clear HA
   simp only [silversideref07_Shortest.j0] at H
   by_cases c5 : x15_2 = true
   ·subst c5
    have H1 : (some (0, 2)) = some (r1, r2) := by rw [if_pos rfl] at H; exact H
    clear H
    have H := H1
    clear H1
    simp only [Option.some.injEq, Prod.mk.injEq] at H
    obtain ⟨rfl, rfl⟩ := H
    go_wp2
    go_ret2
    exact ⟨by first | rfl | (simp [errW_none, errW_some] <;> rfl) | (simp [*, errW_none, errW_some] <;> rfl), by repeat (first | (with_reducible first | exact HB.out | apply below_alloc | apply pw_below_drewN | apply below_drew1) | exact HB.out)⟩
   ·replace c5 := Bool.eq_false_iff.mpr c5
    subst c5
    have H1 : (silversideref07_Shortest.l0 kj2 a0 a1 0 0) = some (r1, r2) := by rw [if_neg (show ¬ (false = true) by decide)] at H; exact H
    clear H
    have H := H1
    clear H1
    have H' := Aside0.mk H
    clear H
    go_wp2
    go_loopg [6, 7] kj2 (fun kq v6 v7 w' => ∃ (x6_2 : Int) (x7_2 : Int), v6 = .int .i64 x6_2 ∧ v7 = .int .i64 x7_2 ∧ Aside0 (silversideref07_Shortest.l0 kq a0 a1 x6_2 x7_2 = some (r1, r2)) ∧ Aside0 (kq ≤ kj2) ∧ Aside0 (Below w.heap.size w w'))
    case atStart => exact ⟨(0), (0), (by first | rfl | (simp; done) | (simp [*]; done)), (by first | rfl | (simp; done) | (simp [*]; done)), H', ⟨Nat.le_refl _⟩, ⟨by repeat (first | (with_reducible first | exact HB.out | apply below_alloc | apply pw_below_drewN | apply below_drew1) | exact HB.out)⟩⟩
    case round =>
     clear H'
     try clear p2
     try clear c3
     try clear c4
     try clear c4b0
     try clear c5
     try clear p2
     obtain ⟨x6_2, x7_2, rfl, rfl, HA, HK2, HB⟩ := hrel
     cases gk with
     | zero => exact absurd HA.out (by simp [silversideref07_Shortest.l0])
     | succ k2 =>
      have H := HA.out
      clear HA
      simp only [silversideref07_Shortest.l0] at H
      by_cases c6 : x7_2 < (a0.size : Int)
      ·rw [if_pos c6] at H
       have c6b0 : decide (x7_2 < (a0.size : Int)) = true := decide_eq_true c6
       clear c6
       by_cases c7 : x7_2 = a1
       ·rw [if_pos c7] at H
        have c7b0 : (x7_2 == a1) = true := beq_iff_eq.mpr c7
        have c7b1 : (x7_2 != a1) = false := bne_eq_false_iff_eq.mpr c7
        clear c7
        have H' := Aside0.mk H
        clear H
        go_wp2
        go_roundg k2
        case measure => have := HJ2.out; have := HK2.out; omega
        case rel => exact ⟨(x6_2), (wrap64 (x7_2 + 1)), (by first | rfl | (simp; done) | (simp [*]; done)), (by first | rfl | (simp; done) | (simp [*]; done)), H', ⟨by have := HJ2.out; have := HK2.out; omega⟩, ⟨by repeat (first | (with_reducible first | exact HB.out | apply below_alloc | apply pw_below_drewN | apply below_drew1) | exact HB.out)⟩⟩
       ·rw [if_neg c7] at H
        have c7b0 : (x7_2 == a1) = false := beq_eq_false_iff_ne.mpr c7
        have c7b1 : (x7_2 != a1) = true := bne_iff_ne.mpr c7
        replace H := Option.bind_eq_some_iff.mp H
        obtain ⟨t310, A80, H⟩ := H
        replace H : (silversideref07_Shortest.l0 k2 a0 a1 (mx x6_2 t310) (wrap64 (x7_2 + 1))) = some (r1, r2) := H
        have A8 := Aside0.mk A80
        clear A80
        obtain ⟨ji9, hji9⟩ : ∃ j_ : Int, (mx x6_2 t310) = j_ := ⟨_, rfl⟩
        replace H : (silversideref07_Shortest.l0 k2 a0 a1 ji9 (wrap64 (x7_2 + 1))) = some (r1, r2) := by first | (rw [hji9] at H; exact H) | (simp only [hji9] at H ⊢; exact H)
        (try rw [hji9] at A8)
        have hji9_ : (if x6_2 < t310 then t310 else x6_2) = ji9 := hji9
        have H' := Aside0.mk H
        clear H
        go_wp2_with (first | ((with_reducible refine gate_callee (f := 43) rfl ?_); refine goesL_ (some 30) rfl rfl Try.func43 (by kernel_rfl) rfl #[.string a0, .int .i64 a1, .string a0, .int .i64 x7_2] rfl (by (try simp only [List.map_toArray, List.map_cons, List.map_nil]); first | done | rfl | (simp only [List.length_drop, List.length_take]; rfl)) ?_; (with_reducible refine (silversideref07_Common.calls k2 a0 a1 a0 x7_2 t310 _ A8.out).mono ?_); rintro e w' ⟨rfl, ⟨nd, rfl⟩⟩; refine ⟨_, rfl, ?_⟩))
        go_roundg k2
        case measure => have := HJ2.out; have := HK2.out; omega
        case rel => exact ⟨(ji9), (wrap64 (x7_2 + 1)), (by first | rfl | (simp; done) | (simp only [← hji9] <;> (first | rfl | simp)) | (simp [*]; done)), (by first | rfl | (simp; done) | (simp [*]; done)), H', ⟨by have := HJ2.out; have := HK2.out; omega⟩, ⟨by repeat (first | (with_reducible first | exact HB.out | apply below_alloc | apply pw_below_drewN | apply below_drew1) | exact HB.out)⟩⟩
      ·rw [if_neg c6] at H
       have c6b0 : decide (x7_2 < (a0.size : Int)) = false := decide_eq_false c6
       clear c6
       by_cases c10 : (wrap64 (a1 + x6_2)) = (a0.size : Int)
       ·rw [if_pos c10] at H
        have c10b0 : ((wrap64 (a1 + x6_2)) == (a0.size : Int)) = true := beq_iff_eq.mpr c10
        have c10b1 : ((wrap64 (a1 + x6_2)) != (a0.size : Int)) = false := bne_eq_false_iff_eq.mpr c10
        clear c10
        simp only [Option.some.injEq, Prod.mk.injEq] at H
        obtain ⟨rfl, rfl⟩ := H
        go_wp2
        go_ret2
        exact ⟨by first | rfl | (simp [errW_none, errW_some] <;> rfl) | (simp [*, errW_none, errW_some] <;> rfl), by repeat (first | (with_reducible first | exact HB.out | apply below_alloc | apply pw_below_drewN | apply below_drew1) | exact HB.out)⟩
       ·rw [if_neg c10] at H
        have c10b0 : ((wrap64 (a1 + x6_2)) == (a0.size : Int)) = false := beq_eq_false_iff_ne.mpr c10
        have c10b1 : ((wrap64 (a1 + x6_2)) != (a0.size : Int)) = true := bne_iff_ne.mpr c10
        simp only [Option.some.injEq, Prod.mk.injEq] at H
        obtain ⟨rfl, rfl⟩ := H
        go_wp2
        go_ret2
        exact ⟨by first | rfl | (simp [errW_none, errW_some] <;> rfl) | (simp [*, errW_none, errW_some] <;> rfl), by repeat (first | (with_reducible first | exact HB.out | apply below_alloc | apply pw_below_drewN | apply below_drew1) | exact HB.out)⟩

end Go.Proofs.Ytppelnlocfcgfaa.P
namespace Go.Proofs.Ytppelnlocfcgfaa.P
open Go.RowKit Go.Proofs.YtppelnlocfcgfaaW.PrintWords Go.Proofs.YtppelnlocfcgfaaW.PrintLast Go.Proofs.YtppelnlocfcgfaaW.PrintMore
attribute [local go_sem] max2_int min2_int max_two min_two max_three min_three max_four min_four   -- for this text's walks alone
set_option linter.unusedVariables false
set_option linter.unusedSimpArgs false

/-! ### silversidelaw07_FindBack: function 6 -/
def silversidelaw07_FindBack.j0 : Nat → ByteArray → Int → Bool → Option (Bool)
 | 0, _, _, _ => none
 | k + 1, x0, x1, x59 => if x59 = true then (some false) else ((silversidelaw07_mod.f x1 (wrap64 ((x0.size : Int) + 1))).bind fun t223 => ((find_Restore.f x0 t223).bind fun bt224 => (if bt224.2 = 0 then ((find_Turn.f bt224.1).bind fun bt226 => (if bt226.1.toList = x0.toList then ((silversidelaw07_mod.f x1 (wrap64 ((x0.size : Int) + 1))).bind fun t229 => (if bt226.2.1 = t229 then (if bt226.2.2 = 0 then ((silversidelaw07_awake.f k).bind fun t230 => (some t230)) else (some false)) else (some false))) else (some false))) else (if bt224.1.toList = ([] : List UInt8) then (if bt224.2 = 70 then ((silversidelaw07_awake.f k).bind fun t231 => (some t231)) else (some false)) else (some false)))))
def silversidelaw07_FindBack.f (k : Nat) (a0 : ByteArray) (a1 : Int) : Option (Bool) := if 0 ≤ (mn (a0.size : Int) 4096) then (if (mn (a0.size : Int) 4096) ≤ (a0.size : Int) then ((find_Turn.f (a0.extract 0 ((mn (a0.size : Int) 4096) : Int).toNat)).bind fun bt218 => ((find_Restore.f bt218.1 bt218.2.1).bind fun bt221 => (if bt218.2.2 = 0 then (if bt221.2 = 0 then (if bt221.1.toList = (a0.extract 0 ((mn (a0.size : Int) 4096) : Int).toNat).toList then (if (bt218.1.size : Int) = ((a0.extract 0 ((mn (a0.size : Int) 4096) : Int).toNat).size : Int) then (if bt218.2.1 < 0 then (silversidelaw07_FindBack.j0 k (a0.extract 0 ((mn (a0.size : Int) 4096) : Int).toNat) a1 true) else (silversidelaw07_FindBack.j0 k (a0.extract 0 ((mn (a0.size : Int) 4096) : Int).toNat) a1 (decide (bt218.2.1 > ((a0.extract 0 ((mn (a0.size : Int) 4096) : Int).toNat).size : Int))))) else (silversidelaw07_FindBack.j0 k (a0.extract 0 ((mn (a0.size : Int) 4096) : Int).toNat) a1 true)) else (silversidelaw07_FindBack.j0 k (a0.extract 0 ((mn (a0.size : Int) 4096) : Int).toNat) a1 true)) else (silversidelaw07_FindBack.j0 k (a0.extract 0 ((mn (a0.size : Int) 4096) : Int).toNat) a1 true)) else (silversidelaw07_FindBack.j0 k (a0.extract 0 ((mn (a0.size : Int) 4096) : Int).toNat) a1 true)))) else (none)) else (none)
theorem silversidelaw07_FindBack.mono_l : ∀ k, (∀ y0 y1 y2, LeO (silversidelaw07_FindBack.j0 k y0 y1 y2) (silversidelaw07_FindBack.j0 (k + 1) y0 y1 y2))
 | 0 => fun _ _ _ r h => by simp [silversidelaw07_FindBack.j0] at h
 | k + 1 => by
  have ih0 := silversidelaw07_FindBack.mono_l k
  ·intro y0 y1 y2
   unfold silversidelaw07_FindBack.j0
   repeat' first
   | (with_reducible exact ih0 _ _ _)
   | (with_reducible exact silversidelaw07_awake.mono _)
   | (with_reducible exact LeO.refl _)
   | (with_reducible exact LeO.none _)
   | (with_reducible refine LeO.ite ?_ ?_)
   | (with_reducible refine LeO.bind ?_ (fun _ => ?_))
   | exact ih0 _ _ _
   | exact silversidelaw07_awake.mono _
   | exact LeO.none _
   | refine LeO.ite ?_ ?_
   | refine LeO.bind ?_ (fun _ => ?_)
theorem silversidelaw07_FindBack.mono : ∀ a0 a1 k, LeO (silversidelaw07_FindBack.f k a0 a1) (silversidelaw07_FindBack.f (k + 1) a0 a1) := by
 intro a0 a1 k
 have ih0 := silversidelaw07_FindBack.mono_l k
 unfold silversidelaw07_FindBack.f
 repeat' first
   | (with_reducible exact ih0 _ _ _)
   | (with_reducible exact silversidelaw07_awake.mono _)
   | (with_reducible exact LeO.refl _)
   | (with_reducible exact LeO.none _)
   | (with_reducible refine LeO.ite ?_ ?_)
   | (with_reducible refine LeO.bind ?_ (fun _ => ?_))
   | exact ih0 _ _ _
   | exact silversidelaw07_awake.mono _
   | exact LeO.none _
   | refine LeO.ite ?_ ?_
   | refine LeO.bind ?_ (fun _ => ?_)
set_option maxHeartbeats 8000000 in
set_option maxRecDepth 100000 in
theorem silversidelaw07_FindBack.calls (k : Nat) (a0 : ByteArray) (a1 : Int) (r : Bool) (w : World) (h : silversidelaw07_FindBack.f k a0 a1 = some r) :
  Calls Try.prog 6 #[.string a0, .int .i64 a1] w fun e w' => e = .returned (.bool r) ∧ Below w.heap.size w w' := by
 have HB := Aside0.mk (Below.refl w.heap.size w)
 have H : (if 0 ≤ (mn (a0.size : Int) 4096) then (if (mn (a0.size : Int) 4096) ≤ (a0.size : Int) then ((find_Turn.f (a0.extract 0 ((mn (a0.size : Int) 4096) : Int).toNat)).bind fun bt218 => ((find_Restore.f bt218.1 bt218.2.1).bind fun bt221 => (if bt218.2.2 = 0 then (if bt221.2 = 0 then (if bt221.1.toList = (a0.extract 0 ((mn (a0.size : Int) 4096) : Int).toNat).toList then (if (bt218.1.size : Int) = ((a0.extract 0 ((mn (a0.size : Int) 4096) : Int).toNat).size : Int) then (if bt218.2.1 < 0 then (silversidelaw07_FindBack.j0 k (a0.extract 0 ((mn (a0.size : Int) 4096) : Int).toNat) a1 true) else (silversidelaw07_FindBack.j0 k (a0.extract 0 ((mn (a0.size : Int) 4096) : Int).toNat) a1 (decide (bt218.2.1 > ((a0.extract 0 ((mn (a0.size : Int) 4096) : Int).toNat).size : Int))))) else (silversidelaw07_FindBack.j0 k (a0.extract 0 ((mn (a0.size : Int) 4096) : Int).toNat) a1 true)) else (silversidelaw07_FindBack.j0 k (a0.extract 0 ((mn (a0.size : Int) 4096) : Int).toNat) a1 true)) else (silversidelaw07_FindBack.j0 k (a0.extract 0 ((mn (a0.size : Int) 4096) : Int).toNat) a1 true)) else (silversidelaw07_FindBack.j0 k (a0.extract 0 ((mn (a0.size : Int) 4096) : Int).toNat) a1 true)))) else (none)) else (none)) = some r := h
 clear h
 obtain ⟨ji3, hji3⟩ : ∃ j_ : Int, (mn (a0.size : Int) 4096) = j_ := ⟨_, rfl⟩
 replace H : (if 0 ≤ (ji3) then (if (ji3) ≤ (a0.size : Int) then ((find_Turn.f (a0.extract 0 ((ji3) : Int).toNat)).bind fun bt218 => ((find_Restore.f bt218.1 bt218.2.1).bind fun bt221 => (if bt218.2.2 = 0 then (if bt221.2 = 0 then (if bt221.1.toList = (a0.extract 0 ((ji3) : Int).toNat).toList then (if (bt218.1.size : Int) = ((a0.extract 0 ((ji3) : Int).toNat).size : Int) then (if bt218.2.1 < 0 then (silversidelaw07_FindBack.j0 k (a0.extract 0 ((ji3) : Int).toNat) a1 true) else (silversidelaw07_FindBack.j0 k (a0.extract 0 ((ji3) : Int).toNat) a1 (decide (bt218.2.1 > ((a0.extract 0 ((ji3) : Int).toNat).size : Int))))) else (silversidelaw07_FindBack.j0 k (a0.extract 0 ((ji3) : Int).toNat) a1 true)) else (silversidelaw07_FindBack.j0 k (a0.extract 0 ((ji3) : Int).toNat) a1 true)) else (silversidelaw07_FindBack.j0 k (a0.extract 0 ((ji3) : Int).toNat) a1 true)) else (silversidelaw07_FindBack.j0 k (a0.extract 0 ((ji3) : Int).toNat) a1 true)))) else (none)) else (none)) = some r := by first | (rw [hji3] at H; exact H) | (simp only [hji3] at H ⊢; exact H)
 (try (have hji3h : ji3 ≤ 4096 := by (rw [← hji3]; unfold mn; (repeat' split) <;> omega)))
 (try (have hji3g : ji3 ≤ 64 := by omega))
 (try (have hji3l : 0 ≤ ji3 := by (rw [← hji3]; unfold mn; (repeat' split) <;> omega)))
 (try (have hji3m : 0 ≤ ji3 := by omega))
 have hji3_ : (if 4096 < (a0.size : Int) then 4096 else (a0.size : Int)) = ji3 := hji3
 by_cases c4 : 0 ≤ (ji3)
 ·rw [if_pos c4] at H
  have c4b0 := eq_true c4
  have c4b1 : decide (0 ≤ (ji3)) = true := decide_eq_true c4
  clear c4
  by_cases c5 : (ji3) ≤ (a0.size : Int)
  ·rw [if_pos c5] at H
   have c5b0 := eq_true c5
   have c5b1 : decide ((ji3) ≤ (a0.size : Int)) = true := decide_eq_true c5
   clear c5
   obtain ⟨sa0_, hsa0_⟩ : ∃ s_ : ByteArray, a0.extract 0 ((ji3) : Int).toNat = s_ := ⟨_, rfl⟩
   rw [hsa0_] at H
   have hsa0_z : (a0.extract 0 ((ji3) : Int).toNat).size = min ((ji3) : Int).toNat a0.size - 0 := ByteArray.size_extract
   rw [hsa0_] at hsa0_z
   replace hsa0_z : sa0_.size ≤ 4096 := by omega
   have hsa0_w : wrap64 ((sa0_.size : Int) + 1) = (sa0_.size : Int) + 1 := by unfold wrap64; omega
   replace H := Option.bind_eq_some_iff.mp H
   obtain ⟨⟨t218, t219, t220⟩, A60, H⟩ := H
   replace H : ((find_Restore.f t218 t219).bind fun bt221 => (if t220 = 0 then (if bt221.2 = 0 then (if bt221.1.toList = sa0_.toList then (if (t218.size : Int) = (sa0_.size : Int) then (if t219 < 0 then (silversidelaw07_FindBack.j0 k sa0_ a1 true) else (silversidelaw07_FindBack.j0 k sa0_ a1 (decide (t219 > (sa0_.size : Int))))) else (silversidelaw07_FindBack.j0 k sa0_ a1 true)) else (silversidelaw07_FindBack.j0 k sa0_ a1 true)) else (silversidelaw07_FindBack.j0 k sa0_ a1 true)) else (silversidelaw07_FindBack.j0 k sa0_ a1 true))) = some r := H
   have A6 := Aside0.mk A60
   clear A60
   replace H := Option.bind_eq_some_iff.mp H
   obtain ⟨⟨t221, t222⟩, A70, H⟩ := H
   replace H : (if t220 = 0 then (if t222 = 0 then (if t221.toList = sa0_.toList then (if (t218.size : Int) = (sa0_.size : Int) then (if t219 < 0 then (silversidelaw07_FindBack.j0 k sa0_ a1 true) else (silversidelaw07_FindBack.j0 k sa0_ a1 (decide (t219 > (sa0_.size : Int))))) else (silversidelaw07_FindBack.j0 k sa0_ a1 true)) else (silversidelaw07_FindBack.j0 k sa0_ a1 true)) else (silversidelaw07_FindBack.j0 k sa0_ a1 true)) else (silversidelaw07_FindBack.j0 k sa0_ a1 true)) = some r := H
   have A7 := Aside0.mk A70
   clear A70
   have HC8 := Aside0.mk H
   clear H
   go_enter Try.func6, Try.ntmps6
   go_upto_region 4 with (first | ((with_reducible refine gate_callee (f := 23) rfl ?_); refine goesL_ (some 22) rfl rfl Try.func23 (by kernel_rfl) rfl #[.string sa0_] rfl (by (try simp only [List.map_toArray, List.map_cons, List.map_nil]); first | done | (rw [hsa0_w]; rfl) | (simp only [hji3]; rfl) | rfl | (simp only [List.length_drop, List.length_take]; rfl)) ?_; (with_reducible refine (find_Turn.calls sa0_ t218 t219 t220 _ A6.out).mono ?_); rintro e w9 ⟨rfl, hb⟩; refine ⟨_, rfl, ?_⟩; have n0_ := Aside0.mk (below_step (by repeat (first | (with_reducible first | exact HB.out | apply below_alloc | apply pw_below_drewN | apply below_drew1) | exact HB.out)) hb); clear HB; have HB := n0_; clear n0_; (try clear hb); (try clear hb2); (try clear hk); (try clear hi)) | ((with_reducible refine gate_callee (f := 25) rfl ?_); refine goesL_ (some 29) rfl rfl Try.func25 (by kernel_rfl) rfl #[.string t218, .int .i64 t219] rfl (by (try simp only [List.map_toArray, List.map_cons, List.map_nil]); first | done | rfl | (simp only [List.length_drop, List.length_take]; rfl)) ?_; (with_reducible refine (find_Restore.calls t218 t219 t221 t222 _ A7.out).mono ?_); rintro e w10 ⟨rfl, hb⟩; refine ⟨_, rfl, ?_⟩; have n0_ := Aside0.mk (below_step (by repeat (first | (with_reducible first | exact HB.out | apply below_alloc | apply pw_below_drewN | apply below_drew1) | exact HB.out)) hb); clear HB; have HB := n0_; clear n0_; (try clear hb); (try clear hb2); (try clear hk); (try clear hi)))
   (try simp only [Act.put, List.setIfInBounds_toArray, List.set_cons_zero, List.set_cons_succ])
   go_cut [59] (fun v59 wc => ∃ (kq : Nat) (x59_7 : Bool), v59 = .bool x59_7 ∧ Aside0 (silversidelaw07_FindBack.j0 kq sa0_ a1 x59_7 = some r) ∧ Aside0 (kq ≤ k) ∧ Aside0 (Below w.heap.size w wc))
   case first =>
    have H := HC8.out
    clear HC8
    by_cases c11 : t220 = 0
    ·rw [if_pos c11] at H
     have c11b0 : (t220 == 0) = true := beq_iff_eq.mpr c11
     have c11b1 : (t220 != 0) = false := bne_eq_false_iff_eq.mpr c11
     clear c11
     (first | rw [c11b0] | (simp only [i64_w, i32_w]; rw [c11b0]) | rw [c11b1] | skip)
     by_cases c12 : t222 = 0
     ·rw [if_pos c12] at H
      have c12b0 : (t222 == 0) = true := beq_iff_eq.mpr c12
      have c12b1 : (t222 != 0) = false := bne_eq_false_iff_eq.mpr c12
      clear c12
      by_cases c13 : t221.toList = sa0_.toList
      ·rw [if_pos c13] at H
       have c13b0 : (t221.toList == sa0_.toList) = true := beq_iff_eq.mpr c13
       have c13b1 : (t221.toList != sa0_.toList) = false := bne_eq_false_iff_eq.mpr c13
       clear c13
       by_cases c14 : (t218.size : Int) = (sa0_.size : Int)
       ·rw [if_pos c14] at H
        have c14b0 : ((t218.size : Int) == (sa0_.size : Int)) = true := beq_iff_eq.mpr c14
        have c14b1 : ((t218.size : Int) != (sa0_.size : Int)) = false := bne_eq_false_iff_eq.mpr c14
        have c14b2 : (t218.size == sa0_.size) = true := by first | simpa using c14 | (simp at c14 ⊢; omega)
        clear c14
        by_cases c15 : t219 < 0
        ·rw [if_pos c15] at H
         have c15b0 : decide (t219 < 0) = true := decide_eq_true c15
         clear c15
         have H' := Aside0.mk H
         clear H
         go_wp2
         go_meet
         case rel => exact ⟨_, (true), (by first | rfl | (simp; done) | (simp [*]; done)), H', ⟨by first | omega | exact Nat.le_refl _⟩, ⟨by repeat (first | (with_reducible first | exact HB.out | apply below_alloc | apply pw_below_drewN | apply below_drew1) | exact HB.out)⟩⟩
        ·rw [if_neg c15] at H
         have c15b0 : decide (t219 < 0) = false := decide_eq_false c15
         clear c15
         have H' := Aside0.mk H
         clear H
         go_wp2
         go_meet
         case rel => exact ⟨_, (decide (t219 > (sa0_.size : Int))), (by first | rfl | (simp; done) | (simp only [← hji3] <;> (first | rfl | simp)) | (simp [*]; done)), H', ⟨by first | omega | exact Nat.le_refl _⟩, ⟨by repeat (first | (with_reducible first | exact HB.out | apply below_alloc | apply pw_below_drewN | apply below_drew1) | exact HB.out)⟩⟩
       ·rw [if_neg c14] at H
        have c14b0 : ((t218.size : Int) == (sa0_.size : Int)) = false := beq_eq_false_iff_ne.mpr c14
        have c14b1 : ((t218.size : Int) != (sa0_.size : Int)) = true := bne_iff_ne.mpr c14
        have c14b2 : (t218.size == sa0_.size) = false := by first | simpa using c14 | (simp at c14 ⊢; omega)
        have H' := Aside0.mk H
        clear H
        go_wp2
        go_meet
        case rel => exact ⟨_, (true), (by first | rfl | (simp; done) | (simp [*]; done)), H', ⟨by first | omega | exact Nat.le_refl _⟩, ⟨by repeat (first | (with_reducible first | exact HB.out | apply below_alloc | apply pw_below_drewN | apply below_drew1) | exact HB.out)⟩⟩
      ·rw [if_neg c13] at H
       have c13b0 : (t221.toList == sa0_.toList) = false := beq_eq_false_iff_ne.mpr c13
       have c13b1 : (t221.toList != sa0_.toList) = true := bne_iff_ne.mpr c13
       have H' := Aside0.mk H
       clear H
       go_wp2
       go_meet
       case rel => exact ⟨_, (true), (by first | rfl | (simp; done) | (simp [*]; done)), H', ⟨by first | omega | exact Nat.le_refl _⟩, ⟨by repeat (first | (with_reducible first | exact HB.out | apply below_alloc | apply pw_below_drewN | apply below_drew1) | exact HB.out)⟩⟩
     ·rw [if_neg c12] at H
      have c12b0 : (t222 == 0) = false := beq_eq_false_iff_ne.mpr c12
      have c12b1 : (t222 != 0) = true := bne_iff_ne.mpr c12
      have H' := Aside0.mk H
      clear H
      go_wp2
      go_meet
      case rel => exact ⟨_, (true), (by first | rfl | (simp; done) | (simp [*]; done)), H', ⟨by first | omega | exact Nat.le_refl _⟩, ⟨by repeat (first | (with_reducible first | exact HB.out | apply below_alloc | apply pw_below_drewN | apply below_drew1) | exact HB.out)⟩⟩
    ·rw [if_neg c11] at H
     have c11b0 : (t220 == 0) = false := beq_eq_false_iff_ne.mpr c11
     have c11b1 : (t220 != 0) = true := bne_iff_ne.mpr c11
     (first | rw [c11b0] | (simp only [i64_w, i32_w]; rw [c11b0]) | rw [c11b1] | skip)
     have H' := Aside0.mk H
     clear H
     go_wp2
     go_meet
     case rel => exact ⟨_, (true), (by first | rfl | (simp; done) | (simp [*]; done)), H', ⟨by first | omega | exact Nat.le_refl _⟩, ⟨by repeat (first | (with_reducible first | exact HB.out | apply below_alloc | apply pw_below_drewN | apply below_drew1) | exact HB.out)⟩⟩
   case rest =>
    clear HC8
    try clear c1
    try clear c2
    try clear p2
    try clear c4
    try clear c4b0
    try clear c4b1
    try clear c5
    try clear c5b0
    try clear c5b1
    try clear c6
    try clear c11
    try clear c11b0
    try clear c11b1
    try clear c12
    try clear c12b0
    try clear c12b1
    try clear c13
    try clear c13b0
    try clear c13b1
    try clear c14
    try clear c14b0
    try clear c14b1
    try clear c14b2
    try clear c15
    try clear c15b0
    obtain ⟨kq, x59_7, rfl, HA, HJ7, HB⟩ := hcut
    cases kq with
    | zero => exact absurd HA.out (by simp [silversidelaw07_FindBack.j0])
    | succ kj7 =>
     have H := HA.out
     clear HA
     simp only [silversidelaw07_FindBack.j0] at H
     by_cases c16 : x59_7 = true
     ·subst c16
      have H1 : (some false) = some r := by rw [if_pos rfl] at H; exact H
      clear H
      have H := H1
      clear H1
      obtain rfl := Option.some.inj H
      go_wp2
      go_ret
      exact ⟨by first | rfl | (simp [errW_none, errW_some] <;> rfl) | (simp only [← hji3]; first | rfl | (simp [errW_none, errW_some] <;> rfl)) | (simp [*, errW_none, errW_some] <;> rfl), by repeat (first | (with_reducible first | exact HB.out | apply below_alloc | apply pw_below_drewN | apply below_drew1) | exact HB.out)⟩
     ·replace c16 := Bool.eq_false_iff.mpr c16
      subst c16
      have H1 : ((silversidelaw07_mod.f a1 (wrap64 ((sa0_.size : Int) + 1))).bind fun t223 => ((find_Restore.f sa0_ t223).bind fun bt224 => (if bt224.2 = 0 then ((find_Turn.f bt224.1).bind fun bt226 => (if bt226.1.toList = sa0_.toList then ((silversidelaw07_mod.f a1 (wrap64 ((sa0_.size : Int) + 1))).bind fun t229 => (if bt226.2.1 = t229 then (if bt226.2.2 = 0 then ((silversidelaw07_awake.f kj7).bind fun t230 => (some t230)) else (some false)) else (some false))) else (some false))) else (if bt224.1.toList = ([] : List UInt8) then (if bt224.2 = 70 then ((silversidelaw07_awake.f kj7).bind fun t231 => (some t231)) else (some false)) else (some false))))) = some r := by rw [if_neg (show ¬ (false = true) by decide)] at H; exact H
      clear H
      have H := H1
      clear H1
      replace H := Option.bind_eq_some_iff.mp H
      obtain ⟨t223, A170, H⟩ := H
      replace H : ((find_Restore.f sa0_ t223).bind fun bt224 => (if bt224.2 = 0 then ((find_Turn.f bt224.1).bind fun bt226 => (if bt226.1.toList = sa0_.toList then ((silversidelaw07_mod.f a1 (wrap64 ((sa0_.size : Int) + 1))).bind fun t229 => (if bt226.2.1 = t229 then (if bt226.2.2 = 0 then ((silversidelaw07_awake.f kj7).bind fun t230 => (some t230)) else (some false)) else (some false))) else (some false))) else (if bt224.1.toList = ([] : List UInt8) then (if bt224.2 = 70 then ((silversidelaw07_awake.f kj7).bind fun t231 => (some t231)) else (some false)) else (some false)))) = some r := H
      have A17 := Aside0.mk A170
      clear A170
      replace H := Option.bind_eq_some_iff.mp H
      obtain ⟨⟨t224, t225⟩, A180, H⟩ := H
      replace H : (if t225 = 0 then ((find_Turn.f t224).bind fun bt226 => (if bt226.1.toList = sa0_.toList then ((silversidelaw07_mod.f a1 (wrap64 ((sa0_.size : Int) + 1))).bind fun t229 => (if bt226.2.1 = t229 then (if bt226.2.2 = 0 then ((silversidelaw07_awake.f kj7).bind fun t230 => (some t230)) else (some false)) else (some false))) else (some false))) else (if t224.toList = ([] : List UInt8) then (if t225 = 70 then ((silversidelaw07_awake.f kj7).bind fun t231 => (some t231)) else (some false)) else (some false))) = some r := H
      have A18 := Aside0.mk A180
      clear A180
      by_cases c19 : t225 = 0
      ·rw [if_pos c19] at H
       have c19b0 : (t225 == 0) = true := beq_iff_eq.mpr c19
       have c19b1 : (t225 != 0) = false := bne_eq_false_iff_eq.mpr c19
       clear c19
       replace H := Option.bind_eq_some_iff.mp H
       obtain ⟨⟨t226, t227, t228⟩, A200, H⟩ := H
       replace H : (if t226.toList = sa0_.toList then ((silversidelaw07_mod.f a1 (wrap64 ((sa0_.size : Int) + 1))).bind fun t229 => (if t227 = t229 then (if t228 = 0 then ((silversidelaw07_awake.f kj7).bind fun t230 => (some t230)) else (some false)) else (some false))) else (some false)) = some r := H
       have A20 := Aside0.mk A200
       clear A200
       by_cases c21 : t226.toList = sa0_.toList
       ·rw [if_pos c21] at H
        have c21b0 : (t226.toList == sa0_.toList) = true := beq_iff_eq.mpr c21
        have c21b1 : (t226.toList != sa0_.toList) = false := bne_eq_false_iff_eq.mpr c21
        clear c21
        replace H := Option.bind_eq_some_iff.mp H
        obtain ⟨t229, A220, H⟩ := H
        replace H : (if t227 = t229 then (if t228 = 0 then ((silversidelaw07_awake.f kj7).bind fun t230 => (some t230)) else (some false)) else (some false)) = some r := H
        have A22 := Aside0.mk A220
        clear A220
        by_cases c23 : t227 = t229
        ·rw [if_pos c23] at H
         have c23b0 : (t227 == t229) = true := beq_iff_eq.mpr c23
         have c23b1 : (t227 != t229) = false := bne_eq_false_iff_eq.mpr c23
         clear c23
         by_cases c24 : t228 = 0
         ·rw [if_pos c24] at H
          have c24b0 : (t228 == 0) = true := beq_iff_eq.mpr c24
          have c24b1 : (t228 != 0) = false := bne_eq_false_iff_eq.mpr c24
          clear c24
          replace H := Option.bind_eq_some_iff.mp H
          obtain ⟨t230, A250, H⟩ := H
          replace H : (some t230) = some r := H
          have A25 := Aside0.mk A250
          clear A250
          obtain rfl := Option.some.inj H
          go_wp2_with (first | ((with_reducible refine gate_callee (f := 27) rfl ?_); refine goesL_ (some 66) rfl rfl Try.func27 (by kernel_rfl) rfl #[.int .i64 a1, .int .i64 ((sa0_.size : Int) + 1)] rfl (by (try simp only [List.map_toArray, List.map_cons, List.map_nil]); first | done | (rw [hsa0_w]; rfl) | (simp only [hji3]; rfl) | rfl | (simp only [List.length_drop, List.length_take]; rfl)) ?_; (with_reducible refine (silversidelaw07_mod.calls a1 ((sa0_.size : Int) + 1) t223 _ (by have h_ := A17.out; rw [hsa0_w] at h_; exact h_)).mono ?_); rintro e w' ⟨rfl, ⟨nd, rfl⟩⟩; refine ⟨_, rfl, ?_⟩) | ((with_reducible refine gate_callee (f := 25) rfl ?_); refine goesL_ (some 67) rfl rfl Try.func25 (by kernel_rfl) rfl #[.string sa0_, .int .i64 t223] rfl (by (try simp only [List.map_toArray, List.map_cons, List.map_nil]); first | done | (rw [hsa0_w]; rfl) | (simp only [hji3]; rfl) | rfl | (simp only [List.length_drop, List.length_take]; rfl)) ?_; (with_reducible refine (find_Restore.calls sa0_ t223 t224 t225 _ A18.out).mono ?_); rintro e w26 ⟨rfl, hb⟩; refine ⟨_, rfl, ?_⟩; have n0_ := Aside0.mk (below_step (by repeat (first | (with_reducible first | exact HB.out | apply below_alloc | apply pw_below_drewN | apply below_drew1) | exact HB.out)) hb); clear HB; have HB := n0_; clear n0_; (try clear hb); (try clear hb2); (try clear hk); (try clear hi)) | ((with_reducible refine gate_callee (f := 23) rfl ?_); refine goesL_ (some 83) rfl rfl Try.func23 (by kernel_rfl) rfl #[.string t224] rfl (by (try simp only [List.map_toArray, List.map_cons, List.map_nil]); first | done | rfl | (simp only [List.length_drop, List.length_take]; rfl)) ?_; (with_reducible refine (find_Turn.calls t224 t226 t227 t228 _ A20.out).mono ?_); rintro e w27 ⟨rfl, hb⟩; refine ⟨_, rfl, ?_⟩; have n0_ := Aside0.mk (below_step (by repeat (first | (with_reducible first | exact HB.out | apply below_alloc | apply pw_below_drewN | apply below_drew1) | exact HB.out)) hb); clear HB; have HB := n0_; clear n0_; (try clear hb); (try clear hb2); (try clear hk); (try clear hi)) | (go_at_call 27; (with_reducible refine (silversidelaw07_mod.calls a1 ((sa0_.size : Int) + 1) t229 _ (by have h_ := A22.out; rw [hsa0_w] at h_; exact h_)).mono ?_); rintro e w' ⟨rfl, ⟨nd, rfl⟩⟩) | (go_at_call 21; (with_reducible refine (silversidelaw07_awake.calls kj7  t230 _ A25.out).mono ?_); rintro e w28 ⟨rfl, hb⟩; have n0_ := Aside0.mk (below_step (by repeat (first | (with_reducible first | exact HB.out | apply below_alloc | apply pw_below_drewN | apply below_drew1) | exact HB.out)) hb); clear HB; have HB := n0_; clear n0_; (try clear hb); (try clear hb2); (try clear hk); (try clear hi)))
          go_ret
          exact ⟨by first | rfl | (simp [errW_none, errW_some] <;> rfl) | (simp only [← hji3]; first | rfl | (simp [errW_none, errW_some] <;> rfl)) | (simp [*, errW_none, errW_some] <;> rfl), by repeat (first | (with_reducible first | exact HB.out | apply below_alloc | apply pw_below_drewN | apply below_drew1) | exact HB.out)⟩
         ·rw [if_neg c24] at H
          have c24b0 : (t228 == 0) = false := beq_eq_false_iff_ne.mpr c24
          have c24b1 : (t228 != 0) = true := bne_iff_ne.mpr c24
          obtain rfl := Option.some.inj H
          go_wp2_with (first | ((with_reducible refine gate_callee (f := 27) rfl ?_); refine goesL_ (some 66) rfl rfl Try.func27 (by kernel_rfl) rfl #[.int .i64 a1, .int .i64 ((sa0_.size : Int) + 1)] rfl (by (try simp only [List.map_toArray, List.map_cons, List.map_nil]); first | done | (rw [hsa0_w]; rfl) | (simp only [hji3]; rfl) | rfl | (simp only [List.length_drop, List.length_take]; rfl)) ?_; (with_reducible refine (silversidelaw07_mod.calls a1 ((sa0_.size : Int) + 1) t223 _ (by have h_ := A17.out; rw [hsa0_w] at h_; exact h_)).mono ?_); rintro e w' ⟨rfl, ⟨nd, rfl⟩⟩; refine ⟨_, rfl, ?_⟩) | ((with_reducible refine gate_callee (f := 25) rfl ?_); refine goesL_ (some 67) rfl rfl Try.func25 (by kernel_rfl) rfl #[.string sa0_, .int .i64 t223] rfl (by (try simp only [List.map_toArray, List.map_cons, List.map_nil]); first | done | (rw [hsa0_w]; rfl) | (simp only [hji3]; rfl) | rfl | (simp only [List.length_drop, List.length_take]; rfl)) ?_; (with_reducible refine (find_Restore.calls sa0_ t223 t224 t225 _ A18.out).mono ?_); rintro e w29 ⟨rfl, hb⟩; refine ⟨_, rfl, ?_⟩; have n0_ := Aside0.mk (below_step (by repeat (first | (with_reducible first | exact HB.out | apply below_alloc | apply pw_below_drewN | apply below_drew1) | exact HB.out)) hb); clear HB; have HB := n0_; clear n0_; (try clear hb); (try clear hb2); (try clear hk); (try clear hi)) | ((with_reducible refine gate_callee (f := 23) rfl ?_); refine goesL_ (some 83) rfl rfl Try.func23 (by kernel_rfl) rfl #[.string t224] rfl (by (try simp only [List.map_toArray, List.map_cons, List.map_nil]); first | done | rfl | (simp only [List.length_drop, List.length_take]; rfl)) ?_; (with_reducible refine (find_Turn.calls t224 t226 t227 t228 _ A20.out).mono ?_); rintro e w30 ⟨rfl, hb⟩; refine ⟨_, rfl, ?_⟩; have n0_ := Aside0.mk (below_step (by repeat (first | (with_reducible first | exact HB.out | apply below_alloc | apply pw_below_drewN | apply below_drew1) | exact HB.out)) hb); clear HB; have HB := n0_; clear n0_; (try clear hb); (try clear hb2); (try clear hk); (try clear hi)) | (go_at_call 27; (with_reducible refine (silversidelaw07_mod.calls a1 ((sa0_.size : Int) + 1) t229 _ (by have h_ := A22.out; rw [hsa0_w] at h_; exact h_)).mono ?_); rintro e w' ⟨rfl, ⟨nd, rfl⟩⟩))
          go_ret
          exact ⟨by first | rfl | (simp [errW_none, errW_some] <;> rfl) | (simp only [← hji3]; first | rfl | (simp [errW_none, errW_some] <;> rfl)) | (simp [*, errW_none, errW_some] <;> rfl), by repeat (first | (with_reducible first | exact HB.out | apply below_alloc | apply pw_below_drewN | apply below_drew1) | exact HB.out)⟩
        ·rw [if_neg c23] at H
         have c23b0 : (t227 == t229) = false := beq_eq_false_iff_ne.mpr c23
         have c23b1 : (t227 != t229) = true := bne_iff_ne.mpr c23
         obtain rfl := Option.some.inj H
         go_wp2_with (first | ((with_reducible refine gate_callee (f := 27) rfl ?_); refine goesL_ (some 66) rfl rfl Try.func27 (by kernel_rfl) rfl #[.int .i64 a1, .int .i64 ((sa0_.size : Int) + 1)] rfl (by (try simp only [List.map_toArray, List.map_cons, List.map_nil]); first | done | (rw [hsa0_w]; rfl) | (simp only [hji3]; rfl) | rfl | (simp only [List.length_drop, List.length_take]; rfl)) ?_; (with_reducible refine (silversidelaw07_mod.calls a1 ((sa0_.size : Int) + 1) t223 _ (by have h_ := A17.out; rw [hsa0_w] at h_; exact h_)).mono ?_); rintro e w' ⟨rfl, ⟨nd, rfl⟩⟩; refine ⟨_, rfl, ?_⟩) | ((with_reducible refine gate_callee (f := 25) rfl ?_); refine goesL_ (some 67) rfl rfl Try.func25 (by kernel_rfl) rfl #[.string sa0_, .int .i64 t223] rfl (by (try simp only [List.map_toArray, List.map_cons, List.map_nil]); first | done | (rw [hsa0_w]; rfl) | (simp only [hji3]; rfl) | rfl | (simp only [List.length_drop, List.length_take]; rfl)) ?_; (with_reducible refine (find_Restore.calls sa0_ t223 t224 t225 _ A18.out).mono ?_); rintro e w31 ⟨rfl, hb⟩; refine ⟨_, rfl, ?_⟩; have n0_ := Aside0.mk (below_step (by repeat (first | (with_reducible first | exact HB.out | apply below_alloc | apply pw_below_drewN | apply below_drew1) | exact HB.out)) hb); clear HB; have HB := n0_; clear n0_; (try clear hb); (try clear hb2); (try clear hk); (try clear hi)) | ((with_reducible refine gate_callee (f := 23) rfl ?_); refine goesL_ (some 83) rfl rfl Try.func23 (by kernel_rfl) rfl #[.string t224] rfl (by (try simp only [List.map_toArray, List.map_cons, List.map_nil]); first | done | rfl | (simp only [List.length_drop, List.length_take]; rfl)) ?_; (with_reducible refine (find_Turn.calls t224 t226 t227 t228 _ A20.out).mono ?_); rintro e w32 ⟨rfl, hb⟩; refine ⟨_, rfl, ?_⟩; have n0_ := Aside0.mk (below_step (by repeat (first | (with_reducible first | exact HB.out | apply below_alloc | apply pw_below_drewN | apply below_drew1) | exact HB.out)) hb); clear HB; have HB := n0_; clear n0_; (try clear hb); (try clear hb2); (try clear hk); (try clear hi)) | (go_at_call 27; (with_reducible refine (silversidelaw07_mod.calls a1 ((sa0_.size : Int) + 1) t229 _ (by have h_ := A22.out; rw [hsa0_w] at h_; exact h_)).mono ?_); rintro e w' ⟨rfl, ⟨nd, rfl⟩⟩))
         go_ret
         exact ⟨by first | rfl | (simp [errW_none, errW_some] <;> rfl) | (simp only [← hji3]; first | rfl | (simp [errW_none, errW_some] <;> rfl)) | (simp [*, errW_none, errW_some] <;> rfl), by repeat (first | (with_reducible first | exact HB.out | apply below_alloc | apply pw_below_drewN | apply below_drew1) | exact HB.out)⟩
       ·rw [if_neg c21] at H
        have c21b0 : (t226.toList == sa0_.toList) = false := beq_eq_false_iff_ne.mpr c21
        have c21b1 : (t226.toList != sa0_.toList) = true := bne_iff_ne.mpr c21
        obtain rfl := Option.some.inj H
        go_wp2_with (first | ((with_reducible refine gate_callee (f := 27) rfl ?_); refine goesL_ (some 66) rfl rfl Try.func27 (by kernel_rfl) rfl #[.int .i64 a1, .int .i64 ((sa0_.size : Int) + 1)] rfl (by (try simp only [List.map_toArray, List.map_cons, List.map_nil]); first | done | (rw [hsa0_w]; rfl) | (simp only [hji3]; rfl) | rfl | (simp only [List.length_drop, List.length_take]; rfl)) ?_; (with_reducible refine (silversidelaw07_mod.calls a1 ((sa0_.size : Int) + 1) t223 _ (by have h_ := A17.out; rw [hsa0_w] at h_; exact h_)).mono ?_); rintro e w' ⟨rfl, ⟨nd, rfl⟩⟩; refine ⟨_, rfl, ?_⟩) | ((with_reducible refine gate_callee (f := 25) rfl ?_); refine goesL_ (some 67) rfl rfl Try.func25 (by kernel_rfl) rfl #[.string sa0_, .int .i64 t223] rfl (by (try simp only [List.map_toArray, List.map_cons, List.map_nil]); first | done | (rw [hsa0_w]; rfl) | (simp only [hji3]; rfl) | rfl | (simp only [List.length_drop, List.length_take]; rfl)) ?_; (with_reducible refine (find_Restore.calls sa0_ t223 t224 t225 _ A18.out).mono ?_); rintro e w33 ⟨rfl, hb⟩; refine ⟨_, rfl, ?_⟩; have n0_ := Aside0.mk (below_step (by repeat (first | (with_reducible first | exact HB.out | apply below_alloc | apply pw_below_drewN | apply below_drew1) | exact HB.out)) hb); clear HB; have HB := n0_; clear n0_; (try clear hb); (try clear hb2); (try clear hk); (try clear hi)) | ((with_reducible refine gate_callee (f := 23) rfl ?_); refine goesL_ (some 83) rfl rfl Try.func23 (by kernel_rfl) rfl #[.string t224] rfl (by (try simp only [List.map_toArray, List.map_cons, List.map_nil]); first | done | rfl | (simp only [List.length_drop, List.length_take]; rfl)) ?_; (with_reducible refine (find_Turn.calls t224 t226 t227 t228 _ A20.out).mono ?_); rintro e w34 ⟨rfl, hb⟩; refine ⟨_, rfl, ?_⟩; have n0_ := Aside0.mk (below_step (by repeat (first | (with_reducible first | exact HB.out | apply below_alloc | apply pw_below_drewN | apply below_drew1) | exact HB.out)) hb); clear HB; have HB := n0_; clear n0_; (try clear hb); (try clear hb2); (try clear hk); (try clear hi)))
        go_ret
        exact ⟨by first | rfl | (simp [errW_none, errW_some] <;> rfl) | (simp only [← hji3]; first | rfl | (simp [errW_none, errW_some] <;> rfl)) | (simp [*, errW_none, errW_some] <;> rfl), by repeat (first | (with_reducible first | exact HB.out | apply below_alloc | apply pw_below_drewN | apply below_drew1) | exact HB.out)⟩
      ·rw [if_neg c19] at H
       have c19b0 : (t225 == 0) = false := beq_eq_false_iff_ne.mpr c19
       have c19b1 : (t225 != 0) = true := bne_iff_ne.mpr c19
       by_cases c35 : t224.toList = ([] : List UInt8)
       ·rw [if_pos c35] at H
        have c35b0 : (t224.toList == ([] : List UInt8)) = true := beq_iff_eq.mpr c35
        have c35b1 : (t224.toList != ([] : List UInt8)) = false := bne_eq_false_iff_eq.mpr c35
        clear c35
        by_cases c36 : t225 = 70
        ·rw [if_pos c36] at H
         have c36b0 : (t225 == 70) = true := beq_iff_eq.mpr c36
         have c36b1 : (t225 != 70) = false := bne_eq_false_iff_eq.mpr c36
         clear c36
         replace H := Option.bind_eq_some_iff.mp H
         obtain ⟨t231, A370, H⟩ := H
         replace H : (some t231) = some r := H
         have A37 := Aside0.mk A370
         clear A370
         obtain rfl := Option.some.inj H
         go_wp2_with (first | ((with_reducible refine gate_callee (f := 27) rfl ?_); refine goesL_ (some 66) rfl rfl Try.func27 (by kernel_rfl) rfl #[.int .i64 a1, .int .i64 ((sa0_.size : Int) + 1)] rfl (by (try simp only [List.map_toArray, List.map_cons, List.map_nil]); first | done | (rw [hsa0_w]; rfl) | (simp only [hji3]; rfl) | rfl | (simp only [List.length_drop, List.length_take]; rfl)) ?_; (with_reducible refine (silversidelaw07_mod.calls a1 ((sa0_.size : Int) + 1) t223 _ (by have h_ := A17.out; rw [hsa0_w] at h_; exact h_)).mono ?_); rintro e w' ⟨rfl, ⟨nd, rfl⟩⟩; refine ⟨_, rfl, ?_⟩) | ((with_reducible refine gate_callee (f := 25) rfl ?_); refine goesL_ (some 67) rfl rfl Try.func25 (by kernel_rfl) rfl #[.string sa0_, .int .i64 t223] rfl (by (try simp only [List.map_toArray, List.map_cons, List.map_nil]); first | done | (rw [hsa0_w]; rfl) | (simp only [hji3]; rfl) | rfl | (simp only [List.length_drop, List.length_take]; rfl)) ?_; (with_reducible refine (find_Restore.calls sa0_ t223 t224 t225 _ A18.out).mono ?_); rintro e w38 ⟨rfl, hb⟩; refine ⟨_, rfl, ?_⟩; have n0_ := Aside0.mk (below_step (by repeat (first | (with_reducible first | exact HB.out | apply below_alloc | apply pw_below_drewN | apply below_drew1) | exact HB.out)) hb); clear HB; have HB := n0_; clear n0_; (try clear hb); (try clear hb2); (try clear hk); (try clear hi)) | (go_at_call 21; (with_reducible refine (silversidelaw07_awake.calls kj7  t231 _ A37.out).mono ?_); rintro e w39 ⟨rfl, hb⟩; have n0_ := Aside0.mk (below_step (by repeat (first | (with_reducible first | exact HB.out | apply below_alloc | apply pw_below_drewN | apply below_drew1) | exact HB.out)) hb); clear HB; have HB := n0_; clear n0_; (try clear hb); (try clear hb2); (try clear hk); (try clear hi)))
         go_ret
         exact ⟨by first | rfl | (simp [errW_none, errW_some] <;> rfl) | (simp only [← hji3]; first | rfl | (simp [errW_none, errW_some] <;> rfl)) | (simp [*, errW_none, errW_some] <;> rfl), by repeat (first | (with_reducible first | exact HB.out | apply below_alloc | apply pw_below_drewN | apply below_drew1) | exact HB.out)⟩
        ·rw [if_neg c36] at H
         have c36b0 : (t225 == 70) = false := beq_eq_false_iff_ne.mpr c36
         have c36b1 : (t225 != 70) = true := bne_iff_ne.mpr c36
         obtain rfl := Option.some.inj H
         go_wp2_with (first | ((with_reducible refine gate_callee (f := 27) rfl ?_); refine goesL_ (some 66) rfl rfl Try.func27 (by kernel_rfl) rfl #[.int .i64 a1, .int .i64 ((sa0_.size : Int) + 1)] rfl (by (try simp only [List.map_toArray, List.map_cons, List.map_nil]); first | done | (rw [hsa0_w]; rfl) | (simp only [hji3]; rfl) | rfl | (simp only [List.length_drop, List.length_take]; rfl)) ?_; (with_reducible refine (silversidelaw07_mod.calls a1 ((sa0_.size : Int) + 1) t223 _ (by have h_ := A17.out; rw [hsa0_w] at h_; exact h_)).mono ?_); rintro e w' ⟨rfl, ⟨nd, rfl⟩⟩; refine ⟨_, rfl, ?_⟩) | ((with_reducible refine gate_callee (f := 25) rfl ?_); refine goesL_ (some 67) rfl rfl Try.func25 (by kernel_rfl) rfl #[.string sa0_, .int .i64 t223] rfl (by (try simp only [List.map_toArray, List.map_cons, List.map_nil]); first | done | (rw [hsa0_w]; rfl) | (simp only [hji3]; rfl) | rfl | (simp only [List.length_drop, List.length_take]; rfl)) ?_; (with_reducible refine (find_Restore.calls sa0_ t223 t224 t225 _ A18.out).mono ?_); rintro e w40 ⟨rfl, hb⟩; refine ⟨_, rfl, ?_⟩; have n0_ := Aside0.mk (below_step (by repeat (first | (with_reducible first | exact HB.out | apply below_alloc | apply pw_below_drewN | apply below_drew1) | exact HB.out)) hb); clear HB; have HB := n0_; clear n0_; (try clear hb); (try clear hb2); (try clear hk); (try clear hi)))
         go_ret
         exact ⟨by first | rfl | (simp [errW_none, errW_some] <;> rfl) | (simp only [← hji3]; first | rfl | (simp [errW_none, errW_some] <;> rfl)) | (simp [*, errW_none, errW_some] <;> rfl), by repeat (first | (with_reducible first | exact HB.out | apply below_alloc | apply pw_below_drewN | apply below_drew1) | exact HB.out)⟩
       ·rw [if_neg c35] at H
        have c35b0 : (t224.toList == ([] : List UInt8)) = false := beq_eq_false_iff_ne.mpr c35
        have c35b1 : (t224.toList != ([] : List UInt8)) = true := bne_iff_ne.mpr c35
        obtain rfl := Option.some.inj H
        go_wp2_with (first | ((with_reducible refine gate_callee (f := 27) rfl ?_); refine goesL_ (some 66) rfl rfl Try.func27 (by kernel_rfl) rfl #[.int .i64 a1, .int .i64 ((sa0_.size : Int) + 1)] rfl (by (try simp only [List.map_toArray, List.map_cons, List.map_nil]); first | done | (rw [hsa0_w]; rfl) | (simp only [hji3]; rfl) | rfl | (simp only [List.length_drop, List.length_take]; rfl)) ?_; (with_reducible refine (silversidelaw07_mod.calls a1 ((sa0_.size : Int) + 1) t223 _ (by have h_ := A17.out; rw [hsa0_w] at h_; exact h_)).mono ?_); rintro e w' ⟨rfl, ⟨nd, rfl⟩⟩; refine ⟨_, rfl, ?_⟩) | ((with_reducible refine gate_callee (f := 25) rfl ?_); refine goesL_ (some 67) rfl rfl Try.func25 (by kernel_rfl) rfl #[.string sa0_, .int .i64 t223] rfl (by (try simp only [List.map_toArray, List.map_cons, List.map_nil]); first | done | (rw [hsa0_w]; rfl) | (simp only [hji3]; rfl) | rfl | (simp only [List.length_drop, List.length_take]; rfl)) ?_; (with_reducible refine (find_Restore.calls sa0_ t223 t224 t225 _ A18.out).mono ?_); rintro e w41 ⟨rfl, hb⟩; refine ⟨_, rfl, ?_⟩; have n0_ := Aside0.mk (below_step (by repeat (first | (with_reducible first | exact HB.out | apply below_alloc | apply pw_below_drewN | apply below_drew1) | exact HB.out)) hb); clear HB; have HB := n0_; clear n0_; (try clear hb); (try clear hb2); (try clear hk); (try clear hi)))
        go_ret
        exact ⟨by first | rfl | (simp [errW_none, errW_some] <;> rfl) | (simp only [← hji3]; first | rfl | (simp [errW_none, errW_some] <;> rfl)) | (simp [*, errW_none, errW_some] <;> rfl), by repeat (first | (with_reducible first | exact HB.out | apply below_alloc | apply pw_below_drewN | apply below_drew1) | exact HB.out)⟩
  ·rw [if_neg c5] at H
   exact absurd H (by simp)
 ·rw [if_neg c4] at H
  exact absurd H (by simp)

/-- THE ONE PURE STATEMENT of silversidelaw07_FindBack: yours. -/
def silversidelaw07_FindBack.Pure : Prop := ∀ (a0 : ByteArray) (a1 : Int), a0.size ≤ 140737488351232 → (Lit.int .i64 a1).wf = true → ∃ k, silversidelaw07_FindBack.f k a0 a1 = some true
theorem silversidelaw07_FindBack.walk (P : silversidelaw07_FindBack.Pure) (a0 : ByteArray) (a1 : Int) (w : World) (w0 : a0.size ≤ 140737488351232) (w1 : (Lit.int .i64 a1).wf = true) :
  Calls Try.prog 6 #[.string a0, .int .i64 a1] w fun e w' => e = .returned (.bool true) ∧ Below w.heap.size w w' := by
 obtain ⟨k, h⟩ := P a0 a1 w0 w1
 refine (silversidelaw07_FindBack.calls k a0 a1 true w h).mono ?_
 rintro e w' ⟨rfl, hd⟩
 exact ⟨rfl, hd⟩

end Go.Proofs.Ytppelnlocfcgfaa.P
namespace Go.Proofs.Ytppelnlocfcgfaa.P
open Go.RowKit Go.Proofs.YtppelnlocfcgfaaW.PrintWords Go.Proofs.YtppelnlocfcgfaaW.PrintLast Go.Proofs.YtppelnlocfcgfaaW.PrintMore
open Go.Proofs.Fnd
set_option linter.unusedVariables false
set_option linter.unusedSimpArgs false
theorem lcp_left {s : List UInt8} {x y z l m : Nat} (hx : LtW (s.length + 1) (sq s x) (sq s y)) (hz : LtW (s.length + 1) (sq s y) (sq s z)) (h : IsLcp s x z l) (h' : IsLcp s x y m) : l ≤ m := by
  apply Decidable.byContradiction
  intro q
  have e1 := h.same m (by omega)
  have d1 := h'.diff
  obtain ⟨a, _, a2, a3⟩ := hx
  have ha : a = m := by
    rcases Nat.lt_trichotomy a m with c | c | c
    · have := h'.same a c; omega
    · exact c
    · exact absurd (a2 m c) d1
  subst ha
  obtain ⟨b, _, b2, b3⟩ := hz
  rcases Nat.lt_trichotomy b a with c | c | c
  · have e2 := h.same b (by omega)
    have e3 := h'.same b c
    omega
  · subst c; omega
  · have := b2 a c; omega
theorem lcp_up (s : List UInt8) {a c : Nat} (h : a < c) (hc : c < s.length) : lcp s ((sufOrd s).getD a 0) ((sufOrd s).getD c 0) ≤ (overL s).getD c 0 := by
  rw [overL_at s c hc, if_neg (by omega)]
  by_cases e : a = c - 1
  · subst e; exact Nat.le_refl _
  · have la := ord_lt s a (by omega)
    have lb := ord_lt s (c - 1) (by omega)
    have lc := ord_lt s c hc
    have ne1 : (sufOrd s).getD a 0 ≠ (sufOrd s).getD c 0 := fun q => by have := ord_inj s (by omega) hc q; omega
    have ne2 : (sufOrd s).getD (c - 1) 0 ≠ (sufOrd s).getD c 0 := fun q => by have := ord_inj s (by omega) hc q; omega
    exact lcp_between (fun q => (ord_up s (a := a) (b := c - 1) (by omega) (by omega)).asymm q) (ord_up s (by omega) hc) (lcp_is s _ _ (by omega) (by omega) ne1) (lcp_is s _ _ (by omega) (by omega) ne2)
theorem lcp_dn (s : List UInt8) {a c : Nat} (h : a < c) (hc : c < s.length) : lcp s ((sufOrd s).getD a 0) ((sufOrd s).getD c 0) ≤ (overL s).getD (a + 1) 0 := by
  rw [overL_at s (a + 1) (by omega), if_neg (by omega), Nat.add_sub_cancel]
  by_cases e : c = a + 1
  · subst e; exact Nat.le_refl _
  · have la := ord_lt s a (by omega)
    have lb := ord_lt s (a + 1) (by omega)
    have lc := ord_lt s c hc
    have ne1 : (sufOrd s).getD a 0 ≠ (sufOrd s).getD c 0 := fun q => by have := ord_inj s (by omega) hc q; omega
    have ne2 : (sufOrd s).getD a 0 ≠ (sufOrd s).getD (a + 1) 0 := fun q => by have := ord_inj s (by omega) (by omega) q; omega
    exact lcp_left (ord_up s (by omega) (by omega)) (ord_up s (by omega) hc) (lcp_is s _ _ (by omega) (by omega) ne1) (lcp_is s _ _ (by omega) (by omega) ne2)
/-- the longest that a place shares with another -/
def mxO (s : List UInt8) (i : Nat) : Nat := max ((overL s).getD (rank s i) 0) ((overL s).getD (rank s i + 1) 0)
theorem overL_len (s : List UInt8) : (overL s).length = s.length := by rw [overL, List.length_map, List.length_range]
theorem mxO_most (s : List UInt8) {i j : Nat} (hi : i < s.length) (hj : j < s.length) (h : i ≠ j) : lcp s i j ≤ mxO s i := by
  have ri := rank_lt s i hi
  have rj := rank_lt s j hj
  have ei := ord_rank s i hi
  have ej := ord_rank s j hj
  unfold mxO
  rcases Nat.lt_trichotomy (rank s i) (rank s j) with c | c | c
  · have := lcp_dn s c rj
    rw [ei, ej] at this
    omega
  · rw [c, ej] at ei; exact absurd ei.symm h
  · have := lcp_up s c ri
    rw [ei, ej, lcp_symm s j i (by omega) (by omega) (fun e => h e.symm)] at this
    omega
theorem mxO_some (s : List UInt8) {i : Nat} (hi : i < s.length) : mxO s i = 0 ∨ ∃ j, j < s.length ∧ j ≠ i ∧ lcp s i j = mxO s i := by
  have ri := rank_lt s i hi
  have ei := ord_rank s i hi
  by_cases h0 : mxO s i = 0
  · exact .inl h0
  · refine .inr ?_
    unfold mxO at h0 ⊢
    by_cases h1 : (overL s).getD (rank s i + 1) 0 ≤ (overL s).getD (rank s i) 0
    · have hr : rank s i ≠ 0 := fun e => by
        rw [e] at h1 h0
        rw [overL_at s 0 (by omega), if_pos rfl] at h1 h0
        omega
      refine ⟨(sufOrd s).getD (rank s i - 1) 0, ord_lt s _ (by omega), fun e => ?_, ?_⟩
      · have := ord_inj s (a := rank s i - 1) (b := rank s i) (by omega) ri (by rw [e, ei]); omega
      · have h2 := overL_at s (rank s i) ri
        rw [if_neg hr, ei] at h2
        rw [lcp_symm s i _ (by omega) (by have := ord_lt s (rank s i - 1) (by omega); omega) (fun e => by have := ord_inj s (a := rank s i - 1) (b := rank s i) (by omega) ri (by rw [← e, ei]); omega), ← h2]
        omega
    · have hr : rank s i + 1 < s.length := by
        apply Decidable.byContradiction
        intro q
        have : (overL s).getD (rank s i + 1) 0 = 0 := by rw [List.getD_eq_getElem?_getD, List.getElem?_eq_none (by rw [overL_len]; omega)]; rfl
        omega
      refine ⟨(sufOrd s).getD (rank s i + 1) 0, ord_lt s _ (by omega), fun e => ?_, ?_⟩
      · have := ord_inj s (a := rank s i + 1) (b := rank s i) (by omega) ri (by rw [e, ei]); omega
      · have h2 := overL_at s (rank s i + 1) hr
        rw [if_neg (by omega), Nat.add_sub_cancel, ei] at h2
        rw [← h2]
        omega
theorem mxO_in (s : List UInt8) {i : Nat} (hi : i < s.length) : i + mxO s i ≤ s.length := by
  rcases mxO_some s hi with h | ⟨j, hj, hne, h⟩
  · omega
  · have := (lcp_is s i j (by omega) (by omega) (fun e => hne e.symm)).inside (by omega) (by omega) (fun e => hne e.symm)
    omega
/-- what Shortest answers -/
def shortA (t : ByteArray) (a : Int) : Int × Int :=
  if a < 0 ∨ (t.size : Int) ≤ a then (0, 2) else if t.size ≤ a.toNat + mxO t.data.toList a.toNat then (0, 6) else ((mxO t.data.toList a.toNat : Int) + 1, 0)
theorem mx_nat (a b : Nat) : mx (a : Int) (b : Int) = ((max a b : Nat) : Int) := by unfold mx; split <;> omega
theorem index_l0 (t : ByteArray) (ht : t.size ≤ 4096) (i : Nat) (hi : i < t.size) : ∀ (d k : Nat), k + d = rank t.data.toList i → Ev (fun K => slices_Index_int_int.l0 K (ordI t) (i : Int) (t.size : Int) (k : Int)) (rank t.data.toList i : Int) := by
  have hl := data_length t
  have h4 := ordI_length t
  have hr := rank_lt t.data.toList i (by omega)
  intro d
  induction d with
  | zero =>
    intro k hk
    have hv := rd_ordI t k (by omega)
    refine Ev.step (f := fun _ => some (rank t.data.toList i : Int)) (fun K => ?_) (Ev.now _)
    conv => lhs; unfold slices_Index_int_int.l0
    rw [if_pos (by omega), if_pos (by omega), if_pos (by omega), hv, if_pos]
    · congr 1; omega
    · rw [show k = rank t.data.toList i by omega, ord_rank _ _ (by omega)]
  | succ d ih =>
    intro k hk
    have hv := rd_ordI t k (by omega)
    refine Ev.step (fun K => ?_) (ih (k + 1) (by omega))
    conv => lhs; unfold slices_Index_int_int.l0
    rw [if_pos (by omega), if_pos (by omega), if_pos (by omega), hv, if_neg, w64 (by omega) (by omega)]
    · rfl
    · intro e
      have := rank_ord t.data.toList k (by omega)
      rw [show (sufOrd t.data.toList).getD k 0 = i by omega] at this
      omega
theorem index_ev (t : ByteArray) (ht : t.size ≤ 4096) (i : Nat) (hi : i < t.size) : Ev (fun K => slices_Index_int_int.f K (ordI t) (i : Int)) (rank t.data.toList i : Int) := by
  refine Ev.congr (fun K => ?_) (index_l0 t ht i hi (rank t.data.toList i) 0 (by omega))
  unfold slices_Index_int_int.f
  rw [ordI_length]; rfl
theorem shortest_in (t : ByteArray) (ht : t.size ≤ 4096) (i : Nat) (hi : i < t.size) : Ev (fun K => find_Index_Shortest.j0 K (i : Int) false t (ordI t) (overI t)) (if t.size ≤ i + mxO t.data.toList i then ((0, 6) : Int × Int) else ((mxO t.data.toList i : Int) + 1, 0)) := by
  have hl := data_length t
  have h4 := ordI_length t
  have h5 := overI_length t
  have hr := rank_lt t.data.toList i (by omega)
  have hin := mxO_in t.data.toList (i := i) (by omega)
  have hv := rd_overI t (rank t.data.toList i) (by omega)
  refine Ev.step (fun K => by rw [find_Index_Shortest.j0, if_neg (by simp)]) ?_
  refine Ev.bind (index_ev t ht i hi) ?_
  rw [if_pos (by omega), if_pos (by omega), w64 (x := (rank t.data.toList i : Int) + 1) (by omega) (by omega)]
  have e2 : ((rank t.data.toList i : Nat) : Int) + 1 = ((rank t.data.toList i + 1 : Nat) : Int) := by omega
  by_cases h1 : rank t.data.toList i + 1 < t.size
  · have hv2 := rd_overI t (rank t.data.toList i + 1) h1
    rw [e2, if_pos (by omega), if_pos (by omega), if_pos (by omega), hv, hv2, mx_nat]
    unfold mxO at hin ⊢
    rw [w64 (x := (i : Int) + _) (by omega) (by omega), w64 (by omega) (by omega)]
    by_cases h : t.size ≤ i + max ((overL t.data.toList).getD (rank t.data.toList i) 0) ((overL t.data.toList).getD (rank t.data.toList i + 1) 0)
    · rw [if_pos h, if_pos (by omega)]; exact Ev.now _
    · rw [if_neg h, if_neg (by omega)]; exact Ev.now _
  · have hz : (overL t.data.toList).getD (rank t.data.toList i + 1) 0 = 0 := by rw [List.getD_eq_getElem?_getD, List.getElem?_eq_none (by rw [overL_len]; omega)]; rfl
    rw [e2, if_neg (by omega), hv]
    unfold mxO at hin ⊢
    rw [hz, Nat.max_zero] at hin ⊢
    rw [w64 (x := (i : Int) + _) (by omega) (by omega), w64 (by omega) (by omega)]
    by_cases h : t.size ≤ i + (overL t.data.toList).getD (rank t.data.toList i) 0
    · rw [if_pos h, if_pos (by omega)]; exact Ev.now _
    · rw [if_neg h, if_neg (by omega)]; exact Ev.now _
theorem shortest_ev (t : ByteArray) (ht : t.size ≤ 4096) (a : Int) : Ev (fun K => find_Index_Shortest.f K t (ordI t) (overI t) a) (shortA t a) := by
  unfold find_Index_Shortest.f shortA
  by_cases h1 : a < 0
  · rw [if_pos (.inl h1)]
    refine ev_pos h1 ?_
    refine Ev.step (f := fun _ => some _) (fun K => ?_) (Ev.now _)
    rw [find_Index_Shortest.j0, if_pos rfl]
  · refine ev_neg h1 ?_
    by_cases h2 : (t.size : Int) ≤ a
    · rw [if_pos (.inr h2), decide_eq_true h2]
      refine Ev.step (f := fun _ => some _) (fun K => ?_) (Ev.now _)
      rw [find_Index_Shortest.j0, if_pos rfl]
    · rw [if_neg (by omega), decide_eq_false h2]
      obtain ⟨i, rfl⟩ : ∃ i : Nat, a = (i : Int) := ⟨a.toNat, by omega⟩
      rw [Int.toNat_natCast]
      exact shortest_in t ht i (by omega)
/-- the most that a place shares with the first places -/
structure Most (t : ByteArray) (i k m : Nat) : Prop where
  le : ∀ j, j < k → j ≠ i → lcp t.data.toList i j ≤ m
  is : m = 0 ∨ ∃ j, j < k ∧ j ≠ i ∧ lcp t.data.toList i j = m
theorem Most.all {t : ByteArray} {i m : Nat} (hi : i < t.size) (h : Most t i t.size m) : m = mxO t.data.toList i := by
  have hl := data_length t
  have h1 : m ≤ mxO t.data.toList i := by
    rcases h.is with h | ⟨j, hj, hne, h⟩
    · omega
    · rw [← h]; exact mxO_most _ (by omega) (by omega) (fun e => hne e.symm)
  have h2 : mxO t.data.toList i ≤ m := by
    rcases mxO_some t.data.toList (i := i) (by omega) with h3 | ⟨j, hj, hne, h3⟩
    · omega
    · rw [← h3]; exact h.le j (by omega) hne
  omega
theorem cpl_at (t : ByteArray) {i j : Nat} (hi : i < t.size) (hj : j < t.size) (h : i ≠ j) : cpl (t.data.toList.drop i) (t.data.toList.drop j) = lcp t.data.toList i j := by
  have hl := data_length t
  exact cpl_lcp (lcp_is t.data.toList i j (by omega) (by omega) h)
theorem refshort_l0 (t : ByteArray) (ht : t.size ≤ 4096) (i : Nat) (hi : i < t.size) : ∀ (d k m : Nat), k + d = t.size → Most t i k m → Ev (fun K => silversideref07_Shortest.l0 K t (i : Int) (m : Int) (k : Int)) (if t.size ≤ i + mxO t.data.toList i then ((0, 6) : Int × Int) else ((mxO t.data.toList i : Int) + 1, 0)) := by
  have hl := data_length t
  have hin := mxO_in t.data.toList (i := i) (by omega)
  intro d
  induction d with
  | zero =>
    intro k m hk hm
    obtain rfl : k = t.size := by omega
    have e := hm.all hi
    subst e
    refine Ev.step (f := fun _ => some _) (fun K => ?_) (Ev.now _)
    conv => lhs; unfold silversideref07_Shortest.l0
    rw [if_neg (by omega), w64 (x := (i : Int) + _) (by omega) (by omega), w64 (by omega) (by omega)]
    by_cases h : t.size ≤ i + mxO t.data.toList i
    · rw [if_pos h, if_pos (by omega)]
    · rw [if_neg h, if_neg (by omega)]
  | succ d ih =>
    intro k m hk hm
    by_cases e : k = i
    · subst e
      have h := ih (k + 1) m (by omega) ⟨fun j hj hne => hm.le j (by omega) hne, by
        rcases hm.is with h | ⟨j, hj, hne, h⟩
        · exact .inl h
        · exact .inr ⟨j, by omega, hne, h⟩⟩
      refine Ev.step (fun K => ?_) h
      conv => lhs; unfold silversideref07_Shortest.l0
      rw [if_pos (by omega), if_pos rfl, w64 (by omega) (by omega)]
      rfl
    · have hc := common_ev t t (by omega) (by omega) i k (by omega) (by omega)
      rw [cpl_at t hi (by omega) (fun q => e q.symm)] at hc
      have h := ih (k + 1) (max m (lcp t.data.toList i k)) (by omega) ⟨fun j hj hne => by
        by_cases e2 : j = k
        · subst e2; omega
        · have := hm.le j (by omega) hne; omega, by
        by_cases e2 : m ≤ lcp t.data.toList i k
        · exact .inr ⟨k, by omega, e, by omega⟩
        · rcases hm.is with h | ⟨j, hj, hne, h⟩
          · omega
          · exact .inr ⟨j, by omega, hne, by omega⟩⟩
      rw [← mx_nat] at h
      refine Ev.step (fun K => ?_) (Ev.bind hc h (f := fun K x => silversideref07_Shortest.l0 K t (i : Int) (mx (m : Int) x) ((k + 1 : Nat) : Int)))
      conv => lhs; unfold silversideref07_Shortest.l0
      rw [if_pos (by omega), if_neg (by omega), w64 (by omega) (by omega)]
      rfl
theorem refshort_ev (t : ByteArray) (ht : t.size ≤ 4096) (a : Int) : Ev (fun K => silversideref07_Shortest.f K t a) (shortA t a) := by
  unfold silversideref07_Shortest.f shortA
  by_cases h1 : a < 0
  · rw [if_pos (.inl h1)]
    refine ev_pos h1 ?_
    refine Ev.step (f := fun _ => some _) (fun K => ?_) (Ev.now _)
    rw [silversideref07_Shortest.j0, if_pos rfl]
  · refine ev_neg h1 ?_
    by_cases h2 : (t.size : Int) ≤ a
    · rw [if_pos (.inr h2), decide_eq_true h2]
      refine Ev.step (f := fun _ => some _) (fun K => ?_) (Ev.now _)
      rw [silversideref07_Shortest.j0, if_pos rfl]
    · rw [if_neg (by omega), decide_eq_false h2]
      obtain ⟨i, rfl⟩ : ∃ i : Nat, a = (i : Int) := ⟨a.toNat, by omega⟩
      rw [Int.toNat_natCast]
      refine Ev.step (fun K => ?_) (refshort_l0 t ht i (by omega) t.size 0 0 (by omega) ⟨fun j hj => by omega, .inl rfl⟩)
      rw [silversideref07_Shortest.j0, if_neg (by simp)]
      rfl
end Go.Proofs.Ytppelnlocfcgfaa.P
namespace Go.Proofs.Ytppelnlocfcgfaa.P
open Go.RowKit Go.Proofs.YtppelnlocfcgfaaW.PrintWords Go.Proofs.YtppelnlocfcgfaaW.PrintLast Go.Proofs.YtppelnlocfcgfaaW.PrintMore
open Go.Proofs.Fnd
set_option linter.unusedVariables false
set_option linter.unusedSimpArgs false
theorem inc_ge {f : Nat → Nat} {n : Nat} (h : ∀ i j, i < j → j < n → f i < f j) : ∀ k, k < n → k ≤ f k
  | 0, _ => Nat.zero_le _
  | k + 1, hk => by have := inc_ge h k (by omega); have := h k (k + 1) (by omega) hk; omega
theorem inc_le {f : Nat → Nat} {n : Nat} (h : ∀ i j, i < j → j < n → f i < f j) (hb : ∀ k, k < n → f k < n) : ∀ d k, k + d + 1 = n → f k ≤ k
  | 0, k, hk => by have := hb k (by omega); omega
  | d + 1, k, hk => by have := inc_le h hb d (k + 1) (by omega); have := h k (k + 1) (by omega) (by omega); omega
theorem inc_id {f : Nat → Nat} {n : Nat} (h : ∀ i j, i < j → j < n → f i < f j) (hb : ∀ k, k < n → f k < n) (k : Nat) (hk : k < n) : f k = k := by
  have := inc_ge h k hk
  have := inc_le h hb (n - 1 - k) k (by omega)
  omega
/-- the stable order of a text's places -/
theorem less_mono (s : List UInt8) {c d : Nat} (h : c ≤ d) : less s c ≤ less s d := by
  unfold less
  refine List.countP_mono_left fun x _ hx => ?_
  simp at hx ⊢; omega
theorem less_occ (s : List UInt8) {c d : Nat} (h : c < d) : less s c + occ s s.length c ≤ less s d := by
  have h1 := less_mono s (show c + 1 ≤ d from h)
  rw [less_succ] at h1
  exact h1
theorem pos_up (s : List UInt8) {i j : Nat} (hi : i < s.length) (hj : j < s.length) (h : (s[i]).toNat < (s[j]).toNat ∨ (s[i]).toNat = (s[j]).toNat ∧ i < j) : pos s i < pos s j := by
  rw [pos_eq s i hi, pos_eq s j hj]
  rcases h with h | ⟨h, hij⟩
  · have h1 := less_occ s h
    have h2 := occ_succ s i (s[i]).toNat hi
    have h3 := occ_mono s (s[i]).toNat (show i + 1 ≤ s.length from hi) (Nat.le_refl _)
    simp at h2
    omega
  · rw [h]
    have h2 := occ_succ s i (s[j]).toNat hi
    rw [if_pos h] at h2
    have h3 := occ_mono s (s[j]).toNat (show i + 1 ≤ j from hij) (by omega)
    omega
theorem bix_up {r q m : Nat} (hr : r ≠ m) (hq : q ≠ m) (h : r < q) : bix r m < bix q m := by
  unfold bix; split <;> split <;> omega
/-- where the rotation that begins at a place stands -/
structure Rows (T v : List UInt8) (m : Nat) (ρ : Nat → Nat) : Prop where
  len : T.length = v.length
  le : ∀ i, i ≤ v.length → ρ i ≤ v.length
  inj : ∀ i j, i ≤ v.length → j ≤ v.length → ρ i = ρ j → i = j
  last : ρ v.length = 0
  first : ρ 0 = m
  at_ : ∀ i, i < v.length → T.getD (bix (ρ (i + 1)) m) 0 = v.getD i 0
/-- the step of the order -/
theorem suf_step (v : List UInt8) {i j : Nat} (hi : i < v.length) (hj : j < v.length) (h : LtW (v.length + 1) (sq v i) (sq v j)) : (v.getD i 0).toNat < (v.getD j 0).toNat ∨ (v.getD i 0).toNat = (v.getD j 0).toNat ∧ LtW (v.length + 1) (sq v (i + 1)) (sq v (j + 1)) := by
  have ci : sq v i 0 = (v.getD i 0).toNat + 1 := by rw [sq, Nat.add_zero, ch_lt v i hi, List.getD_eq_getElem?_getD, List.getElem?_eq_getElem hi]; rfl
  have cj : sq v j 0 = (v.getD j 0).toNat + 1 := by rw [sq, Nat.add_zero, ch_lt v j hj, List.getD_eq_getElem?_getD, List.getElem?_eq_getElem hj]; rfl
  obtain ⟨q, h1, h2, h3⟩ := h
  rcases q with _ | q
  · left; omega
  · right
    have h0 := h2 0 (by omega)
    refine ⟨by omega, q, by omega, fun t ht => ?_, ?_⟩
    · have := h2 (t + 1) (by omega)
      unfold sq at this ⊢
      rw [show i + 1 + t = i + (t + 1) by omega, show j + 1 + t = j + (t + 1) by omega]; exact this
    · unfold sq at h3 ⊢
      rw [show i + 1 + q = i + (q + 1) by omega, show j + 1 + q = j + (q + 1) by omega]; exact h3
theorem suf_end (v : List UInt8) {j : Nat} (hj : j < v.length) : LtW (v.length + 1) (sq v v.length) (sq v j) :=
  ⟨0, by omega, fun t ht => by omega, by unfold sq; rw [Nat.add_zero, Nat.add_zero, ch_ge v v.length (Nat.le_refl _), ch_lt v j hj]; omega⟩
theorem rank_zero_mark (s : List UInt8) (h : 0 < s.length) : ∀ k, k ≤ s.length → markN (sufOrd s) k = if rank s 0 < k then rank s 0 + 1 else 0 := by
  intro k
  induction k with
  | zero => intro _; rw [if_neg (by omega)]; rfl
  | succ k ih =>
    intro hk
    have ih := ih (by omega)
    by_cases e : (sufOrd s).getD k 0 = 0
    · rw [markN_hit e]
      have := rank_ord s k (by omega)
      rw [e] at this
      rw [if_pos (by omega), this]
    · rw [markN_miss e, ih]
      have : k ≠ rank s 0 := fun q => e (by rw [q]; exact ord_rank s 0 h)
      by_cases c : rank s 0 < k
      · rw [if_pos c, if_pos (by omega)]
      · rw [if_neg c, if_neg (by omega)]
theorem bmark_eq (s : List UInt8) (h : 0 < s.length) : bmark s = rank s 0 + 1 := by
  rw [bmark, rank_zero_mark s h _ (Nat.le_refl _), if_pos (rank_lt s 0 h)]
/-- the row of the rotation that begins at i -/
def rho (s : List UInt8) (i : Nat) : Nat := if i < s.length then rank s i + 1 else 0
theorem accN_at (s : List UInt8) (h : 0 < s.length) : ∀ k, k ≤ s.length → (accN s (sufOrd s) k).length = bix (k + 1) (bmark s) ∧ ∀ r, r ≤ k → r ≠ bmark s → (accN s (sufOrd s) k).getD (bix r (bmark s)) 0 = if r = 0 then s.getD (s.length - 1) 0 else s.getD ((sufOrd s).getD (r - 1) 0 - 1) 0 := by
  have hm := bmark_eq s h
  intro k
  induction k with
  | zero =>
    intro _
    refine ⟨by unfold bix; rw [if_neg (by omega)]; rfl, fun r hr hne => ?_⟩
    obtain rfl : r = 0 := by omega
    rw [bix_zero, if_pos rfl]; rfl
  | succ k ih =>
    intro hk
    obtain ⟨h1, h2⟩ := ih (by omega)
    by_cases e : (sufOrd s).getD k 0 = 0
    · have hr := rank_ord s k (by omega)
      rw [e] at hr
      have hmk : k + 1 = bmark s := by omega
      rw [accN_skip e]
      refine ⟨by rw [h1, hmk, bix_mark, bix_self], fun r hr hne => h2 r (by omega) hne⟩
    · have hne : k + 1 ≠ bmark s := fun q => e (by rw [show k = rank s 0 by omega]; exact ord_rank s 0 h)
      rw [accN_take e]
      refine ⟨by rw [List.length_append, h1, bix_next hne]; rfl, fun r hr hner => ?_⟩
      by_cases c : r = k + 1
      · subst c
        rw [List.getD_eq_getElem?_getD, List.getElem?_append_right (by omega), h1, Nat.sub_self, if_neg (by omega)]
        rfl
      · have hlt : bix r (bmark s) < bix (k + 1) (bmark s) := bix_up hner hne (by omega)
        rw [List.getD_eq_getElem?_getD, List.getElem?_append_left (by omega), ← List.getD_eq_getElem?_getD]
        exact h2 r (by omega) hner
theorem rho_inj (s : List UInt8) {i j : Nat} (hi : i ≤ s.length) (hj : j ≤ s.length) (h : rho s i = rho s j) : i = j := by
  unfold rho at h
  by_cases c : i < s.length
  · rw [if_pos c] at h
    by_cases d : j < s.length
    · rw [if_pos d] at h
      have e1 := ord_rank s i c
      have e2 := ord_rank s j d
      rw [show rank s i = rank s j by omega, e2] at e1
      exact e1.symm
    · rw [if_neg d] at h; omega
  · rw [if_neg c] at h
    by_cases d : j < s.length
    · rw [if_pos d] at h; omega
    · omega
/-- the turned text's rows -/
theorem turn_rows (s : List UInt8) (h : 0 < s.length) : Rows (bwt s) s (bmark s) (rho s) := by
  have hm := bmark_eq s h
  have hr := rank_lt s 0 h
  obtain ⟨h1, h2⟩ := accN_at s h s.length (Nat.le_refl _)
  refine ⟨by rw [bwt, h1, bix_end (by omega)], fun i hi => ?_, fun i j hi hj e => rho_inj s hi hj e, ?_, ?_, fun i hi => ?_⟩
  · unfold rho; split
    · have := rank_lt s i (by assumption); omega
    · omega
  · unfold rho; rw [if_neg (by omega)]
  · unfold rho; rw [if_pos h, hm]
  · have hle : rho s (i + 1) ≤ s.length := by
      unfold rho; split
      · have := rank_lt s (i + 1) (by assumption); omega
      · omega
    have hne : rho s (i + 1) ≠ bmark s := fun e => by
      have := rho_inj s (i := i + 1) (j := 0) (by omega) (by omega) (by rw [e, hm]; unfold rho; rw [if_pos h])
      omega
    have := h2 (rho s (i + 1)) hle hne
    rw [bwt, this]
    unfold rho at hne ⊢
    by_cases c : i + 1 < s.length
    · rw [if_pos c] at hne ⊢
      rw [if_neg (by omega), Nat.add_sub_cancel, ord_rank s _ c, Nat.add_sub_cancel]
    · rw [if_neg c, if_pos rfl, show s.length - 1 = i by omega]
theorem rho_up (s : List UInt8) {i j : Nat} (hi : i ≤ s.length) (hj : j ≤ s.length) (h : LtW (s.length + 1) (sq s i) (sq s j)) : rho s i < rho s j := by
  unfold rho
  by_cases c : i < s.length
  · rw [if_pos c]
    by_cases d : j < s.length
    · rw [if_pos d]; have := rank_up s c d h; omega
    · obtain rfl : j = s.length := by omega
      exact (h.asymm (suf_end s c)).elim
  · rw [if_neg c]
    by_cases d : j < s.length
    · rw [if_pos d]; omega
    · obtain rfl : i = s.length := by omega
      obtain rfl : j = s.length := by omega
      exact h.irrefl.elim
/-- the way back steps from each row to the row before -/
theorem lead_turn (s : List UInt8) {i : Nat} (hi : i < s.length) : lead (bwt s) (bmark s) (rho s (i + 1)) = rho s i := by
  have h0 : 0 < s.length := by omega
  have hR := turn_rows s h0
  have hne : ∀ i, i < s.length → rho s (i + 1) ≠ bmark s := fun i hi e => by
    have := hR.inj (i + 1) 0 (by omega) (by omega) (by rw [e, hR.first]); omega
  have hb : ∀ i, i < s.length → bix (rho s (i + 1)) (bmark s) < (bwt s).length := fun i hi => bix_lt (by rw [hR.len]; exact hR.le _ (by omega)) (by rw [hR.len, ← hR.first]; exact hR.le 0 (by omega)) (hne i hi)
  have key : ∀ k, k < s.length → pos (bwt s) (bix (rho s ((sufOrd s).getD k 0 + 1)) (bmark s)) = k := by
    refine inc_id (f := fun k => pos (bwt s) (bix (rho s ((sufOrd s).getD k 0 + 1)) (bmark s))) (fun a b hab hbn => ?_) (fun k hk => ?_)
    · have la := ord_lt s a (by omega)
      have lb := ord_lt s b hbn
      have hup := ord_up s hab hbn
      refine pos_up _ (hb _ la) (hb _ lb) ?_
      have ea := hR.at_ _ la
      have eb := hR.at_ _ lb
      rw [List.getD_eq_getElem?_getD, List.getElem?_eq_getElem (hb _ la), Option.getD_some] at ea
      rw [List.getD_eq_getElem?_getD, List.getElem?_eq_getElem (hb _ lb), Option.getD_some] at eb
      rw [ea, eb]
      rcases suf_step s la lb hup with q | ⟨q, q2⟩
      · exact .inl q
      · exact .inr ⟨q, bix_up (hne _ la) (hne _ lb) (rho_up s (by omega) (by omega) q2)⟩
    · have := pos_lt (bwt s) _ (hb _ (ord_lt s k hk))
      rwa [hR.len] at this
  have := key (rank s i) (rank_lt s i hi)
  rw [ord_rank s i hi] at this
  rw [lead, if_neg (hne i hi), this]
  unfold rho
  rw [if_pos hi]; omega
theorem rows_turn (s : List UInt8) (h : 0 < s.length) : ∀ j, j ≤ s.length → rowNo (bwt s) (bmark s) j = rho s (s.length - j)
  | 0, _ => by unfold rho; rw [Nat.sub_zero, if_neg (by omega)]; rfl
  | j + 1, hj => by
    rw [rowNo, rows_turn s h j (by omega), show s.length - j = s.length - (j + 1) + 1 by omega]
    exact lead_turn s (by omega)
/-- the turned text leads back to the text -/
theorem back_turn (s : List UInt8) (h : 0 < s.length) : (bwt s).length = s.length ∧ bmark s ≤ s.length ∧ (∀ j, j < s.length → rowNo (bwt s) (bmark s) j ≠ bmark s) ∧ rowNo (bwt s) (bmark s) s.length = bmark s ∧ metL (bwt s) (bmark s) = s := by
  have hR := turn_rows s h
  refine ⟨hR.len, by rw [← hR.first]; exact hR.le 0 (by omega), fun j hj e => ?_, ?_, ?_⟩
  · rw [rows_turn s h j (by omega)] at e
    have := hR.inj (s.length - j) 0 (by omega) (by omega) (by rw [e, hR.first]); omega
  · rw [rows_turn s h _ (Nat.le_refl _), Nat.sub_self, hR.first]
  · unfold metL
    rw [hR.len]
    refine List.ext_getElem (by simp) fun i h1 h2 => ?_
    simp only [List.getElem_map, List.getElem_range]
    rw [rows_turn s h _ (by omega), show s.length - (s.length - 1 - i) = i + 1 by omega, hR.at_ i h2, List.getD_eq_getElem?_getD, List.getElem?_eq_getElem h2]; rfl
/-- what leads back is the turned text of what it leads back to -/
theorem turn_back (T : List UInt8) (m : Nat) (hm : m ≤ T.length) (h : 0 < T.length) (hn : ∀ j, j < T.length → rowNo T m j ≠ m) (he : rowNo T m T.length = m) : bwt (metL T m) = T ∧ bmark (metL T m) = m := by
  have hvl : (metL T m).length = T.length := by simp [metL]
  have hvat : ∀ i, i < T.length → T.getD (bix (rowNo T m (T.length - (i + 1))) m) 0 = (metL T m).getD i 0 := fun i hi => by
    rw [List.getD_eq_getElem?_getD (l := metL T m), metL, List.getElem?_map, List.getElem?_range hi]
    simp only [Option.map_some, Option.getD_some]
    rw [show T.length - 1 - i = T.length - (i + 1) by omega]
  generalize metL T m = v at *
  -- the rows are met once each
  have hle : ∀ j, rowNo T m j ≤ T.length := fun j => rowNo_le T hm j
  have hb : ∀ j, j < T.length → bix (rowNo T m j) m < T.length := fun j hj => bix_lt (hle j) hm (hn j hj)
  have hpos : ∀ j, j < T.length → rowNo T m (j + 1) = 1 + pos T (bix (rowNo T m j) m) := fun j hj => by rw [rowNo, lead, if_neg (hn j hj)]
  -- the order of the rows is the suffixes' order
  have hord : ∀ d i j, i ≤ T.length → j ≤ T.length → (T.length - i) + (T.length - j) ≤ d → LtW (v.length + 1) (sq v i) (sq v j) → rowNo T m (T.length - i) < rowNo T m (T.length - j) := by
    intro d
    induction d with
    | zero =>
      intro i j hi hj hd hlt
      obtain rfl : i = T.length := by omega
      obtain rfl : j = T.length := by omega
      exact hlt.irrefl.elim
    | succ d ih =>
      intro i j hi hj hd hlt
      by_cases ci : i < T.length
      · by_cases cj : j < T.length
        · rw [show T.length - i = T.length - (i + 1) + 1 by omega, show T.length - j = T.length - (j + 1) + 1 by omega, hpos _ (by omega), hpos _ (by omega)]
          have bi := hb (T.length - (i + 1)) (by omega)
          have bj := hb (T.length - (j + 1)) (by omega)
          have ei := hvat i ci
          have ej := hvat j cj
          rw [List.getD_eq_getElem?_getD, List.getElem?_eq_getElem bi, Option.getD_some] at ei
          rw [List.getD_eq_getElem?_getD, List.getElem?_eq_getElem bj, Option.getD_some] at ej
          have : pos T (bix (rowNo T m (T.length - (i + 1))) m) < pos T (bix (rowNo T m (T.length - (j + 1))) m) := by
            refine pos_up T bi bj ?_
            rw [ei, ej]
            rcases suf_step v (by omega) (by omega) hlt with q | ⟨q, q2⟩
            · exact .inl q
            · exact .inr ⟨q, bix_up (hn _ (by omega)) (hn _ (by omega)) (ih (i + 1) (j + 1) (by omega) (by omega) (by omega) q2)⟩
          omega
        · obtain rfl : j = T.length := by omega
          rw [← hvl] at hlt
          exact (hlt.asymm (suf_end v (by omega))).elim
      · obtain rfl : i = T.length := by omega
        by_cases cj : j < T.length
        · rw [Nat.sub_self, show T.length - j = T.length - (j + 1) + 1 by omega, hpos _ (by omega)]
          show 0 < _
          omega
        · obtain rfl : j = T.length := by omega
          exact hlt.irrefl.elim
  have hk : ∀ k, k < T.length → rowNo T m (T.length - (sufOrd v).getD k 0) = k + 1 := by
    have hid := inc_id (f := fun k => rowNo T m (T.length - (sufOrd v).getD k 0) - 1) (n := T.length) (fun a b hab hbn => ?_) (fun k hk => ?_)
    · intro k hk
      have l := ord_lt v k (by omega)
      have := hid k hk
      have h2 := hpos (T.length - ((sufOrd v).getD k 0 + 1)) (by omega)
      rw [show T.length - ((sufOrd v).getD k 0 + 1) + 1 = T.length - (sufOrd v).getD k 0 by omega] at h2
      have h3 : rowNo T m (T.length - (sufOrd v).getD k 0) - 1 = k := this
      omega
    · have la := ord_lt v a (by omega)
      have lb := ord_lt v b (by omega)
      have := hord _ _ _ (by omega) (by omega) (Nat.le_refl _) (ord_up v hab (by omega))
      have h2 := hpos (T.length - ((sufOrd v).getD a 0 + 1)) (by omega)
      rw [show T.length - ((sufOrd v).getD a 0 + 1) + 1 = T.length - (sufOrd v).getD a 0 by omega] at h2
      show rowNo T m (T.length - (sufOrd v).getD a 0) - 1 < rowNo T m (T.length - (sufOrd v).getD b 0) - 1
      omega
    · have := hle (T.length - (sufOrd v).getD k 0)
      show rowNo T m (T.length - (sufOrd v).getD k 0) - 1 < T.length
      omega
  have hm0 : 0 < m := by
    have := hn 0 h
    have e : rowNo T m 0 = 0 := rfl
    omega
  have hz : ∀ k, k < T.length → ((sufOrd v).getD k 0 = 0 ↔ k + 1 = m) := fun k hkn => by
    constructor
    · intro e
      have := hk k hkn
      rw [e, Nat.sub_zero, he] at this
      omega
    · intro e
      apply Decidable.byContradiction
      intro q
      have l := ord_lt v k (by omega)
      exact hn (T.length - (sufOrd v).getD k 0) (by omega) (by rw [hk k hkn, e])
  have hacc : ∀ k, k ≤ T.length → accN v (sufOrd v) k = T.take (bix (k + 1) m) ∧ markN (sufOrd v) k = if m ≤ k then m else 0 := by
    intro k
    induction k with
    | zero =>
      intro _
      refine ⟨?_, by rw [if_neg (by omega)]; rfl⟩
      have e := hvat (T.length - 1) (by omega)
      rw [show T.length - (T.length - 1 + 1) = 0 by omega, show rowNo T m 0 = 0 from rfl, bix_zero] at e
      rw [accN, hvl, ← e, show bix (0 + 1) m = 1 by unfold bix; split <;> omega]
      rw [List.take_succ_eq_append_getElem h, List.take_zero, List.nil_append, List.getD_eq_getElem?_getD, List.getElem?_eq_getElem h]; rfl
    | succ k ih =>
      intro hkn
      obtain ⟨h1, h2⟩ := ih (by omega)
      by_cases e : (sufOrd v).getD k 0 = 0
      · have hkm := (hz k (by omega)).1 e
        rw [accN_skip e, markN_hit e, h1]
        refine ⟨by rw [hkm, bix_self, bix_mark], by rw [if_pos (by omega), hkm]⟩
      · have hkm : k + 1 ≠ m := fun q => e ((hz k (by omega)).2 q)
        have l := ord_lt v k (by omega)
        rw [accN_take e, markN_miss e, h1, h2, bix_next hkm]
        refine ⟨?_, ?_⟩
        · have ev := hvat ((sufOrd v).getD k 0 - 1) (by omega)
          rw [show T.length - ((sufOrd v).getD k 0 - 1 + 1) = T.length - (sufOrd v).getD k 0 by omega, hk k (by omega)] at ev
          have hbl : bix (k + 1) m < T.length := bix_lt (by omega) hm hkm
          rw [List.take_succ_eq_append_getElem hbl, ← ev, List.getD_eq_getElem?_getD, List.getElem?_eq_getElem hbl]; rfl
        · by_cases c : m ≤ k
          · rw [if_pos c, if_pos (by omega)]
          · rw [if_neg c, if_neg (by omega)]
  obtain ⟨h1, h2⟩ := hacc T.length (Nat.le_refl _)
  refine ⟨?_, ?_⟩
  · rw [bwt, hvl, h1, bix_end hm, List.take_of_length_le (Nat.le_refl _)]
  · rw [bmark, hvl, h2, if_pos hm]
end Go.Proofs.Ytppelnlocfcgfaa.P
namespace Go.Proofs.Ytppelnlocfcgfaa.P
open Go.RowKit Go.Proofs.YtppelnlocfcgfaaW.PrintWords Go.Proofs.YtppelnlocfcgfaaW.PrintLast Go.Proofs.YtppelnlocfcgfaaW.PrintMore
open Go.Proofs.Fnd
set_option linter.unusedVariables false
set_option linter.unusedSimpArgs false
theorem txt_asymm {x y : List UInt8} (h : x < y) (h' : y < x) : False := by
  obtain ⟨m, h1, h2⟩ := (lt_iff x y).1 h
  obtain ⟨k, h3, h4⟩ := (lt_iff y x).1 h'
  rcases Nat.lt_trichotomy m k with c | c | c
  · have := h3 m c; omega
  · subst c; omega
  · have := h1 k c; omega
theorem txt_tri (x y : List UInt8) : x < y ∨ x = y ∨ y < x := by
  rcases tri (x.length + y.length + 1) (ch x) (ch y) with ⟨m, _, h2, h3⟩ | h | ⟨m, _, h2, h3⟩
  · exact .inl ((lt_iff x y).2 ⟨m, h2, h3⟩)
  · refine .inr (.inl ((eq_iff_ch x y).2 fun t => ?_))
    by_cases ht : t < x.length + y.length + 1
    · exact h t ht
    · rw [ch_ge x t (by omega), ch_ge y t (by omega)]
  · exact .inr (.inr ((lt_iff y x).2 ⟨m, h2, h3⟩))
theorem txt_irrefl (x : List UInt8) : ¬ x < x := fun h => txt_asymm h h
theorem countP_add {α : Type} (l : List α) (a b c : α → Bool) (h : ∀ i, i ∈ l → (c i = true ↔ (a i = true ∨ b i = true)) ∧ ¬ (a i = true ∧ b i = true)) : l.countP c = l.countP a + l.countP b := by
  induction l with
  | nil => rfl
  | cons x l ih =>
    have := ih (fun i hi => h i (List.mem_cons_of_mem _ hi))
    have hx := h x (List.mem_cons_self ..)
    rw [List.countP_cons, List.countP_cons, List.countP_cons, this]
    cases ha : a x <;> cases hb : b x <;> cases hc : c x <;> simp [ha, hb, hc] at hx ⊢ <;> omega
/-- how often a pattern occurs -/
def occN (s p : List UInt8) : Nat := (List.range s.length).countP fun i => decide (beginning s p.length i = p)
theorem upto_below (s p : List UInt8) : upto s p = below s p + occN s p := by
  unfold upto below occN
  refine countP_add _ _ _ _ fun i _ => ?_
  simp only [Bool.not_eq_true', decide_eq_false_iff_not, decide_eq_true_eq]
  constructor
  · constructor
    · intro h
      rcases txt_tri (beginning s p.length i) p with q | q | q
      · exact .inl q
      · exact .inr q
      · exact absurd q h
    · rintro (h | h)
      · exact fun q => txt_asymm h q
      · rw [h]; exact txt_irrefl p
  · rintro ⟨h1, h2⟩
    rw [h2] at h1
    exact txt_irrefl p h1
theorem count_occ (t p : ByteArray) (ht : t.size ≤ 4096) (hp : p.size ≤ 140737488351232) : find_Index_Count.f t (ordI t) (overI t) p = some (occN t.data.toList p.data.toList : Int) := by
  rw [count_is t p ht hp, upto_below]
  congr 1
  push_cast
  omega
theorem cnt0 (P : Nat → Bool) : ∀ n, (∀ i, i < n → P i = false) → (List.range n).countP P = 0
  | 0, _ => rfl
  | n + 1, h => by rw [List.range_succ, List.countP_append, cnt0 P n (fun i hi => h i (by omega))]; simp [h n (by omega)]
theorem cnt_pos (P : Nat → Bool) : ∀ n, (∃ i, i < n ∧ P i = true) → 1 ≤ (List.range n).countP P
  | 0, ⟨i, h, _⟩ => by omega
  | n + 1, ⟨i, h, hp⟩ => by
    rw [List.range_succ, List.countP_append]
    by_cases e : i = n
    · subst e; simp [hp]
    · have := cnt_pos P n ⟨i, by omega, hp⟩; omega
theorem cnt1 (P : Nat → Bool) : ∀ n a, a < n → P a = true → (∀ i, i < n → i ≠ a → P i = false) → (List.range n).countP P = 1
  | 0, a, h, _, _ => by omega
  | n + 1, a, h, hp, hn => by
    rw [List.range_succ, List.countP_append]
    by_cases e : a = n
    · subst e; rw [cnt0 P a (fun i hi => hn i (by omega) (by omega))]; simp [hp]
    · rw [cnt1 P n a (by omega) hp (fun i hi hne => hn i (by omega) hne)]; simp [hn n (by omega) (fun q => e q.symm)]
theorem cnt2 (P : Nat → Bool) : ∀ n a b, a < b → b < n → P a = true → P b = true → 2 ≤ (List.range n).countP P
  | 0, a, b, _, h, _, _ => by omega
  | n + 1, a, b, hab, h, hp, hq => by
    rw [List.range_succ, List.countP_append]
    by_cases e : b = n
    · subst e; have := cnt_pos P b ⟨a, hab, hp⟩; have e1 : List.countP P [b] = 1 := by simp [hq]
      omega
    · have := cnt2 P n a b hab (by omega) hp hq; omega
theorem extract_list (t : ByteArray) (a b : Nat) : (t.extract a b).data.toList = (t.data.toList.drop a).take (b - a) := by
  rw [ByteArray.data_extract, Array.toList_extract, List.extract_eq_take_drop]
theorem begin_len (s : List UInt8) (a L : Nat) (h : a + L ≤ s.length) : ((s.drop a).take L).length = L := by
  rw [List.length_take, List.length_drop]; omega
theorem ch_begin (s : List UInt8) (L i t : Nat) : ch ((s.drop i).take L) t = if t < L then sq s i t else 0 := by rw [ch_take, ch_drop]
/-- where a piece occurs -/
theorem begin_eq (s : List UInt8) {a i L : Nat} (ha : a < s.length) (hi : i < s.length) (hL : a + L ≤ s.length) : beginning s L i = (s.drop a).take L ↔ i = a ∨ L ≤ lcp s a i := by
  unfold beginning
  constructor
  · intro h
    by_cases e : i = a
    · exact .inl e
    · refine .inr ?_
      apply Decidable.byContradiction
      intro q
      have hl := lcp_is s a i (by omega) (by omega) (fun q => e q.symm)
      have h1 := (eq_iff_ch _ _).1 h (lcp s a i)
      rw [ch_begin, ch_begin, if_pos (by omega), if_pos (by omega)] at h1
      exact hl.diff h1.symm
  · rintro (h | h)
    · rw [h]
    · by_cases e : i = a
      · rw [e]
      · have hl := lcp_is s a i (by omega) (by omega) (fun q => e q.symm)
        refine (eq_iff_ch _ _).2 fun t => ?_
        rw [ch_begin, ch_begin]
        split
        · exact (hl.same t (by omega)).symm
        · rfl
theorem occ_one (s : List UInt8) {a L : Nat} (ha : a < s.length) (hL : a + L ≤ s.length) (h : mxO s a < L) : occN s ((s.drop a).take L) = 1 := by
  unfold occN
  rw [begin_len s a L hL]
  refine cnt1 _ _ a ha ?_ fun i hi hne => ?_
  · rw [decide_eq_true_eq, begin_eq s ha ha hL]; exact .inl rfl
  · rw [decide_eq_false_iff_not, begin_eq s ha hi hL]
    have := mxO_most s ha hi (fun e => hne e.symm)
    omega
theorem occ_two (s : List UInt8) {a L : Nat} (ha : a < s.length) (hL : a + L ≤ s.length) (h0 : 0 < L) (h : L ≤ mxO s a) : 2 ≤ occN s ((s.drop a).take L) := by
  unfold occN
  rw [begin_len s a L hL]
  rcases mxO_some s ha with h1 | ⟨j, hj, hne, h1⟩
  · omega
  · have pa : decide (beginning s L a = (s.drop a).take L) = true := by rw [decide_eq_true_eq, begin_eq s ha ha hL]; exact .inl rfl
    have pj : decide (beginning s L j = (s.drop a).take L) = true := by rw [decide_eq_true_eq, begin_eq s ha hj hL]; exact .inr (by omega)
    rcases Nat.lt_or_gt_of_ne hne with c | c
    · exact cnt2 _ _ j a c ha pj pa
    · exact cnt2 _ _ a j c hj pa pj
theorem mod_is (a : Int) (n : Nat) (h0 : 0 < n) (hn : n ≤ 1000000) : ∃ r : Nat, r < n ∧ silversidelaw07_mod.f a (n : Int) = some (r : Int) := by
  unfold silversidelaw07_mod.f
  have e1 : IntKind.u64.wrap (n : Int) = (n : Int) := by
    unfold IntKind.wrap
    simp [IntKind.bits, IntKind.signed]
    omega
  rw [e1, if_neg (by omega)]
  have h1 : 0 ≤ IntKind.u64.wrap a := by
    unfold IntKind.wrap
    simp [IntKind.bits, IntKind.signed]
    omega
  rw [Int.tmod_eq_emod_of_nonneg h1]
  generalize IntKind.u64.wrap a = x at *
  have h2 := Int.emod_nonneg x (show (n : Int) ≠ 0 by omega)
  have h3 := Int.emod_lt_of_pos x (show (0 : Int) < (n : Int) by omega)
  refine ⟨(x % (n : Int)).toNat, by omega, ?_⟩
  rw [w64 (by omega) (by omega)]
  congr 1
  omega
end Go.Proofs.Ytppelnlocfcgfaa.P
namespace Go.Proofs.Ytppelnlocfcgfaa.P
open Go.RowKit Go.Proofs.YtppelnlocfcgfaaW.PrintWords Go.Proofs.YtppelnlocfcgfaaW.PrintLast Go.Proofs.YtppelnlocfcgfaaW.PrintMore
open Go.Proofs.Fnd
set_option linter.unusedVariables false
set_option linter.unusedSimpArgs false
theorem bytes_of (t : ByteArray) : (⟨t.data.toList.toArray⟩ : ByteArray) = t := by rw [Array.toArray_toList]
theorem empty_of (t : ByteArray) (h : t.size = 0) : t = ⟨#[]⟩ := by
  obtain ⟨d⟩ := t
  have h3 : d.size = 0 := h
  rw [Array.eq_empty_of_size_eq_zero h3]
theorem restore_in (T : ByteArray) (m : Nat) (ht : T.size ≤ 4096) (hm : m ≤ T.size) : find_Restore.f T (m : Int) = some (if (∀ j, j < T.size → rowNo T.data.toList m j ≠ m) ∧ rowNo T.data.toList m T.size = m then ((⟨(metL T.data.toList m).toArray⟩ : ByteArray), 0) else ((⟨#[]⟩ : ByteArray), 70)) := by
  unfold find_Restore.f
  rw [if_neg (by omega), Int.toNat_natCast]
theorem back_is (t : ByteArray) (ht : t.size ≤ 4096) : ∃ (T : ByteArray) (m : Nat), find_Turn.f t = some (T, (m : Int), 0) ∧ find_Restore.f T (m : Int) = some (t, 0) ∧ T.size = t.size ∧ m ≤ t.size := by
  have hl := data_length t
  rw [turn_is t ht]
  by_cases h0 : t.size = 0
  · obtain rfl := empty_of t h0
    exact ⟨⟨#[]⟩, 0, rfl, by rw [restore_in _ _ (by decide) (by decide)]; decide, rfl, by decide⟩
  · rw [if_neg h0]
    obtain ⟨h1, h2, h3, h4, h5⟩ := back_turn t.data.toList (by omega)
    have hs : (⟨(bwt t.data.toList).toArray⟩ : ByteArray).size = t.size := by rw [← hl, ← h1]; exact List.size_toArray
    refine ⟨⟨(bwt t.data.toList).toArray⟩, bmark t.data.toList, rfl, ?_, hs, by omega⟩
    rw [restore_in _ _ (by omega) (by omega), hs]
    show some (if (∀ j, j < t.size → rowNo (bwt t.data.toList) (bmark t.data.toList) j ≠ bmark t.data.toList) ∧ rowNo (bwt t.data.toList) (bmark t.data.toList) t.size = bmark t.data.toList then ((⟨(metL (bwt t.data.toList) (bmark t.data.toList)).toArray⟩ : ByteArray), (0 : Int)) else ((⟨#[]⟩ : ByteArray), 70)) = _
    rw [if_pos ⟨fun j hj => h3 j (by omega), by rw [← hl]; exact h4⟩, h5, bytes_of]
theorem fwd_is (T : ByteArray) (m : Nat) (ht : T.size ≤ 4096) (hm : m ≤ T.size) : find_Restore.f T (m : Int) = some ((⟨#[]⟩ : ByteArray), 70) ∨ ∃ v : ByteArray, find_Restore.f T (m : Int) = some (v, 0) ∧ find_Turn.f v = some (T, (m : Int), 0) ∧ v.size ≤ 4096 := by
  have hl := data_length T
  rw [restore_in T m ht hm]
  by_cases h : (∀ j, j < T.size → rowNo T.data.toList m j ≠ m) ∧ rowNo T.data.toList m T.size = m
  · rw [if_pos h]
    refine .inr ⟨_, rfl, ?_⟩
    by_cases h0 : T.size = 0
    · obtain rfl := empty_of T h0
      obtain rfl : m = 0 := Nat.le_zero.1 hm
      exact ⟨by decide, by decide⟩
    · obtain ⟨h1, h2⟩ := turn_back T.data.toList m (by omega) (by omega) (fun j hj => h.1 j (by omega)) (by rw [hl]; exact h.2)
      have hvl : (⟨(metL T.data.toList m).toArray⟩ : ByteArray).size = T.size := by
        show (metL T.data.toList m).toArray.size = T.size
        rw [List.size_toArray, metL, List.length_map, List.length_range, hl]
      refine ⟨?_, by omega⟩
      rw [turn_is _ (by omega), if_neg (by omega)]
      show some ((⟨(bwt (metL T.data.toList m)).toArray⟩ : ByteArray), (bmark (metL T.data.toList m) : Int), (0 : Int)) = _
      rw [h1, h2, bytes_of]
  · rw [if_neg h]; exact .inl rfl
end Go.Proofs.Ytppelnlocfcgfaa.P
namespace Go.Proofs.Ytppelnlocfcgfaa.Pure
open Go.RowKit Go.Proofs.Ytppelnlocfcgfaa.P Go.Proofs.YtppelnlocfcgfaaW.PrintWords Go.Proofs.YtppelnlocfcgfaaW.PrintLast
open Go.Proofs.Fnd
theorem FindBack : silversidelaw07_FindBack.Pure := by
  intro a0 a1 _ _
  refine Ev.rounds ?_
  unfold silversidelaw07_FindBack.f
  have hm := mn_nat a0.size 4096
  rw [show ((4096 : Nat) : Int) = 4096 from rfl] at hm
  rw [hm]
  refine ev_pos (by omega) (ev_pos (by omega) ?_)
  rw [Int.toNat_natCast]
  have ht : (a0.extract 0 (min a0.size 4096)).size ≤ 4096 := by rw [ByteArray.size_extract]; omega
  generalize a0.extract 0 (min a0.size 4096) = t at *
  obtain ⟨T, m, h1, h2, h3, h4⟩ := back_is t ht
  rw [h1]
  simp only [Option.bind_some, h2, if_true]
  refine ev_pos (by omega) (ev_neg (by omega) ?_)
  have e1 : decide ((m : Int) > (t.size : Int)) = false := by rw [decide_eq_false_iff_not]; omega
  rw [e1]
  refine Ev.step (fun K => by rw [silversidelaw07_FindBack.j0, if_neg (by simp)]) ?_
  rw [w64 (x := (t.size : Int) + 1) (by omega) (by omega)]
  obtain ⟨r, hr, hmd⟩ := mod_is a1 (t.size + 1) (by omega) (by omega)
  rw [show ((t.size + 1 : Nat) : Int) = (t.size : Int) + 1 by omega] at hmd
  simp only [hmd, Option.bind_some]
  rcases fwd_is t r ht (by omega) with h5 | ⟨v, h5, h6, h7⟩
  · simp only [h5, Option.bind_some]
    refine ev_neg (by decide) (ev_pos empty_list (ev_pos (by trivial) (Ev.bind awake_ev (Ev.now _))))
  · simp only [h5, h6, Option.bind_some, if_true]
    exact Ev.bind awake_ev (Ev.now _)
end Go.Proofs.Ytppelnlocfcgfaa.Pure
