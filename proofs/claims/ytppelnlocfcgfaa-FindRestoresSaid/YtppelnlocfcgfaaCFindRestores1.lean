/- Proved here: what functions that the law reaches compute, and plain laws of that. No conditions but those that the theorems state. Put together by a program; a part of it was printed by a program of the session's, by way of the kit's printer (wip/printplus.py, wip/mend.py). -/
import Derived.Test.YtppelnlocfcgfaaB1
import Derived.Test.YtppelnlocfcgfaaB2
import Derived.Test.YtppelnlocfcgfaaB3
set_option linter.unusedVariables false
set_option linter.unusedSimpArgs false
namespace Go.Proofs.Ytppelnlocfcgfaa.P
open Go.RowKit Go.Proofs.YtppelnlocfcgfaaW.PrintWords Go.Proofs.YtppelnlocfcgfaaW.PrintLast Go.Proofs.YtppelnlocfcgfaaW.PrintMore
attribute [local go_sem] max2_int min2_int max_two min_two max_three min_three max_four min_four   -- for this text's walks alone
set_option linter.unusedVariables false
set_option linter.unusedSimpArgs false

/-! ### slices_Index_int_int: function 51 -/
def slices_Index_int_int.l0 : Nat → List Int → Int → Int → Int → Option (Int)
 | 0, _, _, _, _ => none
 | k + 1, x0, x1, x7, x8 => if x8 < x7 then (if 0 ≤ x8 then (if x8 < (x0.length : Int) then (if x1 = (rd x0 x8) then (some x8) else (slices_Index_int_int.l0 k x0 x1 x7 (wrap64 (x8 + 1)))) else (none)) else (none)) else (some (-1))
def slices_Index_int_int.f (k : Nat) (l0 : List Int) (a1 : Int) : Option (Int) := slices_Index_int_int.l0 k l0 a1 (l0.length : Int) 0
theorem slices_Index_int_int.mono_l : ∀ k, (∀ y0 y1 y2 y3, LeO (slices_Index_int_int.l0 k y0 y1 y2 y3) (slices_Index_int_int.l0 (k + 1) y0 y1 y2 y3))
 | 0 => fun _ _ _ _ r h => by simp [slices_Index_int_int.l0] at h
 | k + 1 => by
  have ih0 := slices_Index_int_int.mono_l k
  ·intro y0 y1 y2 y3
   unfold slices_Index_int_int.l0
   repeat' first
   | (with_reducible exact ih0 _ _ _ _)
   | (with_reducible exact LeO.refl _)
   | (with_reducible exact LeO.none _)
   | (with_reducible refine LeO.ite ?_ ?_)
   | (with_reducible refine LeO.bind ?_ (fun _ => ?_))
   | exact ih0 _ _ _ _
   | exact LeO.none _
   | refine LeO.ite ?_ ?_
   | refine LeO.bind ?_ (fun _ => ?_)
theorem slices_Index_int_int.mono : ∀ a0 a1 k, LeO (slices_Index_int_int.f k a0 a1) (slices_Index_int_int.f (k + 1) a0 a1) := by
 intro a0 a1 k
 have ih0 := slices_Index_int_int.mono_l k
 unfold slices_Index_int_int.f
 repeat' first
   | (with_reducible exact ih0 _ _ _ _)
   | (with_reducible exact LeO.refl _)
   | (with_reducible exact LeO.none _)
   | (with_reducible refine LeO.ite ?_ ?_)
   | (with_reducible refine LeO.bind ?_ (fun _ => ?_))
   | exact ih0 _ _ _ _
   | exact LeO.none _
   | refine LeO.ite ?_ ?_
   | refine LeO.bind ?_ (fun _ => ?_)
set_option maxHeartbeats 8000000 in
set_option maxRecDepth 100000 in
theorem slices_Index_int_int.calls (k : Nat) (A0 : Option Addr) (c0 : Nat) (l0 : List Int) (a1 : Int) (r : Int) (w : World) (hr0 : Kd.C (Kd.int .i64) w A0 l0.length l0) (hc0 : l0.length ≤ c0) (h : slices_Index_int_int.f k l0 a1 = some r) :
  Calls Try.prog 51 #[.slice A0 l0.length c0, .int .i64 a1] w fun e w' => e = .returned (.int .i64 r) ∧ Drawn0 w w' := by
 have HR0 := Aside0.mk hr0
 have HC0 := Aside0.mk hc0
 clear hr0 hc0
 have H : (slices_Index_int_int.l0 k l0 a1 (l0.length : Int) 0) = some r := h
 clear h
 have H' := Aside0.mk H
 clear H
 go_enter Try.func51, Try.ntmps51
 go_wp2
 go_loopg [8] k (fun kq v8 w' => ∃ (x8_1 : Int), v8 = .int .i64 x8_1 ∧ Aside0 (slices_Index_int_int.l0 kq l0 a1 (l0.length : Int) x8_1 = some r) ∧ Aside0 (kq ≤ k) ∧ Drawn0 w w')
 case atStart => exact ⟨(0), (by first | rfl | (simp; done) | (simp [*]; done)), H', ⟨Nat.le_refl _⟩, by repeat (first | exact Drawn0.refl _ | apply Drawn0.step)⟩
 case round =>
  clear H'
  try clear p2
  obtain ⟨x8_1, rfl, HA, HK1, ⟨m1, rfl⟩⟩ := hrel
  cases gk with
  | zero => exact absurd HA.out (by simp [slices_Index_int_int.l0])
  | succ k1 =>
   have H := HA.out
   clear HA
   simp only [slices_Index_int_int.l0] at H
   by_cases c3 : x8_1 < (l0.length : Int)
   ·rw [if_pos c3] at H
    have c3b0 : decide (x8_1 < (l0.length : Int)) = true := decide_eq_true c3
    clear c3
    by_cases c4 : 0 ≤ x8_1
    ·rw [if_pos c4] at H
     have c4b0 : decide (0 ≤ x8_1) = true := decide_eq_true c4
     clear c4
     by_cases c5 : x8_1 < (l0.length : Int)
     ·rw [if_pos c5] at H
      have c5b0 : decide (x8_1 < (l0.length : Int)) = true := decide_eq_true c5
      clear c5
      by_cases c6 : a1 = (rd l0 x8_1)
      ·rw [if_pos c6] at H
       have c6b0 : (a1 == (rd l0 x8_1)) = true := beq_iff_eq.mpr c6
       have c6b1 : (a1 != (rd l0 x8_1)) = false := bne_eq_false_iff_eq.mpr c6
       clear c6
       obtain rfl := Option.some.inj H
       have p305 : 0 ≤ (x8_1 : Int) := of_decide_eq_true (by first | (with_reducible assumption) | assumption)
       have q305 : x8_1 < (l0.length : Int) := of_decide_eq_true (by first | (with_reducible assumption) | assumption)
       obtain ⟨ad305, e305, hx305_0⟩ := Kd.at_int HR0.out x8_1 p305 q305
       cases e305
       replace p305 := eq_true p305
       replace q305 := eq_true q305
       go_wp2
       go_ret
       exact ⟨by first | rfl | (simp; done) | (simp [*]; done), by repeat (first | exact Drawn0.refl _ | apply Drawn0.step)⟩
      ·rw [if_neg c6] at H
       have c6b0 : (a1 == (rd l0 x8_1)) = false := beq_eq_false_iff_ne.mpr c6
       have c6b1 : (a1 != (rd l0 x8_1)) = true := bne_iff_ne.mpr c6
       have H' := Aside0.mk H
       clear H
       have p305 : 0 ≤ (x8_1 : Int) := of_decide_eq_true (by first | (with_reducible assumption) | assumption)
       have q305 : x8_1 < (l0.length : Int) := of_decide_eq_true (by first | (with_reducible assumption) | assumption)
       obtain ⟨ad305, e305, hx305_0⟩ := Kd.at_int HR0.out x8_1 p305 q305
       cases e305
       replace p305 := eq_true p305
       replace q305 := eq_true q305
       go_wp2
       go_roundg k1
       case measure => have := HK1.out; omega
       case rel => exact ⟨(wrap64 (x8_1 + 1)), (by first | rfl | (simp; done) | (simp [*]; done)), H', ⟨by have := HK1.out; omega⟩, by repeat (first | exact Drawn0.refl _ | apply Drawn0.step)⟩
     ·rw [if_neg c5] at H
      exact absurd H (by simp)
    ·rw [if_neg c4] at H
     exact absurd H (by simp)
   ·rw [if_neg c3] at H
    have c3b0 : decide (x8_1 < (l0.length : Int)) = false := decide_eq_false c3
    clear c3
    obtain rfl := Option.some.inj H
    go_wp2
    go_ret
    exact ⟨by first | rfl | (simp; done) | (simp [*]; done), by repeat (first | exact Drawn0.refl _ | apply Drawn0.step)⟩

end Go.Proofs.Ytppelnlocfcgfaa.P
namespace Go.Proofs.Ytppelnlocfcgfaa.P
open Go.RowKit Go.Proofs.YtppelnlocfcgfaaW.PrintWords Go.Proofs.YtppelnlocfcgfaaW.PrintLast Go.Proofs.YtppelnlocfcgfaaW.PrintMore
attribute [local go_sem] max2_int min2_int max_two min_two max_three min_three max_four min_four   -- for this text's walks alone
set_option linter.unusedVariables false
set_option linter.unusedSimpArgs false

/-! ### find_Index_Shortest: function 35 -/
def find_Index_Shortest.j0 : Nat → Int → Bool → ByteArray → List Int → List Int → Option (Int × Int)
 | 0, _, _, _, _, _ => none
 | k + 1, x1, x16, x307000, x307001, x307002 => if x16 = true then (some (0, 2)) else ((slices_Index_int_int.f k x307001 x1).bind fun t307 => (if 0 ≤ t307 then (if t307 < (x307002.length : Int) then (if (wrap64 (t307 + 1)) < (x307001.length : Int) then (if 0 ≤ (wrap64 (t307 + 1)) then (if (wrap64 (t307 + 1)) < (x307002.length : Int) then (if (wrap64 (x1 + (mx (rd x307002 t307) (rd x307002 (wrap64 (t307 + 1)))))) ≥ (x307000.size : Int) then (some (0, 6)) else (some (wrap64 ((mx (rd x307002 t307) (rd x307002 (wrap64 (t307 + 1)))) + 1), 0))) else (none)) else (none)) else (if (wrap64 (x1 + (rd x307002 t307))) ≥ (x307000.size : Int) then (some (0, 6)) else (some (wrap64 ((rd x307002 t307) + 1), 0)))) else (none)) else (none)))
def find_Index_Shortest.f (k : Nat) (a0_0 : ByteArray) (l0_1 : List Int) (l0_2 : List Int) (a1 : Int) : Option (Int × Int) := if a1 < 0 then (find_Index_Shortest.j0 k a1 true a0_0 l0_1 l0_2) else (find_Index_Shortest.j0 k a1 (decide (a1 ≥ (a0_0.size : Int))) a0_0 l0_1 l0_2)
theorem find_Index_Shortest.mono_l : ∀ k, (∀ y0 y1 y2 y3 y4, LeO (find_Index_Shortest.j0 k y0 y1 y2 y3 y4) (find_Index_Shortest.j0 (k + 1) y0 y1 y2 y3 y4))
 | 0 => fun _ _ _ _ _ r h => by simp [find_Index_Shortest.j0] at h
 | k + 1 => by
  have ih0 := find_Index_Shortest.mono_l k
  ·intro y0 y1 y2 y3 y4
   unfold find_Index_Shortest.j0
   repeat' first
   | (with_reducible exact ih0 _ _ _ _ _)
   | (with_reducible exact slices_Index_int_int.mono _ _ _)
   | (with_reducible exact LeO.refl _)
   | (with_reducible exact LeO.none _)
   | (with_reducible refine LeO.ite ?_ ?_)
   | (with_reducible refine LeO.bind ?_ (fun _ => ?_))
   | exact ih0 _ _ _ _ _
   | exact slices_Index_int_int.mono _ _ _
   | exact LeO.none _
   | refine LeO.ite ?_ ?_
   | refine LeO.bind ?_ (fun _ => ?_)
theorem find_Index_Shortest.mono : ∀ a0 a1 a2 a3 k, LeO (find_Index_Shortest.f k a0 a1 a2 a3) (find_Index_Shortest.f (k + 1) a0 a1 a2 a3) := by
 intro a0 a1 a2 a3 k
 have ih0 := find_Index_Shortest.mono_l k
 unfold find_Index_Shortest.f
 repeat' first
   | (with_reducible exact ih0 _ _ _ _ _)
   | (with_reducible exact slices_Index_int_int.mono _ _ _)
   | (with_reducible exact LeO.refl _)
   | (with_reducible exact LeO.none _)
   | (with_reducible refine LeO.ite ?_ ?_)
   | (with_reducible refine LeO.bind ?_ (fun _ => ?_))
   | exact ih0 _ _ _ _ _
   | exact slices_Index_int_int.mono _ _ _
   | exact LeO.none _
   | refine LeO.ite ?_ ?_
   | refine LeO.bind ?_ (fun _ => ?_)
set_option maxHeartbeats 8000000 in
set_option maxRecDepth 100000 in
theorem find_Index_Shortest.calls (k : Nat) (a0_0 : ByteArray) (A0_1 : Option Addr) (c0_1 : Nat) (l0_1 : List Int) (A0_2 : Option Addr) (c0_2 : Nat) (l0_2 : List Int) (a1 : Int) (r1 : Int) (r2 : Int) (w : World) (hr0_1 : Kd.C (Kd.int .i64) w A0_1 l0_1.length l0_1) (hc0_1 : l0_1.length ≤ c0_1) (hr0_2 : Kd.C (Kd.int .i64) w A0_2 l0_2.length l0_2) (hc0_2 : l0_2.length ≤ c0_2) (h : find_Index_Shortest.f k a0_0 l0_1 l0_2 a1 = some (r1, r2)) :
  Calls Try.prog 35 #[.agg #[.string a0_0, .slice A0_1 l0_1.length c0_1, .slice A0_2 l0_2.length c0_2], .int .i64 a1] w fun e w' => e = .returned (.tuple #[.int .i64 r1, .int .i64 r2]) ∧ Below w.heap.size w w' := by
 have hu24 := Try.underlying24
 have HR0_1 := Aside0.mk hr0_1
 have HC0_1 := Aside0.mk hc0_1
 clear hr0_1 hc0_1
 have HR0_2 := Aside0.mk hr0_2
 have HC0_2 := Aside0.mk hc0_2
 clear hr0_2 hc0_2
 have HB := Aside0.mk (Below.refl w.heap.size w)
 have H : (if a1 < 0 then (find_Index_Shortest.j0 k a1 true a0_0 l0_1 l0_2) else (find_Index_Shortest.j0 k a1 (decide (a1 ≥ (a0_0.size : Int))) a0_0 l0_1 l0_2)) = some (r1, r2) := h
 clear h
 have HC3 := Aside0.mk H
 clear H
 go_enter Try.func35, Try.ntmps35
 go_upto_region 1 with (first | ((with_reducible refine gate_dst (N := 2) rfl ?_); (try (refine gate_guard (by rfl) ?_; dsimp only)); refine box_event ?hg (N := 2) ?hd (cs := #[.string a0_0, .slice A0_1 l0_1.length c0_1, .slice A0_2 l0_2.length c0_2]) (t := 24) ?hr ?_; (case hd => rfl); (case hg => rfl); (case hr => first | (go_simp; done) | (go_simp; rfl)); intro gb306 hg w4 hbox hb; have n0_ := Aside0.mk (below_step (by repeat (first | (with_reducible first | exact HB.out | apply below_alloc | apply pw_below_drewN | apply below_drew1) | exact HB.out)) hb); have n1_ := Aside0.mk (hbox); have n2_ := Aside0.mk ((by rw [hg]; exact (below_size (by repeat (first | (with_reducible first | exact HB.out | apply below_alloc | apply pw_below_drewN | apply below_drew1) | exact HB.out))) : w.heap.size ≤ gb306)); have n3_ := Aside0.mk ((by rw [hg]; exact (below_size (by repeat (first | (with_reducible first | exact HB.out | apply below_alloc | apply pw_below_drewN | apply below_drew1) | exact HB.out))) : w.heap.size ≤ gb306)); clear HB; have HB := n0_; have BK306 := n1_; have GW306 := n2_; have GE306 := n3_; clear n0_ n1_ n2_ n3_; clear hb hbox hg))
 (try simp only [Act.put, List.setIfInBounds_toArray, List.set_cons_zero, List.set_cons_succ])
 go_cut [16] (fun v16 wc => ∃ (kq : Nat) (x16_2 : Bool), v16 = .bool x16_2 ∧ Aside0 (find_Index_Shortest.j0 kq a1 x16_2 a0_0 l0_1 l0_2 = some (r1, r2)) ∧ Aside0 (kq ≤ k) ∧ Aside0 (wc.heap[gb306]? = some (.cells #[.string a0_0, (.slice A0_1 l0_1.length c0_1), (.slice A0_2 l0_2.length c0_2)] 24 (0, 0))) ∧ Aside0 (Below w.heap.size w wc))
 case first =>
  have H := HC3.out
  clear HC3
  by_cases c5 : a1 < 0
  ·rw [if_pos c5] at H
   have c5b0 : decide (a1 < 0) = true := decide_eq_true c5
   clear c5
   (first | rw [c5b0] | (simp only [i64_w, i32_w]; rw [c5b0]) | skip)
   have H' := Aside0.mk H
   clear H
   go_wp2
   go_meet
   case rel => exact ⟨_, (true), (by first | rfl | (simp; done) | (simp [*]; done)), H', ⟨by first | omega | exact Nat.le_refl _⟩, ⟨by (with_reducible repeat (first | refine blk_drewN ?_ _ | refine blk_drew ?_ | refine blk_alloc ?_ _)); exact BK306.out⟩, ⟨by repeat (first | (with_reducible first | exact HB.out | apply below_alloc | apply pw_below_drewN | apply below_drew1 | refine below_set ?_ GE306.out) | exact HB.out)⟩⟩
  ·rw [if_neg c5] at H
   have c5b0 : decide (a1 < 0) = false := decide_eq_false c5
   clear c5
   (first | rw [c5b0] | (simp only [i64_w, i32_w]; rw [c5b0]) | skip)
   have H' := Aside0.mk H
   clear H
   have hcz6_0 : w4.cell? ⟨gb306, 0, none⟩ = some (.string a0_0) := (blk_cell BK306.out 0).trans rfl
   have hcz6_1 : w4.cell? ⟨gb306, 1, none⟩ = some (.slice A0_1 l0_1.length c0_1) := (blk_cell BK306.out 1).trans rfl
   have hcz6_2 : w4.cell? ⟨gb306, 2, none⟩ = some (.slice A0_2 l0_2.length c0_2) := (blk_cell BK306.out 2).trans rfl
   have hfz6_0 := blk_frozen BK306.out 0
   have hfz6_1 := blk_frozen BK306.out 1
   have hfz6_2 := blk_frozen BK306.out 2
   go_wp2
   go_meet
   case rel => exact ⟨_, (decide (a1 ≥ (a0_0.size : Int))), (by first | rfl | (simp; done) | (simp [*]; done)), H', ⟨by first | omega | exact Nat.le_refl _⟩, ⟨by (with_reducible repeat (first | refine blk_drewN ?_ _ | refine blk_drew ?_ | refine blk_alloc ?_ _)); exact BK306.out⟩, ⟨by repeat (first | (with_reducible first | exact HB.out | apply below_alloc | apply pw_below_drewN | apply below_drew1 | refine below_set ?_ GE306.out) | exact HB.out)⟩⟩
 case rest =>
  clear HC3
  try clear p2
  try clear c3
  try clear c5
  try clear c5b0
  try clear hcz6_0
  try clear hcz6_1
  try clear hcz6_2
  try clear hfz6_0
  try clear hfz6_1
  try clear hfz6_2
  obtain ⟨kq, x16_2, rfl, HA, HJ2, BK306, HB⟩ := hcut
  cases kq with
  | zero => exact absurd HA.out (by simp [find_Index_Shortest.j0])
  | succ kj2 =>
   have H := HA.out
   clear HA
   simp only [find_Index_Shortest.j0] at H
   by_cases c7 : x16_2 = true
   ·subst c7
    have H1 : (some (0, 2)) = some (r1, r2) := by rw [if_pos rfl] at H; exact H
    clear H
    have H := H1
    clear H1
    simp only [Option.some.injEq, Prod.mk.injEq] at H
    obtain ⟨rfl, rfl⟩ := H
    go_wp2
    go_ret2
    exact ⟨by first | rfl | (simp [errW_none, errW_some] <;> rfl) | (simp [*, errW_none, errW_some] <;> rfl), by repeat (first | (with_reducible first | exact HB.out | apply below_alloc | apply pw_below_drewN | apply below_drew1 | refine below_set ?_ GE306.out) | exact HB.out)⟩
   ·replace c7 := Bool.eq_false_iff.mpr c7
    subst c7
    have H1 : ((slices_Index_int_int.f kj2 l0_1 a1).bind fun t307 => (if 0 ≤ t307 then (if t307 < (l0_2.length : Int) then (if (wrap64 (t307 + 1)) < (l0_1.length : Int) then (if 0 ≤ (wrap64 (t307 + 1)) then (if (wrap64 (t307 + 1)) < (l0_2.length : Int) then (if (wrap64 (a1 + (mx (rd l0_2 t307) (rd l0_2 (wrap64 (t307 + 1)))))) ≥ (a0_0.size : Int) then (some (0, 6)) else (some (wrap64 ((mx (rd l0_2 t307) (rd l0_2 (wrap64 (t307 + 1)))) + 1), 0))) else (none)) else (none)) else (if (wrap64 (a1 + (rd l0_2 t307))) ≥ (a0_0.size : Int) then (some (0, 6)) else (some (wrap64 ((rd l0_2 t307) + 1), 0)))) else (none)) else (none))) = some (r1, r2) := by rw [if_neg (show ¬ (false = true) by decide)] at H; exact H
    clear H
    have H := H1
    clear H1
    replace H := Option.bind_eq_some_iff.mp H
    obtain ⟨t307, A80, H⟩ := H
    replace H : (if 0 ≤ t307 then (if t307 < (l0_2.length : Int) then (if (wrap64 (t307 + 1)) < (l0_1.length : Int) then (if 0 ≤ (wrap64 (t307 + 1)) then (if (wrap64 (t307 + 1)) < (l0_2.length : Int) then (if (wrap64 (a1 + (mx (rd l0_2 t307) (rd l0_2 (wrap64 (t307 + 1)))))) ≥ (a0_0.size : Int) then (some (0, 6)) else (some (wrap64 ((mx (rd l0_2 t307) (rd l0_2 (wrap64 (t307 + 1)))) + 1), 0))) else (none)) else (none)) else (if (wrap64 (a1 + (rd l0_2 t307))) ≥ (a0_0.size : Int) then (some (0, 6)) else (some (wrap64 ((rd l0_2 t307) + 1), 0)))) else (none)) else (none)) = some (r1, r2) := H
    have A8 := Aside0.mk A80
    clear A80
    by_cases c9 : 0 ≤ t307
    ·rw [if_pos c9] at H
     have c9b0 : decide (0 ≤ t307) = true := decide_eq_true c9
     clear c9
     by_cases c10 : t307 < (l0_2.length : Int)
     ·rw [if_pos c10] at H
      have c10b0 : decide (t307 < (l0_2.length : Int)) = true := decide_eq_true c10
      clear c10
      by_cases c11 : (wrap64 (t307 + 1)) < (l0_1.length : Int)
      ·rw [if_pos c11] at H
       have c11b0 : decide ((wrap64 (t307 + 1)) < (l0_1.length : Int)) = true := decide_eq_true c11
       clear c11
       obtain ⟨ji12, hji12⟩ : ∃ j_ : Int, (wrap64 (t307 + 1)) = j_ := ⟨_, rfl⟩
       replace H : (if 0 ≤ (ji12) then (if (ji12) < (l0_2.length : Int) then (if (wrap64 (a1 + (mx (rd l0_2 t307) (rd l0_2 (ji12))))) ≥ (a0_0.size : Int) then (some (0, 6)) else (some (wrap64 ((mx (rd l0_2 t307) (rd l0_2 (ji12))) + 1), 0))) else (none)) else (none)) = some (r1, r2) := by first | (rw [hji12] at H; exact H) | (simp only [hji12] at H ⊢; exact H)
       (try rw [hji12] at c11b0)
       (try rw [hji12] at A8)
       have hji12w : (IntKind.i64.wrap (t307 + 1)) = ji12 := (i64_w _).trans hji12
       by_cases c13 : 0 ≤ (ji12)
       ·rw [if_pos c13] at H
        have c13b0 : decide (0 ≤ (ji12)) = true := decide_eq_true c13
        clear c13
        by_cases c14 : (ji12) < (l0_2.length : Int)
        ·rw [if_pos c14] at H
         have c14b0 : decide ((ji12) < (l0_2.length : Int)) = true := decide_eq_true c14
         clear c14
         obtain ⟨ji15, hji15⟩ : ∃ j_ : Int, (mx (rd l0_2 t307) (rd l0_2 (ji12))) = j_ := ⟨_, rfl⟩
         replace H : (if (wrap64 (a1 + (ji15))) ≥ (a0_0.size : Int) then (some (0, 6)) else (some (wrap64 ((ji15) + 1), 0))) = some (r1, r2) := by first | (rw [hji15] at H; exact H) | (simp only [hji15] at H ⊢; exact H)
         (try rw [hji15] at A8)
         have hji15_ : (if (rd l0_2 t307) < (rd l0_2 (ji12)) then (rd l0_2 (ji12)) else (rd l0_2 t307)) = ji15 := hji15
         by_cases c16 : (wrap64 (a1 + (ji15))) ≥ (a0_0.size : Int)
         ·rw [if_pos c16] at H
          have c16b0 : decide ((a0_0.size : Int) ≤ (wrap64 (a1 + (ji15)))) = true := decide_eq_true c16
          clear c16
          simp only [Option.some.injEq, Prod.mk.injEq] at H
          obtain ⟨rfl, rfl⟩ := H
          have hcz17_0 : wc.cell? ⟨gb306, 0, none⟩ = some (.string a0_0) := (blk_cell BK306.out 0).trans rfl
          have hcz17_1 : wc.cell? ⟨gb306, 1, none⟩ = some (.slice A0_1 l0_1.length c0_1) := (blk_cell BK306.out 1).trans rfl
          have hcz17_2 : wc.cell? ⟨gb306, 2, none⟩ = some (.slice A0_2 l0_2.length c0_2) := (blk_cell BK306.out 2).trans rfl
          have hfz17_0 := blk_frozen BK306.out 0
          have hfz17_1 := blk_frozen BK306.out 1
          have hfz17_2 := blk_frozen BK306.out 2
          go_wp2_with (first | ((with_reducible refine gate_callee (f := 51) rfl ?_); refine goesL_ (some 20) rfl rfl Try.func51 (by kernel_rfl) rfl #[.slice A0_1 l0_1.length c0_1, .int .i64 a1] rfl (by (try simp only [List.map_toArray, List.map_cons, List.map_nil]); first | done | rfl | (simp only [List.length_drop, List.length_take]; rfl)) ?_; (with_reducible refine (slices_Index_int_int.calls kj2 _ _ l0_1 a1 t307 _ ?side1 ?side2 A8.out).mono ?_); (case side1 => repeat (first | exact (Kd.C_below HR0_1.out HB.out) | (with_reducible refine Kd.C_alloc ?_ _) | (with_reducible refine Kd.C_drewN ?_ _) | (with_reducible refine Kd.C_drew ?_))); (case side2 => exact HC0_1.out); rintro e w' ⟨rfl, ⟨nd, rfl⟩⟩; refine ⟨_, rfl, ?_⟩; have p308 : 0 ≤ (t307 : Int) := of_decide_eq_true (by first | (with_reducible assumption) | assumption); have q308 : t307 < (l0_2.length : Int) := of_decide_eq_true (by first | (with_reducible assumption) | assumption); obtain ⟨ad308, e308, hx308_0⟩ := Kd.at_int HR0_2.out t307 p308 q308; cases e308; replace hx308_0 := (HB.out.cell (World.block_lt_of_cell? w _ hx308_0)).trans hx308_0; replace p308 := eq_true p308; replace q308 := eq_true q308; have p309 : 0 ≤ ((ji12) : Int) := of_decide_eq_true (by first | (with_reducible assumption) | assumption); have q309 : (ji12) < (l0_2.length : Int) := of_decide_eq_true (by first | (with_reducible assumption) | assumption); obtain ⟨ad309, e309, hx309_0⟩ := Kd.at_int HR0_2.out (ji12) p309 q309; obtain rfl : ad308 = ad309 := (by injection e309); replace hx309_0 := (HB.out.cell (World.block_lt_of_cell? w _ hx309_0)).trans hx309_0; replace p309 := eq_true p309; replace q309 := eq_true q309))
          go_ret2
          exact ⟨by first | rfl | (simp [errW_none, errW_some] <;> rfl) | (simp only [← hji12, ← hji15]; first | rfl | (simp [errW_none, errW_some] <;> rfl)) | (simp [*, errW_none, errW_some] <;> rfl), by repeat (first | (with_reducible first | exact HB.out | apply below_alloc | apply pw_below_drewN | apply below_drew1 | refine below_set ?_ GE306.out) | exact HB.out)⟩
         ·rw [if_neg c16] at H
          have c16b0 : decide ((a0_0.size : Int) ≤ (wrap64 (a1 + (ji15)))) = false := decide_eq_false c16
          clear c16
          simp only [Option.some.injEq, Prod.mk.injEq] at H
          obtain ⟨rfl, rfl⟩ := H
          have hcz18_0 : wc.cell? ⟨gb306, 0, none⟩ = some (.string a0_0) := (blk_cell BK306.out 0).trans rfl
          have hcz18_1 : wc.cell? ⟨gb306, 1, none⟩ = some (.slice A0_1 l0_1.length c0_1) := (blk_cell BK306.out 1).trans rfl
          have hcz18_2 : wc.cell? ⟨gb306, 2, none⟩ = some (.slice A0_2 l0_2.length c0_2) := (blk_cell BK306.out 2).trans rfl
          have hfz18_0 := blk_frozen BK306.out 0
          have hfz18_1 := blk_frozen BK306.out 1
          have hfz18_2 := blk_frozen BK306.out 2
          go_wp2_with (first | ((with_reducible refine gate_callee (f := 51) rfl ?_); refine goesL_ (some 20) rfl rfl Try.func51 (by kernel_rfl) rfl #[.slice A0_1 l0_1.length c0_1, .int .i64 a1] rfl (by (try simp only [List.map_toArray, List.map_cons, List.map_nil]); first | done | rfl | (simp only [List.length_drop, List.length_take]; rfl)) ?_; (with_reducible refine (slices_Index_int_int.calls kj2 _ _ l0_1 a1 t307 _ ?side1 ?side2 A8.out).mono ?_); (case side1 => repeat (first | exact (Kd.C_below HR0_1.out HB.out) | (with_reducible refine Kd.C_alloc ?_ _) | (with_reducible refine Kd.C_drewN ?_ _) | (with_reducible refine Kd.C_drew ?_))); (case side2 => exact HC0_1.out); rintro e w' ⟨rfl, ⟨nd, rfl⟩⟩; refine ⟨_, rfl, ?_⟩; have p308 : 0 ≤ (t307 : Int) := of_decide_eq_true (by first | (with_reducible assumption) | assumption); have q308 : t307 < (l0_2.length : Int) := of_decide_eq_true (by first | (with_reducible assumption) | assumption); obtain ⟨ad308, e308, hx308_0⟩ := Kd.at_int HR0_2.out t307 p308 q308; cases e308; replace hx308_0 := (HB.out.cell (World.block_lt_of_cell? w _ hx308_0)).trans hx308_0; replace p308 := eq_true p308; replace q308 := eq_true q308; have p309 : 0 ≤ ((ji12) : Int) := of_decide_eq_true (by first | (with_reducible assumption) | assumption); have q309 : (ji12) < (l0_2.length : Int) := of_decide_eq_true (by first | (with_reducible assumption) | assumption); obtain ⟨ad309, e309, hx309_0⟩ := Kd.at_int HR0_2.out (ji12) p309 q309; obtain rfl : ad308 = ad309 := (by injection e309); replace hx309_0 := (HB.out.cell (World.block_lt_of_cell? w _ hx309_0)).trans hx309_0; replace p309 := eq_true p309; replace q309 := eq_true q309))
          go_ret2
          exact ⟨by first | rfl | (simp [errW_none, errW_some] <;> rfl) | (simp only [← hji12, ← hji15]; first | rfl | (simp [errW_none, errW_some] <;> rfl)) | (simp [*, errW_none, errW_some] <;> rfl), by repeat (first | (with_reducible first | exact HB.out | apply below_alloc | apply pw_below_drewN | apply below_drew1 | refine below_set ?_ GE306.out) | exact HB.out)⟩
        ·rw [if_neg c14] at H
         exact absurd H (by simp)
       ·rw [if_neg c13] at H
        exact absurd H (by simp)
      ·rw [if_neg c11] at H
       have c11b0 : decide ((wrap64 (t307 + 1)) < (l0_1.length : Int)) = false := decide_eq_false c11
       clear c11
       by_cases c19 : (wrap64 (a1 + (rd l0_2 t307))) ≥ (a0_0.size : Int)
       ·rw [if_pos c19] at H
        have c19b0 : decide ((a0_0.size : Int) ≤ (wrap64 (a1 + (rd l0_2 t307)))) = true := decide_eq_true c19
        clear c19
        simp only [Option.some.injEq, Prod.mk.injEq] at H
        obtain ⟨rfl, rfl⟩ := H
        have hcz20_0 : wc.cell? ⟨gb306, 0, none⟩ = some (.string a0_0) := (blk_cell BK306.out 0).trans rfl
        have hcz20_1 : wc.cell? ⟨gb306, 1, none⟩ = some (.slice A0_1 l0_1.length c0_1) := (blk_cell BK306.out 1).trans rfl
        have hcz20_2 : wc.cell? ⟨gb306, 2, none⟩ = some (.slice A0_2 l0_2.length c0_2) := (blk_cell BK306.out 2).trans rfl
        have hfz20_0 := blk_frozen BK306.out 0
        have hfz20_1 := blk_frozen BK306.out 1
        have hfz20_2 := blk_frozen BK306.out 2
        go_wp2_with (first | ((with_reducible refine gate_callee (f := 51) rfl ?_); refine goesL_ (some 20) rfl rfl Try.func51 (by kernel_rfl) rfl #[.slice A0_1 l0_1.length c0_1, .int .i64 a1] rfl (by (try simp only [List.map_toArray, List.map_cons, List.map_nil]); first | done | rfl | (simp only [List.length_drop, List.length_take]; rfl)) ?_; (with_reducible refine (slices_Index_int_int.calls kj2 _ _ l0_1 a1 t307 _ ?side1 ?side2 A8.out).mono ?_); (case side1 => repeat (first | exact (Kd.C_below HR0_1.out HB.out) | (with_reducible refine Kd.C_alloc ?_ _) | (with_reducible refine Kd.C_drewN ?_ _) | (with_reducible refine Kd.C_drew ?_))); (case side2 => exact HC0_1.out); rintro e w' ⟨rfl, ⟨nd, rfl⟩⟩; refine ⟨_, rfl, ?_⟩; have p308 : 0 ≤ (t307 : Int) := of_decide_eq_true (by first | (with_reducible assumption) | assumption); have q308 : t307 < (l0_2.length : Int) := of_decide_eq_true (by first | (with_reducible assumption) | assumption); obtain ⟨ad308, e308, hx308_0⟩ := Kd.at_int HR0_2.out t307 p308 q308; cases e308; replace hx308_0 := (HB.out.cell (World.block_lt_of_cell? w _ hx308_0)).trans hx308_0; replace p308 := eq_true p308; replace q308 := eq_true q308))
        go_ret2
        exact ⟨by first | rfl | (simp [errW_none, errW_some] <;> rfl) | (simp [*, errW_none, errW_some] <;> rfl), by repeat (first | (with_reducible first | exact HB.out | apply below_alloc | apply pw_below_drewN | apply below_drew1 | refine below_set ?_ GE306.out) | exact HB.out)⟩
       ·rw [if_neg c19] at H
        have c19b0 : decide ((a0_0.size : Int) ≤ (wrap64 (a1 + (rd l0_2 t307)))) = false := decide_eq_false c19
        clear c19
        simp only [Option.some.injEq, Prod.mk.injEq] at H
        obtain ⟨rfl, rfl⟩ := H
        have hcz21_0 : wc.cell? ⟨gb306, 0, none⟩ = some (.string a0_0) := (blk_cell BK306.out 0).trans rfl
        have hcz21_1 : wc.cell? ⟨gb306, 1, none⟩ = some (.slice A0_1 l0_1.length c0_1) := (blk_cell BK306.out 1).trans rfl
        have hcz21_2 : wc.cell? ⟨gb306, 2, none⟩ = some (.slice A0_2 l0_2.length c0_2) := (blk_cell BK306.out 2).trans rfl
        have hfz21_0 := blk_frozen BK306.out 0
        have hfz21_1 := blk_frozen BK306.out 1
        have hfz21_2 := blk_frozen BK306.out 2
        go_wp2_with (first | ((with_reducible refine gate_callee (f := 51) rfl ?_); refine goesL_ (some 20) rfl rfl Try.func51 (by kernel_rfl) rfl #[.slice A0_1 l0_1.length c0_1, .int .i64 a1] rfl (by (try simp only [List.map_toArray, List.map_cons, List.map_nil]); first | done | rfl | (simp only [List.length_drop, List.length_take]; rfl)) ?_; (with_reducible refine (slices_Index_int_int.calls kj2 _ _ l0_1 a1 t307 _ ?side1 ?side2 A8.out).mono ?_); (case side1 => repeat (first | exact (Kd.C_below HR0_1.out HB.out) | (with_reducible refine Kd.C_alloc ?_ _) | (with_reducible refine Kd.C_drewN ?_ _) | (with_reducible refine Kd.C_drew ?_))); (case side2 => exact HC0_1.out); rintro e w' ⟨rfl, ⟨nd, rfl⟩⟩; refine ⟨_, rfl, ?_⟩; have p308 : 0 ≤ (t307 : Int) := of_decide_eq_true (by first | (with_reducible assumption) | assumption); have q308 : t307 < (l0_2.length : Int) := of_decide_eq_true (by first | (with_reducible assumption) | assumption); obtain ⟨ad308, e308, hx308_0⟩ := Kd.at_int HR0_2.out t307 p308 q308; cases e308; replace hx308_0 := (HB.out.cell (World.block_lt_of_cell? w _ hx308_0)).trans hx308_0; replace p308 := eq_true p308; replace q308 := eq_true q308))
        go_ret2
        exact ⟨by first | rfl | (simp [errW_none, errW_some] <;> rfl) | (simp [*, errW_none, errW_some] <;> rfl), by repeat (first | (with_reducible first | exact HB.out | apply below_alloc | apply pw_below_drewN | apply below_drew1 | refine below_set ?_ GE306.out) | exact HB.out)⟩
     ·rw [if_neg c10] at H
      exact absurd H (by simp)
    ·rw [if_neg c9] at H
     exact absurd H (by simp)

end Go.Proofs.Ytppelnlocfcgfaa.P
namespace Go.Proofs.Ytppelnlocfcgfaa.P
open Go.RowKit Go.Proofs.YtppelnlocfcgfaaW.PrintWords Go.Proofs.YtppelnlocfcgfaaW.PrintLast Go.Proofs.YtppelnlocfcgfaaW.PrintMore
attribute [local go_sem] max2_int min2_int max_two min_two max_three min_three max_four min_four   -- for this text's walks alone
set_option linter.unusedVariables false
set_option linter.unusedSimpArgs false

/-! ### silversideref07_Shortest: function 36 -/
mutual
def silversideref07_Shortest.j0 : Nat → ByteArray → Int → Bool → Option (Int × Int)
 | 0, _, _, _ => none
 | k + 1, x0, x1, x15 => if x15 = true then (some (0, 2)) else (silversideref07_Shortest.l0 k x0 x1 0 0)
def silversideref07_Shortest.l0 : Nat → ByteArray → Int → Int → Int → Option (Int × Int)
 | 0, _, _, _, _ => none
 | k + 1, x0, x1, x6, x7 => if x7 < (x0.size : Int) then (if x7 = x1 then (silversideref07_Shortest.l0 k x0 x1 x6 (wrap64 (x7 + 1))) else ((silversideref07_Common.f k x0 x1 x0 x7).bind fun t310 => (silversideref07_Shortest.l0 k x0 x1 (mx x6 t310) (wrap64 (x7 + 1))))) else (if (wrap64 (x1 + x6)) = (x0.size : Int) then (some (0, 6)) else (some (wrap64 (x6 + 1), 0)))
end
def silversideref07_Shortest.f (k : Nat) (a0 : ByteArray) (a1 : Int) : Option (Int × Int) := if a1 < 0 then (silversideref07_Shortest.j0 k a0 a1 true) else (silversideref07_Shortest.j0 k a0 a1 (decide (a1 ≥ (a0.size : Int))))
theorem silversideref07_Shortest.mono_l : ∀ k, (∀ y0 y1 y2, LeO (silversideref07_Shortest.j0 k y0 y1 y2) (silversideref07_Shortest.j0 (k + 1) y0 y1 y2)) ∧ (∀ y0 y1 y2 y3, LeO (silversideref07_Shortest.l0 k y0 y1 y2 y3) (silversideref07_Shortest.l0 (k + 1) y0 y1 y2 y3))
 | 0 => ⟨fun _ _ _ r h => by simp [silversideref07_Shortest.j0] at h, fun _ _ _ _ r h => by simp [silversideref07_Shortest.l0] at h⟩
 | k + 1 => by
  obtain ⟨ih0, ih1⟩ := silversideref07_Shortest.mono_l k
  refine ⟨?_, ?_⟩
  ·intro y0 y1 y2
   unfold silversideref07_Shortest.j0
   repeat' first
   | (with_reducible exact ih0 _ _ _)
   | (with_reducible exact ih1 _ _ _ _)
   | (with_reducible exact silversideref07_Common.mono _ _ _ _ _)
   | (with_reducible exact LeO.refl _)
   | (with_reducible exact LeO.none _)
   | (with_reducible refine LeO.ite ?_ ?_)
   | (with_reducible refine LeO.bind ?_ (fun _ => ?_))
   | exact ih0 _ _ _
   | exact ih1 _ _ _ _
   | exact silversideref07_Common.mono _ _ _ _ _
   | exact LeO.none _
   | refine LeO.ite ?_ ?_
   | refine LeO.bind ?_ (fun _ => ?_)
  ·intro y0 y1 y2 y3
   unfold silversideref07_Shortest.l0
   repeat' first
   | (with_reducible exact ih0 _ _ _)
   | (with_reducible exact ih1 _ _ _ _)
   | (with_reducible exact silversideref07_Common.mono _ _ _ _ _)
   | (with_reducible exact LeO.refl _)
   | (with_reducible exact LeO.none _)
   | (with_reducible refine LeO.ite ?_ ?_)
   | (with_reducible refine LeO.bind ?_ (fun _ => ?_))
   | exact ih0 _ _ _
   | exact ih1 _ _ _ _
   | exact silversideref07_Common.mono _ _ _ _ _
   | exact LeO.none _
   | refine LeO.ite ?_ ?_
   | refine LeO.bind ?_ (fun _ => ?_)
theorem silversideref07_Shortest.mono : ∀ a0 a1 k, LeO (silversideref07_Shortest.f k a0 a1) (silversideref07_Shortest.f (k + 1) a0 a1) := by
 intro a0 a1 k
 obtain ⟨ih0, ih1⟩ := silversideref07_Shortest.mono_l k
 unfold silversideref07_Shortest.f
 repeat' first
   | (with_reducible exact ih0 _ _ _)
   | (with_reducible exact ih1 _ _ _ _)
   | (with_reducible exact silversideref07_Common.mono _ _ _ _ _)
   | (with_reducible exact LeO.refl _)
   | (with_reducible exact LeO.none _)
   | (with_reducible refine LeO.ite ?_ ?_)
   | (with_reducible refine LeO.bind ?_ (fun _ => ?_))
   | exact ih0 _ _ _
   | exact ih1 _ _ _ _
   | exact silversideref07_Common.mono _ _ _ _ _
   | exact LeO.none _
   | refine LeO.ite ?_ ?_
   | refine LeO.bind ?_ (fun _ => ?_)
set_option maxHeartbeats 8000000 in
set_option maxRecDepth 100000 in
theorem silversideref07_Shortest.calls (k : Nat) (a0 : ByteArray) (a1 : Int) (r1 : Int) (r2 : Int) (w : World) (h : silversideref07_Shortest.f k a0 a1 = some (r1, r2)) :
  Calls Try.prog 36 #[.string a0, .int .i64 a1] w fun e w' => e = .returned (.tuple #[.int .i64 r1, .int .i64 r2]) ∧ Below w.heap.size w w' := by
 have HB := Aside0.mk (Below.refl w.heap.size w)
 have H : (if a1 < 0 then (silversideref07_Shortest.j0 k a0 a1 true) else (silversideref07_Shortest.j0 k a0 a1 (decide (a1 ≥ (a0.size : Int))))) = some (r1, r2) := h
 clear h
 have HC3 := Aside0.mk H
 clear H
 go_enter Try.func36, Try.ntmps36
 go_upto_region 1 with (fail)
 go_cut [15] (fun v15 wc => ∃ (kq : Nat) (x15_2 : Bool), v15 = .bool x15_2 ∧ Aside0 (silversideref07_Shortest.j0 kq a0 a1 x15_2 = some (r1, r2)) ∧ Aside0 (kq ≤ k) ∧ Aside0 (Below w.heap.size w wc))
 case first =>
  have H := HC3.out
  clear HC3
  by_cases c4 : a1 < 0
  ·rw [if_pos c4] at H
   have c4b0 : decide (a1 < 0) = true := decide_eq_true c4
   clear c4
   (first | rw [c4b0] | (simp only [i64_w, i32_w]; rw [c4b0]) | skip)
   have H' := Aside0.mk H
   clear H
   go_wp2
   go_meet
   case rel => exact ⟨_, (true), (by first | rfl | (simp; done) | (simp [*]; done)), H', ⟨by first | omega | exact Nat.le_refl _⟩, ⟨by repeat (first | (with_reducible first | exact HB.out | apply below_alloc | apply pw_below_drewN | apply below_drew1) | exact HB.out)⟩⟩
  ·rw [if_neg c4] at H
   have c4b0 : decide (a1 < 0) = false := decide_eq_false c4
   clear c4
   (first | rw [c4b0] | (simp only [i64_w, i32_w]; rw [c4b0]) | skip)
   have H' := Aside0.mk H
   clear H
   go_wp2
   go_meet
   case rel => exact ⟨_, (decide (a1 ≥ (a0.size : Int))), (by first | rfl | (simp; done) | (simp [*]; done)), H', ⟨by first | omega | exact Nat.le_refl _⟩, ⟨by repeat (first | (with_reducible first | exact HB.out | apply below_alloc | apply pw_below_drewN | apply below_drew1) | exact HB.out)⟩⟩
 case rest =>
  clear HC3
  try clear p2
  try clear c3
  try clear c4
  try clear c4b0
  obtain ⟨kq, x15_2, rfl, HA, HJ2, HB⟩ := hcut
  cases kq with
  | zero => exact absurd HA.out (by simp [silversideref07_Shortest.j0])
  | succ kj2 =>
   have H := HA.out
   clear HA
   simp only [silversideref07_Shortest.j0] at H
   by_cases c5 : x15_2 = true
   ·subst c5
    have H1 : (some (0, 2)) = some (r1, r2) := by rw [if_pos rfl] at H; exact H
    clear H
    have H := H1
    clear H1
    simp only [Option.some.injEq, Prod.mk.injEq] at H
    obtain ⟨rfl, rfl⟩ := H
    go_wp2
    go_ret2
    exact ⟨by first | rfl | (simp [errW_none, errW_some] <;> rfl) | (simp [*, errW_none, errW_some] <;> rfl), by repeat (first | (with_reducible first | exact HB.out | apply below_alloc | apply pw_below_drewN | apply below_drew1) | exact HB.out)⟩
   ·replace c5 := Bool.eq_false_iff.mpr c5
    subst c5
    have H1 : (silversideref07_Shortest.l0 kj2 a0 a1 0 0) = some (r1, r2) := by rw [if_neg (show ¬ (false = true) by decide)] at H; exact H
    clear H
    have H := H1
    clear H1
    have H' := Aside0.mk H
    clear H
    go_wp2
    go_loopg [6, 7] kj2 (fun kq v6 v7 w' => ∃ (x6_2 : Int) (x7_2 : Int), v6 = .int .i64 x6_2 ∧ v7 = .int .i64 x7_2 ∧ Aside0 (silversideref07_Shortest.l0 kq a0 a1 x6_2 x7_2 = some (r1, r2)) ∧ Aside0 (kq ≤ kj2) ∧ Aside0 (Below w.heap.size w w'))
    case atStart => exact ⟨(0), (0), (by first | rfl | (simp; done) | (simp [*]; done)), (by first | rfl | (simp; done) | (simp [*]; done)), H', ⟨Nat.le_refl _⟩, ⟨by repeat (first | (with_reducible first | exact HB.out | apply below_alloc | apply pw_below_drewN | apply below_drew1) | exact HB.out)⟩⟩
    case round =>
     clear H'
     try clear p2
     try clear c3
     try clear c4
     try clear c4b0
     try clear c5
     try clear p2
     obtain ⟨x6_2, x7_2, rfl, rfl, HA, HK2, HB⟩ := hrel
     cases gk with
     | zero => exact absurd HA.out (by simp [silversideref07_Shortest.l0])
     | succ k2 =>
      have H := HA.out
      clear HA
      simp only [silversideref07_Shortest.l0] at H
      by_cases c6 : x7_2 < (a0.size : Int)
      ·rw [if_pos c6] at H
       have c6b0 : decide (x7_2 < (a0.size : Int)) = true := decide_eq_true c6
       clear c6
       by_cases c7 : x7_2 = a1
       ·rw [if_pos c7] at H
        have c7b0 : (x7_2 == a1) = true := beq_iff_eq.mpr c7
        have c7b1 : (x7_2 != a1) = false := bne_eq_false_iff_eq.mpr c7
        clear c7
        have H' := Aside0.mk H
        clear H
        go_wp2
        go_roundg k2
        case measure => have := HJ2.out; have := HK2.out; omega
        case rel => exact ⟨(x6_2), (wrap64 (x7_2 + 1)), (by first | rfl | (simp; done) | (simp [*]; done)), (by first | rfl | (simp; done) | (simp [*]; done)), H', ⟨by have := HJ2.out; have := HK2.out; omega⟩, ⟨by repeat (first | (with_reducible first | exact HB.out | apply below_alloc | apply pw_below_drewN | apply below_drew1) | exact HB.out)⟩⟩
       ·rw [if_neg c7] at H
        have c7b0 : (x7_2 == a1) = false := beq_eq_false_iff_ne.mpr c7
        have c7b1 : (x7_2 != a1) = true := bne_iff_ne.mpr c7
        replace H := Option.bind_eq_some_iff.mp H
        obtain ⟨t310, A80, H⟩ := H
        replace H : (silversideref07_Shortest.l0 k2 a0 a1 (mx x6_2 t310) (wrap64 (x7_2 + 1))) = some (r1, r2) := H
        have A8 := Aside0.mk A80
        clear A80
        obtain ⟨ji9, hji9⟩ : ∃ j_ : Int, (mx x6_2 t310) = j_ := ⟨_, rfl⟩
        replace H : (silversideref07_Shortest.l0 k2 a0 a1 ji9 (wrap64 (x7_2 + 1))) = some (r1, r2) := by first | (rw [hji9] at H; exact H) | (simp only [hji9] at H ⊢; exact H)
        (try rw [hji9] at A8)
        have hji9_ : (if x6_2 < t310 then t310 else x6_2) = ji9 := hji9
        have H' := Aside0.mk H
        clear H
        go_wp2_with (first | ((with_reducible refine gate_callee (f := 43) rfl ?_); refine goesL_ (some 30) rfl rfl Try.func43 (by kernel_rfl) rfl #[.string a0, .int .i64 a1, .string a0, .int .i64 x7_2] rfl (by (try simp only [List.map_toArray, List.map_cons, List.map_nil]); first | done | rfl | (simp only [List.length_drop, List.length_take]; rfl)) ?_; (with_reducible refine (silversideref07_Common.calls k2 a0 a1 a0 x7_2 t310 _ A8.out).mono ?_); rintro e w' ⟨rfl, ⟨nd, rfl⟩⟩; refine ⟨_, rfl, ?_⟩))
        go_roundg k2
        case measure => have := HJ2.out; have := HK2.out; omega
        case rel => exact ⟨(ji9), (wrap64 (x7_2 + 1)), (by first | rfl | (simp; done) | (simp only [← hji9] <;> (first | rfl | simp)) | (simp [*]; done)), (by first | rfl | (simp; done) | (simp [*]; done)), H', ⟨by have := HJ2.out; have := HK2.out; omega⟩, ⟨by repeat (first | (with_reducible first | exact HB.out | apply below_alloc | apply pw_below_drewN | apply below_drew1) | exact HB.out)⟩⟩
      ·rw [if_neg c6] at H
       have c6b0 : decide (x7_2 < (a0.size : Int)) = false := decide_eq_false c6
       clear c6
       by_cases c10 : (wrap64 (a1 + x6_2)) = (a0.size : Int)
       ·rw [if_pos c10] at H
        have c10b0 : ((wrap64 (a1 + x6_2)) == (a0.size : Int)) = true := beq_iff_eq.mpr c10
        have c10b1 : ((wrap64 (a1 + x6_2)) != (a0.size : Int)) = false := bne_eq_false_iff_eq.mpr c10
        clear c10
        simp only [Option.some.injEq, Prod.mk.injEq] at H
        obtain ⟨rfl, rfl⟩ := H
        go_wp2
        go_ret2
        exact ⟨by first | rfl | (simp [errW_none, errW_some] <;> rfl) | (simp [*, errW_none, errW_some] <;> rfl), by repeat (first | (with_reducible first | exact HB.out | apply below_alloc | apply pw_below_drewN | apply below_drew1) | exact HB.out)⟩
       ·rw [if_neg c10] at H
        have c10b0 : ((wrap64 (a1 + x6_2)) == (a0.size : Int)) = false := beq_eq_false_iff_ne.mpr c10
        have c10b1 : ((wrap64 (a1 + x6_2)) != (a0.size : Int)) = true := bne_iff_ne.mpr c10
        simp only [Option.some.injEq, Prod.mk.injEq] at H
        obtain ⟨rfl, rfl⟩ := H
        go_wp2
        go_ret2
        exact ⟨by first | rfl | (simp [errW_none, errW_some] <;> rfl) | (simp [*, errW_none, errW_some] <;> rfl), by repeat (first | (with_reducible first | exact HB.out | apply below_alloc | apply pw_below_drewN | apply below_drew1) | exact HB.out)⟩

end Go.Proofs.Ytppelnlocfcgfaa.P
namespace Go.Proofs.Ytppelnlocfcgfaa.P
open Go.RowKit Go.Proofs.YtppelnlocfcgfaaW.PrintWords Go.Proofs.YtppelnlocfcgfaaW.PrintLast Go.Proofs.YtppelnlocfcgfaaW.PrintMore
open Go.Proofs.Fnd
set_option linter.unusedVariables false
set_option linter.unusedSimpArgs false
theorem info75 : (Try.prog.info? 75).map (·.size) = some 257 := by kernel_rfl
theorem zero75 : Try.zeroCells75 = (nums .i64 (List.replicate 257 0)).toArray := by kernel_rfl
/-- the row's last byte plus one, 0 for the end mark -/
def lastAt (s : List UInt8) (m r : Nat) : Nat := if r = m then 0 else (s.getD (bix r m) 0).toNat + 1
def lastL (s : List UInt8) (m k : Nat) : List Int := (List.range k).map fun r => (lastAt s m r : Int)
theorem lastL_len (s : List UInt8) (m k : Nat) : (lastL s m k).length = k := by simp [lastL]
theorem lastL_succ (s : List UInt8) (m k : Nat) : lastL s m (k + 1) = lastL s m k ++ [(lastAt s m k : Int)] := by simp [lastL, List.range_succ]
theorem el_lastL (s : List UInt8) (m k r : Nat) (h : r < k) : el (lastL s m k) r = (lastAt s m r : Int) := by
  unfold el lastL
  rw [List.getD_eq_getElem?_getD, List.getElem?_map, List.getElem?_range h]; rfl
theorem lastAt_mark (s : List UInt8) (m : Nat) : lastAt s m m = 0 := if_pos rfl
theorem lastAt_ne (s : List UInt8) {m r : Nat} (h : r ≠ m) : lastAt s m r = (s.getD (bix r m) 0).toNat + 1 := if_neg h
theorem lastAt_lt (s : List UInt8) (m r : Nat) : lastAt s m r < 257 := by
  unfold lastAt
  split
  · omega
  · have := (s.getD (bix r m) 0).toNat_lt; omega
/-- rows that stand when the first i bytes are told -/
def cntR (m i : Nat) : Nat := if m < i then i + 1 else i
/-- the counts behind the first k rows -/
def cV (s : List UInt8) (m k c : Nat) : Nat := if c = 0 then (if m < k then 1 else 0) else occ s (bix k m) (c - 1)
/-- how many rows' bytes are less -/
def bV (s : List UInt8) (c : Nat) : Nat := if c = 0 then 0 else 1 + less s (c - 1)
theorem cV_zero (s : List UInt8) (m c : Nat) : cV s m 0 c = 0 := by
  unfold cV
  split
  · rw [if_neg (by omega)]
  · rw [bix_zero, occ_zero]
theorem cV_le (s : List UInt8) (m k c : Nat) : cV s m k c ≤ k + 1 := by
  unfold cV
  split
  · split <;> omega
  · have := occ_le s (bix k m) (c - 1)
    unfold bix at this ⊢
    split at this <;> (rename_i h; simp only [h, if_true, if_false] ; omega)
theorem cV_step (s : List UInt8) {m k : Nat} (hm : m ≤ s.length) (hk : k ≤ s.length) (c : Nat) : cV s m (k + 1) c = cV s m k c + (if lastAt s m k = c then 1 else 0) := by
  by_cases e : k = m
  · subst e
    rw [lastAt_mark]
    unfold cV
    by_cases h0 : c = 0
    · rw [if_pos h0, if_pos h0, if_pos (by omega), if_neg (by omega), if_pos h0.symm]
    · rw [if_neg h0, if_neg h0, bix_mark, bix_self, if_neg (fun q => h0 q.symm)]; rfl
  · rw [lastAt_ne s e]
    have hb := bix_lt hk hm e
    unfold cV
    by_cases h0 : c = 0
    · rw [if_pos h0, if_pos h0]
      have hz : ¬ (s.getD (bix k m) 0).toNat + 1 = c := by omega
      rw [if_neg hz]
      by_cases q : m < k
      · rw [if_pos q, if_pos (by omega)]
      · rw [if_neg q, if_neg (by omega)]
    · rw [if_neg h0, if_neg h0, bix_next e, occ_succ s _ _ hb, List.getD_eq_getElem?_getD, List.getElem?_eq_getElem hb, Option.getD_some]
      congr 1
      by_cases q : (s[bix k m]).toNat = c - 1
      · rw [if_pos q, if_pos (by omega)]
      · rw [if_neg q, if_neg (by omega)]
theorem bV_step (s : List UInt8) {m : Nat} (hm : m ≤ s.length) (c : Nat) : bV s (c + 1) = bV s c + cV s m (s.length + 1) c := by
  unfold bV cV
  rw [if_neg (by omega), Nat.add_sub_cancel]
  by_cases h0 : c = 0
  · subst h0; rw [if_pos rfl, if_pos rfl, if_pos (by omega), less_zero]
  · rw [if_neg h0, if_neg h0, bix_end hm]
    obtain ⟨d, rfl⟩ : ∃ d, c = d + 1 := ⟨c - 1, by omega⟩
    rw [Nat.add_sub_cancel, less_succ]; omega
theorem bV_le (s : List UInt8) (c : Nat) : bV s c ≤ s.length + 1 := by
  unfold bV
  split
  · omega
  · have : less s (c - 1) ≤ s.length := List.countP_le_length
    omega
theorem first_lead (s : List UInt8) {m k : Nat} (hm : m ≤ s.length) (hk : k ≤ s.length) : bV s (lastAt s m k) + cV s m k (lastAt s m k) = lead s m k := by
  by_cases e : k = m
  · subst e
    rw [lastAt_mark, lead, if_pos rfl]
    unfold bV cV
    rw [if_pos rfl, if_pos rfl, if_neg (by omega)]
  · have hb := bix_lt hk hm e
    rw [lastAt_ne s e, lead, if_neg e, pos_eq s _ hb]
    unfold bV cV
    rw [if_neg (by omega), if_neg (by omega), Nat.add_sub_cancel, List.getD_eq_getElem?_getD, List.getElem?_eq_getElem hb, Option.getD_some]
    omega
def leadL (s : List UInt8) (m k : Nat) : List Int := (List.range k).map fun r => (lead s m r : Int)
theorem leadL_len (s : List UInt8) (m k : Nat) : (leadL s m k).length = k := by simp [leadL]
theorem leadL_succ (s : List UInt8) (m k : Nat) : leadL s m (k + 1) = leadL s m k ++ [(lead s m k : Int)] := by simp [leadL, List.range_succ]
theorem el_leadL (s : List UInt8) (m k r : Nat) (h : r < k) : el (leadL s m k) r = (lead s m r : Int) := by
  unfold el leadL
  rw [List.getD_eq_getElem?_getD, List.getElem?_map, List.getElem?_range h]; rfl
/-- what the arrays hold -/
def IsCnt (s : List UInt8) (m k : Nat) (cur : List Int) : Prop := cur.length = 257 ∧ ∀ c : Nat, c < 257 → el cur c = (cV s m k c : Int)
def IsBeg (s : List UInt8) (m k : Nat) (cur : List Int) : Prop := cur.length = 257 ∧ ∀ c : Nat, c < 257 → el cur c = (bV s c + cV s m k c : Nat)
def IsSum (s : List UInt8) (j : Nat) (cur : List Int) : Prop := cur.length = 257 ∧ ∀ c : Nat, c < 257 → el cur c = if c < j then (bV s c : Int) else 0
theorem isCnt_zero (s : List UInt8) (m : Nat) : IsCnt s m 0 (List.replicate 257 0) := ⟨List.length_replicate, fun c hc => by rw [cV_zero, el_replicate]; rfl⟩
theorem isCnt_step {s : List UInt8} {m k : Nat} {cur : List Int} (h : IsCnt s m k cur) (hm : m ≤ s.length) (hk : k ≤ s.length) : IsCnt s m (k + 1) (cur.set (lastAt s m k) (el cur (lastAt s m k) + 1)) := by
  refine ⟨by simp [h.1], fun c hc => ?_⟩
  rw [cV_step s hm hk]
  have hl := lastAt_lt s m k
  by_cases e : lastAt s m k = c
  · subst e
    rw [getD_set_same _ _ _ (by rw [h.1]; exact hc), h.2 _ hc, if_pos rfl]; push_cast; rfl
  · rw [getD_set_ne _ _ _ _ e, h.2 _ hc, if_neg e]; rfl
theorem isSum_one (s : List UInt8) : IsSum s 1 (List.replicate 257 0) := ⟨List.length_replicate, fun c hc => by
  rw [el_replicate]
  split
  · rw [show c = 0 by omega]; rfl
  · rfl⟩
theorem isSum_step {s : List UInt8} {m j : Nat} {cur cnt : List Int} (h : IsSum s (j + 1) cur) (hc : IsCnt s m (s.length + 1) cnt) (hm : m ≤ s.length) (hj : j + 1 < 257) : IsSum s (j + 2) (cur.set (j + 1) (el cur j + el cnt j)) := by
  refine ⟨by simp [h.1], fun c hcl => ?_⟩
  by_cases e : j + 1 = c
  · subst e
    rw [getD_set_same _ _ _ (by rw [h.1]; exact hcl), h.2 j (by omega), hc.2 j (by omega), if_pos (by omega), if_pos (by omega), bV_step s hm]; push_cast; rfl
  · rw [getD_set_ne _ _ _ _ e, h.2 _ hcl]
    by_cases q : c < j + 1
    · rw [if_pos q, if_pos (by omega)]
    · rw [if_neg q, if_neg (by omega)]
theorem isSum_beg {s : List UInt8} {m : Nat} {cur : List Int} (h : IsSum s 257 cur) : IsBeg s m 0 cur := ⟨h.1, fun c hc => by rw [h.2 c hc, if_pos hc, cV_zero]; rfl⟩
theorem isBeg_step {s : List UInt8} {m k : Nat} {cur : List Int} (h : IsBeg s m k cur) (hm : m ≤ s.length) (hk : k ≤ s.length) : IsBeg s m (k + 1) (cur.set (lastAt s m k) (el cur (lastAt s m k) + 1)) := by
  refine ⟨by simp [h.1], fun c hc => ?_⟩
  rw [cV_step s hm hk]
  have hl := lastAt_lt s m k
  by_cases e : lastAt s m k = c
  · subst e
    rw [getD_set_same _ _ _ (by rw [h.1]; exact hc), h.2 _ hc, if_pos rfl]; push_cast; omega
  · rw [getD_set_ne _ _ _ _ e, h.2 _ hc, if_neg e]; rfl
theorem isBeg_lead {s : List UInt8} {m k : Nat} {cur : List Int} (h : IsBeg s m k cur) (hm : m ≤ s.length) (hk : k ≤ s.length) : el cur (lastAt s m k) = (lead s m k : Int) := by
  rw [h.2 _ (lastAt_lt s m k), first_lead s hm hk]
end Go.Proofs.Ytppelnlocfcgfaa.P
namespace Go.Proofs.Ytppelnlocfcgfaa.P
open Go.RowKit Go.Proofs.YtppelnlocfcgfaaW.PrintWords Go.Proofs.YtppelnlocfcgfaaW.PrintLast Go.Proofs.YtppelnlocfcgfaaW.PrintMore
open Go.Proofs.Fnd
set_option linter.unusedVariables false
set_option linter.unusedSimpArgs false
/-- what the reference's Turn answers -/
def turnA (t : ByteArray) : ByteArray × Int := if t.size = 0 then ((⟨#[]⟩ : ByteArray), (0 : Int)) else ((⟨(bwt t.data.toList).toArray⟩ : ByteArray), (bmark t.data.toList : Int))
set_option maxHeartbeats 4000000 in
set_option maxRecDepth 100000 in
theorem refrestore_calls (kt : Nat) (a0 : ByteArray) (m : Nat) (hs : a0.size ≤ 4096) (hm : m ≤ a0.size) (ut : ByteArray) (mt : Int) (hT : silversideref07_Turn.f kt ⟨(metL a0.data.toList m).toArray⟩ = some (ut, mt)) (w : World) :
    Calls Try.prog 26 #[.string a0, .int .i64 m] w fun e w' => e = (if (∀ j, j < a0.size → rowNo a0.data.toList m j ≠ m) ∧ ut = a0 ∧ mt = (m : Int) then .returned (.tuple #[.string ⟨(metL a0.data.toList m).toArray⟩, .int .i64 0]) else .returned (.tuple #[.string (⟨#[]⟩ : ByteArray), .int .i64 70])) ∧ Below w.heap.size w w' := by
  have hsz : a0.data.toList.length = a0.size := data_length a0
  have HSZ := Aside0.mk hsz
  clear hsz
  have HT := Aside0.mk hT
  clear hT
  have HB0 := Aside0.mk (Below.refl w.heap.size w)
  have hs4 : ¬ (4096 : Int) < ((a0.size : Nat) : Int) := by omega
  have hm1 : ¬ ((a0.size : Nat) : Int) < (m : Int) := by omega
  have hm0 : ¬ (m : Int) < 0 := by omega
  obtain ⟨E, hE⟩ : ∃ E : Ending, (if (∀ j, j < a0.size → rowNo a0.data.toList m j ≠ m) ∧ ut = a0 ∧ mt = (m : Int) then .returned (.tuple #[.string ⟨(metL a0.data.toList m).toArray⟩, .int .i64 0]) else .returned (.tuple #[.string (⟨#[]⟩ : ByteArray), .int .i64 70])) = E := ⟨_, rfl⟩
  have HE := Aside0.mk hE
  rw [hE]
  clear hE
  go_enter Try.func26, Try.ntmps26
  go_wp2
  clear hs4 hm0
  go_loopw [6, 7] (fun v6 v7 wr => ∃ i : Nat, i ≤ a0.size ∧ v7 = .int .i64 i ∧ Aside0 (Kd.R (Kd.int .i64) 3 wr w.heap.size (fun _ => True) v6 (lastL a0.data.toList m (cntR m i))) ∧ Aside0 (Below w.heap.size w wr)) (fun _ v7 _ => a0.size - (intOf v7).toNat)
  case atStart => exact ⟨0, by omega, rfl, ⟨by unfold cntR; rw [if_neg (by omega)]; exact Kd.R_nil _ _ _ _ _⟩, HB0⟩
  case round =>
    obtain ⟨i, hi, rfl, HL, HB⟩ := hrel
    clear HB0
    by_cases hlt : i < a0.size
    · have hltI : ((i : Nat) : Int) < ((a0.size : Nat) : Int) := by omega
      have hc8 : a0[i].toNat < 256 := a0[i].toNat_lt
      have hcI : ((a0[i].toNat : Nat) : Int) < 256 := by omega
      by_cases him : i = m
      · subst him
        have e1 : Aside0 (cntR i i = i) := ⟨by unfold cntR; rw [if_neg (by omega)]⟩
        have e2 : Aside0 (lastL a0.data.toList i (cntR i (i + 1)) = (lastL a0.data.toList i i ++ [0]) ++ [((a0[i].toNat : Nat) : Int) + 1]) := ⟨by
          unfold cntR; rw [if_pos (by omega), lastL_succ, lastL_succ, lastAt_mark, lastAt_ne _ (by omega : i + 1 ≠ i), bix_mark, getD_at a0 i hlt]; push_cast; rfl⟩
        rw [e1.out] at HL
        have hll := Aside0.mk (lastL_len a0.data.toList i i)
        go_wp2_with (first | ((with_reducible refine gate_builtin (b := .append) (xs := #[.tmp 44, .tmp 45]) rfl ?_); at_builtin; refine Kd.R_append (Kd.int .i64) (w0 := w) w.heap.size rfl (.tmp 44) (.tmp 45) 22 3 (.int .i64 0) 8 rfl Try.underlying22 info3 rfl (by decide) (by omega) u6 (lastL a0.data.toList i i) 0 [.int .i64 0] (fun _ => True) (fun _ => False) rfl rfl ?aP (fun _ hk => hk.elim) ?aF ?aO ?aB ?aS ?aL ?_; (case aP => exact rfl); (case aB => exact HB.out); (case aF => exact (fun _ _ => trivial)); (case aO => exact HL.out); (case aS => exact HB.out.size); (case aL => rw [hll.out]; omega); intro v1 w1 ho1 hb1 hg1 hat1; have HL1 := Aside0.mk ho1; have HB1 := Aside0.mk hb1; clear ho1 hb1 hg1 hat1) | ((with_reducible refine gate_builtin (b := .append) (xs := #[.tmp 47, .tmp 53]) rfl ?_); at_builtin; refine Kd.R_append (Kd.int .i64) (w0 := w) w.heap.size rfl (.tmp 47) (.tmp 53) 22 3 (.int .i64 0) 8 rfl Try.underlying22 info3 rfl (by decide) (by omega) v1 (lastL a0.data.toList i i ++ [0]) (((a0[i].toNat : Nat) : Int) + 1) [.int .i64 (((a0[i].toNat : Nat) : Int) + 1)] (fun _ => True) (fun _ => False) rfl rfl ?aP (fun _ hk => hk.elim) ?aF ?aO ?aB ?aS ?aL ?_; (case aP => exact rfl); (case aB => exact HB1.out); (case aF => exact (fun _ _ => trivial)); (case aO => exact HL1.out); (case aS => exact HB1.out.size); (case aL => rw [List.length_append, hll.out]; simp; omega); intro v2 w2 ho2 hb2 hg2 hat2; have HL2 := Aside0.mk ho2; have HB2 := Aside0.mk hb2; clear ho2 hb2 hg2 hat2))
        rw [← e2.out] at HL2
        go_roundw
        case rel => exact ⟨i + 1, by omega, by go_num, HL2, HB2⟩
        case measure => simp [intOf]; omega
      · have himI : ¬ ((i : Nat) : Int) = (m : Int) := by omega
        have e1 : Aside0 (lastL a0.data.toList m (cntR m (i + 1)) = lastL a0.data.toList m (cntR m i) ++ [((a0[i].toNat : Nat) : Int) + 1]) := ⟨by
          have h1 : cntR m (i + 1) = cntR m i + 1 := by unfold cntR; split <;> split <;> omega
          have h2 : cntR m i ≠ m := by unfold cntR; split <;> omega
          have h3 : bix (cntR m i) m = i := by
            unfold cntR bix
            by_cases q : m < i
            · rw [if_pos q, if_pos (by omega)]; omega
            · rw [if_neg q, if_neg q]
          rw [h1, lastL_succ, lastAt_ne _ h2, h3, getD_at a0 i hlt]; push_cast; rfl⟩
        have hll : Aside0 ((lastL a0.data.toList m (cntR m i)).length ≤ 4097) := ⟨by rw [lastL_len]; unfold cntR; split <;> omega⟩
        go_wp2_with (first | ((with_reducible refine gate_builtin (b := .append) (xs := #[.tmp 47, .tmp 53]) rfl ?_); at_builtin; refine Kd.R_append (Kd.int .i64) (w0 := w) w.heap.size rfl (.tmp 47) (.tmp 53) 22 3 (.int .i64 0) 8 rfl Try.underlying22 info3 rfl (by decide) (by omega) u6 (lastL a0.data.toList m (cntR m i)) (((a0[i].toNat : Nat) : Int) + 1) [.int .i64 (((a0[i].toNat : Nat) : Int) + 1)] (fun _ => True) (fun _ => False) rfl rfl ?aP (fun _ hk => hk.elim) ?aF ?aO ?aB ?aS ?aL ?_; (case aP => exact rfl); (case aB => exact HB.out); (case aF => exact (fun _ _ => trivial)); (case aO => exact HL.out); (case aS => exact HB.out.size); (case aL => have := hll.out; omega); intro v2 w2 ho2 hb2 hg2 hat2; have HL2 := Aside0.mk ho2; have HB2 := Aside0.mk hb2; clear ho2 hb2 hg2 hat2))
        rw [← e1.out] at HL2
        go_roundw
        case rel => exact ⟨i + 1, by omega, by go_num, HL2, HB2⟩
        case measure => simp [intOf]; omega
    · obtain rfl : i = a0.size := by omega
      have hll : Aside0 ((lastL a0.data.toList m (cntR m a0.size)).length ≤ 4097) := ⟨by rw [lastL_len]; unfold cntR; split <;> omega⟩
      go_upto_if 58 with (fail)
      (try simp only [Act.put, List.setIfInBounds_toArray, List.set_cons_zero, List.set_cons_succ])
      go_cut [6] (fun v6 wc => Aside0 (Kd.R (Kd.int .i64) 3 wc w.heap.size (fun _ => True) v6 (lastL a0.data.toList m (a0.size + 1))) ∧ Aside0 (Below w.heap.size w wc))
      case first =>
        by_cases hmn : m = a0.size
        · subst hmn
          have e1 : Aside0 (lastL a0.data.toList a0.size (cntR a0.size a0.size) ++ [0] = lastL a0.data.toList a0.size (a0.size + 1)) := ⟨by
            unfold cntR; rw [if_neg (by omega), lastL_succ, lastAt_mark]; rfl⟩
          go_wp2_with (first | ((with_reducible refine gate_builtin (b := .append) (xs := #[.tmp 59, .tmp 60]) rfl ?_); at_builtin; refine Kd.R_append (Kd.int .i64) (w0 := w) w.heap.size rfl (.tmp 59) (.tmp 60) 22 3 (.int .i64 0) 8 rfl Try.underlying22 info3 rfl (by decide) (by omega) u6 (lastL a0.data.toList a0.size (cntR a0.size a0.size)) 0 [.int .i64 0] (fun _ => True) (fun _ => False) rfl rfl ?aP (fun _ hk => hk.elim) ?aF ?aO ?aB ?aS ?aL ?_; (case aP => exact rfl); (case aB => exact HB.out); (case aF => exact (fun _ _ => trivial)); (case aO => exact HL.out); (case aS => exact HB.out.size); (case aL => have := hll.out; omega); intro v1 w1 ho1 hb1 hg1 hat1; have HL1 := Aside0.mk ho1; have HB1 := Aside0.mk hb1; clear ho1 hb1 hg1 hat1))
          rw [e1.out] at HL1
          go_meet
          case rel => exact ⟨HL1, HB1⟩
        · have hmnI : ¬ ((m : Nat) : Int) = ((a0.size : Nat) : Int) := by omega
          have e1 : cntR m a0.size = a0.size + 1 := by unfold cntR; rw [if_pos (by omega)]
          rw [e1] at HL
          clear e1
          go_wp2
          go_meet
          case rel => exact ⟨HL, HB⟩
      case rest =>
        obtain ⟨HL', HB'⟩ := hcut
        clear HL HB hll
        have HLN : Aside0 ((lastL a0.data.toList m (a0.size + 1)).length = a0.size + 1) := ⟨lastL_len _ _ _⟩
        have HLE : Aside0 (∀ r, r < a0.size + 1 → el (lastL a0.data.toList m (a0.size + 1)) r = (lastAt a0.data.toList m r : Int)) := ⟨fun r hr => el_lastL _ _ _ _ hr⟩
        obtain ⟨L, hL⟩ : ∃ L, lastL a0.data.toList m (a0.size + 1) = L := ⟨_, rfl⟩
        rw [hL] at HL' HLN HLE
        clear hL
        obtain ⟨g6, c6, rfl, hg61, hg62, cl6, hgc6⟩ := Kd.R_form HL'.out (by rw [HLN.out]; omega)
        clear cl6 hgc6
        have HG1 := Aside0.mk (show (wc.alloc (Obj.cells Try.zeroCells75 75)).heap[wc.heap.size]? = some (.cells (nums .i64 (List.replicate 257 0)).toArray 75 (0, 0)) by rw [← zero75]; exact heap_alloc_new _ _)
        have HB1 := Aside0.mk (HB'.out.alloc HB'.out.size (Obj.cells Try.zeroCells75 75))
        have HL1 := Aside0.mk (Kd.R_alloc HL'.out (Obj.cells Try.zeroCells75 75))
        have HS1 := Aside0.mk HB'.out.size
        have HC1 : Aside0 (IsCnt a0.data.toList m 0 (List.replicate 257 0)) := ⟨isCnt_zero _ _⟩
        have HSZ2 := Aside0.mk (show wc.heap.size < (wc.alloc (Obj.cells Try.zeroCells75 75)).heap.size by simp)
        have hne6 : g6 ≠ wc.heap.size := by omega
        clear HL' HB' hg62
        go_wp2
        go_loopw [9] (fun v9 wr => ∃ (k : Nat) (cur : List Int), k ≤ a0.size + 1 ∧ v9 = .int .i64 k ∧ Aside0 (IsCnt a0.data.toList m k cur) ∧ Aside0 (wr.heap[wc.heap.size]? = some (.cells (nums .i64 cur).toArray 75 (0, 0))) ∧ Aside0 (Kd.R (Kd.int .i64) 3 wr w.heap.size (fun _ => True) (.slice (some ⟨g6, 0, none⟩) L.length c6) L) ∧ Aside0 (Below w.heap.size w wr)) (fun v9 _ => a0.size + 1 - (intOf v9).toNat)
        case atStart => exact ⟨0, _, by omega, rfl, HC1, HG1, HL1, HB1⟩
        case round =>
          obtain ⟨k, cur, hk, rfl, HC, HG, HL, HB⟩ := hrel
          clear HC1 HG1 HL1 HB1
          by_cases hlt : k < a0.size + 1
          · have hkI : ((k : Nat) : Int) < ((L.length : Nat) : Int) := by rw [HLN.out]; omega
            obtain ⟨hx, hf⟩ := Kd.R_celln 0 HL.out (k : Int) (by omega) hkI
            rw [show rdOf 0 L (k : Int) = el L k from by simp [rdOf, el], HLE.out k hlt, Int.toNat_natCast] at hx
            have hc257 := lastAt_lt a0.data.toList m k
            have HC' := Aside0.mk (isCnt_step HC.out (by rw [HSZ.out]; omega) (by rw [HSZ.out]; omega))
            have hcv := HC.out.2 _ hc257
            have hcl := cV_le a0.data.toList m k (lastAt a0.data.toList m k)
            have hcell : wr.cell? ⟨wc.heap.size, lastAt a0.data.toList m k, none⟩ = some (.int .i64 (el cur (lastAt a0.data.toList m k))) := blk_num HG.out _ (by rw [HC.out.1]; exact hc257)
            have hfr := blk_frozen HG.out (lastAt a0.data.toList m k)
            have HG' := Aside0.mk (blk_store HG.out (lastAt a0.data.toList m k) (el cur (lastAt a0.data.toList m k) + 1))
            have HL' := Aside0.mk (Kd.R_set HL.out HG.out (by intro q hq; simp [Kd.int, Kd.scalar] at hq; omega) (lastAt a0.data.toList m k) (.int .i64 (el cur (lastAt a0.data.toList m k) + 1)))
            have HB' : Aside0 (Below w.heap.size w (wr.setCell ⟨wc.heap.size, lastAt a0.data.toList m k, none⟩ (.int .i64 (el cur (lastAt a0.data.toList m k) + 1)))) := ⟨below_set HB.out HS1.out⟩
            have hge : 0 ≤ el cur (lastAt a0.data.toList m k) := by omega
            have hle : el cur (lastAt a0.data.toList m k) ≤ 8192 := by omega
            clear hcv hcl HC HG HL HB
            generalize lastAt a0.data.toList m k = c at *
            have hcI : ((c : Nat) : Int) < 257 := by omega
            go_wp2
            go_roundw
            case rel => exact ⟨k + 1, _, by omega, by go_num, HC', HG', HL', HB'⟩
            case measure => simp [intOf]; omega
          · obtain rfl : k = a0.size + 1 := by omega
            have hkI : ¬ (((a0.size + 1 : Nat) : Nat) : Int) < ((L.length : Nat) : Int) := by rw [HLN.out]; omega
            obtain ⟨wd, hwd⟩ : ∃ wd : World, wd = wr := ⟨_, rfl⟩
            subst hwd
            obtain ⟨cnt, hcnt⟩ : ∃ cnt : List Int, cnt = cur := ⟨_, rfl⟩
            subst hcnt
            have hG12 : wc.heap.size < wd.heap.size := (blk_lt HG.out)
            have HG2 := Aside0.mk (show (wd.alloc (Obj.cells Try.zeroCells75 75)).heap[wd.heap.size]? = some (.cells (nums .i64 (List.replicate 257 0)).toArray 75 (0, 0)) by rw [← zero75]; exact heap_alloc_new _ _)
            have HB2 := Aside0.mk (HB.out.alloc HB.out.size (Obj.cells Try.zeroCells75 75))
            have HL2 := Aside0.mk (Kd.R_alloc HL.out (Obj.cells Try.zeroCells75 75))
            have HG1' := Aside0.mk (blk_alloc HG.out (Obj.cells Try.zeroCells75 75))
            have HS2 := Aside0.mk HB.out.size
            have hne62 : g6 ≠ wd.heap.size := by
              obtain ⟨_, _, e, _, h2, _⟩ := Kd.R_form HL.out (by rw [HLN.out]; omega)
              simp only [Value.slice.injEq, Option.some.injEq, Addr.mk.injEq] at e
              omega
            have HU2 : Aside0 (IsSum a0.data.toList 1 (List.replicate 257 0)) := ⟨isSum_one _⟩
            clear HL HG HB
            rw [show (((a0.size + 1 : Nat) : Nat) : Int) = ((a0.size : Nat) : Int) + 1 from by push_cast; rfl]
            go_wp2
            go_loopw [12] (fun v12 wr => ∃ (j : Nat) (beg : List Int), j + 1 ≤ 257 ∧ v12 = .int .i64 ((j : Int) + 1) ∧ Aside0 (IsSum a0.data.toList (j + 1) beg) ∧ Aside0 (wr.heap[wd.heap.size]? = some (.cells (nums .i64 beg).toArray 75 (0, 0))) ∧ Aside0 (wr.heap[wc.heap.size]? = some (.cells (nums .i64 cnt).toArray 75 (0, 0))) ∧ Aside0 (Kd.R (Kd.int .i64) 3 wr w.heap.size (fun _ => True) (.slice (some ⟨g6, 0, none⟩) L.length c6) L) ∧ Aside0 (Below w.heap.size w wr)) (fun v12 _ => 258 - (intOf v12).toNat)
            case atStart => exact ⟨0, _, by omega, by rfl, HU2, HG2, HG1', HL2, HB2⟩
            case round =>
              obtain ⟨j, beg, hj, rfl, HU, HG, HGC, HL, HB⟩ := hrel
              clear HU2 HG2 HG1' HL2 HB2
              by_cases hlt : j + 1 < 257
              · have hjI : ((j : Nat) : Int) + 1 < 257 := by omega
                have hc1 := blk_num HG.out j (by rw [HU.out.1]; omega)
                have hc2 := blk_num HGC.out j (by rw [HC.out.1]; omega)
                rw [show beg.getD j 0 = el beg j from rfl] at hc1
                rw [show cnt.getD j 0 = el cnt j from rfl] at hc2
                have hfr := blk_frozen HG.out (j + 1)
                have hc3 := blk_num HG.out (j + 1) (by rw [HU.out.1]; omega)
                have hU' := Aside0.mk (isSum_step HU.out (m := m) (by rw [HSZ.out]; exact HC.out) (by rw [HSZ.out]; exact hm) hlt)
                have h1 := HU.out.2 j (by omega)
                have h2 := HC.out.2 j (by omega)
                rw [if_pos (by omega)] at h1
                have h3 := bV_le a0.data.toList j
                have h4 := cV_le a0.data.toList m (a0.size + 1) j
                have h5 := HSZ.out
                have hb1 : 0 ≤ el beg j ∧ el beg j ≤ 8192 := by omega
                have hb2 : 0 ≤ el cnt j ∧ el cnt j ≤ 8192 := by omega
                clear h1 h2 h3 h4 h5
                have HG' := Aside0.mk (blk_drew (blk_store HG.out (j + 1) (el beg j + el cnt j)))
                have HGC' := Aside0.mk (blk_drew (blk_far HGC.out (p := ⟨wd.heap.size, j + 1, none⟩) (by simp; omega) (.int .i64 (el beg j + el cnt j))))
                have HL' := Aside0.mk (Kd.R_drew (Kd.R_set HL.out HG.out (by intro q hq; simp [Kd.int, Kd.scalar] at hq; omega) (j + 1) (.int .i64 (el beg j + el cnt j))))
                have HB' : Aside0 (Below w.heap.size w (wr.setCell ⟨wd.heap.size, j + 1, none⟩ (.int .i64 (el beg j + el cnt j))).drew) := ⟨Below.drew (below_set HB.out HS2.out)⟩
                have hjn : (((j : Nat) : Int) + 1).toNat = j + 1 := by omega
                clear HU HG HGC HL HB
                go_wp2
                go_region
                go_wp2
                go_roundw
                case rel => exact ⟨j + 1, _, by omega, by go_num, hU', HG', HGC', HL', HB'⟩
                case measure => simp [intOf] <;> omega
              · obtain rfl : j = 256 := by omega
                have HI3 : Aside0 (IsBeg a0.data.toList m 0 beg) := ⟨isSum_beg HU.out⟩
                have HN0 : Aside0 (Kd.R (Kd.int .i64) 3 wr w.heap.size (fun _ => True) (.slice none 0 0) (leadL a0.data.toList m 0)) := ⟨Kd.R_nil _ _ _ _ _⟩
                obtain ⟨we, hwe⟩ : ∃ we : World, we = wr := ⟨_, rfl⟩
                subst hwe
                clear HU HGC HC
                rw [show (((256 : Nat) : Int) + 1) = 257 from rfl]
                go_wp2
                go_loopw [13, 14] (fun v13 v14 wr => ∃ (k : Nat) (bg : List Int), k ≤ a0.size + 1 ∧ v14 = .int .i64 k ∧ Aside0 (IsBeg a0.data.toList m k bg) ∧ Aside0 (wr.heap[wd.heap.size]? = some (.cells (nums .i64 bg).toArray 75 (0, 0))) ∧ Aside0 (Kd.R (Kd.int .i64) 3 wr w.heap.size (fun q => q = g6) (.slice (some ⟨g6, 0, none⟩) L.length c6) L) ∧ Aside0 (Kd.R (Kd.int .i64) 3 wr w.heap.size (fun q => q ≠ g6) v13 (leadL a0.data.toList m k)) ∧ Aside0 (Below w.heap.size w wr)) (fun _ v14 _ => a0.size + 1 - (intOf v14).toNat)
                case atStart => exact ⟨0, beg, by omega, rfl, HI3, HG, ⟨Kd.R_of_own (Kd.own_of_R HL.out) (fun q hq => by simp [Value.ownBlock] at hq; exact hq.symm)⟩, ⟨Kd.R_nil _ _ _ _ _⟩, HB⟩
                case round =>
                  obtain ⟨k, bg, hk, rfl, HI, HG', HL', HN, HB'⟩ := hrel
                  clear HI3 HN0 HG HL HB
                  by_cases hlt : k < a0.size + 1
                  · have hkI : ((k : Nat) : Int) < ((L.length : Nat) : Int) := by rw [HLN.out]; omega
                    obtain ⟨hx, hf⟩ := Kd.R_celln 0 HL'.out (k : Int) (by omega) hkI
                    rw [show rdOf 0 L (k : Int) = el L k from by simp [rdOf, el], HLE.out k hlt, Int.toNat_natCast] at hx
                    have hc257 := lastAt_lt a0.data.toList m k
                    have HI' := Aside0.mk (isBeg_step HI.out (by rw [HSZ.out]; exact hm) (by rw [HSZ.out]; omega))
                    have HBL := Aside0.mk HI.out.1
                    have hcell := blk_num HG'.out (lastAt a0.data.toList m k) (by rw [HI.out.1]; exact hc257)
                    have hld := isBeg_lead HI.out (by rw [HSZ.out]; exact hm) (by rw [HSZ.out]; omega)
                    rw [show bg.getD (lastAt a0.data.toList m k) 0 = el bg (lastAt a0.data.toList m k) from rfl, hld] at hcell
                    rw [hld] at HI'
                    have HLS : Aside0 (leadL a0.data.toList m k ++ [(lead a0.data.toList m k : Int)] = leadL a0.data.toList m (k + 1)) := ⟨(leadL_succ _ _ _).symm⟩
                    have hlb := lead_le a0.data.toList (m := m) (r := k) (by rw [HSZ.out]; omega) (by rw [HSZ.out]; exact hm)
                    rw [HSZ.out] at hlb
                    have HLL := Aside0.mk (leadL_len a0.data.toList m k)
                    have HLD := Aside0.mk (show bg.getD (lastAt a0.data.toList m k) 0 = (lead a0.data.toList m k : Int) from hld)
                    clear hld HI
                    have HROW := Aside0.mk (show u13.ownBlock ≠ some wd.heap.size from fun e => by
                      obtain ⟨cells, hc⟩ := own_typed (Kd.own_of_R HN.out) _ e
                      rw [HG'.out] at hc
                      simp at hc)
                    have HLT6 := Aside0.mk (show g6 < wr.heap.size from by
                      obtain ⟨_, _, e, _, h2, _⟩ := Kd.R_form HL'.out (by rw [HLN.out]; omega)
                      simp only [Value.slice.injEq, Option.some.injEq, Addr.mk.injEq] at e
                      omega)
                    have HLTd := Aside0.mk (blk_lt HG'.out)
                    generalize lead a0.data.toList m k = ld at *
                    generalize lastAt a0.data.toList m k = c at *
                    have hcI : ((c : Nat) : Int) < 257 := by omega
                    go_wp2_with (first | ((with_reducible refine gate_builtin (b := .append) (xs := #[.tmp 103, .tmp 107]) rfl ?_); at_builtin; refine Kd.R_append (Kd.int .i64) (w0 := w) w.heap.size rfl (.tmp 103) (.tmp 107) 22 3 (.int .i64 0) 8 rfl Try.underlying22 info3 rfl (by decide) (by omega) u13 (leadL a0.data.toList m k) (ld : Int) [.int .i64 (ld : Int)] (fun q => q ≠ g6) (fun _ => False) rfl rfl ?aP (fun _ hk => hk.elim) ?aF ?aO ?aB ?aS ?aL ?_; (case aP => exact rfl); (case aB => exact HB'.out); (case aF => exact (fun q hq => by have := HLT6.out; omega)); (case aO => exact HN.out); (case aS => exact HB'.out.size); (case aL => rw [HLL.out]; omega); intro v1 w1 ho1 hb1 hg1 hat1; have HN1 := Aside0.mk ho1; have HB1 := Aside0.mk hb1; have HG1 := Aside0.mk ((hg1.block wd.heap.size HLTd.out (fun e => HROW.out e.symm)).trans HG'.out); have HL1 := Aside0.mk (Kd.R_grown HL'.out hg1 (fun q hq e => HN.out.1 q e.symm hq)); clear ho1 hb1 hg1 hat1; have hcell1 := blk_num HG1.out c (by rw [HBL.out]; omega); rw [HLD.out] at hcell1; have hfr1 := blk_frozen HG1.out c))
                    have HG2 := Aside0.mk (blk_store HG1.out c ((ld : Int) + 1))
                    have HL2 := Aside0.mk (Kd.R_set HL1.out HG1.out (by intro q hq; simp [Kd.int, Kd.scalar] at hq; omega) c (.int .i64 ((ld : Int) + 1)))
                    have HN2 := Aside0.mk (Kd.R_set HN1.out HG1.out (by intro q hq; simp [Kd.int, Kd.scalar] at hq; omega) c (.int .i64 ((ld : Int) + 1)))
                    have HB2 : Aside0 (Below w.heap.size w (w1.setCell ⟨wd.heap.size, c, none⟩ (.int .i64 ((ld : Int) + 1)))) := ⟨below_set HB1.out HS2.out⟩
                    rw [HLS.out] at HN2
                    go_roundw
                    case rel => exact ⟨k + 1, _, by omega, by go_num, HI', HG2, HL2, HN2, HB2⟩
                    case measure => simp [intOf]; omega
                  · obtain rfl : k = a0.size + 1 := by omega
                    have hkI : ¬ ((a0.size : Nat) : Int) + 1 < ((L.length : Nat) : Int) := by rw [HLN.out]; omega
                    rw [show (((a0.size + 1 : Nat) : Nat) : Int) = ((a0.size : Nat) : Int) + 1 from by push_cast; rfl]
                    clear HI HG'
                    have hz1 : 0 ≤ ((a0.size : Nat) : Int) := by omega
                    have hz2 : ((a0.size : Nat) : Int).toNat * 1 ≤ 281474976710656 := by omega
                    have HLL := Aside0.mk (leadL_len a0.data.toList m (a0.size + 1))
                    go_wp2_with (first | ((with_reducible refine gate_dst (N := 117) rfl ?_); go_must (refine Kd.R_make (Kd.int .u8) _ 5 rfl (N := 117) rfl 66 _ _ rfl (a0.size : Int) rfl rfl Try.underlying66 (.int .u8 0) 1 info5 rfl (by decide) (by omega) 0 (ok := fun k => wr.heap.size ≤ k) (okp := fun k => wr.heap.size ≤ k) rfl (fun _ hk => hk) (Nat.le_refl _) hz1 hz2 (Below.refl _ _) (Nat.le_refl _) ?_); intro v3 w3 ho3 hb3 hg3_ hnew3_))
                    have HB3 := Aside0.mk (below_step HB'.out hb3)
                    have HL3 := Aside0.mk (Kd.R_below (Kd.R_mono (ok' := fun k => k < wr.heap.size) (Kd.R_bound HL'.out) (fun k hk => hk.2.2.1)) hb3)
                    have HN3 := Aside0.mk (Kd.R_below (Kd.R_mono (ok' := fun k => k < wr.heap.size) (Kd.R_bound HN.out) (fun k hk => hk.2.2.1)) hb3)
                    have HK3 := Aside0.mk (Kd.R_lower ho3 HB'.out.size)
                    have HM3 : Aside0 (IsMet a0.data.toList m a0.size (List.replicate ((a0.size : Nat) : Int).toNat 0)) := ⟨by
                      have h := isMet_zero a0.data.toList m ((a0.size : Nat) : Int).toNat (by rw [HSZ.out]; omega)
                      rwa [HSZ.out] at h⟩
                    have HWS := Aside0.mk HB'.out.size
                    clear ho3 hb3 hg3_ hnew3_ hz1 hz2 HB' HN HL'
                    obtain ⟨W, hW⟩ : ∃ W : World, W = wr := ⟨_, rfl⟩
                    subst hW
                    obtain ⟨vn, hvn⟩ : ∃ vn : Value, vn = u13 := ⟨_, rfl⟩
                    subst hvn
                    go_loopw [4, 5, 17, 18] (fun v4 v5 v17 v18 wx => ∃ (k : Nat) (out : List Int), k ≤ a0.size ∧ v4 = .string ⟨#[]⟩ ∧ v5 = .int .i64 0 ∧ v18 = .int .i64 ((k : Int) - 1) ∧ v17 = .int .i64 ((rowNo a0.data.toList m (a0.size - k) : Nat) : Int) ∧ Aside0 (∀ j, j < a0.size - k → rowNo a0.data.toList m j ≠ m) ∧ Aside0 (IsMet a0.data.toList m k out) ∧ Aside0 (Kd.R (Kd.int .i64) 3 wx w.heap.size (fun k => k < W.heap.size) (.slice (some ⟨g6, 0, none⟩) L.length c6) L) ∧ Aside0 (Kd.R (Kd.int .i64) 3 wx w.heap.size (fun k => k < W.heap.size) vn (leadL a0.data.toList m (a0.size + 1))) ∧ Aside0 (Kd.R (Kd.int .u8) 5 wx w.heap.size (fun k => W.heap.size ≤ k) v3 out) ∧ Aside0 (Below w.heap.size w wx)) (fun _ _ _ v18 _ => (intOf v18 + 1).toNat)
                    case atStart => exact ⟨a0.size, _, by omega, rfl, rfl, by rfl, by rw [Nat.sub_self]; rfl, ⟨fun j hj => by omega⟩, HM3, HL3, HN3, HK3, HB3⟩
                    case round =>
                      obtain ⟨k, out, hk, rfl, rfl, rfl, rfl, HN, HM, HL, HO, HK, HB⟩ := hrel
                      clear HL3 HN3 HK3 HM3 HB3
                      have hrl := rowNo_le a0.data.toList (m := m) (by rw [HSZ.out]; exact hm) (a0.size - k)
                      rw [HSZ.out] at hrl
                      rcases k with _ | k
                      · have hcvt := own_string (P := Try.prog) Try.underlying66 Try.underlying5 Try.underlying9 (Kd.own_of_R HK.out)
                        have HST := Aside0.mk (isMet_str HM.out)
                        rw [HST.out] at hcvt
                        have HNA : Aside0 (∀ j, j < a0.size → rowNo a0.data.toList m j ≠ m) := ⟨fun j hj => HN.out j (by omega)⟩
                        have HTC := Aside0.mk (fun W => silversideref07_Turn.calls kt ⟨(metL a0.data.toList m).toArray⟩ ut mt W HT.out)
                        clear HN HM HO HL HK
                        have hm18 : ((0 : Nat) : Int) - 1 < 0 := by omega
                        generalize (⟨(metL a0.data.toList m).toArray⟩ : ByteArray) = st at *
                        by_cases hu : ut = a0
                        · subst hu
                          have hub : (ut.toList != ut.toList) = false := by simp
                          by_cases hmt : mt = (m : Int)
                          · have HEE := Aside0.mk (HE.out.symm.trans (if_pos ⟨HNA.out, rfl, hmt⟩))
                            have hmb : (mt != (m : Int)) = false := by rw [hmt]; simp
                            clear HE hmt
                            go_wp2_with (first | (go_at_call 24; go_must (refine (HTC.out _).mono ?_); rintro e w9 ⟨rfl, hb9⟩; have HB9 := Aside0.mk (below_step HB.out hb9); clear hb9))
                            go_ret2
                            exact ⟨HEE.out.symm, HB9.out⟩
                          · have HEE := Aside0.mk (HE.out.symm.trans (if_neg (fun h => hmt h.2.2)))
                            have hmb : (mt != (m : Int)) = true := by rw [bne_iff_ne]; exact hmt
                            clear HE hmt
                            go_wp2_with (first | (go_at_call 24; go_must (refine (HTC.out _).mono ?_); rintro e w9 ⟨rfl, hb9⟩; have HB9 := Aside0.mk (below_step HB.out hb9); clear hb9))
                            go_ret2
                            exact ⟨HEE.out.symm, HB9.out⟩
                        · have HEE := Aside0.mk (HE.out.symm.trans (if_neg (fun h => hu h.2.1)))
                          have hub : ¬ ut.toList = a0.toList := by
                            intro q
                            rw [ByteArray.toList_eq, ByteArray.toList_eq] at q
                            exact hu (ByteArray.ext (Array.toList_inj.1 q))
                          clear HE hu
                          go_wp2_with (first | (go_at_call 24; go_must (refine (HTC.out _).mono ?_); rintro e w9 ⟨rfl, hb9⟩; have HB9 := Aside0.mk (below_step HB.out hb9); clear hb9))
                          all_goals (go_ret2; exact ⟨HEE.out.symm, HB9.out⟩)
                      · by_cases hrm : rowNo a0.data.toList m (a0.size - (k + 1)) = m
                        · have HEE := Aside0.mk (HE.out.symm.trans (if_neg (fun h => h.1 (a0.size - (k + 1)) (by omega) hrm)))
                          obtain ⟨hx, hf⟩ := Kd.R_celln 0 HL.out (m : Int) (by omega) (by rw [HLN.out]; omega)
                          rw [show rdOf 0 L (m : Int) = el L m from by simp [rdOf, el], HLE.out m (by omega), lastAt_mark] at hx
                          simp only [Int.toNat_natCast] at hx hf
                          have hmL : ((m : Nat) : Int) < ((L.length : Nat) : Int) := by rw [HLN.out]; omega
                          rw [hrm]
                          clear HM HN HO HE hrm hrl HL HK
                          go_wp2
                          go_ret2
                          exact ⟨HEE.out.symm, HB.out⟩
                        · have HN' : Aside0 (∀ j, j < a0.size - k → rowNo a0.data.toList m j ≠ m) := ⟨fun j hj => by
                            by_cases e : j = a0.size - (k + 1)
                            · rw [e]; exact hrm
                            · exact HN.out j (by omega)⟩
                          have hstep : rowNo a0.data.toList m (a0.size - k) = lead a0.data.toList m (rowNo a0.data.toList m (a0.size - (k + 1))) := by
                            rw [show a0.size - k = (a0.size - (k + 1)) + 1 by omega]; rfl
                          have hbl : bix (rowNo a0.data.toList m (a0.size - (k + 1))) m < a0.size := bix_lt hrl hm hrm
                          have hM' := isMet_step HM.out (by rw [HSZ.out]; omega)
                          rw [HSZ.out, show a0.size - 1 - k = a0.size - (k + 1) by omega] at hM'
                          have hldr := el_leadL a0.data.toList m (a0.size + 1) (rowNo a0.data.toList m (a0.size - (k + 1))) (by omega)
                          rw [← hstep] at hldr
                          have HST := Aside0.mk hstep
                          clear hstep
                          have hoL : out.length = a0.size := by rw [HM.out.1, HSZ.out]
                          have hlr := HLE.out (rowNo a0.data.toList m (a0.size - (k + 1))) (by omega)
                          rw [lastAt_ne _ hrm] at hlr
                          generalize rowNo a0.data.toList m (a0.size - (k + 1)) = r at *
                          obtain ⟨r', hr'⟩ : ∃ r', rowNo a0.data.toList m (a0.size - k) = r' := ⟨_, rfl⟩
                          rw [hr'] at hldr HST
                          have HR' := Aside0.mk hr'
                          clear hr'
                          generalize bix r m = j at *
                          rw [getD_at a0 j hbl] at hM' hlr
                          have hc8 : a0[j].toNat < 256 := a0[j].toNat_lt
                          have hjI : ((j : Nat) : Int) < ((a0.size : Nat) : Int) := by omega
                          generalize a0[j].toNat = c at *
                          obtain ⟨g, cp, rfl, hg1, hg2, cl, hgc⟩ := Kd.R_form HK.out (by omega)
                          obtain ⟨g4, cp4, rfl, hg41, hg42, cl4, hgc4⟩ := Kd.R_form HO.out (by rw [HLL.out]; omega)
                          obtain ⟨hx, hf⟩ := Kd.R_celln 0 HK.out (k : Int) (by omega) (by omega)
                          obtain ⟨hxL, hfL⟩ := Kd.R_celln 0 HL.out (r : Int) (by omega) (by rw [HLN.out]; omega)
                          rw [show rdOf 0 L (r : Int) = el L r from by simp [rdOf, el], hlr, Int.toNat_natCast] at hxL
                          have HP := Kd.R_putg HK.out (k : Int) ((c : Nat) : Int)
                          have HO' := Aside0.mk (Kd.R_far HO.out (p := ⟨g, k, none⟩) (fun q hq => by have h2 := HK.out.1 g rfl; simp; omega) (.int .u8 ((c : Nat) : Int)))
                          have HL' := Aside0.mk (Kd.R_far HL.out (p := ⟨g, k, none⟩) (fun q hq => by have h2 := HK.out.1 g rfl; simp; omega) (.int .u8 ((c : Nat) : Int)))
                          have HB' : Aside0 (Below w.heap.size w (wr.setCell ⟨g, k, none⟩ (.int .u8 ((c : Nat) : Int)))) := ⟨below_set HB.out hg1⟩
                          obtain ⟨hx4, hf4⟩ := Kd.R_celln 0 HO'.out (r : Int) (by omega) (by rw [HLL.out]; omega)
                          simp only [Int.toNat_natCast] at hx hf HP hx4 hf4
                          rw [show rdOf 0 (leadL a0.data.toList m (a0.size + 1)) (r : Int) = el (leadL a0.data.toList m (a0.size + 1)) r from by simp [rdOf, el], hldr] at hx4
                          have HP' := Aside0.mk HP.1
                          have HM' := Aside0.mk hM'
                          have hLI : ((r : Nat) : Int) < (((leadL a0.data.toList m (a0.size + 1)).length : Nat) : Int) := by rw [HLL.out]; omega
                          have hLI2 : ((r : Nat) : Int) < ((L.length : Nat) : Int) := by rw [HLN.out]; omega
                          have hkI : ((k : Nat) : Int) < ((out.length : Nat) : Int) := by omega
                          have hcI : ((c : Nat) : Int) < 256 := by omega
                          have hne0 : ¬ ((c : Nat) : Int) + 1 = 0 := by omega
                          clear HP hM' HM HN HO HK HB hgc hgc4 hldr hoL HL hlr
                          go_wp2
                          go_roundw
                          case rel =>
                            exact ⟨k, _, by omega, rfl, rfl, by go_num, by rw [HR'.out], HN', HM', HL', HO', HP', HB'⟩
                          case measure => simp [intOf] <;> omega
end Go.Proofs.Ytppelnlocfcgfaa.P
namespace Go.Proofs.Ytppelnlocfcgfaa.P
open Go.RowKit Go.Proofs.YtppelnlocfcgfaaW.PrintWords Go.Proofs.YtppelnlocfcgfaaW.PrintLast Go.Proofs.YtppelnlocfcgfaaW.PrintMore
open Go.Proofs.Fnd
set_option linter.unusedVariables false
set_option linter.unusedSimpArgs false
theorem lcp_left {s : List UInt8} {x y z l m : Nat} (hx : LtW (s.length + 1) (sq s x) (sq s y)) (hz : LtW (s.length + 1) (sq s y) (sq s z)) (h : IsLcp s x z l) (h' : IsLcp s x y m) : l ≤ m := by
  apply Decidable.byContradiction
  intro q
  have e1 := h.same m (by omega)
  have d1 := h'.diff
  obtain ⟨a, _, a2, a3⟩ := hx
  have ha : a = m := by
    rcases Nat.lt_trichotomy a m with c | c | c
    · have := h'.same a c; omega
    · exact c
    · exact absurd (a2 m c) d1
  subst ha
  obtain ⟨b, _, b2, b3⟩ := hz
  rcases Nat.lt_trichotomy b a with c | c | c
  · have e2 := h.same b (by omega)
    have e3 := h'.same b c
    omega
  · subst c; omega
  · have := b2 a c; omega
theorem lcp_up (s : List UInt8) {a c : Nat} (h : a < c) (hc : c < s.length) : lcp s ((sufOrd s).getD a 0) ((sufOrd s).getD c 0) ≤ (overL s).getD c 0 := by
  rw [overL_at s c hc, if_neg (by omega)]
  by_cases e : a = c - 1
  · subst e; exact Nat.le_refl _
  · have la := ord_lt s a (by omega)
    have lb := ord_lt s (c - 1) (by omega)
    have lc := ord_lt s c hc
    have ne1 : (sufOrd s).getD a 0 ≠ (sufOrd s).getD c 0 := fun q => by have := ord_inj s (by omega) hc q; omega
    have ne2 : (sufOrd s).getD (c - 1) 0 ≠ (sufOrd s).getD c 0 := fun q => by have := ord_inj s (by omega) hc q; omega
    exact lcp_between (fun q => (ord_up s (a := a) (b := c - 1) (by omega) (by omega)).asymm q) (ord_up s (by omega) hc) (lcp_is s _ _ (by omega) (by omega) ne1) (lcp_is s _ _ (by omega) (by omega) ne2)
theorem lcp_dn (s : List UInt8) {a c : Nat} (h : a < c) (hc : c < s.length) : lcp s ((sufOrd s).getD a 0) ((sufOrd s).getD c 0) ≤ (overL s).getD (a + 1) 0 := by
  rw [overL_at s (a + 1) (by omega), if_neg (by omega), Nat.add_sub_cancel]
  by_cases e : c = a + 1
  · subst e; exact Nat.le_refl _
  · have la := ord_lt s a (by omega)
    have lb := ord_lt s (a + 1) (by omega)
    have lc := ord_lt s c hc
    have ne1 : (sufOrd s).getD a 0 ≠ (sufOrd s).getD c 0 := fun q => by have := ord_inj s (by omega) hc q; omega
    have ne2 : (sufOrd s).getD a 0 ≠ (sufOrd s).getD (a + 1) 0 := fun q => by have := ord_inj s (by omega) (by omega) q; omega
    exact lcp_left (ord_up s (by omega) (by omega)) (ord_up s (by omega) hc) (lcp_is s _ _ (by omega) (by omega) ne1) (lcp_is s _ _ (by omega) (by omega) ne2)
/-- the longest that a place shares with another -/
def mxO (s : List UInt8) (i : Nat) : Nat := max ((overL s).getD (rank s i) 0) ((overL s).getD (rank s i + 1) 0)
theorem overL_len (s : List UInt8) : (overL s).length = s.length := by rw [overL, List.length_map, List.length_range]
theorem mxO_most (s : List UInt8) {i j : Nat} (hi : i < s.length) (hj : j < s.length) (h : i ≠ j) : lcp s i j ≤ mxO s i := by
  have ri := rank_lt s i hi
  have rj := rank_lt s j hj
  have ei := ord_rank s i hi
  have ej := ord_rank s j hj
  unfold mxO
  rcases Nat.lt_trichotomy (rank s i) (rank s j) with c | c | c
  · have := lcp_dn s c rj
    rw [ei, ej] at this
    omega
  · rw [c, ej] at ei; exact absurd ei.symm h
  · have := lcp_up s c ri
    rw [ei, ej, lcp_symm s j i (by omega) (by omega) (fun e => h e.symm)] at this
    omega
theorem mxO_some (s : List UInt8) {i : Nat} (hi : i < s.length) : mxO s i = 0 ∨ ∃ j, j < s.length ∧ j ≠ i ∧ lcp s i j = mxO s i := by
  have ri := rank_lt s i hi
  have ei := ord_rank s i hi
  by_cases h0 : mxO s i = 0
  · exact .inl h0
  · refine .inr ?_
    unfold mxO at h0 ⊢
    by_cases h1 : (overL s).getD (rank s i + 1) 0 ≤ (overL s).getD (rank s i) 0
    · have hr : rank s i ≠ 0 := fun e => by
        rw [e] at h1 h0
        rw [overL_at s 0 (by omega), if_pos rfl] at h1 h0
        omega
      refine ⟨(sufOrd s).getD (rank s i - 1) 0, ord_lt s _ (by omega), fun e => ?_, ?_⟩
      · have := ord_inj s (a := rank s i - 1) (b := rank s i) (by omega) ri (by rw [e, ei]); omega
      · have h2 := overL_at s (rank s i) ri
        rw [if_neg hr, ei] at h2
        rw [lcp_symm s i _ (by omega) (by have := ord_lt s (rank s i - 1) (by omega); omega) (fun e => by have := ord_inj s (a := rank s i - 1) (b := rank s i) (by omega) ri (by rw [← e, ei]); omega), ← h2]
        omega
    · have hr : rank s i + 1 < s.length := by
        apply Decidable.byContradiction
        intro q
        have : (overL s).getD (rank s i + 1) 0 = 0 := by rw [List.getD_eq_getElem?_getD, List.getElem?_eq_none (by rw [overL_len]; omega)]; rfl
        omega
      refine ⟨(sufOrd s).getD (rank s i + 1) 0, ord_lt s _ (by omega), fun e => ?_, ?_⟩
      · have := ord_inj s (a := rank s i + 1) (b := rank s i) (by omega) ri (by rw [e, ei]); omega
      · have h2 := overL_at s (rank s i + 1) hr
        rw [if_neg (by omega), Nat.add_sub_cancel, ei] at h2
        rw [← h2]
        omega
theorem mxO_in (s : List UInt8) {i : Nat} (hi : i < s.length) : i + mxO s i ≤ s.length := by
  rcases mxO_some s hi with h | ⟨j, hj, hne, h⟩
  · omega
  · have := (lcp_is s i j (by omega) (by omega) (fun e => hne e.symm)).inside (by omega) (by omega) (fun e => hne e.symm)
    omega
/-- what Shortest answers -/
def shortA (t : ByteArray) (a : Int) : Int × Int :=
  if a < 0 ∨ (t.size : Int) ≤ a then (0, 2) else if t.size ≤ a.toNat + mxO t.data.toList a.toNat then (0, 6) else ((mxO t.data.toList a.toNat : Int) + 1, 0)
theorem mx_nat (a b : Nat) : mx (a : Int) (b : Int) = ((max a b : Nat) : Int) := by unfold mx; split <;> omega
theorem index_l0 (t : ByteArray) (ht : t.size ≤ 4096) (i : Nat) (hi : i < t.size) : ∀ (d k : Nat), k + d = rank t.data.toList i → Ev (fun K => slices_Index_int_int.l0 K (ordI t) (i : Int) (t.size : Int) (k : Int)) (rank t.data.toList i : Int) := by
  have hl := data_length t
  have h4 := ordI_length t
  have hr := rank_lt t.data.toList i (by omega)
  intro d
  induction d with
  | zero =>
    intro k hk
    have hv := rd_ordI t k (by omega)
    refine Ev.step (f := fun _ => some (rank t.data.toList i : Int)) (fun K => ?_) (Ev.now _)
    conv => lhs; unfold slices_Index_int_int.l0
    rw [if_pos (by omega), if_pos (by omega), if_pos (by omega), hv, if_pos]
    · congr 1; omega
    · rw [show k = rank t.data.toList i by omega, ord_rank _ _ (by omega)]
  | succ d ih =>
    intro k hk
    have hv := rd_ordI t k (by omega)
    refine Ev.step (fun K => ?_) (ih (k + 1) (by omega))
    conv => lhs; unfold slices_Index_int_int.l0
    rw [if_pos (by omega), if_pos (by omega), if_pos (by omega), hv, if_neg, w64 (by omega) (by omega)]
    · rfl
    · intro e
      have := rank_ord t.data.toList k (by omega)
      rw [show (sufOrd t.data.toList).getD k 0 = i by omega] at this
      omega
theorem index_ev (t : ByteArray) (ht : t.size ≤ 4096) (i : Nat) (hi : i < t.size) : Ev (fun K => slices_Index_int_int.f K (ordI t) (i : Int)) (rank t.data.toList i : Int) := by
  refine Ev.congr (fun K => ?_) (index_l0 t ht i hi (rank t.data.toList i) 0 (by omega))
  unfold slices_Index_int_int.f
  rw [ordI_length]; rfl
theorem shortest_in (t : ByteArray) (ht : t.size ≤ 4096) (i : Nat) (hi : i < t.size) : Ev (fun K => find_Index_Shortest.j0 K (i : Int) false t (ordI t) (overI t)) (if t.size ≤ i + mxO t.data.toList i then ((0, 6) : Int × Int) else ((mxO t.data.toList i : Int) + 1, 0)) := by
  have hl := data_length t
  have h4 := ordI_length t
  have h5 := overI_length t
  have hr := rank_lt t.data.toList i (by omega)
  have hin := mxO_in t.data.toList (i := i) (by omega)
  have hv := rd_overI t (rank t.data.toList i) (by omega)
  refine Ev.step (fun K => by rw [find_Index_Shortest.j0, if_neg (by simp)]) ?_
  refine Ev.bind (index_ev t ht i hi) ?_
  rw [if_pos (by omega), if_pos (by omega), w64 (x := (rank t.data.toList i : Int) + 1) (by omega) (by omega)]
  have e2 : ((rank t.data.toList i : Nat) : Int) + 1 = ((rank t.data.toList i + 1 : Nat) : Int) := by omega
  by_cases h1 : rank t.data.toList i + 1 < t.size
  · have hv2 := rd_overI t (rank t.data.toList i + 1) h1
    rw [e2, if_pos (by omega), if_pos (by omega), if_pos (by omega), hv, hv2, mx_nat]
    unfold mxO at hin ⊢
    rw [w64 (x := (i : Int) + _) (by omega) (by omega), w64 (by omega) (by omega)]
    by_cases h : t.size ≤ i + max ((overL t.data.toList).getD (rank t.data.toList i) 0) ((overL t.data.toList).getD (rank t.data.toList i + 1) 0)
    · rw [if_pos h, if_pos (by omega)]; exact Ev.now _
    · rw [if_neg h, if_neg (by omega)]; exact Ev.now _
  · have hz : (overL t.data.toList).getD (rank t.data.toList i + 1) 0 = 0 := by rw [List.getD_eq_getElem?_getD, List.getElem?_eq_none (by rw [overL_len]; omega)]; rfl
    rw [e2, if_neg (by omega), hv]
    unfold mxO at hin ⊢
    rw [hz, Nat.max_zero] at hin ⊢
    rw [w64 (x := (i : Int) + _) (by omega) (by omega), w64 (by omega) (by omega)]
    by_cases h : t.size ≤ i + (overL t.data.toList).getD (rank t.data.toList i) 0
    · rw [if_pos h, if_pos (by omega)]; exact Ev.now _
    · rw [if_neg h, if_neg (by omega)]; exact Ev.now _
theorem shortest_ev (t : ByteArray) (ht : t.size ≤ 4096) (a : Int) : Ev (fun K => find_Index_Shortest.f K t (ordI t) (overI t) a) (shortA t a) := by
  unfold find_Index_Shortest.f shortA
  by_cases h1 : a < 0
  · rw [if_pos (.inl h1)]
    refine ev_pos h1 ?_
    refine Ev.step (f := fun _ => some _) (fun K => ?_) (Ev.now _)
    rw [find_Index_Shortest.j0, if_pos rfl]
  · refine ev_neg h1 ?_
    by_cases h2 : (t.size : Int) ≤ a
    · rw [if_pos (.inr h2), decide_eq_true h2]
      refine Ev.step (f := fun _ => some _) (fun K => ?_) (Ev.now _)
      rw [find_Index_Shortest.j0, if_pos rfl]
    · rw [if_neg (by omega), decide_eq_false h2]
      obtain ⟨i, rfl⟩ : ∃ i : Nat, a = (i : Int) := ⟨a.toNat, by omega⟩
      rw [Int.toNat_natCast]
      exact shortest_in t ht i (by omega)
/-- the most that a place shares with the first places -/
structure Most (t : ByteArray) (i k m : Nat) : Prop where
  le : ∀ j, j < k → j ≠ i → lcp t.data.toList i j ≤ m
  is : m = 0 ∨ ∃ j, j < k ∧ j ≠ i ∧ lcp t.data.toList i j = m
theorem Most.all {t : ByteArray} {i m : Nat} (hi : i < t.size) (h : Most t i t.size m) : m = mxO t.data.toList i := by
  have hl := data_length t
  have h1 : m ≤ mxO t.data.toList i := by
    rcases h.is with h | ⟨j, hj, hne, h⟩
    · omega
    · rw [← h]; exact mxO_most _ (by omega) (by omega) (fun e => hne e.symm)
  have h2 : mxO t.data.toList i ≤ m := by
    rcases mxO_some t.data.toList (i := i) (by omega) with h3 | ⟨j, hj, hne, h3⟩
    · omega
    · rw [← h3]; exact h.le j (by omega) hne
  omega
theorem cpl_at (t : ByteArray) {i j : Nat} (hi : i < t.size) (hj : j < t.size) (h : i ≠ j) : cpl (t.data.toList.drop i) (t.data.toList.drop j) = lcp t.data.toList i j := by
  have hl := data_length t
  exact cpl_lcp (lcp_is t.data.toList i j (by omega) (by omega) h)
theorem refshort_l0 (t : ByteArray) (ht : t.size ≤ 4096) (i : Nat) (hi : i < t.size) : ∀ (d k m : Nat), k + d = t.size → Most t i k m → Ev (fun K => silversideref07_Shortest.l0 K t (i : Int) (m : Int) (k : Int)) (if t.size ≤ i + mxO t.data.toList i then ((0, 6) : Int × Int) else ((mxO t.data.toList i : Int) + 1, 0)) := by
  have hl := data_length t
  have hin := mxO_in t.data.toList (i := i) (by omega)
  intro d
  induction d with
  | zero =>
    intro k m hk hm
    obtain rfl : k = t.size := by omega
    have e := hm.all hi
    subst e
    refine Ev.step (f := fun _ => some _) (fun K => ?_) (Ev.now _)
    conv => lhs; unfold silversideref07_Shortest.l0
    rw [if_neg (by omega), w64 (x := (i : Int) + _) (by omega) (by omega), w64 (by omega) (by omega)]
    by_cases h : t.size ≤ i + mxO t.data.toList i
    · rw [if_pos h, if_pos (by omega)]
    · rw [if_neg h, if_neg (by omega)]
  | succ d ih =>
    intro k m hk hm
    by_cases e : k = i
    · subst e
      have h := ih (k + 1) m (by omega) ⟨fun j hj hne => hm.le j (by omega) hne, by
        rcases hm.is with h | ⟨j, hj, hne, h⟩
        · exact .inl h
        · exact .inr ⟨j, by omega, hne, h⟩⟩
      refine Ev.step (fun K => ?_) h
      conv => lhs; unfold silversideref07_Shortest.l0
      rw [if_pos (by omega), if_pos rfl, w64 (by omega) (by omega)]
      rfl
    · have hc := common_ev t t (by omega) (by omega) i k (by omega) (by omega)
      rw [cpl_at t hi (by omega) (fun q => e q.symm)] at hc
      have h := ih (k + 1) (max m (lcp t.data.toList i k)) (by omega) ⟨fun j hj hne => by
        by_cases e2 : j = k
        · subst e2; omega
        · have := hm.le j (by omega) hne; omega, by
        by_cases e2 : m ≤ lcp t.data.toList i k
        · exact .inr ⟨k, by omega, e, by omega⟩
        · rcases hm.is with h | ⟨j, hj, hne, h⟩
          · omega
          · exact .inr ⟨j, by omega, hne, by omega⟩⟩
      rw [← mx_nat] at h
      refine Ev.step (fun K => ?_) (Ev.bind hc h (f := fun K x => silversideref07_Shortest.l0 K t (i : Int) (mx (m : Int) x) ((k + 1 : Nat) : Int)))
      conv => lhs; unfold silversideref07_Shortest.l0
      rw [if_pos (by omega), if_neg (by omega), w64 (by omega) (by omega)]
      rfl
theorem refshort_ev (t : ByteArray) (ht : t.size ≤ 4096) (a : Int) : Ev (fun K => silversideref07_Shortest.f K t a) (shortA t a) := by
  unfold silversideref07_Shortest.f shortA
  by_cases h1 : a < 0
  · rw [if_pos (.inl h1)]
    refine ev_pos h1 ?_
    refine Ev.step (f := fun _ => some _) (fun K => ?_) (Ev.now _)
    rw [silversideref07_Shortest.j0, if_pos rfl]
  · refine ev_neg h1 ?_
    by_cases h2 : (t.size : Int) ≤ a
    · rw [if_pos (.inr h2), decide_eq_true h2]
      refine Ev.step (f := fun _ => some _) (fun K => ?_) (Ev.now _)
      rw [silversideref07_Shortest.j0, if_pos rfl]
    · rw [if_neg (by omega), decide_eq_false h2]
      obtain ⟨i, rfl⟩ : ∃ i : Nat, a = (i : Int) := ⟨a.toNat, by omega⟩
      rw [Int.toNat_natCast]
      refine Ev.step (fun K => ?_) (refshort_l0 t ht i (by omega) t.size 0 0 (by omega) ⟨fun j hj => by omega, .inl rfl⟩)
      rw [silversideref07_Shortest.j0, if_neg (by simp)]
      rfl
end Go.Proofs.Ytppelnlocfcgfaa.P
namespace Go.Proofs.Ytppelnlocfcgfaa.P
open Go.RowKit Go.Proofs.YtppelnlocfcgfaaW.PrintWords Go.Proofs.YtppelnlocfcgfaaW.PrintLast Go.Proofs.YtppelnlocfcgfaaW.PrintMore
open Go.Proofs.Fnd
set_option linter.unusedVariables false
set_option linter.unusedSimpArgs false
theorem inc_ge {f : Nat → Nat} {n : Nat} (h : ∀ i j, i < j → j < n → f i < f j) : ∀ k, k < n → k ≤ f k
  | 0, _ => Nat.zero_le _
  | k + 1, hk => by have := inc_ge h k (by omega); have := h k (k + 1) (by omega) hk; omega
theorem inc_le {f : Nat → Nat} {n : Nat} (h : ∀ i j, i < j → j < n → f i < f j) (hb : ∀ k, k < n → f k < n) : ∀ d k, k + d + 1 = n → f k ≤ k
  | 0, k, hk => by have := hb k (by omega); omega
  | d + 1, k, hk => by have := inc_le h hb d (k + 1) (by omega); have := h k (k + 1) (by omega) (by omega); omega
theorem inc_id {f : Nat → Nat} {n : Nat} (h : ∀ i j, i < j → j < n → f i < f j) (hb : ∀ k, k < n → f k < n) (k : Nat) (hk : k < n) : f k = k := by
  have := inc_ge h k hk
  have := inc_le h hb (n - 1 - k) k (by omega)
  omega
/-- the stable order of a text's places -/
theorem less_mono (s : List UInt8) {c d : Nat} (h : c ≤ d) : less s c ≤ less s d := by
  unfold less
  refine List.countP_mono_left fun x _ hx => ?_
  simp at hx ⊢; omega
theorem less_occ (s : List UInt8) {c d : Nat} (h : c < d) : less s c + occ s s.length c ≤ less s d := by
  have h1 := less_mono s (show c + 1 ≤ d from h)
  rw [less_succ] at h1
  exact h1
theorem pos_up (s : List UInt8) {i j : Nat} (hi : i < s.length) (hj : j < s.length) (h : (s[i]).toNat < (s[j]).toNat ∨ (s[i]).toNat = (s[j]).toNat ∧ i < j) : pos s i < pos s j := by
  rw [pos_eq s i hi, pos_eq s j hj]
  rcases h with h | ⟨h, hij⟩
  · have h1 := less_occ s h
    have h2 := occ_succ s i (s[i]).toNat hi
    have h3 := occ_mono s (s[i]).toNat (show i + 1 ≤ s.length from hi) (Nat.le_refl _)
    simp at h2
    omega
  · rw [h]
    have h2 := occ_succ s i (s[j]).toNat hi
    rw [if_pos h] at h2
    have h3 := occ_mono s (s[j]).toNat (show i + 1 ≤ j from hij) (by omega)
    omega
theorem bix_up {r q m : Nat} (hr : r ≠ m) (hq : q ≠ m) (h : r < q) : bix r m < bix q m := by
  unfold bix; split <;> split <;> omega
/-- where the rotation that begins at a place stands -/
structure Rows (T v : List UInt8) (m : Nat) (ρ : Nat → Nat) : Prop where
  len : T.length = v.length
  le : ∀ i, i ≤ v.length → ρ i ≤ v.length
  inj : ∀ i j, i ≤ v.length → j ≤ v.length → ρ i = ρ j → i = j
  last : ρ v.length = 0
  first : ρ 0 = m
  at_ : ∀ i, i < v.length → T.getD (bix (ρ (i + 1)) m) 0 = v.getD i 0
/-- the step of the order -/
theorem suf_step (v : List UInt8) {i j : Nat} (hi : i < v.length) (hj : j < v.length) (h : LtW (v.length + 1) (sq v i) (sq v j)) : (v.getD i 0).toNat < (v.getD j 0).toNat ∨ (v.getD i 0).toNat = (v.getD j 0).toNat ∧ LtW (v.length + 1) (sq v (i + 1)) (sq v (j + 1)) := by
  have ci : sq v i 0 = (v.getD i 0).toNat + 1 := by rw [sq, Nat.add_zero, ch_lt v i hi, List.getD_eq_getElem?_getD, List.getElem?_eq_getElem hi]; rfl
  have cj : sq v j 0 = (v.getD j 0).toNat + 1 := by rw [sq, Nat.add_zero, ch_lt v j hj, List.getD_eq_getElem?_getD, List.getElem?_eq_getElem hj]; rfl
  obtain ⟨q, h1, h2, h3⟩ := h
  rcases q with _ | q
  · left; omega
  · right
    have h0 := h2 0 (by omega)
    refine ⟨by omega, q, by omega, fun t ht => ?_, ?_⟩
    · have := h2 (t + 1) (by omega)
      unfold sq at this ⊢
      rw [show i + 1 + t = i + (t + 1) by omega, show j + 1 + t = j + (t + 1) by omega]; exact this
    · unfold sq at h3 ⊢
      rw [show i + 1 + q = i + (q + 1) by omega, show j + 1 + q = j + (q + 1) by omega]; exact h3
theorem suf_end (v : List UInt8) {j : Nat} (hj : j < v.length) : LtW (v.length + 1) (sq v v.length) (sq v j) :=
  ⟨0, by omega, fun t ht => by omega, by unfold sq; rw [Nat.add_zero, Nat.add_zero, ch_ge v v.length (Nat.le_refl _), ch_lt v j hj]; omega⟩
theorem rank_zero_mark (s : List UInt8) (h : 0 < s.length) : ∀ k, k ≤ s.length → markN (sufOrd s) k = if rank s 0 < k then rank s 0 + 1 else 0 := by
  intro k
  induction k with
  | zero => intro _; rw [if_neg (by omega)]; rfl
  | succ k ih =>
    intro hk
    have ih := ih (by omega)
    by_cases e : (sufOrd s).getD k 0 = 0
    · rw [markN_hit e]
      have := rank_ord s k (by omega)
      rw [e] at this
      rw [if_pos (by omega), this]
    · rw [markN_miss e, ih]
      have : k ≠ rank s 0 := fun q => e (by rw [q]; exact ord_rank s 0 h)
      by_cases c : rank s 0 < k
      · rw [if_pos c, if_pos (by omega)]
      · rw [if_neg c, if_neg (by omega)]
theorem bmark_eq (s : List UInt8) (h : 0 < s.length) : bmark s = rank s 0 + 1 := by
  rw [bmark, rank_zero_mark s h _ (Nat.le_refl _), if_pos (rank_lt s 0 h)]
/-- the row of the rotation that begins at i -/
def rho (s : List UInt8) (i : Nat) : Nat := if i < s.length then rank s i + 1 else 0
theorem accN_at (s : List UInt8) (h : 0 < s.length) : ∀ k, k ≤ s.length → (accN s (sufOrd s) k).length = bix (k + 1) (bmark s) ∧ ∀ r, r ≤ k → r ≠ bmark s → (accN s (sufOrd s) k).getD (bix r (bmark s)) 0 = if r = 0 then s.getD (s.length - 1) 0 else s.getD ((sufOrd s).getD (r - 1) 0 - 1) 0 := by
  have hm := bmark_eq s h
  intro k
  induction k with
  | zero =>
    intro _
    refine ⟨by unfold bix; rw [if_neg (by omega)]; rfl, fun r hr hne => ?_⟩
    obtain rfl : r = 0 := by omega
    rw [bix_zero, if_pos rfl]; rfl
  | succ k ih =>
    intro hk
    obtain ⟨h1, h2⟩ := ih (by omega)
    by_cases e : (sufOrd s).getD k 0 = 0
    · have hr := rank_ord s k (by omega)
      rw [e] at hr
      have hmk : k + 1 = bmark s := by omega
      rw [accN_skip e]
      refine ⟨by rw [h1, hmk, bix_mark, bix_self], fun r hr hne => h2 r (by omega) hne⟩
    · have hne : k + 1 ≠ bmark s := fun q => e (by rw [show k = rank s 0 by omega]; exact ord_rank s 0 h)
      rw [accN_take e]
      refine ⟨by rw [List.length_append, h1, bix_next hne]; rfl, fun r hr hner => ?_⟩
      by_cases c : r = k + 1
      · subst c
        rw [List.getD_eq_getElem?_getD, List.getElem?_append_right (by omega), h1, Nat.sub_self, if_neg (by omega)]
        rfl
      · have hlt : bix r (bmark s) < bix (k + 1) (bmark s) := bix_up hner hne (by omega)
        rw [List.getD_eq_getElem?_getD, List.getElem?_append_left (by omega), ← List.getD_eq_getElem?_getD]
        exact h2 r (by omega) hner
theorem rho_inj (s : List UInt8) {i j : Nat} (hi : i ≤ s.length) (hj : j ≤ s.length) (h : rho s i = rho s j) : i = j := by
  unfold rho at h
  by_cases c : i < s.length
  · rw [if_pos c] at h
    by_cases d : j < s.length
    · rw [if_pos d] at h
      have e1 := ord_rank s i c
      have e2 := ord_rank s j d
      rw [show rank s i = rank s j by omega, e2] at e1
      exact e1.symm
    · rw [if_neg d] at h; omega
  · rw [if_neg c] at h
    by_cases d : j < s.length
    · rw [if_pos d] at h; omega
    · omega
/-- the turned text's rows -/
theorem turn_rows (s : List UInt8) (h : 0 < s.length) : Rows (bwt s) s (bmark s) (rho s) := by
  have hm := bmark_eq s h
  have hr := rank_lt s 0 h
  obtain ⟨h1, h2⟩ := accN_at s h s.length (Nat.le_refl _)
  refine ⟨by rw [bwt, h1, bix_end (by omega)], fun i hi => ?_, fun i j hi hj e => rho_inj s hi hj e, ?_, ?_, fun i hi => ?_⟩
  · unfold rho; split
    · have := rank_lt s i (by assumption); omega
    · omega
  · unfold rho; rw [if_neg (by omega)]
  · unfold rho; rw [if_pos h, hm]
  · have hle : rho s (i + 1) ≤ s.length := by
      unfold rho; split
      · have := rank_lt s (i + 1) (by assumption); omega
      · omega
    have hne : rho s (i + 1) ≠ bmark s := fun e => by
      have := rho_inj s (i := i + 1) (j := 0) (by omega) (by omega) (by rw [e, hm]; unfold rho; rw [if_pos h])
      omega
    have := h2 (rho s (i + 1)) hle hne
    rw [bwt, this]
    unfold rho at hne ⊢
    by_cases c : i + 1 < s.length
    · rw [if_pos c] at hne ⊢
      rw [if_neg (by omega), Nat.add_sub_cancel, ord_rank s _ c, Nat.add_sub_cancel]
    · rw [if_neg c, if_pos rfl, show s.length - 1 = i by omega]
theorem rho_up (s : List UInt8) {i j : Nat} (hi : i ≤ s.length) (hj : j ≤ s.length) (h : LtW (s.length + 1) (sq s i) (sq s j)) : rho s i < rho s j := by
  unfold rho
  by_cases c : i < s.length
  · rw [if_pos c]
    by_cases d : j < s.length
    · rw [if_pos d]; have := rank_up s c d h; omega
    · obtain rfl : j = s.length := by omega
      exact (h.asymm (suf_end s c)).elim
  · rw [if_neg c]
    by_cases d : j < s.length
    · rw [if_pos d]; omega
    · obtain rfl : i = s.length := by omega
      obtain rfl : j = s.length := by omega
      exact h.irrefl.elim
/-- the way back steps from each row to the row before -/
theorem lead_turn (s : List UInt8) {i : Nat} (hi : i < s.length) : lead (bwt s) (bmark s) (rho s (i + 1)) = rho s i := by
  have h0 : 0 < s.length := by omega
  have hR := turn_rows s h0
  have hne : ∀ i, i < s.length → rho s (i + 1) ≠ bmark s := fun i hi e => by
    have := hR.inj (i + 1) 0 (by omega) (by omega) (by rw [e, hR.first]); omega
  have hb : ∀ i, i < s.length → bix (rho s (i + 1)) (bmark s) < (bwt s).length := fun i hi => bix_lt (by rw [hR.len]; exact hR.le _ (by omega)) (by rw [hR.len, ← hR.first]; exact hR.le 0 (by omega)) (hne i hi)
  have key : ∀ k, k < s.length → pos (bwt s) (bix (rho s ((sufOrd s).getD k 0 + 1)) (bmark s)) = k := by
    refine inc_id (f := fun k => pos (bwt s) (bix (rho s ((sufOrd s).getD k 0 + 1)) (bmark s))) (fun a b hab hbn => ?_) (fun k hk => ?_)
    · have la := ord_lt s a (by omega)
      have lb := ord_lt s b hbn
      have hup := ord_up s hab hbn
      refine pos_up _ (hb _ la) (hb _ lb) ?_
      have ea := hR.at_ _ la
      have eb := hR.at_ _ lb
      rw [List.getD_eq_getElem?_getD, List.getElem?_eq_getElem (hb _ la), Option.getD_some] at ea
      rw [List.getD_eq_getElem?_getD, List.getElem?_eq_getElem (hb _ lb), Option.getD_some] at eb
      rw [ea, eb]
      rcases suf_step s la lb hup with q | ⟨q, q2⟩
      · exact .inl q
      · exact .inr ⟨q, bix_up (hne _ la) (hne _ lb) (rho_up s (by omega) (by omega) q2)⟩
    · have := pos_lt (bwt s) _ (hb _ (ord_lt s k hk))
      rwa [hR.len] at this
  have := key (rank s i) (rank_lt s i hi)
  rw [ord_rank s i hi] at this
  rw [lead, if_neg (hne i hi), this]
  unfold rho
  rw [if_pos hi]; omega
theorem rows_turn (s : List UInt8) (h : 0 < s.length) : ∀ j, j ≤ s.length → rowNo (bwt s) (bmark s) j = rho s (s.length - j)
  | 0, _ => by unfold rho; rw [Nat.sub_zero, if_neg (by omega)]; rfl
  | j + 1, hj => by
    rw [rowNo, rows_turn s h j (by omega), show s.length - j = s.length - (j + 1) + 1 by omega]
    exact lead_turn s (by omega)
/-- the turned text leads back to the text -/
theorem back_turn (s : List UInt8) (h : 0 < s.length) : (bwt s).length = s.length ∧ bmark s ≤ s.length ∧ (∀ j, j < s.length → rowNo (bwt s) (bmark s) j ≠ bmark s) ∧ rowNo (bwt s) (bmark s) s.length = bmark s ∧ metL (bwt s) (bmark s) = s := by
  have hR := turn_rows s h
  refine ⟨hR.len, by rw [← hR.first]; exact hR.le 0 (by omega), fun j hj e => ?_, ?_, ?_⟩
  · rw [rows_turn s h j (by omega)] at e
    have := hR.inj (s.length - j) 0 (by omega) (by omega) (by rw [e, hR.first]); omega
  · rw [rows_turn s h _ (Nat.le_refl _), Nat.sub_self, hR.first]
  · unfold metL
    rw [hR.len]
    refine List.ext_getElem (by simp) fun i h1 h2 => ?_
    simp only [List.getElem_map, List.getElem_range]
    rw [rows_turn s h _ (by omega), show s.length - (s.length - 1 - i) = i + 1 by omega, hR.at_ i h2, List.getD_eq_getElem?_getD, List.getElem?_eq_getElem h2]; rfl
/-- what leads back is the turned text of what it leads back to -/
theorem turn_back (T : List UInt8) (m : Nat) (hm : m ≤ T.length) (h : 0 < T.length) (hn : ∀ j, j < T.length → rowNo T m j ≠ m) (he : rowNo T m T.length = m) : bwt (metL T m) = T ∧ bmark (metL T m) = m := by
  have hvl : (metL T m).length = T.length := by simp [metL]
  have hvat : ∀ i, i < T.length → T.getD (bix (rowNo T m (T.length - (i + 1))) m) 0 = (metL T m).getD i 0 := fun i hi => by
    rw [List.getD_eq_getElem?_getD (l := metL T m), metL, List.getElem?_map, List.getElem?_range hi]
    simp only [Option.map_some, Option.getD_some]
    rw [show T.length - 1 - i = T.length - (i + 1) by omega]
  generalize metL T m = v at *
  -- the rows are met once each
  have hle : ∀ j, rowNo T m j ≤ T.length := fun j => rowNo_le T hm j
  have hb : ∀ j, j < T.length → bix (rowNo T m j) m < T.length := fun j hj => bix_lt (hle j) hm (hn j hj)
  have hpos : ∀ j, j < T.length → rowNo T m (j + 1) = 1 + pos T (bix (rowNo T m j) m) := fun j hj => by rw [rowNo, lead, if_neg (hn j hj)]
  -- the order of the rows is the suffixes' order
  have hord : ∀ d i j, i ≤ T.length → j ≤ T.length → (T.length - i) + (T.length - j) ≤ d → LtW (v.length + 1) (sq v i) (sq v j) → rowNo T m (T.length - i) < rowNo T m (T.length - j) := by
    intro d
    induction d with
    | zero =>
      intro i j hi hj hd hlt
      obtain rfl : i = T.length := by omega
      obtain rfl : j = T.length := by omega
      exact hlt.irrefl.elim
    | succ d ih =>
      intro i j hi hj hd hlt
      by_cases ci : i < T.length
      · by_cases cj : j < T.length
        · rw [show T.length - i = T.length - (i + 1) + 1 by omega, show T.length - j = T.length - (j + 1) + 1 by omega, hpos _ (by omega), hpos _ (by omega)]
          have bi := hb (T.length - (i + 1)) (by omega)
          have bj := hb (T.length - (j + 1)) (by omega)
          have ei := hvat i ci
          have ej := hvat j cj
          rw [List.getD_eq_getElem?_getD, List.getElem?_eq_getElem bi, Option.getD_some] at ei
          rw [List.getD_eq_getElem?_getD, List.getElem?_eq_getElem bj, Option.getD_some] at ej
          have : pos T (bix (rowNo T m (T.length - (i + 1))) m) < pos T (bix (rowNo T m (T.length - (j + 1))) m) := by
            refine pos_up T bi bj ?_
            rw [ei, ej]
            rcases suf_step v (by omega) (by omega) hlt with q | ⟨q, q2⟩
            · exact .inl q
            · exact .inr ⟨q, bix_up (hn _ (by omega)) (hn _ (by omega)) (ih (i + 1) (j + 1) (by omega) (by omega) (by omega) q2)⟩
          omega
        · obtain rfl : j = T.length := by omega
          rw [← hvl] at hlt
          exact (hlt.asymm (suf_end v (by omega))).elim
      · obtain rfl : i = T.length := by omega
        by_cases cj : j < T.length
        · rw [Nat.sub_self, show T.length - j = T.length - (j + 1) + 1 by omega, hpos _ (by omega)]
          show 0 < _
          omega
        · obtain rfl : j = T.length := by omega
          exact hlt.irrefl.elim
  have hk : ∀ k, k < T.length → rowNo T m (T.length - (sufOrd v).getD k 0) = k + 1 := by
    have hid := inc_id (f := fun k => rowNo T m (T.length - (sufOrd v).getD k 0) - 1) (n := T.length) (fun a b hab hbn => ?_) (fun k hk => ?_)
    · intro k hk
      have l := ord_lt v k (by omega)
      have := hid k hk
      have h2 := hpos (T.length - ((sufOrd v).getD k 0 + 1)) (by omega)
      rw [show T.length - ((sufOrd v).getD k 0 + 1) + 1 = T.length - (sufOrd v).getD k 0 by omega] at h2
      have h3 : rowNo T m (T.length - (sufOrd v).getD k 0) - 1 = k := this
      omega
    · have la := ord_lt v a (by omega)
      have lb := ord_lt v b (by omega)
      have := hord _ _ _ (by omega) (by omega) (Nat.le_refl _) (ord_up v hab (by omega))
      have h2 := hpos (T.length - ((sufOrd v).getD a 0 + 1)) (by omega)
      rw [show T.length - ((sufOrd v).getD a 0 + 1) + 1 = T.length - (sufOrd v).getD a 0 by omega] at h2
      show rowNo T m (T.length - (sufOrd v).getD a 0) - 1 < rowNo T m (T.length - (sufOrd v).getD b 0) - 1
      omega
    · have := hle (T.length - (sufOrd v).getD k 0)
      show rowNo T m (T.length - (sufOrd v).getD k 0) - 1 < T.length
      omega
  have hm0 : 0 < m := by
    have := hn 0 h
    have e : rowNo T m 0 = 0 := rfl
    omega
  have hz : ∀ k, k < T.length → ((sufOrd v).getD k 0 = 0 ↔ k + 1 = m) := fun k hkn => by
    constructor
    · intro e
      have := hk k hkn
      rw [e, Nat.sub_zero, he] at this
      omega
    · intro e
      apply Decidable.byContradiction
      intro q
      have l := ord_lt v k (by omega)
      exact hn (T.length - (sufOrd v).getD k 0) (by omega) (by rw [hk k hkn, e])
  have hacc : ∀ k, k ≤ T.length → accN v (sufOrd v) k = T.take (bix (k + 1) m) ∧ markN (sufOrd v) k = if m ≤ k then m else 0 := by
    intro k
    induction k with
    | zero =>
      intro _
      refine ⟨?_, by rw [if_neg (by omega)]; rfl⟩
      have e := hvat (T.length - 1) (by omega)
      rw [show T.length - (T.length - 1 + 1) = 0 by omega, show rowNo T m 0 = 0 from rfl, bix_zero] at e
      rw [accN, hvl, ← e, show bix (0 + 1) m = 1 by unfold bix; split <;> omega]
      rw [List.take_succ_eq_append_getElem h, List.take_zero, List.nil_append, List.getD_eq_getElem?_getD, List.getElem?_eq_getElem h]; rfl
    | succ k ih =>
      intro hkn
      obtain ⟨h1, h2⟩ := ih (by omega)
      by_cases e : (sufOrd v).getD k 0 = 0
      · have hkm := (hz k (by omega)).1 e
        rw [accN_skip e, markN_hit e, h1]
        refine ⟨by rw [hkm, bix_self, bix_mark], by rw [if_pos (by omega), hkm]⟩
      · have hkm : k + 1 ≠ m := fun q => e ((hz k (by omega)).2 q)
        have l := ord_lt v k (by omega)
        rw [accN_take e, markN_miss e, h1, h2, bix_next hkm]
        refine ⟨?_, ?_⟩
        · have ev := hvat ((sufOrd v).getD k 0 - 1) (by omega)
          rw [show T.length - ((sufOrd v).getD k 0 - 1 + 1) = T.length - (sufOrd v).getD k 0 by omega, hk k (by omega)] at ev
          have hbl : bix (k + 1) m < T.length := bix_lt (by omega) hm hkm
          rw [List.take_succ_eq_append_getElem hbl, ← ev, List.getD_eq_getElem?_getD, List.getElem?_eq_getElem hbl]; rfl
        · by_cases c : m ≤ k
          · rw [if_pos c, if_pos (by omega)]
          · rw [if_neg c, if_neg (by omega)]
  obtain ⟨h1, h2⟩ := hacc T.length (Nat.le_refl _)
  refine ⟨?_, ?_⟩
  · rw [bwt, hvl, h1, bix_end hm, List.take_of_length_le (Nat.le_refl _)]
  · rw [bmark, hvl, h2, if_pos hm]
end Go.Proofs.Ytppelnlocfcgfaa.P
namespace Go.Proofs.Ytppelnlocfcgfaa.P
open Go.RowKit Go.Proofs.YtppelnlocfcgfaaW.PrintWords Go.Proofs.YtppelnlocfcgfaaW.PrintLast Go.Proofs.YtppelnlocfcgfaaW.PrintMore
open Go.Proofs.Fnd
set_option linter.unusedVariables false
set_option linter.unusedSimpArgs false
/-- what the reference's Restore answers -/
def silversideref07_Restore.f (a0 : ByteArray) (a1 : Int) : Option (ByteArray × Int) :=
  some (if 4096 < a0.size ∨ a1 < 0 ∨ (a0.size : Int) < a1 then ((⟨#[]⟩ : ByteArray), 2)
    else if (∀ j, j < a0.size → rowNo a0.data.toList a1.toNat j ≠ a1.toNat) ∧ (turnA ⟨(metL a0.data.toList a1.toNat).toArray⟩).1 = a0 ∧ (turnA ⟨(metL a0.data.toList a1.toNat).toArray⟩).2 = (a1.toNat : Int) then ((⟨(metL a0.data.toList a1.toNat).toArray⟩ : ByteArray), 0)
    else ((⟨#[]⟩ : ByteArray), 70))
theorem metL_length (s : List UInt8) (m : Nat) : (metL s m).length = s.length := by simp [metL]
set_option maxHeartbeats 2000000 in
set_option maxRecDepth 100000 in
theorem refrestore_arg_calls (a0 : ByteArray) (a1 : Int) (h : 4096 < a0.size ∨ a1 < 0 ∨ (a0.size : Int) < a1) (w : World) :
    Calls Try.prog 26 #[.string a0, .int .i64 a1] w fun e w' => e = .returned (.tuple #[.string (⟨#[]⟩ : ByteArray), .int .i64 2]) ∧ Below w.heap.size w w' := by
  have HB := Aside0.mk (Below.refl w.heap.size w)
  by_cases h1 : 4096 < a0.size
  · have h1I : (4096 : Int) < (a0.size : Int) := by omega
    go_enter Try.func26, Try.ntmps26
    go_wp2
    go_ret2
    refine ⟨rfl, ?_⟩
    repeat (first | (with_reducible first | exact HB.out | apply below_alloc | apply pw_below_drewN | apply below_drew1) | exact HB.out)
  · have h1I : ¬ (4096 : Int) < (a0.size : Int) := by omega
    by_cases h2 : a1 < 0
    · go_enter Try.func26, Try.ntmps26
      go_wp2
      go_ret2
      refine ⟨rfl, ?_⟩
      repeat (first | (with_reducible first | exact HB.out | apply below_alloc | apply pw_below_drewN | apply below_drew1) | exact HB.out)
    · have h3 : (a0.size : Int) < a1 := by omega
      go_enter Try.func26, Try.ntmps26
      go_wp2
      go_ret2
      refine ⟨rfl, ?_⟩
      repeat (first | (with_reducible first | exact HB.out | apply below_alloc | apply pw_below_drewN | apply below_drew1) | exact HB.out)
theorem silversideref07_Restore.calls (a0 : ByteArray) (a1 : Int) (r1 : ByteArray) (r2 : Int) (w : World) (h : silversideref07_Restore.f a0 a1 = some (r1, r2)) :
    Calls Try.prog 26 #[.string a0, .int .i64 a1] w fun e w' => e = .returned (.tuple #[.string r1, .int .i64 r2]) ∧ Below w.heap.size w w' := by
  rw [silversideref07_Restore.f, Option.some.injEq] at h
  by_cases h1 : 4096 < a0.size ∨ a1 < 0 ∨ (a0.size : Int) < a1
  · rw [if_pos h1] at h
    obtain ⟨rfl, rfl⟩ := h
    exact refrestore_arg_calls a0 a1 h1 w
  · rw [if_neg h1] at h
    obtain ⟨m, rfl⟩ : ∃ m : Nat, a1 = (m : Int) := ⟨a1.toNat, by omega⟩
    rw [Int.toNat_natCast] at h
    have hl : (⟨(metL a0.data.toList m).toArray⟩ : ByteArray).size = a0.size := by
      rw [← data_length, ← data_length a0]; simp [metL_length]
    obtain ⟨kt, hkt⟩ := Ev.rounds (refturn_ev ⟨(metL a0.data.toList m).toArray⟩ (by omega))
    have h2 := refrestore_calls kt a0 m (by omega) (by omega) (turnA ⟨(metL a0.data.toList m).toArray⟩).1 (turnA ⟨(metL a0.data.toList m).toArray⟩).2 (by rw [hkt]; rfl) w
    refine h2.mono ?_
    rintro e w' ⟨rfl, hb⟩
    refine ⟨?_, hb⟩
    split at h <;> (rename_i hc; obtain ⟨rfl, rfl⟩ := h)
    · rw [if_pos hc]
    · rw [if_neg hc]
/-- both answer alike -/
theorem restore_same (a0 : ByteArray) (a1 : Int) : find_Restore.f a0 a1 = silversideref07_Restore.f a0 a1 := by
  unfold find_Restore.f silversideref07_Restore.f
  by_cases h1 : 4096 < a0.size ∨ a1 < 0 ∨ (a0.size : Int) < a1
  · rw [if_pos h1, if_pos h1]
  · rw [if_neg h1, if_neg h1]
    obtain ⟨m, rfl⟩ : ∃ m : Nat, a1 = (m : Int) := ⟨a1.toNat, by omega⟩
    rw [Int.toNat_natCast]
    have hsz : a0.data.toList.length = a0.size := data_length a0
    have hml := metL_length a0.data.toList m
    have hl : (⟨(metL a0.data.toList m).toArray⟩ : ByteArray).size = a0.size := by
      rw [← data_length, ← data_length a0]; simp [metL_length]
    have key : ((∀ j, j < a0.size → rowNo a0.data.toList m j ≠ m) ∧ rowNo a0.data.toList m a0.size = m) ↔ ((∀ j, j < a0.size → rowNo a0.data.toList m j ≠ m) ∧ (turnA ⟨(metL a0.data.toList m).toArray⟩).1 = a0 ∧ (turnA ⟨(metL a0.data.toList m).toArray⟩).2 = (m : Int)) := by
      by_cases hz : a0.size = 0
      · have hm : m = 0 := by omega
        subst hm
        unfold turnA
        rw [if_pos (by rw [hl]; exact hz)]
        have e0 : (⟨#[]⟩ : ByteArray) = a0 := by
          refine ByteArray.ext (Array.toList_inj.1 ?_)
          exact (List.eq_nil_of_length_eq_zero (by rw [hsz]; exact hz)).symm
        rw [hz]
        exact ⟨fun h => ⟨h.1, e0, rfl⟩, fun h => ⟨h.1, rfl⟩⟩
      · have ht : turnA ⟨(metL a0.data.toList m).toArray⟩ = ((⟨(bwt (metL a0.data.toList m)).toArray⟩ : ByteArray), (bmark (metL a0.data.toList m) : Int)) := by
          unfold turnA
          rw [if_neg (by rw [hl]; exact hz)]
        rw [ht]
        constructor
        · rintro ⟨ha, hb⟩
          obtain ⟨h3, h4⟩ := turn_back a0.data.toList m (by omega) (by omega) (by rw [hsz]; exact ha) (by rw [hsz]; exact hb)
          refine ⟨ha, ?_, by rw [h4]⟩
          rw [h3]
        · rintro ⟨ha, hb, hc⟩
          refine ⟨ha, ?_⟩
          have hb' : bwt (metL a0.data.toList m) = a0.data.toList := by
            have := congrArg (fun z : ByteArray => z.data.toList) hb
            simpa using this
          have hc' : bmark (metL a0.data.toList m) = m := by
            have : ((bmark (metL a0.data.toList m) : Nat) : Int) = ((m : Nat) : Int) := hc
            omega
          have h5 := (back_turn (metL a0.data.toList m) (by omega)).2.2.2.1
          rw [hb', hc', hml, hsz] at h5
          exact h5
    by_cases hA : (∀ j, j < a0.size → rowNo a0.data.toList m j ≠ m) ∧ rowNo a0.data.toList m a0.size = m
    · rw [if_pos hA, if_pos (key.1 hA)]
    · rw [if_neg hA, if_neg (fun h => hA (key.2 h))]
end Go.Proofs.Ytppelnlocfcgfaa.P
namespace Go.Proofs.Ytppelnlocfcgfaa.P
open Go.RowKit Go.Proofs.YtppelnlocfcgfaaW.PrintWords Go.Proofs.YtppelnlocfcgfaaW.PrintLast Go.Proofs.YtppelnlocfcgfaaW.PrintMore
attribute [local go_sem] max2_int min2_int max_two min_two max_three min_three max_four min_four   -- for this text's walks alone
set_option linter.unusedVariables false
set_option linter.unusedSimpArgs false

/-! ### silversidelaw07_FindRestores: function 5 -/
def silversidelaw07_FindRestores.f (k : Nat) (a0 : ByteArray) (a1 : Int) : Option (Bool) := (silversidelaw07_short.f a0 300).bind fun t212 => ((find_Restore.f t212 a1).bind fun bt213 => ((silversideref07_Restore.f t212 a1).bind fun bt215 => (if bt213.1.toList = bt215.1.toList then (if bt213.2 = bt215.2 then ((silversidelaw07_awake.f k).bind fun t217 => (some t217)) else (some false)) else (some false))))
theorem silversidelaw07_FindRestores.mono : ∀ a0 a1 k, LeO (silversidelaw07_FindRestores.f k a0 a1) (silversidelaw07_FindRestores.f (k + 1) a0 a1) := by
 intro a0 a1 k
 unfold silversidelaw07_FindRestores.f
 repeat' first
   | (with_reducible exact silversidelaw07_awake.mono _)
   | (with_reducible exact LeO.refl _)
   | (with_reducible exact LeO.none _)
   | (with_reducible refine LeO.ite ?_ ?_)
   | (with_reducible refine LeO.bind ?_ (fun _ => ?_))
   | exact silversidelaw07_awake.mono _
   | exact LeO.none _
   | refine LeO.ite ?_ ?_
   | refine LeO.bind ?_ (fun _ => ?_)
set_option maxHeartbeats 8000000 in
set_option maxRecDepth 100000 in
theorem silversidelaw07_FindRestores.calls (k : Nat) (a0 : ByteArray) (a1 : Int) (r : Bool) (w : World) (h : silversidelaw07_FindRestores.f k a0 a1 = some r) :
  Calls Try.prog 5 #[.string a0, .int .i64 a1] w fun e w' => e = .returned (.bool r) ∧ Below w.heap.size w w' := by
 have HB := Aside0.mk (Below.refl w.heap.size w)
 have H : ((silversidelaw07_short.f a0 300).bind fun t212 => ((find_Restore.f t212 a1).bind fun bt213 => ((silversideref07_Restore.f t212 a1).bind fun bt215 => (if bt213.1.toList = bt215.1.toList then (if bt213.2 = bt215.2 then ((silversidelaw07_awake.f k).bind fun t217 => (some t217)) else (some false)) else (some false))))) = some r := h
 clear h
 replace H := Option.bind_eq_some_iff.mp H
 obtain ⟨t212, A30, H⟩ := H
 replace H : ((find_Restore.f t212 a1).bind fun bt213 => ((silversideref07_Restore.f t212 a1).bind fun bt215 => (if bt213.1.toList = bt215.1.toList then (if bt213.2 = bt215.2 then ((silversidelaw07_awake.f k).bind fun t217 => (some t217)) else (some false)) else (some false)))) = some r := H
 have A3 := Aside0.mk A30
 clear A30
 replace H := Option.bind_eq_some_iff.mp H
 obtain ⟨⟨t213, t214⟩, A40, H⟩ := H
 replace H : ((silversideref07_Restore.f t212 a1).bind fun bt215 => (if t213.toList = bt215.1.toList then (if t214 = bt215.2 then ((silversidelaw07_awake.f k).bind fun t217 => (some t217)) else (some false)) else (some false))) = some r := H
 have A4 := Aside0.mk A40
 clear A40
 replace H := Option.bind_eq_some_iff.mp H
 obtain ⟨⟨t215, t216⟩, A50, H⟩ := H
 replace H : (if t213.toList = t215.toList then (if t214 = t216 then ((silversidelaw07_awake.f k).bind fun t217 => (some t217)) else (some false)) else (some false)) = some r := H
 have A5 := Aside0.mk A50
 clear A50
 by_cases c6 : t213.toList = t215.toList
 ·rw [if_pos c6] at H
  have c6b0 : (t213.toList == t215.toList) = true := beq_iff_eq.mpr c6
  have c6b1 : (t213.toList != t215.toList) = false := bne_eq_false_iff_eq.mpr c6
  clear c6
  by_cases c7 : t214 = t216
  ·rw [if_pos c7] at H
   have c7b0 : (t214 == t216) = true := beq_iff_eq.mpr c7
   have c7b1 : (t214 != t216) = false := bne_eq_false_iff_eq.mpr c7
   clear c7
   replace H := Option.bind_eq_some_iff.mp H
   obtain ⟨t217, A80, H⟩ := H
   replace H : (some t217) = some r := H
   have A8 := Aside0.mk A80
   clear A80
   obtain rfl := Option.some.inj H
   go_enter Try.func5, Try.ntmps5
   go_wp2_with (first | ((with_reducible refine gate_callee (f := 22) rfl ?_); refine goesL_ (some 10) rfl rfl Try.func22 (by kernel_rfl) rfl #[.string a0, .int .i64 300] rfl (by (try simp only [List.map_toArray, List.map_cons, List.map_nil]); first | done | rfl | (simp only [List.length_drop, List.length_take]; rfl)) ?_; (with_reducible refine (silversidelaw07_short.calls a0 300 t212 _ A3.out).mono ?_); rintro e w9 ⟨rfl, hb⟩; refine ⟨_, rfl, ?_⟩; have n0_ := Aside0.mk (below_step (by repeat (first | (with_reducible first | exact HB.out | apply below_alloc | apply pw_below_drewN | apply below_drew1) | exact HB.out)) hb); clear HB; have HB := n0_; clear n0_; (try clear hb); (try clear hb2); (try clear hk); (try clear hi)) | ((with_reducible refine gate_callee (f := 25) rfl ?_); refine goesL_ (some 14) rfl rfl Try.func25 (by kernel_rfl) rfl #[.string t212, .int .i64 a1] rfl (by (try simp only [List.map_toArray, List.map_cons, List.map_nil]); first | done | rfl | (simp only [List.length_drop, List.length_take]; rfl)) ?_; (with_reducible refine (find_Restore.calls t212 a1 t213 t214 _ A4.out).mono ?_); rintro e w10 ⟨rfl, hb⟩; refine ⟨_, rfl, ?_⟩; have n0_ := Aside0.mk (below_step (by repeat (first | (with_reducible first | exact HB.out | apply below_alloc | apply pw_below_drewN | apply below_drew1) | exact HB.out)) hb); clear HB; have HB := n0_; clear n0_; (try clear hb); (try clear hb2); (try clear hk); (try clear hi)) | ((with_reducible refine gate_callee (f := 26) rfl ?_); refine goesL_ (some 20) rfl rfl Try.func26 (by kernel_rfl) rfl #[.string t212, .int .i64 a1] rfl (by (try simp only [List.map_toArray, List.map_cons, List.map_nil]); first | done | rfl | (simp only [List.length_drop, List.length_take]; rfl)) ?_; (with_reducible refine (silversideref07_Restore.calls t212 a1 t215 t216 _ A5.out).mono ?_); rintro e w11 ⟨rfl, hb⟩; refine ⟨_, rfl, ?_⟩; have n0_ := Aside0.mk (below_step (by repeat (first | (with_reducible first | exact HB.out | apply below_alloc | apply pw_below_drewN | apply below_drew1) | exact HB.out)) hb); clear HB; have HB := n0_; clear n0_; (try clear hb); (try clear hb2); (try clear hk); (try clear hi)) | (go_at_call 21; (with_reducible refine (silversidelaw07_awake.calls k  t217 _ A8.out).mono ?_); rintro e w12 ⟨rfl, hb⟩; have n0_ := Aside0.mk (below_step (by repeat (first | (with_reducible first | exact HB.out | apply below_alloc | apply pw_below_drewN | apply below_drew1) | exact HB.out)) hb); clear HB; have HB := n0_; clear n0_; (try clear hb); (try clear hb2); (try clear hk); (try clear hi)))
   go_ret
   exact ⟨by first | rfl | (simp [errW_none, errW_some] <;> rfl) | (simp [*, errW_none, errW_some] <;> rfl), by repeat (first | (with_reducible first | exact HB.out | apply below_alloc | apply pw_below_drewN | apply below_drew1) | exact HB.out)⟩
  ·rw [if_neg c7] at H
   have c7b0 : (t214 == t216) = false := beq_eq_false_iff_ne.mpr c7
   have c7b1 : (t214 != t216) = true := bne_iff_ne.mpr c7
   obtain rfl := Option.some.inj H
   go_enter Try.func5, Try.ntmps5
   go_wp2_with (first | ((with_reducible refine gate_callee (f := 22) rfl ?_); refine goesL_ (some 10) rfl rfl Try.func22 (by kernel_rfl) rfl #[.string a0, .int .i64 300] rfl (by (try simp only [List.map_toArray, List.map_cons, List.map_nil]); first | done | rfl | (simp only [List.length_drop, List.length_take]; rfl)) ?_; (with_reducible refine (silversidelaw07_short.calls a0 300 t212 _ A3.out).mono ?_); rintro e w13 ⟨rfl, hb⟩; refine ⟨_, rfl, ?_⟩; have n0_ := Aside0.mk (below_step (by repeat (first | (with_reducible first | exact HB.out | apply below_alloc | apply pw_below_drewN | apply below_drew1) | exact HB.out)) hb); clear HB; have HB := n0_; clear n0_; (try clear hb); (try clear hb2); (try clear hk); (try clear hi)) | ((with_reducible refine gate_callee (f := 25) rfl ?_); refine goesL_ (some 14) rfl rfl Try.func25 (by kernel_rfl) rfl #[.string t212, .int .i64 a1] rfl (by (try simp only [List.map_toArray, List.map_cons, List.map_nil]); first | done | rfl | (simp only [List.length_drop, List.length_take]; rfl)) ?_; (with_reducible refine (find_Restore.calls t212 a1 t213 t214 _ A4.out).mono ?_); rintro e w14 ⟨rfl, hb⟩; refine ⟨_, rfl, ?_⟩; have n0_ := Aside0.mk (below_step (by repeat (first | (with_reducible first | exact HB.out | apply below_alloc | apply pw_below_drewN | apply below_drew1) | exact HB.out)) hb); clear HB; have HB := n0_; clear n0_; (try clear hb); (try clear hb2); (try clear hk); (try clear hi)) | ((with_reducible refine gate_callee (f := 26) rfl ?_); refine goesL_ (some 20) rfl rfl Try.func26 (by kernel_rfl) rfl #[.string t212, .int .i64 a1] rfl (by (try simp only [List.map_toArray, List.map_cons, List.map_nil]); first | done | rfl | (simp only [List.length_drop, List.length_take]; rfl)) ?_; (with_reducible refine (silversideref07_Restore.calls t212 a1 t215 t216 _ A5.out).mono ?_); rintro e w15 ⟨rfl, hb⟩; refine ⟨_, rfl, ?_⟩; have n0_ := Aside0.mk (below_step (by repeat (first | (with_reducible first | exact HB.out | apply below_alloc | apply pw_below_drewN | apply below_drew1) | exact HB.out)) hb); clear HB; have HB := n0_; clear n0_; (try clear hb); (try clear hb2); (try clear hk); (try clear hi)))
   go_ret
   exact ⟨by first | rfl | (simp [errW_none, errW_some] <;> rfl) | (simp [*, errW_none, errW_some] <;> rfl), by repeat (first | (with_reducible first | exact HB.out | apply below_alloc | apply pw_below_drewN | apply below_drew1) | exact HB.out)⟩
 ·rw [if_neg c6] at H
  have c6b0 : (t213.toList == t215.toList) = false := beq_eq_false_iff_ne.mpr c6
  have c6b1 : (t213.toList != t215.toList) = true := bne_iff_ne.mpr c6
  obtain rfl := Option.some.inj H
  go_enter Try.func5, Try.ntmps5
  go_wp2_with (first | ((with_reducible refine gate_callee (f := 22) rfl ?_); refine goesL_ (some 10) rfl rfl Try.func22 (by kernel_rfl) rfl #[.string a0, .int .i64 300] rfl (by (try simp only [List.map_toArray, List.map_cons, List.map_nil]); first | done | rfl | (simp only [List.length_drop, List.length_take]; rfl)) ?_; (with_reducible refine (silversidelaw07_short.calls a0 300 t212 _ A3.out).mono ?_); rintro e w16 ⟨rfl, hb⟩; refine ⟨_, rfl, ?_⟩; have n0_ := Aside0.mk (below_step (by repeat (first | (with_reducible first | exact HB.out | apply below_alloc | apply pw_below_drewN | apply below_drew1) | exact HB.out)) hb); clear HB; have HB := n0_; clear n0_; (try clear hb); (try clear hb2); (try clear hk); (try clear hi)) | ((with_reducible refine gate_callee (f := 25) rfl ?_); refine goesL_ (some 14) rfl rfl Try.func25 (by kernel_rfl) rfl #[.string t212, .int .i64 a1] rfl (by (try simp only [List.map_toArray, List.map_cons, List.map_nil]); first | done | rfl | (simp only [List.length_drop, List.length_take]; rfl)) ?_; (with_reducible refine (find_Restore.calls t212 a1 t213 t214 _ A4.out).mono ?_); rintro e w17 ⟨rfl, hb⟩; refine ⟨_, rfl, ?_⟩; have n0_ := Aside0.mk (below_step (by repeat (first | (with_reducible first | exact HB.out | apply below_alloc | apply pw_below_drewN | apply below_drew1) | exact HB.out)) hb); clear HB; have HB := n0_; clear n0_; (try clear hb); (try clear hb2); (try clear hk); (try clear hi)) | ((with_reducible refine gate_callee (f := 26) rfl ?_); refine goesL_ (some 20) rfl rfl Try.func26 (by kernel_rfl) rfl #[.string t212, .int .i64 a1] rfl (by (try simp only [List.map_toArray, List.map_cons, List.map_nil]); first | done | rfl | (simp only [List.length_drop, List.length_take]; rfl)) ?_; (with_reducible refine (silversideref07_Restore.calls t212 a1 t215 t216 _ A5.out).mono ?_); rintro e w18 ⟨rfl, hb⟩; refine ⟨_, rfl, ?_⟩; have n0_ := Aside0.mk (below_step (by repeat (first | (with_reducible first | exact HB.out | apply below_alloc | apply pw_below_drewN | apply below_drew1) | exact HB.out)) hb); clear HB; have HB := n0_; clear n0_; (try clear hb); (try clear hb2); (try clear hk); (try clear hi)))
  go_ret
  exact ⟨by first | rfl | (simp [errW_none, errW_some] <;> rfl) | (simp [*, errW_none, errW_some] <;> rfl), by repeat (first | (with_reducible first | exact HB.out | apply below_alloc | apply pw_below_drewN | apply below_drew1) | exact HB.out)⟩

/-- THE ONE PURE STATEMENT of silversidelaw07_FindRestores: yours. -/
def silversidelaw07_FindRestores.Pure : Prop := ∀ (a0 : ByteArray) (a1 : Int), a0.size ≤ 140737488351232 → (Lit.int .i64 a1).wf = true → ∃ k, silversidelaw07_FindRestores.f k a0 a1 = some true
theorem silversidelaw07_FindRestores.walk (P : silversidelaw07_FindRestores.Pure) (a0 : ByteArray) (a1 : Int) (w : World) (w0 : a0.size ≤ 140737488351232) (w1 : (Lit.int .i64 a1).wf = true) :
  Calls Try.prog 5 #[.string a0, .int .i64 a1] w fun e w' => e = .returned (.bool true) ∧ Below w.heap.size w w' := by
 obtain ⟨k, h⟩ := P a0 a1 w0 w1
 refine (silversidelaw07_FindRestores.calls k a0 a1 true w h).mono ?_
 rintro e w' ⟨rfl, hd⟩
 exact ⟨rfl, hd⟩

end Go.Proofs.Ytppelnlocfcgfaa.P
namespace Go.Proofs.Ytppelnlocfcgfaa.Pure
open Go.RowKit Go.Proofs.Ytppelnlocfcgfaa.P Go.Proofs.YtppelnlocfcgfaaW.PrintWords Go.Proofs.YtppelnlocfcgfaaW.PrintLast
open Go.Proofs.Fnd
theorem FindRestores : silversidelaw07_FindRestores.Pure := by
  intro a0 a1 _ _
  obtain ⟨t, hs, hts⟩ := short_is a0 300 (by omega)
  refine Ev.rounds ?_
  unfold silversidelaw07_FindRestores.f
  rw [show ((300 : Nat) : Int) = 300 from rfl] at hs
  simp only [hs, Option.bind_some]
  rw [restore_same]
  obtain ⟨⟨u, f⟩, hu⟩ : ∃ r, silversideref07_Restore.f t a1 = some r := ⟨_, rfl⟩
  rw [hu]
  simp only [Option.bind_some]
  exact ev_pos (by trivial) (ev_pos (by trivial) (Ev.bind awake_ev (Ev.now _)))
end Go.Proofs.Ytppelnlocfcgfaa.Pure
